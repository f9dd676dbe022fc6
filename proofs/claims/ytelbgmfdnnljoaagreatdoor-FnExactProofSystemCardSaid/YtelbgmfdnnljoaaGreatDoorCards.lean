/-
  DERIVED. GIVEN WITH THE SEED: THE CARDS: each row of YtelbgmfdnnljoaaGreatDoorRows.lean that lists a variable, with what it lists TIED to the program's text (the seventh form; the later family's looks); each row that meets fmt, with fmt's text TOLD by the authors' own Lean function (tested against real Go, not proved from fmt's source: count such statements apart). THE CARD IS WHAT COUNTS. Prove the row's statement (the work); the ties are given (YtelbgmfdnnljoaaGreatDoorTie.lean); close each card by the builder's one call (the guide's Derived/Test/ToyasCard.lean, 'card_holds'). Laid BY PROGRAM, IN A SANDBOX (cutbox-door.mjs). By AI agents, Wed Nov 11 2026. No macro, syntax, notation, axiom, sorry.
-/
import Derived.Test.YtelbgmfdnnljoaaGreatDoorRows
import GoSem.ClaimSeven
namespace Go.Proofs.YtelbgmfdnnljoaaGreatDoor
namespace Rows

/-- THE TIED CARD OF 'laws.FnExactProofSystem'. -/
def fnExactProofSystemCard : Claim7 := { stood := { row := fnExactProofSystemRow, standIns := [], harness := (true, "1b9d6b71b056626e3bebd6678f87c397a46822aa6fa73b57b9ca78b6340899a0"), looks := false }, kinds := [], alts := [], laidByText := true, laidKinds := [.data, .data, .data], laidTests := true, laidLooks := .later }
def FnExactProofSystemCardSaid : Prop := Claim7.holds Tryz.pinned (.plain (OpenSpec.ofChange fnExactProofSystemSpec)) fnExactProofSystemCard

/-- THE SECOND FORM's CARD OF 'laws.FnExactProofSystem'. -/
def fnExactProofSystemUptoCard : Claim7 := { stood := { row := fnExactProofSystemUptoRow, standIns := [], harness := (true, "1b9d6b71b056626e3bebd6678f87c397a46822aa6fa73b57b9ca78b6340899a0"), looks := false }, kinds := [], alts := [], laidByText := true, laidKinds := [.data, .data, .data], laidTests := true, laidLooks := .later }
def FnExactProofSystemUptoCardSaid : Prop := Claim7.holds Tryz.pinned (.plain (OpenSpec.upto fnExactProofSystemSpec)) fnExactProofSystemUptoCard
end Rows
end Go.Proofs.YtelbgmfdnnljoaaGreatDoor
