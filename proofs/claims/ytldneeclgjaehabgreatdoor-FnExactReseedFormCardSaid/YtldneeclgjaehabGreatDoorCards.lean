/-
  DERIVED. GIVEN WITH THE SEED: THE CARDS: each row of YtldneeclgjaehabGreatDoorRows.lean that lists a variable, with what it lists TIED to the program's text (the seventh form; the later family's looks); each row that meets fmt, with fmt's text TOLD by the authors' own Lean function (tested against real Go, not proved from fmt's source: count such statements apart). THE CARD IS WHAT COUNTS. Prove the row's statement (the work); the ties are given (YtldneeclgjaehabGreatDoorTie.lean); close each card by the builder's one call (the guide's Derived/Test/ToyasCard.lean, 'card_holds'). Laid BY PROGRAM, IN A SANDBOX (cutbox-door.mjs). By AI agents, Wed Nov 11 2026. No macro, syntax, notation, axiom, sorry.
-/
import Derived.Test.YtldneeclgjaehabGreatDoorRows
import GoSem.ClaimSeven
namespace Go.Proofs.YtldneeclgjaehabGreatDoor
namespace Rows

/-- THE TIED CARD OF 'laws.FnExactReseedForm'. -/
def fnExactReseedFormCard : Claim7 := { stood := { row := fnExactReseedFormRow, standIns := [], harness := (true, "c7d09d63817c9b26746dd25aefc49d73f33de04002af1583121e947474547363"), looks := false }, kinds := [], alts := [], laidByText := true, laidKinds := [.data, .data, .data], laidTests := true, laidLooks := .later }
def FnExactReseedFormCardSaid : Prop := Claim7.holds Tryz.pinned (.plain (OpenSpec.ofChange fnExactReseedFormSpec)) fnExactReseedFormCard

/-- THE SECOND FORM's CARD OF 'laws.FnExactReseedForm'. -/
def fnExactReseedFormUptoCard : Claim7 := { stood := { row := fnExactReseedFormUptoRow, standIns := [], harness := (true, "c7d09d63817c9b26746dd25aefc49d73f33de04002af1583121e947474547363"), looks := false }, kinds := [], alts := [], laidByText := true, laidKinds := [.data, .data, .data], laidTests := true, laidLooks := .later }
def FnExactReseedFormUptoCardSaid : Prop := Claim7.holds Tryz.pinned (.plain (OpenSpec.upto fnExactReseedFormSpec)) fnExactReseedFormUptoCard
end Rows
end Go.Proofs.YtldneeclgjaehabGreatDoor
