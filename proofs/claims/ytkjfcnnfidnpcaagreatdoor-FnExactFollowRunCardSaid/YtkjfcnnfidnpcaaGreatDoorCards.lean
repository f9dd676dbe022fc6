/-
  DERIVED. GIVEN WITH THE SEED: THE CARDS: each row of YtkjfcnnfidnpcaaGreatDoorRows.lean that lists a variable, with what it lists TIED to the program's text (the seventh form; the later family's looks); each row that meets fmt, with fmt's text TOLD by the authors' own Lean function (tested against real Go, not proved from fmt's source: count such statements apart). THE CARD IS WHAT COUNTS. Prove the row's statement (the work); the ties are given (YtkjfcnnfidnpcaaGreatDoorTie.lean); close each card by the builder's one call (the guide's Derived/Test/ToyasCard.lean, 'card_holds'). Laid BY PROGRAM, IN A SANDBOX (cutbox-door.mjs). By AI agents, Wed Nov 11 2026. No macro, syntax, notation, axiom, sorry.
-/
import Derived.Test.YtkjfcnnfidnpcaaGreatDoorRows
import GoSem.ClaimSeven
namespace Go.Proofs.YtkjfcnnfidnpcaaGreatDoor
namespace Rows

/-- THE TIED CARD OF 'laws.FnExactFollowRun'. -/
def fnExactFollowRunCard : Claim7 := { stood := { row := fnExactFollowRunRow, standIns := [], harness := (true, "ea5cd4b53f3880742616378995e9914910d67b1280889e8c21c2477e7efb4f2b"), looks := true }, kinds := [], alts := [], laidByText := true, laidKinds := [.sentinel, .sentinel], laidTests := true, laidLooks := .later }
def FnExactFollowRunCardSaid : Prop := Claim7.holds Tryz.pinned (.plain (OpenSpec.ofChange fnExactFollowRunSpec)) fnExactFollowRunCard

/-- THE SECOND FORM's CARD OF 'laws.FnExactFollowRun'. -/
def fnExactFollowRunUptoCard : Claim7 := { stood := { row := fnExactFollowRunUptoRow, standIns := [], harness := (true, "ea5cd4b53f3880742616378995e9914910d67b1280889e8c21c2477e7efb4f2b"), looks := true }, kinds := [], alts := [], laidByText := true, laidKinds := [.sentinel, .sentinel], laidTests := true, laidLooks := .later }
def FnExactFollowRunUptoCardSaid : Prop := Claim7.holds Tryz.pinned (.plain (OpenSpec.upto fnExactFollowRunSpec)) fnExactFollowRunUptoCard
end Rows
end Go.Proofs.YtkjfcnnfidnpcaaGreatDoor
