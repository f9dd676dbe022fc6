/-
  DERIVED. GIVEN WITH THE SEED: THE CARDS: each row of YtnlohpcinfedjaaGreatDoorRows.lean that lists a variable, with what it lists TIED to the program's text (the seventh form; the later family's looks); each row that meets fmt, with fmt's text TOLD by the authors' own Lean function (tested against real Go, not proved from fmt's source: count such statements apart). THE CARD IS WHAT COUNTS. Prove the row's statement (the work); the ties are given (YtnlohpcinfedjaaGreatDoorTie.lean); close each card by the builder's one call (the guide's Derived/Test/ToyasCard.lean, 'card_holds'). Laid BY PROGRAM, IN A SANDBOX (cutbox-door.mjs). By AI agents, Wed Nov 11 2026. No macro, syntax, notation, axiom, sorry.
-/
import Derived.Test.YtnlohpcinfedjaaGreatDoorRows
import GoSem.ClaimSeven
namespace Go.Proofs.YtnlohpcinfedjaaGreatDoor
namespace Rows

/-- THE TIED CARD OF 'laws.FnExactGrowSorted'. -/
def fnExactGrowSortedCard : Claim7 := { stood := { row := fnExactGrowSortedRow, standIns := [], harness := (true, "ac9f9bdc0561c468f906f3852ceab8a51c93c0a416bd64282d525c64bc8a685d"), looks := true }, kinds := [], alts := [], laidByText := true, laidKinds := [.data, .data, .data, .sentinel, .sentinel], laidTests := true, laidLooks := .later }
def FnExactGrowSortedCardSaid : Prop := Claim7.holds Tryz.pinned (.plain (OpenSpec.ofChange fnExactGrowSortedSpec)) fnExactGrowSortedCard

/-- THE SECOND FORM's CARD OF 'laws.FnExactGrowSorted'. -/
def fnExactGrowSortedUptoCard : Claim7 := { stood := { row := fnExactGrowSortedUptoRow, standIns := [], harness := (true, "ac9f9bdc0561c468f906f3852ceab8a51c93c0a416bd64282d525c64bc8a685d"), looks := true }, kinds := [], alts := [], laidByText := true, laidKinds := [.data, .data, .data, .sentinel, .sentinel], laidTests := true, laidLooks := .later }
def FnExactGrowSortedUptoCardSaid : Prop := Claim7.holds Tryz.pinned (.plain (OpenSpec.upto fnExactGrowSortedSpec)) fnExactGrowSortedUptoCard
end Rows
end Go.Proofs.YtnlohpcinfedjaaGreatDoor
