/-
  DERIVED. GIVEN WITH THE SEED: THE CARDS: each row of YtelbgmfdnnljoabGreatDoorRows.lean that lists a variable, with what it lists TIED to the program's text (the seventh form; the later family's looks); each row that meets fmt, with fmt's text TOLD by the authors' own Lean function (tested against real Go, not proved from fmt's source: count such statements apart). THE CARD IS WHAT COUNTS. Prove the row's statement (the work); the ties are given (YtelbgmfdnnljoabGreatDoorTie.lean); close each card by the builder's one call (the guide's Derived/Test/ToyasCard.lean, 'card_holds'). Laid BY PROGRAM, IN A SANDBOX (cutbox-door.mjs). By AI agents, Wed Nov 11 2026. No macro, syntax, notation, axiom, sorry.
-/
import Derived.Test.YtelbgmfdnnljoabGreatDoorRows
import GoSem.ClaimSeven
namespace Go.Proofs.YtelbgmfdnnljoabGreatDoor
namespace Rows

/-- THE TIED CARD OF 'laws.FnExactProofSimulation'. -/
def fnExactProofSimulationCard : Claim7 := { stood := { row := fnExactProofSimulationRow, standIns := [], harness := (true, "b53c4ff0a34b073a34e15d1be880862564b0e14268b37eb7f2a5b28cffded0a0"), looks := false }, kinds := [], alts := [], laidByText := true, laidKinds := [.data, .data, .data], laidTests := true, laidLooks := .later }
def FnExactProofSimulationCardSaid : Prop := Claim7.holds Tryz.pinned (.plain (OpenSpec.ofChange fnExactProofSimulationSpec)) fnExactProofSimulationCard

/-- THE SECOND FORM's CARD OF 'laws.FnExactProofSimulation'. -/
def fnExactProofSimulationUptoCard : Claim7 := { stood := { row := fnExactProofSimulationUptoRow, standIns := [], harness := (true, "b53c4ff0a34b073a34e15d1be880862564b0e14268b37eb7f2a5b28cffded0a0"), looks := false }, kinds := [], alts := [], laidByText := true, laidKinds := [.data, .data, .data], laidTests := true, laidLooks := .later }
def FnExactProofSimulationUptoCardSaid : Prop := Claim7.holds Tryz.pinned (.plain (OpenSpec.upto fnExactProofSimulationSpec)) fnExactProofSimulationUptoCard
end Rows
end Go.Proofs.YtelbgmfdnnljoabGreatDoor
