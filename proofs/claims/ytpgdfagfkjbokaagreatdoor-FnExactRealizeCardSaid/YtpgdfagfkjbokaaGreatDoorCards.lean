/-
  DERIVED. GIVEN WITH THE SEED: THE CARDS: each row of YtpgdfagfkjbokaaGreatDoorRows.lean that lists a variable, with what it lists TIED to the program's text (the seventh form; the later family's looks); each row that meets fmt, with fmt's text TOLD by the authors' own Lean function (tested against real Go, not proved from fmt's source: count such statements apart). THE CARD IS WHAT COUNTS. Prove the row's statement (the work); the ties are given (YtpgdfagfkjbokaaGreatDoorTie.lean); close each card by the builder's one call (the guide's Derived/Test/ToyasCard.lean, 'card_holds'). Laid BY PROGRAM, IN A SANDBOX (cutbox-door.mjs). By AI agents, Wed Nov 11 2026. No macro, syntax, notation, axiom, sorry.
-/
import Derived.Test.YtpgdfagfkjbokaaGreatDoorRows
import GoSem.ClaimSeven
namespace Go.Proofs.YtpgdfagfkjbokaaGreatDoor
namespace Rows

/-- THE TIED CARD OF 'laws.FnExactRealize'. -/
def fnExactRealizeCard : Claim7 := { stood := { row := fnExactRealizeRow, standIns := [], harness := (true, "23862da8df6b7ed267e72055d0c806a28e1a362472ea5ba77effa861ca8fd6d0"), looks := false }, kinds := [], alts := [], laidByText := true, laidKinds := [.data, .data, .data], laidTests := true, laidLooks := .later }
def FnExactRealizeCardSaid : Prop := Claim7.holds Tryz.pinned (.plain (OpenSpec.ofChange fnExactRealizeSpec)) fnExactRealizeCard

/-- THE SECOND FORM's CARD OF 'laws.FnExactRealize'. -/
def fnExactRealizeUptoCard : Claim7 := { stood := { row := fnExactRealizeUptoRow, standIns := [], harness := (true, "23862da8df6b7ed267e72055d0c806a28e1a362472ea5ba77effa861ca8fd6d0"), looks := false }, kinds := [], alts := [], laidByText := true, laidKinds := [.data, .data, .data], laidTests := true, laidLooks := .later }
def FnExactRealizeUptoCardSaid : Prop := Claim7.holds Tryz.pinned (.plain (OpenSpec.upto fnExactRealizeSpec)) fnExactRealizeUptoCard
end Rows
end Go.Proofs.YtpgdfagfkjbokaaGreatDoor
