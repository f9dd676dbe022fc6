/-
  DERIVED. GIVEN WITH THE SEED: THE CARDS: each row of YtpnmcdpbphpklaaGreatDoorRows.lean that lists a variable, with what it lists TIED to the program's text (the seventh form; the later family's looks); each row that meets fmt, with fmt's text TOLD by the authors' own Lean function (tested against real Go, not proved from fmt's source: count such statements apart). THE CARD IS WHAT COUNTS. Prove the row's statement (the work); the ties are given (YtpnmcdpbphpklaaGreatDoorTie.lean); close each card by the builder's one call (the guide's Derived/Test/ToyasCard.lean, 'card_holds'). Laid BY PROGRAM, IN A SANDBOX (cutbox-door.mjs). By AI agents, Wed Nov 11 2026. No macro, syntax, notation, axiom, sorry.
-/
import Derived.Test.YtpnmcdpbphpklaaGreatDoorRows
import GoSem.ClaimSeven
namespace Go.Proofs.YtpnmcdpbphpklaaGreatDoor
namespace Rows

/-- THE TIED CARD OF 'laws.FnExactWorstErrors'. -/
def fnExactWorstErrorsCard : Claim7 := { stood := { row := fnExactWorstErrorsRow, standIns := [], harness := (true, "431b072425144c52004c05d8f0f1a0a589b3f88a094a3f8aabb2e1e25d8a52a5"), looks := false }, kinds := [], alts := [], laidByText := true, laidKinds := [.data, .data, .data], laidTests := true, laidLooks := .later }
def FnExactWorstErrorsCardSaid : Prop := Claim7.holds Tryz.pinned (.plain (OpenSpec.ofChange fnExactWorstErrorsSpec)) fnExactWorstErrorsCard

/-- THE TIED CARD OF 'laws.FnExactFaultyStates'. -/
def fnExactFaultyStatesCard : Claim7 := { stood := { row := fnExactFaultyStatesRow, standIns := [], harness := (true, "431b072425144c52004c05d8f0f1a0a589b3f88a094a3f8aabb2e1e25d8a52a5"), looks := false }, kinds := [], alts := [], laidByText := true, laidKinds := [.data, .data, .data], laidTests := true, laidLooks := .later }
def FnExactFaultyStatesCardSaid : Prop := Claim7.holds Tryz.pinned (.plain (OpenSpec.ofChange fnExactFaultyStatesSpec)) fnExactFaultyStatesCard

/-- THE TIED CARD OF 'laws.FnExactRealize'. -/
def fnExactRealizeCard : Claim7 := { stood := { row := fnExactRealizeRow, standIns := [], harness := (true, "431b072425144c52004c05d8f0f1a0a589b3f88a094a3f8aabb2e1e25d8a52a5"), looks := false }, kinds := [], alts := [], laidByText := true, laidKinds := [.data, .data, .data], laidTests := true, laidLooks := .later }
def FnExactRealizeCardSaid : Prop := Claim7.holds Tryz.pinned (.plain (OpenSpec.ofChange fnExactRealizeSpec)) fnExactRealizeCard

/-- THE TIED CARD OF 'laws.FnExactSettledEnds'. -/
def fnExactSettledEndsCard : Claim7 := { stood := { row := fnExactSettledEndsRow, standIns := [], harness := (true, "431b072425144c52004c05d8f0f1a0a589b3f88a094a3f8aabb2e1e25d8a52a5"), looks := false }, kinds := [], alts := [], laidByText := true, laidKinds := [.data, .data, .data], laidTests := true, laidLooks := .later }
def FnExactSettledEndsCardSaid : Prop := Claim7.holds Tryz.pinned (.plain (OpenSpec.ofChange fnExactSettledEndsSpec)) fnExactSettledEndsCard

/-- THE SECOND FORM's CARD OF 'laws.FnExactWorstErrors'. -/
def fnExactWorstErrorsUptoCard : Claim7 := { stood := { row := fnExactWorstErrorsUptoRow, standIns := [], harness := (true, "431b072425144c52004c05d8f0f1a0a589b3f88a094a3f8aabb2e1e25d8a52a5"), looks := false }, kinds := [], alts := [], laidByText := true, laidKinds := [.data, .data, .data], laidTests := true, laidLooks := .later }
def FnExactWorstErrorsUptoCardSaid : Prop := Claim7.holds Tryz.pinned (.plain (OpenSpec.upto fnExactWorstErrorsSpec)) fnExactWorstErrorsUptoCard

/-- THE SECOND FORM's CARD OF 'laws.FnExactFaultyStates'. -/
def fnExactFaultyStatesUptoCard : Claim7 := { stood := { row := fnExactFaultyStatesUptoRow, standIns := [], harness := (true, "431b072425144c52004c05d8f0f1a0a589b3f88a094a3f8aabb2e1e25d8a52a5"), looks := false }, kinds := [], alts := [], laidByText := true, laidKinds := [.data, .data, .data], laidTests := true, laidLooks := .later }
def FnExactFaultyStatesUptoCardSaid : Prop := Claim7.holds Tryz.pinned (.plain (OpenSpec.upto fnExactFaultyStatesSpec)) fnExactFaultyStatesUptoCard

/-- THE SECOND FORM's CARD OF 'laws.FnExactRealize'. -/
def fnExactRealizeUptoCard : Claim7 := { stood := { row := fnExactRealizeUptoRow, standIns := [], harness := (true, "431b072425144c52004c05d8f0f1a0a589b3f88a094a3f8aabb2e1e25d8a52a5"), looks := false }, kinds := [], alts := [], laidByText := true, laidKinds := [.data, .data, .data], laidTests := true, laidLooks := .later }
def FnExactRealizeUptoCardSaid : Prop := Claim7.holds Tryz.pinned (.plain (OpenSpec.upto fnExactRealizeSpec)) fnExactRealizeUptoCard

/-- THE SECOND FORM's CARD OF 'laws.FnExactSettledEnds'. -/
def fnExactSettledEndsUptoCard : Claim7 := { stood := { row := fnExactSettledEndsUptoRow, standIns := [], harness := (true, "431b072425144c52004c05d8f0f1a0a589b3f88a094a3f8aabb2e1e25d8a52a5"), looks := false }, kinds := [], alts := [], laidByText := true, laidKinds := [.data, .data, .data], laidTests := true, laidLooks := .later }
def FnExactSettledEndsUptoCardSaid : Prop := Claim7.holds Tryz.pinned (.plain (OpenSpec.upto fnExactSettledEndsSpec)) fnExactSettledEndsUptoCard
end Rows
end Go.Proofs.YtpnmcdpbphpklaaGreatDoor
