/-
  DERIVED. GIVEN WITH THE SEED: THE CARDS: each row of YtpbcpllkopnmkaaGreatDoorRows.lean that lists a variable, with what it lists TIED to the program's text (the seventh form; the later family's looks); each row that meets fmt, with fmt's text TOLD by the authors' own Lean function (tested against real Go, not proved from fmt's source: count such statements apart). THE CARD IS WHAT COUNTS. Prove the row's statement (the work); the ties are given (YtpbcpllkopnmkaaGreatDoorTie.lean); close each card by the builder's one call (the guide's Derived/Test/ToyasCard.lean, 'card_holds'). Laid BY PROGRAM, IN A SANDBOX (cutbox-door.mjs). By AI agents, Wed Nov 11 2026. No macro, syntax, notation, axiom, sorry.
-/
import Derived.Test.YtpbcpllkopnmkaaGreatDoorRows
import GoSem.ClaimSeven
namespace Go.Proofs.YtpbcpllkopnmkaaGreatDoor
namespace Rows

/-- THE TIED CARD OF 'laws.FnExactGrow'. -/
def fnExactGrowCard : Claim7 := { stood := { row := fnExactGrowRow, standIns := [], harness := (true, "138dc1a4319c85ff6cfb3ec7d7fbb3f6fb1854c596ada692f0e7912bc569460c"), looks := true }, kinds := [], alts := [], laidByText := true, laidKinds := [.sentinel, .sentinel], laidTests := true, laidLooks := .later }
def FnExactGrowCardSaid : Prop := Claim7.holds Tryz.pinned (.plain (OpenSpec.ofChange fnExactGrowSpec)) fnExactGrowCard

/-- THE TIED CARD OF 'laws.FnExactGrowSteps'. -/
def fnExactGrowStepsCard : Claim7 := { stood := { row := fnExactGrowStepsRow, standIns := [], harness := (true, "138dc1a4319c85ff6cfb3ec7d7fbb3f6fb1854c596ada692f0e7912bc569460c"), looks := true }, kinds := [], alts := [], laidByText := true, laidKinds := [.sentinel, .sentinel], laidTests := true, laidLooks := .later }
def FnExactGrowStepsCardSaid : Prop := Claim7.holds Tryz.pinned (.plain (OpenSpec.ofChange fnExactGrowStepsSpec)) fnExactGrowStepsCard

/-- THE SECOND FORM's CARD OF 'laws.FnExactGrow'. -/
def fnExactGrowUptoCard : Claim7 := { stood := { row := fnExactGrowUptoRow, standIns := [], harness := (true, "138dc1a4319c85ff6cfb3ec7d7fbb3f6fb1854c596ada692f0e7912bc569460c"), looks := true }, kinds := [], alts := [], laidByText := true, laidKinds := [.sentinel, .sentinel], laidTests := true, laidLooks := .later }
def FnExactGrowUptoCardSaid : Prop := Claim7.holds Tryz.pinned (.plain (OpenSpec.upto fnExactGrowSpec)) fnExactGrowUptoCard

/-- THE SECOND FORM's CARD OF 'laws.FnExactGrowSteps'. -/
def fnExactGrowStepsUptoCard : Claim7 := { stood := { row := fnExactGrowStepsUptoRow, standIns := [], harness := (true, "138dc1a4319c85ff6cfb3ec7d7fbb3f6fb1854c596ada692f0e7912bc569460c"), looks := true }, kinds := [], alts := [], laidByText := true, laidKinds := [.sentinel, .sentinel], laidTests := true, laidLooks := .later }
def FnExactGrowStepsUptoCardSaid : Prop := Claim7.holds Tryz.pinned (.plain (OpenSpec.upto fnExactGrowStepsSpec)) fnExactGrowStepsUptoCard
end Rows
end Go.Proofs.YtpbcpllkopnmkaaGreatDoor
