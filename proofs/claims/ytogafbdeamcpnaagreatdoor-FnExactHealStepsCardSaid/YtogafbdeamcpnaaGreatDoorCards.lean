/-
  DERIVED. GIVEN WITH THE SEED: THE CARDS: each row of YtogafbdeamcpnaaGreatDoorRows.lean that lists a variable, with what it lists TIED to the program's text (the seventh form; the later family's looks); each row that meets fmt, with fmt's text TOLD by the authors' own Lean function (tested against real Go, not proved from fmt's source: count such statements apart). THE CARD IS WHAT COUNTS. Prove the row's statement (the work); the ties are given (YtogafbdeamcpnaaGreatDoorTie.lean); close each card by the builder's one call (the guide's Derived/Test/ToyasCard.lean, 'card_holds'). Laid BY PROGRAM, IN A SANDBOX (cutbox-door.mjs). By AI agents, Wed Nov 11 2026. No macro, syntax, notation, axiom, sorry.
-/
import Derived.Test.YtogafbdeamcpnaaGreatDoorRows
import GoSem.ClaimSeven
namespace Go.Proofs.YtogafbdeamcpnaaGreatDoor
namespace Rows

/-- THE TIED CARD OF 'laws.FnExactHealSteps'. -/
def fnExactHealStepsCard : Claim7 := { stood := { row := fnExactHealStepsRow, standIns := [], harness := (true, "ab9029f2458327896f94538ca7b762145e1b8f57686b895b53b13dfd6ebe0118"), looks := true }, kinds := [], alts := [], laidByText := true, laidKinds := [.sentinel, .sentinel], laidTests := true, laidLooks := .later }
def FnExactHealStepsCardSaid : Prop := Claim7.holds Tryz.pinned (.plain (OpenSpec.ofChange fnExactHealStepsSpec)) fnExactHealStepsCard

/-- THE TIED CARD OF 'laws.FnExactFindLocal'. -/
def fnExactFindLocalCard : Claim7 := { stood := { row := fnExactFindLocalRow, standIns := [], harness := (true, "ab9029f2458327896f94538ca7b762145e1b8f57686b895b53b13dfd6ebe0118"), looks := true }, kinds := [], alts := [], laidByText := true, laidKinds := [.sentinel, .sentinel], laidTests := true, laidLooks := .later }
def FnExactFindLocalCardSaid : Prop := Claim7.holds Tryz.pinned (.plain (OpenSpec.ofChange fnExactFindLocalSpec)) fnExactFindLocalCard

/-- THE TIED CARD OF 'laws.FnExactFollowRun'. -/
def fnExactFollowRunCard : Claim7 := { stood := { row := fnExactFollowRunRow, standIns := [], harness := (true, "ab9029f2458327896f94538ca7b762145e1b8f57686b895b53b13dfd6ebe0118"), looks := true }, kinds := [], alts := [], laidByText := true, laidKinds := [.sentinel, .sentinel], laidTests := true, laidLooks := .later }
def FnExactFollowRunCardSaid : Prop := Claim7.holds Tryz.pinned (.plain (OpenSpec.ofChange fnExactFollowRunSpec)) fnExactFollowRunCard

/-- THE TIED CARD OF 'laws.FnExactProveUnique'. -/
def fnExactProveUniqueCard : Claim7 := { stood := { row := fnExactProveUniqueRow, standIns := [], harness := (true, "ab9029f2458327896f94538ca7b762145e1b8f57686b895b53b13dfd6ebe0118"), looks := true }, kinds := [], alts := [], laidByText := true, laidKinds := [.sentinel, .sentinel], laidTests := true, laidLooks := .later }
def FnExactProveUniqueCardSaid : Prop := Claim7.holds Tryz.pinned (.plain (OpenSpec.ofChange fnExactProveUniqueSpec)) fnExactProveUniqueCard

/-- THE SECOND FORM's CARD OF 'laws.FnExactHealSteps'. -/
def fnExactHealStepsUptoCard : Claim7 := { stood := { row := fnExactHealStepsUptoRow, standIns := [], harness := (true, "ab9029f2458327896f94538ca7b762145e1b8f57686b895b53b13dfd6ebe0118"), looks := true }, kinds := [], alts := [], laidByText := true, laidKinds := [.sentinel, .sentinel], laidTests := true, laidLooks := .later }
def FnExactHealStepsUptoCardSaid : Prop := Claim7.holds Tryz.pinned (.plain (OpenSpec.upto fnExactHealStepsSpec)) fnExactHealStepsUptoCard

/-- THE SECOND FORM's CARD OF 'laws.FnExactFindLocal'. -/
def fnExactFindLocalUptoCard : Claim7 := { stood := { row := fnExactFindLocalUptoRow, standIns := [], harness := (true, "ab9029f2458327896f94538ca7b762145e1b8f57686b895b53b13dfd6ebe0118"), looks := true }, kinds := [], alts := [], laidByText := true, laidKinds := [.sentinel, .sentinel], laidTests := true, laidLooks := .later }
def FnExactFindLocalUptoCardSaid : Prop := Claim7.holds Tryz.pinned (.plain (OpenSpec.upto fnExactFindLocalSpec)) fnExactFindLocalUptoCard

/-- THE SECOND FORM's CARD OF 'laws.FnExactFollowRun'. -/
def fnExactFollowRunUptoCard : Claim7 := { stood := { row := fnExactFollowRunUptoRow, standIns := [], harness := (true, "ab9029f2458327896f94538ca7b762145e1b8f57686b895b53b13dfd6ebe0118"), looks := true }, kinds := [], alts := [], laidByText := true, laidKinds := [.sentinel, .sentinel], laidTests := true, laidLooks := .later }
def FnExactFollowRunUptoCardSaid : Prop := Claim7.holds Tryz.pinned (.plain (OpenSpec.upto fnExactFollowRunSpec)) fnExactFollowRunUptoCard

/-- THE SECOND FORM's CARD OF 'laws.FnExactProveUnique'. -/
def fnExactProveUniqueUptoCard : Claim7 := { stood := { row := fnExactProveUniqueUptoRow, standIns := [], harness := (true, "ab9029f2458327896f94538ca7b762145e1b8f57686b895b53b13dfd6ebe0118"), looks := true }, kinds := [], alts := [], laidByText := true, laidKinds := [.sentinel, .sentinel], laidTests := true, laidLooks := .later }
def FnExactProveUniqueUptoCardSaid : Prop := Claim7.holds Tryz.pinned (.plain (OpenSpec.upto fnExactProveUniqueSpec)) fnExactProveUniqueUptoCard
end Rows
end Go.Proofs.YtogafbdeamcpnaaGreatDoor
