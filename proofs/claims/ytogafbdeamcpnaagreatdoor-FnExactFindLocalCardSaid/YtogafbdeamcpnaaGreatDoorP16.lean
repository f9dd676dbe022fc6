/- What is proved: the law FnExactFindLocal returns true for every input, and each argument reads afterwards as it read before. Conditions: none. -/
import Derived.Test.YtogafbdeamcpnaaGreatDoorP15
import Derived.Test.YtogafbdeamcpnaaGreatDoorTie
import Derived.Test.YtogafbdeamcpnaaGreatDoorCards
import Derived.SevenTiedAt
set_option linter.all false
set_option maxHeartbeats 8000000
set_option maxRecDepth 100000
namespace Go.Proofs.YtogafbdeamcpnaaGreatDoor
open Go Go.Ae Go.ChangeShapes Go.WideShapes Go.ChangeAt Go.RowKit
def ovA:Tryz.pinned.checked.prog.funcNamed Rows.fnExactFindLocalRow.func=some 4:=by kernel_rfl
def ovD:(Rows.fnExactFindLocalRow.inPlace==Tryz.pinned.checked.prog.inPlace 4)=true:=by kernel_rfl
def ovE:(Rows.fnExactFindLocalRow.unfollowed==Tryz.pinned.checked.prog.unfollowed 4)=true:=by kernel_rfl
def ovF:(Rows.fnExactFindLocalRow.recurses==Tryz.pinned.checked.prog.recurses 4)=true:=by kernel_rfl
def ovG:(Rows.fnExactFindLocalRow.named==Tryz.pinned.checked.prog.varsNamed 4)=true:=by kernel_rfl
def ovI:(Rows.fnExactFindLocalRow.lifted==Tryz.pinned.checked.prog.liftsFinal)=true:=by kernel_rfl
def ovH:Tryz.pinned.checked.prog.mayEnter=true:=by kernel_rfl
def ovB:joinedFacts Tryz.pinned.checked.prog 4 Tryz.f4 Rows.fnExactFindLocalSpec Rows.fnExactFindLocalRow=true:=by unfold joinedFacts;rw[ovD,ovE,ovF,ovG,ovH,ovI,show laidOutB Tryz.pinned.checked.prog=true from laidOut];kernel_rfl
def ovC:Tryz.f4.isInstance Tryz.pinned.checked.prog Rows.fnExactFindLocalRow.origin Rows.fnExactFindLocalRow.targs:=of_decide_eq_true (by kernel_rfl)
def over:Rows.fnExactFindLocalRow.holds Tryz.pinned (OpenSpec.ofChange Rows.fnExactFindLocalSpec):=
 OpenClaim.holds_of_wide 4 Tryz.f4 rfl rfl rfl rfl rfl rfl rfl ⟨rfl,rfl,rfl,rfl,rfl⟩ rfl rfl rfl rfl rfl ovA Tryz.func4 ovB
  ovC (by unfold Func.isWrapper;first|(rw[An (by decide+kernel)];kernel_rfl)|(rw[Af (by decide+kernel)];exact⟨rfl,rfl⟩))
  (λos z H enc _=>lifted os z H enc)
def fnExactFindLocal_holds:Rows.FnExactFindLocalCardSaid:=
 Claim7.holds_tied_plain_at .later [] [.sentinel,.sentinel] true Rows.fnExactFindLocalCard.stood.harness true over (λ_ h=>by cases h) (by kernel_rfl) (λ_ h=>by cases h) fnExactFindLocal_row_tie rfl ⟨rfl,rfl⟩ (by kernel_rfl) rfl
  (λf fn hf G=>by
   obtain rfl:f=4:=(AD (ovA.symm.trans hf)).symm;obtain rfl:fn=Tryz.f4:=(AD (Tryz.func4.symm.trans G)).symm;exact⟨by kernel_rfl,λj t O=>by
    rw[Tryz.params4] at O;have Q:t∈[30,32]:=by simpa using ZeM O
    have z:([30,32].all λu=> !Tryz.prog.wantsStandIn u)=true:=by kernel_rfl
    exact (show Tryz.prog.wantsStandIn t=false by simpa using Dw.1 z t Q)⟩)
  (by kernel_rfl)
end Go.Proofs.YtogafbdeamcpnaaGreatDoor
