/- What is proved: the law FnExactProveUnique returns true for every input, and each argument reads afterwards as it read before. Conditions: none. -/
import Derived.Test.YtogafbdeamcpnaaGreatDoorP15
import Derived.Test.YtogafbdeamcpnaaGreatDoorTie
import Derived.Test.YtogafbdeamcpnaaGreatDoorCards
import Derived.SevenTiedAt
set_option linter.all false
set_option maxHeartbeats 8000000
set_option maxRecDepth 100000
namespace Go.Proofs.YtogafbdeamcpnaaGreatDoor
open Go Go.Ae Go.ChangeShapes Go.WideShapes Go.ChangeAt Go.RowKit
def ovA:Tryz.pinned.checked.prog.funcNamed Rows.fnExactProveUniqueRow.func=some 6:=by kernel_rfl
def ovD:(Rows.fnExactProveUniqueRow.inPlace==Tryz.pinned.checked.prog.inPlace 6)=true:=by kernel_rfl
def ovE:(Rows.fnExactProveUniqueRow.unfollowed==Tryz.pinned.checked.prog.unfollowed 6)=true:=by kernel_rfl
def ovF:(Rows.fnExactProveUniqueRow.recurses==Tryz.pinned.checked.prog.recurses 6)=true:=by kernel_rfl
def ovG:(Rows.fnExactProveUniqueRow.named==Tryz.pinned.checked.prog.varsNamed 6)=true:=by kernel_rfl
def ovI:(Rows.fnExactProveUniqueRow.lifted==Tryz.pinned.checked.prog.liftsFinal)=true:=by kernel_rfl
def ovH:Tryz.pinned.checked.prog.mayEnter=true:=by kernel_rfl
def ovB:joinedFacts Tryz.pinned.checked.prog 6 Tryz.f6 Rows.fnExactProveUniqueSpec Rows.fnExactProveUniqueRow=true:=by unfold joinedFacts;rw[ovD,ovE,ovF,ovG,ovH,ovI,show laidOutB Tryz.pinned.checked.prog=true from laidOut];kernel_rfl
def ovC:Tryz.f6.isInstance Tryz.pinned.checked.prog Rows.fnExactProveUniqueRow.origin Rows.fnExactProveUniqueRow.targs:=of_decide_eq_true (by kernel_rfl)
def over:Rows.fnExactProveUniqueRow.holds Tryz.pinned (OpenSpec.ofChange Rows.fnExactProveUniqueSpec):=
 OpenClaim.holds_of_wide 6 Tryz.f6 rfl rfl rfl rfl rfl rfl rfl ⟨rfl,rfl,rfl,rfl,rfl⟩ rfl rfl rfl rfl rfl ovA Tryz.func6 ovB
  ovC (by unfold Func.isWrapper;first|(rw[An (by decide+kernel)];kernel_rfl)|(rw[Af (by decide+kernel)];exact⟨rfl,rfl⟩))
  (λos z H enc _=>lifted os z H enc)
def fnExactProveUnique_holds:Rows.FnExactProveUniqueCardSaid:=
 Claim7.holds_tied_plain_at .later [] [.sentinel,.sentinel] true Rows.fnExactProveUniqueCard.stood.harness true over (λ_ h=>by cases h) (by kernel_rfl) (λ_ h=>by cases h) fnExactProveUnique_row_tie rfl ⟨rfl,rfl⟩ (by kernel_rfl) rfl
  (λf fn hf G=>by
   obtain rfl:f=6:=(AD (ovA.symm.trans hf)).symm;obtain rfl:fn=Tryz.f6:=(AD (Tryz.func6.symm.trans G)).symm;exact⟨by kernel_rfl,λj t O=>by
    rw[Tryz.params6] at O;have Q:t∈[30,32]:=by simpa using ZeM O
    have z:([30,32].all λu=> !Tryz.prog.wantsStandIn u)=true:=by kernel_rfl
    exact (show Tryz.prog.wantsStandIn t=false by simpa using D3.1 z t Q)⟩)
  (by kernel_rfl)
end Go.Proofs.YtogafbdeamcpnaaGreatDoor
