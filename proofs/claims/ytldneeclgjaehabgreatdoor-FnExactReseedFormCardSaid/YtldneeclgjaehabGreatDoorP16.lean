/- What is proved: the law FnExactReseedForm returns true for every input, and each argument reads afterwards as it read before. Conditions: none. -/
import Derived.Test.YtldneeclgjaehabGreatDoorP15
import Derived.Test.YtldneeclgjaehabGreatDoorTie
import Derived.Test.YtldneeclgjaehabGreatDoorCards
import Derived.SevenTiedAt
set_option linter.all false
set_option maxHeartbeats 8000000
set_option maxRecDepth 100000
namespace Go.Proofs.YtldneeclgjaehabGreatDoor
open Go Go.Ae Go.ChangeShapes Go.WideShapes Go.ChangeAt Go.RowKit
def ovA:Tryz.pinned.checked.prog.funcNamed Rows.fnExactReseedFormRow.func=some 3:=by kernel_rfl
def ovD:(Rows.fnExactReseedFormRow.inPlace==Tryz.pinned.checked.prog.inPlace 3)=true:=by kernel_rfl
def ovE:(Rows.fnExactReseedFormRow.unfollowed==Tryz.pinned.checked.prog.unfollowed 3)=true:=by kernel_rfl
def ovF:(Rows.fnExactReseedFormRow.recurses==Tryz.pinned.checked.prog.recurses 3)=true:=by kernel_rfl
def ovG:(Rows.fnExactReseedFormRow.named==Tryz.pinned.checked.prog.varsNamed 3)=true:=by kernel_rfl
def ovI:(Rows.fnExactReseedFormRow.lifted==Tryz.pinned.checked.prog.liftsFinal)=true:=by kernel_rfl
def ovH:Tryz.pinned.checked.prog.mayEnter=true:=by kernel_rfl
def ovB:joinedFacts Tryz.pinned.checked.prog 3 Tryz.f3 Rows.fnExactReseedFormSpec Rows.fnExactReseedFormRow=true:=by unfold joinedFacts;rw[ovD,ovE,ovF,ovG,ovH,ovI,show laidOutB Tryz.pinned.checked.prog=true from laidOut];kernel_rfl
def ovC:Tryz.f3.isInstance Tryz.pinned.checked.prog Rows.fnExactReseedFormRow.origin Rows.fnExactReseedFormRow.targs:=of_decide_eq_true (by kernel_rfl)
def over:Rows.fnExactReseedFormRow.holds Tryz.pinned (OpenSpec.ofChange Rows.fnExactReseedFormSpec):=
 OpenClaim.holds_of_wide 3 Tryz.f3 rfl rfl rfl rfl rfl rfl rfl ⟨rfl,rfl,rfl,rfl,rfl⟩ rfl rfl rfl rfl rfl ovA Tryz.func3 ovB
  ovC (by unfold Func.isWrapper;first|(rw[Bt (by decide+kernel)];kernel_rfl)|(rw[Be (by decide+kernel)];exact⟨rfl,rfl⟩))
  (λos z H enc _=>lifted os z H enc)
def fnExactReseedForm_holds:Rows.FnExactReseedFormCardSaid:=
 Claim7.holds_tied_plain_at .later [] [.data,.data,.data] true Rows.fnExactReseedFormCard.stood.harness false over (λ_ h=>by cases h) (by kernel_rfl) (λ_ h=>by cases h) fnExactReseedForm_row_tie rfl ⟨rfl,rfl⟩ (by kernel_rfl) rfl
  (λf fn hf O=>by
   obtain rfl:f=3:=(AJ (ovA.symm.trans hf)).symm;obtain rfl:fn=Tryz.f3:=(AJ (Tryz.func3.symm.trans O)).symm;exact⟨by kernel_rfl,λj t ht=>by
    rw[Tryz.params3] at ht;have hm:t∈[30,34,35]:=by simpa using zU ht
    have z:([30,34,35].all λu=> !Tryz.prog.wantsStandIn u)=true:=by kernel_rfl
    exact (show Tryz.prog.wantsStandIn t=false by simpa using CF.1 z t hm)⟩)
  (by kernel_rfl)
end Go.Proofs.YtldneeclgjaehabGreatDoor
