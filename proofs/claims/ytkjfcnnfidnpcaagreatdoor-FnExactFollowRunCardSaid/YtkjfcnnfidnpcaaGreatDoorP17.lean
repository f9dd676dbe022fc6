/- What is proved: the law FnExactFollowRun returns true for every input, and each argument reads afterwards as it read before. Conditions: none. -/
import Derived.Test.YtkjfcnnfidnpcaaGreatDoorP16
import Derived.Test.YtkjfcnnfidnpcaaGreatDoorTie
import Derived.Test.YtkjfcnnfidnpcaaGreatDoorCards
import Derived.SevenTiedAt
set_option linter.all false
set_option maxHeartbeats 8000000
set_option maxRecDepth 100000
namespace Go.Proofs.YtkjfcnnfidnpcaaGreatDoor
open Go Go.Ae Go.ChangeShapes Go.WideShapes Go.ChangeAt Go.RowKit
def ovA:Tryz.pinned.checked.prog.funcNamed Rows.fnExactFollowRunRow.func=some 3:=by kernel_rfl
def ovD:(Rows.fnExactFollowRunRow.inPlace==Tryz.pinned.checked.prog.inPlace 3)=true:=by kernel_rfl
def ovE:(Rows.fnExactFollowRunRow.unfollowed==Tryz.pinned.checked.prog.unfollowed 3)=true:=by kernel_rfl
def ovF:(Rows.fnExactFollowRunRow.recurses==Tryz.pinned.checked.prog.recurses 3)=true:=by kernel_rfl
def ovG:(Rows.fnExactFollowRunRow.named==Tryz.pinned.checked.prog.varsNamed 3)=true:=by kernel_rfl
def ovI:(Rows.fnExactFollowRunRow.lifted==Tryz.pinned.checked.prog.liftsFinal)=true:=by kernel_rfl
def ovH:Tryz.pinned.checked.prog.mayEnter=true:=by kernel_rfl
def ovB:joinedFacts Tryz.pinned.checked.prog 3 Tryz.f3 Rows.fnExactFollowRunSpec Rows.fnExactFollowRunRow=true:=by unfold joinedFacts;rw[ovD,ovE,ovF,ovG,ovH,ovI,show laidOutB Tryz.pinned.checked.prog=true from laidOut];kernel_rfl
def ovC:Tryz.f3.isInstance Tryz.pinned.checked.prog Rows.fnExactFollowRunRow.origin Rows.fnExactFollowRunRow.targs:=of_decide_eq_true (by kernel_rfl)
def over:Rows.fnExactFollowRunRow.holds Tryz.pinned (OpenSpec.ofChange Rows.fnExactFollowRunSpec):=
 OpenClaim.holds_of_wide 3 Tryz.f3 rfl rfl rfl rfl rfl rfl rfl ⟨rfl,rfl,rfl,rfl,rfl⟩ rfl rfl rfl rfl rfl ovA Tryz.func3 ovB
  ovC (by unfold Func.isWrapper;first|(rw[Ak (by decide+kernel)];kernel_rfl)|(rw[Ad (by decide+kernel)];exact⟨rfl,rfl⟩))
  (λos z H enc _=>lifted os z H enc)
def fnExactFollowRun_holds:Rows.FnExactFollowRunCardSaid:=
 Claim7.holds_tied_plain_at .later [] [.sentinel,.sentinel] true Rows.fnExactFollowRunCard.stood.harness true over (λ_ h=>by cases h) (by kernel_rfl) (λ_ h=>by cases h) fnExactFollowRun_row_tie rfl ⟨rfl,rfl⟩ (by kernel_rfl) rfl
  (λf fn hf O=>by
   obtain rfl:f=3:=(A7 (ovA.symm.trans hf)).symm;obtain rfl:fn=Tryz.f3:=(A7 (Tryz.func3.symm.trans O)).symm;exact⟨by kernel_rfl,λj t Q=>by
    rw[Tryz.params3] at Q;have Z:t∈[33,31,2]:=by simpa using ZeU Q
    have z:([33,31,2].all λu=> !Tryz.prog.wantsStandIn u)=true:=by kernel_rfl
    exact (show Tryz.prog.wantsStandIn t=false by simpa using C6.1 z t Z)⟩)
  (by kernel_rfl)
end Go.Proofs.YtkjfcnnfidnpcaaGreatDoor
