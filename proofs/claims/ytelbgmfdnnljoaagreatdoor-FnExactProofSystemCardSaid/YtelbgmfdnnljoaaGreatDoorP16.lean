/- What is proved: the law FnExactProofSystem returns true for every input, and each argument reads afterwards as it read before. Conditions: none. -/
import Derived.Test.YtelbgmfdnnljoaaGreatDoorP15
import Derived.Test.YtelbgmfdnnljoaaGreatDoorTie
import Derived.Test.YtelbgmfdnnljoaaGreatDoorCards
import Derived.SevenTiedAt
set_option linter.all false
set_option maxHeartbeats 8000000
set_option maxRecDepth 100000
namespace Go.Proofs.YtelbgmfdnnljoaaGreatDoor
open Go Go.Ae Go.ChangeShapes Go.WideShapes Go.ChangeAt Go.RowKit
def ovA:Tryz.pinned.checked.prog.funcNamed Rows.fnExactProofSystemRow.func=some 3:=by kernel_rfl
def ovD:(Rows.fnExactProofSystemRow.inPlace==Tryz.pinned.checked.prog.inPlace 3)=true:=by kernel_rfl
def ovE:(Rows.fnExactProofSystemRow.unfollowed==Tryz.pinned.checked.prog.unfollowed 3)=true:=by kernel_rfl
def ovF:(Rows.fnExactProofSystemRow.recurses==Tryz.pinned.checked.prog.recurses 3)=true:=by kernel_rfl
def ovG:(Rows.fnExactProofSystemRow.named==Tryz.pinned.checked.prog.varsNamed 3)=true:=by kernel_rfl
def ovI:(Rows.fnExactProofSystemRow.lifted==Tryz.pinned.checked.prog.liftsFinal)=true:=by kernel_rfl
def ovH:Tryz.pinned.checked.prog.mayEnter=true:=by kernel_rfl
def ovB:joinedFacts Tryz.pinned.checked.prog 3 Tryz.f3 Rows.fnExactProofSystemSpec Rows.fnExactProofSystemRow=true:=by unfold joinedFacts;rw[ovD,ovE,ovF,ovG,ovH,ovI,show laidOutB Tryz.pinned.checked.prog=true from laidOut];kernel_rfl
def ovC:Tryz.f3.isInstance Tryz.pinned.checked.prog Rows.fnExactProofSystemRow.origin Rows.fnExactProofSystemRow.targs:=of_decide_eq_true (by kernel_rfl)
def over:Rows.fnExactProofSystemRow.holds Tryz.pinned (OpenSpec.ofChange Rows.fnExactProofSystemSpec):=
 OpenClaim.holds_of_wide 3 Tryz.f3 rfl rfl rfl rfl rfl rfl rfl ⟨rfl,rfl,rfl,rfl,rfl⟩ rfl rfl rfl rfl rfl ovA Tryz.func3 ovB
  ovC (by unfold Func.isWrapper;first|(rw[Ai (by decide+kernel)];kernel_rfl)|(rw[Af (by decide+kernel)];exact⟨rfl,rfl⟩))
  (λos z H enc _=>lifted os z H enc)
def fnExactProofSystem_holds:Rows.FnExactProofSystemCardSaid:=
 Claim7.holds_tied_plain_at .later [] [.data,.data,.data] true Rows.fnExactProofSystemCard.stood.harness false over (λ_ h=>by cases h) (by kernel_rfl) (λ_ h=>by cases h) fnExactProofSystem_row_tie rfl ⟨rfl,rfl⟩ (by kernel_rfl) rfl
  (λf fn hf G=>by
   obtain rfl:f=3:=(AB (ovA.symm.trans hf)).symm;obtain rfl:fn=Tryz.f3:=(AB (Tryz.func3.symm.trans G)).symm;exact⟨by kernel_rfl,λj t O=>by
    rw[Tryz.params3] at O;have Q:t∈[30,2]:=by simpa using ZeP O
    have z:([30,2].all λu=> !Tryz.prog.wantsStandIn u)=true:=by kernel_rfl
    exact (show Tryz.prog.wantsStandIn t=false by simpa using CM.1 z t Q)⟩)
  (by kernel_rfl)
end Go.Proofs.YtelbgmfdnnljoaaGreatDoor
