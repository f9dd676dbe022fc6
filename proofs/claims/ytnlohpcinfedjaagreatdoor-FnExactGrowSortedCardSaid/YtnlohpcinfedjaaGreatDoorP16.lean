/- What is proved: the law FnExactGrowSorted returns true for every input, and each argument reads afterwards as it read before. Conditions: none. -/
import Derived.Test.YtnlohpcinfedjaaGreatDoorP15
import Derived.Test.YtnlohpcinfedjaaGreatDoorTie
import Derived.Test.YtnlohpcinfedjaaGreatDoorCards
import Derived.SevenTiedAt
set_option linter.all false
set_option maxHeartbeats 8000000
set_option maxRecDepth 100000
namespace Go.Proofs.YtnlohpcinfedjaaGreatDoor
open Go Go.Ae Go.ChangeShapes Go.WideShapes Go.ChangeAt Go.RowKit
def ovA:Tryz.pinned.checked.prog.funcNamed Rows.fnExactGrowSortedRow.func=some 3:=by kernel_rfl
def ovD:(Rows.fnExactGrowSortedRow.inPlace==Tryz.pinned.checked.prog.inPlace 3)=true:=by kernel_rfl
def ovE:(Rows.fnExactGrowSortedRow.unfollowed==Tryz.pinned.checked.prog.unfollowed 3)=true:=by kernel_rfl
def ovF:(Rows.fnExactGrowSortedRow.recurses==Tryz.pinned.checked.prog.recurses 3)=true:=by kernel_rfl
def ovG:(Rows.fnExactGrowSortedRow.named==Tryz.pinned.checked.prog.varsNamed 3)=true:=by kernel_rfl
def ovI:(Rows.fnExactGrowSortedRow.lifted==Tryz.pinned.checked.prog.liftsFinal)=true:=by kernel_rfl
def ovH:Tryz.pinned.checked.prog.mayEnter=true:=by kernel_rfl
def ovB:joinedFacts Tryz.pinned.checked.prog 3 Tryz.f3 Rows.fnExactGrowSortedSpec Rows.fnExactGrowSortedRow=true:=by unfold joinedFacts;rw[ovD,ovE,ovF,ovG,ovH,ovI,show laidOutB Tryz.pinned.checked.prog=true from laidOut];kernel_rfl
def ovC:Tryz.f3.isInstance Tryz.pinned.checked.prog Rows.fnExactGrowSortedRow.origin Rows.fnExactGrowSortedRow.targs:=of_decide_eq_true (by kernel_rfl)
def over:Rows.fnExactGrowSortedRow.holds Tryz.pinned (OpenSpec.ofChange Rows.fnExactGrowSortedSpec):=
 OpenClaim.holds_of_wide 3 Tryz.f3 rfl rfl rfl rfl rfl rfl rfl ⟨rfl,rfl,rfl,rfl,rfl⟩ rfl rfl rfl rfl rfl ovA Tryz.func3 ovB
  ovC (by unfold Func.isWrapper;first|(rw[Al (by decide+kernel)];kernel_rfl)|(rw[Ag (by decide+kernel)];exact⟨rfl,rfl⟩))
  (λos z H enc _=>lifted os z H enc)
def fnExactGrowSorted_holds:Rows.FnExactGrowSortedCardSaid:=
 Claim7.holds_tied_plain_at .later [] [.data,.data,.data,.sentinel,.sentinel] true Rows.fnExactGrowSortedCard.stood.harness true over (λ_ h=>by cases h) (by kernel_rfl) (λ_ h=>by cases h) fnExactGrowSorted_row_tie rfl ⟨rfl,rfl⟩ (by kernel_rfl) rfl
  (λf fn hf G=>by
   obtain rfl:f=3:=(AC (ovA.symm.trans hf)).symm;obtain rfl:fn=Tryz.f3:=(AC (Tryz.func3.symm.trans G)).symm;exact⟨by kernel_rfl,λj t O=>by
    rw[Tryz.params3] at O;have Q:t∈[2,22,22]:=by simpa using ZeY O
    have z:([2,22,22].all λu=> !Tryz.prog.wantsStandIn u)=true:=by kernel_rfl
    exact (show Tryz.prog.wantsStandIn t=false by simpa using Fk.1 z t Q)⟩)
  (by kernel_rfl)
end Go.Proofs.YtnlohpcinfedjaaGreatDoor
