/- What is proved: the law FnExactGrow returns true for every input, and each argument reads afterwards as it read before. Conditions: none. -/
import Derived.Test.YtpbcpllkopnmkaaGreatDoorP15
import Derived.Test.YtpbcpllkopnmkaaGreatDoorTie
import Derived.Test.YtpbcpllkopnmkaaGreatDoorCards
import Derived.SevenTiedAt
set_option linter.all false
set_option maxHeartbeats 8000000
set_option maxRecDepth 100000
namespace Go.Proofs.YtpbcpllkopnmkaaGreatDoor
open Go Go.Ae Go.ChangeShapes Go.WideShapes Go.ChangeAt Go.RowKit
theorem ovA:Tryz.pinned.checked.prog.funcNamed Rows.fnExactGrowRow.func=some 3:=by kernel_rfl
theorem ovD:(Rows.fnExactGrowRow.inPlace==Tryz.pinned.checked.prog.inPlace 3)=true:=by kernel_rfl
theorem ovE:(Rows.fnExactGrowRow.unfollowed==Tryz.pinned.checked.prog.unfollowed 3)=true:=by kernel_rfl
theorem ovF:(Rows.fnExactGrowRow.recurses==Tryz.pinned.checked.prog.recurses 3)=true:=by kernel_rfl
theorem ovG:(Rows.fnExactGrowRow.named==Tryz.pinned.checked.prog.varsNamed 3)=true:=by kernel_rfl
theorem ovI:(Rows.fnExactGrowRow.lifted==Tryz.pinned.checked.prog.liftsFinal)=true:=by kernel_rfl
theorem ovH:Tryz.pinned.checked.prog.mayEnter=true:=by kernel_rfl
theorem ovB:joinedFacts Tryz.pinned.checked.prog 3 Tryz.f3 Rows.fnExactGrowSpec Rows.fnExactGrowRow=true:=by unfold joinedFacts;rw[ovD,ovE,ovF,ovG,ovH,ovI,show laidOutB Tryz.pinned.checked.prog=true from laidOut];kernel_rfl
theorem ovC:Tryz.f3.isInstance Tryz.pinned.checked.prog Rows.fnExactGrowRow.origin Rows.fnExactGrowRow.targs:=of_decide_eq_true (by kernel_rfl)
theorem over:Rows.fnExactGrowRow.holds Tryz.pinned (OpenSpec.ofChange Rows.fnExactGrowSpec):=
 OpenClaim.holds_of_wide 3 Tryz.f3 rfl rfl rfl rfl rfl rfl rfl ⟨rfl,rfl,rfl,rfl,rfl⟩ rfl rfl rfl rfl rfl ovA Tryz.func3 ovB
  ovC (by unfold Func.isWrapper;first|(rw[Zam (by decide+kernel)];kernel_rfl)|(rw[Zai (by decide+kernel)];exact⟨rfl,rfl⟩))
  (fun os started H enc _=>lifted os started H enc)
theorem fnExactGrow_holds:Rows.FnExactGrowCardSaid:=
 Claim7.holds_tied_plain_at .later [] [.sentinel,.sentinel] true Rows.fnExactGrowCard.stood.harness true over (fun _ h=>by cases h) (by kernel_rfl) (fun _ h=>by cases h) fnExactGrow_row_tie rfl ⟨rfl,rfl⟩ (by kernel_rfl) rfl
  (fun f fn hf hfn=>by
   obtain rfl:f=3:=(Zaa (ovA.symm.trans hf)).symm;obtain rfl:fn=Tryz.f3:=(Zaa (Tryz.func3.symm.trans hfn)).symm;exact⟨by kernel_rfl,fun j t ht=>by
    rw[Tryz.params3] at ht;have hm:t∈[30,31]:=by simpa using ZeH ht
    have hall:([30,31].all fun u=> !Tryz.prog.wantsStandIn u)=true:=by kernel_rfl
    exact (show Tryz.prog.wantsStandIn t=false by simpa using ZaK.1 hall t hm)⟩)
  (by kernel_rfl)
end Go.Proofs.YtpbcpllkopnmkaaGreatDoor
