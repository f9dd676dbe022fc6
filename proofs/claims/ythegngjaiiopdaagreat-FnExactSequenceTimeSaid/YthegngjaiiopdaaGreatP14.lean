/- What is proved: the law FnExactSequenceTime returns true for every input, and each argument reads afterwards as it read before. Conditions: none. -/
import Derived.Test.YthegngjaiiopdaaGreatP13
set_option linter.all false
set_option maxHeartbeats 8000000
set_option maxRecDepth 100000
namespace Go.Proofs.YthegngjaiiopdaaGreat
open Go Go.Ae Go.ChangeShapes Go.WideShapes Go.ChangeAt Go.RowKit
theorem ovA:Tryz.pinned.checked.prog.funcNamed Rows.fnExactSequenceTimeRow.func=some 4:=by kernel_rfl
theorem ovD:(Rows.fnExactSequenceTimeRow.inPlace==Tryz.pinned.checked.prog.inPlace 4)=true:=by kernel_rfl
theorem ovE:(Rows.fnExactSequenceTimeRow.unfollowed==Tryz.pinned.checked.prog.unfollowed 4)=true:=by kernel_rfl
theorem ovF:(Rows.fnExactSequenceTimeRow.recurses==Tryz.pinned.checked.prog.recurses 4)=true:=by kernel_rfl
theorem ovG:(Rows.fnExactSequenceTimeRow.named==Tryz.pinned.checked.prog.varsNamed 4)=true:=by kernel_rfl
theorem ovI:(Rows.fnExactSequenceTimeRow.lifted==Tryz.pinned.checked.prog.liftsFinal)=true:=by kernel_rfl
theorem ovH:Tryz.pinned.checked.prog.mayEnter=true:=by kernel_rfl
theorem ovB:joinedFacts Tryz.pinned.checked.prog 4 Tryz.f4 Rows.fnExactSequenceTimeSpec Rows.fnExactSequenceTimeRow=true:=by unfold joinedFacts;rw[ovD,ovE,ovF,ovG,ovH,ovI,show laidOutB Tryz.pinned.checked.prog=true from laidOut];kernel_rfl
theorem ovC:Tryz.f4.isInstance Tryz.pinned.checked.prog Rows.fnExactSequenceTimeRow.origin Rows.fnExactSequenceTimeRow.targs:=of_decide_eq_true (by kernel_rfl)
theorem over:Rows.fnExactSequenceTimeRow.holds Tryz.pinned (OpenSpec.ofChange Rows.fnExactSequenceTimeSpec):=
 OpenClaim.holds_of_wide 4 Tryz.f4 rfl rfl rfl rfl rfl rfl rfl ⟨rfl,rfl,rfl,rfl,rfl⟩ rfl rfl rfl rfl rfl ovA Tryz.func4 ovB
  ovC (by unfold Func.isWrapper;first|(rw[Zak (by decide+kernel)];kernel_rfl)|(rw[Zag (by decide+kernel)];exact⟨rfl,rfl⟩))
  (fun os started H enc _=>lifted os started H enc)
theorem fnExactSequenceTime_holds:Rows.FnExactSequenceTimeSaid:=over
end Go.Proofs.YthegngjaiiopdaaGreat
