/- What is proved: the law FnExactLocalFault returns true for every input, and each argument reads afterwards as it read before. Conditions: none. -/
import Derived.Test.YthegngjaiiopdaaGreatP13
set_option linter.all false
set_option maxHeartbeats 8000000
set_option maxRecDepth 100000
namespace Go.Proofs.YthegngjaiiopdaaGreat
open Go Go.Ae Go.ChangeShapes Go.WideShapes Go.ChangeAt Go.RowKit
theorem ovA:Tryz.pinned.checked.prog.funcNamed Rows.fnExactLocalFaultRow.func=some 5:=by kernel_rfl
theorem ovD:(Rows.fnExactLocalFaultRow.inPlace==Tryz.pinned.checked.prog.inPlace 5)=true:=by kernel_rfl
theorem ovE:(Rows.fnExactLocalFaultRow.unfollowed==Tryz.pinned.checked.prog.unfollowed 5)=true:=by kernel_rfl
theorem ovF:(Rows.fnExactLocalFaultRow.recurses==Tryz.pinned.checked.prog.recurses 5)=true:=by kernel_rfl
theorem ovG:(Rows.fnExactLocalFaultRow.named==Tryz.pinned.checked.prog.varsNamed 5)=true:=by kernel_rfl
theorem ovI:(Rows.fnExactLocalFaultRow.lifted==Tryz.pinned.checked.prog.liftsFinal)=true:=by kernel_rfl
theorem ovH:Tryz.pinned.checked.prog.mayEnter=true:=by kernel_rfl
theorem ovB:joinedFacts Tryz.pinned.checked.prog 5 Tryz.f5 Rows.fnExactLocalFaultSpec Rows.fnExactLocalFaultRow=true:=by unfold joinedFacts;rw[ovD,ovE,ovF,ovG,ovH,ovI,show laidOutB Tryz.pinned.checked.prog=true from laidOut];kernel_rfl
theorem ovC:Tryz.f5.isInstance Tryz.pinned.checked.prog Rows.fnExactLocalFaultRow.origin Rows.fnExactLocalFaultRow.targs:=of_decide_eq_true (by kernel_rfl)
theorem over:Rows.fnExactLocalFaultRow.holds Tryz.pinned (OpenSpec.ofChange Rows.fnExactLocalFaultSpec):=
 OpenClaim.holds_of_wide 5 Tryz.f5 rfl rfl rfl rfl rfl rfl rfl ⟨rfl,rfl,rfl,rfl,rfl⟩ rfl rfl rfl rfl rfl ovA Tryz.func5 ovB
  ovC (by unfold Func.isWrapper;first|(rw[Zam (by decide+kernel)];kernel_rfl)|(rw[Zai (by decide+kernel)];exact⟨rfl,rfl⟩))
  (fun os started H enc _=>lifted os started H enc)
theorem fnExactLocalFault_holds:Rows.FnExactLocalFaultSaid:=over
end Go.Proofs.YthegngjaiiopdaaGreat
