/- What is proved: the law FnOrders returns true for every input, and each argument reads afterwards as it read before. Conditions: none. -/
import Derived.Test.YtofkcjmhpnkjhaaGreatP14
set_option linter.all false
set_option maxHeartbeats 8000000
set_option maxRecDepth 100000
namespace Go.Proofs.YtofkcjmhpnkjhaaGreat
open Go Go.Ae Go.ChangeShapes Go.WideShapes Go.ChangeAt Go.RowKit
theorem ovA:Tryz.pinned.checked.prog.funcNamed Rows.fnOrdersRow.func=some 3:=by kernel_rfl
theorem ovD:(Rows.fnOrdersRow.inPlace==Tryz.pinned.checked.prog.inPlace 3)=true:=by kernel_rfl
theorem ovE:(Rows.fnOrdersRow.unfollowed==Tryz.pinned.checked.prog.unfollowed 3)=true:=by kernel_rfl
theorem ovF:(Rows.fnOrdersRow.recurses==Tryz.pinned.checked.prog.recurses 3)=true:=by kernel_rfl
theorem ovG:(Rows.fnOrdersRow.named==Tryz.pinned.checked.prog.varsNamed 3)=true:=by kernel_rfl
theorem ovI:(Rows.fnOrdersRow.lifted==Tryz.pinned.checked.prog.liftsFinal)=true:=by kernel_rfl
theorem ovH:Tryz.pinned.checked.prog.mayEnter=true:=by kernel_rfl
theorem ovB:joinedFacts Tryz.pinned.checked.prog 3 Tryz.f3 Rows.fnOrdersSpec Rows.fnOrdersRow=true:=by unfold joinedFacts;rw[ovD,ovE,ovF,ovG,ovH,ovI,show laidOutB Tryz.pinned.checked.prog=true from laidOut];kernel_rfl
theorem ovC:Tryz.f3.isInstance Tryz.pinned.checked.prog Rows.fnOrdersRow.origin Rows.fnOrdersRow.targs:=of_decide_eq_true (by kernel_rfl)
theorem over:Rows.fnOrdersRow.holds Tryz.pinned (OpenSpec.ofChange Rows.fnOrdersSpec):=
 OpenClaim.holds_of_wide 3 Tryz.f3 rfl rfl rfl rfl rfl rfl rfl ⟨rfl,rfl,rfl,rfl,rfl⟩ rfl rfl rfl rfl rfl ovA Tryz.func3 ovB
  ovC (by unfold Func.isWrapper;first|(rw[Zao (by decide+kernel)];kernel_rfl)|(rw[Zaj (by decide+kernel)];exact⟨rfl,rfl⟩))
  (fun os started H enc _=>lifted os started H enc)
theorem fnOrders_holds:Rows.FnOrdersSaid:=over
end Go.Proofs.YtofkcjmhpnkjhaaGreat
