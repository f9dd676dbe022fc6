/- What is proved: the law FnExactIsLocal returns true for every input, and each argument reads afterwards as it read before. Conditions: none. -/
import Derived.Test.YthegngjaiiopdaaGreatP13
set_option linter.all false
set_option maxHeartbeats 8000000
set_option maxRecDepth 100000
namespace Go.Proofs.YthegngjaiiopdaaGreat
open Go Go.Ae Go.ChangeShapes Go.WideShapes Go.ChangeAt Go.RowKit
theorem ovA:Tryz.pinned.checked.prog.funcNamed Rows.fnExactIsLocalRow.func=some 6:=by kernel_rfl
theorem ovD:(Rows.fnExactIsLocalRow.inPlace==Tryz.pinned.checked.prog.inPlace 6)=true:=by kernel_rfl
theorem ovE:(Rows.fnExactIsLocalRow.unfollowed==Tryz.pinned.checked.prog.unfollowed 6)=true:=by kernel_rfl
theorem ovF:(Rows.fnExactIsLocalRow.recurses==Tryz.pinned.checked.prog.recurses 6)=true:=by kernel_rfl
theorem ovG:(Rows.fnExactIsLocalRow.named==Tryz.pinned.checked.prog.varsNamed 6)=true:=by kernel_rfl
theorem ovI:(Rows.fnExactIsLocalRow.lifted==Tryz.pinned.checked.prog.liftsFinal)=true:=by kernel_rfl
theorem ovH:Tryz.pinned.checked.prog.mayEnter=true:=by kernel_rfl
theorem ovB:joinedFacts Tryz.pinned.checked.prog 6 Tryz.f6 Rows.fnExactIsLocalSpec Rows.fnExactIsLocalRow=true:=by unfold joinedFacts;rw[ovD,ovE,ovF,ovG,ovH,ovI,show laidOutB Tryz.pinned.checked.prog=true from laidOut];kernel_rfl
theorem ovC:Tryz.f6.isInstance Tryz.pinned.checked.prog Rows.fnExactIsLocalRow.origin Rows.fnExactIsLocalRow.targs:=of_decide_eq_true (by kernel_rfl)
theorem over:Rows.fnExactIsLocalRow.holds Tryz.pinned (OpenSpec.ofChange Rows.fnExactIsLocalSpec):=
 OpenClaim.holds_of_wide 6 Tryz.f6 rfl rfl rfl rfl rfl rfl rfl ⟨rfl,rfl,rfl,rfl,rfl⟩ rfl rfl rfl rfl rfl ovA Tryz.func6 ovB
  ovC (by unfold Func.isWrapper;first|(rw[Zam (by decide+kernel)];kernel_rfl)|(rw[Zai (by decide+kernel)];exact⟨rfl,rfl⟩))
  (fun os started H enc _=>lifted os started H enc)
theorem fnExactIsLocal_holds:Rows.FnExactIsLocalSaid:=over
end Go.Proofs.YthegngjaiiopdaaGreat
