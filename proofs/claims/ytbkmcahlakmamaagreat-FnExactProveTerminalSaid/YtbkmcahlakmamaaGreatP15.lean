/- What is proved: the law FnExactProveTerminal returns true for every input, and each argument reads afterwards as it read before. Conditions: none. -/
import Derived.Test.YtbkmcahlakmamaaGreatP14
set_option linter.all false
set_option maxHeartbeats 8000000
set_option maxRecDepth 100000
namespace Go.Proofs.YtbkmcahlakmamaaGreat
open Go Go.Ae Go.ChangeShapes Go.WideShapes Go.ChangeAt Go.RowKit
theorem ovA:Tryz.pinned.checked.prog.funcNamed Rows.fnExactProveTerminalRow.func=some 3:=by kernel_rfl
theorem ovD:(Rows.fnExactProveTerminalRow.inPlace==Tryz.pinned.checked.prog.inPlace 3)=true:=by kernel_rfl
theorem ovE:(Rows.fnExactProveTerminalRow.unfollowed==Tryz.pinned.checked.prog.unfollowed 3)=true:=by kernel_rfl
theorem ovF:(Rows.fnExactProveTerminalRow.recurses==Tryz.pinned.checked.prog.recurses 3)=true:=by kernel_rfl
theorem ovG:(Rows.fnExactProveTerminalRow.named==Tryz.pinned.checked.prog.varsNamed 3)=true:=by kernel_rfl
theorem ovI:(Rows.fnExactProveTerminalRow.lifted==Tryz.pinned.checked.prog.liftsFinal)=true:=by kernel_rfl
theorem ovH:Tryz.pinned.checked.prog.mayEnter=true:=by kernel_rfl
theorem ovB:joinedFacts Tryz.pinned.checked.prog 3 Tryz.f3 Rows.fnExactProveTerminalSpec Rows.fnExactProveTerminalRow=true:=by unfold joinedFacts;rw[ovD,ovE,ovF,ovG,ovH,ovI,show laidOutB Tryz.pinned.checked.prog=true from laidOut];kernel_rfl
theorem ovC:Tryz.f3.isInstance Tryz.pinned.checked.prog Rows.fnExactProveTerminalRow.origin Rows.fnExactProveTerminalRow.targs:=of_decide_eq_true (by kernel_rfl)
theorem over:Rows.fnExactProveTerminalRow.holds Tryz.pinned (OpenSpec.ofChange Rows.fnExactProveTerminalSpec):=
 OpenClaim.holds_of_wide 3 Tryz.f3 rfl rfl rfl rfl rfl rfl rfl ⟨rfl,rfl,rfl,rfl,rfl⟩ rfl rfl rfl rfl rfl ovA Tryz.func3 ovB
  ovC (by unfold Func.isWrapper;first|(rw[Zao (by decide+kernel)];kernel_rfl)|(rw[Zai (by decide+kernel)];exact⟨rfl,rfl⟩))
  (fun os started H enc _=>lifted os started H enc)
theorem fnExactProveTerminal_holds:Rows.FnExactProveTerminalSaid:=over
end Go.Proofs.YtbkmcahlakmamaaGreat
