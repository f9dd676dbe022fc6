/- What is proved: the law FnLevels returns true for every input, and each argument reads afterwards as it read before. Conditions: none. -/
import Derived.Test.YtpdpgenppceapaaGreatP15
set_option linter.all false
set_option maxHeartbeats 8000000
set_option maxRecDepth 100000
namespace Go.Proofs.YtpdpgenppceapaaGreat
open Go Go.Ae Go.ChangeShapes Go.WideShapes Go.ChangeAt Go.RowKit
def ovA:Tryz.pinned.checked.prog.funcNamed Rows.fnLevelsRow.func=some 4:=by kernel_rfl
def ovD:(Rows.fnLevelsRow.inPlace==Tryz.pinned.checked.prog.inPlace 4)=true:=by kernel_rfl
def ovE:(Rows.fnLevelsRow.unfollowed==Tryz.pinned.checked.prog.unfollowed 4)=true:=by kernel_rfl
def ovF:(Rows.fnLevelsRow.recurses==Tryz.pinned.checked.prog.recurses 4)=true:=by kernel_rfl
def ovG:(Rows.fnLevelsRow.named==Tryz.pinned.checked.prog.varsNamed 4)=true:=by kernel_rfl
def ovI:(Rows.fnLevelsRow.lifted==Tryz.pinned.checked.prog.liftsFinal)=true:=by kernel_rfl
def ovH:Tryz.pinned.checked.prog.mayEnter=true:=by kernel_rfl
def ovB:joinedFacts Tryz.pinned.checked.prog 4 Tryz.f4 Rows.fnLevelsSpec Rows.fnLevelsRow=true:=by unfold joinedFacts;rw[ovD,ovE,ovF,ovG,ovH,ovI,show laidOutB Tryz.pinned.checked.prog=true from laidOut];kernel_rfl
def ovC:Tryz.f4.isInstance Tryz.pinned.checked.prog Rows.fnLevelsRow.origin Rows.fnLevelsRow.targs:=of_decide_eq_true (by kernel_rfl)
def over:Rows.fnLevelsRow.holds Tryz.pinned (OpenSpec.ofChange Rows.fnLevelsSpec):=
 OpenClaim.holds_of_wide 4 Tryz.f4 rfl rfl rfl rfl rfl rfl rfl ⟨rfl,rfl,rfl,rfl,rfl⟩ rfl rfl rfl rfl rfl ovA Tryz.func4 ovB
  ovC (by unfold Func.isWrapper;first|(rw[Ak (by decide+kernel)];kernel_rfl)|(rw[Ad (by decide+kernel)];exact⟨rfl,rfl⟩))
  (λos z H enc _=>lifted os z H enc)
def fnLevels_holds:Rows.FnLevelsSaid:=over
end Go.Proofs.YtpdpgenppceapaaGreat
