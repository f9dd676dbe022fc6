/- What is proved: the law FnExactCheckProof returns true for every input, and each argument reads afterwards as it read before. Conditions: none. -/
import Derived.Test.YtkjfcnnfidnpcabGreatP14
set_option linter.all false
set_option maxHeartbeats 8000000
set_option maxRecDepth 100000
namespace Go.Proofs.YtkjfcnnfidnpcabGreat
open Go Go.Ae Go.ChangeShapes Go.WideShapes Go.ChangeAt Go.RowKit
theorem ovA:Tryz.pinned.checked.prog.funcNamed Rows.fnExactCheckProofRow.func=some 3:=by kernel_rfl
theorem ovD:(Rows.fnExactCheckProofRow.inPlace==Tryz.pinned.checked.prog.inPlace 3)=true:=by kernel_rfl
theorem ovE:(Rows.fnExactCheckProofRow.unfollowed==Tryz.pinned.checked.prog.unfollowed 3)=true:=by kernel_rfl
theorem ovF:(Rows.fnExactCheckProofRow.recurses==Tryz.pinned.checked.prog.recurses 3)=true:=by kernel_rfl
theorem ovG:(Rows.fnExactCheckProofRow.named==Tryz.pinned.checked.prog.varsNamed 3)=true:=by kernel_rfl
theorem ovI:(Rows.fnExactCheckProofRow.lifted==Tryz.pinned.checked.prog.liftsFinal)=true:=by kernel_rfl
theorem ovH:Tryz.pinned.checked.prog.mayEnter=true:=by kernel_rfl
theorem ovB:joinedFacts Tryz.pinned.checked.prog 3 Tryz.f3 Rows.fnExactCheckProofSpec Rows.fnExactCheckProofRow=true:=by unfold joinedFacts;rw[ovD,ovE,ovF,ovG,ovH,ovI,show laidOutB Tryz.pinned.checked.prog=true from laidOut];kernel_rfl
theorem ovC:Tryz.f3.isInstance Tryz.pinned.checked.prog Rows.fnExactCheckProofRow.origin Rows.fnExactCheckProofRow.targs:=of_decide_eq_true (by kernel_rfl)
theorem over:Rows.fnExactCheckProofRow.holds Tryz.pinned (OpenSpec.ofChange Rows.fnExactCheckProofSpec):=
 OpenClaim.holds_of_wide 3 Tryz.f3 rfl rfl rfl rfl rfl rfl rfl ⟨rfl,rfl,rfl,rfl,rfl⟩ rfl rfl rfl rfl rfl ovA Tryz.func3 ovB
  ovC (by unfold Func.isWrapper;first|(rw[Zak (by decide+kernel)];kernel_rfl)|(rw[Zai (by decide+kernel)];exact⟨rfl,rfl⟩))
  (fun os started H enc _=>lifted os started H enc)
theorem fnExactCheckProof_holds:Rows.FnExactCheckProofSaid:=over
end Go.Proofs.YtkjfcnnfidnpcabGreat
