/- What is proved: the law FnExactRealize returns true for every input, and each argument reads afterwards as it read before. Conditions: none. -/
import Derived.Test.YtpgdfagfkjbokaaGreatDoorP17
import Derived.Test.YtpgdfagfkjbokaaGreatDoorTie
import Derived.Test.YtpgdfagfkjbokaaGreatDoorCards
import Derived.SevenTiedAt
set_option linter.all false
set_option maxHeartbeats 8000000
set_option maxRecDepth 100000
namespace Go.Proofs.YtpgdfagfkjbokaaGreatDoor
open Go Go.Ae Go.ChangeShapes Go.WideShapes Go.ChangeAt Go.RowKit
def ovA:Tryz.pinned.checked.prog.funcNamed Rows.fnExactRealizeRow.func=some 3:=by kernel_rfl
def ovD:(Rows.fnExactRealizeRow.inPlace==Tryz.pinned.checked.prog.inPlace 3)=true:=by kernel_rfl
def ovE:(Rows.fnExactRealizeRow.unfollowed==Tryz.pinned.checked.prog.unfollowed 3)=true:=by kernel_rfl
def ovF:(Rows.fnExactRealizeRow.recurses==Tryz.pinned.checked.prog.recurses 3)=true:=by kernel_rfl
def ovG:(Rows.fnExactRealizeRow.named==Tryz.pinned.checked.prog.varsNamed 3)=true:=by kernel_rfl
def ovI:(Rows.fnExactRealizeRow.lifted==Tryz.pinned.checked.prog.liftsFinal)=true:=by kernel_rfl
def ovH:Tryz.pinned.checked.prog.mayEnter=true:=by kernel_rfl
def ovB:joinedFacts Tryz.pinned.checked.prog 3 Tryz.f3 Rows.fnExactRealizeSpec Rows.fnExactRealizeRow=true:=by unfold joinedFacts;rw[ovD,ovE,ovF,ovG,ovH,ovI,show laidOutB Tryz.pinned.checked.prog=true from laidOut];kernel_rfl
def ovC:Tryz.f3.isInstance Tryz.pinned.checked.prog Rows.fnExactRealizeRow.origin Rows.fnExactRealizeRow.targs:=of_decide_eq_true (by kernel_rfl)
def over:Rows.fnExactRealizeRow.holds Tryz.pinned (OpenSpec.ofChange Rows.fnExactRealizeSpec):=
 OpenClaim.holds_of_wide 3 Tryz.f3 rfl rfl rfl rfl rfl rfl rfl ⟨rfl,rfl,rfl,rfl,rfl⟩ rfl rfl rfl rfl rfl ovA Tryz.func3 ovB
  ovC (by unfold Func.isWrapper;first|(rw[Ai (by decide+kernel)];kernel_rfl)|(rw[Af (by decide+kernel)];exact⟨rfl,rfl⟩))
  (λos z H enc _=>lifted os z H enc)
def fnExactRealize_holds:Rows.FnExactRealizeCardSaid:=
 Claim7.holds_tied_plain_at .later [] [.data,.data,.data] true Rows.fnExactRealizeCard.stood.harness false over (λ_ h=>by cases h) (by kernel_rfl) (λ_ h=>by cases h) fnExactRealize_row_tie rfl ⟨rfl,rfl⟩ (by kernel_rfl) rfl
  (λf fn hf O=>by
   obtain rfl:f=3:=(Ay (ovA.symm.trans hf)).symm;obtain rfl:fn=Tryz.f3:=(Ay (Tryz.func3.symm.trans O)).symm;exact⟨by kernel_rfl,λj t Q=>by
    rw[Tryz.params3] at Q;have Z:t∈[33,28,37,2]:=by simpa using Zfb Q
    have z:([33,28,37,2].all λu=> !Tryz.prog.wantsStandIn u)=true:=by kernel_rfl
    exact (show Tryz.prog.wantsStandIn t=false by simpa using CA.1 z t Z)⟩)
  (by kernel_rfl)
end Go.Proofs.YtpgdfagfkjbokaaGreatDoor
