/- Lemmas. Conditions: none. -/
import Derived.Test.YtpdpgenppceapaaGreatP14
set_option linter.all false
set_option maxHeartbeats 8000000
set_option maxRecDepth 100000
namespace Go.Ae
open Go Go.Proofs Go.RowKit
def lawLev.call{W:World}{args:Array Value}(G:List Int)(hn:PE G)
 (z:rdl (λb=>b<W.heap.size) (λb=>W.heap[b]?) [.sl false 1 (G.map FO)] args.toList):Calls Tryz.prog 4 args W λe W'=>e= .returned (.bool true)/\Below W.heap.size W W':=by
 refine Tx (lawLev.ok) trivial ?_ z;simp only[Bm,BY];simp(disch:=omega)only[ZZ,simprocAttr,Ab,lawLev.q,lawLev.ar,lawLev.re,lawLev.fv];simp only[Tr,GG,Fj];exact hn
end Go.Ae
namespace Go.Proofs.YtpdpgenppceapaaGreat
open Go Go.Ae Go.ChangeShapes Go.WideShapes Go.ChangeAt Go.RowKit
def own:ownKnob Tryz.prog.godebug=none:=by kernel_rfl
def laidOut:laidOutB Tryz.prog=true:=by kernel_rfl
def contract(H:Type)(enc:TypeId×Value->H)(W:World)(base:Nat)(args:Array Value)(ds gs:List (DataW H))(z:List MemPlace)
 (G: ∀(j:Nat) t v,Tryz.f4.params[j]? =some t->args[j]? =some v->Value.okWide Tryz.prog W .any base t v)
 (hW:DataW.Whole enc Tryz.prog Tryz.f4.params.toList Rows.fnLevelsSpec.vars false W args.toList ds gs z)
 (O:(DataW.weightsEach Tryz.prog (Tryz.f4.params.toList++Rows.fnLevelsSpec.plain.varTypes Tryz.prog) (ds++gs)).all (· <=reachBytes)=true):
 Calls Tryz.prog 4 args W λe W'=> ∃v,e= .returned v/\Rows.fnLevelsSpec.post enc Tryz.prog Tryz.f4 false true false false W args v W':=by
 have Q:=hW;obtain⟨p,q,ab,hV,rfl,ah,ai⟩:=hW;have hA:DataW.TrodAll enc Tryz.prog W 0 (λ_=>true) true Tryz.f4.params.toList args.toList ds p:=ab;rw[Tryz.params4] at hA G O;obtain⟨v0,aj,Z,ag,p0,q0,ac,rfl,rfl,h0,r0⟩:=trodAll_cons hA;obtain⟨rfl,rfl,rfl⟩:=trodAll_nil r0;obtain rfl:args= #[v0]:=by cases args;simp_all
 obtain⟨rfl,rfl⟩:=trodVars_none hV;have hw: ∀(j:Nat) (t:TypeId) (d:DataW H),#[22].toList[j]? =some t->[Z][j]? =some d->(d.weights Tryz.prog t).all (· <=reachBytes)=true:=by
  intro j t d ht hd;rw[HN] at O⊢;intro k hk;exact O k (DataW.weights_mem_each (j:=j) (t:=t) (d:=d) (by rw[Eh];exact ht;exact (B9.1 ht).1) (by rw[CQ];exact hd) k hk)
 obtain⟨a0,b0,c0,rfl⟩:=okWide_slice Tryz.underlying22 (G 0 22 v0 rfl rfl);have aa:=h0;obtain⟨f0,g0⟩:=h0;obtain⟨x0,s0,m0⟩:=oR f0 _ _ g0 (hw 0 22 Z rfl rfl);obtain⟨z0,y0,e0,t0,u0⟩:=s0;obtain⟨rfl,rfl⟩:=List.cons.inj (show [Value.slice a0 b0 c0]=z0::y0 from e0);have af:rdl (λb=>b<W.heap.size) (λb=>W.heap[b]?) [.sl false 1 (x0.map FO)] (#[Value.slice a0 b0 c0]:Array Value).toList:=
  ⟨_,_,rfl,t0,rfl⟩
 have ad: ∀x∈p0++[]++[],x.block<W.heap.size:=λx hx=>by simpa using Q.lt x hx
 refine (lawLev.call x0 (m0) af).mono λe W' ⟨he,hB⟩=> ?_
 subst he;refine⟨_,rfl,[Z],[],_,[],p0++[],[],Q,?_,?_,?_,hB.frame _,λh=>by cases h⟩
 .exact trodAll_cons_mk (shut_bool Tryz.underlying4 _) trodAll_mk0
 .refine trodAll_cons_mk ?_ trodAll_mk0
  .exact Below.trod laidOut (by kernel_rfl) (of_decide_eq_true (by kernel_rfl)) aa hB (λx hx=>ad x (by simp[hx]))
 .exact rfl
def lifted(os:Os)(z:os.Started)(H:Type)(enc:TypeId×Value->H):
 ReturnsInHanded {} Tryz.checked os 4 .any (Rows.fnLevelsSpec.pre6 enc Tryz.prog Tryz.f4 Rows.fnLevelsRow.domain false) (Rows.fnLevelsSpec.post enc Tryz.prog Tryz.f4 false true false false):=by
 refine returnsInHanded_of_change_sized (C:=Tryz.checked) own z (by kernel_rfl) Tryz.func4
  (ChangeSpec.witness6 (enc:=enc) (C:=Tryz.checked) false ⟨#[],#[.slice none 0 0],[]⟩ 8 (by kernel_rfl) (by kernel_rfl) (by kernel_rfl) (by kernel_rfl)) ?_
 intro W base O ds gs G Q hW _ Z _;exact contract H enc W base O ds gs G Q hW Z
end Go.Proofs.YtpdpgenppceapaaGreat
