/- Lemmas. Conditions: none. -/
import Derived.Test.YtelbgmfdnnljoabGreatDoorP14
set_option linter.all false
set_option maxHeartbeats 8000000
set_option maxRecDepth 100000
namespace Go.Ae
open Go Go.Proofs Go.RowKit
def lawPM.call{W:World}{args:Array Value}(O:A9)(Z:Int)(Q:GP (λb=>b<W.heap.size) (λb=>W.heap[b]?))(hn:P0 O.Set)
 (z:rdl (λb=>b<W.heap.size) (λb=>W.heap[b]?) [.agg (A9.c O),.int .i64 Z] args.toList):Calls Tryz.prog 3 args W λe W'=>e= .returned (.bool true)/\Below W.heap.size W W':=by
 refine Si (lawPM.ok) Q ?_ z;simp only[Be,BF];simp(maxSteps:=9^9)(disch:=omega)only[ZZ,simprocAttr,Ab,lawPM.q,lawPM.ar,lawPM.re,lawPM.fv]
 try exact hn
end Go.Ae
namespace Go.Proofs.YtelbgmfdnnljoabGreatDoor
open Go Go.Ae Go.ChangeShapes Go.WideShapes Go.ChangeAt Go.RowKit
def own:ownKnob Tryz.prog.godebug=none:=by kernel_rfl
def laidOut:laidOutB Tryz.prog=true:=by kernel_rfl
def contract(H:Type)(enc:TypeId×Value->H)(W:World)(base:Nat)(args:Array Value)(ds gs:List (DataW H))(O:List MemPlace)
 (z: ∀(j:Nat) t v,Tryz.f3.params[j]? =some t->args[j]? =some v->Value.okWide Tryz.prog W .any base t v)
 (hW:DataW.Whole enc Tryz.prog Tryz.f3.params.toList Rows.fnExactProofSimulationSpec.vars false W args.toList ds gs O)
 (Q:(DataW.weightsEach Tryz.prog (Tryz.f3.params.toList++Rows.fnExactProofSimulationSpec.plain.varTypes Tryz.prog) (ds++gs)).all (· <=reachBytes)=true)(hL:laidMetH Tryz.prog Jb W):
 Calls Tryz.prog 3 args W λe W'=> ∃v,e= .returned v/\Rows.fnExactProofSimulationSpec.post enc Tryz.prog Tryz.f3 false true false false W args v W':=by
 have Z:=hW;obtain⟨p,q,ad,hV,rfl,aj,ak⟩:=hW;have hA:DataW.TrodAll enc Tryz.prog W 0 (λ_=>true) true Tryz.f3.params.toList args.toList ds p:=ad;rw[Tryz.params3] at hA z Q;obtain⟨v0,am,d0,ah,p0,q0,af,rfl,rfl,h0,r0⟩:=trodAll_cons hA;obtain⟨v1,an,d1,ai,p1,q1,rfl,rfl,rfl,h1,r1⟩:=trodAll_cons r0;obtain⟨rfl,rfl,rfl⟩:=trodAll_nil r1;obtain rfl:args= #[v0,v1]:=by cases args;simp_all
 obtain⟨rfl,rfl⟩:=trodVars_none hV;have hg:=Yy hL;have hw: ∀(j:Nat) (t:TypeId) (d:DataW H),#[30,2].toList[j]? =some t->[d0,d1][j]? =some d->(d.weights Tryz.prog t).all (· <=reachBytes)=true:=by
  intro j t d ht hd;rw[CR] at Q⊢;intro k hk;exact Q k (DataW.weights_mem_each (j:=j) (t:=t) (d:=d) (by rw[Io];exact ht;exact (C6.1 ht).1) (by rw[Io];exact hd;exact (C6.1 hd).1) k hk)
 obtain⟨c0,rfl,_⟩:=okWide_struct Tryz.underlying30 (z 0 30 v0 rfl rfl);obtain⟨c1,rfl⟩:=okWide_int Tryz.underlying2 (z 1 2 v1 rfl rfl);have ab:=h0;obtain⟨f0,g0⟩:=h0;have ac:=h1;obtain⟨f1,g1⟩:=h1;obtain⟨x0,s0,m0⟩:=rSys f0 _ _ g0 (hw 0 30 d0 rfl rfl);obtain⟨x1,s1,m1⟩:=fM Tryz.underlying2 f1 _ _ g1 (hw 1 2 d1 rfl rfl);obtain⟨z1,y1,e1,t1,u1⟩:=s1;obtain⟨rfl,rfl⟩:=Zfh (show [Value.int .i64 c1]=z1::y1 from e1);have ag:rdl (λb=>b<W.heap.size) (λb=>W.heap[b]?) [.agg (A9.c x0),.int .i64 x1] (#[Value.agg c0,Value.int .i64 c1]:Array Value).toList:=
  ⟨_,_,rfl,⟨c0,rfl,s0⟩,_,_,rfl,t1,rfl⟩
 have aa: ∀x∈p0++(p1++[])++[],x.block<W.heap.size:=λx hx=>Z.lt x hx
 refine (lawPM.call x0 x1 hg (m0) ag).mono λe W' ⟨he,hB⟩=> ?_
 subst he;refine⟨_,rfl,[d0,d1],[],_,[],p0++(p1++[]),[],Z,?_,?_,Below.trodVars laidOut hB (by kernel_rfl) hV,hB.frame _,λh=>by cases h⟩
 .exact trodAll_cons_mk (shut_bool Tryz.underlying4 _) trodAll_mk0
 .refine trodAll_cons_mk ?_ (trodAll_cons_mk ?_ trodAll_mk0)
  .exact Below.trod laidOut (by kernel_rfl) (of_decide_eq_true (by kernel_rfl)) ab hB (λx hx=>aa x (by simp[hx]))
  .exact Below.trod laidOut (by kernel_rfl) (of_decide_eq_true (by kernel_rfl)) ac hB (λx hx=>aa x (by simp[hx]))
def lifted(os:Os)(z:os.Started)(H:Type)(enc:TypeId×Value->H):
 ReturnsInHanded {} Tryz.checked os 3 .any (λw args=>(Rows.fnExactProofSimulationSpec.pre enc Tryz.prog Tryz.f3 [] false w args/\laidMetH Tryz.prog Jb w)/\sizedMet enc Tryz.prog Tryz.f3 (OpenSpec.ofChange Rows.fnExactProofSimulationSpec) false w args) (Rows.fnExactProofSimulationSpec.post enc Tryz.prog Tryz.f3 false true false false):=by
 refine returnsInHanded_of_change_and (C:=Tryz.checked) (X:=λw _=>laidMetH Tryz.prog Jb w) (λ_ _ _ hh h=>h.of_heap hh) own z (by kernel_rfl) Tryz.func3
  (ChangeSpec.witness_shaped (enc:=enc) (C:=Tryz.checked) (os:=os) (X:=λw _=>laidMetH Tryz.prog Jb w) false (World.laidAll Tryz.prog os Jb) #[.agg #[.slice none 0 0,.slice none 0 0,.slice none 0 0,.int .i64 0],.int .i64 0] 8 (World.laidAll_os _ _ _) (World.shaped_of_ZipB (by kernel_rfl) (by kernel_rfl)) (by kernel_rfl) (by kernel_rfl) (by kernel_rfl) (S6 os _)) ?_
 intro W base args ds gs O Q hW _ Z hL _;exact contract H enc W base args ds gs O Q hW Z hL
end Go.Proofs.YtelbgmfdnnljoabGreatDoor
