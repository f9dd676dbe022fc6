/- Lemmas. Conditions: none. -/
import Derived.Test.YtpnmcdpbphpklaaGreatDoorP16
set_option linter.all false
set_option maxHeartbeats 8000000
set_option maxRecDepth 100000
namespace Go.Ae
open Go Go.Proofs Go.RowKit
def lawWE.call{W:World}{args:Array Value}(G:Am)(Q:Ab)(Z:Int)(x3:Int)(O:GP (λb=>b<W.heap.size) (λb=>W.heap[b]?))(hn:OB G.Set)
 (z:rdl (λb=>b<W.heap.size) (λb=>W.heap[b]?) [.agg (Am.c G),.agg (Ab.c Q),.int .i64 Z,.int .i64 x3] args.toList):Calls Tryz.prog 3 args W λe W'=>e= .returned (.bool true)/\Below W.heap.size W W':=by
 refine R2 (lawWE.ok) O ?_ z;simp only[Bb,Cs];simp(disch:=omega)only[ZZ,simprocAttr,rch,lawWE.q,lawWE.ar,lawWE.re,lawWE.fv];exact hn
end Go.Ae
namespace Go.Proofs.YtpnmcdpbphpklaaGreatDoor
open Go Go.Ae Go.ChangeShapes Go.WideShapes Go.ChangeAt Go.RowKit
def own:ownKnob Tryz.prog.godebug=none:=by kernel_rfl
def laidOut:laidOutB Tryz.prog=true:=by kernel_rfl
def contract(H:Type)(enc:TypeId×Value->H)(W:World)(base:Nat)(args:Array Value)(ds gs:List (DataW H))(G:List MemPlace)
 (z: ∀(j:Nat) t v,Tryz.f3.params[j]? =some t->args[j]? =some v->Value.okWide Tryz.prog W .any base t v)
 (hW:DataW.Whole enc Tryz.prog Tryz.f3.params.toList Rows.fnExactWorstErrorsSpec.vars false W args.toList ds gs G)
 (Z:(DataW.weightsEach Tryz.prog (Tryz.f3.params.toList++Rows.fnExactWorstErrorsSpec.plain.varTypes Tryz.prog) (ds++gs)).all (· <=reachBytes)=true)(hL:laidMetH Tryz.prog Ip W):
 Calls Tryz.prog 3 args W λe W'=> ∃v,e= .returned v/\Rows.fnExactWorstErrorsSpec.post enc Tryz.prog Tryz.f3 false true false false W args v W':=by
 have aa:=hW;obtain⟨p,q,ag,hV,rfl,hfz,ao⟩:=hW;have hA:DataW.TrodAll enc Tryz.prog W 0 (λ_=>true) true Tryz.f3.params.toList args.toList ds p:=ag;rw[Tryz.params3] at hA z Z;obtain⟨v0,aq,d0,aj,p0,q0,ah,rfl,rfl,h0,r0⟩:=trodAll_cons hA;obtain⟨v1,au,d1,ak,p1,q1,rfl,rfl,rfl,h1,r1⟩:=trodAll_cons r0;obtain⟨v2,av,d2,am,p2,q2,rfl,rfl,rfl,h2,r2⟩:=trodAll_cons r1;obtain⟨v3,aw,d3,an,p3,q3,rfl,rfl,rfl,h3,r3⟩:=trodAll_cons r2;obtain⟨rfl,rfl,rfl⟩:=trodAll_nil r3;obtain rfl:args= #[v0,v1,v2,v3]:=by cases args;simp_all
 obtain⟨rfl,rfl⟩:=trodVars_none hV;have hg:=XW hL;have hw: ∀(j:Nat) (t:TypeId) (d:DataW H),#[30,28,2,2].toList[j]? =some t->[d0,d1,d2,d3][j]? =some d->(d.weights Tryz.prog t).all (· <=reachBytes)=true:=by
  intro j t d ht hd;rw[DV] at Z⊢;intro k hk;exact Z k (DataW.weights_mem_each (j:=j) (t:=t) (d:=d) (by rw[DQ];exact ht;exact (BJ.1 ht).1) (by rw[DQ];exact hd;exact (BJ.1 hd).1) k hk)
 obtain⟨c0,rfl,_⟩:=okWide_struct Tryz.underlying30 (z 0 30 v0 rfl rfl);obtain⟨c1,rfl,_⟩:=okWide_struct Tryz.underlying28 (z 1 28 v1 rfl rfl);obtain⟨c2,rfl⟩:=okWide_int Tryz.underlying2 (z 2 2 v2 rfl rfl);obtain⟨c3,rfl⟩:=okWide_int Tryz.underlying2 (z 3 2 v3 rfl rfl);have ab:=h0;obtain⟨f0,g0⟩:=h0;have ac:=h1;obtain⟨f1,g1⟩:=h1;have ad:=h2;obtain⟨f2,g2⟩:=h2;have af:=h3;obtain⟨f3,g3⟩:=h3;obtain⟨x0,s0,m0⟩:=rSys f0 _ _ g0 (hw 0 30 d0 rfl rfl);obtain⟨x1,s1,m1⟩:=wZ f1 _ _ g1 (hw 1 28 d1 rfl rfl);obtain⟨x2,s2,m2⟩:=Zw Tryz.underlying2 f2 _ _ g2 (hw 2 2 d2 rfl rfl);obtain⟨x3,s3,m3⟩:=Zw Tryz.underlying2 f3 _ _ g3 (hw 3 2 d3 rfl rfl);obtain⟨z2,y2,e2,t2,u2⟩:=s2;obtain⟨rfl,rfl⟩:=Zfb (show [Value.int .i64 c2]=z2::y2 from e2);obtain⟨z3,y3,e3,t3,u3⟩:=s3;obtain⟨rfl,rfl⟩:=Zfb (show [Value.int .i64 c3]=z3::y3 from e3);have ai:rdl (λb=>b<W.heap.size) (λb=>W.heap[b]?) [.agg (Am.c x0),.agg (Ab.c x1),.int .i64 x2,.int .i64 x3] (#[Value.agg c0,Value.agg c1,Value.int .i64 c2,Value.int .i64 c3]:Array Value).toList:=
  ⟨_,_,rfl,⟨c0,rfl,s0⟩,_,_,rfl,⟨c1,rfl,s1⟩,_,_,rfl,t2,_,_,rfl,t3,rfl⟩
 have O: ∀x∈p0++(p1++(p2++(p3++[])))++[],x.block<W.heap.size:=λx Q=>aa.lt x Q
 refine (lawWE.call x0 x1 x2 x3 hg (m0) ai).mono λe W' ⟨he,hB⟩=> ?_
 subst he;refine⟨_,rfl,[d0,d1,d2,d3],[],_,[],p0++(p1++(p2++(p3++[]))),[],aa,?_,?_,Below.trodVars laidOut hB (by kernel_rfl) hV,hB.frame _,λh=>by cases h⟩
 .exact trodAll_cons_mk (shut_bool Tryz.underlying4 _) trodAll_mk0
 .refine trodAll_cons_mk ?_ (trodAll_cons_mk ?_ (trodAll_cons_mk ?_ (trodAll_cons_mk ?_ trodAll_mk0)))
  .exact Below.trod laidOut (by kernel_rfl) (of_decide_eq_true (by kernel_rfl)) ab hB (λx Q=>O x (by simp[Q]))
  .exact Below.trod laidOut (by kernel_rfl) (of_decide_eq_true (by kernel_rfl)) ac hB (λx Q=>O x (by simp[Q]))
  .exact Below.trod laidOut (by kernel_rfl) (of_decide_eq_true (by kernel_rfl)) ad hB (λx Q=>O x (by simp[Q]))
  .exact Below.trod laidOut (by kernel_rfl) (of_decide_eq_true (by kernel_rfl)) af hB (λx Q=>O x (by simp[Q]))
def lifted(os:Os)(G:os.Started)(H:Type)(enc:TypeId×Value->H):
 ReturnsInHanded {} Tryz.checked os 3 .any (λw z=>(Rows.fnExactWorstErrorsSpec.pre enc Tryz.prog Tryz.f3 [] false w z/\laidMetH Tryz.prog Ip w)/\sizedMet enc Tryz.prog Tryz.f3 (OpenSpec.ofChange Rows.fnExactWorstErrorsSpec) false w z) (Rows.fnExactWorstErrorsSpec.post enc Tryz.prog Tryz.f3 false true false false):=by
 refine returnsInHanded_of_change_and (C:=Tryz.checked) (X:=λw _=>laidMetH Tryz.prog Ip w) (λ_ _ _ hh h=>h.of_heap hh) own G (by kernel_rfl) Tryz.func3
  (ChangeSpec.witness_shaped (enc:=enc) (C:=Tryz.checked) (os:=os) (X:=λw _=>laidMetH Tryz.prog Ip w) false (World.laidAll Tryz.prog os Ip) #[.agg #[.slice none 0 0,.slice none 0 0,.slice none 0 0,.int .i64 0],.agg #[.slice none 0 0],.int .i64 0,.int .i64 0] 8 (World.laidAll_os _ _ _) (World.shaped_of_ZipB (by kernel_rfl) (by kernel_rfl)) (by kernel_rfl) (by kernel_rfl) (by kernel_rfl) (RP os _)) ?_
 intro W base z ds gs O Q hW _ Z hL _;exact contract H enc W base z ds gs O Q hW Z hL
end Go.Proofs.YtpnmcdpbphpklaaGreatDoor
