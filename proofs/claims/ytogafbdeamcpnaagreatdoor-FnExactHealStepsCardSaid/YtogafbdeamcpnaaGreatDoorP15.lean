/- Lemmas. Conditions: none. -/
import Derived.Test.YtogafbdeamcpnaaGreatDoorP14
set_option linter.all false
set_option maxHeartbeats 8000000
set_option maxRecDepth 100000
namespace Go.Ae
open Go Go.Proofs Go.RowKit
def lawHS.call{W:World}{args:Array Value}(G:Az)(Q:Ah)(Z:List Ab)(x3:List Int)(O:GP (λb=>b<W.heap.size) (λb=>W.heap[b]?))(hn:Om G.Set)
 (z:rdl (λb=>b<W.heap.size) (λb=>W.heap[b]?) [.agg (Az.c G),.agg (Ah.c Q),.sl false 2 (Z.map Ab.c),.sl false 1 (x3.map Al)] args.toList):Calls Tryz.prog 3 args W λe W'=>e= .returned (.bool true)/\Below W.heap.size W W':=by
 refine QP (lawHS.ok) O ?_ z;simp only[Bd,GR];simp(disch:=omega)only[ZA,simprocAttr,Ah.d,lawHS.q,lawHS.re,lawHS.fv];exact hn
end Go.Ae
namespace Go.Proofs.YtogafbdeamcpnaaGreatDoor
open Go Go.Ae Go.ChangeShapes Go.WideShapes Go.ChangeAt Go.RowKit
def own:ownKnob Tryz.prog.godebug=none:=by kernel_rfl
def laidOut:laidOutB Tryz.prog=true:=by kernel_rfl
def contract(H:Type)(enc:TypeId×Value->H)(W:World)(base:Nat)(args:Array Value)(ds gs:List (DataW H))(G:List MemPlace)
 (z: ∀(j:Nat) t v,Tryz.f3.params[j]? =some t->args[j]? =some v->Value.okWide Tryz.prog W .any base t v)
 (hW:DataW.Whole enc Tryz.prog Tryz.f3.params.toList Rows.fnExactHealStepsSpec.vars false W args.toList ds gs G)
 (Z:(DataW.weightsEach Tryz.prog (Tryz.f3.params.toList++Rows.fnExactHealStepsSpec.plain.varTypes Tryz.prog) (ds++gs)).all (· <=reachBytes)=true)(hL:laidMetH Tryz.prog J2 W):
 Calls Tryz.prog 3 args W λe W'=> ∃v,e= .returned v/\Rows.fnExactHealStepsSpec.post enc Tryz.prog Tryz.f3 false true false false W args v W':=by
 have aa:=hW;obtain⟨p,q,ag,hV,rfl,aw,ax⟩:=hW;have hA:DataW.TrodAll enc Tryz.prog W 0 (λ_=>true) true Tryz.f3.params.toList args.toList ds p:=ag;rw[Tryz.params3] at hA z Z;obtain⟨v0,ay,d0,ao,p0,q0,ah,rfl,rfl,h0,r0⟩:=trodAll_cons hA;obtain⟨v1,az,d1,aq,p1,q1,rfl,rfl,rfl,h1,r1⟩:=trodAll_cons r0;obtain⟨v2,a0,d2,au,p2,q2,rfl,rfl,rfl,h2,r2⟩:=trodAll_cons r1;obtain⟨v3,a8,d3,av,p3,q3,rfl,rfl,rfl,h3,r3⟩:=trodAll_cons r2;obtain⟨rfl,rfl,rfl⟩:=trodAll_nil r3;obtain rfl:args= #[v0,v1,v2,v3]:=by cases args;simp_all
 obtain⟨z8,z9,am,an,aj,ak,rfl,rfl⟩:=Pj hL hV;have hg:=Xo hL;have hw: ∀(j:Nat) (t:TypeId) (d:DataW H),#[30,28,31,32].toList[j]? =some t->[d0,d1,d2,d3][j]? =some d->(d.weights Tryz.prog t).all (· <=reachBytes)=true:=by
  intro j t d ht hd;rw[Dp] at Z⊢;intro k hk;exact Z k (DataW.weights_mem_each (j:=j) (t:=t) (d:=d) (by rw[E7];exact ht;exact (Cd.1 ht).1) (by rw[E7];exact hd;exact (Cd.1 hd).1) k hk)
 obtain⟨c0,rfl,_⟩:=okWide_struct Tryz.underlying30 (z 0 30 v0 rfl rfl);obtain⟨c1,rfl,_⟩:=okWide_struct Tryz.underlying28 (z 1 28 v1 rfl rfl);obtain⟨a2,b2,c2,rfl⟩:=okWide_slice Tryz.underlying31 (z 2 31 v2 rfl rfl);obtain⟨a3,b3,c3,rfl⟩:=okWide_slice Tryz.underlying32 (z 3 32 v3 rfl rfl);have ab:=h0;obtain⟨f0,g0⟩:=h0;have ac:=h1;obtain⟨f1,g1⟩:=h1;have ad:=h2;obtain⟨f2,g2⟩:=h2;have af:=h3;obtain⟨f3,g3⟩:=h3;obtain⟨x0,s0,m0⟩:=rSys f0 _ _ g0 (hw 0 30 d0 rfl rfl);obtain⟨x1,s1,m1⟩:=tS f1 _ _ g1 (hw 1 28 d1 rfl rfl);obtain⟨x2,s2,m2⟩:=XE f2 _ _ g2 (hw 2 31 d2 rfl rfl);obtain⟨x3,s3,m3⟩:=ZB f3 _ _ g3 (hw 3 32 d3 rfl rfl);obtain⟨z2,y2,e2,t2,u2⟩:=s2;obtain⟨rfl,rfl⟩:=Zfd (show [Value.slice a2 b2 c2]=z2::y2 from e2);obtain⟨z3,y3,e3,t3,u3⟩:=s3;obtain⟨rfl,rfl⟩:=Zfd (show [Value.slice a3 b3 c3]=z3::y3 from e3);have ai:rdl (λb=>b<W.heap.size) (λb=>W.heap[b]?) [.agg (Az.c x0),.agg (Ah.c x1),.sl false 2 (x2.map Ab.c),.sl false 1 (x3.map Al)] (#[Value.agg c0,Value.agg c1,Value.slice a2 b2 c2,Value.slice a3 b3 c3]:Array Value).toList:=
  ⟨_,_,rfl,⟨c0,rfl,s0⟩,_,_,rfl,⟨c1,rfl,s1⟩,_,_,rfl,t2,_,_,rfl,t3,rfl⟩
 have O: ∀x∈p0++(p1++(p2++(p3++[])))++[.cell 0 0,.cell 1 0],x.block<W.heap.size:=λx Q=>aa.lt x Q
 refine (lawHS.call x0 x1 x2 x3 hg (m0) ai).mono λe W' ⟨he,hB⟩=> ?_
 subst he;refine⟨_,rfl,[d0,d1,d2,d3],[tok enc z8,tok enc z9],_,[],p0++(p1++(p2++(p3++[]))),_,aa,?_,?_,Yw enc hB am an aj ak _,hB.frame _,λh=>by cases h⟩
 .exact trodAll_cons_mk (shut_bool Tryz.underlying4 _) trodAll_mk0
 .refine trodAll_cons_mk ?_ (trodAll_cons_mk ?_ (trodAll_cons_mk ?_ (trodAll_cons_mk ?_ trodAll_mk0)))
  .exact Below.trod laidOut (by kernel_rfl) (of_decide_eq_true (by kernel_rfl)) ab hB (λx Q=>O x (by simp[Q]))
  .exact Below.trod laidOut (by kernel_rfl) (of_decide_eq_true (by kernel_rfl)) ac hB (λx Q=>O x (by simp[Q]))
  .exact Below.trod laidOut (by kernel_rfl) (of_decide_eq_true (by kernel_rfl)) ad hB (λx Q=>O x (by simp[Q]))
  .exact Below.trod laidOut (by kernel_rfl) (of_decide_eq_true (by kernel_rfl)) af hB (λx Q=>O x (by simp[Q]))
def lifted(os:Os)(z:os.Started)(H:Type)(enc:TypeId×Value->H):
 ReturnsInHanded {} Tryz.checked os 3 .any (λw args=>(Rows.fnExactHealStepsSpec.pre enc Tryz.prog Tryz.f3 [] false w args/\laidMetH Tryz.prog J2 w)/\sizedMet enc Tryz.prog Tryz.f3 (OpenSpec.ofChange Rows.fnExactHealStepsSpec) false w args) (Rows.fnExactHealStepsSpec.post enc Tryz.prog Tryz.f3 false true false false):=by
 refine returnsInHanded_of_change_and (C:=Tryz.checked) (X:=λw _=>laidMetH Tryz.prog J2 w) (λ_ _ _ hh h=>h.of_heap hh) own z (by kernel_rfl) Tryz.func3
  (ChangeSpec.witness_shaped (enc:=enc) (C:=Tryz.checked) (os:=os) (X:=λw _=>laidMetH Tryz.prog J2 w) false (World.doorLaid Tryz.prog 47 os) #[.agg #[.slice none 0 0,.slice none 0 0,.slice none 0 0,.int .i64 0],.agg #[.slice none 0 0],.slice none 0 0,.slice none 0 0] 8 rfl (World.shaped_of_RefB (by kernel_rfl) (by kernel_rfl)) (by kernel_rfl) (by kernel_rfl) (by kernel_rfl) (Rk os _)) ?_
 intro W base args ds Z G O hW _ Q hL _;exact contract H enc W base args ds Z G O hW Q hL
end Go.Proofs.YtogafbdeamcpnaaGreatDoor
