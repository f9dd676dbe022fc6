/- Lemmas. Conditions: none. -/
import Derived.Test.YtldneeclgjaehabGreatDoorP14
set_option linter.all false
set_option maxHeartbeats 8000000
set_option maxRecDepth 100000
namespace Go.Ae
open Go Go.Proofs Go.RowKit
def lawRF.call{W:World}{args:Array Value}(O:AM)(Q:Af)(Z:List Int)(hg:GP (λb=>b<W.heap.size) (λb=>W.heap[b]?))(hn:PT O.Set)
 (z:rdl (λb=>b<W.heap.size) (λb=>W.heap[b]?) [.agg (AM.c O),.agg (Af.c Q),.sl false 1 (Z.map Aj)] args.toList):Calls Tryz.prog 3 args W λe W'=>e= .returned (.bool true)/\Below W.heap.size W W':=by
 refine SP (lawRF.ok) hg ?_ z;simp only[Br,Gl];simp only[ZA,lawRF.q,lawRF.re,lawRF.fv,Af.d_c]
 try exact hn
end Go.Ae
namespace Go.Proofs.YtldneeclgjaehabGreatDoor
open Go Go.Ae Go.ChangeShapes Go.WideShapes Go.ChangeAt Go.RowKit
def own:ownKnob Tryz.prog.godebug=none:=by kernel_rfl
def laidOut:laidOutB Tryz.prog=true:=by kernel_rfl
def contract(H:Type)(enc:TypeId×Value->H)(W:World)(base:Nat)(args:Array Value)(ds gs:List (DataW H))(O:List MemPlace)
 (z: ∀(j:Nat) t v,Tryz.f3.params[j]? =some t->args[j]? =some v->Value.okWide Tryz.prog W .any base t v)
 (hW:DataW.Whole enc Tryz.prog Tryz.f3.params.toList Rows.fnExactReseedFormSpec.vars false W args.toList ds gs O)
 (Z:(DataW.weightsEach Tryz.prog (Tryz.f3.params.toList++Rows.fnExactReseedFormSpec.plain.varTypes Tryz.prog) (ds++gs)).all (· <=reachBytes)=true)(hL:laidMetH Tryz.prog Jx W):
 Calls Tryz.prog 3 args W λe W'=> ∃v,e= .returned v/\Rows.fnExactReseedFormSpec.post enc Tryz.prog Tryz.f3 false true false false W args v W':=by
 have aa:=hW;obtain⟨p,q,af,hV,rfl,am,an⟩:=hW;have hA:DataW.TrodAll enc Tryz.prog W 0 (λ_=>true) true Tryz.f3.params.toList args.toList ds p:=af;rw[Tryz.params3] at hA z Z;obtain⟨v0,ao,d0,ai,p0,q0,ag,rfl,rfl,h0,r0⟩:=trodAll_cons hA;obtain⟨v1,aq,d1,aj,p1,q1,rfl,rfl,rfl,h1,r1⟩:=trodAll_cons r0;obtain⟨v2,au,d2,ak,p2,q2,rfl,rfl,rfl,h2,r2⟩:=trodAll_cons r1;obtain⟨rfl,rfl,rfl⟩:=trodAll_nil r2;obtain rfl:args= #[v0,v1,v2]:=by cases args;simp_all
 obtain⟨rfl,rfl⟩:=trodVars_none hV;have hg:=ZE hL;have hw: ∀(j:Nat) (t:TypeId) (d:DataW H),#[30,34,35].toList[j]? =some t->[d0,d1,d2][j]? =some d->(d.weights Tryz.prog t).all (· <=reachBytes)=true:=by
  intro j t d ht hd;rw[CF] at Z⊢;intro k hk;exact Z k (DataW.weights_mem_each (j:=j) (t:=t) (d:=d) (by rw[Db];exact ht;exact (Bi.1 ht).1) (by rw[Db];exact hd;exact (Bi.1 hd).1) k hk)
 obtain⟨c0,rfl,_⟩:=okWide_struct Tryz.underlying30 (z 0 30 v0 rfl rfl);obtain⟨c1,rfl,_⟩:=okWide_struct Tryz.underlying34 (z 1 34 v1 rfl rfl);obtain⟨a2,b2,c2,rfl⟩:=okWide_slice Tryz.underlying35 (z 2 35 v2 rfl rfl);have ab:=h0;obtain⟨f0,g0⟩:=h0;have ac:=h1;obtain⟨f1,g1⟩:=h1;have ad:=h2;obtain⟨f2,g2⟩:=h2;obtain⟨x0,s0,m0⟩:=rSys f0 _ _ g0 (hw 0 30 d0 rfl rfl);obtain⟨x1,s1,m1⟩:=rFrm f1 _ _ g1 (hw 1 34 d1 rfl rfl);obtain⟨x2,s2,m2⟩:=Vg f2 _ _ g2 (hw 2 35 d2 rfl rfl);obtain⟨z2,y2,e2,t2,u2⟩:=s2;obtain⟨rfl,rfl⟩:=ZeY (show [Value.slice a2 b2 c2]=z2::y2 from e2);have ah:rdl (λb=>b<W.heap.size) (λb=>W.heap[b]?) [.agg (AM.c x0),.agg (Af.c x1),.sl false 1 (x2.map Aj)] (#[Value.agg c0,Value.agg c1,Value.slice a2 b2 c2]:Array Value).toList:=
  ⟨_,_,rfl,⟨c0,rfl,s0⟩,_,_,rfl,⟨c1,rfl,s1⟩,_,_,rfl,t2,rfl⟩
 have Q: ∀x∈p0++(p1++(p2++[]))++[],x.block<W.heap.size:=λx hx=>aa.lt x hx
 refine (lawRF.call x0 x1 x2 hg (m0) ah).mono λe W' ⟨he,hB⟩=> ?_
 subst he;refine⟨_,rfl,[d0,d1,d2],[],_,[],p0++(p1++(p2++[])),[],aa,?_,?_,Below.trodVars laidOut hB (by kernel_rfl) hV,hB.frame _,λh=>by cases h⟩
 .exact trodAll_cons_mk (shut_bool Tryz.underlying4 _) trodAll_mk0
 .refine trodAll_cons_mk ?_ (trodAll_cons_mk ?_ (trodAll_cons_mk ?_ trodAll_mk0))
  .exact Below.trod laidOut (by kernel_rfl) (of_decide_eq_true (by kernel_rfl)) ab hB (λx hx=>Q x (by simp[hx]))
  .exact Below.trod laidOut (by kernel_rfl) (of_decide_eq_true (by kernel_rfl)) ac hB (λx hx=>Q x (by simp[hx]))
  .exact Below.trod laidOut (by kernel_rfl) (of_decide_eq_true (by kernel_rfl)) ad hB (λx hx=>Q x (by simp[hx]))
def lifted(os:Os)(z:os.Started)(H:Type)(enc:TypeId×Value->H):
 ReturnsInHanded {} Tryz.checked os 3 .any (λw args=>(Rows.fnExactReseedFormSpec.pre enc Tryz.prog Tryz.f3 [] false w args/\laidMetH Tryz.prog Jx w)/\sizedMet enc Tryz.prog Tryz.f3 (OpenSpec.ofChange Rows.fnExactReseedFormSpec) false w args) (Rows.fnExactReseedFormSpec.post enc Tryz.prog Tryz.f3 false true false false):=by
 refine returnsInHanded_of_change_and (C:=Tryz.checked) (X:=λw _=>laidMetH Tryz.prog Jx w) (λ_ _ _ hh h=>h.of_heap hh) own z (by kernel_rfl) Tryz.func3
  (ChangeSpec.witness_shaped (enc:=enc) (C:=Tryz.checked) (os:=os) (X:=λw _=>laidMetH Tryz.prog Jx w) false (World.laidAll Tryz.prog os Jx) #[.agg #[.slice none 0 0,.slice none 0 0,.slice none 0 0,.int .i64 0],.agg #[.int .i64 0,.slice none 0 0,.slice none 0 0],.slice none 0 0] 8 (World.laidAll_os _ _ _) (World.shaped_of_ZipB (by kernel_rfl) (by kernel_rfl)) (by kernel_rfl) (by kernel_rfl) (by kernel_rfl) (Ti os _)) ?_
 intro W base args ds gs O Q hW _ Z hL _;exact contract H enc W base args ds gs O Q hW Z hL
end Go.Proofs.YtldneeclgjaehabGreatDoor
