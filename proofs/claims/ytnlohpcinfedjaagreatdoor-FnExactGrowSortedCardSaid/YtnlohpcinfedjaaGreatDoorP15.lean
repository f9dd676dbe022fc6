/- Lemmas. Conditions: none. -/
import Derived.Test.YtnlohpcinfedjaaGreatDoorP14
set_option linter.all false
set_option maxHeartbeats 8000000
set_option maxRecDepth 100000
namespace Go.Ae
open Go Go.Proofs Go.RowKit
def lawSo.call{W:World}{args:Array Value}(O:Int)(Q:List Int)(Z:List Int)(G:GP (λb=>b<W.heap.size) (λb=>W.heap[b]?))(hn:True)
 (z:rdl (λb=>b<W.heap.size) (λb=>W.heap[b]?) [.int .i64 O,.sl false 1 (Q.map Af),.sl false 1 (Z.map Af)] args.toList):Calls Tryz.prog 3 args W λe W'=>e= .returned (.bool true)/\Below W.heap.size W W':=by
 refine Sp (lawSo.ok) G ?_ z;simp only[Bf,Bg];simp(disch:=omega)only[ZZ,simprocAttr,Ab,lawSo.q,lawSo.ar,lawSo.re,lawSo.fv]
 try exact hn
end Go.Ae
namespace Go.Proofs.YtnlohpcinfedjaaGreatDoor
open Go Go.Ae Go.ChangeShapes Go.WideShapes Go.ChangeAt Go.RowKit
def own:ownKnob Tryz.prog.godebug=none:=by kernel_rfl
def laidOut:laidOutB Tryz.prog=true:=by kernel_rfl
def contract(H:Type)(enc:TypeId×Value->H)(W:World)(base:Nat)(args:Array Value)(ds gs:List (DataW H))(G:List MemPlace)
 (z: ∀(j:Nat) t v,Tryz.f3.params[j]? =some t->args[j]? =some v->Value.okWide Tryz.prog W .any base t v)
 (hW:DataW.Whole enc Tryz.prog Tryz.f3.params.toList Rows.fnExactGrowSortedSpec.vars false W args.toList ds gs G)
 (Q:(DataW.weightsEach Tryz.prog (Tryz.f3.params.toList++Rows.fnExactGrowSortedSpec.plain.varTypes Tryz.prog) (ds++gs)).all (· <=reachBytes)=true)(hL:laidMetH Tryz.prog K5 W):
 Calls Tryz.prog 3 args W λe W'=> ∃v,e= .returned v/\Rows.fnExactGrowSortedSpec.post enc Tryz.prog Tryz.f3 false true false false W args v W':=by
 have aa:=hW;obtain⟨p,q,af,hV,rfl,au,av⟩:=hW;have hA:DataW.TrodAll enc Tryz.prog W 0 (λ_=>true) true Tryz.f3.params.toList args.toList ds p:=af;rw[Tryz.params3] at hA z Q;obtain⟨v0,aw,d0,an,p0,q0,ag,rfl,rfl,h0,r0⟩:=trodAll_cons hA;obtain⟨v1,ax,d1,ao,p1,q1,rfl,rfl,rfl,h1,r1⟩:=trodAll_cons r0;obtain⟨v2,ay,d2,aq,p2,q2,rfl,rfl,rfl,h2,r2⟩:=trodAll_cons r1;obtain⟨rfl,rfl,rfl⟩:=trodAll_nil r2;obtain rfl:args= #[v0,v1,v2]:=by cases args;simp_all
 obtain⟨z8,z9,ak,am,ai,aj,rfl,rfl⟩:=Qw hL hV;have hg:=YJ hL;have hw: ∀(j:Nat) (t:TypeId) (d:DataW H),#[2,22,22].toList[j]? =some t->[d0,d1,d2][j]? =some d->(d.weights Tryz.prog t).all (· <=reachBytes)=true:=by
  intro j t d ht hd;rw[Fk] at Q⊢;intro k hk;exact Q k (DataW.weights_mem_each (j:=j) (t:=t) (d:=d) (by rw[F4];exact ht;exact (CL.1 ht).1) (by rw[F4];exact hd;exact (CL.1 hd).1) k hk)
 obtain⟨c0,rfl⟩:=okWide_int Tryz.underlying2 (z 0 2 v0 rfl rfl);obtain⟨a1,b1,c1,rfl⟩:=okWide_slice Tryz.underlying22 (z 1 22 v1 rfl rfl);obtain⟨a2,b2,c2,rfl⟩:=okWide_slice Tryz.underlying22 (z 2 22 v2 rfl rfl);have ab:=h0;obtain⟨f0,g0⟩:=h0;have ac:=h1;obtain⟨f1,g1⟩:=h1;have ad:=h2;obtain⟨f2,g2⟩:=h2;obtain⟨x0,s0,m0⟩:=Nj Tryz.underlying2 f0 _ _ g0 (hw 0 2 d0 rfl rfl);obtain⟨x1,s1,m1⟩:=dA f1 _ _ g1 (hw 1 22 d1 rfl rfl);obtain⟨x2,s2,m2⟩:=dA f2 _ _ g2 (hw 2 22 d2 rfl rfl);obtain⟨z0,y0,e0,t0,u0⟩:=s0;obtain⟨rfl,rfl⟩:=xB (show [Value.int .i64 c0]=z0::y0 from e0);obtain⟨z1,y1,e1,t1,u1⟩:=s1;obtain⟨rfl,rfl⟩:=xB (show [Value.slice a1 b1 c1]=z1::y1 from e1);obtain⟨z2,y2,e2,t2,u2⟩:=s2;obtain⟨rfl,rfl⟩:=xB (show [Value.slice a2 b2 c2]=z2::y2 from e2);have ah:rdl (λb=>b<W.heap.size) (λb=>W.heap[b]?) [.int .i64 x0,.sl false 1 (x1.map Af),.sl false 1 (x2.map Af)] (#[Value.int .i64 c0,Value.slice a1 b1 c1,Value.slice a2 b2 c2]:Array Value).toList:=
  ⟨_,_,rfl,t0,_,_,rfl,t1,_,_,rfl,t2,rfl⟩
 have O: ∀x∈p0++(p1++(p2++[]))++[.cell 0 0,.cell 1 0],x.block<W.heap.size:=λx Z=>aa.lt x Z
 refine (lawSo.call x0 x1 x2 hg (trivial) ah).mono λe W' ⟨he,hB⟩=> ?_
 subst he;refine⟨_,rfl,[d0,d1,d2],[tok enc z8,tok enc z9],_,[],p0++(p1++(p2++[])),_,aa,?_,?_,ZW enc hB ak am ai aj _,hB.frame _,λh=>by cases h⟩
 .exact trodAll_cons_mk (shut_bool Tryz.underlying4 _) trodAll_mk0
 .refine trodAll_cons_mk ?_ (trodAll_cons_mk ?_ (trodAll_cons_mk ?_ trodAll_mk0))
  .exact Below.trod laidOut (by kernel_rfl) (of_decide_eq_true (by kernel_rfl)) ab hB (λx Z=>O x (by simp[Z]))
  .exact Below.trod laidOut (by kernel_rfl) (of_decide_eq_true (by kernel_rfl)) ac hB (λx Z=>O x (by simp[Z]))
  .exact Below.trod laidOut (by kernel_rfl) (of_decide_eq_true (by kernel_rfl)) ad hB (λx Z=>O x (by simp[Z]))
def lifted(os:Os)(z:os.Started)(H:Type)(enc:TypeId×Value->H):
 ReturnsInHanded {} Tryz.checked os 3 .any (λw args=>(Rows.fnExactGrowSortedSpec.pre enc Tryz.prog Tryz.f3 [] false w args/\laidMetH Tryz.prog K5 w)/\sizedMet enc Tryz.prog Tryz.f3 (OpenSpec.ofChange Rows.fnExactGrowSortedSpec) false w args) (Rows.fnExactGrowSortedSpec.post enc Tryz.prog Tryz.f3 false true false false):=by
 refine returnsInHanded_of_change_and (C:=Tryz.checked) (X:=λw _=>laidMetH Tryz.prog K5 w) (λ_ _ _ hh h=>h.of_heap hh) own z (by kernel_rfl) Tryz.func3
  (ChangeSpec.witness_shaped (enc:=enc) (C:=Tryz.checked) (os:=os) (X:=λw _=>laidMetH Tryz.prog K5 w) false (World.doorLaid Tryz.prog 62 os) #[.int .i64 0,.slice none 0 0,.slice none 0 0] 8 rfl (World.shaped_of_RefB (by kernel_rfl) (by kernel_rfl)) (by kernel_rfl) (by kernel_rfl) (by kernel_rfl) (SF os _)) ?_
 intro W base args ds Z G O hW _ Q hL _;exact contract H enc W base args ds Z G O hW Q hL
end Go.Proofs.YtnlohpcinfedjaaGreatDoor
