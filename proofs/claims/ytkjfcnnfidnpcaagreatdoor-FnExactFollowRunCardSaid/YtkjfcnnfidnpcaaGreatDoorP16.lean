/- Lemmas. Conditions: none. -/
import Derived.Test.YtkjfcnnfidnpcaaGreatDoorP15
set_option linter.all false
set_option maxHeartbeats 8000000
set_option maxRecDepth 100000
namespace Go.Ae
open Go Go.Proofs Go.RowKit
def lawFl.call{W:World}{args:Array Value}(O:AF)(Z:List Int)(x2:Int)(Q:GP (λb=>b<W.heap.size) (λb=>W.heap[b]?))(hn:FH O.Big.Set/\FH O.Small.Set)
 (z:rdl (λb=>b<W.heap.size) (λb=>W.heap[b]?) [.agg (AF.c O),.sl false 1 (Z.map Aj),.int .i64 x2] args.toList):Calls Tryz.prog 3 args W λe W'=>e= .returned (.bool true)/\Below W.heap.size W W':=by
 refine R6 (lawFl.ok) Q ?_ z;simp only[Bg,GX];simp only[ZA,lawFl.q,lawFl.re,lawFl.fv];exact hn
end Go.Ae
namespace Go.Proofs.YtkjfcnnfidnpcaaGreatDoor
open Go Go.Ae Go.ChangeShapes Go.WideShapes Go.ChangeAt Go.RowKit
def own:ownKnob Tryz.prog.godebug=none:=by kernel_rfl
def laidOut:laidOutB Tryz.prog=true:=by kernel_rfl
def contract(H:Type)(enc:TypeId×Value->H)(W:World)(base:Nat)(args:Array Value)(ds gs:List (DataW H))(O:List MemPlace)
 (z: ∀(j:Nat) t v,Tryz.f3.params[j]? =some t->args[j]? =some v->Value.okWide Tryz.prog W .any base t v)
 (hW:DataW.Whole enc Tryz.prog Tryz.f3.params.toList Rows.fnExactFollowRunSpec.vars false W args.toList ds gs O)
 (Z:(DataW.weightsEach Tryz.prog (Tryz.f3.params.toList++Rows.fnExactFollowRunSpec.plain.varTypes Tryz.prog) (ds++gs)).all (· <=reachBytes)=true)(hL:laidMetH Tryz.prog Ka W):
 Calls Tryz.prog 3 args W λe W'=> ∃v,e= .returned v/\Rows.fnExactFollowRunSpec.post enc Tryz.prog Tryz.f3 false true false false W args v W':=by
 have aa:=hW;obtain⟨p,q,af,hV,rfl,hfz,au⟩:=hW;have hA:DataW.TrodAll enc Tryz.prog W 0 (λ_=>true) true Tryz.f3.params.toList args.toList ds p:=af;rw[Tryz.params3] at hA z Z;obtain⟨v0,av,d0,an,p0,q0,ag,rfl,rfl,h0,r0⟩:=trodAll_cons hA;obtain⟨v1,aw,d1,ao,p1,q1,rfl,rfl,rfl,h1,r1⟩:=trodAll_cons r0;obtain⟨v2,ax,d2,aq,p2,q2,rfl,rfl,rfl,h2,r2⟩:=trodAll_cons r1;obtain⟨rfl,rfl,rfl⟩:=trodAll_nil r2;obtain rfl:args= #[v0,v1,v2]:=by cases args;simp_all
 obtain⟨z8,z9,ak,am,ai,aj,rfl,rfl⟩:=PI hL hV;have hg:=XT hL;have hw: ∀(j:Nat) (t:TypeId) (d:DataW H),#[33,31,2].toList[j]? =some t->[d0,d1,d2][j]? =some d->(d.weights Tryz.prog t).all (· <=reachBytes)=true:=by
  intro j t d ht hd;rw[C6] at Z⊢;intro k hk;exact Z k (DataW.weights_mem_each (j:=j) (t:=t) (d:=d) (by rw[EA];exact ht;exact (Cx.1 ht).1) (by rw[EA];exact hd;exact (Cx.1 hd).1) k hk)
 obtain⟨c0,rfl,_⟩:=okWide_struct Tryz.underlying33 (z 0 33 v0 rfl rfl);obtain⟨a1,b1,c1,rfl⟩:=okWide_slice Tryz.underlying31 (z 1 31 v1 rfl rfl);obtain⟨c2,rfl⟩:=okWide_int Tryz.underlying2 (z 2 2 v2 rfl rfl);have ab:=h0;obtain⟨f0,g0⟩:=h0;have ac:=h1;obtain⟨f1,g1⟩:=h1;have ad:=h2;obtain⟨f2,g2⟩:=h2;obtain⟨x0,s0,m0⟩:=rSim f0 _ _ g0 (hw 0 33 d0 rfl rfl);obtain⟨x1,s1,m1⟩:=TR f1 _ _ g1 (hw 1 31 d1 rfl rfl);obtain⟨x2,s2,m2⟩:=Zz Tryz.underlying2 f2 _ _ g2 (hw 2 2 d2 rfl rfl);obtain⟨z1,y1,e1,t1,u1⟩:=s1;obtain⟨rfl,rfl⟩:=Zfm (show [Value.slice a1 b1 c1]=z1::y1 from e1);obtain⟨z2,y2,e2,t2,u2⟩:=s2;obtain⟨rfl,rfl⟩:=Zfm (show [Value.int .i64 c2]=z2::y2 from e2);have ah:rdl (λb=>b<W.heap.size) (λb=>W.heap[b]?) [.agg (AF.c x0),.sl false 1 (x1.map Aj),.int .i64 x2] (#[Value.agg c0,Value.slice a1 b1 c1,Value.int .i64 c2]:Array Value).toList:=
  ⟨_,_,rfl,⟨c0,rfl,s0⟩,_,_,rfl,t1,_,_,rfl,t2,rfl⟩
 have Q: ∀x∈p0++(p1++(p2++[]))++[.cell 0 0,.cell 1 0],x.block<W.heap.size:=λx hx=>aa.lt x hx
 refine (lawFl.call x0 x1 x2 hg (m0) ah).mono λe W' ⟨he,hB⟩=> ?_
 subst he;refine⟨_,rfl,[d0,d1,d2],[tok enc z8,tok enc z9],_,[],p0++(p1++(p2++[])),_,aa,?_,?_,Za enc hB ak am ai aj _,hB.frame _,λh=>by cases h⟩
 .exact trodAll_cons_mk (shut_bool Tryz.underlying4 _) trodAll_mk0
 .refine trodAll_cons_mk ?_ (trodAll_cons_mk ?_ (trodAll_cons_mk ?_ trodAll_mk0))
  .exact Below.trod laidOut (by kernel_rfl) (of_decide_eq_true (by kernel_rfl)) ab hB (λx hx=>Q x (by simp[hx]))
  .exact Below.trod laidOut (by kernel_rfl) (of_decide_eq_true (by kernel_rfl)) ac hB (λx hx=>Q x (by simp[hx]))
  .exact Below.trod laidOut (by kernel_rfl) (of_decide_eq_true (by kernel_rfl)) ad hB (λx hx=>Q x (by simp[hx]))
def lifted(os:Os)(z:os.Started)(H:Type)(enc:TypeId×Value->H):
 ReturnsInHanded {} Tryz.checked os 3 .any (λw args=>(Rows.fnExactFollowRunSpec.pre enc Tryz.prog Tryz.f3 [] false w args/\laidMetH Tryz.prog Ka w)/\sizedMet enc Tryz.prog Tryz.f3 (OpenSpec.ofChange Rows.fnExactFollowRunSpec) false w args) (Rows.fnExactFollowRunSpec.post enc Tryz.prog Tryz.f3 false true false false):=by
 refine returnsInHanded_of_change_and (C:=Tryz.checked) (X:=λw _=>laidMetH Tryz.prog Ka w) (λ_ _ _ hh h=>h.of_heap hh) own z (by kernel_rfl) Tryz.func3
  (ChangeSpec.witness_shaped (enc:=enc) (C:=Tryz.checked) (os:=os) (X:=λw _=>laidMetH Tryz.prog Ka w) false (World.doorLaid Tryz.prog 47 os) #[.agg #[.slice none 0 0,.slice none 0 0,.slice none 0 0,.int .i64 0,.slice none 0 0,.slice none 0 0,.slice none 0 0,.int .i64 0,.int .i64 0,.slice none 0 0],.slice none 0 0,.int .i64 0] 8 rfl (World.shaped_of_RefB (by kernel_rfl) (by kernel_rfl)) (by kernel_rfl) (by kernel_rfl) (by kernel_rfl) (RT os _)) ?_
 intro W base args ds gs O Q hW _ Z hL _;exact contract H enc W base args ds gs O Q hW Z hL
end Go.Proofs.YtkjfcnnfidnpcaaGreatDoor
