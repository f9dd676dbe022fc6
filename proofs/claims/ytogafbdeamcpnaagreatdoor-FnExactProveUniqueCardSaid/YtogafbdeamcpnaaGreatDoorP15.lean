/- Lemmas. Conditions: none. -/
import Derived.Test.YtogafbdeamcpnaaGreatDoorP14
set_option linter.all false
set_option maxHeartbeats 8000000
set_option maxRecDepth 100000
namespace Go.Ae
open Go Go.Proofs Go.RowKit
def lawPU.call{W:World}{args:Array Value}(G:Ax)(Q:List Int)(O:GP (λb=>b<W.heap.size) (λb=>W.heap[b]?))(hn:OX G.Set)
 (z:rdl (λb=>b<W.heap.size) (λb=>W.heap[b]?) [.agg (Ax.c G),.sl false 1 (Q.map Aj)] args.toList):Calls Tryz.prog 6 args W λe W'=>e= .returned (.bool true)/\Below W.heap.size W W':=by
 refine RC (lawPU.ok) O ?_ z;simp only[Bd,Gq];simp(disch:=omega)only[ZA,simprocAttr,lawPU.q,lawPU.re,lawPU.fv];exact hn
end Go.Ae
namespace Go.Proofs.YtogafbdeamcpnaaGreatDoor
open Go Go.Ae Go.ChangeShapes Go.WideShapes Go.ChangeAt Go.RowKit
def own:ownKnob Tryz.prog.godebug=none:=by kernel_rfl
def laidOut:laidOutB Tryz.prog=true:=by kernel_rfl
def contract(H:Type)(enc:TypeId×Value->H)(W:World)(base:Nat)(args:Array Value)(ds gs:List (DataW H))(G:List MemPlace)
 (z: ∀(j:Nat) t v,Tryz.f6.params[j]? =some t->args[j]? =some v->Value.okWide Tryz.prog W .any base t v)
 (hW:DataW.Whole enc Tryz.prog Tryz.f6.params.toList Rows.fnExactProveUniqueSpec.vars false W args.toList ds gs G)
 (O:(DataW.weightsEach Tryz.prog (Tryz.f6.params.toList++Rows.fnExactProveUniqueSpec.plain.varTypes Tryz.prog) (ds++gs)).all (· <=reachBytes)=true)(hL:laidMetH Tryz.prog Ka W):
 Calls Tryz.prog 6 args W λe W'=> ∃v,e= .returned v/\Rows.fnExactProveUniqueSpec.post enc Tryz.prog Tryz.f6 false true false false W args v W':=by
 have Q:=hW;obtain⟨p,q,ac,hV,rfl,an,ao⟩:=hW;have hA:DataW.TrodAll enc Tryz.prog W 0 (λ_=>true) true Tryz.f6.params.toList args.toList ds p:=ac;rw[Tryz.params6] at hA z O;obtain⟨v0,aq,d0,ak,p0,q0,ad,rfl,rfl,h0,r0⟩:=trodAll_cons hA;obtain⟨v1,au,d1,am,p1,q1,rfl,rfl,rfl,h1,r1⟩:=trodAll_cons r0;obtain⟨rfl,rfl,rfl⟩:=trodAll_nil r1;obtain rfl:args= #[v0,v1]:=by cases args;simp_all
 obtain⟨z8,z9,ai,aj,ag,ah,rfl,rfl⟩:=PT hL hV;have hg:=Yk hL;have hw: ∀(j:Nat) (t:TypeId) (d:DataW H),#[30,32].toList[j]? =some t->[d0,d1][j]? =some d->(d.weights Tryz.prog t).all (· <=reachBytes)=true:=by
  intro j t d ht hd;rw[D3] at O⊢;intro k hk;exact O k (DataW.weights_mem_each (j:=j) (t:=t) (d:=d) (by rw[ED];exact ht;exact (Ce.1 ht).1) (by rw[ED];exact hd;exact (Ce.1 hd).1) k hk)
 obtain⟨c0,rfl,_⟩:=okWide_struct Tryz.underlying30 (z 0 30 v0 rfl rfl);obtain⟨a1,b1,c1,rfl⟩:=okWide_slice Tryz.underlying32 (z 1 32 v1 rfl rfl);have aa:=h0;obtain⟨f0,g0⟩:=h0;have ab:=h1;obtain⟨f1,g1⟩:=h1;obtain⟨x0,s0,m0⟩:=rSys f0 _ _ g0 (hw 0 30 d0 rfl rfl);obtain⟨x1,s1,m1⟩:=bK f1 _ _ g1 (hw 1 32 d1 rfl rfl);obtain⟨z1,y1,e1,t1,u1⟩:=s1;obtain⟨rfl,rfl⟩:=List.cons.inj (show [Value.slice a1 b1 c1]=z1::y1 from e1);have af:rdl (λb=>b<W.heap.size) (λb=>W.heap[b]?) [.agg (Ax.c x0),.sl false 1 (x1.map Aj)] (#[Value.agg c0,Value.slice a1 b1 c1]:Array Value).toList:=
  ⟨_,_,rfl,⟨c0,rfl,s0⟩,_,_,rfl,t1,rfl⟩
 have Z: ∀x∈p0++(p1++[])++[.cell 0 0,.cell 1 0],x.block<W.heap.size:=λx hx=>Q.lt x hx
 refine (lawPU.call x0 x1 hg (m0) af).mono λe W' ⟨he,hB⟩=> ?_
 subst he;refine⟨_,rfl,[d0,d1],[tok enc z8,tok enc z9],_,[],p0++(p1++[]),_,Q,?_,?_,Zv enc hB ai aj ag ah _,hB.frame _,λh=>by cases h⟩
 .exact trodAll_cons_mk (shut_bool Tryz.underlying4 _) trodAll_mk0
 .refine trodAll_cons_mk ?_ (trodAll_cons_mk ?_ trodAll_mk0)
  .exact Below.trod laidOut (by kernel_rfl) (of_decide_eq_true (by kernel_rfl)) aa hB (λx hx=>Z x (by simp[hx]))
  .exact Below.trod laidOut (by kernel_rfl) (of_decide_eq_true (by kernel_rfl)) ab hB (λx hx=>Z x (by simp[hx]))
def lifted(os:Os)(z:os.Started)(H:Type)(enc:TypeId×Value->H):
 ReturnsInHanded {} Tryz.checked os 6 .any (λw args=>(Rows.fnExactProveUniqueSpec.pre enc Tryz.prog Tryz.f6 [] false w args/\laidMetH Tryz.prog Ka w)/\sizedMet enc Tryz.prog Tryz.f6 (OpenSpec.ofChange Rows.fnExactProveUniqueSpec) false w args) (Rows.fnExactProveUniqueSpec.post enc Tryz.prog Tryz.f6 false true false false):=by
 refine returnsInHanded_of_change_and (C:=Tryz.checked) (X:=λw _=>laidMetH Tryz.prog Ka w) (λ_ _ _ hh h=>h.of_heap hh) own z (by kernel_rfl) Tryz.func6
  (ChangeSpec.witness_shaped (enc:=enc) (C:=Tryz.checked) (os:=os) (X:=λw _=>laidMetH Tryz.prog Ka w) false (World.doorLaid Tryz.prog 47 os) #[.agg #[.slice none 0 0,.slice none 0 0,.slice none 0 0,.int .i64 0],.slice none 0 0] 8 rfl (World.shaped_of_RefB (by kernel_rfl) (by kernel_rfl)) (by kernel_rfl) (by kernel_rfl) (by kernel_rfl) (RZ os _)) ?_
 intro W base args ds Z G O hW _ Q hL _;exact contract H enc W base args ds Z G O hW Q hL
end Go.Proofs.YtogafbdeamcpnaaGreatDoor
