/- Lemmas. Conditions: none. -/
import Derived.Test.YtpgdfagfkjbokaaGreatDoorP16
set_option linter.all false
set_option maxHeartbeats 8000000
set_option maxRecDepth 100000
namespace Go.Ae
open Go Go.Proofs Go.RowKit
def lawRe.call{W:World}{args:Array Value}(O:AE)(Z:Ad)(x2:A9)(x3:Int)(Q:GP (λb=>b<W.heap.size) (λb=>W.heap[b]?))(hn:FD O.Big.Set/\FD O.Small.Set)
 (z:rdl (λb=>b<W.heap.size) (λb=>W.heap[b]?) [.agg (AE.c O),.agg (Ad.c Z),.agg (A9.c x2),.int .i64 x3] args.toList):Calls Tryz.prog 3 args W λe W'=>e= .returned (.bool true)/\Below W.heap.size W W':=by
 refine R9 (lawRe.ok) Q ?_ z;simp only[Bf,F9];simp only[ZA,Ad.d,lawRe.q,lawRe.re,lawRe.fv];exact hn
end Go.Ae
namespace Go.Proofs.YtpgdfagfkjbokaaGreatDoor
open Go Go.Ae Go.ChangeShapes Go.WideShapes Go.ChangeAt Go.RowKit
def own:ownKnob Tryz.prog.godebug=none:=by kernel_rfl
def laidOut:laidOutB Tryz.prog=true:=by kernel_rfl
def contract(H:Type)(enc:TypeId×Value->H)(W:World)(base:Nat)(args:Array Value)(ds gs:List (DataW H))(O:List MemPlace)
 (z: ∀(j:Nat) t v,Tryz.f3.params[j]? =some t->args[j]? =some v->Value.okWide Tryz.prog W .any base t v)
 (hW:DataW.Whole enc Tryz.prog Tryz.f3.params.toList Rows.fnExactRealizeSpec.vars false W args.toList ds gs O)
 (aa:(DataW.weightsEach Tryz.prog (Tryz.f3.params.toList++Rows.fnExactRealizeSpec.plain.varTypes Tryz.prog) (ds++gs)).all (· <=reachBytes)=true)(hL:laidMetH Tryz.prog IH W):
 Calls Tryz.prog 3 args W λe W'=> ∃v,e= .returned v/\Rows.fnExactRealizeSpec.post enc Tryz.prog Tryz.f3 false true false false W args v W':=by
 have ab:=hW;obtain⟨p,q,ah,hV,rfl,hfz,aq⟩:=hW;have hA:DataW.TrodAll enc Tryz.prog W 0 (λ_=>true) true Tryz.f3.params.toList args.toList ds p:=ah;rw[Tryz.params3] at hA z aa;obtain⟨v0,au,d0,ak,p0,q0,ai,rfl,rfl,h0,r0⟩:=trodAll_cons hA;obtain⟨v1,av,d1,am,p1,q1,rfl,rfl,rfl,h1,r1⟩:=trodAll_cons r0;obtain⟨v2,aw,d2,an,p2,q2,rfl,rfl,rfl,h2,r2⟩:=trodAll_cons r1;obtain⟨v3,ax,d3,ao,p3,q3,rfl,rfl,rfl,h3,r3⟩:=trodAll_cons r2;obtain⟨rfl,rfl,rfl⟩:=trodAll_nil r3;obtain rfl:args= #[v0,v1,v2,v3]:=by cases args;simp_all
 obtain⟨rfl,rfl⟩:=trodVars_none hV;have hg:=Yh hL;have hw: ∀(j:Nat) (t:TypeId) (d:DataW H),#[33,28,37,2].toList[j]? =some t->[d0,d1,d2,d3][j]? =some d->(d.weights Tryz.prog t).all (· <=reachBytes)=true:=by
  intro j t d ht hd;rw[CA] at aa⊢;intro k hk;exact aa k (DataW.weights_mem_each (j:=j) (t:=t) (d:=d) (by rw[Dj];exact ht;exact (BW.1 ht).1) (by rw[Dj];exact hd;exact (BW.1 hd).1) k hk)
 obtain⟨c0,rfl,_⟩:=okWide_struct Tryz.underlying33 (z 0 33 v0 rfl rfl);obtain⟨c1,rfl,_⟩:=okWide_struct Tryz.underlying28 (z 1 28 v1 rfl rfl);obtain⟨c2,rfl,_⟩:=okWide_struct Tryz.underlying37 (z 2 37 v2 rfl rfl);obtain⟨c3,rfl⟩:=okWide_int Tryz.underlying2 (z 3 2 v3 rfl rfl);have ac:=h0;obtain⟨f0,g0⟩:=h0;have ad:=h1;obtain⟨f1,g1⟩:=h1;have af:=h2;obtain⟨f2,g2⟩:=h2;have ag:=h3;obtain⟨f3,g3⟩:=h3;obtain⟨x0,s0,m0⟩:=rSim f0 _ _ g0 (hw 0 33 d0 rfl rfl);obtain⟨x1,s1,m1⟩:=yX f1 _ _ g1 (hw 1 28 d1 rfl rfl);obtain⟨x2,s2,m2⟩:=rOpt f2 _ _ g2 (hw 2 37 d2 rfl rfl);obtain⟨x3,s3,m3⟩:=WL Tryz.underlying2 f3 _ _ g3 (hw 3 2 d3 rfl rfl);obtain⟨z3,y3,e3,t3,u3⟩:=s3;obtain⟨rfl,rfl⟩:=Zfw (show [Value.int .i64 c3]=z3::y3 from e3);have aj:rdl (λb=>b<W.heap.size) (λb=>W.heap[b]?) [.agg (AE.c x0),.agg (Ad.c x1),.agg (A9.c x2),.int .i64 x3] (#[Value.agg c0,Value.agg c1,Value.agg c2,Value.int .i64 c3]:Array Value).toList:=
  ⟨_,_,rfl,⟨c0,rfl,s0⟩,_,_,rfl,⟨c1,rfl,s1⟩,_,_,rfl,⟨c2,rfl,s2⟩,_,_,rfl,t3,rfl⟩
 have Q: ∀x∈p0++(p1++(p2++(p3++[])))++[],x.block<W.heap.size:=λx Z=>ab.lt x Z
 refine (lawRe.call x0 x1 x2 x3 hg (m0) aj).mono λe W' ⟨he,hB⟩=> ?_
 subst he;refine⟨_,rfl,[d0,d1,d2,d3],[],_,[],p0++(p1++(p2++(p3++[]))),[],ab,?_,?_,Below.trodVars laidOut hB (by kernel_rfl) hV,hB.frame _,λh=>by cases h⟩
 .exact trodAll_cons_mk (shut_bool Tryz.underlying4 _) trodAll_mk0
 .refine trodAll_cons_mk ?_ (trodAll_cons_mk ?_ (trodAll_cons_mk ?_ (trodAll_cons_mk ?_ trodAll_mk0)))
  .exact Below.trod laidOut (by kernel_rfl) (of_decide_eq_true (by kernel_rfl)) ac hB (λx Z=>Q x (by simp[Z]))
  .exact Below.trod laidOut (by kernel_rfl) (of_decide_eq_true (by kernel_rfl)) ad hB (λx Z=>Q x (by simp[Z]))
  .exact Below.trod laidOut (by kernel_rfl) (of_decide_eq_true (by kernel_rfl)) af hB (λx Z=>Q x (by simp[Z]))
  .exact Below.trod laidOut (by kernel_rfl) (of_decide_eq_true (by kernel_rfl)) ag hB (λx Z=>Q x (by simp[Z]))
def lifted(os:Os)(z:os.Started)(H:Type)(enc:TypeId×Value->H):
 ReturnsInHanded {} Tryz.checked os 3 .any (λw args=>(Rows.fnExactRealizeSpec.pre enc Tryz.prog Tryz.f3 [] false w args/\laidMetH Tryz.prog IH w)/\sizedMet enc Tryz.prog Tryz.f3 (OpenSpec.ofChange Rows.fnExactRealizeSpec) false w args) (Rows.fnExactRealizeSpec.post enc Tryz.prog Tryz.f3 false true false false):=by
 refine returnsInHanded_of_change_and (C:=Tryz.checked) (X:=λw _=>laidMetH Tryz.prog IH w) (λ_ _ _ hh h=>h.of_heap hh) own z (by kernel_rfl) Tryz.func3
  (ChangeSpec.witness_shaped (enc:=enc) (C:=Tryz.checked) (os:=os) (X:=λw _=>laidMetH Tryz.prog IH w) false (World.laidAll Tryz.prog os IH) #[.agg #[.slice none 0 0,.slice none 0 0,.slice none 0 0,.int .i64 0,.slice none 0 0,.slice none 0 0,.slice none 0 0,.int .i64 0,.int .i64 0,.slice none 0 0],.agg #[.slice none 0 0],.agg #[.int .i64 0,.int .i64 0,.int .i64 0],.int .i64 0] 8 (World.laidAll_os _ _ _) (World.shaped_of_ZipB (by kernel_rfl) (by kernel_rfl)) (by kernel_rfl) (by kernel_rfl) (by kernel_rfl) (RX os _)) ?_
 intro W base args ds gs O Q hW _ Z hL _;exact contract H enc W base args ds gs O Q hW Z hL
end Go.Proofs.YtpgdfagfkjbokaaGreatDoor
