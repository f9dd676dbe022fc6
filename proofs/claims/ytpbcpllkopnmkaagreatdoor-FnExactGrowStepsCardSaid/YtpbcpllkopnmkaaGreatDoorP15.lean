/- Lemmas. Conditions: none. -/
import Derived.Test.YtpbcpllkopnmkaaGreatDoorP14
set_option linter.all false
set_option maxHeartbeats 8000000
set_option maxRecDepth 100000
namespace Go.Ae
open Go Go.Proofs Go.RowKit
theorem lawGS.call{W:World}{args:Array Value}(x0:Qar)(x1:List Int)(x2:Int)(hg:GP (fun b=>b<W.heap.size) (fun b=>W.heap[b]?))(hn:nmOk x0.Set)
 (hargs:rdl (fun b=>b<W.heap.size) (fun b=>W.heap[b]?) [.agg (Qar.c x0),.sl false 1 (x1.map intC),.int .i64 x2] args.toList):Calls Tryz.prog 4 args W fun e W'=>e= .returned (.bool true)/\Below W.heap.size W W':=by
 refine call_law (lawGS.ok) hg ?_ hargs;simp only[Zap,ZaS];simp(maxSteps:=9^9)(disch:=omega)only[ZZ,simprocAttr,rch,lawGS.q,lawGS.ar,lawGS.re,lawGS.fv];exact hn
end Go.Ae
namespace Go.Proofs.YtpbcpllkopnmkaaGreatDoor
open Go Go.Ae Go.ChangeShapes Go.WideShapes Go.ChangeAt Go.RowKit
theorem own:ownKnob Tryz.prog.godebug=none:=by kernel_rfl
theorem laidOut:laidOutB Tryz.prog=true:=by kernel_rfl
theorem contract(H:Type)(enc:TypeId×Value->H)(W:World)(base:Nat)(args:Array Value)(ds gs:List (DataW H))(before:List MemPlace)
 (hval: ∀(j:Nat) t v,Tryz.f4.params[j]? =some t->args[j]? =some v->Value.okWide Tryz.prog W .any base t v)
 (hW:DataW.Whole enc Tryz.prog Tryz.f4.params.toList Rows.fnExactGrowStepsSpec.vars false W args.toList ds gs before)
 (hsz:(DataW.weightsEach Tryz.prog (Tryz.f4.params.toList++Rows.fnExactGrowStepsSpec.plain.varTypes Tryz.prog) (ds++gs)).all (· <=reachBytes)=true)(hL:laidMetH Tryz.prog Qan9 W):
 Calls Tryz.prog 4 args W fun e W'=> ∃v,e= .returned v/\Rows.fnExactGrowStepsSpec.post enc Tryz.prog Tryz.f4 false true false false W args v W':=by
 have hW':=hW;obtain⟨p,q,hA0,hV,rfl,hfz,hnd⟩:=hW;have hA:DataW.TrodAll enc Tryz.prog W 0 (fun _=>true) true Tryz.f4.params.toList args.toList ds p:=hA0;rw[Tryz.params4] at hA hval hsz;obtain⟨v0,vs0,d0,ds0,p0,q0,hargs,rfl,rfl,h0,r0⟩:=trodAll_cons hA;obtain⟨v1,vs1,d1,ds1,p1,q1,rfl,rfl,rfl,h1,r1⟩:=trodAll_cons r0;obtain⟨v2,vs2,d2,ds2,p2,q2,rfl,rfl,rfl,h2,r2⟩:=trodAll_cons r1;obtain⟨rfl,rfl,rfl⟩:=trodAll_nil r2;obtain rfl:args= #[v0,v1,v2]:=by cases args;simp_all
 obtain⟨z8,z9,iz8,iz9,hx8,hx9,rfl,rfl⟩:=vars_open hL hV;have hg:=laid_GP hL;have hw: ∀(j:Nat) (t:TypeId) (d:DataW H),#[30,31,2].toList[j]? =some t->[d0,d1,d2][j]? =some d->(d.weights Tryz.prog t).all (· <=reachBytes)=true:=by
  intro j t d ht hd;rw[ZaK] at hsz⊢;intro k hk;exact hsz k (DataW.weights_mem_each (j:=j) (t:=t) (d:=d) (by rw[ZaC];exact ht;exact (Zaj.1 ht).1) (by rw[ZaC];exact hd;exact (Zaj.1 hd).1) k hk)
 obtain⟨c0,rfl,_⟩:=okWide_struct Tryz.underlying30 (hval 0 30 v0 rfl rfl);obtain⟨a1,b1,c1,rfl⟩:=okWide_slice Tryz.underlying31 (hval 1 31 v1 rfl rfl);obtain⟨c2,rfl⟩:=okWide_int Tryz.underlying2 (hval 2 2 v2 rfl rfl);have h0':=h0;obtain⟨f0,g0⟩:=h0;have h1':=h1;obtain⟨f1,g1⟩:=h1;have h2':=h2;obtain⟨f2,g2⟩:=h2;obtain⟨x0,s0,m0⟩:=rSys f0 _ _ g0 (hw 0 30 d0 rfl rfl);obtain⟨x1,s1,m1⟩:=rInts f1 _ _ g1 (hw 1 31 d1 rfl rfl);obtain⟨x2,s2,m2⟩:=Qim Tryz.underlying2 f2 _ _ g2 (hw 2 2 d2 rfl rfl);obtain⟨z1,y1,e1,t1,u1⟩:=s1;obtain⟨rfl,rfl⟩:=ZeY (show [Value.slice a1 b1 c1]=z1::y1 from e1);obtain⟨z2,y2,e2,t2,u2⟩:=s2;obtain⟨rfl,rfl⟩:=ZeY (show [Value.int .i64 c2]=z2::y2 from e2);have hrd:rdl (fun b=>b<W.heap.size) (fun b=>W.heap[b]?) [.agg (Qar.c x0),.sl false 1 (x1.map intC),.int .i64 x2] (#[Value.agg c0,Value.slice a1 b1 c1,Value.int .i64 c2]:Array Value).toList:=
  ⟨_,_,rfl,⟨c0,rfl,s0⟩,_,_,rfl,t1,_,_,rfl,t2,rfl⟩
 have hlt: ∀x∈p0++(p1++(p2++[]))++[.cell 0 0,.cell 1 0],x.block<W.heap.size:=fun x hx=>hW'.lt x hx
 refine (lawGS.call x0 x1 x2 hg (m0) hrd).mono fun e W' ⟨he,hB⟩=> ?_
 subst he;refine⟨_,rfl,[d0,d1,d2],[tok enc z8,tok enc z9],_,[],p0++(p1++(p2++[])),_,hW',?_,?_,vars_mk enc hB iz8 iz9 hx8 hx9 _,hB.frame _,fun h=>by cases h⟩
 .exact trodAll_cons_mk (shut_bool Tryz.underlying4 _) trodAll_mk0
 .refine trodAll_cons_mk ?_ (trodAll_cons_mk ?_ (trodAll_cons_mk ?_ trodAll_mk0))
  .exact Below.trod laidOut (by kernel_rfl) (of_decide_eq_true (by kernel_rfl)) h0' hB (fun x hx=>hlt x (by simp[hx]))
  .exact Below.trod laidOut (by kernel_rfl) (of_decide_eq_true (by kernel_rfl)) h1' hB (fun x hx=>hlt x (by simp[hx]))
  .exact Below.trod laidOut (by kernel_rfl) (of_decide_eq_true (by kernel_rfl)) h2' hB (fun x hx=>hlt x (by simp[hx]))
theorem lifted(os:Os)(started:os.Started)(H:Type)(enc:TypeId×Value->H):
 ReturnsInHanded {} Tryz.checked os 4 .any (fun w args=>(Rows.fnExactGrowStepsSpec.pre enc Tryz.prog Tryz.f4 [] false w args/\laidMetH Tryz.prog Qan9 w)/\sizedMet enc Tryz.prog Tryz.f4 (OpenSpec.ofChange Rows.fnExactGrowStepsSpec) false w args) (Rows.fnExactGrowStepsSpec.post enc Tryz.prog Tryz.f4 false true false false):=by
 refine returnsInHanded_of_change_and (C:=Tryz.checked) (X:=fun w _=>laidMetH Tryz.prog Qan9 w) (fun _ _ _ hh h=>h.of_heap hh) own started (by kernel_rfl) Tryz.func4
  (ChangeSpec.witness_shaped (enc:=enc) (C:=Tryz.checked) (os:=os) (X:=fun w _=>laidMetH Tryz.prog Qan9 w) false (World.doorLaid Tryz.prog 47 os) #[.agg #[.slice none 0 0,.slice none 0 0,.slice none 0 0,.int .i64 0],.slice none 0 0,.int .i64 0] 8 rfl (World.shaped_of_RefB (by kernel_rfl) (by kernel_rfl)) (by kernel_rfl) (by kernel_rfl) (by kernel_rfl) (door_met os _)) ?_
 intro W base args ds gs before hval hW _ hsz hL _;exact contract H enc W base args ds gs before hval hW hsz hL
end Go.Proofs.YtpbcpllkopnmkaaGreatDoor
