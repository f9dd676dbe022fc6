/- Lemmas. Conditions: none. -/
import Derived.Test.YtpbcpllkopnmkaaGreatDoorP14
set_option linter.all false
set_option maxHeartbeats 8000000
set_option maxRecDepth 100000
namespace Go.Ae
open Go Go.Proofs Go.RowKit
theorem lawG.call{W:World}{args:Array Value}(x0:Qar)(x1:List Int)(hg:GP (fun b=>b<W.heap.size) (fun b=>W.heap[b]?))(hn:nmOk x0.Set)
 (hargs:rdl (fun b=>b<W.heap.size) (fun b=>W.heap[b]?) [.agg (Qar.c x0),.sl false 1 (x1.map intC)] args.toList):Calls Tryz.prog 3 args W fun e W'=>e= .returned (.bool true)/\Below W.heap.size W W':=by
 refine call_law (lawG.ok) hg ?_ hargs;simp only[Zap,ZaS];simp(maxSteps:=9^9)(disch:=omega)only[ZZ,simprocAttr,rch,lawG.q,lawG.ar,lawG.re,lawG.fv];exact hn
end Go.Ae
namespace Go.Proofs.YtpbcpllkopnmkaaGreatDoor
open Go Go.Ae Go.ChangeShapes Go.WideShapes Go.ChangeAt Go.RowKit
theorem own:ownKnob Tryz.prog.godebug=none:=by kernel_rfl
theorem laidOut:laidOutB Tryz.prog=true:=by kernel_rfl
theorem contract(H:Type)(enc:TypeId×Value->H)(W:World)(base:Nat)(args:Array Value)(ds gs:List (DataW H))(before:List MemPlace)
 (hval: ∀(j:Nat) t v,Tryz.f3.params[j]? =some t->args[j]? =some v->Value.okWide Tryz.prog W .any base t v)
 (hW:DataW.Whole enc Tryz.prog Tryz.f3.params.toList Rows.fnExactGrowSpec.vars false W args.toList ds gs before)
 (hsz:(DataW.weightsEach Tryz.prog (Tryz.f3.params.toList++Rows.fnExactGrowSpec.plain.varTypes Tryz.prog) (ds++gs)).all (· <=reachBytes)=true)(hL:laidMetH Tryz.prog Qan9 W):
 Calls Tryz.prog 3 args W fun e W'=> ∃v,e= .returned v/\Rows.fnExactGrowSpec.post enc Tryz.prog Tryz.f3 false true false false W args v W':=by
 have hW':=hW;obtain⟨p,q,hA0,hV,rfl,hfz,hnd⟩:=hW;have hA:DataW.TrodAll enc Tryz.prog W 0 (fun _=>true) true Tryz.f3.params.toList args.toList ds p:=hA0;rw[Tryz.params3] at hA hval hsz;obtain⟨v0,vs0,d0,ds0,p0,q0,hargs,rfl,rfl,h0,r0⟩:=trodAll_cons hA;obtain⟨v1,vs1,d1,ds1,p1,q1,rfl,rfl,rfl,h1,r1⟩:=trodAll_cons r0;obtain⟨rfl,rfl,rfl⟩:=trodAll_nil r1;obtain rfl:args= #[v0,v1]:=by cases args;simp_all
 obtain⟨z8,z9,iz8,iz9,hx8,hx9,rfl,rfl⟩:=vars_open hL hV;have hg:=laid_GP hL;have hw: ∀(j:Nat) (t:TypeId) (d:DataW H),#[30,31].toList[j]? =some t->[d0,d1][j]? =some d->(d.weights Tryz.prog t).all (· <=reachBytes)=true:=by
  intro j t d ht hd;rw[ZaK] at hsz⊢;intro k hk;exact hsz k (DataW.weights_mem_each (j:=j) (t:=t) (d:=d) (by rw[ZaC];exact ht;exact (Zaj.1 ht).1) (by rw[ZaC];exact hd;exact (Zaj.1 hd).1) k hk)
 obtain⟨c0,rfl,_⟩:=okWide_struct Tryz.underlying30 (hval 0 30 v0 rfl rfl);obtain⟨a1,b1,c1,rfl⟩:=okWide_slice Tryz.underlying31 (hval 1 31 v1 rfl rfl);have h0':=h0;obtain⟨f0,g0⟩:=h0;have h1':=h1;obtain⟨f1,g1⟩:=h1;obtain⟨x0,s0,m0⟩:=rSys f0 _ _ g0 (hw 0 30 d0 rfl rfl);obtain⟨x1,s1,m1⟩:=rInts f1 _ _ g1 (hw 1 31 d1 rfl rfl);obtain⟨z1,y1,e1,t1,u1⟩:=s1;obtain⟨rfl,rfl⟩:=List.cons.inj (show [Value.slice a1 b1 c1]=z1::y1 from e1);have hrd:rdl (fun b=>b<W.heap.size) (fun b=>W.heap[b]?) [.agg (Qar.c x0),.sl false 1 (x1.map intC)] (#[Value.agg c0,Value.slice a1 b1 c1]:Array Value).toList:=
  ⟨_,_,rfl,⟨c0,rfl,s0⟩,_,_,rfl,t1,rfl⟩
 have hlt: ∀x∈p0++(p1++[])++[.cell 0 0,.cell 1 0],x.block<W.heap.size:=fun x hx=>hW'.lt x hx
 refine (lawG.call x0 x1 hg (m0) hrd).mono fun e W' ⟨he,hB⟩=> ?_
 subst he;refine⟨_,rfl,[d0,d1],[tok enc z8,tok enc z9],_,[],p0++(p1++[]),_,hW',?_,?_,vars_mk enc hB iz8 iz9 hx8 hx9 _,hB.frame _,fun h=>by cases h⟩
 .exact trodAll_cons_mk (shut_bool Tryz.underlying4 _) trodAll_mk0
 .refine trodAll_cons_mk ?_ (trodAll_cons_mk ?_ trodAll_mk0)
  .exact Below.trod laidOut (by kernel_rfl) (of_decide_eq_true (by kernel_rfl)) h0' hB (fun x hx=>hlt x (by simp[hx]))
  .exact Below.trod laidOut (by kernel_rfl) (of_decide_eq_true (by kernel_rfl)) h1' hB (fun x hx=>hlt x (by simp[hx]))
theorem lifted(os:Os)(started:os.Started)(H:Type)(enc:TypeId×Value->H):
 ReturnsInHanded {} Tryz.checked os 3 .any (fun w args=>(Rows.fnExactGrowSpec.pre enc Tryz.prog Tryz.f3 [] false w args/\laidMetH Tryz.prog Qan9 w)/\sizedMet enc Tryz.prog Tryz.f3 (OpenSpec.ofChange Rows.fnExactGrowSpec) false w args) (Rows.fnExactGrowSpec.post enc Tryz.prog Tryz.f3 false true false false):=by
 refine returnsInHanded_of_change_and (C:=Tryz.checked) (X:=fun w _=>laidMetH Tryz.prog Qan9 w) (fun _ _ _ hh h=>h.of_heap hh) own started (by kernel_rfl) Tryz.func3
  (ChangeSpec.witness_shaped (enc:=enc) (C:=Tryz.checked) (os:=os) (X:=fun w _=>laidMetH Tryz.prog Qan9 w) false (World.doorLaid Tryz.prog 47 os) #[.agg #[.slice none 0 0,.slice none 0 0,.slice none 0 0,.int .i64 0],.slice none 0 0] 8 rfl (World.shaped_of_RefB (by kernel_rfl) (by kernel_rfl)) (by kernel_rfl) (by kernel_rfl) (by kernel_rfl) (door_met os _)) ?_
 intro W base args ds gs before hval hW _ hsz hL _;exact contract H enc W base args ds gs before hval hW hsz hL
end Go.Proofs.YtpbcpllkopnmkaaGreatDoor
