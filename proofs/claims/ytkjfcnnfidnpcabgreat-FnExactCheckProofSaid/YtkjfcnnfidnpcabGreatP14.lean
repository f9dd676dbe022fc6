/- Lemmas. Conditions: none. -/
import Derived.Test.YtkjfcnnfidnpcabGreatP13
set_option linter.all false
set_option maxHeartbeats 8000000
set_option maxRecDepth 100000
namespace Go.Ae
open Go Go.Proofs Go.RowKit
theorem lawCP.call{W:World}{args:Array Value}(x0:Qar)(x1:Asm)(x2:Qajo)(hn:nmOk x0.Set)
 (hargs:rdl (fun b=>b<W.heap.size) (fun b=>W.heap[b]?) [.agg (Qar.c x0),.agg (Asm.c x1),.agg (Qajo.c x2)] args.toList):Calls Tryz.prog 3 args W fun e W'=>e= .returned (.bool true)/\Below W.heap.size W W':=by
 refine call_law (lawCP.ok) trivial ?_ hargs;simp only[Zao,ZaV];simp(maxSteps:=9^9)(disch:=omega)only[ZZ,simprocAttr,rch,lawCP.q,lawCP.ar,lawCP.re,lawCP.fv];exact hn
end Go.Ae
namespace Go.Proofs.YtkjfcnnfidnpcabGreat
open Go Go.Ae Go.ChangeShapes Go.WideShapes Go.ChangeAt Go.RowKit
theorem own:ownKnob Tryz.prog.godebug=none:=by kernel_rfl
theorem laidOut:laidOutB Tryz.prog=true:=by kernel_rfl
theorem contract(H:Type)(enc:TypeId×Value->H)(W:World)(base:Nat)(args:Array Value)(ds gs:List (DataW H))(before:List MemPlace)
 (hval: ∀(j:Nat) t v,Tryz.f3.params[j]? =some t->args[j]? =some v->Value.okWide Tryz.prog W .any base t v)
 (hW:DataW.Whole enc Tryz.prog Tryz.f3.params.toList Rows.fnExactCheckProofSpec.vars false W args.toList ds gs before)
 (hsz:(DataW.weightsEach Tryz.prog (Tryz.f3.params.toList++Rows.fnExactCheckProofSpec.plain.varTypes Tryz.prog) (ds++gs)).all (· <=reachBytes)=true):
 Calls Tryz.prog 3 args W fun e W'=> ∃v,e= .returned v/\Rows.fnExactCheckProofSpec.post enc Tryz.prog Tryz.f3 false true false false W args v W':=by
 have hW':=hW;obtain⟨p,q,hA0,hV,rfl,hfz,hnd⟩:=hW;have hA:DataW.TrodAll enc Tryz.prog W 0 (fun _=>true) true Tryz.f3.params.toList args.toList ds p:=hA0;rw[Tryz.params3] at hA hval hsz;obtain⟨v0,vs0,d0,ds0,p0,q0,hargs,rfl,rfl,h0,r0⟩:=trodAll_cons hA;obtain⟨v1,vs1,d1,ds1,p1,q1,rfl,rfl,rfl,h1,r1⟩:=trodAll_cons r0;obtain⟨v2,vs2,d2,ds2,p2,q2,rfl,rfl,rfl,h2,r2⟩:=trodAll_cons r1;obtain⟨rfl,rfl,rfl⟩:=trodAll_nil r2;obtain rfl:args= #[v0,v1,v2]:=by cases args;simp_all
 obtain⟨rfl,rfl⟩:=trodVars_none hV;have hw: ∀(j:Nat) (t:TypeId) (d:DataW H),#[30,28,35].toList[j]? =some t->[d0,d1,d2][j]? =some d->(d.weights Tryz.prog t).all (· <=reachBytes)=true:=by
  intro j t d ht hd;rw[ZaL] at hsz⊢;intro k hk;exact hsz k (DataW.weights_mem_each (j:=j) (t:=t) (d:=d) (by rw[ZaG];exact ht;exact (Zaj.1 ht).1) (by rw[ZaK];exact hd) k hk)
 obtain⟨c0,rfl,_⟩:=okWide_struct Tryz.underlying30 (hval 0 30 v0 rfl rfl);obtain⟨c1,rfl,_⟩:=okWide_struct Tryz.underlying28 (hval 1 28 v1 rfl rfl);obtain⟨c2,rfl,_⟩:=okWide_struct Tryz.underlying35 (hval 2 35 v2 rfl rfl);have h0':=h0;obtain⟨f0,g0⟩:=h0;have h1':=h1;obtain⟨f1,g1⟩:=h1;have h2':=h2;obtain⟨f2,g2⟩:=h2;obtain⟨x0,s0,m0⟩:=rSys f0 _ _ g0 (hw 0 30 d0 rfl rfl);obtain⟨x1,s1,m1⟩:=rAsm f1 _ _ g1 (hw 1 28 d1 rfl rfl);obtain⟨x2,s2,m2⟩:=rProof f2 _ _ g2 (hw 2 35 d2 rfl rfl);have hrd:rdl (fun b=>b<W.heap.size) (fun b=>W.heap[b]?) [.agg (Qar.c x0),.agg (Asm.c x1),.agg (Qajo.c x2)] (#[Value.agg c0,Value.agg c1,Value.agg c2]:Array Value).toList:=
  ⟨_,_,rfl,⟨c0,rfl,s0⟩,_,_,rfl,⟨c1,rfl,s1⟩,_,_,rfl,⟨c2,rfl,s2⟩,rfl⟩
 have hlt: ∀x∈p0++(p1++(p2++[]))++[],x.block<W.heap.size:=fun x hx=>by simpa using hW'.lt x hx
 refine (lawCP.call x0 x1 x2 (m0) hrd).mono fun e W' ⟨he,hB⟩=> ?_
 subst he;refine⟨_,rfl,[d0,d1,d2],[],_,[],p0++(p1++(p2++[])),[],hW',?_,?_,?_,hB.frame _,fun h=>by cases h⟩
 .exact trodAll_cons_mk (shut_bool Tryz.underlying4 _) trodAll_mk0
 .refine trodAll_cons_mk ?_ (trodAll_cons_mk ?_ (trodAll_cons_mk ?_ trodAll_mk0))
  .exact Below.trod laidOut (by kernel_rfl) (of_decide_eq_true (by kernel_rfl)) h0' hB (fun x hx=>hlt x (by simp[hx]))
  .exact Below.trod laidOut (by kernel_rfl) (of_decide_eq_true (by kernel_rfl)) h1' hB (fun x hx=>hlt x (by simp[hx]))
  .exact Below.trod laidOut (by kernel_rfl) (of_decide_eq_true (by kernel_rfl)) h2' hB (fun x hx=>hlt x (by simp[hx]))
 .exact rfl
theorem lifted(os:Os)(started:os.Started)(H:Type)(enc:TypeId×Value->H):
 ReturnsInHanded {} Tryz.checked os 3 .any (Rows.fnExactCheckProofSpec.pre6 enc Tryz.prog Tryz.f3 Rows.fnExactCheckProofRow.domain false) (Rows.fnExactCheckProofSpec.post enc Tryz.prog Tryz.f3 false true false false):=by
 refine returnsInHanded_of_change_sized (C:=Tryz.checked) own started (by kernel_rfl) Tryz.func3
  (ChangeSpec.witness6 (enc:=enc) (C:=Tryz.checked) false ⟨#[],#[.agg #[.slice none 0 0,.slice none 0 0,.slice none 0 0,.int .i64 0],.agg #[.slice none 0 0],.agg #[.int .i64 0,.slice none 0 0,.slice none 0 0,.slice none 0 0,.slice none 0 0]],[]⟩ 8 (by kernel_rfl) (by kernel_rfl) (by kernel_rfl) (by kernel_rfl)) ?_
 intro W base args ds gs before hval hW _ hsz _;exact contract H enc W base args ds gs before hval hW hsz
end Go.Proofs.YtkjfcnnfidnpcabGreat
