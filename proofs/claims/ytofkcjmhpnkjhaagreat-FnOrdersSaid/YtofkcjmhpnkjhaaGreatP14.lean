/- Lemmas. Conditions: none. -/
import Derived.Test.YtofkcjmhpnkjhaaGreatP13
set_option linter.all false
set_option maxHeartbeats 8000000
set_option maxRecDepth 100000
namespace Go.Ae
open Go Go.Proofs Go.RowKit
theorem lawOr.call{W:World}{args:Array Value}(x0:List Int)(x1:List Int)(hn:bytR x0/\bytR x1)
 (hargs:rdl (fun b=>b<W.heap.size) (fun b=>W.heap[b]?) [.sl false 1 (x0.map bytC),.sl false 1 (x1.map bytC)] args.toList):Calls Tryz.prog 3 args W fun e W'=>e= .returned (.bool true)/\Below W.heap.size W W':=by
 refine call_law (lawOr.ok) trivial ?_ hargs;simp only[Zaq,ZaG];simp(maxSteps:=9^9)(disch:=omega)only[ZZ,simprocAttr,rch,lawOr.q,lawOr.ar,lawOr.re,lawOr.fv];simp only[bytD_R,ZbK,decK];exact hn
end Go.Ae
namespace Go.Proofs.YtofkcjmhpnkjhaaGreat
open Go Go.Ae Go.ChangeShapes Go.WideShapes Go.ChangeAt Go.RowKit
theorem own:ownKnob Tryz.prog.godebug=none:=by kernel_rfl
theorem laidOut:laidOutB Tryz.prog=true:=by kernel_rfl
theorem contract(H:Type)(enc:TypeId×Value->H)(W:World)(base:Nat)(args:Array Value)(ds gs:List (DataW H))(before:List MemPlace)
 (hval: ∀(j:Nat) t v,Tryz.f3.params[j]? =some t->args[j]? =some v->Value.okWide Tryz.prog W .any base t v)
 (hW:DataW.Whole enc Tryz.prog Tryz.f3.params.toList Rows.fnOrdersSpec.vars false W args.toList ds gs before)
 (hsz:(DataW.weightsEach Tryz.prog (Tryz.f3.params.toList++Rows.fnOrdersSpec.plain.varTypes Tryz.prog) (ds++gs)).all (· <=reachBytes)=true):
 Calls Tryz.prog 3 args W fun e W'=> ∃v,e= .returned v/\Rows.fnOrdersSpec.post enc Tryz.prog Tryz.f3 false true false false W args v W':=by
 have hW':=hW;obtain⟨p,q,hA0,hV,rfl,hfz,hnd⟩:=hW;have hA:DataW.TrodAll enc Tryz.prog W 0 (fun _=>true) true Tryz.f3.params.toList args.toList ds p:=hA0;rw[Tryz.params3] at hA hval hsz;obtain⟨v0,vs0,d0,ds0,p0,q0,hargs,rfl,rfl,h0,r0⟩:=trodAll_cons hA;obtain⟨v1,vs1,d1,ds1,p1,q1,rfl,rfl,rfl,h1,r1⟩:=trodAll_cons r0;obtain⟨rfl,rfl,rfl⟩:=trodAll_nil r1;obtain rfl:args= #[v0,v1]:=by cases args;simp_all
 obtain⟨rfl,rfl⟩:=trodVars_none hV;have hw: ∀(j:Nat) (t:TypeId) (d:DataW H),#[22,22].toList[j]? =some t->[d0,d1][j]? =some d->(d.weights Tryz.prog t).all (· <=reachBytes)=true:=by
  intro j t d ht hd;rw[Zbv] at hsz⊢;intro k hk;exact hsz k (DataW.weights_mem_each (j:=j) (t:=t) (d:=d) (by rw[Zav];exact ht;exact (Zai.1 ht).1) (by rw[ZaK];exact hd) k hk)
 obtain⟨a0,b0,c0,rfl⟩:=okWide_slice Tryz.underlying22 (hval 0 22 v0 rfl rfl);obtain⟨a1,b1,c1,rfl⟩:=okWide_slice Tryz.underlying22 (hval 1 22 v1 rfl rfl);have h0':=h0;obtain⟨f0,g0⟩:=h0;have h1':=h1;obtain⟨f1,g1⟩:=h1;obtain⟨x0,s0,m0⟩:=rBytes f0 _ _ g0 (hw 0 22 d0 rfl rfl);obtain⟨x1,s1,m1⟩:=rBytes f1 _ _ g1 (hw 1 22 d1 rfl rfl);obtain⟨z0,y0,e0,t0,u0⟩:=s0;obtain⟨rfl,rfl⟩:=Zfj (show [Value.slice a0 b0 c0]=z0::y0 from e0);obtain⟨z1,y1,e1,t1,u1⟩:=s1;obtain⟨rfl,rfl⟩:=Zfj (show [Value.slice a1 b1 c1]=z1::y1 from e1);have hrd:rdl (fun b=>b<W.heap.size) (fun b=>W.heap[b]?) [.sl false 1 (x0.map bytC),.sl false 1 (x1.map bytC)] (#[Value.slice a0 b0 c0,Value.slice a1 b1 c1]:Array Value).toList:=
  ⟨_,_,rfl,t0,_,_,rfl,t1,rfl⟩
 have hlt: ∀x∈p0++(p1++[])++[],x.block<W.heap.size:=fun x hx=>by simpa using hW'.lt x hx
 refine (lawOr.call x0 x1 (⟨m0,m1⟩) hrd).mono fun e W' ⟨he,hB⟩=> ?_
 subst he;refine⟨_,rfl,[d0,d1],[],_,[],p0++(p1++[]),[],hW',?_,?_,?_,hB.frame _,fun h=>by cases h⟩
 .exact trodAll_cons_mk (shut_bool Tryz.underlying4 _) trodAll_mk0
 .refine trodAll_cons_mk ?_ (trodAll_cons_mk ?_ trodAll_mk0)
  .exact Below.trod laidOut (by kernel_rfl) (of_decide_eq_true (by kernel_rfl)) h0' hB (fun x hx=>hlt x (by simp[hx]))
  .exact Below.trod laidOut (by kernel_rfl) (of_decide_eq_true (by kernel_rfl)) h1' hB (fun x hx=>hlt x (by simp[hx]))
 .exact rfl
theorem lifted(os:Os)(started:os.Started)(H:Type)(enc:TypeId×Value->H):
 ReturnsInHanded {} Tryz.checked os 3 .any (Rows.fnOrdersSpec.pre6 enc Tryz.prog Tryz.f3 Rows.fnOrdersRow.domain false) (Rows.fnOrdersSpec.post enc Tryz.prog Tryz.f3 false true false false):=by
 refine returnsInHanded_of_change_sized (C:=Tryz.checked) own started (by kernel_rfl) Tryz.func3
  (ChangeSpec.witness6 (enc:=enc) (C:=Tryz.checked) false ⟨#[],#[.slice none 0 0,.slice none 0 0],[]⟩ 8 (by kernel_rfl) (by kernel_rfl) (by kernel_rfl) (by kernel_rfl)) ?_
 intro W base args ds gs before hval hW _ hsz _;exact contract H enc W base args ds gs before hval hW hsz
end Go.Proofs.YtofkcjmhpnkjhaaGreat
