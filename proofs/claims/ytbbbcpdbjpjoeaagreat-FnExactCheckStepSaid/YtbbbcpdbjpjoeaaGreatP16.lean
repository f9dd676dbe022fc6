/- What is proved: the law FnExactCheckStep returns true for every input, and each argument reads afterwards as it read before. Conditions: none. -/
import Derived.Test.YtbbbcpdbjpjoeaaGreatP15
import Derived.Test.YtbbbcpdbjpjoeaaGreatRows
import Derived.Carry
import Derived.WalkKit
set_option linter.all false
set_option maxHeartbeats 8000000
set_option maxRecDepth 100000
namespace Go.Ae
open Go Go.Proofs
section
variable {H:Type}{enc:TypeId×Value→H}{W:World}
theorem rPoint:Rds enc Tryz.prog W 35 Qae.c (fun _=>True):=
 (Qqt Tryz.underlying35 rfl (by kernel_rfl) (by kernel_rfl) (Qim Tryz.underlying2) (Qim Tryz.underlying2)).to (fun y=>(⟨y.1,y.2⟩:Qae)) (fun _=>rfl) (fun _ _=>trivial)
theorem rPlaced:Rds enc Tryz.prog W 107 Qab.c (fun _=>True):=
 (Qqt Tryz.underlying107 rfl (by kernel_rfl) (by kernel_rfl) rPoint (Qim Tryz.underlying2)).to (fun y=>(⟨y.1,y.2⟩:Qab)) (fun _=>rfl) (fun _ _=>trivial)
theorem rOpt:Rds enc Tryz.prog W 37 Opt.c (fun _=>True):=
 (Qqt Tryz.underlying37 rfl (by kernel_rfl) (by kernel_rfl) rPoint (Qim Tryz.underlying2)).to (fun y=>(⟨y.1,y.2⟩:Opt)) (fun _=>rfl) (fun _ _=>trivial)
theorem rGlue:Rds enc Tryz.prog W 160 Glue.c (fun g=>g.Name.size≤140737488355328):=
 (Qqt Tryz.underlying160 rfl (by kernel_rfl) (by kernel_rfl) (rds_str Tryz.underlying9) (Qim Tryz.underlying2)).to (fun y=>(⟨y.1,y.2⟩:Glue)) (fun _=>rfl) (fun _ h=>h.1)
theorem rInts:Rds enc Tryz.prog W 31 (fun l:List Int=>[.sl false 1 (l.map intC)]) (fun l=> ∀y∈l,True):=
 Qkh (c:=intC) Tryz.underlying31 (by kernel_rfl) (by decide) (by decide+kernel) (fun _=>rfl) (Qim Tryz.underlying2)
theorem rTile:Rds enc Tryz.prog W 163 Tile.c (fun g=>g.Name.size≤140737488355328):=
 (Qqt Tryz.underlying163 rfl (by kernel_rfl) (by kernel_rfl) (rds_str Tryz.underlying9) rInts).to (fun y=>(⟨y.1,y.2⟩:Tile)) (fun _=>rfl) (fun _ h=>h.1)
theorem rGlues:Rds enc Tryz.prog W 22 (fun l:List Glue=>[.sl false 2 (l.map Glue.c)]) (fun l=> ∀y∈l,y.Name.size≤140737488355328):=
 Qkh Tryz.underlying22 (by kernel_rfl) (by decide) (by decide+kernel) (fun _=>rfl) rGlue
theorem rTiles:Rds enc Tryz.prog W 23 (fun l:List Tile=>[.sl false 2 (l.map Tile.c)]) (fun l=> ∀y∈l,y.Name.size≤140737488355328):=
 Qkh Tryz.underlying23 (by kernel_rfl) (by decide) (by decide+kernel) (fun _=>rfl) rTile
theorem rPlaceds:Rds enc Tryz.prog W 26 (fun l:List Qab=>[.sl false 3 (l.map Qab.c)]) (fun l=> ∀y∈l,True):=
 Qkh Tryz.underlying26 (by kernel_rfl) (by decide) (by decide+kernel) (fun _=>rfl) rPlaced
theorem rSet:Rds enc Tryz.prog W 25 Qaa.c nmOk:=
 (Qqt Tryz.underlying25 rfl (by kernel_rfl) (by kernel_rfl) rGlues rTiles).to (fun y=>(⟨y.1,y.2⟩:Qaa)) (fun _=>rfl) (fun _ h=>h)
theorem rAsm:Rds enc Tryz.prog W 28 Asm.c (fun _=>True):=
 (rds_s1 Tryz.underlying28 rfl (by kernel_rfl) rPlaceds).to (fun y=>(⟨y⟩:Asm)) (fun _=>rfl) (fun _ _=>trivial)
theorem rSys:Rds enc Tryz.prog W 30 Qar.c (fun s=>nmOk s.Set):=
 (rds_s3 Tryz.underlying30 rfl (by kernel_rfl) (by kernel_rfl) (by kernel_rfl) rSet rAsm (Qim Tryz.underlying2)).to (fun y=>(⟨y.1,y.2.1,y.2.2⟩:Qar)) (fun _=>rfl) (fun _ h=>h.1)
theorem rSim:Rds enc Tryz.prog W 33 Sim.c (fun s=>nmOk s.Big.Set∧nmOk s.Small.Set):=
 (rds_s4 Tryz.underlying33 rfl (by kernel_rfl) (by kernel_rfl) (by kernel_rfl) (by kernel_rfl) rSys rSys (Qim Tryz.underlying2) rInts).to (fun y=>(⟨y.1,y.2.1,y.2.2.1,y.2.2.2⟩:Sim)) (fun _=>rfl) (fun _ h=>⟨h.1,h.2.1⟩)
end
end Go.Ae
namespace Go.Ae
open Go Go.Proofs Go.RowKit
def env0(W:World):Env:=⟨fun _=>none,fun b=>b<W.heap.size,fun _=>none,W⟩
def ctx0(W:World):Ctx:=Ctx.mk0 W (fun _=>False) (fun b=>b<W.heap.size)
theorem wf0(W:World):Wf (ctx0 W) (env0 W):=
 ⟨rfl,rfl,rfl,Nat.le_refl _,fun _ _ _=>rfl,fun _ h=>h,fun _ h=> .inl h,fun _ h=>h,fun o e h=>(by cases h),fun o e l h=>(by cases h),fun o o' e e' l l' h=>(by cases h)⟩
theorem call_law{P:Program}{g:FuncId}{row:Row}(hok:Qas P g row){W:World}{args:Array Value}{ds:List D}(hrow:row (ds.map .im) (fun _=>none) 0 (fun r _=>r= .im (.bool true)))
 (hargs:rdl (fun b=>b<W.heap.size) (fun b=>W.heap[b]?) ds args.toList):Calls P g args W fun e W'=>e= .returned (.bool true)∧Below W.heap.size W W':=by
 obtain⟨_,r,E,hT,rfl⟩:=hok _ _ _ _ hrow;refine hT (ctx0 W) (env0 W) args _ (wf0 W) (fun _ _=>rfl) (fun _ _=>rfl) (fun n e h=>(by cases h)) ((Qa6 _ _).2 hargs) ?_;intro v S' hW' _ _ hc;simp only[conc,rd] at hc;subst hc;exact⟨rfl,hW'.os,hW'.tape,hW'.output,hW'.size,fun k hk=>hW'.keep k hk (fun h=>h)⟩
theorem lawS.call{W:World}{args:Array Value}(m:Sim)(a:Asm)(o:Opt)(hn:nmOk m.Big.Set∧nmOk m.Small.Set)
 (hargs:rdl (fun b=>b<W.heap.size) (fun b=>W.heap[b]?) [.agg (Sim.c m),.agg (Asm.c a),.agg (Opt.c o)] args.toList):Calls Tryz.prog 3 args W fun e W'=>e= .returned (.bool true)∧Below W.heap.size W W':=by
 refine call_law (lawS.ok) ?_ hargs;simp only[List.map_cons,List.map_nil];simp (config:={maxSteps:=10000000}) (disch:=omega) only[ZA,ZT,simprocAttr,Asm.d,rch,lawS.q,lawS.ar,lawS.re,lawS.fv];exact hn
end Go.Ae
namespace Go.Proofs.YtbbbcpdbjpjoeaaGreat
open Go Go.Ae Go.ChangeShapes Go.WideShapes Go.ChangeAt Go.RowKit
theorem own:ownKnob Tryz.prog.godebug=none:=by kernel_rfl
theorem laidOut:laidOutB Tryz.prog=true:=by kernel_rfl
theorem contract(H:Type)(enc:TypeId×Value→H)(W:World)(base:Nat)(args:Array Value)(ds gs:List (DataW H))(before:List MemPlace)
 (hval: ∀(j:Nat) t v,Tryz.f3.params[j]? =some t→args[j]? =some v→Value.okWide Tryz.prog W .any base t v)
 (hW:DataW.Whole enc Tryz.prog Tryz.f3.params.toList Rows.fnExactCheckStepSpec.vars false W args.toList ds gs before)
 (hsz:(DataW.weightsEach Tryz.prog (Tryz.f3.params.toList++Rows.fnExactCheckStepSpec.plain.varTypes Tryz.prog) (ds++gs)).all (· ≤reachBytes)=true):
 Calls Tryz.prog 3 args W fun e W'=> ∃v,e= .returned v∧Rows.fnExactCheckStepSpec.post enc Tryz.prog Tryz.f3 false true false false W args v W':=by
 have hW':=hW;obtain⟨p,q,hA0,hV,rfl,hfz,hnd⟩:=hW;have hA:DataW.TrodAll enc Tryz.prog W 0 (fun _=>true) true Tryz.f3.params.toList args.toList ds p:=hA0;rw[Tryz.params3] at hA hval hsz;obtain⟨v0,vs0,d0,ds0,p0,q0,hargs,rfl,rfl,h0,r0⟩:=trodAll_cons hA;obtain⟨v1,vs1,d1,ds1,p1,q1,rfl,rfl,rfl,h1,r1⟩:=trodAll_cons r0;obtain⟨v2,vs2,d2,ds2,p2,q2,rfl,rfl,rfl,h2,r2⟩:=trodAll_cons r1;obtain⟨rfl,rfl,rfl⟩:=trodAll_nil r2;obtain rfl:args= #[v0,v1,v2]:=by cases args;simp_all
 obtain⟨rfl,rfl⟩:=trodVars_none hV;have hw: ∀(j:Nat) (t:TypeId) (d:DataW H),#[33,28,37].toList[j]? =some t→[d0,d1,d2][j]? =some d→(d.weights Tryz.prog t).all (· ≤reachBytes)=true:=by
  intro j t d ht hd;rw[List.all_eq_true] at hsz⊢;intro k hk;exact hsz k (DataW.weights_mem_each (j:=j) (t:=t) (d:=d) (by rw[List.getElem?_append_left];exact ht;exact (List.getElem?_eq_some_iff.1 ht).1) (by rw[List.append_nil];exact hd) k hk)
 obtain⟨c0,rfl,_⟩:=okWide_struct Tryz.underlying33 (hval 0 33 v0 rfl rfl);obtain⟨c1,rfl,_⟩:=okWide_struct Tryz.underlying28 (hval 1 28 v1 rfl rfl);obtain⟨c2,rfl,_⟩:=okWide_struct Tryz.underlying37 (hval 2 37 v2 rfl rfl);have h0':=h0;have h1':=h1;have h2':=h2;obtain⟨f0,g0⟩:=h0;obtain⟨f1,g1⟩:=h1;obtain⟨f2,g2⟩:=h2;obtain⟨m,rm,hm⟩:=rSim f0 _ _ g0 (hw 0 33 d0 rfl rfl);obtain⟨a,ra,_⟩:=rAsm f1 _ _ g1 (hw 1 28 d1 rfl rfl);obtain⟨o,ro,_⟩:=rOpt f2 _ _ g2 (hw 2 37 d2 rfl rfl);have hrd:rdl (fun b=>b<W.heap.size) (fun b=>W.heap[b]?) [.agg (Sim.c m),.agg (Asm.c a),.agg (Opt.c o)] (#[Value.agg c0,Value.agg c1,Value.agg c2]:Array Value).toList:=
  ⟨_,_,rfl,⟨c0,rfl,rm⟩,_,_,rfl,⟨c1,rfl,ra⟩,_,_,rfl,⟨c2,rfl,ro⟩,rfl⟩
 have hlt: ∀x∈p0++(p1++(p2++[]))++[],x.block<W.heap.size:=fun x hx=>by simpa using hW'.lt x hx
 refine (lawS.call m a o hm hrd).mono fun e W' ⟨he,hB⟩=> ?_
 subst he;refine⟨_,rfl,[d0,d1,d2],[],_,[],p0++(p1++(p2++[])),[],hW',?_,?_,?_,hB.frame _,fun h=>by cases h⟩
 ·exact trodAll_cons_mk (shut_bool Tryz.underlying4 _) trodAll_mk0
 ·refine trodAll_cons_mk ?_ (trodAll_cons_mk ?_ (trodAll_cons_mk ?_ trodAll_mk0))
  ·exact Below.trod laidOut (by kernel_rfl) (of_decide_eq_true (by kernel_rfl)) h0' hB (fun x hx=>hlt x (by simp[hx]))
  ·exact Below.trod laidOut (by kernel_rfl) (of_decide_eq_true (by kernel_rfl)) h1' hB (fun x hx=>hlt x (by simp[hx]))
  ·exact Below.trod laidOut (by kernel_rfl) (of_decide_eq_true (by kernel_rfl)) h2' hB (fun x hx=>hlt x (by simp[hx]))
 ·exact rfl
theorem lifted(os:Os)(started:os.Started)(H:Type)(enc:TypeId×Value→H):
 ReturnsInHanded {} Tryz.checked os 3 .any (Rows.fnExactCheckStepSpec.pre6 enc Tryz.prog Tryz.f3 Rows.fnExactCheckStepRow.domain false) (Rows.fnExactCheckStepSpec.post enc Tryz.prog Tryz.f3 false true false false):=by
 refine returnsInHanded_of_change_sized (C:=Tryz.checked) own started (by kernel_rfl) Tryz.func3
  (ChangeSpec.witness6 (enc:=enc) (C:=Tryz.checked) false ⟨#[],#[.agg #[.slice none 0 0,.slice none 0 0,.slice none 0 0,.int .i64 0,.slice none 0 0,.slice none 0 0,.slice none 0 0,.int .i64 0,.int .i64 0,.slice none 0 0],.agg #[.slice none 0 0],.agg #[.int .i64 0,.int .i64 0,.int .i64 0]],[]⟩ 8 (by kernel_rfl) (by kernel_rfl) (by kernel_rfl) (by kernel_rfl)) ?_
 intro W base args ds gs before hval hW _ hsz _;exact contract H enc W base args ds gs before hval hW hsz
theorem over:Rows.fnExactCheckStepRow.holds Tryz.pinned (OpenSpec.ofChange Rows.fnExactCheckStepSpec):=
 OpenClaim.holds_of_wide 3 Tryz.f3 rfl rfl rfl rfl rfl rfl rfl ⟨rfl,rfl,rfl,rfl,rfl⟩ rfl rfl rfl rfl rfl (by kernel_rfl) Tryz.func3 (by kernel_rfl)
  (of_decide_eq_true (by kernel_rfl)) (by unfold Func.isWrapper;first|(rw[if_pos (by decide+kernel)];kernel_rfl)|(rw[if_neg (by decide+kernel)];exact⟨rfl,rfl⟩))
  (fun os started H enc _=>lifted os started H enc)
theorem fnExactCheckStep_holds:Rows.FnExactCheckStepSaid:=over
end Go.Proofs.YtbbbcpdbjpjoeaaGreat
