/- Lemmas. Conditions: none. -/
import Derived.Test.YtofkcjmhpnkjhaaGreatP10
import Derived.Sort.LoopGhostIn
set_option linter.all false
set_option maxHeartbeats 8000000
set_option maxRecDepth 100000
namespace Go.Ae
open Go
def It{ι:Type}(J:ι->(Nat->Prop)->World->Prop)(base:Nat)(ok0:Nat->Prop)(N:Nat)(i:ι)(s:Qad)(a:Act)(w:World):Prop:=
 ∃C S Pr,S.w=w/\ConE C N s S a/\a.defers=[]/\base<=w.heap.size/\J i Pr w/\(∀b,ownB S b->base<=b/\ ¬Pr b)/\(∀b,S.ok b->ok0 b\/ ¬Pr b)
def itQ{ι:Type}(J:ι->(Nat->Prop)->World->Prop)(base:Nat)(ok0:Nat->Prop)(N:Nat)(i:ι)(Q:Qbl):Exit->Act->World->Prop
 | .normal,a,w=> ∃s,Q .normal s/\It J base ok0 N i s a w
 | .exit id,a,w=> ∃s,Q (.exit id) s/\It J base ok0 N i s a w
 | .ret,a,w=> ∃s,Q .ret s/\It J base ok0 N i s a w
 |_,_,_=>False
theorem rdl_scs{ok ok':Nat->Prop}{hp hp':Nat->Option Obj}: ∀(ds:List D) (vs:List Value),ds.all D.scs=true->rdl ok hp ds vs->rdl ok' hp' ds vs
 |[],_,_,hd=>by simpa only[rdl] using hd
 |d::ds,vs,h,hd=>by
  simp only[rdl,ZcA,Zah] at hd h⊢;obtain⟨v,r,rfl,h1,h2⟩:=hd;exact⟨v,r,rfl,rd_scs h.1 h1,rdl_scs ds r h.2 h2⟩
section
variable {ι:Type}{P:Program}{V:Qbh}{N:Nat}{J:ι->(Nat->Prop)->World->Prop}{base:Nat}{ok0:Nat->Prop}{i j:ι}
theorem it_reb(hA:Qoh base J){s:Qad}{a:Act}{w:World}(h:It J base ok0 N i s a w):
 ∃C1,Con C1 N s a w/\ ∀s' a' w',Con C1 N s' a' w'->It J base ok0 N i s' a' w':=by
 obtain⟨C,S,Pr,rfl,hE,hd,hb,hJ,hown,hok⟩:=h;obtain⟨hlt,hst⟩:=hA i Pr _ hJ;refine⟨rebC S s.nx a.defers,⟨S,rfl,reb_con hE⟩,?_⟩;rintro s' a' w' ⟨S',rfl,hc⟩;have hs:S.w.heap.size<=S'.w.heap.size:=hc.wf.size;refine⟨_,S',Pr,rfl,hc,hc.defers.trans hd,Zbd hb hs,hst _ hs hc.wf.os hc.wf.tape hc.wf.output ?_,fun b h=> ?_,fun b h=> ?_⟩
 .rintro b (h|h)
  .exact Qfk hc.wf b (hlt b h) (fun ho=>(hown b ho).2 h)
  .exact Qfk hc.wf b (by omega) (fun ho=>by have:=(hown b ho).1;omega)
 .rcases Qlo hc.wf h with q|q
  .exact⟨Zbd hb q,fun hp=>by have:=hlt b hp;omega⟩
  .exact hown b q
 .rcases Qmq hc.wf h with q|q|q
  .exact hok b q
  .exact .inr fun hp=>by have:=hlt b hp;omega
  .exact .inr (hown b q).2
def endS(s':Qad):Qbl
 | .normal,s=>sub s s'
 | .exit _,_=>False
 | .ret,_=>False
def endC(s':Qad)(p q:Prop)(id:Nat):Qbl
 | .normal,s=>p/\sub s s'
 | .exit k,s=>k=id/\q/\sub s s'
 | .ret,_=>False
theorem Qy6(HM:P.follows .mixedOrders=true)(HV:Qd1 P V)(hA:Qoh base J){c:Code}(hc:chk N c=true)(hcalm:Qis c=true){Q:Qbl}{s:Qad}{a:Act}{w:World}(hk:awp P V c Q s)(h:It J base ok0 N i s a w):
 c.wpIn Fence.wide 0 P (itQ J base ok0 N i Q) a w:=by
 obtain⟨C1,hc1,hback⟩:=it_reb hA h;refine wpIn_mono (Qgd (ro:=none) HM HV c hc hcalm Q s a w hk hc1) ?_;intro e a' w' hq;cases e<;>simp only[toQ] at hq<;>simp only[itQ]
 .obtain⟨s',h1,h2⟩:=hq;exact⟨s',h1,hback _ _ _ h2⟩
 .obtain⟨s',h1,h2⟩:=hq;exact⟨s',h1,hback _ _ _ h2⟩
 .obtain⟨s',h1,h2⟩:=hq;exact⟨s',h1,hback _ _ _ h2⟩
theorem Qdd{s s':Qad}{a:Act}{w:World}(h:It J base ok0 N i s a w)(hs:sub s s')(hg:s'.good=true)(hA:Qoh base J):It J base ok0 N i s' a w:=by
 obtain⟨C,S,Pr,rfl,hE,hd,hb,hJ,hown,hok⟩:=h;have hm:Qqc S S.w:=⟨Zap _,rfl,rfl,rfl,fun _ _=>rfl,fun _ _=>rfl⟩;have hE0:ConE (rebC S 0 a.defers) N s S a:=Qpp hE hm 0 (ZaU _) a a.defers rfl rfl;obtain⟨hlt,hst⟩:=hA i Pr _ hJ;obtain⟨S',hw,hc⟩:=Qmb ⟨S,rfl,hE0⟩ hs hg (ZaU _);refine⟨_,S',Pr,hw,hc,hd,hb,hJ,fun b h=> ?_,fun b h=> ?_⟩
 .rcases Qlo hc.wf h with q|q
  .exact⟨Zbd hb q,fun hp=>by have:=hlt b hp;omega⟩
  .exact hown b q
 .rcases Qmq hc.wf h with q|q|q
  .exact hok b q
  .exact .inr fun hp=>by have:=hlt b hp;omega
  .exact .inr (hown b q).2
theorem Qkw(HM:P.follows .mixedOrders=true)(HV:Qd1 P V)(hA:Qoh base J){x y:Code}(hc:chk N x=true)(hcalm:Qis x=true){Qx:Qbl}{Q:Exit->Act->World->Prop}{s:Qad}{a:Act}{w:World}(h:It J base ok0 N i s a w)(hk:awp P V x Qx s)
 (hn: ∀s a w,Qx .normal s->It J base ok0 N i s a w->y.wpIn Fence.wide 0 P Q a w)(he: ∀id s a w,Qx (.exit id) s->It J base ok0 N i s a w->Q (.exit id) a w)(hr: ∀s a w,Qx .ret s->It J base ok0 N i s a w->Q .ret a w):(x.seq y).wpIn Fence.wide 0 P Q a w:=by
 refine wpIn_seq (wpIn_mono (Qy6 HM HV hA hc hcalm hk h) ?_);intro e a' w' hq;cases e<;>simp only[itQ] at hq<;>simp only[Exit.then]
 .obtain⟨s',h1,h2⟩:=hq;exact hn s' _ _ h1 h2
 .obtain⟨s',h1,h2⟩:=hq;exact he _ s' _ _ h1 h2
 .obtain⟨s',h1,h2⟩:=hq;exact hr s' _ _ h1 h2
theorem Qs5(HM:P.follows .mixedOrders=true)(HV:Qd1 P V)(hA:Qoh base J){x:Code}(hc:chk N x=true)(hcalm:Qis x=true){Qx:Qbl}{Q:Exit->Act->World->Prop}{s:Qad}{a:Act}{w:World}(h:It J base ok0 N i s a w)(hk:awp P V x Qx s)
 (hn: ∀s a w,Qx .normal s->It J base ok0 N i s a w->Q .normal a w)(he: ∀id s a w,Qx (.exit id) s->It J base ok0 N i s a w->Q (.exit id) a w)(hr: ∀s a w,Qx .ret s->It J base ok0 N i s a w->Q .ret a w):x.wpIn Fence.wide 0 P Q a w:=by
 refine wpIn_mono (Qy6 HM HV hA hc hcalm hk h) ?_;intro e a' w' hq;cases e<;>simp only[itQ] at hq
 .obtain⟨s',h1,h2⟩:=hq;exact hn s' _ _ h1 h2
 .obtain⟨s',h1,h2⟩:=hq;exact he _ s' _ _ h1 h2
 .obtain⟨s',h1,h2⟩:=hq;exact hr s' _ _ h1 h2
theorem it_seg(HV:Qd1 P V)(hA:Qoh base J){ops:Array Oper}{seg more:List Oper}{i0:Nat}(hdrop:ops.toList.drop i0=seg++more)(hd:Qkq N seg=true)(hcalm:Qhw ops=true){K:Qad->Prop}{Q:Exit->Act->World->Prop}{l2:List Nat}{s:Qad}{a:Act}{w:World}
 (hk:rgS P V (Qgy ops seg) K s)(h:It J base ok0 N i s a w)(hK: ∀s a w,K s->It J base ok0 N i s a w->wpOpsIn Fence.wide 0 P ops Q l2 a w):wpOpsIn Fence.wide 0 P ops Q (List.range' i0 seg.length++l2) a w:=by
 obtain⟨C1,hc1,hback⟩:=it_reb hA h;exact Qha (ro:=none) hcalm (K:=fun a w=> ∃s,K s/\It J base ok0 N i s a w) (fun a w ⟨s,h1,h2⟩=>hK s a w h1 h2) _ _ _
  (Qpr HV (Q:=fun _ a w=> ∃s,K s/\It J base ok0 N i s a w) (fun s a w h1 h2=>⟨s,h1,hback _ _ _ h2⟩) seg more i0 hdrop hd s a w hk hc1)
theorem conE_put{C:Ctx}{s:Qad}{S:Env}{a:Act}(hc:ConE C N s S a){dst:Option Nat}(hd: ∀d,dst=some d->d<N){x:AV}{v:Value}(hx:x.nms=[])(hv:conc S x v):ConE C N (s.put dst x) S (a.put dst v):=by
 have hh:(s.put dst x).h=s.h:=by cases dst<;>rfl
 have hx':(s.put dst x).nx=s.nx:=by cases dst<;>rfl
 refine⟨hc.wf,fun n=>by rw[hh];exact hc.h n,?_,?_,?_,?_,?_,by rw[hx'];exact hc.n0,hc.pre⟩
 .intro t;rw[Qeb,Qfo (fun d h=>by rw[hc.size];exact hd d h)];split
  .exact hv
  .exact hc.tm t
 .intro t;rw[Qeb,hx'];split
  .intro m hm;rw[hx] at hm;cases hm
  .exact hc.nmT t
 .rw[hh,hx'];exact hc.nmH
 .cases dst<;>simp[Act.put,hc.size]
 .cases dst<;>simp[Act.put,hc.defers]
theorem it_yield(hA:Qoh base J){stp:ι->List D->ι->Prop}{l:Nat}(hY: ∀i x j args Pr W,stp i x j->(∀ok hp,rdl ok hp x args.toList)->J i Pr W->YieldAt Fence.wide 0 P l args W fun e W'=>e= .returned (.bool true)/\ ∃Pr',J j Pr' W'/\Move ok0 Pr W Pr' W')
 {ops:Array Oper}{k:Nat}{rest:List Nat}{o:Oper}{c:Call}{f:Operand}{x:List D}{s:Qad}{a:Act}{w:World}{Q:Exit->Act->World->Prop}(ho:ops[k]? =some o)(hw:Region.wanted o (yielded ops a.tmps)=true)(hop:o.op= .call c)(hcal:c.callee= .value f)
 (hf:evO s.tm f= .im (.fn (1000000000+l) [] []))(hargs:evL s.tm c.args.toList=x.map .im)(hsc:x.all D.scs=true)(hx:stp i x j)(hnv: ∀n e,hget s.h n=some e->e.2.isView=false)(hd: ∀d,o.dst=some d->d<N)(h:It J base ok0 N i s a w)
 (hnext: ∀a' w',It J base ok0 N j (s.put o.dst (.im (.bool true))) a' w'->wpOpsIn Fence.wide 0 P ops Q rest a' w'):wpOpsIn Fence.wide 0 P ops Q (k::rest) a w:=by
 obtain⟨C,S,Pr,rfl,hE,hdf,hb,hJ,hown,hok⟩:=h;obtain⟨hlt,_⟩:=hA i Pr _ hJ;have hfv:a.eval f= .func (.yield l) #[] #[]:=by
  have h1:=Qdn hE f;rw[hf] at h1;simp only[conc,rd,rdl] at h1;obtain⟨A,B,h2,h3,h4⟩:=h1;have e1:A= #[]:=by simpa using h3
  have e2:B= #[]:=by simpa using h4
  rw[h2,e1,e2];congr 1;unfold fnV;rw[Zaj (by omega),ZcX]
 have hcl:Qa0 S (x.map .im) (c.args.map a.eval).toList:=by
  rw[<-hargs,Zcw];exact Qpe _ (fun y _=>Qdn hE y)
 have hrd: ∀ok hp,rdl ok hp x (c.args.map a.eval).toList:=fun ok hp=>by
  have h1:=(Qa6 _ _).1 hcl;exact rdl_scs _ _ hsc h1
 obtain⟨fn,tmps,as1,bo,hy,hR⟩:=hY i x j (c.args.map a.eval) Pr S.w hx hrd hJ;simp only[wpOpsIn,ho,hw,ZaQ];refine⟨fun _ _=>trivial,?_⟩;have hrun:(o.semAt Fence.wide.round a.eval).run P S.w= .ok (.round l fn tmps as1 bo) S.w:=by
  show (execOp a.eval o).run P S.w=_;simp only[execOp,hop,resolve,hcal,hfv,Sem.run_bind];simp[Deferred.ofValue,invoke,hy]
 rw[hrun,Oper.uponIn_round];refine⟨fun h=>(by cases h),RoundIn.mono hR ?_⟩;rintro e W' ⟨rfl,Pr',hJ',hM⟩;have hm:Qqc S W':=by
  refine⟨hM.size,hM.os,hM.tape,hM.output,fun b hb'=> ?_,?_⟩
  .rcases hok b hb' with q|q
   .exact hM.same b (hE.wf.oks b hb') (.inr q)
   .exact hM.same b (hE.wf.oks b hb') (.inl q)
  .rintro b ⟨o',e,lc,q1,q2,rfl⟩;have hl:=hE.wf.loc o' e lc q1 q2;cases hmu:e.1 with
   |true=>exact hM.same _ hl.1 (.inl (hown _ ⟨o',e,lc,q1,hmu,q2,rfl⟩).2)
   |false=>
    have h5:=hl.2;rw[hmu] at h5;simp only[ZaB,Zby] at h5;rcases h5 with h5|h5
    .rcases hok _ h5 with q|q
     .exact hM.same _ hl.1 (.inr q)
     .exact hM.same _ hl.1 (.inl q)
    .rw[hnv o' e (by rw[<-hE.h o'];exact q1)] at h5;cases h5
 refine hnext _ _ ⟨_,{S with w:=W'},Pr',rfl,conE_put (Qpp hE hm 0 (ZaU _) a [] hdf rfl) hd rfl (by simp only[conc,rd]),?_,Zbd hb hM.size,hJ',fun b hb'=> ?_,fun b hb'=> ?_⟩
 .cases o.dst<;>exact hdf
 .have q:=hown b hb';have q2:=(Qhd hE.wf hb').1;refine⟨q.1,fun hp=> ?_⟩;rcases hM.pr b hp with r|r
  .exact q.2 r
  .omega
 .rcases hok b hb' with q|q
  .exact .inl q
  .refine .inr fun hp=> ?_
   have q2:=hE.wf.oks b hb';rcases hM.pr b hp with r|r
   .exact q r
   .omega
theorem it_regY(HV:Qd1 P V)(hA:Qoh base J){stp:ι->List D->ι->Prop}{l:Nat}(hY: ∀i x j args Pr W,stp i x j->(∀ok hp,rdl ok hp x args.toList)->J i Pr W->YieldAt Fence.wide 0 P l args W fun e W'=>e= .returned (.bool true)/\ ∃Pr',J j Pr' W'/\Move ok0 Pr W Pr' W')
 {id:Nat}{ops:Array Oper}(k1:Nat)(hsz:List.range ops.size=List.range' 0 (ops.toList.take k1).length++(k1::(List.range' (k1+1) (ops.toList.drop (k1+1)).length++[])))(hd1:Qkq N (ops.toList.take k1)=true)(hd2:Qkq N (ops.toList.drop (k1+1))=true)(hcalm:Qhw ops=true)
 {o:Oper}{c:Call}{f:Operand}{x:List D}(s1:Qad){s s2:Qad}{a:Act}{w:World}{Q:Exit->Act->World->Prop}{g t:Nat}(ho:ops[k1]? =some o)(hop:o.op= .call c)(hcal:c.callee= .value f)(hgd:o.guard=some (g,true))(hgt:(ops[g]?).bind (·.dst)=some t)(hgb:tget s1.tm t= .im (.bool true))
 (hf:evO s1.tm f= .im (.fn (1000000000+l) [] []))(hargs:evL s1.tm c.args.toList=x.map .im)(hsc:x.all D.scs=true)(hx:stp i x j)(hnv: ∀n e,hget s1.h n=some e->e.2.isView=false)(hd: ∀d,o.dst=some d->d<N)(hg1:s1.good=true)(hg2:s2.good=true)
 (h:It J base ok0 N i s a w)(hk1:rgS P V (Qgy ops (ops.toList.take k1)) (fun s=>sub s s1) s)(hk2:rgS P V (Qgy ops (ops.toList.drop (k1+1))) (fun s=>sub s s2) (s1.put o.dst (.im (.bool true))))
 (hend: ∀a w,It J base ok0 N j s2 a w->Q .normal a w):(Code.region id ops false).wpIn Fence.wide 0 P Q a w:=by
 refine wpIn_region ?_;rw[hsz];refine it_seg HV hA (seg:=ops.toList.take k1) (more:=ops.toList.drop k1) (by rw[Zci,Zcr]) hd1 hcalm hk1 h (fun s a w h1 h2=> ?_);have h3:=Qdd h2 h1 hg1 hA;have hw:Region.wanted o (yielded ops a.tmps)=true:=by
  obtain⟨C,S,Pr,_,hE,_⟩:=h3;have hy:=Qqk hE hgt hgb;simp[Region.wanted,hgd,hy]
 refine it_yield hA hY ho hw hop hcal hf hargs hsc hx hnv hd h3 (fun a w h4=> ?_);refine it_seg HV hA (seg:=ops.toList.drop (k1+1)) (more:=[]) (by rw[ZaK]) hd2 hcalm hk2 h4 (fun s a w h5 h6=> ?_);exact hend a w (Qdd h6 h5 hg2 hA)
end
theorem it_fnG{P:Program}{gf:Nat}{fn:Func}{c:Code}(hf:P.funcs[gf]? =some fn)(hb:fn.body=some c)(hres:fn.results.toList=[]){capt:List D}{X:Giv}(hlen:capt.length+1<=fn.ntmps)
 (hk: ∀(l:Nat) (J:X.I->(Nat->Prop)->World->Prop) (base:Nat) (ok0:Nat->Prop),Qoh base J->
  (∀i x j args Pr W,X.step i x j->(∀ok hp,rdl ok hp x args.toList)->J i Pr W->YieldAt Fence.wide 0 P l args W fun e W'=>e= .returned (.bool true)/\ ∃Pr',J j Pr' W'/\Move ok0 Pr W Pr' W')->
  ∀a w,It J base ok0 fn.ntmps X.i0 ⟨entry 0 (.im (.fn (1000000000+l) [] [])::capt.map .im),[],0⟩ a w->c.wpIn Fence.wide 0 P (fun e a w=> ∃i,X.fin i/\itQ J base ok0 fn.ntmps i (fun e _=>e= .normal\/e= .ret) e a w) a w):IterG P gf capt X:=by
 intro C S vs l J hW hcap hA hY ⟨Pr,hJ⟩;refine callsIn_wide.1 (callsIn_of_wp_marks (n:=0) hf hb trivial (wpIn_mono (hk l J S.w.heap.size S.ok hA hY _ _ ?_) ?_))
 .let C0:Ctx:=⟨S.w,fun _=>False,S.ok,0,fun _=>none,fun _=>none,[]⟩
  let S0:Env:=⟨fun _=>none,S.ok,fun _=>none,S.w⟩
  have hW0:Wf C0 S0:=⟨rfl,rfl,rfl,Zap _,fun _ _ _=>rfl,fun _ hb=>hb,fun _ hb=> .inl hb,hW.oks,fun o e he=>(by cases he),fun o e l he=>(by cases he),fun o o' e e' l l' he=>(by cases he),hW.glN fun _ h=>h.elim⟩;have hargs:Qa0 S0 (.im (.fn (1000000000+l) [] [])::capt.map .im) (#[Value.func (.yield l) #[] #[]]++vs).toList:=by
   rw[Zek];refine⟨_,_,rfl,?_,(Qa6 _ _).2 hcap⟩;simp only[conc,rd,rdl];refine⟨#[],#[],?_,rfl,rfl⟩;unfold fnV;rw[Zaj (by omega),ZcX]
  have hvs:(#[Value.func (.yield l) #[] #[]]++vs).size=capt.length+1:=by
   have:=Qbs _ _ hargs
   simp at this⊢;omega
  obtain⟨As,hAs⟩: ∃As,As= #[Value.func (.yield l) #[] #[]]++vs:=⟨_,rfl⟩;rw[<-hAs] at hargs hvs⊢;refine⟨C0,S0,Pr,rfl,⟨hW0,fun n=>rfl,?_,?_,?_,?_,rfl,ZaU _,fun o ho=>absurd ho (ZdO _)⟩,rfl,Zap _,hJ,fun b ⟨o,e,lc,h1,_⟩=>(by cases h1),fun b hb=> .inl hb⟩
  .intro t;have h1:=Qev (S:=S0) _ As.toList 0 t hargs;simp only[ZaU,ZaQ,ZdJ] at h1
   have:({tmps:=As++Array.replicate (fn.ntmps - As.size) undef,defers:=[]}:Act).eval (.tmp t)=(As.toList[t]?).getD undef:=by
    simp only[Act.eval,ZaR,Zdc,Zcm];by_cases ht:t<As.size
    .simp[ht]
    .simp only[ht,Zby]
     have:As[t]? =none:=Zcd (by omega)
     simp only[Zbe,this]
     split<;>rfl
   rw[this];exact h1
  .intro t m hm
   have:=Qgh _ 0 t m hm
   simp only[nmsL,AV.nms,Zbi] at this;have h0: ∀(q:List D),nmsL (q.map .im)=[]:=by
    intro q;induction q with
    |nil=>rfl
    |cons d r ih=>simp only[Zaq,nmsL,AV.nms,ih,ZaK]
   rw[h0] at this;cases this
  .intro n e he;cases he
  .simp;omega
 .intro e a w he;obtain⟨i,hi,he⟩:=he;have fin:(∃s,It J S.w.heap.size S.ok fn.ntmps i s a w)->LeavesInM Fence.wide 0 P fn a.tmps (fun e W'=> ∃v Pr i,e= .returned v/\X.fin i/\J i Pr W') a.defers .returning w:=by
   rintro⟨s,C1,S1,Pr1,rfl,hE,hd,_,hJ1,_,_⟩;rw[hd];simp only[LeavesInM,LeavesIn];obtain⟨v,hrun,_⟩:=Qe7 (P:=P) hE (fn:=fn) (xs:=[]) (by rw[hres];rfl);exact⟨v,hrun,v,Pr1,i,rfl,hi,hJ1⟩
  cases e<;>simp only[itQ] at he<;>simp only[bodyPostM]
  .obtain⟨s,_,h⟩:=he;exact fin ⟨s,h⟩
  .obtain⟨s,h,_⟩:=he;rcases h with h|h<;>cases h
  .obtain⟨s,_,h⟩:=he;exact fin ⟨s,h⟩
theorem it_fn{P:Program}{gf:Nat}{fn:Func}{c:Code}(hf:P.funcs[gf]? =some fn)(hb:fn.body=some c)(hres:fn.results.toList=[]){capt:List D}{xs:List (List D)}(hlen:capt.length+1<=fn.ntmps)
 (hk: ∀(l:Nat) (J:Nat->(Nat->Prop)->World->Prop) (base:Nat) (ok0:Nat->Prop),Qoh base J->
  (∀i x j args Pr W,(xs[i]? =some x/\j=i+1)->(∀ok hp,rdl ok hp x args.toList)->J i Pr W->YieldAt Fence.wide 0 P l args W fun e W'=>e= .returned (.bool true)/\ ∃Pr',J j Pr' W'/\Move ok0 Pr W Pr' W')->
  ∀a w,It J base ok0 fn.ntmps 0 ⟨entry 0 (.im (.fn (1000000000+l) [] [])::capt.map .im),[],0⟩ a w->c.wpIn Fence.wide 0 P (itQ J base ok0 fn.ntmps xs.length (fun e _=>e= .normal\/e= .ret)) a w):IterOk P gf capt xs:=
 it_fnG (X:=givL xs) hf hb hres hlen fun l J base ok0 hA hY a w hIt=>wpIn_mono (hk l J base ok0 hA hY a w hIt) fun _ _ _ h=>⟨xs.length,rfl,h⟩
end Go.Ae
namespace Go.Ae
open Go Go.Proofs
def Qux:Qbh:=tab [(56,step_.row),(176,placeAt.row)]
theorem nbrTab_ok:Qkj Tryz.prog Qux:=Qaaq _ (by
 intro p hp;simp only[Zaw,Zca,ZdQ] at hp;rcases hp with rfl|rfl
 .exact step_.ok
 .exact placeAt.ok)
def Qf8(a:Asm)(k:Nat):Nat->List (List D)
 |0=>[]
 |j+1=>Qf8 a k j++if 0<=nbA a k (1 - j) then [[.agg [.int .i64 k,.int .i64 (nbA a k (1 - j))],.int .i64 (1 - j)]] else []
def nbrK(a:Asm):Nat->List (List D)
 |0=>[]
 |k+1=>nbrK a k++Qf8 a k 2
theorem Qzu(a:Asm): ∀(n k:Nat),k<=n-> ∃r,nbrK a n=nbrK a k++r
 |0,k,h=>⟨[],by obtain rfl:k=0:=by omega
                rw[ZaK]⟩
 |n+1,k,h=>by
  by_cases hk:k=n+1
  .subst hk;exact⟨[],by rw[ZaK]⟩
  .obtain⟨r,hr⟩:=Qzu a n k (by omega);exact⟨r++Qf8 a n 2,by rw[nbrK,hr,ZbA]⟩
theorem Qv3(a:Asm)(k:Nat): ∀(n j:Nat),j<=n-> ∃r,Qf8 a k n=Qf8 a k j++r
 |0,j,h=>⟨[],by obtain rfl:j=0:=by omega
                rw[ZaK]⟩
 |n+1,j,h=>by
  by_cases hk:j=n+1
  .subst hk;exact⟨[],by rw[ZaK]⟩
  .obtain⟨r,hr⟩:=Qv3 a k n j (by omega);rw[Qf8,hr];exact⟨_,by rw[ZbA]⟩
theorem nbr_get(a:Asm){n k j:Nat}(hk:k<n)(hj:j<2)(h:0<=nbA a k (1 - j)):(nbrK a n)[(nbrK a k).length+(Qf8 a k j).length]? =some [.agg [.int .i64 k,.int .i64 (nbA a k (1 - j))],.int .i64 (1 - j)]:=by
 obtain⟨r1,h1⟩:=Qzu a n (k+1) hk;obtain⟨r2,h2⟩:=Qv3 a k 2 (j+1) (by omega);rw[h1,nbrK,h2,Qf8,Zao h,ZbA,ZbA,ZbA,ZaC (Nat.le_add_right _ _),ZcX,ZaC (Zap _),Zcj];rfl
def nbO(l:Nat)(A:Asm)(k:Nat):Qad:=⟨[(11,.im (.int .i64 k)),(10,.im (.int .i64 A.Tiles.length)),(9,.im (.sl false 3 (A.Tiles.map Qab.c))),(1,.im (.ref (Asm.c A))),(0,.im (.fn (1000000000+l) [] []))],[],0⟩
def nbI(l:Nat)(A:Asm)(k:Nat)(p:Qab)(j:Nat):Qad:=⟨[(18,.im (.int .i64 j)),(17,.im (.int .i64 2)),(16,.own 1),(4,.ptr 0 0),(3,.im (.int .i64 k)),(11,.im (.int .i64 k)),(10,.im (.int .i64 A.Tiles.length)),(9,.im (.sl false 3 (A.Tiles.map Qab.c))),(1,.im (.ref (Asm.c A))),(0,.im (.fn (1000000000+l) [] []))],
 [(0,(true,.cells 116 [.im (.int .i64 p.At.X),.im (.int .i64 p.At.Y),.im (.int .i64 p.Tile)])),(1,(true,.arr 2 1 (([1,0]:List Int).map intC)))],2⟩
theorem nbr_iter(A:Asm)(hA:Qaz none A.Tiles=true)(hl:A.Tiles.length<=1000000)(hS: ∀x∈A.Tiles,Qdy x.At):IterOk Tryz.prog 175 [.ref (Asm.c A)] (nbrK A A.Tiles.length):=by
 refine it_fn Tryz.func175 rfl rfl (by simp) ?_;intro l J base ok0 hAb hY a w hIt;have HV:=Qvp nbrTab_ok;obtain⟨R,hR⟩: ∃R,R=itQ J base ok0 Tryz.f175.ntmps (nbrK A A.Tiles.length).length (fun e _=>e= .normal\/e= .ret):=⟨_,rfl⟩;rw[<-hR];simp only[Tryz.f175,Option.getD] at hIt⊢;refine Qkw Qaq HV hAb (by decide) (by decide) hIt (Qx:=endS (nbO l A 0)) ?_ (fun s a w h1 h2=> ?_) (fun _ _ _ _ h=>h.elim) (fun _ _ _ h=>h.elim)
 .simp(maxSteps:=9^9)(disch:=omega)only[ZZ,simprocAttr,rch,endS,nbO,entry,Asm.c,sub];exact fun _=>trivial
 have h3:=Qdd h2 h1 (by simp[nbO,Qad.good,belT,belH,Qam,AV.bel]) hAb;clear h1 h2 hIt;refine wpIn_block (wpIn_loop_ghost (fun m a w=> ∃k,k<=A.Tiles.length/\m=A.Tiles.length - k/\It J base ok0 41 (nbrK A k).length (nbO l A k) a w) A.Tiles.length ⟨0,ZaU _,rfl,h3⟩ ?_);clear h3;rintro m a w ⟨k,hk,hm,h⟩;refine Qkw Qaq HV hAb (by decide) (by decide) h (Qx:=endS ⟨(12,.im (.bool (decide (k<A.Tiles.length))))::(nbO l A k).tm,[],0⟩) ?_ (fun s a w h1 h2=> ?_) (fun _ _ _ _ h=>h.elim) (fun _ _ _ h=>h.elim)
 .simp(maxSteps:=9^9)(disch:=omega)only[ZZ,simprocAttr,rch,endS,nbO,sub]
 have h3:=Qdd h2 h1 (by simp[nbO,Qad.good,belT,belH,Qam,AV.bel]) hAb;clear h1 h2 h;refine Qkw Qaq HV hAb (by decide) (by decide) h3 (Qx:=endC (nbO l A k) (k<A.Tiles.length) (¬k<A.Tiles.length) 0) ?_ (fun s a w h1 h2=> ?_) (fun id s a w h1 h2=> ?_) (fun _ _ _ h=>h.elim)
 .simp(maxSteps:=9^9)(disch:=omega)only[ZZ,simprocAttr,rch,endC,nbO,sub]
  split<;>assumption
 rotate_left
 .obtain⟨rfl,h4,h1⟩:=h1;have hkn:k=A.Tiles.length:=by omega
  subst hkn;simp only[Exit.then,Exit.inBlock,ZaQ,hR,itQ];exact⟨s,.inl trivial,h2⟩
 obtain⟨hkl,h1⟩:=h1;have h:=Qdd h2 h1 (by simp[nbO,Qad.good,belT,belH,Qam,AV.bel]) hAb;clear h1 h2 h3;obtain⟨p,hp⟩: ∃p,A.Tiles[k]? =some p:=⟨_,Zad hkl⟩;refine wpIn_seq (wpIn_block ?_);refine Qkw Qaq HV hAb (by decide) (by decide) h (Qx:=endS ⟨(4,.ptr 0 0)::(3,.im (.int .i64 k))::(nbO l A k).tm,[(0,(true,.cells 116 [.im (.int .i64 p.At.X),.im (.int .i64 p.At.Y),.im (.int .i64 p.Tile)]))],1⟩) ?_ (fun s a w h1 h2=> ?_) (fun _ _ _ _ h=>h.elim) (fun _ _ _ h=>h.elim)
 .simp(maxSteps:=9^9)(disch:=omega)only[ZZ,simprocAttr,rch,endS,nbO,sub];refine⟨hkl,fun q hq=> ?_⟩;rw[hp] at hq;obtain rfl:=Zac hq;exact⟨rfl,rfl,rfl⟩
 have h3:=Qdd h2 h1 (by simp[nbO,Qad.good,belT,belH,belL,Qam,AV.bel]) hAb;clear h1 h2 h;refine Qkw Qaq HV hAb (by decide) (by decide) h3 (Qx:=endS (nbI l A k p 0)) ?_ (fun s a w h1 h2=> ?_) (fun _ _ _ _ h=>h.elim) (fun _ _ _ h=>h.elim)
 .simp(maxSteps:=9^9)(disch:=omega)only[ZZ,simprocAttr,rch,endS,nbO,nbI,sub]
 have h:=Qdd h2 h1 (by simp[nbI,Qad.good,belT,belH,belL,Qam,AV.bel]) hAb;clear h1 h2 h3;refine wpIn_block (wpIn_loop_ghost (fun m a w=> ∃j,j<=2/\m=2 - j/\It J base ok0 41 ((nbrK A k).length+(Qf8 A k j).length) (nbI l A k p j) a w) 2 ⟨0,ZaU _,rfl,h⟩ ?_);clear h;rintro m2 a w ⟨j,hj,hm2,h⟩;refine Qkw Qaq HV hAb (by decide) (by decide) h (Qx:=endS ⟨(19,.im (.bool (decide (j<2))))::(nbI l A k p j).tm,(nbI l A k p j).h,2⟩) ?_ (fun s a w h1 h2=> ?_) (fun _ _ _ _ h=>h.elim) (fun _ _ _ h=>h.elim)
 .simp(maxSteps:=9^9)(disch:=omega)only[ZZ,simprocAttr,rch,endS,nbI,sub];rw[Zec];omega
 have h3:=Qdd h2 h1 (by simp[nbI,Qad.good,belT,belH,belL,Qam,AV.bel]) hAb;clear h1 h2 h;refine Qkw Qaq HV hAb (by decide) (by decide) h3 (Qx:=endC (nbI l A k p j) (j<2) (¬j<2) 2) ?_ (fun s a w h1 h2=> ?_) (fun id s a w h1 h2=> ?_) (fun _ _ _ h=>h.elim)
 .simp(maxSteps:=9^9)(disch:=omega)only[ZZ,simprocAttr,rch,endC,nbI,sub]
  split<;>assumption
 rotate_left
 .obtain⟨rfl,h4,h1⟩:=h1;have hj2:j=2:=by omega
  subst hj2;have h5:=Qdd h2 h1 (by simp[nbI,Qad.good,belT,belH,belL,Qam,AV.bel]) hAb;simp only[Exit.then,Exit.inBlock,ZaQ];refine Qs5 Qaq HV hAb (by decide) (by decide) h5 (Qx:=endS (nbO l A (k+1))) ?_ (fun s a w h1 h2=> ?_) (fun _ _ _ _ h=>h.elim) (fun _ _ _ h=>h.elim)
  .simp(maxSteps:=9^9)(disch:=omega)only[ZZ,simprocAttr,rch,endS,nbI,nbO,sub];rw[Qak (by omega) (by omega)];omega
  have h6:=Qdd h2 h1 (by simp[nbO,Qad.good,belT,belH,Qam,AV.bel]) hAb;refine⟨A.Tiles.length - (k+1),by omega,k+1,by omega,rfl,?_⟩;rw[nbrK,Zaz];exact h6
 obtain⟨hj2,h1⟩:=h1;have h:=Qdd h2 h1 (by simp[nbI,Qad.good,belT,belH,belL,Qam,AV.bel]) hAb;clear h1 h2 h3;refine wpIn_seq (wpIn_block ?_);refine Qkw Qaq HV hAb (by decide) (by decide) h (Qx:=endS ⟨(6,.im (.int .i64 (1 - (j:Int))))::(nbI l A k p j).tm,(nbI l A k p j).h,2⟩) ?_ (fun s a w h1 h2=> ?_) (fun _ _ _ _ h=>h.elim) (fun _ _ _ h=>h.elim)
 .simp(maxSteps:=9^9)(disch:=omega)only[ZZ,simprocAttr,rch,endS,nbI,sub];refine⟨by omega,hj2,fun row hrow=> ?_⟩;rcases (show j=0\/j=1 by omega) with rfl|rfl
  .simp only[ZaV,Zae] at hrow;subst hrow;simp(maxSteps:=9^9)(disch:=omega)only[ZZ,simprocAttr,rch,endS,nbI,sub]
   try rfl
  .simp only[Zba,ZaV,Zae] at hrow;subst hrow;simp(maxSteps:=9^9)(disch:=omega)only[ZZ,simprocAttr,rch,endS,nbI,sub]
   try rfl
 have h3:=Qdd h2 h1 (by simp[nbI,Qad.good,belT,belH,belL,Qam,AV.bel]) hAb;clear h1 h2 h;refine Qkw Qaq HV hAb (by decide) (by decide) h3 (Qx:=endS ⟨(7,.im (.int .i64 (nbA A k (1 - (j:Int)))))::(6,.im (.int .i64 (1 - (j:Int))))::(nbI l A k p j).tm,(nbI l A k p j).h,2⟩) ?_ (fun s a w h1 h2=> ?_) (fun _ _ _ _ h=>h.elim) (fun _ _ _ h=>h.elim)
 .simp only[Qux];simp(maxSteps:=9^9)(disch:=omega)only[ZZ,simprocAttr,rch,endS,nbI,sub,step_.q,step_.ar,step_.re,step_.fv,placeAt.q,placeAt.ar,placeAt.re,placeAt.fv];refine⟨⟨hS p (Zaf hp),by omega,by omega⟩,hA,?_⟩;simp only[nbA,Zam,hp,ZaO,Zag]
 have h:=Qdd h2 h1 (by simp[nbI,Qad.good,belT,belH,belL,Qam,AV.bel]) hAb;clear h1 h2 h3;obtain⟨nb,hnb⟩: ∃nb,nb=nbA A k (1 - (j:Int)):=⟨_,rfl⟩;rw[<-hnb] at h;have hat:Qf8 A k (j+1)=Qf8 A k j++if 0<=nb then [[.agg [.int .i64 k,.int .i64 nb],.int .i64 (1 - (j:Int))]] else []:=by rw[Qf8,<-hnb]
 refine wpIn_seq (wpIn_mono (Q:=fun e a w=>e= .normal/\It J base ok0 41 ((nbrK A k).length+(Qf8 A k (j+1)).length) ⟨(38,.im (.bool false))::(nbI l A k p j).tm,(nbI l A k p j).h,2⟩ a w) ?_ ?_)
 .by_cases hn:0<=nb
  .rw[Zao hn] at hat;have hx:=nbr_get A (n:=A.Tiles.length) hkl hj2 (by rw[<-hnb];exact hn);rw[<-hnb] at hx;refine it_regY HV hAb hY 8 rfl (by decide) (by decide) (by decide) (s1:=⟨(30,.im (.bool true))::(31,.im (.fn (1000000000+l) [] []))::(34,.im (.agg [.int .i64 k,.int .i64 nb]))::(35,.im (.int .i64 (1 - (j:Int))))::(nbI l A k p j).tm,(nbI l A k p j).h,2⟩) rfl rfl rfl rfl rfl rfl rfl rfl (by simp[D.scs,D.sc]) ⟨hx,rfl⟩ ?_ (by decide) ?_ ?_ h ?_ ?_ (fun a w h9=>⟨rfl,by rw[hat,Zaz,<-ZcC];exact h9⟩)
   .intro n e he;simp only[nbI,hget] at he;cases h0:(0==n)<;>rw[h0] at he<;>simp only[Zbf,ZaS] at he
    .cases h1:(1==n)<;>rw[h1] at he<;>simp only[Zbf,ZaS,reduceCtorEq,Zae] at he;subst he;rfl
    .simp only[Zae] at he;subst he;rfl
   .simp[nbI,Qad.good,belT,belH,belL,Qam,AV.bel]
   .simp[nbI,Qad.good,belT,belH,belL,Qam,AV.bel]
   .have hnt:decide (nb≥0)=true:=by simpa using hn
    have hnt2:decide (0<=nb)=true:=by simpa using hn
    simp only[Qux];simp(maxSteps:=9^9)(disch:=omega)only[ZZ,simprocAttr,rch,nbI,sub,hnt,hnt2,hn,ZdV hn]
   .change rgS _ _ _ _ (Qad.put _ (some 36) (.im (.bool true)));simp only[Qux];simp(maxSteps:=9^9)(disch:=omega)only[ZZ,simprocAttr,rch,nbI,sub]
  .rw[Zaj hn,ZaK] at hat;refine Qs5 Qaq HV hAb (by decide) (by decide) h (Qx:=endS ⟨(38,.im (.bool false))::(nbI l A k p j).tm,(nbI l A k p j).h,2⟩) ?_ (fun s a w h1 h2=>⟨rfl,by rw[hat];exact Qdd h2 h1 (by simp[nbI,Qad.good,belT,belH,belL,Qam,AV.bel]) hAb⟩) (fun _ _ _ _ h=>h.elim) (fun _ _ _ h=>h.elim);simp only[Qux];simp(maxSteps:=9^9)(disch:=omega)only[ZZ,simprocAttr,rch,endS,nbI,sub,hn,eq_false hn]
 .rintro e a w ⟨rfl,h⟩;simp only[Exit.then];refine Qs5 Qaq HV hAb (by decide) (by decide) h (Qx:=endS (nbI l A k p j)) ?_ (fun s a w h1 h2=> ?_) (fun _ _ _ _ h=>h.elim) (fun _ _ _ h=>h.elim)
  .simp(maxSteps:=9^9)(disch:=omega)only[ZZ,simprocAttr,rch,endS,nbI,sub]
  have h3:=Qdd h2 h1 (by simp[nbI,Qad.good,belT,belH,belL,Qam,AV.bel]) hAb;simp only[Exit.inBlock,Exit.then];refine Qs5 Qaq HV hAb (by decide) (by decide) h3 (Qx:=endS (nbI l A k p (j+1))) ?_ (fun s a w h1 h2=> ?_) (fun _ _ _ _ h=>h.elim) (fun _ _ _ h=>h.elim)
  .simp(maxSteps:=9^9)(disch:=omega)only[ZZ,simprocAttr,rch,endS,nbI,sub];rw[Qak (by omega) (by omega)];omega
  have h6:=Qdd h2 h1 (by simp[nbI,Qad.good,belT,belH,belL,Qam,AV.bel]) hAb;exact⟨2 - (j+1),by omega,j+1,by omega,rfl,h6⟩
def nbD:D->Option Asm
 | .fn g [] [.ref ds]=>if g=175 then Asm.d ds else none
 |_=>none
theorem nbD_le: ∀d b,nbD d=some b->Le d (.fn 175 [] [.ref (Asm.c b)]):=by
 intro d b h;unfold nbD at h;split at h
 .rename_i g ds;split at h
  .rename_i hg;subst hg;refine Qos ?_;exact⟨Qil (Asm.d_le _ _ h).leP,trivial⟩
  .cases h
 .cases h
theorem nbD_c(b:Asm):nbD (.fn 175 [] [.ref (Asm.c b)])=some b:=by
 simp only[nbD,ZaQ,Asm.d_c]
def nbrs.rc:D->Option (Asm):=nbD
def nbrs.re:Asm->D:=fun a=>D.fn 175 [] [.ref (Asm.c a)]
theorem nbrs.rle: ∀d b,nbrs.rc d=some b->Le d (nbrs.re b):=nbD_le
def nbrs.ar:List PK->Option (Asm):=a1 (kR Asm.d)
def nbrs.fv(a:Asm):Asm:=(fun a=>a) a
def nbrs.row:Row:=vK (b1 (qR Asm.d_le)) (RK.mk nbrs.rc nbrs.re nbrs.rle) (fun a=>True) nbrs.fv
def nbrs.q:=vKq (R:=nbrs.row) rfl
theorem nbrs.ok:Qas Tryz.prog 158 nbrs.row:=by
 refine vw tN Tryz.func158 rfl (by kernel_rfl) ?_;intro a hpre;simp only[Tryz.f158,Option.getD];simp(maxSteps:=9^9)(disch:=omega)only[ZZ,simprocAttr,rch,nbrs.fv,nbrs.rc];exact .inl (nbD_c a)
def Qs0(s:Qaa)(a:Asm):Prop:=setP s/\Qn7 s a/\a.Tiles.length<=1000000/\ ∀x∈a.Tiles,Qdy x.At
def rowB(s:Qaa)(a:Asm):List D->List Bond
 |[.agg [.int .i64 k,.int .i64 m],.int .i64 d]=>if 0<Qfn s (Qda a k) d (Qda a m) then [⟨k,m,Qfn s (Qda a k) d (Qda a m)⟩] else []
 |_=>[]
def outB(s:Qaa)(a:Asm)(i:Nat):List Bond:=((nbrK a a.Tiles.length).take i).flatMap (rowB s a)
theorem outB_end(s:Qaa)(a:Asm):outB s a (nbrK a a.Tiles.length).length=Qel s a a.Tiles.length:=by
 rw[outB,ZbP];have h1: ∀k j,(Qf8 a k j).flatMap (rowB s a)=Qez s a k j:=by
  intro k j;induction j with
  |zero=>rfl
  |succ j ih=>
   rw[Qf8,ZdG,ih,Qez];congr 1;simp only[Qs7];split
   .simp only[ZbN,ZdE,ZaK,rowB]
   .rfl
 have h2: ∀n,(nbrK a n).flatMap (rowB s a)=Qel s a n:=by
  intro n;induction n with
  |zero=>rfl
  |succ n ih=>rw[nbrK,ZdG,ih,h1,Qel]
 exact h2 _
theorem Qv6(s:Qaa)(a:Asm){i:Nat}{x:List D}(h:(nbrK a a.Tiles.length)[i]? =some x):outB s a (i+1)=outB s a i++rowB s a x:=by
 rw[outB,ZbO,h,ZdG,outB];simp
theorem nbr_mem(a:Asm){x:List D}(h:x∈nbrK a a.Tiles.length): ∃k m d:Int,x=[.agg [.int .i64 k,.int .i64 m],.int .i64 d]/\0<=k/\k<a.Tiles.length/\0<=m/\m<a.Tiles.length/\0<=d/\d<=1:=by
 have h1: ∀(k:Nat) j,j<=2->k<a.Tiles.length->x∈Qf8 a k j-> ∃k m d:Int,x=[.agg [.int .i64 k,.int .i64 m],.int .i64 d]/\0<=k/\k<a.Tiles.length/\0<=m/\m<a.Tiles.length/\0<=d/\d<=1:=by
  intro k j;induction j with
  |zero=>intro _ _ h;simp[Qf8] at h
  |succ j ih=>
   intro hj hk hx;rw[Qf8,Zan] at hx;rcases hx with hx|hx
   .exact ih (by omega) hk hx
   .split at hx
    .rename_i h0;obtain rfl:=Zal.1 hx;exact⟨k,nbA a k (1 - j),1 - j,rfl,by omega,by omega,h0,nbA_lt _ _ _,by omega,by omega⟩
    .cases hx
 have h2: ∀n,n<=a.Tiles.length->x∈nbrK a n-> ∃k m d:Int,x=[.agg [.int .i64 k,.int .i64 m],.int .i64 d]/\0<=k/\k<a.Tiles.length/\0<=m/\m<a.Tiles.length/\0<=d/\d<=1:=by
  intro n;induction n with
  |zero=>intro _ h;simp[nbrK] at h
  |succ n ih=>
   intro hn hx;rw[nbrK,Zan] at hx;rcases hx with hx|hx
   .exact ih (by omega) hx
   .exact h1 n 2 (Zap _) hn hx
 exact h2 _ (Zap _) h
theorem nbrK_len(a:Asm): ∀n,(nbrK a n).length<=2*n:=by
 have h1: ∀k j,(Qf8 a k j).length<=j:=by
  intro k j;induction j with
  |zero=>simp[Qf8]
  |succ j ih=>rw[Qf8,Zaz];split<;>simp<;>omega
 intro n;induction n with
 |zero=>simp[nbrK]
 |succ n ih=>have:=h1 n 2;rw[nbrK,Zaz];omega
theorem outB_len(s:Qaa)(a:Asm)(i:Nat):(outB s a i).length<=i:=by
 induction i with
 |zero=>simp[outB]
 |succ i ih=>
  cases h:(nbrK a a.Tiles.length)[i]? with
  |none=>
   have:outB s a (i+1)=outB s a i:=by
    have hl:=ZeE.1 h;rw[outB,outB,ZaL (by omega),ZaL hl]
   rw[this];omega
  |some x=>
   rw[Qv6 s a h,Zaz]
   have:(rowB s a x).length<=1:=by
    unfold rowB;split
    .split<;>simp
    .simp
   omega
def Qqn:Qbh:=tab [(158,nbrs.row),(57,bond_.row)]
theorem bndTab_ok:Qkj Tryz.prog Qqn:=Qaaq _ (by
 intro p hp;simp only[Zaw,Zca,ZdQ] at hp;rcases hp with rfl|rfl
 .exact nbrs.ok
 .exact bond_.ok)
theorem Qaa1: ∀(H:Qan),(H.all fun p=> !p.2.2.isView)=true-> ∀o e,hget H o=some e->e.2.isView=false
 |[],_,o,e,h=>by cases h
 |(n,x)::r,hv,o,e,h=>by
  simp only[ZcA,Zah,ZbZ] at hv;simp only[hget] at h;cases hq:(n==o)<;>rw[hq] at h
  .exact Qaa1 r hv.2 o e h
  .simp only[Zbf,Zae] at h;subst h;exact hv.1
theorem Qxh{P:Program}{V:Qbh}{C:Ctx}{N:Nat}(HM:P.follows .mixedOrders=true)(HV:Qd1 P V){x y:Code}(hcx:chk N x=true)(hcalm:Qis x=true){s':Qad}{Q:Exit->Act->World->Prop}{s:Qad}{a:Act}{w:World}(hc:Con C N s a w)(hk:awp P V x (endS s') s)(hg:s'.good=true)(hn0:C.n0<=s'.nx)
 (hn: ∀a w,Con C N s' a w->y.wpIn Fence.wide 0 P Q a w):(x.seq y).wpIn Fence.wide 0 P Q a w:=by
 refine wpIn_seq (wpIn_mono (Qgd (ro:=none) HM HV x hcx hcalm _ s a w hk hc) ?_);intro e a' w' hq;cases e<;>simp only[toQ] at hq<;>simp only[Exit.then]
 .obtain⟨s1,h1,h2⟩:=hq;exact hn _ _ (Qmb h2 h1 hg hn0)
 .obtain⟨_,h,_⟩:=hq;exact h.elim
 .obtain⟨_,h,_⟩:=hq;exact h.elim
def bnds.rc:D->Option (List Bond):=vSl Bond.d
def bnds.re:(List Bond)->D:=fun b=>D.sl false 3 (b.map Bond.c)
theorem bnds.rle: ∀d b,bnds.rc d=some b->Le d (bnds.re b):=vSl_le Bond.d_le (fun _=>rfl)
def bnds.ar:List PK->Option (Qaa×Asm):=a2 (kR Qaa.d) (kR Asm.d)
def bnds.ae(a:Qaa×Asm):List PK:=[.val (.agg (Qaa.c a.1)),.val (.agg (Asm.c a.2))]
theorem bnds.le: ∀ps a,bnds.ar ps=some a->LeKL ps (bnds.ae a):=(a2_le (kR_le Qaa.d_le) (kR_le Asm.d_le))
def bnds.fv(a:Qaa×Asm):List Bond:=(fun s a=>Qel s a a.Tiles.length) (a.1) (a.2)
def bnds.row:Row:=vKF (b2 (qR Qaa.d_le) (qR Asm.d_le)) (RK.mk bnds.rc bnds.re bnds.rle) (fun a=>Qs0 a.1 a.2) bnds.fv
def bnds.q:=vKFq (R:=bnds.row) rfl
theorem bnds.ok:Qas Tryz.prog 134 bnds.row:=by
 refine Quy (by kernel_rfl) bnds.le bnds.rle ?_;intro a hpre C S vs RR hW hps hfin;refine view_runR Tryz.func134 rfl (by simp[bnds.ae]) ?_ hW hps hfin;clear hfin hps hW;intro C0 act w hw hn0 hc hdf;have HV:=Qvp bndTab_ok;have hds:C0.ds=[]:=by obtain⟨S0,_,h⟩:=hc;rw[<-h.defers];exact hdf
 simp only[Tryz.f134,Option.getD] at hc⊢;obtain⟨s,A⟩:=a;obtain⟨h1,h2,h3,h4⟩:=hpre;simp only at h1 h2 h3 h4;refine Qxh Qaq HV (by decide) (by decide) (s':=⟨[(3,.ptr 1 0),(2,.ptr 0 0)],[(0,(true,.cells 27 ((Qaa.c s).map .im))),(1,(true,.cells 30 ((Asm.c A).map .im)))],2⟩) hc ?_ ?_ (by rw[hn0];exact ZaU _) (fun a w hc=> ?_)
 .simp only[Qqn];simp(maxSteps:=9^9)(disch:=omega)only[ZZ,simprocAttr,rch,endS,sub,bnds.ae,Qcq,Qc5,cnum,entry]
 .simp[Qad.good,belT,belH,belL,Qam,AV.bel,Qaa.c,Asm.c]
 refine Qxh Qaq HV (by decide) (by decide) (s':=⟨[(5,.ptr 2 0),(3,.ptr 1 0),(2,.ptr 0 0)],[(0,(true,.cells 27 ((Qaa.c s).map .im))),(1,(true,.cells 30 ((Asm.c A).map .im))),(2,(true,.cells 135 [.im (.sl true 0 [])]))],3⟩) hc ?_ ?_ (by rw[hn0];exact ZaU _) (fun a w hc=> ?_)
 .simp only[Qqn];simp(maxSteps:=9^9)(disch:=omega)only[ZZ,simprocAttr,rch,endS,sub]
 .simp[Qad.good,belT,belH,belL,Qam,AV.bel,Qaa.c,Asm.c]
 refine wpIn_seq ?_;refine Qxh Qaq HV (by decide) (by decide) (s':=⟨[(10,.im (.fn 175 [] [.ref (Asm.c A)])),(5,.ptr 2 0),(3,.ptr 1 0),(2,.ptr 0 0)],[(0,(true,.cells 27 ((Qaa.c s).map .im))),(1,(true,.cells 30 ((Asm.c A).map .im))),(2,(true,.cells 135 [.im (.sl true 0 [])]))],3⟩) hc ?_ ?_ (by rw[hn0];exact ZaU _) (fun a w hc=> ?_)
 .simp only[Qqn];simp(maxSteps:=9^9)(disch:=omega)only[ZZ,simprocAttr,rch,endS,sub,nbrs.q,nbrs.ar,nbrs.re,nbrs.fv]
 .simp[Qad.good,belT,belH,belL,Qam,AV.bel,Qaa.c,Asm.c]
 refine wpIn_block (wpIn_mono (range_wp Qaq HV hc (gf:=175) (capt:=[.ref (Asm.c A)]) (xs:=nbrK A A.Tiles.length) (Qh7 (by kernel_rfl)) (nbr_iter A h2.1 h3 h4) (by decide) (by decide) (by decide) (by decide) ?_ (by decide)
  (tm0:=[(10,.im (.fn 175 [] [.ref (Asm.c A)])),(5,.ptr 2 0),(3,.ptr 1 0),(2,.ptr 0 0)]) (hs:=fun i=>[(0,(true,.cells 27 ((Qaa.c s).map .im))),(1,(true,.cells 30 ((Asm.c A).map .im))),(2,(true,.cells 135 [.own 3])),(3,(true,.arr 175 3 ((outB s A i).map Bond.c)))]) (nx:=4) ⟨[(3,none)],?_⟩ rfl (by simp) ?_ ?_ ?_ ?_) ?_)
 .intro x hx;obtain⟨k,m,d,rfl,_⟩:=nbr_mem A hx;rfl
 .simp only[subP];simp(maxSteps:=9^9)(disch:=omega)only[ZZ,simprocAttr,rch,Zab,Zaa,outB,ZdE]
 .simp[belT,AV.bel]
 .intro i hi;simp[Qad.good,belT,belH,belL,Qam,AV.bel,Qaa.c,Asm.c]
 .intro i o e he hv;rw[Qaa1 _ (by rfl) o e he] at hv;cases hv
 .intro i x hx;have hbl:=outB_len s A i;have hil:=(Zai.1 hx).1;have hnl:=nbrK_len A A.Tiles.length;obtain⟨k,m,d,rfl,k0,k1,m0,m1,d0,d1⟩:=nbr_mem A (Zaf hx);have hsu:=Qv6 s A hx;simp only[rowB] at hsu;simp only[Qqn];simp(maxSteps:=9^9)(disch:=omega)only[ZZ,simprocAttr,rch,asgQ,rndQ,parT,sub,bond_.q,bond_.ar,bond_.re,bond_.fv,Qal];refine⟨k0,k1,fun p hp=>⟨m0,m1,fun q hq=>⟨⟨h1,h2.2 p (Zaf hp),⟨d0,by omega⟩,h2.2 q (Zaf hq)⟩,fun hb=>⟨?_,by omega,[(3,some 6)],?_⟩,fun hb=>⟨[],?_⟩⟩⟩⟩
  .intro row hrow;obtain rfl:=Zal.1 hrow;rfl
  all_goals
   have e1:Qda A k=p.Tile:=by simp[Qda,hp]
   have e2:Qda A m=q.Tile:=by simp[Qda,hq]
   rw[e1,e2] at hsu
  .rw[Zao hb] at hsu;simp only[subP];simp(maxSteps:=9^9)(disch:=omega)only[ZZ,simprocAttr,rch,Zab,Zaa,hsu];simp[Bond.c]
  .rw[Zaj hb,ZaK] at hsu;simp only[subP];simp(maxSteps:=9^9)(disch:=omega)only[ZZ,simprocAttr,rch,Zab,Zaa,hsu]
 .intro e a' w' hq;cases e<;>simp only[rngQ] at hq;obtain⟨C2,S2,Dk,rfl,hE,hback,ht,hd,hD1,hD2,hD3,hD4,hD5⟩:=hq;simp only[Exit.inBlock,Exit.then];have hd0:a.defers=[]:=by obtain⟨S0,_,h⟩:=hc;rw[h.defers];exact hds
  rw[hd0] at hd;have hm: ∀a'':Act,a''.defers=C2.ds->Qrj C0 C2 a''.defers:=fun a'' h=> .inr ⟨Dk,by rw[h,<-hE.defers,hd],hD1,hD2,hD3,hD4,hD5⟩
  refine wpIn_mono (Qgd (ro:=none) Qaq HV _ (by decide) (by decide) (Qxj Tryz.prog [ResultVar.tmp 4] (decD bnds.rc (bnds.fv (s,A)))) _ a' S2.w ?_ ⟨S2,rfl,hE⟩) ?_
  .simp only[Qqn];simp(maxSteps:=9^9)(disch:=omega)only[ZZ,simprocAttr,rch,bnds.rc,bnds.fv,outB_end,decD];intro row hrow;obtain⟨b,_,rfl⟩:=ZaJ.1 hrow;rfl
  .intro e a'' w'' hq;cases e<;>simp only[toQ] at hq<;>simp only[rngP]
   .obtain⟨s',hs',hcon⟩:=hq;exact⟨s',C2,hs',hcon,hback,hm a'' (by obtain⟨S0,_,h⟩:=hcon;exact h.defers)⟩
   .obtain⟨s',hs',hcon⟩:=hq;exact hs'.elim
   .obtain⟨s',hs',hcon⟩:=hq;exact⟨s',C2,hs',hcon,hback,hm a'' (by obtain⟨S0,_,h⟩:=hcon;exact h.defers)⟩
end Go.Ae
namespace Go.Ae
open Go.Proofs
theorem betwR_P{n:Nat}{gs:List (List Int)}(hg:0<gs.length): ∀(bs:List Bond),(∀b∈bs,0<b.Strength/\b.Strength<=4)-> ∀b∈Qf3 (Qoz n gs) bs,bndP gs.length b
 |[],_,b,h=>by simp[Qf3] at h
 |x::r,hs,b,h=>by
  simp only[Qf3] at h;have ih:=betwR_P (n:=n) hg r (fun y hy=>hs y (Zas _ hy)) b;split at h
  .exact ih h
  .rename_i hne;rcases Zaw.1 h with rfl|h
   .have h1:=Qy8 (n:=n) hg x.A;have h2:=Qy8 (n:=n) hg x.B;have h3:=hs x (Zat ..);exact⟨⟨h1.1,h1.2,h2.1,h2.2⟩,hne,h3.1,h3.2⟩
   .exact ih h
def Qip(s:Qaa)(a:Asm)(t:Int):Bool×Bool:=
 if 64<(conN a.Tiles.length (Qel s a a.Tiles.length) t).1 then (false,false)
 else (Qwj (conN a.Tiles.length (Qel s a a.Tiles.length) t).1 (conN a.Tiles.length (Qel s a a.Tiles.length) t).2 t,true)
theorem Qz2(n:Nat)(bs:List Bond)(hn:0<n): ∀k,(∀v∈ownK n bs k,0<=v)/\(ownK n bs k)[0]? =some 0
 |0=>by
  refine⟨fun v hv=> ?_,Qj8 n 0 hn⟩;obtain⟨i,hi⟩:=ZaP.1 hv;have hl:=(Zai.1 hi).1;simp only[ownK] at hi hl;rw[Qj8 n i (by rwa [Qff] at hl)] at hi
  have:=Zac hi
  omega
 |k+1=>by
  obtain⟨h1,h2⟩:=Qz2 n bs hn k;simp only[ownK];split
  .rename_i b hb;have hx: ∀i:Nat,0<=(ownK n bs k)[i]?.getD 0:=by
    intro i;cases h:(ownK n bs k)[i]? with
    |none=>simp
    |some v=>exact h1 v (Zaf h)
   have hj: ∀x y v:Int,0<=x->0<=y->0<=v->0<=Qja x y v:=by
    intro x y v hx hy hv;simp only[Qja];by_cases h:v=maxI x y
    .rw[Zao h];simp only[minI];split<;>omega
    .rw[Zaj h];exact hv
   have hj0: ∀x y:Int,0<=x->0<=y->Qja x y 0=0:=by
    intro x y hx hy;simp only[Qja];by_cases h:(0:Int)=maxI x y
    .rw[Zao h];simp only[maxI] at h;simp only[minI];split at h<;>split<;>omega
    .rw[Zaj h]
   refine⟨fun v hv=> ?_,?_⟩
   .obtain⟨u,hu,rfl⟩:=ZaJ.1 hv;exact hj _ _ _ (hx _) (hx _) (h1 u hu)
   .rw[Qnr,ZaN,h2,ZaO,hj0 _ _ (hx _) (hx _)]
  .exact⟨h1,h2⟩
theorem Qab7{n:Nat}{bs:List Bond}{t:Int}(hn:0<n):0<(Qd2 n bs t).length:=by
 have h:=(Qz2 n (Qdc t bs) hn (Qdc t bs).length).2;obtain⟨rest,hm⟩:=Qo6 (ownK n (Qdc t bs) (Qdc t bs).length) n 0 h n (Zap _) hn
 have:(((0:Nat):Int)::rest)∈Qd2 n bs t:=by simpa only[Qd2,Qf2,Zam] using hm
 exact ZeR this
theorem con_pre{n:Nat}{bs:List Bond}{t:Int}(hb: ∀b∈bs,bndP n b)(hl:bs.length<=1000000)(h1:(conN n bs t).1<=64):nwPre (conN n bs t):=by
 have hl2:=Qpl (Qoz n (Qd2 n bs t)) bs;by_cases h0:0<(conN n bs t).1
 .have hP:=betwR_P (n:=n) (gs:=Qd2 n bs t) (by simp only[conN] at h0;omega) bs (fun b hb'=>⟨(hb b hb').2.2.1,(hb b hb').2.2.2⟩);refine⟨by omega,h1,by simp only[conN,Zam];omega,fun b hb'=> ?_,fun b hb'=> ?_,fun b hb'=> ?_⟩
  .have:=hP b (by simpa only[conN,Zam] using hb')
   exact this.1
  .have:=hP b (by simpa only[conN,Zam] using hb')
   have:=this.2.2
   omega
  .have:=hP b (by simpa only[conN,Zam] using hb')
   exact this.2.1
 .have hn:bs=[]:=by
   cases bs with
   |nil=>rfl
   |cons b r=>
    exfalso;have h5:=(hb b (Zat ..)).1;have h6:=Qab7 (n:=n) (bs:=b::r) (t:=t) (by omega);simp only[conN] at h0;omega
  subst hn;refine⟨by simp only[conN];omega,h1,by simp only[conN,Qf3];simp,fun b hb'=> ?_,fun b hb'=> ?_,fun b hb'=> ?_⟩<;>(simp[conN,Qf3] at hb')
def stabI.fv(a:Qaa×Asm×Int):Bool×Bool:=(Qip) (a.1) (a.2.1) (a.2.2)
def stabI.row:Row:=vKF (b3 (qR Qaa.d_le) (qR Asm.d_le) qI) (r2 rB rB) (fun a=>Qs0 a.1 a.2.1/\a.2.1.Tiles.length<=512/\0<=a.2.2/\a.2.2<=1000000) stabI.fv
def stabI.q:=vKFq (R:=stabI.row) rfl
theorem stabI.ok:Qas Tryz.prog 98 stabI.row:=by
 refine vwF (tC bnds.ok (tC contr.ok (tC holds_.ok tN))) Tryz.func98 rfl (by kernel_rfl) ?_;intro a hpre;simp only[Tryz.f98,Option.getD];simp(maxSteps:=9^9)(disch:=omega)only[ZZ,simprocAttr,rch,stabI.fv,bnds.q,bnds.fv,bnds.re,contr.q,contr.fv,holds_.q,holds_.fv,ORC,D.sc,D.scs,scL,decD];obtain⟨s,A,t⟩:=a;obtain⟨h1,h2,h3,h4⟩:=hpre;simp only at h1 h2 h3 h4⊢;have hP:=Qro h1.1 A A.Tiles.length (Zap _);have hL:=Qh3 s A A.Tiles.length;refine⟨h1,⟨by omega,fun b hb=>(hP b hb).1,by omega⟩,?_⟩;split
 .rename_i h;simp only[Qip];rw[Zao h]
 .rename_i h;refine⟨⟨con_pre hP (by omega) (by omega),h3,h4⟩,?_⟩;simp only[Qip];rw[Zaj h]
def Qe3(s:Qaa)(a:Asm)(t:Int):Bool×Int:=
 if (Qcl s && Qcp s a)=false then (false,1)
 else if Qau t 1 16=false then (false,2)
 else if (Qip s a t).2=false then (false,4) else ((Qip s a t).1,0)
theorem Qof{s:Qaa}{a:Asm}(h:(Qcl s && Qcp s a)=true):Qs0 s a/\a.Tiles.length<=512:=by
 rw[Zah] at h;have h1:=Qge h.1;have h2:=Qdg h.2;refine⟨⟨h1,h2.1,by omega,fun x hx=> ?_⟩,by omega⟩
 have:=(Qh6 _ _ h2.1.1 x hx).1
 simp only[Qbi,Qau,Zah,Zar] at this;refine⟨?_,?_,?_,?_⟩<;>omega
def isStab.fv(a:Qaa×Asm×Int):Bool×Int:=(Qe3) (a.1) (a.2.1) (a.2.2)
def isStab.row:Row:=vKF (b3 (qR Qaa.d_le) (qR Asm.d_le) qI) (r2 rB rI) (fun a=>Qf6 a.1) isStab.fv
def isStab.q:=vKFq (R:=isStab.row) rfl
theorem isStab.ok:Qas Tryz.prog 64 isStab.row:=by
 refine vwF (tC ValidAssembly_.ok (tC isTemperature.ok (tC stabI.ok tN))) Tryz.func64 rfl (by kernel_rfl) ?_;intro a hpre;simp only[Tryz.f64,Option.getD];simp(maxSteps:=9^9)(disch:=omega)only[ZZ,simprocAttr,rch,isStab.fv,ValidAssembly_.q,ValidAssembly_.fv,isTemperature.q,isTemperature.fv,stabI.q,stabI.fv,ORC,D.sc,D.scs,scL,decD];obtain⟨s,A,t⟩:=a;simp only at hpre⊢;refine⟨hpre,?_⟩;split
 .rename_i c1;simp only[Qe3];rw[Zao c1]
 .rename_i c1;split
  .rename_i c2;simp only[Qe3];rw[Zaj c1,Zao c2]
  .rename_i c2;have h1:=Qof (s:=s) (a:=A) (by simpa using c1);have h2:Qau t 1 16=true:=by simpa using c2
   simp only[Qau,Zah,Zar] at h2;refine⟨⟨h1.1,h1.2,by omega,by omega⟩,?_⟩;split
   .rename_i c3;simp only[Qe3];rw[Zaj c1,Zaj c2,Zao c3]
   .rename_i c3;simp only[Qe3];rw[Zaj c1,Zaj c2,Zaj c3]
def Qk1(y:Qar):Bool:=if y.Seed.Tiles.length=0 then false else ((Qe3 y.Set y.Seed y.Temperature).1 && decide ((Qe3 y.Set y.Seed y.Temperature).2=0))
def validI_.fv(a:Qar):Bool:=(Qk1) a
def validI_.row:Row:=vKF (b1 (qR Qar.d_le)) rB (fun a=>Qf6 a.Set) validI_.fv
def validI_.q:=vKFq (R:=validI_.row) rfl
theorem validI_.ok:Qas Tryz.prog 29 validI_.row:=by
 refine vwF (tC isStab.ok tN) Tryz.func29 rfl (by kernel_rfl) ?_;intro a hpre;simp only[Tryz.f29,Option.getD];simp(maxSteps:=9^9)(disch:=omega)only[ZZ,simprocAttr,rch,validI_.fv,isStab.q,isStab.fv,ORC,D.sc,D.scs,scL,decD];intro _;by_cases h:a.Seed.Tiles.length=0
 .rw[Zao (by omega)];simp only[Qk1];rw[Zao h]
 .rw[Zaj (by omega)];refine⟨hpre,?_⟩;simp only[Qk1];rw[Zaj h];split
  .rename_i c;rw[c,Zbj]
  .rename_i c;rw[ZcV] at c;rw[c,Zbu]
theorem Qv9(S:Nat->Bool)(nm:List Int): ∀(bs:List Bond),cutW S (Qf3 nm bs)=cutW S (Qck nm bs)
 |[]=>rfl
 |b::r=>by
  have ih:=Qv9 S nm r;simp only[Qf3,Qck];split
  .exact ih
  .simp only[cutW,ih];congr 1;obtain⟨x,hx⟩: ∃x,x=nmOf nm b.A:=⟨_,rfl⟩;obtain⟨y,hy⟩: ∃y,y=nmOf nm b.B:=⟨_,rfl⟩;rw[<-hx,<-hy];by_cases h:x<y
   .have e1:minI x y=x:=Zao h;have e2:maxI x y=y:=Zaj (by omega);rw[e1,e2]
   .have e1:minI x y=y:=Zaj h;by_cases h2:y<x
    .have e2:maxI x y=x:=Zao h2;rw[e1,e2];by_cases hS:S x.toNat=S y.toNat
     .rw[Zao hS,Zao hS.symm]
     .rw[Zaj hS,Zaj (Zcz hS)]
    .have e2:maxI x y=y:=Zaj h2
     have:x=y:=by omega
     rw[e1,e2,this]
theorem Qxe(n:Nat)(nm:List Int)(bs:List Bond)(t:Int)(k:Nat):Qka n (Qf3 nm bs) t k↔Qka n (Qck nm bs) t k:=by
 simp only[Qka,Qv9]
theorem stab_law{s:Qaa}{A:Asm}{t:Int}(h:Qs0 s A)(hl:A.Tiles.length<=512)(ht:0<=t):
 (Qip s A t).2=decide ((Qx2 s A t).2=0)/\((Qip s A t).2=true->(Qip s A t).1=(Qx2 s A t).1):=by
 have hP:=Qro h.1 A A.Tiles.length (Zap _);have hL:=Qh3 s A A.Tiles.length;obtain⟨bs,hbs⟩: ∃bs,bs=Qel s A A.Tiles.length:=⟨_,rfl⟩;obtain⟨n,hn⟩: ∃n,n=A.Tiles.length:=⟨_,rfl⟩;rw[<-hn] at hP hL hbs hl;rw[<-hbs] at hP hL;have hc:(conN n bs t).1=(shrN n bs t).1:=rfl;simp only[Qip,Qx2,<-hn,<-hbs,hc];by_cases h1:64<(shrN n bs t).1
 .rw[Zao h1,Zao h1];exact⟨rfl,fun h=>by cases h⟩
 .rw[Zaj h1,Zaj h1];have hcp:=con_pre (t:=t) hP (by omega) (by rw[hc];omega);have hh:=Qtt (n:=(shrN n bs t).1.toNat) (bs:=(conN n bs t).2) (t:=t) (fun b hb=>by
   have:=hcp.2.2.2.1 b hb
   have h0:=hcp.1;rw[hc] at this h0;rw[Int.toNat_of_nonneg h0];exact this) hcp.2.2.2.2.1 ht
  by_cases h2:(shrN n bs t).1<2
  .rw[Zao h2];refine⟨rfl,fun _=> ?_⟩;simp only[Qwj];rw[show (shrN n bs t).1.toNat - 1=0 by omega];rfl
  .rw[Zaj h2];refine⟨rfl,fun _=> ?_⟩;obtain⟨p1,p2⟩:=shr_pre (t:=t) hP (by omega) (by omega) (by omega);have hw:=(Qzk (n:=(shrN n bs t).1) (bs:=(shrN n bs t).2) p1 p2 ht ((shrN n bs t).1 - 1).toNat (by omega) (by omega)).2;have hh2:=hh ((shrN n bs t).1.toNat - 1) (by omega);simp only[Qwj];rw[show ((shrN n bs t).1 - 1).toNat=(shrN n bs t).1.toNat - 1 by omega] at hw⊢;have e:Qka (shrN n bs t).1.toNat (conN n bs t).2 t ((shrN n bs t).1.toNat - 1)↔Qka (shrN n bs t).1.toNat (shrN n bs t).2 t ((shrN n bs t).1.toNat - 1):=Qxe _ _ _ _ _;rw[ZcN,hh2,e,<-hw];simp
theorem Qacv(y:Qar):Qk1 y=Qjc y:=by
 simp only[Qk1,Qjc];by_cases h:y.Seed.Tiles.length=0
 .rw[Zao h]
  have:y.Seed.Tiles=[]:=Zcy h
  simp[this]
 .rw[Zaj h];have he:y.Seed.Tiles.isEmpty=false:=by
   rw[ZeF];intro h2;rw[h2] at h;simp at h
  by_cases c1:(Qcl y.Set && Qcp y.Set y.Seed)=false
  .have e:Qe3 y.Set y.Seed y.Temperature=(false,1):=Zao c1;rw[e];rw[ZdY] at c1;rcases c1 with c1|c1<;>simp[c1]
  .have c1':=c1;rw[ZaZ] at c1;have hp:=Qof (s:=y.Set) (a:=y.Seed) c1;rw[Zah] at c1;rw[c1.1,c1.2,he];by_cases c2:Qau y.Temperature 1 16=false
   .have e:Qe3 y.Set y.Seed y.Temperature=(false,2):=(Zaj c1').trans (Zao c2);rw[e,c2];simp
   .have c2':=c2;rw[ZaZ] at c2;have ht:0<=y.Temperature:=by simp only[Qau,Zah,Zar] at c2;omega
    obtain⟨q1,q2⟩:=stab_law hp.1 hp.2 ht;rw[c2];simp only[stabB,ZcJ,Zbj];by_cases c3:(Qip y.Set y.Seed y.Temperature).2=false
    .have e:Qe3 y.Set y.Seed y.Temperature=(false,4):=(Zaj c1').trans ((Zaj c2').trans (Zao c3));rw[e,<-q1,c3];simp
    .have e:Qe3 y.Set y.Seed y.Temperature=((Qip y.Set y.Seed y.Temperature).1,0):=(Zaj c1').trans ((Zaj c2').trans (Zaj c3));rw[ZaZ] at c3;rw[e,<-q1,c3,q2 c3];simp
theorem Qq4{a b:Qae}(h:Qap a b=false)(hne:a≠b):Qap b a=true:=by
 obtain⟨x,y⟩:=a;obtain⟨z,w⟩:=b;simp only[Qap,ne_eq,Qae.mk.injEq] at*
 grind
def insT(p:Qae)(t:Int):List Qab->List Qab
 |[]=>[⟨p,t⟩]
 |x::r=>if Qap p x.At=true then ⟨p,t⟩::x::r else x::insT p t r
theorem put_ins(p:Qae)(t:Int): ∀(l:List Qab),Qfz p t false l++(if Qcx p l=true then [] else [⟨p,t⟩])=insT p t l
 |[]=>rfl
 |x::r=>by
  have ih:=put_ins p t r;by_cases h:Qap p x.At=true
  .have e:Qcx p (x::r)=true:=by simp only[Qcx,Zao h]
   simp only[e,ZaQ,ZaK,Qfz,insT,Zao h,Qpu]
  .have e:Qcx p (x::r)=Qcx p r:=by simp only[Qcx,Zaj h]
   simp only[e,Qfz,insT,Zaj h,ZaA,ih]
theorem Qi8(a:Asm)(p:Qae)(t:Int):putA a p t=⟨insT p t a.Tiles⟩:=by simp only[putA,put_ins]
theorem Qlc(p:Qae)(t:Int)(y:Qab): ∀(l:List Qab),y∈insT p t l↔y=⟨p,t⟩\/y∈l
 |[]=>by simp[insT]
 |x::r=>by
  simp only[insT];split
  .simp
  .simp only[Zaw,Qlc p t y r];constructor
   .rintro (h|h|h)
    .exact .inr (.inl h)
    .exact .inl h
    .exact .inr (.inr h)
   .rintro (h|h|h)
    .exact .inr (.inl h)
    .exact .inl h
    .exact .inr (.inr h)
theorem Qki{p:Qae}{t:Int}(hp:Qbi p=true)(ht:Qau t 0 159=true): ∀(l:List Qab) (q:Option Qae),Qaz q l=true->(∀q',q=some q'->Qap q' p=true)->(∀x∈l,x.At≠p)->Qaz q (insT p t l)=true
 |[],q,_,h2,_=>by
  simp only[insT,Qbq,Qik,hp,ht,Zbj,ZaX];cases q with
  |none=>rfl
  |some q'=>exact h2 q' rfl
 |x::r,q,h1,h2,h3=>by
  have hx:=h3 x (Zat ..);rw[Qbq] at h1;simp only[Zah] at h1;obtain⟨g1,g2,g3,g4⟩:=h1;simp only[insT];split
  .rename_i hl;rw[Qbq,Qbq];simp only[hp,ht,g1,g2,g4,hl,Zbj,ZaX];cases q with
   |none=>rfl
   |some q'=>exact h2 q' rfl
  .rename_i hl;rw[Qbq];have ih:=Qki hp ht r (some x.At) g4 (fun q' hq'=>by
    obtain rfl:=Zac hq';exact Qq4 (by simpa using hl) (Zcz hx)) (fun y hy=>h3 y (Zas _ hy))
   simp only[g1,g2,ih,Zbj,ZaX];exact g3
def repS1(m:Sim)(o:Asm)(x:Qab):Option Asm:=
 if (m.Labels[x.Tile.toNat]?.getD 0)<0 then some o
 else if 0<=atA o (Qgu x.At m.Scale).1/\atA o (Qgu x.At m.Scale).1≠(m.Labels[x.Tile.toNat]?.getD 0) then none
 else if atA o (Qgu x.At m.Scale).1<0 then some (putA o (Qgu x.At m.Scale).1 (m.Labels[x.Tile.toNat]?.getD 0)) else some o
def canS(s:Qar)(a:Asm)(o:Opt):Bool:=Qbi o.At && (Qau o.Tile 0 (s.Set.Tiles.length - 1) && (decide (Qaw (fun x=>decide (x.At=o.At)) 0 a.Tiles<0) && decide (s.Temperature<=Qjm s.Set a o.At o.Tile 4)))
theorem Qma{a:Asm}{p:Qae}(h:Qaw (fun x=>decide (x.At=p)) 0 a.Tiles<0): ∀x∈a.Tiles,x.At≠p:=by
 intro x hx he;rcases Qep (fun x=>decide (x.At=p)) a.Tiles 0 with ⟨h1,_⟩|⟨i,y,_,h2,_⟩
 .have:=ZcR.1 h1 x hx
  simp[he] at this
 .omega
end Go.Ae
