/- Lemmas. Conditions: none. -/
import Derived.Test.YtkjfcnnfidnpcaaGreatDoorP11
import Derived.Sort.LoopGhostIn
set_option linter.all false
set_option maxHeartbeats 8000000
set_option maxRecDepth 100000
namespace Go.Ae
open Go
def It{ι:Type}(J:ι->(Nat->Prop)->World->Prop)(base:Nat)(ok0:Nat->Prop)(N:Nat)(i:ι)(s:Av)(a:Act)(w:World):Prop:=
 ∃C S Pr,S.w=w/\CL C N s S a/\a.defers=[]/\base<=w.heap.size/\J i Pr w/\(∀b,EW S b->base<=b/\ ¬Pr b)/\(∀b,S.ok b->ok0 b\/ ¬Pr b)
def SH{ι:Type}(J:ι->(Nat->Prop)->World->Prop)(base:Nat)(ok0:Nat->Prop)(N:Nat)(i:ι)(Q:Cq):Exit->Act->World->Prop
 | .normal,a,w=> ∃s,Q .normal s/\It J base ok0 N i s a w
 | .exit id,a,w=> ∃s,Q (.exit id) s/\It J base ok0 N i s a w
 | .ret,a,w=> ∃s,Q .ret s/\It J base ok0 N i s a w
 |_,_,_=>False
def MC{ok ok':Nat->Prop}{hp hp':Nat->Option Obj}: ∀(ds:List D) (vs:List Value),ds.all D.scs=true->rdl ok hp ds vs->rdl ok' hp' ds vs
 |[],_,_,hd=>by simpa only[rdl] using hd
 |d::ds,vs,h,hd=>by
  simp only[rdl,J8,AL] at hd h⊢;obtain⟨v,r,rfl,z,O⟩:=hd;exact⟨v,r,rfl,KR h.1 z,MC ds r h.2 O⟩
section
variable {ι:Type}{P:Program}{V:CX}{N:Nat}{J:ι->(Nat->Prop)->World->Prop}{base:Nat}{ok0:Nat->Prop}{i j:ι}
def SJ(hA:NX base J){s:Av}{a:Act}{w:World}(h:It J base ok0 N i s a w):
 ∃C1,BF C1 N s a w/\ ∀s' a' w',BF C1 N s' a' w'->It J base ok0 N i s' a' w':=by
 obtain⟨C,S,Pr,rfl,hE,hd,hb,hJ,z,aa⟩:=h;obtain⟨Q,ab⟩:=hA i Pr _ hJ;refine⟨Gv S s.nx a.defers,⟨S,rfl,Ys hE⟩,?_⟩;rintro s' a' w' ⟨S',rfl,O⟩;have hs:S.w.heap.size<=S'.w.heap.size:=O.wf.size;refine⟨_,S',Pr,rfl,O,O.defers.trans hd,DR hb hs,ab _ hs O.wf.os O.wf.tape O.wf.output ?_,λb h=> ?_,λb h=> ?_⟩
 .rintro b (h|h)
  .exact Zo O.wf b (Q b h) (λZ=>(z b Z).2 h)
  .exact Zo O.wf b (by omega) (λZ=>by have:=(z b Z).1;omega)
 .rcases lQ O.wf h with q|q
  .exact⟨DR hb q,λhp=>by have:=Q b hp;omega⟩
  .exact z b q
 .rcases ZC O.wf h with q|q|q
  .exact aa b q
  .exact .inr λhp=>by have:=Q b hp;omega
  .exact .inr (z b q).2
def BI(s':Av):Cq
 | .normal,s=>sub s s'
 | .exit _,_=>False
 | .ret,_=>False
def IS(s':Av)(p q:Prop)(id:Nat):Cq
 | .normal,s=>p/\sub s s'
 | .exit k,s=>k=id/\q/\sub s s'
 | .ret,_=>False
def Qy6(HM:P.follows .mixedOrders=true)(HV:Hj P V)(hA:NX base J){c:Code}(hc:Ec N c=true)(O:H6 c=true){Q:Cq}{s:Av}{a:Act}{w:World}(hk:Da P V c Q s)(h:It J base ok0 N i s a w):
 c.wpIn Fence.wide 0 P (SH J base ok0 N i Q) a w:=by
 obtain⟨C1,aa,z⟩:=SJ hA h;refine wpIn_mono (kZ (ro:=none) HM HV c hc O Q s a w hk aa) ?_;intro e a' w' hq;cases e<;>simp only[FU] at hq<;>simp only[SH]
 .obtain⟨s',Z,h2⟩:=hq;exact⟨s',Z,z _ _ _ h2⟩
 .obtain⟨s',Z,h2⟩:=hq;exact⟨s',Z,z _ _ _ h2⟩
 .obtain⟨s',Z,h2⟩:=hq;exact⟨s',Z,z _ _ _ h2⟩
def FN{s s':Av}{a:Act}{w:World}(h:It J base ok0 N i s a w)(hs:sub s s')(hg:s'.good=true)(hA:NX base J):It J base ok0 N i s' a w:=by
 obtain⟨C,S,Pr,rfl,hE,hd,hb,hJ,z,aa⟩:=h;have hm:Rg S S.w:=⟨AN _,rfl,rfl,rfl,λ_ _=>rfl,λ_ _=>rfl⟩;have Q:CL (Gv S 0 a.defers) N s S a:=uB hE hm 0 (CR _) a a.defers rfl rfl;obtain⟨O,ab⟩:=hA i Pr _ hJ;obtain⟨S',hw,Z⟩:=lX ⟨S,rfl,Q⟩ hs hg (CR _);refine⟨_,S',Pr,hw,Z,hd,hb,hJ,λb h=> ?_,λb h=> ?_⟩
 .rcases lQ Z.wf h with q|q
  .exact⟨DR hb q,λhp=>by have:=O b hp;omega⟩
  .exact z b q
 .rcases ZC Z.wf h with q|q|q
  .exact aa b q
  .exact .inr λhp=>by have:=O b hp;omega
  .exact .inr (z b q).2
def Lu(HM:P.follows .mixedOrders=true)(HV:Hj P V)(hA:NX base J){x y:Code}(hc:Ec N x=true)(z:H6 x=true){Qx:Cq}{Q:Exit->Act->World->Prop}{s:Av}{a:Act}{w:World}(h:It J base ok0 N i s a w)(hk:Da P V x Qx s)
 (hn: ∀s a w,Qx .normal s->It J base ok0 N i s a w->y.wpIn Fence.wide 0 P Q a w)(he: ∀id s a w,Qx (.exit id) s->It J base ok0 N i s a w->Q (.exit id) a w)(hr: ∀s a w,Qx .ret s->It J base ok0 N i s a w->Q .ret a w):(x.seq y).wpIn Fence.wide 0 P Q a w:=by
 refine wpIn_seq (wpIn_mono (Qy6 HM HV hA hc z hk h) ?_);intro e a' w' hq;cases e<;>simp only[SH] at hq<;>simp only[Exit.then]
 .obtain⟨s',O,Z⟩:=hq;exact hn s' _ _ O Z
 .obtain⟨s',O,Z⟩:=hq;exact he _ s' _ _ O Z
 .obtain⟨s',O,Z⟩:=hq;exact hr s' _ _ O Z
def uI(HM:P.follows .mixedOrders=true)(HV:Hj P V)(hA:NX base J){x:Code}(hc:Ec N x=true)(z:H6 x=true){Qx:Cq}{Q:Exit->Act->World->Prop}{s:Av}{a:Act}{w:World}(h:It J base ok0 N i s a w)(hk:Da P V x Qx s)
 (hn: ∀s a w,Qx .normal s->It J base ok0 N i s a w->Q .normal a w)(he: ∀id s a w,Qx (.exit id) s->It J base ok0 N i s a w->Q (.exit id) a w)(hr: ∀s a w,Qx .ret s->It J base ok0 N i s a w->Q .ret a w):x.wpIn Fence.wide 0 P Q a w:=by
 refine wpIn_mono (Qy6 HM HV hA hc z hk h) ?_;intro e a' w' hq;cases e<;>simp only[SH] at hq
 .obtain⟨s',O,Z⟩:=hq;exact hn s' _ _ O Z
 .obtain⟨s',O,Z⟩:=hq;exact he _ s' _ _ O Z
 .obtain⟨s',O,Z⟩:=hq;exact hr s' _ _ O Z
def Wl(HV:Hj P V)(hA:NX base J){ops:Array Oper}{seg more:List Oper}{i0:Nat}(Z:ops.toList.drop i0=seg++more)(hd:J4 N seg=true)(O:WB ops=true){K:Av->Prop}{Q:Exit->Act->World->Prop}{l2:List Nat}{s:Av}{a:Act}{w:World}
 (hk:KV P V (Ga ops seg) K s)(h:It J base ok0 N i s a w)(hK: ∀s a w,K s->It J base ok0 N i s a w->wpOpsIn Fence.wide 0 P ops Q l2 a w):wpOpsIn Fence.wide 0 P ops Q (List.range' i0 seg.length++l2) a w:=by
 obtain⟨C1,aa,z⟩:=SJ hA h;exact yM (ro:=none) O (K:=λa w=> ∃s,K s/\It J base ok0 N i s a w) (λa w ⟨s,h1,h2⟩=>hK s a w h1 h2) _ _ _
  (Qpr HV (Q:=λ_ a w=> ∃s,K s/\It J base ok0 N i s a w) (λs a w h1 h2=>⟨s,h1,z _ _ _ h2⟩) seg more i0 Z hd s a w hk aa)
def RB{C:AY}{s:Av}{S:Ax}{a:Act}(z:CL C N s S a){dst:Option Nat}(hd: ∀d,dst=some d->d<N){x:AV}{v:Value}(hx:x.nms=[])(hv:Aa S x v):CL C N (s.put dst x) S (a.put dst v):=by
 have Q:(s.put dst x).h=s.h:=by cases dst<;>rfl
 have O:(s.put dst x).nx=s.nx:=by cases dst<;>rfl
 refine⟨z.wf,λn=>by rw[Q];exact z.h n,?_,?_,?_,?_,?_,by rw[O];exact z.n0,z.pre⟩
 .intro t;rw[Vr,yF (λd h=>by rw[z.size];exact hd d h)];split
  .exact hv
  .exact z.tm t
 .intro t;rw[Vr,O];split
  .intro m Z;rw[hx] at Z;cases Z
  .exact z.nmT t
 .rw[Q,O];exact z.nmH
 .cases dst<;>simp[Act.put,z.size]
 .cases dst<;>simp[Act.put,z.defers]
def qQ(hA:NX base J){ai:ι->List D->ι->Prop}{l:Nat}(hY: ∀i x j args Pr W,ai i x j->(∀ok hp,rdl ok hp x args.toList)->J i Pr W->YieldAt Fence.wide 0 P l args W λe W'=>e= .returned (.bool true)/\ ∃Pr',J j Pr' W'/\Io ok0 Pr W Pr' W')
 {ops:Array Oper}{k:Nat}{rest:List Nat}{o:Oper}{c:Call}{f:Operand}{x:List D}{s:Av}{a:Act}{w:World}{Q:Exit->Act->World->Prop}(ho:ops[k]? =some o)(hw:Region.wanted o (yielded ops a.tmps)=true)(aq:o.op= .call c)(af:c.callee= .value f)
 (hf:Aq s.tm f= .im (.fn (1000000000+l) [] []))(ab:DC s.tm c.args.toList=x.map .im)(av:x.all D.scs=true)(hx:ai i x j)(ao: ∀n e,hget s.h n=some e->e.2.isView=false)(hd: ∀d,o.dst=some d->d<N)(h:It J base ok0 N i s a w)
 (ac: ∀a' w',It J base ok0 N j (s.put o.dst (.im (.bool true))) a' w'->wpOpsIn Fence.wide 0 P ops Q rest a' w'):wpOpsIn Fence.wide 0 P ops Q (k::rest) a w:=by
 obtain⟨C,S,Pr,rfl,Z,ag,hb,hJ,aa,ad⟩:=h;obtain⟨aw,_⟩:=hA i Pr _ hJ;have an:a.eval f= .func (.yield l) #[] #[]:=by
  have h1:=QL Z f;rw[hf] at h1;simp only[Aa,rd,rdl] at h1;obtain⟨A,B,h2,h3,h4⟩:=h1;have e1:A= #[]:=by simpa using h3
  have e2:B= #[]:=by simpa using h4
  rw[h2,e1,e2];congr 1;unfold V8;rw[Ad (by omega),vG]
 have hcl:AM S (x.map .im) (c.args.map a.eval).toList:=by
  rw[<-ab,V6];exact Qpe _ (λy _=>QL Z y)
 have au: ∀ok hp,rdl ok hp x (c.args.map a.eval).toList:=λok hp=>by
  have h1:=(Ip _ _).1 hcl;exact MC _ _ av h1
 obtain⟨fn,aj,ak,bo,hy,hR⟩:=hY i x j (c.args.map a.eval) Pr S.w hx au hJ;simp only[wpOpsIn,ho,hw,BM];refine⟨λ_ _=>trivial,?_⟩;have ah:(o.semAt Fence.wide.round a.eval).run P S.w= .ok (.round l fn aj ak bo) S.w:=by
  show (execOp a.eval o).run P S.w=_;simp only[execOp,aq,resolve,af,an,Sem.run_bind];simp[Deferred.ofValue,invoke,hy]
 rw[ah,Oper.uponIn_round];refine⟨λh=>(by cases h),RoundIn.mono hR ?_⟩;rintro e W' ⟨rfl,Pr',am,O⟩;have hm:Rg S W':=by
  refine⟨O.size,O.os,O.tape,O.output,λb z=> ?_,?_⟩
  .rcases ad b z with q|q
   .exact O.same b (Z.wf.oks b z) (.inr q)
   .exact O.same b (Z.wf.oks b z) (.inl q)
  .rintro b ⟨o',e,lc,q1,q2,rfl⟩;have hl:=Z.wf.loc o' e lc q1 q2;cases hmu:e.1 with
   |true=>exact O.same _ hl.1 (.inl (aa _ ⟨o',e,lc,q1,hmu,q2,rfl⟩).2)
   |false=>
    have h5:=hl.2;rw[hmu] at h5;simp only[CP,CB] at h5;rcases h5 with h5|h5
    .rcases ad _ h5 with q|q
     .exact O.same _ hl.1 (.inr q)
     .exact O.same _ hl.1 (.inl q)
    .rw[ao o' e (by rw[<-Z.h o'];exact q1)] at h5;cases h5
 refine ac _ _ ⟨_,{S with w:=W'},Pr',rfl,RB (uB Z hm 0 (CR _) a [] ag rfl) hd rfl (by simp only[Aa,rd]),?_,DR hb O.size,am,λb z=> ?_,λb z=> ?_⟩
 .cases o.dst<;>exact ag
 .have q:=aa b z;have q2:=(W9 Z.wf z).1;refine⟨q.1,λhp=> ?_⟩;rcases O.pr b hp with r|r
  .exact q.2 r
  .omega
 .rcases ad b z with q|q
  .exact .inl q
  .refine .inr λhp=> ?_
   have q2:=Z.wf.oks b z;rcases O.pr b hp with r|r
   .exact q r
   .omega
def XQ(HV:Hj P V)(Z:NX base J){ac:ι->List D->ι->Prop}{l:Nat}(hY: ∀i x j args Pr W,ac i x j->(∀ok hp,rdl ok hp x args.toList)->J i Pr W->YieldAt Fence.wide 0 P l args W λe W'=>e= .returned (.bool true)/\ ∃Pr',J j Pr' W'/\Io ok0 Pr W Pr' W')
 {id:Nat}{ops:Array Oper}(k1:Nat)(av:List.range ops.size=List.range' 0 (ops.toList.take k1).length++(k1::(List.range' (k1+1) (ops.toList.drop (k1+1)).length++[])))(ad:J4 N (ops.toList.take k1)=true)(af:J4 N (ops.toList.drop (k1+1))=true)(z:WB ops=true)
 {o:Oper}{c:Call}{f:Operand}{x:List D}(s1:Av){s s2:Av}{a:Act}{w:World}{Q:Exit->Act->World->Prop}{g t:Nat}(ho:ops[k1]? =some o)(aq:o.op= .call c)(aa:c.callee= .value f)(aj:o.guard=some (g,true))(ak:(ops[g]?).bind (·.dst)=some t)(ai:A8 s1.tm t= .im (.bool true))
 (hf:Aq s1.tm f= .im (.fn (1000000000+l) [] []))(O:DC s1.tm c.args.toList=x.map .im)(au:x.all D.scs=true)(hx:ac i x j)(ao: ∀n e,hget s1.h n=some e->e.2.isView=false)(hd: ∀d,o.dst=some d->d<N)(ag:s1.good=true)(ah:s2.good=true)
 (h:It J base ok0 N i s a w)(am:KV P V (Ga ops (ops.toList.take k1)) (λs=>sub s s1) s)(an:KV P V (Ga ops (ops.toList.drop (k1+1))) (λs=>sub s s2) (s1.put o.dst (.im (.bool true))))
 (ab: ∀a w,It J base ok0 N j s2 a w->Q .normal a w):(Code.region id ops false).wpIn Fence.wide 0 P Q a w:=by
 refine wpIn_region ?_;rw[av];refine Wl HV Z (seg:=ops.toList.take k1) (more:=ops.toList.drop k1) (by rw[Gd,Kv]) ad z am h (λs a w h1 h2=> ?_);have h3:=FN h2 h1 ag Z;have hw:Region.wanted o (yielded ops a.tmps)=true:=by
  obtain⟨C,S,Pr,_,hE,_⟩:=h3;have hy:=Qqk hE ak ai;simp[Region.wanted,aj,hy]
 refine qQ Z hY ho hw aq aa hf O au hx ao hd h3 (λa w h4=> ?_);refine Wl HV Z (seg:=ops.toList.drop (k1+1)) (more:=[]) (by rw[DA]) af z an h4 (λs a w h5 h6=> ?_);exact ab a w (FN h6 h5 ah Z)
end
def SI{P:Program}{gf:Nat}{fn:Func}{c:Code}(hf:P.funcs[gf]? =some fn)(Q:fn.body=some c)(aa:fn.results.toList=[]){capt:List D}{X:nN}(af:capt.length+1<=fn.ntmps)
 (hk: ∀(l:Nat) (J:X.I->(Nat->Prop)->World->Prop) (base:Nat) (ok0:Nat->Prop),NX base J->
  (∀i x j args Pr W,X.step i x j->(∀ok hp,rdl ok hp x args.toList)->J i Pr W->YieldAt Fence.wide 0 P l args W λe W'=>e= .returned (.bool true)/\ ∃Pr',J j Pr' W'/\Io ok0 Pr W Pr' W')->
  ∀a w,It J base ok0 fn.ntmps X.i0 ⟨entry 0 (.im (.fn (1000000000+l) [] [])::capt.map .im),[],0⟩ a w->c.wpIn Fence.wide 0 P (λe a w=> ∃i,X.fin i/\SH J base ok0 fn.ntmps i (λe _=>e= .normal\/e= .ret) e a w) a w):Ld P gf capt X:=by
 intro C S vs l J hW Z hA hY ⟨Pr,hJ⟩;refine callsIn_wide.1 (callsIn_of_wp_marks (n:=0) hf Q trivial (wpIn_mono (hk l J S.w.heap.size S.ok hA hY _ _ ?_) ?_))
 .let C0:AY:=⟨S.w,λ_=>False,S.ok,0,λ_=>none,λ_=>none,[]⟩
  let S0:Ax:=⟨λ_=>none,S.ok,λ_=>none,S.w⟩
  have ad:Wf C0 S0:=⟨rfl,rfl,rfl,AN _,λ_ _ _=>rfl,λ_ Q=>Q,λ_ Q=> .inl Q,hW.oks,λo e O=>(by cases O),λo e l O=>(by cases O),λo o' e e' l l' O=>(by cases O),hW.glN λ_ h=>h.elim⟩;have z:AM S0 (.im (.fn (1000000000+l) [] [])::capt.map .im) (#[Value.func (.yield l) #[] #[]]++vs).toList:=by
   rw[mP];refine⟨_,_,rfl,?_,(Ip _ _).2 Z⟩;simp only[Aa,rd,rdl];refine⟨#[],#[],?_,rfl,rfl⟩;unfold V8;rw[Ad (by omega),vG]
  have hvs:(#[Value.func (.yield l) #[] #[]]++vs).size=capt.length+1:=by
   have:=I5 _ _ z
   simp at this⊢;omega
  obtain⟨As,hAs⟩: ∃As,As= #[Value.func (.yield l) #[] #[]]++vs:=⟨_,rfl⟩;rw[<-hAs] at z hvs⊢;refine⟨C0,S0,Pr,rfl,⟨ad,λn=>rfl,?_,?_,?_,?_,rfl,CR _,λo ho=>absurd ho (vO _)⟩,rfl,AN _,hJ,λb ⟨o,e,lc,h1,_⟩=>(by cases h1),λb Q=> .inl Q⟩
  .intro t;have h1:=kQ (S:=S0) _ As.toList 0 t z;simp only[CR,BM,ZU] at h1
   have:({tmps:=As++Array.replicate (fn.ntmps - As.size) undef,defers:=[]}:Act).eval (.tmp t)=(As.toList[t]?).getD undef:=by
    simp only[Act.eval,H7,vP,fU];by_cases ht:t<As.size
    .simp[ht]
    .simp only[ht,CB]
     have:As[t]? =none:=WY (by omega)
     simp only[Gc,this]
     split<;>rfl
   rw[this];exact h1
  .intro t m hm
   have:=lC _ 0 t m hm
   simp only[AB,AV.nms,FC] at this;have h0: ∀(q:List D),AB (q.map .im)=[]:=by
    intro q;induction q with
    |nil=>rfl
    |cons d r ih=>simp only[Bg,AB,AV.nms,ih,DA]
   rw[h0] at this;cases this
  .intro n e O;cases O
  .simp;omega
 .intro e a w O;obtain⟨i,hi,O⟩:=O;have fin:(∃s,It J S.w.heap.size S.ok fn.ntmps i s a w)->LeavesInM Fence.wide 0 P fn a.tmps (λe W'=> ∃v Pr i,e= .returned v/\X.fin i/\J i Pr W') a.defers .returning w:=by
   rintro⟨s,C1,S1,Pr1,rfl,hE,hd,_,ac,_,_⟩;rw[hd];simp only[LeavesInM,LeavesIn];obtain⟨v,ab,_⟩:=rP (P:=P) hE (fn:=fn) (xs:=[]) (by rw[aa];rfl);exact⟨v,ab,v,Pr1,i,rfl,hi,ac⟩
  cases e<;>simp only[SH] at O<;>simp only[bodyPostM]
  .obtain⟨s,_,h⟩:=O;exact fin ⟨s,h⟩
  .obtain⟨s,h,_⟩:=O;rcases h with h|h<;>cases h
  .obtain⟨s,_,h⟩:=O;exact fin ⟨s,h⟩
def wL{P:Program}{gf:Nat}{fn:Func}{c:Code}(hf:P.funcs[gf]? =some fn)(hb:fn.body=some c)(O:fn.results.toList=[]){capt:List D}{xs:List (List D)}(z:capt.length+1<=fn.ntmps)
 (hk: ∀(l:Nat) (J:Nat->(Nat->Prop)->World->Prop) (base:Nat) (ok0:Nat->Prop),NX base J->
  (∀i x j args Pr W,(xs[i]? =some x/\j=i+1)->(∀ok hp,rdl ok hp x args.toList)->J i Pr W->YieldAt Fence.wide 0 P l args W λe W'=>e= .returned (.bool true)/\ ∃Pr',J j Pr' W'/\Io ok0 Pr W Pr' W')->
  ∀a w,It J base ok0 fn.ntmps 0 ⟨entry 0 (.im (.fn (1000000000+l) [] [])::capt.map .im),[],0⟩ a w->c.wpIn Fence.wide 0 P (SH J base ok0 fn.ntmps xs.length (λe _=>e= .normal\/e= .ret)) a w):JK P gf capt xs:=
 SI (X:=iE xs) hf hb O z λl J base ok0 Z hY a w Q=>wpIn_mono (hk l J base ok0 Z hY a w Q) λ_ _ _ h=>⟨xs.length,rfl,h⟩
end Go.Ae
namespace Go.Ae
open Go Go.Proofs
def uQ:CX:=Qv [(145,step_.row),(213,placeAt.row)]
def ON:J3 Tryz.prog uQ:=Q8 _ (by
 intro p hp;simp only[Be,ZR,Xb] at hp;rcases hp with rfl|rfl
 .exact step_.ok
 .exact placeAt.ok)
def GQ(a:Af)(k:Nat):Nat->List (List D)
 |0=>[]
 |j+1=>GQ a k j++if 0<=Hd a k (1 - j) then [[.agg [.int .i64 k,.int .i64 (Hd a k (1 - j))],.int .i64 (1 - j)]] else []
def Cs(a:Af):Nat->List (List D)
 |0=>[]
 |k+1=>Cs a k++GQ a k 2
def Qzu(a:Af): ∀(n k:Nat),k<=n-> ∃r,Cs a n=Cs a k++r
 |0,k,h=>⟨[],by obtain rfl:k=0:=by omega
                rw[DA]⟩
 |n+1,k,h=>by
  by_cases z:k=n+1
  .subst z;exact⟨[],by rw[DA]⟩
  .obtain⟨r,O⟩:=Qzu a n k (by omega);exact⟨r++GQ a n 2,by rw[Cs,O,Fb]⟩
def Qv3(a:Af)(k:Nat): ∀(n j:Nat),j<=n-> ∃r,GQ a k n=GQ a k j++r
 |0,j,h=>⟨[],by obtain rfl:j=0:=by omega
                rw[DA]⟩
 |n+1,j,h=>by
  by_cases z:j=n+1
  .subst z;exact⟨[],by rw[DA]⟩
  .obtain⟨r,O⟩:=Qv3 a k n j (by omega);rw[GQ,O];exact⟨_,by rw[Fb]⟩
def Yc(a:Af){n k j:Nat}(Q:k<n)(Z:j<2)(h:0<=Hd a k (1 - j)):(Cs a n)[(Cs a k).length+(GQ a k j).length]? =some [.agg [.int .i64 k,.int .i64 (Hd a k (1 - j))],.int .i64 (1 - j)]:=by
 obtain⟨r1,z⟩:=Qzu a n (k+1) Q;obtain⟨r2,O⟩:=Qv3 a k 2 (j+1) (by omega);rw[z,Cs,O,GQ,Ak h,Fb,Fb,Fb,FQ (Nat.le_add_right _ _),vG,FQ (AN _),HA];rfl
def Jd(l:Nat)(A:Af)(k:Nat):Av:=⟨[(11,.im (.int .i64 k)),(10,.im (.int .i64 A.Tiles.length)),(9,.im (.sl false 3 (A.Tiles.map Ah.c))),(1,.im (.ref (Af.c A))),(0,.im (.fn (1000000000+l) [] []))],[],0⟩
def D5(l:Nat)(A:Af)(k:Nat)(p:Ah)(j:Nat):Av:=⟨[(18,.im (.int .i64 j)),(17,.im (.int .i64 2)),(16,.own 1),(4,.ptr 0 0),(3,.im (.int .i64 k)),(11,.im (.int .i64 k)),(10,.im (.int .i64 A.Tiles.length)),(9,.im (.sl false 3 (A.Tiles.map Ah.c))),(1,.im (.ref (Af.c A))),(0,.im (.fn (1000000000+l) [] []))],
 [(0,(true,.cells 97 [.im (.int .i64 p.At.X),.im (.int .i64 p.At.Y),.im (.int .i64 p.Tile)])),(1,(true,.arr 2 1 (([1,0]:List Int).map Aj)))],2⟩
def Tt(A:Af)(hA:Cd none A.Tiles=true)(hl:A.Tiles.length<=1000000)(hS: ∀x∈A.Tiles,G4 x.At):JK Tryz.prog 212 [.ref (Af.c A)] (Cs A A.Tiles.length):=by
 refine wL Tryz.func212 rfl rfl (by simp) ?_;intro l J base ok0 z hY a w ad;have HV:=fF ON;obtain⟨R,hR⟩: ∃R,R=SH J base ok0 Tryz.f212.ntmps (Cs A A.Tiles.length).length (λe _=>e= .normal\/e= .ret):=⟨_,rfl⟩;rw[<-hR];simp only[Tryz.f212] at ad⊢;refine Lu CF HV z (by decide) (by decide) ad (Qx:=BI (Jd l A 0)) ?_ (λs a w O Z=> ?_) (λ_ _ _ _ h=>h.elim) (λ_ _ _ h=>h.elim)
 .simp only[ZA,simprocAttr,BI,Jd,entry,Af.c,sub];exact λ_=>trivial
 have h3:=FN Z O (by simp[Jd,ZG]) z;clear O Z ad;refine wpIn_block (wpIn_loop_ghost (λm a w=> ∃k,k<=A.Tiles.length/\m=A.Tiles.length - k/\It J base ok0 41 (Cs A k).length (Jd l A k) a w) A.Tiles.length ⟨0,CR _,rfl,h3⟩ ?_);clear h3;rintro m a w ⟨k,hk,hm,h⟩;refine Lu CF HV z (by decide) (by decide) h (Qx:=BI ⟨(12,.im (.bool (decide (k<A.Tiles.length))))::(Jd l A k).tm,[],0⟩) ?_ (λs a w O Z=> ?_) (λ_ _ _ _ h=>h.elim) (λ_ _ _ h=>h.elim)
 .simp only[ZA,simprocAttr,BI,Jd,sub]
 have h3:=FN Z O (by simp[Jd,ZG]) z;clear O Z h;refine Lu CF HV z (by decide) (by decide) h3 (Qx:=IS (Jd l A k) (k<A.Tiles.length) (¬k<A.Tiles.length) 0) ?_ (λs a w O Z=> ?_) (λid s a w O Z=> ?_) (λ_ _ _ h=>h.elim)
 .simp only[ZA,simprocAttr,IS,Jd,sub]
  split<;>assumption
 rotate_left
 .obtain⟨rfl,h4,O⟩:=O;have ag:k=A.Tiles.length:=by omega
  subst ag;simp only[Exit.then,Exit.inBlock,BM,hR,SH];exact⟨s,.inl trivial,Z⟩
 obtain⟨af,O⟩:=O;have h:=FN Z O (by simp[Jd,ZG]) z;clear O Z h3;obtain⟨p,hp⟩: ∃p,A.Tiles[k]? =some p:=⟨_,Bk af⟩;refine wpIn_seq (wpIn_block ?_);refine Lu CF HV z (by decide) (by decide) h (Qx:=BI ⟨(4,.ptr 0 0)::(3,.im (.int .i64 k))::(Jd l A k).tm,[(0,(true,.cells 97 [.im (.int .i64 p.At.X),.im (.int .i64 p.At.Y),.im (.int .i64 p.Tile)]))],1⟩) ?_ (λs a w O Z=> ?_) (λ_ _ _ _ h=>h.elim) (λ_ _ _ h=>h.elim)
 .simp only[ZA,simprocAttr,BI,Jd,sub];refine⟨af,λq hq=> ?_⟩;rw[hp] at hq;obtain rfl:=A7 hq;exact⟨rfl,rfl,rfl⟩
 have h3:=FN Z O (by simp[Jd,ZG]) z;clear O Z h;refine Lu CF HV z (by decide) (by decide) h3 (Qx:=BI (D5 l A k p 0)) ?_ (λs a w O Z=> ?_) (λ_ _ _ _ h=>h.elim) (λ_ _ _ h=>h.elim)
 .simp only[ZA,simprocAttr,BI,Jd,D5,sub]
 have h:=FN Z O (by simp[D5,ZG]) z;clear O Z h3;refine wpIn_block (wpIn_loop_ghost (λm a w=> ∃j,j<=2/\m=2 - j/\It J base ok0 41 ((Cs A k).length+(GQ A k j).length) (D5 l A k p j) a w) 2 ⟨0,CR _,rfl,h⟩ ?_);clear h;rintro m2 a w ⟨j,hj,ai,h⟩;refine Lu CF HV z (by decide) (by decide) h (Qx:=BI ⟨(19,.im (.bool (decide (j<2))))::(D5 l A k p j).tm,(D5 l A k p j).h,2⟩) ?_ (λs a w O Z=> ?_) (λ_ _ _ _ h=>h.elim) (λ_ _ _ h=>h.elim)
 .simp only[ZA,simprocAttr,BI,D5,sub];rw[decide_eq_decide];omega
 have h3:=FN Z O (by simp[D5,ZG]) z;clear O Z h;refine Lu CF HV z (by decide) (by decide) h3 (Qx:=IS (D5 l A k p j) (j<2) (¬j<2) 2) ?_ (λs a w O Z=> ?_) (λid s a w O Z=> ?_) (λ_ _ _ h=>h.elim)
 .simp only[ZA,simprocAttr,IS,D5,sub]
  split<;>assumption
 rotate_left
 .obtain⟨rfl,h4,O⟩:=O;have ac:j=2:=by omega
  subst ac;have h5:=FN Z O (by simp[D5,ZG]) z;simp only[Exit.then,Exit.inBlock,BM];refine uI CF HV z (by decide) (by decide) h5 (Qx:=BI (Jd l A (k+1))) ?_ (λs a w O Z=> ?_) (λ_ _ _ _ h=>h.elim) (λ_ _ _ h=>h.elim)
  .simp only[ZA,simprocAttr,BI,D5,Jd,sub];rw[AC (by omega) (by omega)];omega
  have h6:=FN Z O (by simp[Jd,ZG]) z;refine⟨A.Tiles.length - (k+1),by omega,k+1,by omega,rfl,?_⟩;rw[Cs,CD];exact h6
 obtain⟨ac,O⟩:=O;have h:=FN Z O (by simp[D5,ZG]) z;clear O Z h3;refine wpIn_seq (wpIn_block ?_);refine Lu CF HV z (by decide) (by decide) h (Qx:=BI ⟨(6,.im (.int .i64 (1 - (j:Int))))::(D5 l A k p j).tm,(D5 l A k p j).h,2⟩) ?_ (λs a w O Z=> ?_) (λ_ _ _ _ h=>h.elim) (λ_ _ _ h=>h.elim)
 .simp only[ZA,simprocAttr,D5];refine⟨by omega,ac,λrow aa=> ?_⟩;rcases (show j=0\/j=1 by omega) with rfl|rfl
  .simp only[Ho,AI] at aa;subst aa;simp only[ZA,simprocAttr,BI,sub]
   try rfl
  .simp only[J7,Ho,AI] at aa;subst aa;simp only[ZA,simprocAttr,BI,sub]
   try rfl
 have h3:=FN Z O (by simp[D5,ZG]) z;clear O Z h;refine Lu CF HV z (by decide) (by decide) h3 (Qx:=BI ⟨(7,.im (.int .i64 (Hd A k (1 - (j:Int)))))::(6,.im (.int .i64 (1 - (j:Int))))::(D5 l A k p j).tm,(D5 l A k p j).h,2⟩) ?_ (λs a w O Z=> ?_) (λ_ _ _ _ h=>h.elim) (λ_ _ _ h=>h.elim)
 .simp only[uQ];simp only[ZA,simprocAttr,Af.d,BI,D5,sub,step_.q,step_.re,step_.fv,placeAt.q,placeAt.re,placeAt.fv];refine⟨⟨hS p (Ba hp),by omega,by omega⟩,hA,?_⟩;simp only[Hd,B5,hp,CY,AO]
 have h:=FN Z O (by simp[D5,ZG]) z;clear O Z h3;obtain⟨nb,hnb⟩: ∃nb,nb=Hd A k (1 - (j:Int)):=⟨_,rfl⟩;rw[<-hnb] at h;have ab:GQ A k (j+1)=GQ A k j++if 0<=nb then [[.agg [.int .i64 k,.int .i64 nb],.int .i64 (1 - (j:Int))]] else []:=by rw[GQ,<-hnb]
 refine wpIn_seq (wpIn_mono (Q:=λe a w=>e= .normal/\It J base ok0 41 ((Cs A k).length+(GQ A k (j+1)).length) ⟨(38,.im (.bool false))::(D5 l A k p j).tm,(D5 l A k p j).h,2⟩ a w) ?_ ?_)
 .by_cases hn:0<=nb
  .rw[Ak hn] at ab;have hx:=Yc A (n:=A.Tiles.length) af ac (by rw[<-hnb];exact hn);rw[<-hnb] at hx;refine XQ HV z hY 8 rfl (by decide) (by decide) (by decide) (s1:=⟨(30,.im (.bool true))::(31,.im (.fn (1000000000+l) [] []))::(34,.im (.agg [.int .i64 k,.int .i64 nb]))::(35,.im (.int .i64 (1 - (j:Int))))::(D5 l A k p j).tm,(D5 l A k p j).h,2⟩) rfl rfl rfl rfl rfl rfl rfl rfl (by simp[D.scs,D.sc]) ⟨hx,rfl⟩ ?_ (by decide) ?_ ?_ h ?_ ?_ (λa w h9=>⟨rfl,by rw[ab,CD,<-Gf];exact h9⟩)
   .intro n e he;simp only[D5,hget] at he;cases h0:(0==n)<;>rw[h0] at he<;>simp only[Cg,Bq] at he
    .cases O:(1==n)<;>rw[O] at he<;>simp only[Cg,Bq,reduceCtorEq,AI] at he;subst he;rfl
    .simp only[AI] at he;subst he;rfl
   .simp[D5,ZG]
   .simp[D5,ZG]
   .have aj:decide (nb≥0)=true:=by simpa using hn
    have ah:decide (0<=nb)=true:=by simpa using hn
    simp only[uQ];simp only[ZA,simprocAttr,D5,sub,gK hn]
   .change KV _ _ _ _ (Av.put _ (some 36) (.im (.bool true)));simp only[uQ];simp only[ZA,simprocAttr,D5,sub]
  .rw[Ad hn,DA] at ab;refine uI CF HV z (by decide) (by decide) h (Qx:=BI ⟨(38,.im (.bool false))::(D5 l A k p j).tm,(D5 l A k p j).h,2⟩) ?_ (λs a w O Z=>⟨rfl,by rw[ab];exact FN Z O (by simp[D5,ZG]) z⟩) (λ_ _ _ _ h=>h.elim) (λ_ _ _ h=>h.elim);simp only[uQ];simp only[ZA,simprocAttr,BI,D5,sub,eq_false hn]
 .rintro e a w ⟨rfl,h⟩;simp only[Exit.then];refine uI CF HV z (by decide) (by decide) h (Qx:=BI (D5 l A k p j)) ?_ (λs a w O Z=> ?_) (λ_ _ _ _ h=>h.elim) (λ_ _ _ h=>h.elim)
  .simp only[ZA,simprocAttr,BI,D5,sub]
  have h3:=FN Z O (by simp[D5,ZG]) z;simp only[Exit.inBlock,Exit.then];refine uI CF HV z (by decide) (by decide) h3 (Qx:=BI (D5 l A k p (j+1))) ?_ (λs a w O Z=> ?_) (λ_ _ _ _ h=>h.elim) (λ_ _ _ h=>h.elim)
  .simp only[ZA,simprocAttr,BI,D5,sub];rw[AC (by omega) (by omega)];omega
  have h6:=FN Z O (by simp[D5,ZG]) z;exact⟨2 - (j+1),by omega,j+1,by omega,rfl,h6⟩
def xB:D->Option Af
 | .fn g [] [.ref ds]=>if g=212 then Af.d ds else none
 |_=>none
def iP: ∀d b,xB d=some b->Le d (.fn 212 [] [.ref (Af.c b)]):=by
 intro d b h;unfold xB at h;split at h
 .rename_i g ds;split at h
  .rename_i z;subst z;refine NY ?_;exact⟨NT (Af.d_le _ _ h).leP,trivial⟩
  .cases h
 .cases h
def xC(b:Af):xB (.fn 212 [] [.ref (Af.c b)])=some b:=by
 simp only[xB,BM,Af.d_c]
def nbrs.rc:D->Option (Af):=xB
def nbrs.re:Af->D:=λa=>D.fn 212 [] [.ref (Af.c a)]
def nbrs.rle: ∀d b,nbrs.rc d=some b->Le d (nbrs.re b):=iP
def nbrs.fv(a:Af):Af:=(λa=>a) a
def nbrs.row:Ay:=vK (b1 (qR Af.d_le)) (RK.mk nbrs.rc nbrs.re nbrs.rle) (λa=>True) nbrs.fv
def nbrs.q:=AT (R:=nbrs.row) rfl
def nbrs.ok:A9 193 nbrs.row:=by
 refine vw tN Tryz.func193 ?_;intro a z;simp only[Tryz.f193];simp only[ZA,simprocAttr,nbrs.fv,nbrs.rc];exact .inl (xC a)
def Qs0(s:Az)(a:Af):Prop:=BO s/\FB s a/\a.Tiles.length<=1000000/\ ∀x∈a.Tiles,G4 x.At
def Jl(s:Az)(a:Af):List D->List Ag
 |[.agg [.int .i64 k,.int .i64 m],.int .i64 d]=>if 0<Kf s (G0 a k) d (G0 a m) then [⟨k,m,Kf s (G0 a k) d (G0 a m)⟩] else []
 |_=>[]
def EV(s:Az)(a:Af)(i:Nat):List Ag:=((Cs a a.Tiles.length).take i).flatMap (Jl s a)
def TC(s:Az)(a:Af):EV s a (Cs a a.Tiles.length).length=F9 s a a.Tiles.length:=by
 rw[EV,IG];have z: ∀k j,(GQ a k j).flatMap (Jl s a)=Ke s a k j:=by
  intro k j;induction j with
  |zero=>rfl
  |succ j ih=>
   rw[GQ,ZdO,ih,Ke];congr 1;simp only[WM];split
   .simp only[G7,ZeQ,DA,Jl]
   .rfl
 have O: ∀n,(Cs a n).flatMap (Jl s a)=F9 s a n:=by
  intro n;induction n with
  |zero=>rfl
  |succ n ih=>rw[Cs,ZdO,ih,z,F9]
 exact O _
def Qv6(s:Az)(a:Af){i:Nat}{x:List D}(h:(Cs a a.Tiles.length)[i]? =some x):EV s a (i+1)=EV s a i++Jl s a x:=by
 rw[EV,Ib,h,ZdO,EV];simp
def Mu(a:Af){x:List D}(h:x∈Cs a a.Tiles.length): ∃k m d:Int,x=[.agg [.int .i64 k,.int .i64 m],.int .i64 d]/\0<=k/\k<a.Tiles.length/\0<=m/\m<a.Tiles.length/\0<=d/\d<=1:=by
 have O: ∀(k:Nat) j,j<=2->k<a.Tiles.length->x∈GQ a k j-> ∃k m d:Int,x=[.agg [.int .i64 k,.int .i64 m],.int .i64 d]/\0<=k/\k<a.Tiles.length/\0<=m/\m<a.Tiles.length/\0<=d/\d<=1:=by
  intro k j;induction j with
  |zero=>intro _ _ h;simp[GQ] at h
  |succ j ih=>
   intro hj Z z;rw[GQ,Bs] at z;rcases z with z|z
   .exact ih (by omega) Z z
   .split at z
    .rename_i h0;obtain rfl:=BS.1 z;exact⟨k,Hd a k (1 - j),1 - j,rfl,by omega,by omega,h0,KH _ _ _,by omega,by omega⟩
    .cases z
 have Q: ∀n,n<=a.Tiles.length->x∈Cs a n-> ∃k m d:Int,x=[.agg [.int .i64 k,.int .i64 m],.int .i64 d]/\0<=k/\k<a.Tiles.length/\0<=m/\m<a.Tiles.length/\0<=d/\d<=1:=by
  intro n;induction n with
  |zero=>intro _ h;simp[Cs] at h
  |succ n ih=>
   intro hn z;rw[Cs,Bs] at z;rcases z with z|z
   .exact ih (by omega) z
   .exact O n 2 (AN _) hn z
 exact Q _ (AN _) h
def Ts(a:Af): ∀n,(Cs a n).length<=2*n:=by
 have z: ∀k j,(GQ a k j).length<=j:=by
  intro k j;induction j with
  |zero=>simp[GQ]
  |succ j ih=>rw[GQ,CD];split<;>simp<;>omega
 intro n;induction n with
 |zero=>simp[Cs]
 |succ n ih=>have:=z n 2;rw[Cs,CD];omega
def TE(s:Az)(a:Af)(i:Nat):(EV s a i).length<=i:=by
 induction i with
 |zero=>simp[EV]
 |succ i ih=>
  cases h:(Cs a a.Tiles.length)[i]? with
  |none=>
   have:EV s a (i+1)=EV s a i:=by
    have z:=ZeD.1 h;rw[EV,EV,D8 (by omega),D8 z]
   rw[this];omega
  |some x=>
   rw[Qv6 s a h,CD]
   have:(Jl s a x).length<=1:=by
    unfold Jl;split
    .split<;>simp
    .simp
   omega
def mC:CX:=Qv [(193,nbrs.row),(146,bond_.row)]
def Oy:J3 Tryz.prog mC:=Q8 _ (by
 intro p hp;simp only[Be,ZR,Xb] at hp;rcases hp with rfl|rfl
 .exact nbrs.ok
 .exact bond_.ok)
def VH: ∀(H:Ao),(H.all λp=> !p.2.2.isView)=true-> ∀o e,hget H o=some e->e.2.isView=false
 |[],_,o,e,h=>by cases h
 |(n,x)::r,z,o,e,h=>by
  simp only[J8,AL,Qk] at z;simp only[hget] at h;cases hq:(n==o)<;>rw[hq] at h
  .exact VH r z.2 o e h
  .simp only[Cg,AI] at h;subst h;exact z.1
def uY{P:Program}{V:CX}{C:AY}{N:Nat}(HM:P.follows .mixedOrders=true)(HV:Hj P V){x y:Code}(O:Ec N x=true)(z:H6 x=true){s':Av}{Q:Exit->Act->World->Prop}{s:Av}{a:Act}{w:World}(hc:BF C N s a w)(hk:Da P V x (BI s') s)(hg:s'.good=true)(Z:C.n0<=s'.nx)
 (hn: ∀a w,BF C N s' a w->y.wpIn Fence.wide 0 P Q a w):(x.seq y).wpIn Fence.wide 0 P Q a w:=by
 refine wpIn_seq (wpIn_mono (kZ (ro:=none) HM HV x O z _ s a w hk hc) ?_);intro e a' w' hq;cases e<;>simp only[FU] at hq<;>simp only[Exit.then]
 .obtain⟨s1,h1,h2⟩:=hq;exact hn _ _ (lX h2 h1 hg Z)
 .obtain⟨_,h,_⟩:=hq;exact h.elim
 .obtain⟨_,h,_⟩:=hq;exact h.elim
def bnds.rc:D->Option (List Ag):=Qy Ag.d
def bnds.re:(List Ag)->D:=λb=>D.sl false 3 (b.map Ag.c)
def bnds.rle: ∀d b,bnds.rc d=some b->Le d (bnds.re b):=rQ Ag.d_le (λ_=>rfl)
def bnds.ar:List PK->Option (Az×Af):=a2 (kR Az.d) (kR Af.d)
def bnds.ae(a:Az×Af):List PK:=[.val (.agg (Az.c a.1)),.val (.agg (Af.c a.2))]
def bnds.le: ∀z a,bnds.ar z=some a->BE z (bnds.ae a):=(aA (Mg Az.d_le) (Mg Af.d_le))
def bnds.fv(a:Az×Af):List Ag:=(λs a=>F9 s a a.Tiles.length) (a.1) (a.2)
def bnds.row:Ay:=D1 (b2 (qR Az.d_le) (qR Af.d_le)) (RK.mk bnds.rc bnds.re bnds.rle) (λa=>Qs0 a.1 a.2) bnds.fv
def bnds.q:=DX (R:=bnds.row) rfl
def bnds.ok:A9 167 bnds.row:=by
 refine Quy (by kernel_rfl) bnds.le bnds.rle ?_;intro a ad C S vs RR hW af ab;refine PL Tryz.func167 rfl (by simp[bnds.ae]) ?_ hW af ab;clear ab af hW;intro C0 aq w hw ac hc an;have HV:=fF Oy;have ao:C0.ds=[]:=by obtain⟨S0,_,h⟩:=hc;rw[<-h.defers];exact an
 simp only[Tryz.f167] at hc⊢;obtain⟨s,A⟩:=a;obtain⟨h1,h2,h3,h4⟩:=ad;simp only at h1 h2 h3 h4;refine uY CF HV (by decide) (by decide) (s':=⟨[(3,.ptr 1 0),(2,.ptr 0 0)],[(0,(true,.cells 44 ((Az.c s).map .im))),(1,(true,.cells 38 ((Af.c A).map .im)))],2⟩) hc ?_ ?_ (by rw[ac];exact CR _) (λa w hc=> ?_)
 .simp only[mC];simp only[ZA,simprocAttr,BI,sub,bnds.ae,Dt,D7,BL,entry]
 .simp[ZG,Az.c,Af.c]
 refine uY CF HV (by decide) (by decide) (s':=⟨[(5,.ptr 2 0),(3,.ptr 1 0),(2,.ptr 0 0)],[(0,(true,.cells 44 ((Az.c s).map .im))),(1,(true,.cells 38 ((Af.c A).map .im))),(2,(true,.cells 172 [.im (.sl true 0 [])]))],3⟩) hc ?_ ?_ (by rw[ac];exact CR _) (λa w hc=> ?_)
 .simp only[mC];simp only[ZA,simprocAttr,BI,sub]
 .simp[ZG,Az.c,Af.c]
 refine wpIn_seq ?_;refine uY CF HV (by decide) (by decide) (s':=⟨[(10,.im (.fn 212 [] [.ref (Af.c A)])),(5,.ptr 2 0),(3,.ptr 1 0),(2,.ptr 0 0)],[(0,(true,.cells 44 ((Az.c s).map .im))),(1,(true,.cells 38 ((Af.c A).map .im))),(2,(true,.cells 172 [.im (.sl true 0 [])]))],3⟩) hc ?_ ?_ (by rw[ac];exact CR _) (λa w hc=> ?_)
 .simp only[mC];simp only[ZA,simprocAttr,Af.d,BI,sub,nbrs.q,nbrs.re,nbrs.fv]
 .simp[ZG,Az.c,Af.c]
 refine wpIn_block (wpIn_mono (TT CF HV hc (gf:=212) (capt:=[.ref (Af.c A)]) (xs:=Cs A A.Tiles.length) (Lq (by kernel_rfl)) (Tt A h2.1 h3 h4) (by decide) (by decide) (by decide) (by decide) ?_ (by decide)
  (tm0:=[(10,.im (.fn 212 [] [.ref (Af.c A)])),(5,.ptr 2 0),(3,.ptr 1 0),(2,.ptr 0 0)]) (hs:=λi=>[(0,(true,.cells 44 ((Az.c s).map .im))),(1,(true,.cells 38 ((Af.c A).map .im))),(2,(true,.cells 172 [.own 3])),(3,(true,.arr 214 3 ((EV s A i).map Ag.c)))]) (nx:=4) ⟨[(3,none)],?_⟩ rfl (by simp) ?_ ?_ ?_ ?_) ?_)
 .intro x hx;obtain⟨k,m,d,rfl,_⟩:=Mu A hx;rfl
 .simp only[Aw];simp only[ZA,simprocAttr,Br,Qh,EV]
 .simp[CH,AV.bel]
 .intro i hi;simp[ZG,Az.c,Af.c]
 .intro i o e he hv;rw[VH _ (by rfl) o e he] at hv;cases hv
 .intro i x hx;have au:=TE s A i;have av:=(Cx.1 hx).1;have aw:=Ts A A.Tiles.length;obtain⟨k,m,d,rfl,k0,k1,m0,m1,d0,d1⟩:=Mu A (Ba hx);have O:=Qv6 s A hx;simp only[Jl] at O;simp only[mC];simp only[ZA,simprocAttr,Oq,Uk,Fw,bond_.q,bond_.re,bond_.fv,AR];refine⟨k0,k1,λp hp=>⟨m0,m1,λq hq=>⟨⟨h1,h2.2 p (Ba hp),⟨d0,by omega⟩,h2.2 q (Ba hq)⟩,λhb=>⟨?_,by omega,[(3,some 6)],?_⟩,λhb=>⟨[],?_⟩⟩⟩⟩
  .intro row Z;obtain rfl:=BS.1 Z;rfl
  all_goals
   have e1:G0 A k=p.Tile:=by simp[G0,hp]
   have e2:G0 A m=q.Tile:=by simp[G0,hq]
   rw[e1,e2] at O
  .rw[Ak hb] at O;simp only[Aw];simp only[ZA,simprocAttr,Br,O];simp[Ag.c]
  .rw[Ad hb,DA] at O;simp only[Aw];simp only[ZA,simprocAttr,Br,O]
 .intro e a' w' hq;cases e<;>simp only[Yw] at hq;obtain⟨C2,S2,Dk,rfl,hE,Q,ht,hd,ag,ah,ai,aj,ak⟩:=hq;simp only[Exit.inBlock,Exit.then];have am:a.defers=[]:=by obtain⟨S0,_,h⟩:=hc;rw[h.defers];exact ao
  rw[am] at hd;have hm: ∀a'':Act,a''.defers=C2.ds->uH C0 C2 a''.defers:=λa'' h=> .inr ⟨Dk,by rw[h,<-hE.defers,hd],ag,ah,ai,aj,ak⟩
  refine wpIn_mono (kZ (ro:=none) CF HV _ (by decide) (by decide) (ZN Tryz.prog [ResultVar.tmp 4] (BC bnds.rc (bnds.fv (s,A)))) _ a' S2.w ?_ ⟨S2,rfl,hE⟩) ?_
  .simp only[mC];simp only[ZA,simprocAttr,bnds.rc,bnds.fv,TC,BC];intro row Z;obtain⟨b,_,rfl⟩:=Bh.1 Z;rfl
  .intro e a'' w'' hq;cases e<;>simp only[FU] at hq<;>simp only[Pi]
   .obtain⟨s',aa,z⟩:=hq;exact⟨s',C2,aa,z,Q,hm a'' (by obtain⟨S0,_,h⟩:=z;exact h.defers)⟩
   .obtain⟨s',aa,z⟩:=hq;exact aa.elim
   .obtain⟨s',aa,z⟩:=hq;exact⟨s',C2,aa,z,Q,hm a'' (by obtain⟨S0,_,h⟩:=z;exact h.defers)⟩
end Go.Ae
namespace Go.Ae
open Go.Proofs
def L0{n:Nat}{gs:List (List Int)}(z:0<gs.length): ∀(bs:List Ag),(∀b∈bs,0<b.Strength/\b.Strength<=4)-> ∀b∈GM (Rd n gs) bs,Ky gs.length b
 |[],_,b,h=>by simp[GM] at h
 |x::r,hs,b,h=>by
  simp only[GM] at h;have ih:=L0 (n:=n) z r (λy hy=>hs y (BQ _ hy)) b;split at h
  .exact ih h
  .rename_i O;rcases Be.1 h with rfl|h
   .have Q:=Qy8 (n:=n) z x.A;have Z:=Qy8 (n:=n) z x.B;have h3:=hs x (BR ..);exact⟨⟨Q.1,Q.2,Z.1,Z.2⟩,O,h3.1,h3.2⟩
   .exact ih h
def QZ(s:Az)(a:Af)(t:Int):Bool×Bool:=
 if 64<(Dw a.Tiles.length (F9 s a a.Tiles.length) t).1 then (false,false)
 else (uV (Dw a.Tiles.length (F9 s a a.Tiles.length) t).1 (Dw a.Tiles.length (F9 s a a.Tiles.length) t).2 t,true)
def Qz2(n:Nat)(bs:List Ag)(hn:0<n): ∀k,(∀v∈Cm n bs k,0<=v)/\(Cm n bs k)[0]? =some 0
 |0=>by
  refine⟨λv O=> ?_,yY n 0 hn⟩;obtain⟨i,Q⟩:=V4.1 O;have hl:=(Cx.1 Q).1;simp only[Cm] at Q hl;rw[yY n i (by rwa [dW] at hl)] at Q
  have:=A7 Q
  omega
 |k+1=>by
  obtain⟨Z,h2⟩:=Qz2 n bs hn k;simp only[Cm];split
  .rename_i b hb;have z: ∀i:Nat,0<=(Cm n bs k)[i]?.getD 0:=by
    intro i;cases h:(Cm n bs k)[i]? with
    |none=>simp
    |some v=>exact Z v (Ba h)
   have hj: ∀x y v:Int,0<=x->0<=y->0<=v->0<=J2 x y v:=by
    intro x y v z hy O;simp only[J2];by_cases h:v=Ey x y
    .rw[Ak h];simp only[ET];split<;>omega
    .rw[Ad h];exact O
   have aa: ∀x y:Int,0<=x->0<=y->J2 x y 0=0:=by
    intro x y z hy;simp only[J2];by_cases h:(0:Int)=Ey x y
    .rw[Ak h];simp only[Ey] at h;simp only[ET];split at h<;>split<;>omega
    .rw[Ad h]
   refine⟨λv O=> ?_,?_⟩
   .obtain⟨u,hu,rfl⟩:=Bh.1 O;exact hj _ _ _ (z _) (z _) (Z u hu)
   .rw[tL,Du,h2,CY,aa _ _ (z _) (z _)]
  .exact⟨Z,h2⟩
def Qab7{n:Nat}{bs:List Ag}{t:Int}(hn:0<n):0<(NQ n bs t).length:=by
 have h:=(Qz2 n (G3 t bs) hn (G3 t bs).length).2;obtain⟨z,O⟩:=Qo6 (Cm n (G3 t bs) (G3 t bs).length) n 0 h n (AN _) hn
 have:(((0:Nat):Int)::z)∈NQ n bs t:=by simpa only[NQ,Vu,B5] using O
 exact ZeS this
def L8{n:Nat}{bs:List Ag}{t:Int}(Q: ∀b∈bs,Ky n b)(hl:bs.length<=1000000)(Z:(Dw n bs t).1<=64):Mz (Dw n bs t):=by
 have aa:=Qpl (Rd n (NQ n bs t)) bs;by_cases h0:0<(Dw n bs t).1
 .have O:=L0 (n:=n) (gs:=NQ n bs t) (by simp only[Dw] at h0;omega) bs (λb z=>⟨(Q b z).2.2.1,(Q b z).2.2.2⟩);refine⟨by omega,Z,by simp only[Dw,B5];omega,λb z=> ?_,λb z=> ?_,λb z=> ?_⟩
  .have:=O b (by simpa only[Dw,B5] using z)
   exact this.1
  .have:=O b (by simpa only[Dw,B5] using z)
   have:=this.2.2
   omega
  .have:=O b (by simpa only[Dw,B5] using z)
   exact this.2.1
 .have hn:bs=[]:=by
   cases bs with
   |nil=>rfl
   |cons b r=>
    exfalso;have h5:=(Q b (BR ..)).1;have h6:=Qab7 (n:=n) (bs:=b::r) (t:=t) (by omega);simp only[Dw] at h0;omega
  subst hn;refine⟨by simp only[Dw];omega,Z,by simp only[Dw,GM];simp,λb z=> ?_,λb z=> ?_,λb z=> ?_⟩<;>(simp[Dw,GM] at z)
def stabI.fv(a:Az×Af×Int):Bool×Bool:=(QZ) (a.1) (a.2.1) (a.2.2)
def stabI.row:Ay:=D1 (b3 (qR Az.d_le) (qR Af.d_le) qI) (r2 rB rB) (λa=>Qs0 a.1 a.2.1/\a.2.1.Tiles.length<=512/\0<=a.2.2/\a.2.2<=1000000) stabI.fv
def stabI.q:=DX (R:=stabI.row) rfl
def stabI.ok:A9 132 stabI.row:=by
 refine GF (tC bnds.ok (tC contr.ok (tC holds_.ok tN))) Tryz.func132 ?_;intro a z;simp only[Tryz.f132];simp only[ZA,simprocAttr,Af.d,CS,stabI.fv,bnds.q,bnds.fv,bnds.re,contr.q,contr.fv,holds_.q,holds_.fv,D.sc,D.scs,BC];obtain⟨s,A,t⟩:=a;obtain⟨O,h2,Q,Z⟩:=z;simp only at O h2 Q Z⊢;have hP:=Qro O.1 A A.Tiles.length (AN _);have hL:=sC s A A.Tiles.length;refine⟨O,⟨by omega,λb hb=>(hP b hb).1,by omega⟩,?_⟩;split
 .rename_i h;simp only[QZ];rw[Ak h]
 .rename_i h;refine⟨⟨L8 hP (by omega) (by omega),Q,Z⟩,?_⟩;simp only[QZ];rw[Ad h]
def QP(s:Az)(a:Af)(t:Int):Bool×Int:=
 if (Eg s && E8 s a)=false then (false,1)
 else if AW t 1 16=false then (false,2)
 else if (QZ s a t).2=false then (false,4) else ((QZ s a t).1,0)
def Qof{s:Az}{a:Af}(h:(Eg s && E8 s a)=true):Qs0 s a/\a.Tiles.length<=512:=by
 rw[AL] at h;have O:=rV h.1;have z:=HU h.2;refine⟨⟨O,z.1,by omega,λx Q=> ?_⟩,by omega⟩
 have:=(Vw _ _ z.1.1 x Q).1
 simp only[DY,AW,AL,B3] at this;refine⟨?_,?_,?_,?_⟩<;>omega
def isStab.fv(a:Az×Af×Int):Bool×Int:=(QP) (a.1) (a.2.1) (a.2.2)
def isStab.row:Ay:=D1 (b3 (qR Az.d_le) (qR Af.d_le) qI) (r2 rB rI) (λa=>QQ a.1) isStab.fv
def isStab.q:=DX (R:=isStab.row) rfl
def isStab.ok:A9 90 isStab.row:=by
 refine GF (tC ValidAssembly_.ok (tC isTemperature.ok (tC stabI.ok tN))) Tryz.func90 ?_;intro a z;simp only[Tryz.f90];simp only[ZA,simprocAttr,Af.d,CS,isStab.fv,ValidAssembly_.q,ValidAssembly_.fv,isTemperature.q,isTemperature.fv,stabI.q,stabI.fv,D.sc,D.scs,BC];obtain⟨s,A,t⟩:=a;simp only at z⊢;refine⟨z,?_⟩;split
 .rename_i c1;simp only[QP];rw[Ak c1]
 .rename_i c1;split
  .rename_i O;simp only[QP];rw[Ad c1,Ak O]
  .rename_i O;have Z:=Qof (s:=s) (a:=A) (by simpa using c1);have h2:AW t 1 16=true:=by simpa using O
   simp only[AW,AL,B3] at h2;refine⟨⟨Z.1,Z.2,by omega,by omega⟩,?_⟩;split
   .rename_i Q;simp only[QP];rw[Ad c1,Ad O,Ak Q]
   .rename_i Q;simp only[QP];rw[Ad c1,Ad O,Ad Q]
def WD(y:AG):Bool:=if y.Seed.Tiles.length=0 then false else ((QP y.Set y.Seed y.Temperature).1 && decide ((QP y.Set y.Seed y.Temperature).2=0))
def validI_.fv(a:AG):Bool:=(WD) a
def validI_.row:Ay:=D1 (b1 (qR AG.d_le)) rB (λa=>QQ a.Set) validI_.fv
def validI_.q:=DX (R:=validI_.row) rfl
def validI_.ok:A9 53 validI_.row:=by
 refine GF (tC isStab.ok tN) Tryz.func53 ?_;intro a z;simp only[Tryz.f53];simp only[ZA,simprocAttr,Af.d,CS,validI_.fv,isStab.q,isStab.fv,D.sc,D.scs,BC];intro _;by_cases h:a.Seed.Tiles.length=0
 .rw[Ak (by omega)];simp only[WD];rw[Ak h]
 .rw[Ad (by omega)];refine⟨z,?_⟩;simp only[WD];rw[Ad h];split
  .rename_i c;rw[c,DB]
  .rename_i c;rw[IF] at c;rw[c,Fo]
def Jn(m:AF):Bool:=WD m.Big && (WD m.Small && (AW m.Scale 1 4 && (decide (m.Labels.length=m.Big.Set.Tiles.length) && !m.Labels.any (eX m))))
def simI_.fv(a:AF):Bool:=(Jn) a
def simI_.row:Ay:=D1 (b1 (qR AF.d_le)) rB (λa=>QQ a.Big.Set/\QQ a.Small.Set) simI_.fv
def simI_.q:=DX (R:=simI_.row) rfl
def simI_.ok:A9 28 simI_.row:=by
 refine GF (tC validI_.ok (tC blockSizeOk.ok (tC ContVM.ok tN))) Tryz.func28 ?_;intro a z;simp only[Tryz.f28];simp only[ZA,simprocAttr,CS,simI_.fv,validI_.q,validI_.fv,blockSizeOk.q,blockSizeOk.fv,ContVM.q,ContVM.ar,ContVM.fv,D.sc,D.scs,BC];refine⟨z.1,?_⟩;by_cases c1:WD a.Big=true
 case neg=>rw[Ad c1];rw[IF] at c1;simp[Jn,c1]
 rw[Ak c1];refine⟨z.2,?_⟩;by_cases O:WD a.Small=true
 case neg=>rw[Ad O];rw[IF] at O;simp[Jn,O]
 rw[Ak O];by_cases Q:AW a.Scale 1 4=true
 case neg=>rw[Ad Q];rw[IF] at Q;simp[Jn,Q]
 rw[Ak Q];intro _ _;by_cases Z:a.Labels.length=a.Big.Set.Tiles.length
 .rw[Ad (by omega)];simp[Jn,c1,O,Q,Z]
 .rw[Ak (by omega)];simp[Jn,Z]
def Qv9(S:Nat->Bool)(nm:List Int): ∀(bs:List Ag),CI S (GM nm bs)=CI S (Hz nm bs)
 |[]=>rfl
 |b::r=>by
  have ih:=Qv9 S nm r;simp only[GM,Hz];split
  .exact ih
  .simp only[CI,ih];congr 1;obtain⟨x,hx⟩: ∃x,x=BN nm b.A:=⟨_,rfl⟩;obtain⟨y,hy⟩: ∃y,y=BN nm b.B:=⟨_,rfl⟩;rw[<-hx,<-hy];by_cases h:x<y
   .have O:ET x y=x:=Ak h;have z:Ey x y=y:=Ad (by omega);rw[O,z]
   .have O:ET x y=y:=Ad h;by_cases Z:y<x
    .have z:Ey x y=x:=Ak Z;rw[O,z];by_cases Q:S x.toNat=S y.toNat
     .rw[Ak Q,Ak Q.symm]
     .rw[Ad Q,Ad (EJ Q)]
    .have z:Ey x y=y:=Ad Z
     have:x=y:=by omega
     rw[O,z,this]
def Qxe(n:Nat)(nm:List Int)(bs:List Ag)(t:Int)(k:Nat):WF n (GM nm bs) t k↔WF n (Hz nm bs) t k:=by
 simp only[WF,Qv9]
def UQ{s:Az}{A:Af}{t:Int}(h:Qs0 s A)(hl:A.Tiles.length<=512)(ht:0<=t):
 (QZ s A t).2=decide ((fJ s A t).2=0)/\((QZ s A t).2=true->(QZ s A t).1=(fJ s A t).1):=by
 have Q:=Qro h.1 A A.Tiles.length (AN _);have hL:=sC s A A.Tiles.length;obtain⟨bs,hbs⟩: ∃bs,bs=F9 s A A.Tiles.length:=⟨_,rfl⟩;obtain⟨n,hn⟩: ∃n,n=A.Tiles.length:=⟨_,rfl⟩;rw[<-hn] at Q hL hbs hl;rw[<-hbs] at Q hL;have Z:(Dw n bs t).1=(Cn n bs t).1:=rfl;simp only[QZ,fJ,<-hn,<-hbs,Z];by_cases O:64<(Cn n bs t).1
 .rw[Ak O,Ak O];exact⟨rfl,λh=>by cases h⟩
 .rw[Ad O,Ad O];have z:=L8 (t:=t) Q (by omega) (by rw[Z];omega);have hh:=Qtt (n:=(Cn n bs t).1.toNat) (bs:=(Dw n bs t).2) (t:=t) (λb hb=>by
   have:=z.2.2.2.1 b hb
   have h0:=z.1;rw[Z] at this h0;rw[Int.toNat_of_nonneg h0];exact this) z.2.2.2.2.1 ht
  by_cases h2:(Cn n bs t).1<2
  .rw[Ak h2];refine⟨rfl,λ_=> ?_⟩;simp only[uV];rw[show (Cn n bs t).1.toNat - 1=0 by omega];rfl
  .rw[Ad h2];refine⟨rfl,λ_=> ?_⟩;obtain⟨p1,p2⟩:=MS (t:=t) Q (by omega) (by omega) (by omega);have hw:=(Qzk (n:=(Cn n bs t).1) (bs:=(Cn n bs t).2) p1 p2 ht ((Cn n bs t).1 - 1).toNat (by omega) (by omega)).2;have aa:=hh ((Cn n bs t).1.toNat - 1) (by omega);simp only[uV];rw[show ((Cn n bs t).1 - 1).toNat=(Cn n bs t).1.toNat - 1 by omega] at hw⊢;have e:WF (Cn n bs t).1.toNat (Dw n bs t).2 t ((Cn n bs t).1.toNat - 1)↔WF (Cn n bs t).1.toNat (Cn n bs t).2 t ((Cn n bs t).1.toNat - 1):=Qxe _ _ _ _ _;rw[WW,aa,e,<-hw];simp
def oT(y:AG):WD y=EP y:=by
 simp only[WD,EP];by_cases h:y.Seed.Tiles.length=0
 .rw[Ak h]
  have:y.Seed.Tiles=[]:=vB h
  simp[this]
 .rw[Ad h];have he:y.Seed.Tiles.isEmpty=false:=by
   rw[ZeE];intro h2;rw[h2] at h;simp at h
  by_cases c1:(Eg y.Set && E8 y.Set y.Seed)=false
  .have e:QP y.Set y.Seed y.Temperature=(false,1):=Ak c1;rw[e];rw[Zed] at c1;rcases c1 with c1|c1<;>simp[c1]
  .have z:=c1;rw[Hq] at c1;have hp:=Qof (s:=y.Set) (a:=y.Seed) c1;rw[AL] at c1;rw[c1.1,c1.2,he];by_cases O:AW y.Temperature 1 16=false
   .have e:QP y.Set y.Seed y.Temperature=(false,2):=(Ad z).trans (Ak O);rw[e,O];simp
   .have Z:=O;rw[Hq] at O;have ht:0<=y.Temperature:=by simp only[AW,AL,B3] at O;omega
    obtain⟨q1,q2⟩:=UQ hp.1 hp.2 ht;rw[O];simp only[UP,WX,DB];by_cases Q:(QZ y.Set y.Seed y.Temperature).2=false
    .have e:QP y.Set y.Seed y.Temperature=(false,4):=(Ad z).trans ((Ad Z).trans (Ak Q));rw[e,<-q1,Q];simp
    .have e:QP y.Set y.Seed y.Temperature=((QZ y.Set y.Seed y.Temperature).1,0):=(Ad z).trans ((Ad Z).trans (Ad Q));rw[Hq] at Q;rw[e,<-q1,Q,q2 Q];simp
def Y7(m:AF):Jn m=EO m:=by
 simp only[Jn,EO,oT,PY];congr 3;congr 1;rw[WW];simp[eX]
def Qq4{a b:Ab}(h:Bl a b=false)(O:a≠b):Bl b a=true:=by
 obtain⟨x,y⟩:=a;obtain⟨z,w⟩:=b;simp only[Bl,ne_eq,Ab.mk.injEq] at*
 grind
def C8(p:Ab)(t:Int):List Ah->List Ah
 |[]=>[⟨p,t⟩]
 |x::r=>if Bl p x.At=true then ⟨p,t⟩::x::r else x::C8 p t r
def M8(p:Ab)(t:Int): ∀(l:List Ah),GR p t false l++(if I6 p l=true then [] else [⟨p,t⟩])=C8 p t l
 |[]=>rfl
 |x::r=>by
  have ih:=M8 p t r;by_cases h:Bl p x.At=true
  .have e:I6 p (x::r)=true:=by simp only[I6,Ak h]
   simp only[e,BM,DA,GR,C8,Ak h,uC]
  .have e:I6 p (x::r)=I6 p r:=by simp only[I6,Ad h]
   simp only[e,GR,C8,Ad h,De,ih]
def QX(a:Af)(p:Ab)(t:Int):BJ a p t=⟨C8 p t a.Tiles⟩:=by simp only[BJ,M8]
def zH(p:Ab)(t:Int): ∀(l:List Ah),(C8 p t l).length=l.length+1
 |[]=>rfl
 |x::r=>by simp only[C8];split<;>simp[zH p t r]
def lP(p:Ab)(t:Int)(y:Ah): ∀(l:List Ah),y∈C8 p t l↔y=⟨p,t⟩\/y∈l
 |[]=>by simp[C8]
 |x::r=>by
  simp only[C8];split
  .simp
  .simp only[Be,lP p t y r];constructor
   .rintro (h|h|h)
    .exact .inr (.inl h)
    .exact .inl h
    .exact .inr (.inr h)
   .rintro (h|h|h)
    .exact .inr (.inl h)
    .exact .inl h
    .exact .inr (.inr h)
def sS{p:Ab}{t:Int}(hp:DY p=true)(ht:AW t 0 159=true): ∀(l:List Ah) (q:Option Ab),Cd q l=true->(∀q',q=some q'->Bl q' p=true)->(∀x∈l,x.At≠p)->Cd q (C8 p t l)=true
 |[],q,_,O,_=>by
  simp only[C8,Vo,Qik,hp,ht,DB,F5];cases q with
  |none=>rfl
  |some q'=>exact O q' rfl
 |x::r,q,z,O,h3=>by
  have hx:=h3 x (BR ..);rw[Vo] at z;simp only[AL] at z;obtain⟨g1,g2,g3,g4⟩:=z;simp only[C8];split
  .rename_i Q;rw[Vo,Vo];simp only[hp,ht,g1,g2,g4,Q,DB,F5];cases q with
   |none=>rfl
   |some q'=>exact O q' rfl
  .rename_i Q;rw[Vo];have ih:=sS hp ht r (some x.At) g4 (λq' Z=>by
    obtain rfl:=A7 Z;exact Qq4 (by simpa using Q) (EJ hx)) (λy hy=>h3 y (BQ _ hy))
   simp only[g1,g2,ih,DB,F5];exact g3
def Ru{a:Af}(hf:Cd none a.Tiles=true){p:Ab}(h:Bj a p<0): ∀x∈a.Tiles,x.At≠p:=by
 intro x Q O;have z:(a.Tiles.find? (λx=>decide (x.At=p))).isSome=true:=by
  rw[List.find?_isSome];exact⟨x,Q,by simpa using O⟩
 cases hq:a.Tiles.find? (λx=>decide (x.At=p)) with
 |none=>rw[hq] at z;cases z
 |some y=>
  simp only[Bj,hq,CY,AO] at h
  have:=(Vw _ _ hf y (Qg hq)).2
  simp only[AW,AL,B3] at this;omega
def R3{p:Ab}{k:Int}(hp:DY p=true)(O:AW k 1 4=true):DY (NS p k).1=true:=by
 simp only[DY,AW,AL,B3,NS] at*;obtain⟨Q,Z⟩:=O;have z:k=1\/k=2\/k=3\/k=4:=by omega
 rcases z with rfl|rfl|rfl|rfl<;>exact⟨⟨Oi (by omega),Oi (by omega)⟩,Oi (by omega),Oi (by omega)⟩
def ZI(m:AF)(o:Af)(x:Ah):Option Af:=
 if (m.Labels[x.Tile.toNat]?.getD 0)<0 then some o
 else if 0<=Bj o (NS x.At m.Scale).1/\Bj o (NS x.At m.Scale).1≠(m.Labels[x.Tile.toNat]?.getD 0) then none
 else if Bj o (NS x.At m.Scale).1<0 then some (BJ o (NS x.At m.Scale).1 (m.Labels[x.Tile.toNat]?.getD 0)) else some o
def GL(m:AF)(a:Af):Nat->Option Af
 |0=>some ⟨[]⟩
 |k+1=>match a.Tiles[k]?,GL m a k with
  |some x,some o=>ZI m o x
  |_,r=>r
def AP(m:AF)(a:Af):Af×Bool:=match GL m a a.Tiles.length with
 |some o=>(o,true)
 |none=>(⟨[]⟩,false)
def oD(o:Af):D:=if o.Tiles=[] then .sl true 0 [] else .sl false 3 (o.Tiles.map Ah.c)
def oD_d(o:Af):Af.d [oD o]=some o:=by
 obtain⟨l⟩:=o;cases l with
 |nil=>rfl
 |cons x r=>simp only[oD];rw[Ad (by simp)];exact Af.d_c ⟨x::r⟩
def jB(o:Af)(p:Ab)(t:Int):D.sl false 3 ((BJ o p t).Tiles.map Ah.c)=oD (BJ o p t):=by
 rw[QX,oD,Ad];intro h
 have:=zH p t o.Tiles
 simp only at h;rw[h] at this;simp at this
def wX{m:AF}(h:PY m=true)(hs:m.Small.Set.Tiles.length<=160)(i:Nat): -1<=m.Labels[i]?.getD 0/\m.Labels[i]?.getD 0<=159:=by
 cases hi:m.Labels[i]? with
 |none=>simp
 |some x=>
  simp only[PY,C6,AW,AL,B3] at h
  have:=h x (Ba hi)
  rw[AO];omega
def sQ{m:AF}{a:Af}(O:PY m=true)(Q:AW m.Scale 1 4=true)(Z:m.Small.Set.Tiles.length<=160)(h4:Cd none a.Tiles=true): ∀k o,GL m a k=some o->Cd none o.Tiles=true/\o.Tiles.length<=k
 |0,o,h=>by
  simp only[GL,AI] at h;subst h;exact⟨rfl,AN _⟩
 |k+1,o,h=>by
  simp only[GL] at h;split at h
  .rename_i x o' hx ho;obtain⟨z,i2⟩:=sQ O Q Z h4 k o' ho;simp only[ZI] at h;have aa:=(Vw _ _ h4 x (Ba hx)).1;have ab:=wX O Z x.Tile.toNat;split at h
   .obtain rfl:=A7 h;exact⟨z,by omega⟩
   .split at h
    .cases h
    .split at h
     .obtain rfl:=A7 h;rename_i c1 c2 c3;rw[QX];refine⟨sS (R3 aa Q) (by simp only[AW,AL,B3];omega) _ _ z (λ_ h=>by cases h) (Ru z c3),by simp only[zH];omega⟩
     .obtain rfl:=A7 h;exact⟨z,by omega⟩
  .obtain⟨z,i2⟩:=sQ O Q Z h4 k o h;exact⟨z,by omega⟩
def Qra(m:AF)(a:Af)(k:Nat)(h:GL m a k=none): ∀j,GL m a (k+j)=none
 |0=>h
 |j+1=>by
  have ih:=Qra m a k h j;rw[show k+(j+1)=k+j+1 by omega,GL,ih];split
  .rename_i z;cases z
  .rfl
def l32Represent.fv(a:AF×Af):Af×Bool:=(AP) (a.1) (a.2)
def l32Represent.row:Ay:=vK (b2 (qP 10 AF.d_le) (qP 1 Af.d_le)) (r2 (rA Af.d_le) rB) (λa=>PY a.1=true/\AW a.1.Scale 1 4=true/\a.1.Small.Set.Tiles.length<=160/\E8 a.1.Big.Set a.2=true/\a.1.Labels.length=a.1.Big.Set.Tiles.length) l32Represent.fv
def l32Represent.q:=AT (R:=l32Represent.row) rfl
def l32Represent.ok:A9 45 l32Represent.row:=by
 refine vw (tC l26Block.ok (tC l03At.ok (tC l03Put.ok tN))) Tryz.func45 ?_;intro a ab;simp only[Tryz.f45];simp only[ZA,simprocAttr,l32Represent.fv];obtain⟨h1,h2,h3,h4,h5⟩:=ab;have aa:=HU h4;have z:=aa.1.1;refine AU.old ⟨{k:Nat×Af//k.1<=a.2.Tiles.length/\GL a.1 a.2 k.1=some k.2},λk=>⟨[(7,.im (.int .i64 k.1.1)),(6,.ptr 3 0),(4,.ptr 2 0),(0,.ptr 0 0),(1,.ptr 1 0)],[(3,(true,.cells 38 [.im (oD k.1.2)])),(2,(true,.cells 38 [.im (.sl true 0 [])])),(0,(false,.view (AF.c a.1))),(1,(false,.view (Af.c a.2)))],4⟩,λk=>a.2.Tiles.length - k.1.1,λk=>⟨by simp[ZG],by simp⟩,⟨⟨(0,⟨[]⟩),by simp[GL]⟩,by simp only[ZA,simprocAttr,sub,oD]⟩,λk=> ?_⟩;obtain⟨⟨k,o⟩,ah,O⟩:=k;simp only at ah O;obtain⟨ak,am⟩:=sQ h1 h2 h3 z k o O;simp only[ZA,simprocAttr,Af.d,l26Block.q,l26Block.fv,l03At.q,l03At.fv,l03Put.q,l03Put.fv,sub,AR,-Af.d,oD_d];intro _;refine⟨λhk=>⟨hk,λx hx=> ?_⟩,λhk=> ?_⟩
 .have ag:=Ba hx;have ad:=aa.1.2 x ag;refine⟨ad.1,by rw[h5];exact ad.2,λlb aj=> ?_⟩;have Q:GL a.1 a.2 (k+1)=ZI a.1 o x:=by simp only[GL,hx,O]
  simp only[ZI,aj,AO] at Q;refine⟨λc1=> ?_,λc1=>⟨hk,λx' af=> ?_⟩⟩
  .rw[Ak c1] at Q;exact⟨⟨(k+1,o),by simp only;omega,Q⟩,by simp only;omega,by rw[AC (by omega) (by omega)];simp only;omega,rfl⟩
  .rw[hx] at af;obtain rfl:=A7 af;rw[Ad c1] at Q;have ac:=h2;simp only[AW,AL,B3] at ac;refine⟨⟨Z1 (Vw _ _ z x ag).1,ac.1,by omega⟩,ak,λc2=>⟨λZ=> ?_,λZ=>⟨λc4=>by omega,λc4=> ?_⟩⟩,λc2=>⟨λZ=>⟨by omega,?_⟩,λZ=>by omega⟩⟩
   .rw[Ak ⟨c2,Z⟩] at Q
    have:=Qra a.1 a.2 (k+1) Q (a.2.Tiles.length - (k+1))
    rw[show k+1+(a.2.Tiles.length - (k+1))=a.2.Tiles.length by omega] at this;simp only[AP,this]
   .rw[Ad (λh=>Z h.2),Ad c4] at Q;exact⟨⟨(k+1,o),by simp only;omega,Q⟩,by simp only;omega,by rw[AC (by omega) (by omega)];simp only;omega,rfl⟩
   .rw[Ad (λh=>c2 h.1),Ak Z] at Q;exact⟨⟨(k+1,_),by simp only;omega,Q⟩,by simp only;omega,by rw[AC (by omega) (by omega)];simp only;omega,jB o _ lb⟩
 .have ai:k=a.2.Tiles.length:=by omega
  refine⟨?_,?_⟩
  .simp only[oD];split<;>rfl
  .rw[ai] at O;simp only[AP,O]
def C7(s:AG)(a:Af)(o:AD):Bool:=DY o.At && (AW o.Tile 0 (s.Set.Tiles.length - 1) && (decide (Bm (λx=>decide (x.At=o.At)) 0 a.Tiles<0) && decide (s.Temperature<=Lr s.Set a o.At o.Tile 4)))
def T9:AD:=⟨⟨0,0⟩,0⟩
def Jz(s:AG)(x:Af):List Ah->AD×Int
 |[]=>(T9,-1)
 |t::r=>if Bm (λz=>decide (z.At=t.At)) 0 x.Tiles<0 then if C7 s x ⟨t.At,t.Tile⟩=true then (⟨t.At,t.Tile⟩,1) else Jz s x r else Jz s x r
def WJ(m:AF)(x y:Af):AD×Int:=
 if x=y then (T9,0)
 else if y.Tiles.length=x.Tiles.length+1/\x.Tiles.all (λz=>decide (Bj y z.At=z.Tile))=true then Jz m.Small x y.Tiles else (T9,-1)
def Kl(m:AF)(x b:Af):AD×Int:=if (AP m b).2=true then WJ m x (AP m b).1 else (T9,-1)
def uL(m:AF)(b:Af):Prop:=PY m=true/\AW m.Scale 1 4=true/\m.Small.Set.Tiles.length<=160/\E8 m.Big.Set b=true/\m.Labels.length=m.Big.Set.Tiles.length
def Zu{m:AF}{b:Af}(h:uL m b):Cd none (AP m b).1.Tiles=true:=by
 obtain⟨z,O,Q,Z,h5⟩:=h;have hf:=(HU Z).1.1;simp only[AP];cases hq:GL m b b.Tiles.length with
 |none=>rfl
 |some o=>exact (sQ z O Q hf _ o hq).1
def l32Right.fv(a:AF×Af×Af):AD×Int:=(Kl) (a.1) (a.2.1) (a.2.2)
def l32Right.row:Ay:=vK (b3 (qP 10 AF.d_le) (qP 1 Af.d_le) (qP 1 Af.d_le)) (r2 (rA AD.d_le) rI) (λa=>uL a.1 a.2.2/\BO a.1.Small.Set/\FB a.1.Small.Set a.2.1/\a.2.1.Tiles.length<=1000000) l32Right.fv
def l32Right.q:=AT (R:=l32Right.row) rfl
def l32Right.ok:A9 26 l32Right.row:=by
 refine vw (tC l32Represent.ok (tC l03Same.ok (tC l03Within.ok (tC l03Index.ok (tC l08Can.ok tN))))) Tryz.func26 ?_;intro a Z;simp only[Tryz.f26];simp only[ZA,simprocAttr,Af.d,l32Right.fv,l32Represent.q,l32Represent.fv,l03Same.q,l03Same.fv,l03Within.q,l03Within.fv];obtain⟨h1,h2,h3,h4⟩:=Z;have aa:=Zu h1;refine⟨h1,?_⟩
 split<;>rename_i c1
 .have: ¬(AP a.1 a.2.2).2=true:=by simp[c1]
  simp only[Kl];rw[Ad this];rfl
 have ab:(AP a.1 a.2.2).2=true:=by simpa using c1
 obtain⟨y,hy⟩: ∃y,y=(AP a.1 a.2.2).1:=⟨_,rfl⟩;have hR:Kl a.1 a.2.1 a.2.2=WJ a.1 a.2.1 y:=by simp only[Kl];rw[Ak ab,hy]
 simp only[<-hy,hR] at aa⊢
 split<;>rename_i c2
 .simp only[WJ];rw[Ak c2];rfl
 rw[AC (by omega) (by omega)];by_cases c3:(y.Tiles.length:Int)=(a.2.1.Tiles.length:Int)+1
 case neg=>rw[Ad c3];simp only[WJ];rw[Ad c2,Ad (λh=>c3 (by omega))];rfl
 rw[Ak c3];refine⟨aa,?_⟩
 split<;>rename_i c4
 .simp only[WJ];rw[Ad c2,Ad (λh=>by rw[h.2] at c4;cases c4)];rfl
 rw[Hq] at c4;have ac:WJ a.1 a.2.1 y=Jz a.1.Small a.2.1 y.Tiles:=by simp only[WJ];rw[Ad c2,Ak ⟨by omega,c4⟩]
 rw[ac];refine AU.old ⟨{k:Nat//k<=y.Tiles.length/\Jz a.1.Small a.2.1 (y.Tiles.drop k)=Jz a.1.Small a.2.1 y.Tiles},λk=>⟨[(10,.im (.int .i64 k.1)),(8,.ptr 4 0),(6,.ptr 3 0),(0,.ptr 0 0),(1,.ptr 1 0),(2,.ptr 2 0)],[(4,(true,.cells 38 [.im (.sl false 3 (y.Tiles.map Ah.c))])),(3,(true,.cells 72 [.im (.int .i64 0),.im (.int .i64 0),.im (.int .i64 0)])),(0,(false,.view (AF.c a.1))),(1,(false,.view (Af.c a.2.1))),(2,(false,.view (Af.c a.2.2)))],5⟩,λk=>y.Tiles.length - k.1,λk=>⟨by simp[ZG],by simp⟩,⟨⟨0,by simp⟩,?_⟩,λk=> ?_⟩
 .simp only[ZA,simprocAttr,sub]
 obtain⟨k,ad,z⟩:=k;simp only[ZA,simprocAttr,Af.d,l03Index.q,l03Index.fv,l08Can.q,l08Can.fv,sub,AR];intro _;refine⟨λhk=>⟨hk,λx hx=>⟨h3.1,λe1=>⟨hk,λx1 O=>⟨hk,λx2 Q=>⟨⟨h2,h3⟩,λe2=> ?_,λe2=>⟨⟨k+1,by omega,?_⟩,by simp only;omega,by rw[AC (by omega) (by omega)];simp only;omega⟩⟩⟩⟩,λe1=>⟨⟨k+1,by omega,?_⟩,by simp only;omega,by rw[AC (by omega) (by omega)];simp only;omega⟩⟩⟩,λhk=> ?_⟩
 .rw[hx] at O Q;obtain rfl:=A7 O;obtain rfl:=A7 Q;have hc:C7 a.1.Small a.2.1 ⟨x.At,x.Tile⟩=true:=by simp only[C7,AL,B3];exact e2
  rw[E9 hx,Jz,Ak e1,Ak hc] at z;exact z
 .rw[hx] at O Q;obtain rfl:=A7 O;obtain rfl:=A7 Q;have hc: ¬C7 a.1.Small a.2.1 ⟨x.At,x.Tile⟩=true:=by simp only[C7,AL,B3];exact e2
  rw[E9 hx,Jz,Ak e1,Ad hc] at z;exact z
 .rw[E9 hx,Jz,Ad e1] at z;exact z
 .rw[CG (by omega),Jz] at z;exact z
def Quu{m:AF}(h:EO m=true):Eg m.Big.Set=true:=by
 simp only[EO,EP,AL] at h;exact h.1.1
def Qj0{m:AF}(h:EO m=true):Eg m.Small.Set=true:=by
 simp only[EO,EP,AL] at h;exact h.2.1.1
def Qws{s:Az}(h:Eg s=true):s.Tiles.length<=160:=by
 simp only[Eg,AL,B3,AW] at h;omega
def OS{s:Az}(h:Eg s=true):0<s.Tiles.length:=by
 simp only[Eg,AL,B3,AW] at h;omega
def Kc{m:AF}(h:EO m=true){b:Af}(z:E8 m.Big.Set b=true):uL m b:=by
 have O:=Qws (Qj0 h);simp only[EO,AL,B3] at h;exact⟨h.2.2.2.2,h.2.2.1,O,z,h.2.2.2.1⟩
def eV{a:Af}{p:Ab}(h:Bm (λx=>decide (x.At=p)) 0 a.Tiles<0): ∀x∈a.Tiles,x.At≠p:=by
 intro x Q O;rcases W4 (λx=>decide (x.At=p)) a.Tiles 0 with ⟨z,_⟩|⟨i,y,_,Z,_⟩
 .have:=ZO.1 z x Q
  simp[O] at this
 .omega
def TQ{m:AF}{a:Af}{o:AD}(z:Eg m.Big.Set=true)(Z:E8 m.Big.Set a=true)(hc:C7 m.Big a o=true)(hl:a.Tiles.length<500):E8 m.Big.Set (BJ a o.At o.Tile)=true:=by
 simp only[C7,AL,B3] at hc;obtain⟨c1,Q,c3,_⟩:=hc;simp only[E8,AL,B3,C6] at Z⊢;obtain⟨⟨f1,f2⟩,f3⟩:=Z;rw[QX];have hw:AW o.Tile 0 159=true:=by
  have:=Qws z
  simp only[AW,AL,B3] at Q⊢;omega
 refine⟨⟨sS c1 hw _ _ f1 (λ_ h=>by cases h) (eV c3),by simp only[zH];omega⟩,λx O=> ?_⟩;rcases (lP o.At o.Tile x a.Tiles).1 O with rfl|O
 .exact Q
 .exact f3 x O
def Qrw{m:AF}{a:Af}(h0:0<m.Small.Set.Tiles.length)(O:PY m=true): ∀k o,GL m a k=some o-> ∀x∈o.Tiles,Fi m.Small.Set x.Tile
 |0,o,h=>by
  simp only[GL,AI] at h;subst h;intro x Z;cases Z
 |k+1,o,h=>by
  simp only[GL] at h;split at h
  .rename_i x o' Z ho;have ih:=Qrw h0 O k o' ho;simp only[ZI] at h;split at h
   .obtain rfl:=A7 h;exact ih
   .rename_i c0;split at h
    .cases h
    .split at h
     .obtain rfl:=A7 h;rw[QX];intro z Q;rcases (lP _ _ z _).1 Q with rfl|Q
      .simp only;cases hl:m.Labels[x.Tile.toNat]? with
       |none=>
        simp only[Zeh];exact⟨Og _,by omega⟩
       |some lb=>
        simp only[PY,C6,AW,AL,B3] at O
        have:=O lb (Ba hl)
        rw[hl,AO] at c0;exact⟨by simp only[AO];omega,by simp only[AO];omega⟩
      .exact ih z Q
     .obtain rfl:=A7 h;exact ih
  .exact Qrw h0 O k o h
def lZ{m:AF}{a:Af}(hs:EO m=true)(z:E8 m.Big.Set a=true):FB m.Small.Set (AP m a).1:=by
 have hp:=Kc hs z;refine⟨Zu hp,?_⟩;simp only[AP];cases hq:GL m a a.Tiles.length with
 |none=>intro x O;cases O
 |some o=>exact Qrw (OS (Qj0 hs)) hp.1 _ o hq
def uG{m:AF}{a:Af}(h:uL m a):(AP m a).1.Tiles.length<=a.Tiles.length:=by
 obtain⟨z,O,Q,Z,h5⟩:=h;simp only[AP];cases hq:GL m a a.Tiles.length with
 |none=>exact CR _
 |some o=>exact (sQ z O Q (HU Z).1.1 _ o hq).2
end Go.Ae
