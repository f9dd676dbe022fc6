/- Lemmas. Conditions: none. -/
import Derived.Test.YtogafbdeamcpnaaGreatDoorP11
import Derived.Sort.LoopGhostIn
set_option linter.all false
set_option maxHeartbeats 8000000
set_option maxRecDepth 100000
namespace Go.Ae
open Go
def It{ι:Type}(J:ι->(Nat->Prop)->World->Prop)(base:Nat)(ok0:Nat->Prop)(N:Nat)(i:ι)(s:Ac)(a:Act)(w:World):Prop:=
 ∃C S Pr,S.w=w/\ConE C N s S a/\a.defers=[]/\base<=w.heap.size/\J i Pr w/\(∀b,ownB S b->base<=b/\ ¬Pr b)/\(∀b,S.ok b->ok0 b\/ ¬Pr b)
def itQ{ι:Type}(J:ι->(Nat->Prop)->World->Prop)(base:Nat)(ok0:Nat->Prop)(N:Nat)(i:ι)(Q:Be):Exit->Act->World->Prop
 | .normal,a,w=> ∃s,Q .normal s/\It J base ok0 N i s a w
 | .exit id,a,w=> ∃s,Q (.exit id) s/\It J base ok0 N i s a w
 | .ret,a,w=> ∃s,Q .ret s/\It J base ok0 N i s a w
 |_,_,_=>False
def rdl_scs{ok ok':Nat->Prop}{hp hp':Nat->Option Obj}: ∀(ds:List D) (vs:List Value),ds.all D.scs=true->rdl ok hp ds vs->rdl ok' hp' ds vs
 |[],_,_,hd=>by simpa only[rdl] using hd
 |d::ds,vs,h,hd=>by
  simp only[rdl,Fx,Av] at hd h⊢;obtain⟨v,r,rfl,z,G⟩:=hd;exact⟨v,r,rfl,rd_scs h.1 z,rdl_scs ds r h.2 G⟩
section
variable {ι:Type}{P:Program}{V:B0}{N:Nat}{J:ι->(Nat->Prop)->World->Prop}{base:Nat}{ok0:Nat->Prop}{i j:ι}
def it_reb(hA:Ga base J){s:Ac}{a:Act}{w:World}(h:It J base ok0 N i s a w):
 ∃C1,Con C1 N s a w/\ ∀s' a' w',Con C1 N s' a' w'->It J base ok0 N i s' a' w':=by
 obtain⟨C,S,Pr,rfl,hE,hd,hb,hJ,z,Q⟩:=h;obtain⟨G,Z⟩:=hA i Pr _ hJ;refine⟨rebC S s.nx a.defers,⟨S,rfl,reb_con hE⟩,?_⟩;rintro s' a' w' ⟨S',rfl,hc⟩;have hs:S.w.heap.size<=S'.w.heap.size:=hc.wf.size;refine⟨_,S',Pr,rfl,hc,hc.defers.trans hd,BK hb hs,Z _ hs hc.wf.os hc.wf.tape hc.wf.output ?_,λb h=> ?_,λb h=> ?_⟩
 .rintro b (h|h)
  .exact Jf hc.wf b (G b h) (λO=>(z b O).2 h)
  .exact Jf hc.wf b (by omega) (λO=>by have:=(z b O).1;omega)
 .rcases Mf hc.wf h with q|q
  .exact⟨BK hb q,λhp=>by have:=G b hp;omega⟩
  .exact z b q
 .rcases Jt hc.wf h with q|q|q
  .exact Q b q
  .exact .inr λhp=>by have:=G b hp;omega
  .exact .inr (z b q).2
def endS(s':Ac):Be
 | .normal,s=>sub s s'
 | .exit _,_=>False
 | .ret,_=>False
def endC(s':Ac)(p q:Prop)(id:Nat):Be
 | .normal,s=>p/\sub s s'
 | .exit k,s=>k=id/\q/\sub s s'
 | .ret,_=>False
def Xz(HM:P.follows .mixedOrders=true)(HV:D5 P V)(hA:Ga base J){c:Code}(hc:chk N c=true)(G:DN c=true){Q:Be}{s:Ac}{a:Act}{w:World}(hk:awp P V c Q s)(h:It J base ok0 N i s a w):
 c.wpIn Fence.wide 0 P (itQ J base ok0 N i Q) a w:=by
 obtain⟨C1,aa,z⟩:=it_reb hA h;refine wpIn_mono (LP (ro:=none) HM HV c hc G Q s a w hk aa) ?_;intro e a' w' hq;cases e<;>simp only[toQ] at hq<;>simp only[itQ]
 .obtain⟨s',O,Z⟩:=hq;exact⟨s',O,z _ _ _ Z⟩
 .obtain⟨s',O,Z⟩:=hq;exact⟨s',O,z _ _ _ Z⟩
 .obtain⟨s',O,Z⟩:=hq;exact⟨s',O,z _ _ _ Z⟩
def CJ{s s':Ac}{a:Act}{w:World}(h:It J base ok0 N i s a w)(hs:sub s s')(hg:s'.good=true)(hA:Ga base J):It J base ok0 N i s' a w:=by
 obtain⟨C,S,Pr,rfl,hE,hd,hb,Z,z,Q⟩:=h;have hm:Hf S S.w:=⟨Ar _,rfl,rfl,rfl,λ_ _=>rfl,λ_ _=>rfl⟩;have O:ConE (rebC S 0 a.defers) N s S a:=Pg hE hm 0 (Bj _) a a.defers rfl rfl;obtain⟨G,aa⟩:=hA i Pr _ Z;obtain⟨S',hw,hc⟩:=Mm ⟨S,rfl,O⟩ hs hg (Bj _);refine⟨_,S',Pr,hw,hc,hd,hb,Z,λb h=> ?_,λb h=> ?_⟩
 .rcases Mf hc.wf h with q|q
  .exact⟨BK hb q,λhp=>by have:=G b hp;omega⟩
  .exact z b q
 .rcases Jt hc.wf h with q|q|q
  .exact Q b q
  .exact .inr λhp=>by have:=G b hp;omega
  .exact .inr (z b q).2
def Fo(Z:P.follows .mixedOrders=true)(HV:D5 P V)(hA:Ga base J){x y:Code}(hc:chk N x=true)(z:DN x=true){Qx:Be}{Q:Exit->Act->World->Prop}{s:Ac}{a:Act}{w:World}(h:It J base ok0 N i s a w)(hk:awp P V x Qx s)
 (hn: ∀s a w,Qx .normal s->It J base ok0 N i s a w->y.wpIn Fence.wide 0 P Q a w)(he: ∀id s a w,Qx (.exit id) s->It J base ok0 N i s a w->Q (.exit id) a w)(hr: ∀s a w,Qx .ret s->It J base ok0 N i s a w->Q .ret a w):(x.seq y).wpIn Fence.wide 0 P Q a w:=by
 refine wpIn_seq (wpIn_mono (Xz Z HV hA hc z hk h) ?_);intro e a' w' hq;cases e<;>simp only[itQ] at hq<;>simp only[Exit.then]
 .obtain⟨s',G,O⟩:=hq;exact hn s' _ _ G O
 .obtain⟨s',G,O⟩:=hq;exact he _ s' _ _ G O
 .obtain⟨s',G,O⟩:=hq;exact hr s' _ _ G O
def Pl(Z:P.follows .mixedOrders=true)(HV:D5 P V)(hA:Ga base J){x:Code}(hc:chk N x=true)(z:DN x=true){Qx:Be}{Q:Exit->Act->World->Prop}{s:Ac}{a:Act}{w:World}(h:It J base ok0 N i s a w)(hk:awp P V x Qx s)
 (hn: ∀s a w,Qx .normal s->It J base ok0 N i s a w->Q .normal a w)(he: ∀id s a w,Qx (.exit id) s->It J base ok0 N i s a w->Q (.exit id) a w)(hr: ∀s a w,Qx .ret s->It J base ok0 N i s a w->Q .ret a w):x.wpIn Fence.wide 0 P Q a w:=by
 refine wpIn_mono (Xz Z HV hA hc z hk h) ?_;intro e a' w' hq;cases e<;>simp only[itQ] at hq
 .obtain⟨s',G,O⟩:=hq;exact hn s' _ _ G O
 .obtain⟨s',G,O⟩:=hq;exact he _ s' _ _ G O
 .obtain⟨s',G,O⟩:=hq;exact hr s' _ _ G O
def Iq(HV:D5 P V)(hA:Ga base J){ops:Array Oper}{seg more:List Oper}{i0:Nat}(O:ops.toList.drop i0=seg++more)(hd:E8 N seg=true)(G:IA ops=true){K:Ac->Prop}{Q:Exit->Act->World->Prop}{l2:List Nat}{s:Ac}{a:Act}{w:World}
 (hk:rgS P V (CU ops seg) K s)(h:It J base ok0 N i s a w)(hK: ∀s a w,K s->It J base ok0 N i s a w->wpOpsIn Fence.wide 0 P ops Q l2 a w):wpOpsIn Fence.wide 0 P ops Q (List.range' i0 seg.length++l2) a w:=by
 obtain⟨C1,aa,z⟩:=it_reb hA h;exact PT (ro:=none) G (K:=λa w=> ∃s,K s/\It J base ok0 N i s a w) (λa w ⟨s,Z,h2⟩=>hK s a w Z h2) _ _ _
  (Tt HV (Q:=λ_ a w=> ∃s,K s/\It J base ok0 N i s a w) (λs a w Z h2=>⟨s,Z,z _ _ _ h2⟩) seg more i0 O hd s a w hk aa)
def conE_put{C:Ctx}{s:Ac}{S:Env}{a:Act}(hc:ConE C N s S a){dst:Option Nat}(hd: ∀d,dst=some d->d<N){x:AV}{v:Value}(Z:x.nms=[])(Q:conc S x v):ConE C N (s.put dst x) S (a.put dst v):=by
 have G:(s.put dst x).h=s.h:=by cases dst<;>rfl
 have z:(s.put dst x).nx=s.nx:=by cases dst<;>rfl
 refine⟨hc.wf,λn=>by rw[G];exact hc.h n,?_,?_,?_,?_,?_,by rw[z];exact hc.n0,hc.pre⟩
 .intro t;rw[Hq,PM (λd h=>by rw[hc.size];exact hd d h)];split
  .exact Q
  .exact hc.tm t
 .intro t;rw[Hq,z];split
  .intro m O;rw[Z] at O;cases O
  .exact hc.nmT t
 .rw[G,z];exact hc.nmH
 .cases dst<;>simp[Act.put,hc.size]
 .cases dst<;>simp[Act.put,hc.defers]
def NL(hA:Ga base J){ai:ι->List D->ι->Prop}{l:Nat}(hY: ∀i x j args Pr W,ai i x j->(∀ok hp,rdl ok hp x args.toList)->J i Pr W->YieldAt Fence.wide 0 P l args W λe W'=>e= .returned (.bool true)/\ ∃Pr',J j Pr' W'/\Move ok0 Pr W Pr' W')
 {ops:Array Oper}{k:Nat}{rest:List Nat}{o:Oper}{c:Call}{f:Operand}{x:List D}{s:Ac}{a:Act}{w:World}{Q:Exit->Act->World->Prop}(ho:ops[k]? =some o)(hw:Region.wanted o (yielded ops a.tmps)=true)(aq:o.op= .call c)(af:c.callee= .value f)
 (hf:evO s.tm f= .im (.fn (1000000000+l) [] []))(ab:evL s.tm c.args.toList=x.map .im)(au:x.all D.scs=true)(hx:ai i x j)(ao: ∀n e,hget s.h n=some e->e.2.isView=false)(hd: ∀d,o.dst=some d->d<N)(h:It J base ok0 N i s a w)
 (ac: ∀a' w',It J base ok0 N j (s.put o.dst (.im (.bool true))) a' w'->wpOpsIn Fence.wide 0 P ops Q rest a' w'):wpOpsIn Fence.wide 0 P ops Q (k::rest) a w:=by
 obtain⟨C,S,Pr,rfl,O,ag,hb,hJ,aa,ad⟩:=h;obtain⟨av,_⟩:=hA i Pr _ hJ;have an:a.eval f= .func (.yield l) #[] #[]:=by
  have h1:=GL O f;rw[hf] at h1;simp only[conc,rd,rdl] at h1;obtain⟨A,B,h2,h3,h4⟩:=h1;have e1:A= #[]:=by simpa using h3
  have e2:B= #[]:=by simpa using h4
  rw[h2,e1,e2];congr 1;unfold fnV;rw[Ab (by omega),P3]
 have hcl:Ap S (x.map .im) (c.args.map a.eval).toList:=by
  rw[<-ab,HA];exact QF _ (λy _=>GL O y)
 have as: ∀ok hp,rdl ok hp x (c.args.map a.eval).toList:=λok hp=>by
  have h1:=(Eh _ _).1 hcl;exact rdl_scs _ _ au h1
 obtain⟨fn,aj,ak,bo,hy,hR⟩:=hY i x j (c.args.map a.eval) Pr S.w hx as hJ;simp only[wpOpsIn,ho,hw,AQ];refine⟨λ_ _=>trivial,?_⟩;have ah:(o.semAt Fence.wide.round a.eval).run P S.w= .ok (.round l fn aj ak bo) S.w:=by
  show (execOp a.eval o).run P S.w=_;simp only[execOp,aq,resolve,af,an,Sem.run_bind];simp[Deferred.ofValue,invoke,hy]
 rw[ah,Oper.uponIn_round];refine⟨λh=>(by cases h),RoundIn.mono hR ?_⟩;rintro e W' ⟨rfl,Pr',am,G⟩;have hm:Hf S W':=by
  refine⟨G.size,G.os,G.tape,G.output,λb z=> ?_,?_⟩
  .rcases ad b z with q|q
   .exact G.same b (O.wf.oks b z) (.inr q)
   .exact G.same b (O.wf.oks b z) (.inl q)
  .rintro b ⟨o',e,lc,q1,q2,rfl⟩;have hl:=O.wf.loc o' e lc q1 q2;cases hmu:e.1 with
   |true=>exact G.same _ hl.1 (.inl (aa _ ⟨o',e,lc,q1,hmu,q2,rfl⟩).2)
   |false=>
    have Z:=hl.2;rw[hmu] at Z;simp only[B1,Bp] at Z;rcases Z with Z|Z
    .rcases ad _ Z with q|q
     .exact G.same _ hl.1 (.inr q)
     .exact G.same _ hl.1 (.inl q)
    .rw[ao o' e (by rw[<-O.h o'];exact q1)] at Z;cases Z
 refine ac _ _ ⟨_,{S with w:=W'},Pr',rfl,conE_put (Pg O hm 0 (Bj _) a [] ag rfl) hd rfl (by simp only[conc,rd]),?_,BK hb G.size,am,λb z=> ?_,λb z=> ?_⟩
 .cases o.dst<;>exact ag
 .have q:=aa b z;have q2:=(I8 O.wf z).1;refine⟨q.1,λhp=> ?_⟩;rcases G.pr b hp with r|r
  .exact q.2 r
  .omega
 .rcases ad b z with q|q
  .exact .inl q
  .refine .inr λhp=> ?_
   have q2:=O.wf.oks b z;rcases G.pr b hp with r|r
   .exact q r
   .omega
def it_regY(HV:D5 P V)(O:Ga base J){ab:ι->List D->ι->Prop}{l:Nat}(hY: ∀i x j args Pr W,ab i x j->(∀ok hp,rdl ok hp x args.toList)->J i Pr W->YieldAt Fence.wide 0 P l args W λe W'=>e= .returned (.bool true)/\ ∃Pr',J j Pr' W'/\Move ok0 Pr W Pr' W')
 {id:Nat}{ops:Array Oper}(k1:Nat)(as:List.range ops.size=List.range' 0 (ops.toList.take k1).length++(k1::(List.range' (k1+1) (ops.toList.drop (k1+1)).length++[])))(ac:E8 N (ops.toList.take k1)=true)(ad:E8 N (ops.toList.drop (k1+1))=true)(z:IA ops=true)
 {o:Oper}{c:Call}{f:Operand}{x:List D}(s1:Ac){s s2:Ac}{a:Act}{w:World}{Q:Exit->Act->World->Prop}{g t:Nat}(ho:ops[k1]? =some o)(ao:o.op= .call c)(Z:c.callee= .value f)(ai:o.guard=some (g,true))(aj:(ops[g]?).bind (·.dst)=some t)(ah:tget s1.tm t= .im (.bool true))
 (hf:evO s1.tm f= .im (.fn (1000000000+l) [] []))(G:evL s1.tm c.args.toList=x.map .im)(aq:x.all D.scs=true)(hx:ab i x j)(an: ∀n e,hget s1.h n=some e->e.2.isView=false)(hd: ∀d,o.dst=some d->d<N)(af:s1.good=true)(ag:s2.good=true)
 (h:It J base ok0 N i s a w)(ak:rgS P V (CU ops (ops.toList.take k1)) (λs=>sub s s1) s)(am:rgS P V (CU ops (ops.toList.drop (k1+1))) (λs=>sub s s2) (s1.put o.dst (.im (.bool true))))
 (aa: ∀a w,It J base ok0 N j s2 a w->Q .normal a w):(Code.region id ops false).wpIn Fence.wide 0 P Q a w:=by
 refine wpIn_region ?_;rw[as];refine Iq HV O (seg:=ops.toList.take k1) (more:=ops.toList.drop k1) (by rw[D9,Gc]) ac z ak h (λs a w h1 h2=> ?_);have h3:=CJ h2 h1 af O;have hw:Region.wanted o (yielded ops a.tmps)=true:=by
  obtain⟨C,S,Pr,_,hE,_⟩:=h3;have hy:=Wk hE aj ah;simp[Region.wanted,ai,hy]
 refine NL O hY ho hw ao Z hf G aq hx an hd h3 (λa w h4=> ?_);refine Iq HV O (seg:=ops.toList.drop (k1+1)) (more:=[]) (by rw[BJ]) ad z am h4 (λs a w h5 h6=> ?_);exact aa a w (CJ h6 h5 ag O)
end
def it_fnG{P:Program}{gf:Nat}{fn:Func}{c:Code}(hf:P.funcs[gf]? =some fn)(hb:fn.body=some c)(Z:fn.results.toList=[]){capt:List D}{X:Giv}(ag:capt.length+1<=fn.ntmps)
 (hk: ∀(l:Nat) (J:X.I->(Nat->Prop)->World->Prop) (base:Nat) (ok0:Nat->Prop),Ga base J->
  (∀i x j args Pr W,X.step i x j->(∀ok hp,rdl ok hp x args.toList)->J i Pr W->YieldAt Fence.wide 0 P l args W λe W'=>e= .returned (.bool true)/\ ∃Pr',J j Pr' W'/\Move ok0 Pr W Pr' W')->
  ∀a w,It J base ok0 fn.ntmps X.i0 ⟨entry 0 (.im (.fn (1000000000+l) [] [])::capt.map .im),[],0⟩ a w->c.wpIn Fence.wide 0 P (λe a w=> ∃i,X.fin i/\itQ J base ok0 fn.ntmps i (λe _=>e= .normal\/e= .ret) e a w) a w):IterG P gf capt X:=by
 intro C S vs l J hW Q hA hY ⟨Pr,hJ⟩;refine callsIn_wide.1 (callsIn_of_wp_marks (n:=0) hf hb trivial (wpIn_mono (hk l J S.w.heap.size S.ok hA hY _ _ ?_) ?_))
 .let C0:Ctx:=⟨S.w,λ_=>False,S.ok,0,λ_=>none,λ_=>none,[]⟩
  let S0:Env:=⟨λ_=>none,S.ok,λ_=>none,S.w⟩
  have ad:Wf C0 S0:=⟨rfl,rfl,rfl,Ar _,λ_ _ _=>rfl,λ_ hb=>hb,λ_ hb=> .inl hb,hW.oks,λo e G=>(by cases G),λo e l G=>(by cases G),λo o' e e' l l' G=>(by cases G),hW.glN λ_ h=>h.elim⟩;have z:Ap S0 (.im (.fn (1000000000+l) [] [])::capt.map .im) (#[Value.func (.yield l) #[] #[]]++vs).toList:=by
   rw[Vl];refine⟨_,_,rfl,?_,(Eh _ _).2 Q⟩;simp only[conc,rd,rdl];refine⟨#[],#[],?_,rfl,rfl⟩;unfold fnV;rw[Ab (by omega),P3]
  have af:(#[Value.func (.yield l) #[] #[]]++vs).size=capt.length+1:=by
   have:=Ep _ _ z
   simp at this⊢;omega
  obtain⟨O,hAs⟩: ∃O,O= #[Value.func (.yield l) #[] #[]]++vs:=⟨_,rfl⟩;rw[<-hAs] at z af⊢;refine⟨C0,S0,Pr,rfl,⟨ad,λn=>rfl,?_,?_,?_,?_,rfl,Bj _,λo ho=>absurd ho (M4 _)⟩,rfl,Ar _,hJ,λb ⟨o,e,lc,h1,_⟩=>(by cases h1),λb hb=> .inl hb⟩
  .intro t;have h1:=LK (S:=S0) _ O.toList 0 t z;simp only[Bj,AQ,JA] at h1
   have:({tmps:=O++Array.replicate (fn.ntmps - O.size) undef,defers:=[]}:Act).eval (.tmp t)=(O.toList[t]?).getD undef:=by
    simp only[Act.eval,DO,P9,L0];by_cases ht:t<O.size
    .simp[ht]
    .simp only[ht,Bp]
     have:O[t]? =none:=IT (by omega)
     simp only[Dx,this]
     split<;>rfl
   rw[this];exact h1
  .intro t m hm
   have:=LS _ 0 t m hm
   simp only[nmsL,AV.nms,D1] at this;have h0: ∀(q:List D),nmsL (q.map .im)=[]:=by
    intro q;induction q with
    |nil=>rfl
    |cons d r ih=>simp only[Ay,nmsL,AV.nms,ih,BJ]
   rw[h0] at this;cases this
  .intro n e G;cases G
  .simp;omega
 .intro e a w G;obtain⟨i,hi,G⟩:=G;have fin:(∃s,It J S.w.heap.size S.ok fn.ntmps i s a w)->LeavesInM Fence.wide 0 P fn a.tmps (λe W'=> ∃v Pr i,e= .returned v/\X.fin i/\J i Pr W') a.defers .returning w:=by
   rintro⟨s,C1,S1,ab,rfl,hE,hd,_,ac,_,_⟩;rw[hd];simp only[LeavesInM,LeavesIn];obtain⟨v,aa,_⟩:=Og (P:=P) hE (fn:=fn) (xs:=[]) (by rw[Z];rfl);exact⟨v,aa,v,ab,i,rfl,hi,ac⟩
  cases e<;>simp only[itQ] at G<;>simp only[bodyPostM]
  .obtain⟨s,_,h⟩:=G;exact fin ⟨s,h⟩
  .obtain⟨s,h,_⟩:=G;rcases h with h|h<;>cases h
  .obtain⟨s,_,h⟩:=G;exact fin ⟨s,h⟩
def it_fn{P:Program}{gf:Nat}{fn:Func}{c:Code}(hf:P.funcs[gf]? =some fn)(hb:fn.body=some c)(G:fn.results.toList=[]){capt:List D}{xs:List (List D)}(z:capt.length+1<=fn.ntmps)
 (hk: ∀(l:Nat) (J:Nat->(Nat->Prop)->World->Prop) (base:Nat) (ok0:Nat->Prop),Ga base J->
  (∀i x j args Pr W,(xs[i]? =some x/\j=i+1)->(∀ok hp,rdl ok hp x args.toList)->J i Pr W->YieldAt Fence.wide 0 P l args W λe W'=>e= .returned (.bool true)/\ ∃Pr',J j Pr' W'/\Move ok0 Pr W Pr' W')->
  ∀a w,It J base ok0 fn.ntmps 0 ⟨entry 0 (.im (.fn (1000000000+l) [] [])::capt.map .im),[],0⟩ a w->c.wpIn Fence.wide 0 P (itQ J base ok0 fn.ntmps xs.length (λe _=>e= .normal\/e= .ret)) a w):IterOk P gf capt xs:=
 it_fnG (X:=givL xs) hf hb G z λl J base ok0 Q Z a w O=>wpIn_mono (hk l J base ok0 Q Z a w O) λ_ _ _ h=>⟨xs.length,rfl,h⟩
end Go.Ae
namespace Go.Ae
open Go Go.Proofs
def Ps:B0:=tab [(151,step_.row),(287,placeAt.row)]
def nbrTab_ok:E7 Tryz.prog Ps:=G5 _ (by
 intro p hp;simp only[A9,M8,LD] at hp;rcases hp with rfl|rfl
 .exact step_.ok
 .exact placeAt.ok)
def Dt(a:Asm)(k:Nat):Nat->List (List D)
 |0=>[]
 |j+1=>Dt a k j++if 0<=nbA a k (1 - j) then [[.agg [.int .i64 k,.int .i64 (nbA a k (1 - j))],.int .i64 (1 - j)]] else []
def nbrK(a:Asm):Nat->List (List D)
 |0=>[]
 |k+1=>nbrK a k++Dt a k 2
def XO(a:Asm): ∀(n k:Nat),k<=n-> ∃r,nbrK a n=nbrK a k++r
 |0,k,h=>⟨[],by obtain rfl:k=0:=by omega
                rw[BJ]⟩
 |n+1,k,h=>by
  by_cases z:k=n+1
  .subst z;exact⟨[],by rw[BJ]⟩
  .obtain⟨r,G⟩:=XO a n k (by omega);exact⟨r++Dt a n 2,by rw[nbrK,G,DA]⟩
def WS(a:Asm)(k:Nat): ∀(n j:Nat),j<=n-> ∃r,Dt a k n=Dt a k j++r
 |0,j,h=>⟨[],by obtain rfl:j=0:=by omega
                rw[BJ]⟩
 |n+1,j,h=>by
  by_cases z:j=n+1
  .subst z;exact⟨[],by rw[BJ]⟩
  .obtain⟨r,G⟩:=WS a k n j (by omega);rw[Dt,G];exact⟨_,by rw[DA]⟩
def nbr_get(a:Asm){n k j:Nat}(O:k<n)(Q:j<2)(h:0<=nbA a k (1 - j)):(nbrK a n)[(nbrK a k).length+(Dt a k j).length]? =some [.agg [.int .i64 k,.int .i64 (nbA a k (1 - j))],.int .i64 (1 - j)]:=by
 obtain⟨Z,z⟩:=XO a n (k+1) O;obtain⟨r2,G⟩:=WS a k 2 (j+1) (by omega);rw[z,nbrK,G,Dt,Af h,DA,DA,DA,C8 (Nat.le_add_right _ _),P3,C8 (Ar _),D3];rfl
def nbO(l:Nat)(A:Asm)(k:Nat):Ac:=⟨[(11,.im (.int .i64 k)),(10,.im (.int .i64 A.Tiles.length)),(9,.im (.sl false 3 (A.Tiles.map Ad.c))),(1,.im (.ref (Asm.c A))),(0,.im (.fn (1000000000+l) [] []))],[],0⟩
def nbI(l:Nat)(A:Asm)(k:Nat)(p:Ad)(j:Nat):Ac:=⟨[(18,.im (.int .i64 j)),(17,.im (.int .i64 2)),(16,.own 1),(4,.ptr 0 0),(3,.im (.int .i64 k)),(11,.im (.int .i64 k)),(10,.im (.int .i64 A.Tiles.length)),(9,.im (.sl false 3 (A.Tiles.map Ad.c))),(1,.im (.ref (Asm.c A))),(0,.im (.fn (1000000000+l) [] []))],
 [(0,(true,.cells 137 [.im (.int .i64 p.At.X),.im (.int .i64 p.At.Y),.im (.int .i64 p.Tile)])),(1,(true,.arr 2 1 (([1,0]:List Int).map intC)))],2⟩
def nbr_iter(A:Asm)(hA:B2 none A.Tiles=true)(hl:A.Tiles.length<=1000000)(hS: ∀x∈A.Tiles,CE x.At):IterOk Tryz.prog 286 [.ref (Asm.c A)] (nbrK A A.Tiles.length):=by
 refine it_fn Tryz.func286 rfl rfl (by simp) ?_;intro l J base ok0 z hY a w ad;have HV:=Ll nbrTab_ok;obtain⟨R,hR⟩: ∃R,R=itQ J base ok0 Tryz.f286.ntmps (nbrK A A.Tiles.length).length (λe _=>e= .normal\/e= .ret):=⟨_,rfl⟩;rw[<-hR];simp only[Tryz.f286] at ad⊢;refine Fo Bz HV z (by decide) (by decide) ad (Qx:=endS (nbO l A 0)) ?_ (λs a w G O=> ?_) (λ_ _ _ _ h=>h.elim) (λ_ _ _ h=>h.elim)
 .simp(disch:=omega)only[ZA,simprocAttr,endS,nbO,entry,Asm.c,sub];exact λ_=>trivial
 have Z:=CJ O G (by simp[nbO,Ac.good,belT,belH,Ai,AV.bel]) z;clear G O ad;refine wpIn_block (wpIn_loop_ghost (λm a w=> ∃k,k<=A.Tiles.length/\m=A.Tiles.length - k/\It J base ok0 41 (nbrK A k).length (nbO l A k) a w) A.Tiles.length ⟨0,Bj _,rfl,Z⟩ ?_);clear Z;rintro m a w ⟨k,hk,hm,h⟩;refine Fo Bz HV z (by decide) (by decide) h (Qx:=endS ⟨(12,.im (.bool (decide (k<A.Tiles.length))))::(nbO l A k).tm,[],0⟩) ?_ (λs a w G O=> ?_) (λ_ _ _ _ h=>h.elim) (λ_ _ _ h=>h.elim)
 .simp(disch:=omega)only[ZA,simprocAttr,endS,nbO,sub]
 have Z:=CJ O G (by simp[nbO,Ac.good,belT,belH,Ai,AV.bel]) z;clear G O h;refine Fo Bz HV z (by decide) (by decide) Z (Qx:=endC (nbO l A k) (k<A.Tiles.length) (¬k<A.Tiles.length) 0) ?_ (λs a w G O=> ?_) (λid s a w G O=> ?_) (λ_ _ _ h=>h.elim)
 .simp(disch:=omega)only[ZA,simprocAttr,endC,nbO,sub]
  split<;>assumption
 rotate_left
 .obtain⟨rfl,h4,G⟩:=G;have ag:k=A.Tiles.length:=by omega
  subst ag;simp only[Exit.then,Exit.inBlock,AQ,hR,itQ];exact⟨s,.inl trivial,O⟩
 obtain⟨af,G⟩:=G;have h:=CJ O G (by simp[nbO,Ac.good,belT,belH,Ai,AV.bel]) z;clear G O Z;obtain⟨p,hp⟩: ∃p,A.Tiles[k]? =some p:=⟨_,A8 af⟩;refine wpIn_seq (wpIn_block ?_);refine Fo Bz HV z (by decide) (by decide) h (Qx:=endS ⟨(4,.ptr 0 0)::(3,.im (.int .i64 k))::(nbO l A k).tm,[(0,(true,.cells 137 [.im (.int .i64 p.At.X),.im (.int .i64 p.At.Y),.im (.int .i64 p.Tile)]))],1⟩) ?_ (λs a w G O=> ?_) (λ_ _ _ _ h=>h.elim) (λ_ _ _ h=>h.elim)
 .simp(disch:=omega)only[ZA,simprocAttr,endS,nbO,sub];refine⟨af,λq hq=> ?_⟩;rw[hp] at hq;obtain rfl:=Al hq;exact⟨rfl,rfl,rfl⟩
 have Z:=CJ O G (by simp[nbO,Ac.good,belT,belH,belL,Ai,AV.bel]) z;clear G O h;refine Fo Bz HV z (by decide) (by decide) Z (Qx:=endS (nbI l A k p 0)) ?_ (λs a w G O=> ?_) (λ_ _ _ _ h=>h.elim) (λ_ _ _ h=>h.elim)
 .simp(disch:=omega)only[ZA,simprocAttr,endS,nbO,nbI,sub]
 have h:=CJ O G (by simp[nbI,Ac.good,belT,belH,belL,Ai,AV.bel]) z;clear G O Z;refine wpIn_block (wpIn_loop_ghost (λm a w=> ∃j,j<=2/\m=2 - j/\It J base ok0 41 ((nbrK A k).length+(Dt A k j).length) (nbI l A k p j) a w) 2 ⟨0,Bj _,rfl,h⟩ ?_);clear h;rintro m2 a w ⟨j,hj,ai,h⟩;refine Fo Bz HV z (by decide) (by decide) h (Qx:=endS ⟨(19,.im (.bool (decide (j<2))))::(nbI l A k p j).tm,(nbI l A k p j).h,2⟩) ?_ (λs a w G O=> ?_) (λ_ _ _ _ h=>h.elim) (λ_ _ _ h=>h.elim)
 .simp(disch:=omega)only[ZA,simprocAttr,endS,nbI,sub];rw[decide_eq_decide];omega
 have Z:=CJ O G (by simp[nbI,Ac.good,belT,belH,belL,Ai,AV.bel]) z;clear G O h;refine Fo Bz HV z (by decide) (by decide) Z (Qx:=endC (nbI l A k p j) (j<2) (¬j<2) 2) ?_ (λs a w G O=> ?_) (λid s a w G O=> ?_) (λ_ _ _ h=>h.elim)
 .simp(disch:=omega)only[ZA,simprocAttr,endC,nbI,sub]
  split<;>assumption
 rotate_left
 .obtain⟨rfl,h4,G⟩:=G;have ac:j=2:=by omega
  subst ac;have h5:=CJ O G (by simp[nbI,Ac.good,belT,belH,belL,Ai,AV.bel]) z;simp only[Exit.then,Exit.inBlock,AQ];refine Pl Bz HV z (by decide) (by decide) h5 (Qx:=endS (nbO l A (k+1))) ?_ (λs a w G O=> ?_) (λ_ _ _ _ h=>h.elim) (λ_ _ _ h=>h.elim)
  .simp(disch:=omega)only[ZA,simprocAttr,endS,nbI,nbO,sub];rw[Am (by omega) (by omega)];omega
  have h6:=CJ O G (by simp[nbO,Ac.good,belT,belH,Ai,AV.bel]) z;refine⟨A.Tiles.length - (k+1),by omega,k+1,by omega,rfl,?_⟩;rw[nbrK,B5];exact h6
 obtain⟨ac,G⟩:=G;have h:=CJ O G (by simp[nbI,Ac.good,belT,belH,belL,Ai,AV.bel]) z;clear G O Z;refine wpIn_seq (wpIn_block ?_);refine Fo Bz HV z (by decide) (by decide) h (Qx:=endS ⟨(6,.im (.int .i64 (1 - (j:Int))))::(nbI l A k p j).tm,(nbI l A k p j).h,2⟩) ?_ (λs a w G O=> ?_) (λ_ _ _ _ h=>h.elim) (λ_ _ _ h=>h.elim)
 .simp(disch:=omega)only[ZA,simprocAttr,nbI];refine⟨by omega,ac,λrow aa=> ?_⟩;rcases (show j=0\/j=1 by omega) with rfl|rfl
  .simp only[De,An] at aa;subst aa;simp(disch:=omega)only[ZA,simprocAttr,endS,sub]
   try rfl
  .simp only[DP,De,An] at aa;subst aa;simp(disch:=omega)only[ZA,simprocAttr,endS,sub]
   try rfl
 have Z:=CJ O G (by simp[nbI,Ac.good,belT,belH,belL,Ai,AV.bel]) z;clear G O h;refine Fo Bz HV z (by decide) (by decide) Z (Qx:=endS ⟨(7,.im (.int .i64 (nbA A k (1 - (j:Int)))))::(6,.im (.int .i64 (1 - (j:Int))))::(nbI l A k p j).tm,(nbI l A k p j).h,2⟩) ?_ (λs a w G O=> ?_) (λ_ _ _ _ h=>h.elim) (λ_ _ _ h=>h.elim)
 .simp only[Ps];simp(disch:=omega)only[ZA,simprocAttr,Asm.d,endS,nbI,sub,step_.q,step_.re,step_.fv,placeAt.q,placeAt.re,placeAt.fv];refine⟨⟨hS p (Ax hp),by omega,by omega⟩,hA,?_⟩;simp only[nbA,AH,hp,Bw,Ao]
 have h:=CJ O G (by simp[nbI,Ac.good,belT,belH,belL,Ai,AV.bel]) z;clear G O Z;obtain⟨nb,hnb⟩: ∃nb,nb=nbA A k (1 - (j:Int)):=⟨_,rfl⟩;rw[<-hnb] at h;have ab:Dt A k (j+1)=Dt A k j++if 0<=nb then [[.agg [.int .i64 k,.int .i64 nb],.int .i64 (1 - (j:Int))]] else []:=by rw[Dt,<-hnb]
 refine wpIn_seq (wpIn_mono (Q:=λe a w=>e= .normal/\It J base ok0 41 ((nbrK A k).length+(Dt A k (j+1)).length) ⟨(38,.im (.bool false))::(nbI l A k p j).tm,(nbI l A k p j).h,2⟩ a w) ?_ ?_)
 .by_cases hn:0<=nb
  .rw[Af hn] at ab;have hx:=nbr_get A (n:=A.Tiles.length) af ac (by rw[<-hnb];exact hn);rw[<-hnb] at hx;refine it_regY HV z hY 8 rfl (by decide) (by decide) (by decide) (s1:=⟨(30,.im (.bool true))::(31,.im (.fn (1000000000+l) [] []))::(34,.im (.agg [.int .i64 k,.int .i64 nb]))::(35,.im (.int .i64 (1 - (j:Int))))::(nbI l A k p j).tm,(nbI l A k p j).h,2⟩) rfl rfl rfl rfl rfl rfl rfl rfl (by simp[D.scs,D.sc]) ⟨hx,rfl⟩ ?_ (by decide) ?_ ?_ h ?_ ?_ (λa w h9=>⟨rfl,by rw[ab,B5,<-G0];exact h9⟩)
   .intro n e he;simp only[nbI,hget] at he;cases h0:(0==n)<;>rw[h0] at he<;>simp only[Bc,AM] at he
    .cases G:(1==n)<;>rw[G] at he<;>simp only[Bc,AM,reduceCtorEq,An] at he;subst he;rfl
    .simp only[An] at he;subst he;rfl
   .simp[nbI,Ac.good,belT,belH,belL,Ai,AV.bel]
   .simp[nbI,Ac.good,belT,belH,belL,Ai,AV.bel]
   .have aj:decide (nb≥0)=true:=by simpa using hn
    have ah:decide (0<=nb)=true:=by simpa using hn
    simp only[Ps];simp(disch:=omega)only[ZA,simprocAttr,nbI,sub,JD hn]
   .change rgS _ _ _ _ (Ac.put _ (some 36) (.im (.bool true)));simp only[Ps];simp(disch:=omega)only[ZA,simprocAttr,nbI,sub]
  .rw[Ab hn,BJ] at ab;refine Pl Bz HV z (by decide) (by decide) h (Qx:=endS ⟨(38,.im (.bool false))::(nbI l A k p j).tm,(nbI l A k p j).h,2⟩) ?_ (λs a w G O=>⟨rfl,by rw[ab];exact CJ O G (by simp[nbI,Ac.good,belT,belH,belL,Ai,AV.bel]) z⟩) (λ_ _ _ _ h=>h.elim) (λ_ _ _ h=>h.elim);simp only[Ps];simp(disch:=omega)only[ZA,simprocAttr,endS,nbI,sub,eq_false hn]
 .rintro e a w ⟨rfl,h⟩;simp only[Exit.then];refine Pl Bz HV z (by decide) (by decide) h (Qx:=endS (nbI l A k p j)) ?_ (λs a w G O=> ?_) (λ_ _ _ _ h=>h.elim) (λ_ _ _ h=>h.elim)
  .simp(disch:=omega)only[ZA,simprocAttr,endS,nbI,sub]
  have Z:=CJ O G (by simp[nbI,Ac.good,belT,belH,belL,Ai,AV.bel]) z;simp only[Exit.inBlock,Exit.then];refine Pl Bz HV z (by decide) (by decide) Z (Qx:=endS (nbI l A k p (j+1))) ?_ (λs a w G O=> ?_) (λ_ _ _ _ h=>h.elim) (λ_ _ _ h=>h.elim)
  .simp(disch:=omega)only[ZA,simprocAttr,endS,nbI,sub];rw[Am (by omega) (by omega)];omega
  have h6:=CJ O G (by simp[nbI,Ac.good,belT,belH,belL,Ai,AV.bel]) z;exact⟨2 - (j+1),by omega,j+1,by omega,rfl,h6⟩
def nbD:D->Option Asm
 | .fn g [] [.ref ds]=>if g=286 then Asm.d ds else none
 |_=>none
def nbD_le: ∀d b,nbD d=some b->Le d (.fn 286 [] [.ref (Asm.c b)]):=by
 intro d b h;unfold nbD at h;split at h
 .rename_i g ds;split at h
  .rename_i z;subst z;refine Hy ?_;exact⟨Ha (Asm.d_le _ _ h).leP,trivial⟩
  .cases h
 .cases h
def nbD_c(b:Asm):nbD (.fn 286 [] [.ref (Asm.c b)])=some b:=by
 simp only[nbD,AQ,Asm.d_c]
def nbrs.rc:D->Option (Asm):=nbD
def nbrs.re:Asm->D:=λa=>D.fn 286 [] [.ref (Asm.c a)]
def nbrs.rle: ∀d b,nbrs.rc d=some b->Le d (nbrs.re b):=nbD_le
def nbrs.fv(a:Asm):Asm:=(λa=>a) a
def nbrs.row:Row:=vK (b1 (qR Asm.d_le)) (RK.mk nbrs.rc nbrs.re nbrs.rle) (λa=>True) nbrs.fv
def nbrs.q:=vKq (R:=nbrs.row) rfl
def nbrs.ok:Ak Tryz.prog 269 nbrs.row:=by
 refine vw tN Tryz.func269 rfl (by kernel_rfl) ?_;intro a z;simp only[Tryz.f269];simp(disch:=omega)only[ZA,simprocAttr,nbrs.fv,nbrs.rc];exact .inl (nbD_c a)
def QT(s:Aj)(a:Asm):Prop:=setP s/\BR s a/\a.Tiles.length<=1000000/\ ∀x∈a.Tiles,CE x.At
def rowB(s:Aj)(a:Asm):List D->List Bond
 |[.agg [.int .i64 k,.int .i64 m],.int .i64 d]=>if 0<CT s (Da a k) d (Da a m) then [⟨k,m,CT s (Da a k) d (Da a m)⟩] else []
 |_=>[]
def outB(s:Aj)(a:Asm)(i:Nat):List Bond:=((nbrK a a.Tiles.length).take i).flatMap (rowB s a)
def outB_end(s:Aj)(a:Asm):outB s a (nbrK a a.Tiles.length).length=CF s a a.Tiles.length:=by
 rw[outB,Dh];have z: ∀k j,(Dt a k j).flatMap (rowB s a)=EP s a k j:=by
  intro k j;induction j with
  |zero=>rfl
  |succ j ih=>
   rw[Dt,Rx,ih,EP];congr 1;simp only[IK];split
   .simp only[Dg,Vd,BJ,rowB]
   .rfl
 have G: ∀n,(nbrK a n).flatMap (rowB s a)=CF s a n:=by
  intro n;induction n with
  |zero=>rfl
  |succ n ih=>rw[nbrK,Rx,ih,z,CF]
 exact G _
def WU(s:Aj)(a:Asm){i:Nat}{x:List D}(h:(nbrK a a.Tiles.length)[i]? =some x):outB s a (i+1)=outB s a i++rowB s a x:=by
 rw[outB,Ec,h,Rx,outB];simp
def nbr_mem(a:Asm){x:List D}(h:x∈nbrK a a.Tiles.length): ∃k m d:Int,x=[.agg [.int .i64 k,.int .i64 m],.int .i64 d]/\0<=k/\k<a.Tiles.length/\0<=m/\m<a.Tiles.length/\0<=d/\d<=1:=by
 have G: ∀(k:Nat) j,j<=2->k<a.Tiles.length->x∈Dt a k j-> ∃k m d:Int,x=[.agg [.int .i64 k,.int .i64 m],.int .i64 d]/\0<=k/\k<a.Tiles.length/\0<=m/\m<a.Tiles.length/\0<=d/\d<=1:=by
  intro k j;induction j with
  |zero=>intro _ _ h;simp[Dt] at h
  |succ j ih=>
   intro Z Q z;rw[Dt,AG] at z;rcases z with z|z
   .exact ih (by omega) Q z
   .split at z
    .rename_i h0;obtain rfl:=AO.1 z;exact⟨k,nbA a k (1 - j),1 - j,rfl,by omega,by omega,h0,nbA_lt _ _ _,by omega,by omega⟩
    .cases z
 have O: ∀n,n<=a.Tiles.length->x∈nbrK a n-> ∃k m d:Int,x=[.agg [.int .i64 k,.int .i64 m],.int .i64 d]/\0<=k/\k<a.Tiles.length/\0<=m/\m<a.Tiles.length/\0<=d/\d<=1:=by
  intro n;induction n with
  |zero=>intro _ h;simp[nbrK] at h
  |succ n ih=>
   intro hn z;rw[nbrK,AG] at z;rcases z with z|z
   .exact ih (by omega) z
   .exact G n 2 (Ar _) hn z
 exact O _ (Ar _) h
def nbrK_len(a:Asm): ∀n,(nbrK a n).length<=2*n:=by
 have z: ∀k j,(Dt a k j).length<=j:=by
  intro k j;induction j with
  |zero=>simp[Dt]
  |succ j ih=>rw[Dt,B5];split<;>simp<;>omega
 intro n;induction n with
 |zero=>simp[nbrK]
 |succ n ih=>have:=z n 2;rw[nbrK,B5];omega
def outB_len(s:Aj)(a:Asm)(i:Nat):(outB s a i).length<=i:=by
 induction i with
 |zero=>simp[outB]
 |succ i ih=>
  cases h:(nbrK a a.Tiles.length)[i]? with
  |none=>
   have:outB s a (i+1)=outB s a i:=by
    have z:=XU.1 h;rw[outB,outB,BX (by omega),BX z]
   rw[this];omega
  |some x=>
   rw[WU s a h,B5]
   have:(rowB s a x).length<=1:=by
    unfold rowB;split
    .split<;>simp
    .simp
   omega
def Mq:B0:=tab [(269,nbrs.row),(213,bond_.row)]
def bndTab_ok:E7 Tryz.prog Mq:=G5 _ (by
 intro p hp;simp only[A9,M8,LD] at hp;rcases hp with rfl|rfl
 .exact nbrs.ok
 .exact bond_.ok)
def HE: ∀(H:Ag),(H.all λp=> !p.2.2.isView)=true-> ∀o e,hget H o=some e->e.2.isView=false
 |[],_,o,e,h=>by cases h
 |(n,x)::r,z,o,e,h=>by
  simp only[Fx,Av,EX] at z;simp only[hget] at h;cases hq:(n==o)<;>rw[hq] at h
  .exact HE r z.2 o e h
  .simp only[Bc,An] at h;subst h;exact z.1
def P0{P:Program}{V:B0}{C:Ctx}{N:Nat}(Z:P.follows .mixedOrders=true)(HV:D5 P V){x y:Code}(G:chk N x=true)(z:DN x=true){s':Ac}{Q:Exit->Act->World->Prop}{s:Ac}{a:Act}{w:World}(hc:Con C N s a w)(hk:awp P V x (endS s') s)(hg:s'.good=true)(O:C.n0<=s'.nx)
 (hn: ∀a w,Con C N s' a w->y.wpIn Fence.wide 0 P Q a w):(x.seq y).wpIn Fence.wide 0 P Q a w:=by
 refine wpIn_seq (wpIn_mono (LP (ro:=none) Z HV x G z _ s a w hk hc) ?_);intro e a' w' hq;cases e<;>simp only[toQ] at hq<;>simp only[Exit.then]
 .obtain⟨s1,h1,h2⟩:=hq;exact hn _ _ (Mm h2 h1 hg O)
 .obtain⟨_,h,_⟩:=hq;exact h.elim
 .obtain⟨_,h,_⟩:=hq;exact h.elim
def bnds.rc:D->Option (List Bond):=vSl Bond.d
def bnds.re:(List Bond)->D:=λb=>D.sl false 3 (b.map Bond.c)
def bnds.rle: ∀d b,bnds.rc d=some b->Le d (bnds.re b):=Oh Bond.d_le (λ_=>rfl)
def bnds.ar:List PK->Option (Aj×Asm):=a2 (kR Aj.d) (kR Asm.d)
def bnds.ae(a:Aj×Asm):List PK:=[.val (.agg (Aj.c a.1)),.val (.agg (Asm.c a.2))]
def bnds.le: ∀z a,bnds.ar z=some a->LeKL z (bnds.ae a):=(a2_le (kR_le Aj.d_le) (kR_le Asm.d_le))
def bnds.fv(a:Aj×Asm):List Bond:=(λs a=>CF s a a.Tiles.length) (a.1) (a.2)
def bnds.row:Row:=vKF (b2 (qR Aj.d_le) (qR Asm.d_le)) (RK.mk bnds.rc bnds.re bnds.rle) (λa=>QT a.1 a.2) bnds.fv
def bnds.q:=vKFq (R:=bnds.row) rfl
def bnds.ok:Ak Tryz.prog 246 bnds.row:=by
 refine Uh (by kernel_rfl) bnds.le bnds.rle ?_;intro a ac C S vs RR hW ad aa;refine view_runR Tryz.func246 rfl (by simp[bnds.ae]) ?_ hW ad aa;clear aa ad hW;intro C0 ao w hw ab hc am;have HV:=Ll bndTab_ok;have an:C0.ds=[]:=by obtain⟨S0,_,h⟩:=hc;rw[<-h.defers];exact am
 simp only[Tryz.f246] at hc⊢;obtain⟨s,A⟩:=a;obtain⟨h1,h2,h3,h4⟩:=ac;simp only at h1 h2 h3 h4;refine P0 Bz HV (by decide) (by decide) (s':=⟨[(3,.ptr 1 0),(2,.ptr 0 0)],[(0,(true,.cells 45 ((Aj.c s).map .im))),(1,(true,.cells 39 ((Asm.c A).map .im)))],2⟩) hc ?_ ?_ (by rw[ab];exact Bj _) (λa w hc=> ?_)
 .simp only[Mq];simp(disch:=omega)only[ZA,simprocAttr,endS,sub,bnds.ae,B7,BH,cnum,entry]
 .simp[Ac.good,belT,belH,belL,Ai,AV.bel,Aj.c,Asm.c]
 refine P0 Bz HV (by decide) (by decide) (s':=⟨[(5,.ptr 2 0),(3,.ptr 1 0),(2,.ptr 0 0)],[(0,(true,.cells 45 ((Aj.c s).map .im))),(1,(true,.cells 39 ((Asm.c A).map .im))),(2,(true,.cells 281 [.im (.sl true 0 [])]))],3⟩) hc ?_ ?_ (by rw[ab];exact Bj _) (λa w hc=> ?_)
 .simp only[Mq];simp(disch:=omega)only[ZA,simprocAttr,endS,sub]
 .simp[Ac.good,belT,belH,belL,Ai,AV.bel,Aj.c,Asm.c]
 refine wpIn_seq ?_;refine P0 Bz HV (by decide) (by decide) (s':=⟨[(10,.im (.fn 286 [] [.ref (Asm.c A)])),(5,.ptr 2 0),(3,.ptr 1 0),(2,.ptr 0 0)],[(0,(true,.cells 45 ((Aj.c s).map .im))),(1,(true,.cells 39 ((Asm.c A).map .im))),(2,(true,.cells 281 [.im (.sl true 0 [])]))],3⟩) hc ?_ ?_ (by rw[ab];exact Bj _) (λa w hc=> ?_)
 .simp only[Mq];simp(disch:=omega)only[ZA,simprocAttr,Asm.d,endS,sub,nbrs.q,nbrs.re,nbrs.fv]
 .simp[Ac.good,belT,belH,belL,Ai,AV.bel,Aj.c,Asm.c]
 refine wpIn_block (wpIn_mono (range_wp Bz HV hc (gf:=286) (capt:=[.ref (Asm.c A)]) (xs:=nbrK A A.Tiles.length) (FW (by kernel_rfl)) (nbr_iter A h2.1 h3 h4) (by decide) (by decide) (by decide) (by decide) ?_ (by decide)
  (tm0:=[(10,.im (.fn 286 [] [.ref (Asm.c A)])),(5,.ptr 2 0),(3,.ptr 1 0),(2,.ptr 0 0)]) (hs:=λi=>[(0,(true,.cells 45 ((Aj.c s).map .im))),(1,(true,.cells 39 ((Asm.c A).map .im))),(2,(true,.cells 281 [.own 3])),(3,(true,.arr 318 3 ((outB s A i).map Bond.c)))]) (nx:=4) ⟨[(3,none)],?_⟩ rfl (by simp) ?_ ?_ ?_ ?_) ?_)
 .intro x hx;obtain⟨k,m,d,rfl,_⟩:=nbr_mem A hx;rfl
 .simp only[subP];simp(disch:=omega)only[ZA,simprocAttr,AC,IU,outB]
 .simp[belT,AV.bel]
 .intro i hi;simp[Ac.good,belT,belH,belL,Ai,AV.bel,Aj.c,Asm.c]
 .intro i o e he hv;rw[HE _ (by rfl) o e he] at hv;cases hv
 .intro i x hx;have aq:=outB_len s A i;have as:=(Ba.1 hx).1;have au:=nbrK_len A A.Tiles.length;obtain⟨k,m,d,rfl,k0,k1,m0,m1,d0,d1⟩:=nbr_mem A (Ax hx);have G:=WU s A hx;simp only[rowB] at G;simp only[Mq];simp(disch:=omega)only[ZA,simprocAttr,asgQ,rndQ,parT,bond_.q,bond_.re,bond_.fv,Aq];refine⟨k0,k1,λp hp=>⟨m0,m1,λq hq=>⟨⟨h1,h2.2 p (Ax hp),⟨d0,by omega⟩,h2.2 q (Ax hq)⟩,λhb=>⟨?_,by omega,[(3,some 6)],?_⟩,λhb=>⟨[],?_⟩⟩⟩⟩
  .intro row Q;obtain rfl:=AO.1 Q;rfl
  all_goals
   have e1:Da A k=p.Tile:=by simp[Da,hp]
   have e2:Da A m=q.Tile:=by simp[Da,hq]
   rw[e1,e2] at G
  .rw[Af hb] at G;simp only[subP];simp(disch:=omega)only[ZA,simprocAttr,AC,G];simp[Bond.c]
  .rw[Ab hb,BJ] at G;simp only[subP];simp(disch:=omega)only[ZA,simprocAttr,AC,G]
 .intro e a' w' hq;cases e<;>simp only[rngQ] at hq;obtain⟨C2,S2,Dk,rfl,hE,O,ht,hd,af,ag,ah,ai,aj⟩:=hq;simp only[Exit.inBlock,Exit.then];have ak:a.defers=[]:=by obtain⟨S0,_,h⟩:=hc;rw[h.defers];exact an
  rw[ak] at hd;have hm: ∀a'':Act,a''.defers=C2.ds->Pk C0 C2 a''.defers:=λa'' h=> .inr ⟨Dk,by rw[h,<-hE.defers,hd],af,ag,ah,ai,aj⟩
  refine wpIn_mono (LP (ro:=none) Bz HV _ (by decide) (by decide) (J1 Tryz.prog [ResultVar.tmp 4] (decD bnds.rc (bnds.fv (s,A)))) _ a' S2.w ?_ ⟨S2,rfl,hE⟩) ?_
  .simp only[Mq];simp(disch:=omega)only[ZA,simprocAttr,bnds.rc,bnds.fv,outB_end,decD];intro row Q;obtain⟨b,_,rfl⟩:=AF.1 Q;rfl
  .intro e a'' w'' hq;cases e<;>simp only[toQ] at hq<;>simp only[rngP]
   .obtain⟨s',Z,z⟩:=hq;exact⟨s',C2,Z,z,O,hm a'' (by obtain⟨S0,_,h⟩:=z;exact h.defers)⟩
   .obtain⟨s',Z,z⟩:=hq;exact Z.elim
   .obtain⟨s',Z,z⟩:=hq;exact⟨s',C2,Z,z,O,hm a'' (by obtain⟨S0,_,h⟩:=z;exact h.defers)⟩
end Go.Ae
namespace Go.Ae
open Go.Proofs
def betwR_P{n:Nat}{gs:List (List Int)}(z:0<gs.length): ∀(bs:List Bond),(∀b∈bs,0<b.Strength/\b.Strength<=4)-> ∀b∈Dq (Hd n gs) bs,bndP gs.length b
 |[],_,b,h=>by simp[Dq] at h
 |x::r,hs,b,h=>by
  simp only[Dq] at h;have ih:=betwR_P (n:=n) z r (λy hy=>hs y (AX _ hy)) b;split at h
  .exact ih h
  .rename_i G;rcases A9.1 h with rfl|h
   .have O:=Rn (n:=n) z x.A;have Q:=Rn (n:=n) z x.B;have Z:=hs x (AU ..);exact⟨⟨O.1,O.2,Q.1,Q.2⟩,G,Z.1,Z.2⟩
   .exact ih h
def Hb(s:Aj)(a:Asm)(t:Int):Bool×Bool:=
 if 64<(conN a.Tiles.length (CF s a a.Tiles.length) t).1 then (false,false)
 else (Pw (conN a.Tiles.length (CF s a a.Tiles.length) t).1 (conN a.Tiles.length (CF s a a.Tiles.length) t).2 t,true)
def X6(n:Nat)(bs:List Bond)(hn:0<n): ∀k,(∀v∈ownK n bs k,0<=v)/\(ownK n bs k)[0]? =some 0
 |0=>by
  refine⟨λv G=> ?_,Qf n 0 hn⟩;obtain⟨i,O⟩:=Fa.1 G;have hl:=(Ba.1 O).1;simp only[ownK] at O hl;rw[Qf n i (by rwa [KC] at hl)] at O
  have:=Al O
  omega
 |k+1=>by
  obtain⟨Q,h2⟩:=X6 n bs hn k;simp only[ownK];split
  .rename_i b hb;have z: ∀i:Nat,0<=(ownK n bs k)[i]?.getD 0:=by
    intro i;cases h:(ownK n bs k)[i]? with
    |none=>simp
    |some v=>exact Q v (Ax h)
   have hj: ∀x y v:Int,0<=x->0<=y->0<=v->0<=E4 x y v:=by
    intro x y v z hy G;simp only[E4];by_cases h:v=maxI x y
    .rw[Af h];simp only[minI];split<;>omega
    .rw[Ab h];exact G
   have Z: ∀x y:Int,0<=x->0<=y->E4 x y 0=0:=by
    intro x y z hy;simp only[E4];by_cases h:(0:Int)=maxI x y
    .rw[Af h];simp only[maxI] at h;simp only[minI];split at h<;>split<;>omega
    .rw[Ab h]
   refine⟨λv G=> ?_,?_⟩
   .obtain⟨u,hu,rfl⟩:=AF.1 G;exact hj _ _ _ (z _) (z _) (Q u hu)
   .rw[OR,BI,h2,Bw,Z _ _ (z _) (z _)]
  .exact⟨Q,h2⟩
def RT{n:Nat}{bs:List Bond}{t:Int}(hn:0<n):0<(FV n bs t).length:=by
 have h:=(X6 n (Dc t bs) hn (Dc t bs).length).2;obtain⟨z,G⟩:=Ta (ownK n (Dc t bs) (Dc t bs).length) n 0 h n (Ar _) hn
 have:(((0:Nat):Int)::z)∈FV n bs t:=by simpa only[FV,Ht,AH] using G
 exact List.length_pos_of_mem this
def con_pre{n:Nat}{bs:List Bond}{t:Int}(hb: ∀b∈bs,bndP n b)(hl:bs.length<=1000000)(O:(conN n bs t).1<=64):nwPre (conN n bs t):=by
 have Q:=Ts (Hd n (FV n bs t)) bs;by_cases h0:0<(conN n bs t).1
 .have G:=betwR_P (n:=n) (gs:=FV n bs t) (by simp only[conN] at h0;omega) bs (λb z=>⟨(hb b z).2.2.1,(hb b z).2.2.2⟩);refine⟨by omega,O,by simp only[conN,AH];omega,λb z=> ?_,λb z=> ?_,λb z=> ?_⟩
  .have:=G b (by simpa only[conN,AH] using z)
   exact this.1
  .have:=G b (by simpa only[conN,AH] using z)
   have:=this.2.2
   omega
  .have:=G b (by simpa only[conN,AH] using z)
   exact this.2.1
 .have hn:bs=[]:=by
   cases bs with
   |nil=>rfl
   |cons b r=>
    exfalso;have Z:=(hb b (AU ..)).1;have h6:=RT (n:=n) (bs:=b::r) (t:=t) (by omega);simp only[conN] at h0;omega
  subst hn;refine⟨by simp only[conN];omega,O,by simp only[conN,Dq];simp,λb z=> ?_,λb z=> ?_,λb z=> ?_⟩<;>(simp[conN,Dq] at z)
def stabI.fv(a:Aj×Asm×Int):Bool×Bool:=(Hb) (a.1) (a.2.1) (a.2.2)
def stabI.row:Row:=vKF (b3 (qR Aj.d_le) (qR Asm.d_le) qI) (r2 rB rB) (λa=>QT a.1 a.2.1/\a.2.1.Tiles.length<=512/\0<=a.2.2/\a.2.2<=1000000) stabI.fv
def stabI.q:=vKFq (R:=stabI.row) rfl
def stabI.ok:Ak Tryz.prog 211 stabI.row:=by
 refine vwF (tC bnds.ok (tC contr.ok (tC holds_.ok tN))) Tryz.func211 rfl (by kernel_rfl) ?_;intro a z;simp only[Tryz.f211];simp(disch:=omega)only[ZA,simprocAttr,Asm.d,rch,stabI.fv,bnds.q,bnds.fv,bnds.re,contr.q,contr.fv,holds_.q,holds_.fv,D.sc,D.scs,decD];obtain⟨s,A,t⟩:=a;obtain⟨G,h2,O,Q⟩:=z;simp only at G h2 O Q⊢;have Z:=QQ G.1 A A.Tiles.length (Ar _);have hL:=Ov s A A.Tiles.length;refine⟨G,⟨by omega,λb hb=>(Z b hb).1,by omega⟩,?_⟩;split
 .rename_i h;simp only[Hb];rw[Af h]
 .rename_i h;refine⟨⟨con_pre Z (by omega) (by omega),O,Q⟩,?_⟩;simp only[Hb];rw[Ab h]
def GQ(s:Aj)(a:Asm)(t:Int):Bool×Int:=
 if (C5 s && EN s a)=false then (false,1)
 else if AE t 1 16=false then (false,2)
 else if (Hb s a t).2=false then (false,4) else ((Hb s a t).1,0)
def OY{s:Aj}{a:Asm}(h:(C5 s && EN s a)=true):QT s a/\a.Tiles.length<=512:=by
 rw[Av] at h;have G:=St h.1;have z:=IZ h.2;refine⟨⟨G,z.1,by omega,λx O=> ?_⟩,by omega⟩
 have:=(Ow _ _ z.1.1 x O).1
 simp only[Cg,AE,Av,AP] at this;refine⟨?_,?_,?_,?_⟩<;>omega
def isStab.fv(a:Aj×Asm×Int):Bool×Int:=(GQ) (a.1) (a.2.1) (a.2.2)
def isStab.row:Row:=vKF (b3 (qR Aj.d_le) (qR Asm.d_le) qI) (r2 rB rI) (λa=>GS a.1) isStab.fv
def isStab.q:=vKFq (R:=isStab.row) rfl
def isStab.ok:Ak Tryz.prog 173 isStab.row:=by
 refine vwF (tC ValidAssembly_.ok (tC isTemperature.ok (tC stabI.ok tN))) Tryz.func173 rfl (by kernel_rfl) ?_;intro a z;simp only[Tryz.f173];simp(disch:=omega)only[ZA,simprocAttr,Asm.d,rch,isStab.fv,ValidAssembly_.q,ValidAssembly_.fv,isTemperature.q,isTemperature.fv,stabI.q,stabI.fv,D.sc,D.scs,decD];obtain⟨s,A,t⟩:=a;simp only at z⊢;refine⟨z,?_⟩;split
 .rename_i c1;simp only[GQ];rw[Af c1]
 .rename_i c1;split
  .rename_i G;simp only[GQ];rw[Ab c1,Af G]
  .rename_i G;have Q:=OY (s:=s) (a:=A) (by simpa using c1);have Z:AE t 1 16=true:=by simpa using G
   simp only[AE,Av,AP] at Z;refine⟨⟨Q.1,Q.2,by omega,by omega⟩,?_⟩;split
   .rename_i O;simp only[GQ];rw[Ab c1,Ab G,Af O]
   .rename_i O;simp only[GQ];rw[Ab c1,Ab G,Ab O]
def KW(y:Ah):Bool:=if y.Seed.Tiles.length=0 then false else ((GQ y.Set y.Seed y.Temperature).1 && decide ((GQ y.Set y.Seed y.Temperature).2=0))
def validI_.fv(a:Ah):Bool:=(KW) a
def validI_.row:Row:=vKF (b1 (qR Ah.d_le)) rB (λa=>GS a.Set) validI_.fv
def validI_.q:=vKFq (R:=validI_.row) rfl
def validI_.ok:Ak Tryz.prog 123 validI_.row:=by
 refine vwF (tC isStab.ok tN) Tryz.func123 rfl (by kernel_rfl) ?_;intro a z;simp only[Tryz.f123];simp(disch:=omega)only[ZA,simprocAttr,Asm.d,rch,validI_.fv,isStab.q,isStab.fv,D.sc,D.scs,decD];intro _;by_cases h:a.Seed.Tiles.length=0
 .rw[Af (by omega)];simp only[KW];rw[Af h]
 .rw[Ab (by omega)];refine⟨z,?_⟩;simp only[KW];rw[Ab h];split
  .rename_i c;rw[c,BY]
  .rename_i c;rw[Fw] at c;rw[c,CA]
def WX(S:Nat->Bool)(nm:List Int): ∀(bs:List Bond),cutW S (Dq nm bs)=cutW S (DK nm bs)
 |[]=>rfl
 |b::r=>by
  have ih:=WX S nm r;simp only[Dq,DK];split
  .exact ih
  .simp only[cutW,ih];congr 1;obtain⟨x,hx⟩: ∃x,x=nmOf nm b.A:=⟨_,rfl⟩;obtain⟨y,hy⟩: ∃y,y=nmOf nm b.B:=⟨_,rfl⟩;rw[<-hx,<-hy];by_cases h:x<y
   .have G:minI x y=x:=Af h;have z:maxI x y=y:=Ab (by omega);rw[G,z]
   .have G:minI x y=y:=Ab h;by_cases Q:y<x
    .have z:maxI x y=x:=Af Q;rw[G,z];by_cases O:S x.toNat=S y.toNat
     .rw[Af O,Af O.symm]
     .rw[Ab O,Ab (Co O)]
    .have z:maxI x y=y:=Ab Q
     have:x=y:=by omega
     rw[G,z,this]
def YN(n:Nat)(nm:List Int)(bs:List Bond)(t:Int)(k:Nat):ID n (Dq nm bs) t k↔ID n (DK nm bs) t k:=by
 simp only[ID,WX]
def stab_law{s:Aj}{A:Asm}{t:Int}(h:QT s A)(hl:A.Tiles.length<=512)(ht:0<=t):
 (Hb s A t).2=decide ((Lp s A t).2=0)/\((Hb s A t).2=true->(Hb s A t).1=(Lp s A t).1):=by
 have O:=QQ h.1 A A.Tiles.length (Ar _);have hL:=Ov s A A.Tiles.length;obtain⟨bs,hbs⟩: ∃bs,bs=CF s A A.Tiles.length:=⟨_,rfl⟩;obtain⟨n,hn⟩: ∃n,n=A.Tiles.length:=⟨_,rfl⟩;rw[<-hn] at O hL hbs hl;rw[<-hbs] at O hL;have hc:(conN n bs t).1=(shrN n bs t).1:=rfl;simp only[Hb,Lp,<-hn,<-hbs,hc];by_cases G:64<(shrN n bs t).1
 .rw[Af G,Af G];exact⟨rfl,λh=>by cases h⟩
 .rw[Ab G,Ab G];have z:=con_pre (t:=t) O (by omega) (by rw[hc];omega);have hh:=W0 (n:=(shrN n bs t).1.toNat) (bs:=(conN n bs t).2) (t:=t) (λb hb=>by
   have:=z.2.2.2.1 b hb
   have h0:=z.1;rw[hc] at this h0;rw[Vn h0];exact this) z.2.2.2.2.1 ht
  by_cases Z:(shrN n bs t).1<2
  .rw[Af Z];refine⟨rfl,λ_=> ?_⟩;simp only[Pw];rw[show (shrN n bs t).1.toNat - 1=0 by omega];rfl
  .rw[Ab Z];refine⟨rfl,λ_=> ?_⟩;obtain⟨p1,p2⟩:=shr_pre (t:=t) O (by omega) (by omega) (by omega);have hw:=(XI (n:=(shrN n bs t).1) (bs:=(shrN n bs t).2) p1 p2 ht ((shrN n bs t).1 - 1).toNat (by omega) (by omega)).2;have Q:=hh ((shrN n bs t).1.toNat - 1) (by omega);simp only[Pw];rw[show ((shrN n bs t).1 - 1).toNat=(shrN n bs t).1.toNat - 1 by omega] at hw⊢;have e:ID (shrN n bs t).1.toNat (conN n bs t).2 t ((shrN n bs t).1.toNat - 1)↔ID (shrN n bs t).1.toNat (shrN n bs t).2 t ((shrN n bs t).1.toNat - 1):=YN _ _ _ _ _;rw[HC,Q,e,<-hw];simp
def JH(y:Ah):KW y=C7 y:=by
 simp only[KW,C7];by_cases h:y.Seed.Tiles.length=0
 .rw[Af h]
  have:y.Seed.Tiles=[]:=P4 h
  simp[this]
 .rw[Ab h];have he:y.Seed.Tiles.isEmpty=false:=by
   rw[UT];intro Z;rw[Z] at h;simp at h
  by_cases c1:(C5 y.Set && EN y.Set y.Seed)=false
  .have e:GQ y.Set y.Seed y.Temperature=(false,1):=Af c1;rw[e];rw[PA] at c1;rcases c1 with c1|c1<;>simp[c1]
  .have z:=c1;rw[CN] at c1;have hp:=OY (s:=y.Set) (a:=y.Seed) c1;rw[Av] at c1;rw[c1.1,c1.2,he];by_cases G:AE y.Temperature 1 16=false
   .have e:GQ y.Set y.Seed y.Temperature=(false,2):=(Ab z).trans (Af G);rw[e,G];simp
   .have Q:=G;rw[CN] at G;have ht:0<=y.Temperature:=by simp only[AE,Av,AP] at G;omega
    obtain⟨q1,q2⟩:=stab_law hp.1 hp.2 ht;rw[G];simp only[stabB,IS,BY];by_cases O:(Hb y.Set y.Seed y.Temperature).2=false
    .have e:GQ y.Set y.Seed y.Temperature=(false,4):=(Ab z).trans ((Ab Q).trans (Af O));rw[e,<-q1,O];simp
    .have e:GQ y.Set y.Seed y.Temperature=((Hb y.Set y.Seed y.Temperature).1,0):=(Ab z).trans ((Ab Q).trans (Ab O));rw[CN] at O;rw[e,<-q1,O,q2 O];simp
def Yt{a b:Aa}(h:AB a b=false)(G:a≠b):AB b a=true:=by
 obtain⟨x,y⟩:=a;obtain⟨z,w⟩:=b;simp only[AB,ne_eq,Aa.mk.injEq] at*
 grind
def insT(p:Aa)(t:Int):List Ad->List Ad
 |[]=>[⟨p,t⟩]
 |x::r=>if AB p x.At=true then ⟨p,t⟩::x::r else x::insT p t r
def put_ins(p:Aa)(t:Int): ∀(l:List Ad),Du p t false l++(if Er p l=true then [] else [⟨p,t⟩])=insT p t l
 |[]=>rfl
 |x::r=>by
  have ih:=put_ins p t r;by_cases h:AB p x.At=true
  .have e:Er p (x::r)=true:=by simp only[Er,Af h]
   simp only[e,AQ,BJ,Du,insT,Af h,Ph]
  .have e:Er p (x::r)=Er p r:=by simp only[Er,Ab h]
   simp only[e,Du,insT,Ab h,Bv,ih]
def IB(a:Asm)(p:Aa)(t:Int):putA a p t=⟨insT p t a.Tiles⟩:=by simp only[putA,put_ins]
def OK(p:Aa)(t:Int)(y:Ad): ∀(l:List Ad),y∈insT p t l↔y=⟨p,t⟩\/y∈l
 |[]=>by simp[insT]
 |x::r=>by
  simp only[insT];split
  .simp
  .simp only[A9,OK p t y r];constructor
   .rintro (h|h|h)
    .exact .inr (.inl h)
    .exact .inl h
    .exact .inr (.inr h)
   .rintro (h|h|h)
    .exact .inr (.inl h)
    .exact .inl h
    .exact .inr (.inr h)
def SA{p:Aa}{t:Int}(hp:Cg p=true)(Z:AE t 0 159=true): ∀(l:List Ad) (q:Option Aa),B2 q l=true->(∀q',q=some q'->AB q' p=true)->(∀x∈l,x.At≠p)->B2 q (insT p t l)=true
 |[],q,_,G,_=>by
  simp only[insT,Gi,O6,hp,Z,BY,CB];cases q with
  |none=>rfl
  |some q'=>exact G q' rfl
 |x::r,q,z,G,h3=>by
  have hx:=h3 x (AU ..);rw[Gi] at z;simp only[Av] at z;obtain⟨g1,g2,g3,g4⟩:=z;simp only[insT];split
  .rename_i O;rw[Gi,Gi];simp only[hp,Z,g1,g2,g4,O,BY,CB];cases q with
   |none=>rfl
   |some q'=>exact G q' rfl
  .rename_i O;rw[Gi];have ih:=SA hp Z r (some x.At) g4 (λq' Q=>by
    obtain rfl:=Al Q;exact Yt (by simpa using O) (Co hx)) (λy hy=>h3 y (AX _ hy))
   simp only[g1,g2,ih,BY,CB];exact g3
def repS1(m:Sim)(o:Asm)(x:Ad):Option Asm:=
 if (m.Labels[x.Tile.toNat]?.getD 0)<0 then some o
 else if 0<=atA o (KH x.At m.Scale).1/\atA o (KH x.At m.Scale).1≠(m.Labels[x.Tile.toNat]?.getD 0) then none
 else if atA o (KH x.At m.Scale).1<0 then some (putA o (KH x.At m.Scale).1 (m.Labels[x.Tile.toNat]?.getD 0)) else some o
def canS(s:Ah)(a:Asm)(o:Opt):Bool:=Cg o.At && (AE o.Tile 0 (s.Set.Tiles.length - 1) && (decide (AA (λx=>decide (x.At=o.At)) 0 a.Tiles<0) && decide (s.Temperature<=E6 s.Set a o.At o.Tile 4)))
def SP{a:Asm}{p:Aa}(h:AA (λx=>decide (x.At=p)) 0 a.Tiles<0): ∀x∈a.Tiles,x.At≠p:=by
 intro x O G;rcases GR (λx=>decide (x.At=p)) a.Tiles 0 with ⟨z,_⟩|⟨i,y,_,Q,_⟩
 .have:=J3.1 z x O
  simp[G] at this
 .omega
end Go.Ae
