/- Lemmas. Conditions: none. -/
import Derived.Test.YtpnmcdpbphpklaaGreatDoorP11
import Derived.Sort.LoopGhostIn
set_option linter.all false
set_option maxHeartbeats 8000000
set_option maxRecDepth 100000
namespace Go.Ae
open Go
def It{ι:Type}(J:ι->(Nat->Prop)->World->Prop)(base:Nat)(ok0:Nat->Prop)(N:Nat)(i:ι)(s:Az)(a:Act)(w:World):Prop:=
 ∃C S Pr,S.w=w/\CP C N s S a/\a.defers=[]/\base<=w.heap.size/\J i Pr w/\(∀b,EY S b->base<=b/\ ¬Pr b)/\(∀b,S.ok b->ok0 b\/ ¬Pr b)
def SD{ι:Type}(J:ι->(Nat->Prop)->World->Prop)(base:Nat)(ok0:Nat->Prop)(N:Nat)(i:ι)(Q:Cq):Exit->Act->World->Prop
 | .normal,a,w=> ∃s,Q .normal s/\It J base ok0 N i s a w
 | .exit id,a,w=> ∃s,Q (.exit id) s/\It J base ok0 N i s a w
 | .ret,a,w=> ∃s,Q .ret s/\It J base ok0 N i s a w
 |_,_,_=>False
def Mt{ok ok':Nat->Prop}{hp hp':Nat->Option Obj}: ∀(ds:List D) (vs:List Value),ds.all D.scs=true->rdl ok hp ds vs->rdl ok' hp' ds vs
 |[],_,_,hd=>by simpa only[rdl] using hd
 |d::ds,vs,h,hd=>by
  simp only[rdl,KP,AO] at hd h⊢;obtain⟨v,r,rfl,z,G⟩:=hd;exact⟨v,r,rfl,Wm h.1 z,Mt ds r h.2 G⟩
section
variable {ι:Type}{P:Program}{V:Df}{N:Nat}{J:ι->(Nat->Prop)->World->Prop}{base:Nat}{ok0:Nat->Prop}{i j:ι}
def SF(hA:NG base J){s:Az}{a:Act}{w:World}(h:It J base ok0 N i s a w):
 ∃C1,BL C1 N s a w/\ ∀s' a' w',BL C1 N s' a' w'->It J base ok0 N i s' a' w':=by
 obtain⟨C,S,Pr,rfl,hE,hd,hb,hJ,z,Z⟩:=h;obtain⟨O,aa⟩:=hA i Pr _ hJ;refine⟨Gq S s.nx a.defers,⟨S,rfl,Yw hE⟩,?_⟩;rintro s' a' w' ⟨S',rfl,G⟩;have hs:S.w.heap.size<=S'.w.heap.size:=G.wf.size;refine⟨_,S',Pr,rfl,G,G.defers.trans hd,BR hb hs,aa _ hs G.wf.os G.wf.tape G.wf.output G.wf.dr ?_,λb h=> ?_,λb h=> ?_⟩
 .rintro b (h|h)
  .exact Zo G.wf b (O b h) (λQ=>(z b Q).2 h)
  .exact Zo G.wf b (by omega) (λQ=>by have:=(z b Q).1;omega)
 .rcases lB G.wf h with q|q
  .exact⟨BR hb q,λhp=>by have:=O b hp;omega⟩
  .exact z b q
 .rcases Z4 G.wf h with q|q|q
  .exact Z b q
  .exact .inr λhp=>by have:=O b hp;omega
  .exact .inr (z b q).2
def BO(s':Az):Cq
 | .normal,s=>sub s s'
 | .exit _,_=>False
 | .ret,_=>False
def ID(s':Az)(p q:Prop)(id:Nat):Cq
 | .normal,s=>p/\sub s s'
 | .exit k,s=>k=id/\q/\sub s s'
 | .ret,_=>False
def Qy6(HM:P.follows .mixedOrders=true)(HV:Hi P V)(hA:NG base J){c:Code}(hc:Eg N c=true)(G:Hz c=true){Q:Cq}{s:Az}{a:Act}{w:World}(hk:Dh P V c Q s)(h:It J base ok0 N i s a w):
 c.wpIn Fence.wide 0 P (SD J base ok0 N i Q) a w:=by
 obtain⟨C1,aa,z⟩:=SF hA h;refine wpIn_mono (jW (ro:=none) HM HV c hc G Q s a w hk aa) ?_;intro e a' w' hq;cases e<;>simp only[FU] at hq<;>simp only[SD]
 .obtain⟨s',O,Z⟩:=hq;exact⟨s',O,z _ _ _ Z⟩
 .obtain⟨s',O,Z⟩:=hq;exact⟨s',O,z _ _ _ Z⟩
 .obtain⟨s',O,Z⟩:=hq;exact⟨s',O,z _ _ _ Z⟩
def FO{s s':Az}{a:Act}{w:World}(h:It J base ok0 N i s a w)(hs:sub s s')(hg:s'.good=true)(hA:NG base J):It J base ok0 N i s' a w:=by
 obtain⟨C,S,Pr,rfl,hE,hd,hb,hJ,z,Z⟩:=h;have hm:QX S S.w:=⟨AF _,rfl,rfl,rfl,AF _,λ_ _=>rfl,λ_ _=>rfl⟩;have O:CP (Gq S 0 a.defers) N s S a:=tD hE hm 0 (BP _) a a.defers rfl rfl;obtain⟨G,aa⟩:=hA i Pr _ hJ;obtain⟨S',hw,Q⟩:=lG ⟨S,rfl,O⟩ hs hg (BP _);refine⟨_,S',Pr,hw,Q,hd,hb,hJ,λb h=> ?_,λb h=> ?_⟩
 .rcases lB Q.wf h with q|q
  .exact⟨BR hb q,λhp=>by have:=G b hp;omega⟩
  .exact z b q
 .rcases Z4 Q.wf h with q|q|q
  .exact Z b q
  .exact .inr λhp=>by have:=G b hp;omega
  .exact .inr (z b q).2
def KJ(Z:P.follows .mixedOrders=true)(HV:Hi P V)(hA:NG base J){x y:Code}(hc:Eg N x=true)(z:Hz x=true){Qx:Cq}{Q:Exit->Act->World->Prop}{s:Az}{a:Act}{w:World}(h:It J base ok0 N i s a w)(hk:Dh P V x Qx s)
 (hn: ∀s a w,Qx .normal s->It J base ok0 N i s a w->y.wpIn Fence.wide 0 P Q a w)(he: ∀id s a w,Qx (.exit id) s->It J base ok0 N i s a w->Q (.exit id) a w)(hr: ∀s a w,Qx .ret s->It J base ok0 N i s a w->Q .ret a w):(x.seq y).wpIn Fence.wide 0 P Q a w:=by
 refine wpIn_seq (wpIn_mono (Qy6 Z HV hA hc z hk h) ?_);intro e a' w' hq;cases e<;>simp only[SD] at hq<;>simp only[Exit.then]
 .obtain⟨s',G,O⟩:=hq;exact hn s' _ _ G O
 .obtain⟨s',G,O⟩:=hq;exact he _ s' _ _ G O
 .obtain⟨s',G,O⟩:=hq;exact hr s' _ _ G O
def tK(Z:P.follows .mixedOrders=true)(HV:Hi P V)(hA:NG base J){x:Code}(hc:Eg N x=true)(z:Hz x=true){Qx:Cq}{Q:Exit->Act->World->Prop}{s:Az}{a:Act}{w:World}(h:It J base ok0 N i s a w)(hk:Dh P V x Qx s)
 (hn: ∀s a w,Qx .normal s->It J base ok0 N i s a w->Q .normal a w)(he: ∀id s a w,Qx (.exit id) s->It J base ok0 N i s a w->Q (.exit id) a w)(hr: ∀s a w,Qx .ret s->It J base ok0 N i s a w->Q .ret a w):x.wpIn Fence.wide 0 P Q a w:=by
 refine wpIn_mono (Qy6 Z HV hA hc z hk h) ?_;intro e a' w' hq;cases e<;>simp only[SD] at hq
 .obtain⟨s',G,O⟩:=hq;exact hn s' _ _ G O
 .obtain⟨s',G,O⟩:=hq;exact he _ s' _ _ G O
 .obtain⟨s',G,O⟩:=hq;exact hr s' _ _ G O
def Wh(HV:Hi P V)(hA:NG base J){ops:Array Oper}{seg more:List Oper}{i0:Nat}(O:ops.toList.drop i0=seg++more)(hd:Js N seg=true)(G:WD ops=true){K:Az->Prop}{Q:Exit->Act->World->Prop}{l2:List Nat}{s:Az}{a:Act}{w:World}
 (hk:K0 P V (Gc ops seg) K s)(h:It J base ok0 N i s a w)(hK: ∀s a w,K s->It J base ok0 N i s a w->wpOpsIn Fence.wide 0 P ops Q l2 a w):wpOpsIn Fence.wide 0 P ops Q (List.range' i0 seg.length++l2) a w:=by
 obtain⟨C1,aa,z⟩:=SF hA h;exact xV (ro:=none) G (K:=λa w=> ∃s,K s/\It J base ok0 N i s a w) (λa w ⟨s,Z,h2⟩=>hK s a w Z h2) _ _ _
  (Qpr HV (Q:=λ_ a w=> ∃s,K s/\It J base ok0 N i s a w) (λs a w Z h2=>⟨s,Z,z _ _ _ h2⟩) seg more i0 O hd s a w hk aa)
def RA{C:AT}{s:Az}{S:Au}{a:Act}(z:CP C N s S a){dst:Option Nat}(hd: ∀d,dst=some d->d<N){x:AV}{v:Value}(hx:x.nms=[])(Z:Aa S x v):CP C N (s.put dst x) S (a.put dst v):=by
 have O:(s.put dst x).h=s.h:=by cases dst<;>rfl
 have G:(s.put dst x).nx=s.nx:=by cases dst<;>rfl
 refine⟨z.wf,λn=>by rw[O];exact z.h n,?_,?_,?_,?_,?_,by rw[G];exact z.n0,z.pre⟩
 .intro t;rw[Vh,xO (λd h=>by rw[z.size];exact hd d h)];split
  .exact Z
  .exact z.tm t
 .intro t;rw[Vh,G];split
  .intro m Q;rw[hx] at Q;cases Q
  .exact z.nmT t
 .rw[O,G];exact z.nmH
 .cases dst<;>simp[Act.put,z.size]
 .cases dst<;>simp[Act.put,z.defers]
def pD(hA:NG base J){ai:ι->List D->ι->Prop}{l:Nat}(hY: ∀i x j Z Pr W,ai i x j->(∀ok hp,rdl ok hp x Z.toList)->J i Pr W->YieldAt Fence.wide 0 P l Z W λe W'=>e= .returned (.bool true)/\ ∃Pr',J j Pr' W'/\Ik ok0 Pr W Pr' W')
 {ops:Array Oper}{k:Nat}{rest:List Nat}{o:Oper}{c:Call}{f:Operand}{x:List D}{s:Az}{a:Act}{w:World}{Q:Exit->Act->World->Prop}(ho:ops[k]? =some o)(hw:Region.wanted o (yielded ops a.tmps)=true)(aq:o.op= .call c)(af:c.callee= .value f)
 (hf:Aq s.tm f= .im (.fn (1000000000+l) [] []))(ab:D9 s.tm c.args.toList=x.map .im)(av:x.all D.scs=true)(hx:ai i x j)(ao: ∀n e,hget s.h n=some e->e.2.isView=false)(hd: ∀d,o.dst=some d->d<N)(h:It J base ok0 N i s a w)
 (ac: ∀a' w',It J base ok0 N j (s.put o.dst (.im (.bool true))) a' w'->wpOpsIn Fence.wide 0 P ops Q rest a' w'):wpOpsIn Fence.wide 0 P ops Q (k::rest) a w:=by
 obtain⟨C,S,Pr,rfl,O,ag,hb,hJ,aa,ad⟩:=h;obtain⟨aw,_⟩:=hA i Pr _ hJ;have an:a.eval f= .func (.yield l) #[] #[]:=by
  have h1:=QG O f;rw[hf] at h1;simp only[Aa,rd,rdl] at h1;obtain⟨A,B,h2,h3,h4⟩:=h1;have e1:A= #[]:=by simpa using h3
  have e2:B= #[]:=by simpa using h4
  rw[h2,e1,e2];congr 1;unfold VB;rw[Ad (by omega),uS]
 have hcl:AJ S (x.map .im) (c.args.map a.eval).toList:=by
  rw[<-ab,V3];exact Qpe _ (λy _=>QG O y)
 have au: ∀ok hp,rdl ok hp x (c.args.map a.eval).toList:=λok hp=>by
  have h1:=(Il _ _).1 hcl;exact Mt _ _ av h1
 obtain⟨fn,aj,ak,bo,hy,hR⟩:=hY i x j (c.args.map a.eval) Pr S.w hx au hJ;simp only[wpOpsIn,ho,hw,BF];refine⟨λ_ _=>trivial,?_⟩;have ah:(o.semAt Fence.wide.round a.eval).run P S.w= .ok (.round l fn aj ak bo) S.w:=by
  show (execOp a.eval o).run P S.w=_;simp only[execOp,aq,resolve,af,an,Sem.run_bind];simp[Deferred.ofValue,invoke,hy]
 rw[ah,Oper.uponIn_round];refine⟨λh=>(by cases h),RoundIn.mono hR ?_⟩;rintro e W' ⟨rfl,Pr',am,G⟩;have hm:QX S W':=by
  refine⟨G.size,G.os,G.tape,G.output,G.dr,λb z=> ?_,?_⟩
  .rcases ad b z with q|q
   .exact G.same b (O.wf.oks b z) (.inr q)
   .exact G.same b (O.wf.oks b z) (.inl q)
  .rintro b ⟨o',e,lc,q1,q2,rfl⟩;have hl:=O.wf.loc o' e lc q1 q2;cases hmu:e.1 with
   |true=>exact G.same _ hl.1 (.inl (aa _ ⟨o',e,lc,q1,hmu,q2,rfl⟩).2)
   |false=>
    have h5:=hl.2;rw[hmu] at h5;simp only[CN,Cu] at h5;rcases h5 with h5|h5
    .rcases ad _ h5 with q|q
     .exact G.same _ hl.1 (.inr q)
     .exact G.same _ hl.1 (.inl q)
    .rw[ao o' e (by rw[<-O.h o'];exact q1)] at h5;cases h5
 refine ac _ _ ⟨_,{S with w:=W'},Pr',rfl,RA (tD O hm 0 (BP _) a [] ag rfl) hd rfl (by simp only[Aa,rd]),?_,BR hb G.size,am,λb z=> ?_,λb z=> ?_⟩
 .cases o.dst<;>exact ag
 .have q:=aa b z;have q2:=(WB O.wf z).1;refine⟨q.1,λhp=> ?_⟩;rcases G.pr b hp with r|r
  .exact q.2 r
  .omega
 .rcases ad b z with q|q
  .exact .inl q
  .refine .inr λhp=> ?_
   have q2:=O.wf.oks b z;rcases G.pr b hp with r|r
   .exact q r
   .omega
def XS(HV:Hi P V)(Z:NG base J){ac:ι->List D->ι->Prop}{l:Nat}(hY: ∀i x j G Pr W,ac i x j->(∀ok hp,rdl ok hp x G.toList)->J i Pr W->YieldAt Fence.wide 0 P l G W λe W'=>e= .returned (.bool true)/\ ∃Pr',J j Pr' W'/\Ik ok0 Pr W Pr' W')
 {id:Nat}{ops:Array Oper}(k1:Nat)(av:List.range ops.size=List.range' 0 (ops.toList.take k1).length++(k1::(List.range' (k1+1) (ops.toList.drop (k1+1)).length++[])))(ad:Js N (ops.toList.take k1)=true)(af:Js N (ops.toList.drop (k1+1))=true)(z:WD ops=true)
 {o:Oper}{c:Call}{f:Operand}{x:List D}(s1:Az){s s2:Az}{a:Act}{w:World}{Q:Exit->Act->World->Prop}{g t:Nat}(ho:ops[k1]? =some o)(aq:o.op= .call c)(aa:c.callee= .value f)(aj:o.guard=some (g,true))(ak:(ops[g]?).bind (·.dst)=some t)(ai:Ay s1.tm t= .im (.bool true))
 (hf:Aq s1.tm f= .im (.fn (1000000000+l) [] []))(O:D9 s1.tm c.args.toList=x.map .im)(au:x.all D.scs=true)(hx:ac i x j)(ao: ∀n e,hget s1.h n=some e->e.2.isView=false)(hd: ∀d,o.dst=some d->d<N)(ag:s1.good=true)(ah:s2.good=true)
 (h:It J base ok0 N i s a w)(am:K0 P V (Gc ops (ops.toList.take k1)) (λs=>sub s s1) s)(an:K0 P V (Gc ops (ops.toList.drop (k1+1))) (λs=>sub s s2) (s1.put o.dst (.im (.bool true))))
 (ab: ∀a w,It J base ok0 N j s2 a w->Q .normal a w):(Code.region id ops false).wpIn Fence.wide 0 P Q a w:=by
 refine wpIn_region ?_;rw[av];refine Wh HV Z (seg:=ops.toList.take k1) (more:=ops.toList.drop k1) (by rw[FR,HZ]) ad z am h (λs a w h1 h2=> ?_);have h3:=FO h2 h1 ag Z;have hw:Region.wanted o (yielded ops a.tmps)=true:=by
  obtain⟨C,S,Pr,_,hE,_⟩:=h3;have hy:=Qqk hE ak ai;simp[Region.wanted,aj,hy]
 refine pD Z hY ho hw aq aa hf O au hx ao hd h3 (λa w h4=> ?_);refine Wh HV Z (seg:=ops.toList.drop (k1+1)) (more:=[]) (by rw[CC]) af z an h4 (λs a w h5 h6=> ?_);exact ab a w (FO h6 h5 ah Z)
end
def SE{P:Program}{gf:Nat}{fn:Func}{c:Code}(hf:P.funcs[gf]? =some fn)(Q:fn.body=some c)(aa:fn.results.toList=[]){capt:List D}{X:mX}(af:capt.length+1<=fn.ntmps)
 (hk: ∀(l:Nat) (J:X.I->(Nat->Prop)->World->Prop) (base:Nat) (ok0:Nat->Prop),NG base J->
  (∀i x j O Pr W,X.step i x j->(∀ok hp,rdl ok hp x O.toList)->J i Pr W->YieldAt Fence.wide 0 P l O W λe W'=>e= .returned (.bool true)/\ ∃Pr',J j Pr' W'/\Ik ok0 Pr W Pr' W')->
  ∀a w,It J base ok0 fn.ntmps X.i0 ⟨entry 0 (.im (.fn (1000000000+l) [] [])::capt.map .im),[],0⟩ a w->c.wpIn Fence.wide 0 P (λe a w=> ∃i,X.fin i/\SD J base ok0 fn.ntmps i (λe _=>e= .normal\/e= .ret) e a w) a w):K8 P gf capt X:=by
 intro C S vs l J hW Z hA hY ⟨Pr,hJ⟩;refine callsIn_wide.1 (callsIn_of_wp_marks (n:=0) hf Q trivial (wpIn_mono (hk l J S.w.heap.size S.ok hA hY _ _ ?_) ?_))
 .let C0:AT:=⟨S.w,λ_=>False,S.ok,0,λ_=>none,λ_=>none,[]⟩
  let S0:Au:=⟨λ_=>none,S.ok,λ_=>none,S.w⟩
  have ad:Wf C0 S0:=⟨rfl,rfl,rfl,AF _,AF _,λ_ _ _=>rfl,λ_ Q=>Q,λ_ Q=> .inl Q,hW.oks,λo e G=>(by cases G),λo e l G=>(by cases G),λo o' e e' l l' G=>(by cases G),hW.glN λ_ h=>h.elim⟩;have z:AJ S0 (.im (.fn (1000000000+l) [] [])::capt.map .im) (#[Value.func (.yield l) #[] #[]]++vs).toList:=by
   rw[mC];refine⟨_,_,rfl,?_,(Il _ _).2 Z⟩;simp only[Aa,rd,rdl];refine⟨#[],#[],?_,rfl,rfl⟩;unfold VB;rw[Ad (by omega),uS]
  have hvs:(#[Value.func (.yield l) #[] #[]]++vs).size=capt.length+1:=by
   have:=Iu _ _ z
   simp at this⊢;omega
  obtain⟨As,hAs⟩: ∃As,As= #[Value.func (.yield l) #[] #[]]++vs:=⟨_,rfl⟩;rw[<-hAs] at z hvs⊢;refine⟨C0,S0,Pr,rfl,⟨ad,λn=>rfl,?_,?_,?_,?_,rfl,BP _,λo ho=>absurd ho (vA _)⟩,rfl,AF _,hJ,λb ⟨o,e,lc,h1,_⟩=>(by cases h1),λb Q=> .inl Q⟩
  .intro t;have h1:=jR (S:=S0) _ As.toList 0 t z;simp only[BP,BF,mI] at h1
   have:({tmps:=As++Array.replicate (fn.ntmps - As.size) undef,defers:=[]}:Act).eval (.tmp t)=(As.toList[t]?).getD undef:=by
    simp only[Act.eval,H2,mA,fH];by_cases ht:t<As.size
    .simp[ht]
    .simp only[ht,Cu]
     have:As[t]? =none:=Rb (by omega)
     simp only[GU,this]
     split<;>rfl
   rw[this];exact h1
  .intro t m hm
   have:=jZ _ 0 t m hm
   simp only[A9,AV.nms,Fb] at this;have h0: ∀(q:List D),A9 (q.map .im)=[]:=by
    intro q;induction q with
    |nil=>rfl
    |cons d r ih=>simp only[Bb,A9,AV.nms,ih,CC]
   rw[h0] at this;cases this
  .intro n e G;cases G
  .simp;omega
 .intro e a w G;obtain⟨i,hi,G⟩:=G;have fin:(∃s,It J S.w.heap.size S.ok fn.ntmps i s a w)->LeavesInM Fence.wide 0 P fn a.tmps (λe W'=> ∃v Pr i,e= .returned v/\X.fin i/\J i Pr W') a.defers .returning w:=by
   rintro⟨s,C1,S1,Pr1,rfl,hE,hd,_,ac,_,_⟩;rw[hd];simp only[LeavesInM,LeavesIn];obtain⟨v,ab,_⟩:=qM (P:=P) hE (fn:=fn) (xs:=[]) (by rw[aa];rfl);exact⟨v,ab,v,Pr1,i,rfl,hi,ac⟩
  cases e<;>simp only[SD] at G<;>simp only[bodyPostM]
  .obtain⟨s,_,h⟩:=G;exact fin ⟨s,h⟩
  .obtain⟨s,h,_⟩:=G;rcases h with h|h<;>cases h
  .obtain⟨s,_,h⟩:=G;exact fin ⟨s,h⟩
def wB{P:Program}{gf:Nat}{fn:Func}{c:Code}(hf:P.funcs[gf]? =some fn)(hb:fn.body=some c)(O:fn.results.toList=[]){capt:List D}{xs:List (List D)}(G:capt.length+1<=fn.ntmps)
 (hk: ∀(l:Nat) (J:Nat->(Nat->Prop)->World->Prop) (base:Nat) (ok0:Nat->Prop),NG base J->
  (∀i x j z Pr W,(xs[i]? =some x/\j=i+1)->(∀ok hp,rdl ok hp x z.toList)->J i Pr W->YieldAt Fence.wide 0 P l z W λe W'=>e= .returned (.bool true)/\ ∃Pr',J j Pr' W'/\Ik ok0 Pr W Pr' W')->
  ∀a w,It J base ok0 fn.ntmps 0 ⟨entry 0 (.im (.fn (1000000000+l) [] [])::capt.map .im),[],0⟩ a w->c.wpIn Fence.wide 0 P (SD J base ok0 fn.ntmps xs.length (λe _=>e= .normal\/e= .ret)) a w):J0 P gf capt xs:=
 SE (X:=gL xs) hf hb O G λl J base ok0 Z hY a w Q=>wpIn_mono (hk l J base ok0 Z hY a w Q) λ_ _ _ h=>⟨xs.length,rfl,h⟩
end Go.Ae
namespace Go.Ae
open Go Go.Proofs
def tP:Df:=Qn [(163,step_.row),(295,placeAt.row)]
def O9:Jr Tryz.prog tP:=Qv _ (by
 intro p hp;simp only[Bx,Ri,NR] at hp;rcases hp with rfl|rfl
 .exact step_.ok
 .exact placeAt.ok)
def GM(a:Ab)(k:Nat):Nat->List (List D)
 |0=>[]
 |j+1=>GM a k j++if 0<=Ha a k (1 - j) then [[.agg [.int .i64 k,.int .i64 (Ha a k (1 - j))],.int .i64 (1 - j)]] else []
def C5(a:Ab):Nat->List (List D)
 |0=>[]
 |k+1=>C5 a k++GM a k 2
def Qzu(a:Ab): ∀(n k:Nat),k<=n-> ∃r,C5 a n=C5 a k++r
 |0,k,h=>⟨[],by obtain rfl:k=0:=by omega
                rw[CC]⟩
 |n+1,k,h=>by
  by_cases z:k=n+1
  .subst z;exact⟨[],by rw[CC]⟩
  .obtain⟨r,G⟩:=Qzu a n k (by omega);exact⟨r++GM a n 2,by rw[C5,G,E0]⟩
def Qv3(a:Ab)(k:Nat): ∀(n j:Nat),j<=n-> ∃r,GM a k n=GM a k j++r
 |0,j,h=>⟨[],by obtain rfl:j=0:=by omega
                rw[CC]⟩
 |n+1,j,h=>by
  by_cases z:j=n+1
  .subst z;exact⟨[],by rw[CC]⟩
  .obtain⟨r,G⟩:=Qv3 a k n j (by omega);rw[GM,G];exact⟨_,by rw[E0]⟩
def Yh(a:Ab){n k j:Nat}(O:k<n)(Q:j<2)(h:0<=Ha a k (1 - j)):(C5 a n)[(C5 a k).length+(GM a k j).length]? =some [.agg [.int .i64 k,.int .i64 (Ha a k (1 - j))],.int .i64 (1 - j)]:=by
 obtain⟨Z,z⟩:=Qzu a n (k+1) O;obtain⟨r2,G⟩:=Qv3 a k 2 (j+1) (by omega);rw[z,C5,G,GM,Ai h,E0,E0,E0,E7 (uL _ _),uS,E7 (AF _),G5];rfl
def IQ(l:Nat)(A:Ab)(k:Nat):Az:=⟨[(11,.im (.int .i64 k)),(10,.im (.int .i64 A.Tiles.length)),(9,.im (.sl false 3 (A.Tiles.map Aj.c))),(1,.im (.ref (Ab.c A))),(0,.im (.fn (1000000000+l) [] []))],[],0⟩
def D5(l:Nat)(A:Ab)(k:Nat)(p:Aj)(j:Nat):Az:=⟨[(18,.im (.int .i64 j)),(17,.im (.int .i64 2)),(16,.own 1),(4,.ptr 0 0),(3,.im (.int .i64 k)),(11,.im (.int .i64 k)),(10,.im (.int .i64 A.Tiles.length)),(9,.im (.sl false 3 (A.Tiles.map Aj.c))),(1,.im (.ref (Ab.c A))),(0,.im (.fn (1000000000+l) [] []))],
 [(0,(true,.cells 119 [.im (.int .i64 p.At.X),.im (.int .i64 p.At.Y),.im (.int .i64 p.Tile)])),(1,(true,.arr 2 1 (([1,0]:List Int).map Ao)))],2⟩
def Tn(A:Ab)(hA:Ck none A.Tiles=true)(hl:A.Tiles.length<=1000000)(hS: ∀x∈A.Tiles,GI x.At):J0 Tryz.prog 294 [.ref (Ab.c A)] (C5 A A.Tiles.length):=by
 refine wB Tryz.func294 rfl rfl (by simp) ?_;intro l J base ok0 z hY a w ad;have HV:=eS O9;obtain⟨R,hR⟩: ∃R,R=SD J base ok0 Tryz.f294.ntmps (C5 A A.Tiles.length).length (λe _=>e= .normal\/e= .ret):=⟨_,rfl⟩;rw[<-hR];simp only[Tryz.f294] at ad⊢;refine KJ CS HV z (by decide) (by decide) ad (Qx:=BO (IQ l A 0)) ?_ (λs a w G O=> ?_) (λ_ _ _ _ h=>h.elim) (λ_ _ _ h=>h.elim)
 .simp(disch:=omega)only[ZA,simprocAttr,BO,IQ,entry,Ab.c,sub];exact λ_=>trivial
 have Z:=FO O G (by simp[IQ,ZG]) z;clear G O ad;refine wpIn_block (wpIn_loop_ghost (λm a w=> ∃k,k<=A.Tiles.length/\m=A.Tiles.length - k/\It J base ok0 41 (C5 A k).length (IQ l A k) a w) A.Tiles.length ⟨0,BP _,rfl,Z⟩ ?_);clear Z;rintro m a w ⟨k,hk,hm,h⟩;refine KJ CS HV z (by decide) (by decide) h (Qx:=BO ⟨(12,.im (.bool (decide (k<A.Tiles.length))))::(IQ l A k).tm,[],0⟩) ?_ (λs a w G O=> ?_) (λ_ _ _ _ h=>h.elim) (λ_ _ _ h=>h.elim)
 .simp(disch:=omega)only[ZA,simprocAttr,BO,IQ,sub]
 have Z:=FO O G (by simp[IQ,ZG]) z;clear G O h;refine KJ CS HV z (by decide) (by decide) Z (Qx:=ID (IQ l A k) (k<A.Tiles.length) (¬k<A.Tiles.length) 0) ?_ (λs a w G O=> ?_) (λid s a w G O=> ?_) (λ_ _ _ h=>h.elim)
 .simp(disch:=omega)only[ZA,simprocAttr,ID,IQ,sub]
  split<;>assumption
 rotate_left
 .obtain⟨rfl,h4,G⟩:=G;have ag:k=A.Tiles.length:=by omega
  subst ag;simp only[Exit.then,Exit.inBlock,BF,hR,SD];exact⟨s,.inl trivial,O⟩
 obtain⟨af,G⟩:=G;have h:=FO O G (by simp[IQ,ZG]) z;clear G O Z;obtain⟨p,hp⟩: ∃p,A.Tiles[k]? =some p:=⟨_,Bd af⟩;refine wpIn_seq (wpIn_block ?_);refine KJ CS HV z (by decide) (by decide) h (Qx:=BO ⟨(4,.ptr 0 0)::(3,.im (.int .i64 k))::(IQ l A k).tm,[(0,(true,.cells 119 [.im (.int .i64 p.At.X),.im (.int .i64 p.At.Y),.im (.int .i64 p.Tile)]))],1⟩) ?_ (λs a w G O=> ?_) (λ_ _ _ _ h=>h.elim) (λ_ _ _ h=>h.elim)
 .simp(disch:=omega)only[ZA,simprocAttr,BO,IQ,sub];refine⟨af,λq hq=> ?_⟩;rw[hp] at hq;obtain rfl:=Aw hq;exact⟨rfl,rfl,rfl⟩
 have Z:=FO O G (by simp[IQ,ZG]) z;clear G O h;refine KJ CS HV z (by decide) (by decide) Z (Qx:=BO (D5 l A k p 0)) ?_ (λs a w G O=> ?_) (λ_ _ _ _ h=>h.elim) (λ_ _ _ h=>h.elim)
 .simp(disch:=omega)only[ZA,simprocAttr,BO,IQ,D5,sub]
 have h:=FO O G (by simp[D5,ZG]) z;clear G O Z;refine wpIn_block (wpIn_loop_ghost (λm a w=> ∃j,j<=2/\m=2 - j/\It J base ok0 41 ((C5 A k).length+(GM A k j).length) (D5 l A k p j) a w) 2 ⟨0,BP _,rfl,h⟩ ?_);clear h;rintro m2 a w ⟨j,hj,ai,h⟩;refine KJ CS HV z (by decide) (by decide) h (Qx:=BO ⟨(19,.im (.bool (decide (j<2))))::(D5 l A k p j).tm,(D5 l A k p j).h,2⟩) ?_ (λs a w G O=> ?_) (λ_ _ _ _ h=>h.elim) (λ_ _ _ h=>h.elim)
 .simp(disch:=omega)only[ZA,simprocAttr,BO,D5,sub];rw[Zfg];omega
 have Z:=FO O G (by simp[D5,ZG]) z;clear G O h;refine KJ CS HV z (by decide) (by decide) Z (Qx:=ID (D5 l A k p j) (j<2) (¬j<2) 2) ?_ (λs a w G O=> ?_) (λid s a w G O=> ?_) (λ_ _ _ h=>h.elim)
 .simp(disch:=omega)only[ZA,simprocAttr,ID,D5,sub]
  split<;>assumption
 rotate_left
 .obtain⟨rfl,h4,G⟩:=G;have ac:j=2:=by omega
  subst ac;have h5:=FO O G (by simp[D5,ZG]) z;simp only[Exit.then,Exit.inBlock,BF];refine tK CS HV z (by decide) (by decide) h5 (Qx:=BO (IQ l A (k+1))) ?_ (λs a w G O=> ?_) (λ_ _ _ _ h=>h.elim) (λ_ _ _ h=>h.elim)
  .simp(disch:=omega)only[ZA,simprocAttr,BO,D5,IQ,sub];rw[AB (by omega) (by omega)];omega
  have h6:=FO O G (by simp[IQ,ZG]) z;refine⟨A.Tiles.length - (k+1),by omega,k+1,by omega,rfl,?_⟩;rw[C5,BQ];exact h6
 obtain⟨ac,G⟩:=G;have h:=FO O G (by simp[D5,ZG]) z;clear G O Z;refine wpIn_seq (wpIn_block ?_);refine KJ CS HV z (by decide) (by decide) h (Qx:=BO ⟨(6,.im (.int .i64 (1 - (j:Int))))::(D5 l A k p j).tm,(D5 l A k p j).h,2⟩) ?_ (λs a w G O=> ?_) (λ_ _ _ _ h=>h.elim) (λ_ _ _ h=>h.elim)
 .simp(disch:=omega)only[ZA,simprocAttr,D5];refine⟨by omega,ac,λrow aa=> ?_⟩;rcases (show j=0\/j=1 by omega) with rfl|rfl
  .simp only[G4,AI] at aa;subst aa;simp(disch:=omega)only[ZA,simprocAttr,BO,sub]
   try rfl
  .simp only[I2,G4,AI] at aa;subst aa;simp(disch:=omega)only[ZA,simprocAttr,BO,sub]
   try rfl
 have Z:=FO O G (by simp[D5,ZG]) z;clear G O h;refine KJ CS HV z (by decide) (by decide) Z (Qx:=BO ⟨(7,.im (.int .i64 (Ha A k (1 - (j:Int)))))::(6,.im (.int .i64 (1 - (j:Int))))::(D5 l A k p j).tm,(D5 l A k p j).h,2⟩) ?_ (λs a w G O=> ?_) (λ_ _ _ _ h=>h.elim) (λ_ _ _ h=>h.elim)
 .simp only[tP];simp(disch:=omega)only[ZA,simprocAttr,Ab.d,BO,D5,sub,step_.q,step_.re,step_.fv,placeAt.q,placeAt.re,placeAt.fv];refine⟨⟨hS p (AP hp),by omega,by omega⟩,hA,?_⟩;simp only[Ha,BD,hp,DW,AS]
 have h:=FO O G (by simp[D5,ZG]) z;clear G O Z;obtain⟨nb,hnb⟩: ∃nb,nb=Ha A k (1 - (j:Int)):=⟨_,rfl⟩;rw[<-hnb] at h;have ab:GM A k (j+1)=GM A k j++if 0<=nb then [[.agg [.int .i64 k,.int .i64 nb],.int .i64 (1 - (j:Int))]] else []:=by rw[GM,<-hnb]
 refine wpIn_seq (wpIn_mono (Q:=λe a w=>e= .normal/\It J base ok0 41 ((C5 A k).length+(GM A k (j+1)).length) ⟨(38,.im (.bool false))::(D5 l A k p j).tm,(D5 l A k p j).h,2⟩ a w) ?_ ?_)
 .by_cases hn:0<=nb
  .rw[Ai hn] at ab;have hx:=Yh A (n:=A.Tiles.length) af ac (by rw[<-hnb];exact hn);rw[<-hnb] at hx;refine XS HV z hY 8 rfl (by decide) (by decide) (by decide) (s1:=⟨(30,.im (.bool true))::(31,.im (.fn (1000000000+l) [] []))::(34,.im (.agg [.int .i64 k,.int .i64 nb]))::(35,.im (.int .i64 (1 - (j:Int))))::(D5 l A k p j).tm,(D5 l A k p j).h,2⟩) rfl rfl rfl rfl rfl rfl rfl rfl (by simp[D.scs,D.sc]) ⟨hx,rfl⟩ ?_ (by decide) ?_ ?_ h ?_ ?_ (λa w h9=>⟨rfl,by rw[ab,BQ,<-I4];exact h9⟩)
   .intro n e he;simp only[D5,hget] at he;cases h0:(0==n)<;>rw[h0] at he<;>simp only[C3,Ct] at he
    .cases G:(1==n)<;>rw[G] at he<;>simp only[C3,Ct,reduceCtorEq,AI] at he;subst he;rfl
    .simp only[AI] at he;subst he;rfl
   .simp[D5,ZG]
   .simp[D5,ZG]
   .have aj:decide (nb≥0)=true:=by simpa using hn
    have ah:decide (0<=nb)=true:=by simpa using hn
    simp only[tP];simp(disch:=omega)only[ZA,simprocAttr,D5,sub,ZS hn]
   .change K0 _ _ _ _ (Az.put _ (some 36) (.im (.bool true)));simp only[tP];simp(disch:=omega)only[ZA,simprocAttr,D5,sub]
  .rw[Ad hn,CC] at ab;refine tK CS HV z (by decide) (by decide) h (Qx:=BO ⟨(38,.im (.bool false))::(D5 l A k p j).tm,(D5 l A k p j).h,2⟩) ?_ (λs a w G O=>⟨rfl,by rw[ab];exact FO O G (by simp[D5,ZG]) z⟩) (λ_ _ _ _ h=>h.elim) (λ_ _ _ h=>h.elim);simp only[tP];simp(disch:=omega)only[ZA,simprocAttr,BO,D5,sub,eq_false hn]
 .rintro e a w ⟨rfl,h⟩;simp only[Exit.then];refine tK CS HV z (by decide) (by decide) h (Qx:=BO (D5 l A k p j)) ?_ (λs a w G O=> ?_) (λ_ _ _ _ h=>h.elim) (λ_ _ _ h=>h.elim)
  .simp(disch:=omega)only[ZA,simprocAttr,BO,D5,sub]
  have Z:=FO O G (by simp[D5,ZG]) z;simp only[Exit.inBlock,Exit.then];refine tK CS HV z (by decide) (by decide) Z (Qx:=BO (D5 l A k p (j+1))) ?_ (λs a w G O=> ?_) (λ_ _ _ _ h=>h.elim) (λ_ _ _ h=>h.elim)
  .simp(disch:=omega)only[ZA,simprocAttr,BO,D5,sub];rw[AB (by omega) (by omega)];omega
  have h6:=FO O G (by simp[D5,ZG]) z;exact⟨2 - (j+1),by omega,j+1,by omega,rfl,h6⟩
def wO:D->Option Ab
 | .fn g [] [.ref ds]=>if g=294 then Ab.d ds else none
 |_=>none
def gX: ∀d b,wO d=some b->Le d (.fn 294 [] [.ref (Ab.c b)]):=by
 intro d b h;unfold wO at h;split at h
 .rename_i g ds;split at h
  .rename_i z;subst z;refine WM ?_;exact⟨Vo (Ab.d_le _ _ h).leP,trivial⟩
  .cases h
 .cases h
def wP(b:Ab):wO (.fn 294 [] [.ref (Ab.c b)])=some b:=by
 simp only[wO,BF,Ab.d_c]
def nbrs.rc:D->Option (Ab):=wO
def nbrs.re:Ab->D:=λa=>D.fn 294 [] [.ref (Ab.c a)]
def nbrs.rle: ∀d b,nbrs.rc d=some b->Le d (nbrs.re b):=gX
def nbrs.fv(a:Ab):Ab:=(λa=>a) a
def nbrs.row:Ax:=vK (b1 (qR Ab.d_le)) (RK.mk nbrs.rc nbrs.re nbrs.rle) (λa=>True) nbrs.fv
def nbrs.q:=AX (R:=nbrs.row) rfl
def nbrs.ok:AA 264 nbrs.row:=by
 refine vw tN Tryz.func264 ?_;intro a z;simp only[Tryz.f264];simp only[ZA,simprocAttr,nbrs.fv,nbrs.rc];exact .inl (wP a)
def Qs0(s:A8)(a:Ab):Prop:=BG s/\Fy s a/\a.Tiles.length<=1000000/\ ∀x∈a.Tiles,GI x.At
def Jb(s:A8)(a:Ab):List D->List Af
 |[.agg [.int .i64 k,.int .i64 m],.int .i64 d]=>if 0<JD s (Gy a k) d (Gy a m) then [⟨k,m,JD s (Gy a k) d (Gy a m)⟩] else []
 |_=>[]
def EX(s:A8)(a:Ab)(i:Nat):List Af:=((C5 a a.Tiles.length).take i).flatMap (Jb s a)
def T4(s:A8)(a:Ab):EX s a (C5 a a.Tiles.length).length=F7 s a a.Tiles.length:=by
 rw[EX,El];have z: ∀k j,(GM a k j).flatMap (Jb s a)=JC s a k j:=by
  intro k j;induction j with
  |zero=>rfl
  |succ j ih=>
   rw[GM,Zeb,ih,JC];congr 1;simp only[WO];split
   .simp only[EQ,ZQ,CC,Jb]
   .rfl
 have G: ∀n,(C5 a n).flatMap (Jb s a)=F7 s a n:=by
  intro n;induction n with
  |zero=>rfl
  |succ n ih=>rw[C5,Zeb,ih,z,F7]
 exact G _
def Qv6(s:A8)(a:Ab){i:Nat}{x:List D}(h:(C5 a a.Tiles.length)[i]? =some x):EX s a (i+1)=EX s a i++Jb s a x:=by
 rw[EX,G9,h,Zeb,EX];simp
def LZ(a:Ab){x:List D}(h:x∈C5 a a.Tiles.length): ∃k m d:Int,x=[.agg [.int .i64 k,.int .i64 m],.int .i64 d]/\0<=k/\k<a.Tiles.length/\0<=m/\m<a.Tiles.length/\0<=d/\d<=1:=by
 have G: ∀(k:Nat) j,j<=2->k<a.Tiles.length->x∈GM a k j-> ∃k m d:Int,x=[.agg [.int .i64 k,.int .i64 m],.int .i64 d]/\0<=k/\k<a.Tiles.length/\0<=m/\m<a.Tiles.length/\0<=d/\d<=1:=by
  intro k j;induction j with
  |zero=>intro _ _ h;simp[GM] at h
  |succ j ih=>
   intro Z Q z;rw[GM,Bp] at z;rcases z with z|z
   .exact ih (by omega) Q z
   .split at z
    .rename_i h0;obtain rfl:=B4.1 z;exact⟨k,Ha a k (1 - j),1 - j,rfl,by omega,by omega,h0,Kq _ _ _,by omega,by omega⟩
    .cases z
 have O: ∀n,n<=a.Tiles.length->x∈C5 a n-> ∃k m d:Int,x=[.agg [.int .i64 k,.int .i64 m],.int .i64 d]/\0<=k/\k<a.Tiles.length/\0<=m/\m<a.Tiles.length/\0<=d/\d<=1:=by
  intro n;induction n with
  |zero=>intro _ h;simp[C5] at h
  |succ n ih=>
   intro hn z;rw[C5,Bp] at z;rcases z with z|z
   .exact ih (by omega) z
   .exact G n 2 (AF _) hn z
 exact O _ (AF _) h
def Tm(a:Ab): ∀n,(C5 a n).length<=2*n:=by
 have z: ∀k j,(GM a k j).length<=j:=by
  intro k j;induction j with
  |zero=>simp[GM]
  |succ j ih=>rw[GM,BQ];split<;>simp<;>omega
 intro n;induction n with
 |zero=>simp[C5]
 |succ n ih=>have:=z n 2;rw[C5,BQ];omega
def T5(s:A8)(a:Ab)(i:Nat):(EX s a i).length<=i:=by
 induction i with
 |zero=>simp[EX]
 |succ i ih=>
  cases h:(C5 a a.Tiles.length)[i]? with
  |none=>
   have:EX s a (i+1)=EX s a i:=by
    have z:=ZeW.1 h;rw[EX,EX,DP (by omega),DP z]
   rw[this];omega
  |some x=>
   rw[Qv6 s a h,BQ]
   have:(Jb s a x).length<=1:=by
    unfold Jb;split
    .split<;>simp
    .simp
   omega
def lO:Df:=Qn [(264,nbrs.row),(164,bond_.row)]
def Of:Jr Tryz.prog lO:=Qv _ (by
 intro p hp;simp only[Bx,Ri,NR] at hp;rcases hp with rfl|rfl
 .exact nbrs.ok
 .exact bond_.ok)
def VM: ∀(H:Ar),(H.all λp=> !p.2.2.isView)=true-> ∀o e,hget H o=some e->e.2.isView=false
 |[],_,o,e,h=>by cases h
 |(n,x)::r,z,o,e,h=>by
  simp only[KP,AO,JP] at z;simp only[hget] at h;cases hq:(n==o)<;>rw[hq] at h
  .exact VM r z.2 o e h
  .simp only[C3,AI] at h;subst h;exact z.1
def tW{P:Program}{V:Df}{C:AT}{N:Nat}(Z:P.follows .mixedOrders=true)(HV:Hi P V){x y:Code}(G:Eg N x=true)(z:Hz x=true){s':Az}{Q:Exit->Act->World->Prop}{s:Az}{a:Act}{w:World}(hc:BL C N s a w)(hk:Dh P V x (BO s') s)(hg:s'.good=true)(O:C.n0<=s'.nx)
 (hn: ∀a w,BL C N s' a w->y.wpIn Fence.wide 0 P Q a w):(x.seq y).wpIn Fence.wide 0 P Q a w:=by
 refine wpIn_seq (wpIn_mono (jW (ro:=none) Z HV x G z _ s a w hk hc) ?_);intro e a' w' hq;cases e<;>simp only[FU] at hq<;>simp only[Exit.then]
 .obtain⟨s1,h1,h2⟩:=hq;exact hn _ _ (lG h2 h1 hg O)
 .obtain⟨_,h,_⟩:=hq;exact h.elim
 .obtain⟨_,h,_⟩:=hq;exact h.elim
def bnds.rc:D->Option (List Af):=Qp Af.d
def bnds.re:(List Af)->D:=λb=>D.sl false 3 (b.map Af.c)
def bnds.rle: ∀d b,bnds.rc d=some b->Le d (bnds.re b):=qN Af.d_le (λ_=>rfl)
def bnds.ar:List PK->Option (A8×Ab):=a2 (kR A8.d) (kR Ab.d)
def bnds.ae(a:A8×Ab):List PK:=[.val (.agg (A8.c a.1)),.val (.agg (Ab.c a.2))]
def bnds.le: ∀z a,bnds.ar z=some a->BM z (bnds.ae a):=(ZW (SH A8.d_le) (SH Ab.d_le))
def bnds.fv(a:A8×Ab):List Af:=(λs a=>F7 s a a.Tiles.length) (a.1) (a.2)
def bnds.row:Ax:=Fv (b2 (qR A8.d_le) (qR Ab.d_le)) (RK.mk bnds.rc bnds.re bnds.rle) (λa=>Qs0 a.1 a.2) bnds.fv
def bnds.q:=CR (R:=bnds.row) rfl
def bnds.ok:AA 227 bnds.row:=by
 refine Quy (by kernel_rfl) bnds.le bnds.rle ?_;intro a ac C S vs RR hW ad aa;refine PF Tryz.func227 rfl (by simp[bnds.ae]) ?_ hW ad aa;clear aa ad hW;intro C0 ao w hw ab hc am;have HV:=eS Of;have an:C0.ds=[]:=by obtain⟨S0,_,h⟩:=hc;rw[<-h.defers];exact am
 simp only[Tryz.f227] at hc⊢;obtain⟨s,A⟩:=a;obtain⟨h1,h2,h3,h4⟩:=ac;simp only at h1 h2 h3 h4;refine tW CS HV (by decide) (by decide) (s':=⟨[(3,.ptr 1 0),(2,.ptr 0 0)],[(0,(true,.cells 38 ((A8.c s).map .im))),(1,(true,.cells 41 ((Ab.c A).map .im)))],2⟩) hc ?_ ?_ (by rw[ab];exact BP _) (λa w hc=> ?_)
 .simp only[lO];simp(disch:=omega)only[ZA,simprocAttr,BO,sub,bnds.ae,CU,CT,BN,entry]
 .simp[ZG,A8.c,Ab.c]
 refine tW CS HV (by decide) (by decide) (s':=⟨[(5,.ptr 2 0),(3,.ptr 1 0),(2,.ptr 0 0)],[(0,(true,.cells 38 ((A8.c s).map .im))),(1,(true,.cells 41 ((Ab.c A).map .im))),(2,(true,.cells 243 [.im (.sl true 0 [])]))],3⟩) hc ?_ ?_ (by rw[ab];exact BP _) (λa w hc=> ?_)
 .simp only[lO];simp(disch:=omega)only[ZA,simprocAttr,BO,sub]
 .simp[ZG,A8.c,Ab.c]
 refine wpIn_seq ?_;refine tW CS HV (by decide) (by decide) (s':=⟨[(10,.im (.fn 294 [] [.ref (Ab.c A)])),(5,.ptr 2 0),(3,.ptr 1 0),(2,.ptr 0 0)],[(0,(true,.cells 38 ((A8.c s).map .im))),(1,(true,.cells 41 ((Ab.c A).map .im))),(2,(true,.cells 243 [.im (.sl true 0 [])]))],3⟩) hc ?_ ?_ (by rw[ab];exact BP _) (λa w hc=> ?_)
 .simp only[lO];simp(disch:=omega)only[ZA,simprocAttr,Ab.d,BO,sub,nbrs.q,nbrs.re,nbrs.fv]
 .simp[ZG,A8.c,Ab.c]
 refine wpIn_block (wpIn_mono (TL CS HV hc (gf:=294) (capt:=[.ref (Ab.c A)]) (xs:=C5 A A.Tiles.length) (KH (by kernel_rfl)) (Tn A h2.1 h3 h4) (by decide) (by decide) (by decide) (by decide) ?_ (by decide)
  (tm0:=[(10,.im (.fn 294 [] [.ref (Ab.c A)])),(5,.ptr 2 0),(3,.ptr 1 0),(2,.ptr 0 0)]) (hs:=λi=>[(0,(true,.cells 38 ((A8.c s).map .im))),(1,(true,.cells 41 ((Ab.c A).map .im))),(2,(true,.cells 243 [.own 3])),(3,(true,.arr 277 3 ((EX s A i).map Af.c)))]) (nx:=4) ⟨[(3,none)],?_⟩ rfl (by simp) ?_ ?_ ?_ ?_) ?_)
 .intro x hx;obtain⟨k,m,d,rfl,_⟩:=LZ A hx;rfl
 .simp only[Ak];simp(disch:=omega)only[ZA,simprocAttr,AL,Bk,EX]
 .simp[CQ,AV.bel]
 .intro i hi;simp[ZG,A8.c,Ab.c]
 .intro i o e he hv;rw[VM _ (by rfl) o e he] at hv;cases hv
 .intro i x hx;have aq:=T5 s A i;have au:=(BJ.1 hx).1;have av:=Tm A A.Tiles.length;obtain⟨k,m,d,rfl,k0,k1,m0,m1,d0,d1⟩:=LZ A (AP hx);have G:=Qv6 s A hx;simp only[Jb] at G;simp only[lO];simp(disch:=omega)only[ZA,simprocAttr,NX,Ue,Fs,bond_.q,bond_.re,bond_.fv,AM];refine⟨k0,k1,λp hp=>⟨m0,m1,λq hq=>⟨⟨h1,h2.2 p (AP hp),⟨d0,by omega⟩,h2.2 q (AP hq)⟩,λhb=>⟨?_,by omega,[(3,some 6)],?_⟩,λhb=>⟨[],?_⟩⟩⟩⟩
  .intro row Q;obtain rfl:=B4.1 Q;rfl
  all_goals
   have e1:Gy A k=p.Tile:=by simp[Gy,hp]
   have e2:Gy A m=q.Tile:=by simp[Gy,hq]
   rw[e1,e2] at G
  .rw[Ai hb] at G;simp only[Ak];simp(disch:=omega)only[ZA,simprocAttr,AL,G];simp[Af.c]
  .rw[Ad hb,CC] at G;simp only[Ak];simp(disch:=omega)only[ZA,simprocAttr,AL,G]
 .intro e a' w' hq;cases e<;>simp only[Y1] at hq;obtain⟨C2,S2,Dk,rfl,hE,O,ht,hd,af,ag,ah,ai,aj⟩:=hq;simp only[Exit.inBlock,Exit.then];have ak:a.defers=[]:=by obtain⟨S0,_,h⟩:=hc;rw[h.defers];exact an
  rw[ak] at hd;have hm: ∀a'':Act,a''.defers=C2.ds->tH C0 C2 a''.defers:=λa'' h=> .inr ⟨Dk,by rw[h,<-hE.defers,hd],af,ag,ah,ai,aj⟩
  refine wpIn_mono (jW (ro:=none) CS HV _ (by decide) (by decide) (ZE Tryz.prog [ResultVar.tmp 4] (Bt bnds.rc (bnds.fv (s,A)))) _ a' S2.w ?_ ⟨S2,rfl,hE⟩) ?_
  .simp only[lO];simp(disch:=omega)only[ZA,simprocAttr,bnds.rc,bnds.fv,T4,Bt];intro row Q;obtain⟨b,_,rfl⟩:=BI.1 Q;rfl
  .intro e a'' w'' hq;cases e<;>simp only[FU] at hq<;>simp only[OY]
   .obtain⟨s',Z,z⟩:=hq;exact⟨s',C2,Z,z,O,hm a'' (by obtain⟨S0,_,h⟩:=z;exact h.defers)⟩
   .obtain⟨s',Z,z⟩:=hq;exact Z.elim
   .obtain⟨s',Z,z⟩:=hq;exact⟨s',C2,Z,z,O,hm a'' (by obtain⟨S0,_,h⟩:=z;exact h.defers)⟩
end Go.Ae
namespace Go.Ae
open Go.Proofs
def KV{n:Nat}{gs:List (List Int)}(z:0<gs.length): ∀(bs:List Af),(∀b∈bs,0<b.Strength/\b.Strength<=4)-> ∀b∈GJ (QU n gs) bs,JX gs.length b
 |[],_,b,h=>by simp[GJ] at h
 |x::r,hs,b,h=>by
  simp only[GJ] at h;have ih:=KV (n:=n) z r (λy hy=>hs y (BZ _ hy)) b;split at h
  .exact ih h
  .rename_i G;rcases Bx.1 h with rfl|h
   .have O:=Qy8 (n:=n) z x.A;have Q:=Qy8 (n:=n) z x.B;have Z:=hs x (Cb ..);exact⟨⟨O.1,O.2,Q.1,Q.2⟩,G,Z.1,Z.2⟩
   .exact ih h
def QS(s:A8)(a:Ab)(t:Int):Bool×Bool:=
 if 64<(Dx a.Tiles.length (F7 s a a.Tiles.length) t).1 then (false,false)
 else (tT (Dx a.Tiles.length (F7 s a a.Tiles.length) t).1 (Dx a.Tiles.length (F7 s a a.Tiles.length) t).2 t,true)
def Qz2(n:Nat)(bs:List Af)(hn:0<n): ∀k,(∀v∈Co n bs k,0<=v)/\(Co n bs k)[0]? =some 0
 |0=>by
  refine⟨λv G=> ?_,yK n 0 hn⟩;obtain⟨i,O⟩:=GV.1 G;have hl:=(BJ.1 O).1;simp only[Co] at O hl;rw[yK n i (by rwa [dX] at hl)] at O
  have:=Aw O
  omega
 |k+1=>by
  obtain⟨Q,h2⟩:=Qz2 n bs hn k;simp only[Co];split
  .rename_i b hb;have z: ∀i:Nat,0<=(Co n bs k)[i]?.getD 0:=by
    intro i;cases h:(Co n bs k)[i]? with
    |none=>simp
    |some v=>exact Q v (AP h)
   have hj: ∀x y v:Int,0<=x->0<=y->0<=v->0<=Jp x y v:=by
    intro x y v z hy G;simp only[Jp];by_cases h:v=DF x y
    .rw[Ai h];simp only[EV];split<;>omega
    .rw[Ad h];exact G
   have Z: ∀x y:Int,0<=x->0<=y->Jp x y 0=0:=by
    intro x y z hy;simp only[Jp];by_cases h:(0:Int)=DF x y
    .rw[Ai h];simp only[DF] at h;simp only[EV];split at h<;>split<;>omega
    .rw[Ad h]
   refine⟨λv G=> ?_,?_⟩
   .obtain⟨u,hu,rfl⟩:=BI.1 G;exact hj _ _ _ (z _) (z _) (Q u hu)
   .rw[sM,Ef,h2,DW,Z _ _ (z _) (z _)]
  .exact⟨Q,h2⟩
def Qab7{n:Nat}{bs:List Af}{t:Int}(hn:0<n):0<(NA n bs t).length:=by
 have h:=(Qz2 n (G0 t bs) hn (G0 t bs).length).2;obtain⟨z,G⟩:=Qo6 (Co n (G0 t bs) (G0 t bs).length) n 0 h n (AF _) hn
 have:(((0:Nat):Int)::z)∈NA n bs t:=by simpa only[NA,Vl,BD] using G
 exact Zel this
def Ll{n:Nat}{bs:List Af}{t:Int}(O: ∀b∈bs,JX n b)(hl:bs.length<=1000000)(Q:(Dx n bs t).1<=64):Me (Dx n bs t):=by
 have Z:=Qpl (QU n (NA n bs t)) bs;by_cases h0:0<(Dx n bs t).1
 .have G:=KV (n:=n) (gs:=NA n bs t) (by simp only[Dx] at h0;omega) bs (λb z=>⟨(O b z).2.2.1,(O b z).2.2.2⟩);refine⟨by omega,Q,by simp only[Dx,BD];omega,λb z=> ?_,λb z=> ?_,λb z=> ?_⟩
  .have:=G b (by simpa only[Dx,BD] using z)
   exact this.1
  .have:=G b (by simpa only[Dx,BD] using z)
   have:=this.2.2
   omega
  .have:=G b (by simpa only[Dx,BD] using z)
   exact this.2.1
 .have hn:bs=[]:=by
   cases bs with
   |nil=>rfl
   |cons b r=>
    exfalso;have h5:=(O b (Cb ..)).1;have h6:=Qab7 (n:=n) (bs:=b::r) (t:=t) (by omega);simp only[Dx] at h0;omega
  subst hn;refine⟨by simp only[Dx];omega,Q,by simp only[Dx,GJ];simp,λb z=> ?_,λb z=> ?_,λb z=> ?_⟩<;>(simp[Dx,GJ] at z)
def stabI.fv(a:A8×Ab×Int):Bool×Bool:=(QS) (a.1) (a.2.1) (a.2.2)
def stabI.row:Ax:=Fv (b3 (qR A8.d_le) (qR Ab.d_le) qI) (r2 rB rB) (λa=>Qs0 a.1 a.2.1/\a.2.1.Tiles.length<=512/\0<=a.2.2/\a.2.2<=1000000) stabI.fv
def stabI.q:=CR (R:=stabI.row) rfl
def stabI.ok:AA 190 stabI.row:=by
 refine HJ (tC bnds.ok (tC contr.ok (tC holds_.ok tN))) Tryz.func190 ?_;intro a z;simp only[Tryz.f190];simp only[ZA,simprocAttr,Ab.d,rch,stabI.fv,bnds.q,bnds.fv,bnds.re,contr.q,contr.fv,holds_.q,holds_.fv,D.sc,D.scs,Bt];obtain⟨s,A,t⟩:=a;obtain⟨G,h2,O,Q⟩:=z;simp only at G h2 O Q⊢;have Z:=Qro G.1 A A.Tiles.length (AF _);have hL:=rE s A A.Tiles.length;refine⟨G,⟨by omega,λb hb=>(Z b hb).1,by omega⟩,?_⟩;split
 .rename_i h;simp only[QS];rw[Ai h]
 .rename_i h;refine⟨⟨Ll Z (by omega) (by omega),O,Q⟩,?_⟩;simp only[QS];rw[Ad h]
def QM(s:A8)(a:Ab)(t:Int):Bool×Int:=
 if (Eu s && FM s a)=false then (false,1)
 else if Bf t 1 16=false then (false,2)
 else if (QS s a t).2=false then (false,4) else ((QS s a t).1,0)
def Qof{s:A8}{a:Ab}(h:(Eu s && FM s a)=true):Qs0 s a/\a.Tiles.length<=512:=by
 rw[AO] at h;have G:=Qge h.1;have z:=Ix h.2;refine⟨⟨G,z.1,by omega,λx O=> ?_⟩,by omega⟩
 have:=(Zs _ _ z.1.1 x O).1
 simp only[Dl,Bf,AO,Bo] at this;refine⟨?_,?_,?_,?_⟩<;>omega
def isStab.fv(a:A8×Ab×Int):Bool×Int:=(QM) (a.1) (a.2.1) (a.2.2)
def isStab.row:Ax:=Fv (b3 (qR A8.d_le) (qR Ab.d_le) qI) (r2 rB rI) (λa=>Zn a.1) isStab.fv
def isStab.q:=CR (R:=isStab.row) rfl
def isStab.ok:AA 144 isStab.row:=by
 refine HJ (tC ValidAssembly_.ok (tC isTemperature.ok (tC stabI.ok tN))) Tryz.func144 ?_;intro a z;simp only[Tryz.f144];simp only[ZA,simprocAttr,Ab.d,rch,isStab.fv,ValidAssembly_.q,ValidAssembly_.fv,isTemperature.q,isTemperature.fv,stabI.q,stabI.fv,D.sc,D.scs,Bt];obtain⟨s,A,t⟩:=a;simp only at z⊢;refine⟨z,?_⟩;split
 .rename_i c1;simp only[QM];rw[Ai c1]
 .rename_i c1;split
  .rename_i G;simp only[QM];rw[Ad c1,Ai G]
  .rename_i G;have Q:=Qof (s:=s) (a:=A) (by simpa using c1);have Z:Bf t 1 16=true:=by simpa using G
   simp only[Bf,AO,Bo] at Z;refine⟨⟨Q.1,Q.2,by omega,by omega⟩,?_⟩;split
   .rename_i O;simp only[QM];rw[Ad c1,Ad G,Ai O]
   .rename_i O;simp only[QM];rw[Ad c1,Ad G,Ad O]
def rU(y:Am):Bool:=if y.Seed.Tiles.length=0 then false else ((QM y.Set y.Seed y.Temperature).1 && decide ((QM y.Set y.Seed y.Temperature).2=0))
def validI_.fv(a:Am):Bool:=(rU) a
def validI_.row:Ax:=Fv (b1 (qR Am.d_le)) rB (λa=>Zn a.Set) validI_.fv
def validI_.q:=CR (R:=validI_.row) rfl
def validI_.ok:AA 96 validI_.row:=by
 refine HJ (tC isStab.ok tN) Tryz.func96 ?_;intro a z;simp only[Tryz.f96];simp only[ZA,simprocAttr,Ab.d,rch,validI_.fv,isStab.q,isStab.fv,D.sc,D.scs,Bt];intro _;by_cases h:a.Seed.Tiles.length=0
 .rw[Ai (by omega)];simp only[rU];rw[Ai h]
 .rw[Ad (by omega)];refine⟨z,?_⟩;simp only[rU];rw[Ad h];split
  .rename_i c;rw[c,F2]
  .rename_i c;rw[JQ] at c;rw[c,Gf]
def Qv9(S:Nat->Bool)(nm:List Int): ∀(bs:List Af),CI S (GJ nm bs)=CI S (Hv nm bs)
 |[]=>rfl
 |b::r=>by
  have ih:=Qv9 S nm r;simp only[GJ,Hv];split
  .exact ih
  .simp only[CI,ih];congr 1;obtain⟨x,hx⟩: ∃x,x=BS nm b.A:=⟨_,rfl⟩;obtain⟨y,hy⟩: ∃y,y=BS nm b.B:=⟨_,rfl⟩;rw[<-hx,<-hy];by_cases h:x<y
   .have G:EV x y=x:=Ai h;have z:DF x y=y:=Ad (by omega);rw[G,z]
   .have G:EV x y=y:=Ad h;by_cases Q:y<x
    .have z:DF x y=x:=Ai Q;rw[G,z];by_cases O:S x.toNat=S y.toNat
     .rw[Ai O,Ai O.symm]
     .rw[Ad O,Ad (E3 O)]
    .have z:DF x y=y:=Ad Q
     have:x=y:=by omega
     rw[G,z,this]
def Qxe(n:Nat)(nm:List Int)(bs:List Af)(t:Int)(k:Nat):WG n (GJ nm bs) t k↔WG n (Hv nm bs) t k:=by
 simp only[WG,Qv9]
def UL{s:A8}{A:Ab}{t:Int}(h:Qs0 s A)(hl:A.Tiles.length<=512)(ht:0<=t):
 (QS s A t).2=decide ((eW s A t).2=0)/\((QS s A t).2=true->(QS s A t).1=(eW s A t).1):=by
 have O:=Qro h.1 A A.Tiles.length (AF _);have hL:=rE s A A.Tiles.length;obtain⟨bs,hbs⟩: ∃bs,bs=F7 s A A.Tiles.length:=⟨_,rfl⟩;obtain⟨n,hn⟩: ∃n,n=A.Tiles.length:=⟨_,rfl⟩;rw[<-hn] at O hL hbs hl;rw[<-hbs] at O hL;have Q:(Dx n bs t).1=(Cp n bs t).1:=rfl;simp only[QS,eW,<-hn,<-hbs,Q];by_cases G:64<(Cp n bs t).1
 .rw[Ai G,Ai G];exact⟨rfl,λh=>by cases h⟩
 .rw[Ad G,Ad G];have z:=Ll (t:=t) O (by omega) (by rw[Q];omega);have hh:=Qtt (n:=(Cp n bs t).1.toNat) (bs:=(Dx n bs t).2) (t:=t) (λb hb=>by
   have:=z.2.2.2.1 b hb
   have h0:=z.1;rw[Q] at this h0;rw[uF h0];exact this) z.2.2.2.2.1 ht
  by_cases h2:(Cp n bs t).1<2
  .rw[Ai h2];refine⟨rfl,λ_=> ?_⟩;simp only[tT];rw[show (Cp n bs t).1.toNat - 1=0 by omega];rfl
  .rw[Ad h2];refine⟨rfl,λ_=> ?_⟩;obtain⟨p1,p2⟩:=MA (t:=t) O (by omega) (by omega) (by omega);have hw:=(Qzk (n:=(Cp n bs t).1) (bs:=(Cp n bs t).2) p1 p2 ht ((Cp n bs t).1 - 1).toNat (by omega) (by omega)).2;have Z:=hh ((Cp n bs t).1.toNat - 1) (by omega);simp only[tT];rw[show ((Cp n bs t).1 - 1).toNat=(Cp n bs t).1.toNat - 1 by omega] at hw⊢;have e:WG (Cp n bs t).1.toNat (Dx n bs t).2 t ((Cp n bs t).1.toNat - 1)↔WG (Cp n bs t).1.toNat (Cp n bs t).2 t ((Cp n bs t).1.toNat - 1):=Qxe _ _ _ _ _;rw[V6,Z,e,<-hw];simp
def PD(y:Am):rU y=Dw y:=by
 simp only[rU,Dw];by_cases h:y.Seed.Tiles.length=0
 .rw[Ai h]
  have:y.Seed.Tiles=[]:=uE h
  simp[this]
 .rw[Ad h];have he:y.Seed.Tiles.isEmpty=false:=by
   rw[ZdV];intro Z;rw[Z] at h;simp at h
  by_cases c1:(Eu y.Set && FM y.Set y.Seed)=false
  .have e:QM y.Set y.Seed y.Temperature=(false,1):=Ai c1;rw[e];rw[Zep] at c1;rcases c1 with c1|c1<;>simp[c1]
  .have z:=c1;rw[I1] at c1;have hp:=Qof (s:=y.Set) (a:=y.Seed) c1;rw[AO] at c1;rw[c1.1,c1.2,he];by_cases G:Bf y.Temperature 1 16=false
   .have e:QM y.Set y.Seed y.Temperature=(false,2):=(Ad z).trans (Ai G);rw[e,G];simp
   .have Q:=G;rw[I1] at G;have ht:0<=y.Temperature:=by simp only[Bf,AO,Bo] at G;omega
    obtain⟨q1,q2⟩:=UL hp.1 hp.2 ht;rw[G];simp only[UK,Xe,F2];by_cases O:(QS y.Set y.Seed y.Temperature).2=false
    .have e:QM y.Set y.Seed y.Temperature=(false,4):=(Ad z).trans ((Ad Q).trans (Ai O));rw[e,<-q1,O];simp
    .have e:QM y.Set y.Seed y.Temperature=((QS y.Set y.Seed y.Temperature).1,0):=(Ad z).trans ((Ad Q).trans (Ad O));rw[I1] at O;rw[e,<-q1,O,q2 O];simp
def Db(s:Am)(a:Ab)(o:Ba):Bool:=Dl o.At && (Bf o.Tile 0 (s.Set.Tiles.length - 1) && (decide (B0 (λx=>decide (x.At=o.At)) 0 a.Tiles<0) && decide (s.Temperature<=Jq s.Set a o.At o.Tile 4)))
def Qws{s:A8}(h:Eu s=true):s.Tiles.length<=160:=by
 simp only[Eu,AO,Bo,Bf] at h;omega
def zK{a:Ab}{p:Ac}(h:B0 (λx=>decide (x.At=p)) 0 a.Tiles<0): ∀x∈a.Tiles,x.At≠p:=by
 intro x O G;rcases Vk (λx=>decide (x.At=p)) a.Tiles 0 with ⟨z,_⟩|⟨i,y,_,Q,_⟩
 .have:=Re.1 z x O
  simp[G] at this
 .omega
def iL{m:Hm}{a:Ab}{o:Ba}(z:Eu m.Big.Set=true)(Q:FM m.Big.Set a=true)(Z:Db m.Big a o=true)(hl:a.Tiles.length<500):FM m.Big.Set (Br a o.At o.Tile)=true:=by
 simp only[Db,AO,Bo] at Z;obtain⟨c1,O,c3,_⟩:=Z;simp only[FM,AO,Bo,DV] at Q⊢;obtain⟨⟨f1,f2⟩,f3⟩:=Q;rw[WE];have hw:Bf o.Tile 0 159=true:=by
  have:=Qws z
  simp only[Bf,AO,Bo] at O⊢;omega
 refine⟨⟨Qki c1 hw _ _ f1 (λ_ h=>by cases h) (zK c3),by simp only[Qkk];omega⟩,λx G=> ?_⟩;rcases (sF o.At o.Tile x a.Tiles).1 G with rfl|G
 .exact O
 .exact f3 x G
end Go.Ae
