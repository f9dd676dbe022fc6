/- Lemmas. Conditions: none. -/
import Derived.Test.YtpdpgenppceapaaGreatP10
import Derived.Sort.LoopGhostIn
set_option linter.all false
set_option maxHeartbeats 8000000
set_option maxRecDepth 100000
namespace Go.Ae
open Go
def It{ι:Type}(J:ι->(Nat->Prop)->World->Prop)(base:Nat)(ok0:Nat->Prop)(N:Nat)(i:ι)(s:A9)(a:Act)(w:World):Prop:=
 ∃C S Pr,S.w=w/\Dq C N s S a/\a.defers=[]/\base<=w.heap.size/\J i Pr w/\(∀b,FD S b->base<=b/\ ¬Pr b)/\(∀b,S.ok b->ok0 b\/ ¬Pr b)
def U8{ι:Type}(J:ι->(Nat->Prop)->World->Prop)(base:Nat)(ok0:Nat->Prop)(N:Nat)(i:ι)(Q:CD):Exit->Act->World->Prop
 | .normal,a,w=> ∃s,Q .normal s/\It J base ok0 N i s a w
 | .exit id,a,w=> ∃s,Q (.exit id) s/\It J base ok0 N i s a w
 | .ret,a,w=> ∃s,Q .ret s/\It J base ok0 N i s a w
 |_,_,_=>False
def NM{ok ok':Nat->Prop}{hp hp':Nat->Option Obj}: ∀(ds:List D) (vs:List Value),ds.all D.scs=true->rdl ok hp ds vs->rdl ok' hp' ds vs
 |[],_,_,hd=>by simpa only[rdl] using hd
 |d::ds,vs,h,hd=>by
  simp only[rdl,RB,AZ] at hd h⊢;obtain⟨v,r,rfl,z,G⟩:=hd;exact⟨v,r,rfl,LN h.1 z,NM ds r h.2 G⟩
section
variable {ι:Type}{P:Program}{V:D6}{N:Nat}{J:ι->(Nat->Prop)->World->Prop}{base:Nat}{ok0:Nat->Prop}{i j:ι}
def UA(hA:Pl base J){s:A9}{a:Act}{w:World}(h:It J base ok0 N i s a w):
 ∃C1,BT C1 N s a w/\ ∀s' a' w',BT C1 N s' a' w'->It J base ok0 N i s' a' w':=by
 obtain⟨C,S,Pr,rfl,hE,hd,hb,hJ,z,Z⟩:=h;obtain⟨O,aa⟩:=hA i Pr _ hJ;refine⟨Hn S s.nx a.defers,⟨S,rfl,bB hE⟩,?_⟩;rintro s' a' w' ⟨S',rfl,G⟩;have hs:S.w.heap.size<=S'.w.heap.size:=G.wf.size;refine⟨_,S',Pr,rfl,G,G.defers.trans hd,DO hb hs,aa _ hs G.wf.os G.wf.tape G.wf.output ?_,λb h=> ?_,λb h=> ?_⟩
 .rintro b (h|h)
  .exact dC G.wf b (O b h) (λQ=>(z b Q).2 h)
  .exact dC G.wf b (by omega) (λQ=>by have:=(z b Q).1;omega)
 .rcases qG G.wf h with q|q
  .exact⟨DO hb q,λhp=>by have:=O b hp;omega⟩
  .exact z b q
 .rcases dT G.wf h with q|q|q
  .exact Z b q
  .exact .inr λhp=>by have:=O b hp;omega
  .exact .inr (z b q).2
def BS(s':A9):CD
 | .normal,s=>sub s s'
 | .exit _,_=>False
 | .ret,_=>False
def JF(s':A9)(p q:Prop)(id:Nat):CD
 | .normal,s=>p/\sub s s'
 | .exit k,s=>k=id/\q/\sub s s'
 | .ret,_=>False
def Qy6(HM:P.follows .mixedOrders=true)(HV:HU P V)(hA:Pl base J){c:Code}(hc:E8 N c=true)(G:I0 c=true){Q:CD}{s:A9}{a:Act}{w:World}(hk:D7 P V c Q s)(h:It J base ok0 N i s a w):
 c.wpIn Fence.wide 0 P (U8 J base ok0 N i Q) a w:=by
 obtain⟨C1,aa,z⟩:=UA hA h;refine wpIn_mono (pR (ro:=none) HM HV c hc G Q s a w hk aa) ?_;intro e a' w' hq;cases e<;>simp only[GJ] at hq<;>simp only[U8]
 .obtain⟨s',O,Z⟩:=hq;exact⟨s',O,z _ _ _ Z⟩
 .obtain⟨s',O,Z⟩:=hq;exact⟨s',O,z _ _ _ Z⟩
 .obtain⟨s',O,Z⟩:=hq;exact⟨s',O,z _ _ _ Z⟩
def G8{s s':A9}{a:Act}{w:World}(h:It J base ok0 N i s a w)(hs:sub s s')(hg:s'.good=true)(hA:Pl base J):It J base ok0 N i s' a w:=by
 obtain⟨C,S,Pr,rfl,hE,hd,hb,hJ,z,Z⟩:=h;have hm:SD S S.w:=⟨AW _,rfl,rfl,rfl,λ_ _=>rfl,λ_ _=>rfl⟩;have O:Dq (Hn S 0 a.defers) N s S a:=zL hE hm 0 (Cx _) a a.defers rfl rfl;obtain⟨G,aa⟩:=hA i Pr _ hJ;obtain⟨S',hw,Q⟩:=qM ⟨S,rfl,O⟩ hs hg (Cx _);refine⟨_,S',Pr,hw,Q,hd,hb,hJ,λb h=> ?_,λb h=> ?_⟩
 .rcases qG Q.wf h with q|q
  .exact⟨DO hb q,λhp=>by have:=G b hp;omega⟩
  .exact z b q
 .rcases dT Q.wf h with q|q|q
  .exact Z b q
  .exact .inr λhp=>by have:=G b hp;omega
  .exact .inr (z b q).2
def Mm(Z:P.follows .mixedOrders=true)(HV:HU P V)(hA:Pl base J){x y:Code}(hc:E8 N x=true)(z:I0 x=true){Qx:CD}{Q:Exit->Act->World->Prop}{s:A9}{a:Act}{w:World}(h:It J base ok0 N i s a w)(hk:D7 P V x Qx s)
 (hn: ∀s a w,Qx .normal s->It J base ok0 N i s a w->y.wpIn Fence.wide 0 P Q a w)(he: ∀id s a w,Qx (.exit id) s->It J base ok0 N i s a w->Q (.exit id) a w)(hr: ∀s a w,Qx .ret s->It J base ok0 N i s a w->Q .ret a w):(x.seq y).wpIn Fence.wide 0 P Q a w:=by
 refine wpIn_seq (wpIn_mono (Qy6 Z HV hA hc z hk h) ?_);intro e a' w' hq;cases e<;>simp only[U8] at hq<;>simp only[Exit.then]
 .obtain⟨s',G,O⟩:=hq;exact hn s' _ _ G O
 .obtain⟨s',G,O⟩:=hq;exact he _ s' _ _ G O
 .obtain⟨s',G,O⟩:=hq;exact hr s' _ _ G O
def zP(Z:P.follows .mixedOrders=true)(HV:HU P V)(hA:Pl base J){x:Code}(hc:E8 N x=true)(z:I0 x=true){Qx:CD}{Q:Exit->Act->World->Prop}{s:A9}{a:Act}{w:World}(h:It J base ok0 N i s a w)(hk:D7 P V x Qx s)
 (hn: ∀s a w,Qx .normal s->It J base ok0 N i s a w->Q .normal a w)(he: ∀id s a w,Qx (.exit id) s->It J base ok0 N i s a w->Q (.exit id) a w)(hr: ∀s a w,Qx .ret s->It J base ok0 N i s a w->Q .ret a w):x.wpIn Fence.wide 0 P Q a w:=by
 refine wpIn_mono (Qy6 Z HV hA hc z hk h) ?_;intro e a' w' hq;cases e<;>simp only[U8] at hq
 .obtain⟨s',G,O⟩:=hq;exact hn s' _ _ G O
 .obtain⟨s',G,O⟩:=hq;exact he _ s' _ _ G O
 .obtain⟨s',G,O⟩:=hq;exact hr s' _ _ G O
def Yl(HV:HU P V)(hA:Pl base J){ops:Array Oper}{seg more:List Oper}{i0:Nat}(O:ops.toList.drop i0=seg++more)(hd:K2 N seg=true)(G:YD ops=true){K:A9->Prop}{Q:Exit->Act->World->Prop}{l2:List Nat}{s:A9}{a:Act}{w:World}
 (hk:LP P V (Ha ops seg) K s)(h:It J base ok0 N i s a w)(hK: ∀s a w,K s->It J base ok0 N i s a w->wpOpsIn Fence.wide 0 P ops Q l2 a w):wpOpsIn Fence.wide 0 P ops Q (List.range' i0 seg.length++l2) a w:=by
 obtain⟨C1,aa,z⟩:=UA hA h;exact Qha (ro:=none) G (K:=λa w=> ∃s,K s/\It J base ok0 N i s a w) (λa w ⟨s,Z,h2⟩=>hK s a w Z h2) _ _ _
  (Qpr HV (Q:=λ_ a w=> ∃s,K s/\It J base ok0 N i s a w) (λs a w Z h2=>⟨s,Z,z _ _ _ h2⟩) seg more i0 O hd s a w hk aa)
def T7{C:Bj}{s:A9}{S:A7}{a:Act}(z:Dq C N s S a){dst:Option Nat}(hd: ∀d,dst=some d->d<N){x:AV}{v:Value}(hx:x.nms=[])(Z:Aa S x v):Dq C N (s.put dst x) S (a.put dst v):=by
 have O:(s.put dst x).h=s.h:=by cases dst<;>rfl
 have G:(s.put dst x).nx=s.nx:=by cases dst<;>rfl
 refine⟨z.wf,λn=>by rw[O];exact z.h n,?_,?_,?_,?_,?_,by rw[G];exact z.n0,z.pre⟩
 .intro t;rw[WX,Qfo (λd h=>by rw[z.size];exact hd d h)];split
  .exact Z
  .exact z.tm t
 .intro t;rw[WX,G];split
  .intro m Q;rw[hx] at Q;cases Q
  .exact z.nmT t
 .rw[O,G];exact z.nmH
 .cases dst<;>simp[Act.put,z.size]
 .cases dst<;>simp[Act.put,z.defers]
def vX(hA:Pl base J){ai:ι->List D->ι->Prop}{l:Nat}(hY: ∀i x j Z Pr W,ai i x j->(∀ok hp,rdl ok hp x Z.toList)->J i Pr W->YieldAt Fence.wide 0 P l Z W λe W'=>e= .returned (.bool true)/\ ∃Pr',J j Pr' W'/\Ji ok0 Pr W Pr' W')
 {ops:Array Oper}{k:Nat}{rest:List Nat}{o:Oper}{c:Call}{f:Operand}{x:List D}{s:A9}{a:Act}{w:World}{Q:Exit->Act->World->Prop}(ho:ops[k]? =some o)(hw:Region.wanted o (yielded ops a.tmps)=true)(au:o.op= .call c)(af:c.callee= .value f)
 (hf:Aw s.tm f= .im (.fn (1000000000+l) [] []))(ab:Ec s.tm c.args.toList=x.map .im)(aw:x.all D.scs=true)(hx:ai i x j)(aq: ∀n e,hget s.h n=some e->e.2.isView=false)(hd: ∀d,o.dst=some d->d<N)(h:It J base ok0 N i s a w)
 (ac: ∀a' w',It J base ok0 N j (s.put o.dst (.im (.bool true))) a' w'->wpOpsIn Fence.wide 0 P ops Q rest a' w'):wpOpsIn Fence.wide 0 P ops Q (k::rest) a w:=by
 obtain⟨C,S,Pr,rfl,O,ag,hb,hJ,aa,ad⟩:=h;obtain⟨ax,_⟩:=hA i Pr _ hJ;have ao:a.eval f= .func (.yield l) #[] #[]:=by
  have h1:=Sv O f;rw[hf] at h1;simp only[Aa,rd,rdl] at h1;obtain⟨A,B,h2,h3,h4⟩:=h1;have e1:A= #[]:=by simpa using h3
  have e2:B= #[]:=by simpa using h4
  rw[h2,e1,e2];congr 1;unfold Xz;rw[Ad (by omega),rJ]
 have an:AY S (x.map .im) (c.args.map a.eval).toList:=by
  rw[<-ab,Xv];exact Qpe _ (λy _=>Sv O y)
 have av: ∀ok hp,rdl ok hp x (c.args.map a.eval).toList:=λok hp=>by
  have h1:=(Jj _ _).1 an;exact NM _ _ aw h1
 obtain⟨fn,aj,ak,bo,hy,hR⟩:=hY i x j (c.args.map a.eval) Pr S.w hx av hJ;simp only[wpOpsIn,ho,hw,Bt];refine⟨λ_ _=>trivial,?_⟩;have ah:(o.semAt Fence.wide.round a.eval).run P S.w= .ok (.round l fn aj ak bo) S.w:=by
  show (execOp a.eval o).run P S.w=_;simp only[execOp,au,resolve,af,ao,Sem.run_bind];simp[Deferred.ofValue,invoke,hy]
 rw[ah,Oper.uponIn_round];refine⟨λh=>(by cases h),RoundIn.mono hR ?_⟩;rintro e W' ⟨rfl,Pr',am,G⟩;have hm:SD S W':=by
  refine⟨G.size,G.os,G.tape,G.output,λb z=> ?_,?_⟩
  .rcases ad b z with q|q
   .exact G.same b (O.wf.oks b z) (.inr q)
   .exact G.same b (O.wf.oks b z) (.inl q)
  .rintro b ⟨o',e,lc,q1,q2,rfl⟩;have hl:=O.wf.loc o' e lc q1 q2;cases hmu:e.1 with
   |true=>exact G.same _ hl.1 (.inl (aa _ ⟨o',e,lc,q1,hmu,q2,rfl⟩).2)
   |false=>
    have h5:=hl.2;rw[hmu] at h5;simp only[Dx,CY] at h5;rcases h5 with h5|h5
    .rcases ad _ h5 with q|q
     .exact G.same _ hl.1 (.inr q)
     .exact G.same _ hl.1 (.inl q)
    .rw[aq o' e (by rw[<-O.h o'];exact q1)] at h5;cases h5
 refine ac _ _ ⟨_,{S with w:=W'},Pr',rfl,T7 (zL O hm 0 (Cx _) a [] ag rfl) hd rfl (by simp only[Aa,rd]),?_,DO hb G.size,am,λb z=> ?_,λb z=> ?_⟩
 .cases o.dst<;>exact ag
 .have q:=aa b z;have q2:=(YB O.wf z).1;refine⟨q.1,λhp=> ?_⟩;rcases G.pr b hp with r|r
  .exact q.2 r
  .omega
 .rcases ad b z with q|q
  .exact .inl q
  .refine .inr λhp=> ?_
   have q2:=O.wf.oks b z;rcases G.pr b hp with r|r
   .exact q r
   .omega
def ZU(HV:HU P V)(Z:Pl base J){ac:ι->List D->ι->Prop}{l:Nat}(hY: ∀i x j G Pr W,ac i x j->(∀ok hp,rdl ok hp x G.toList)->J i Pr W->YieldAt Fence.wide 0 P l G W λe W'=>e= .returned (.bool true)/\ ∃Pr',J j Pr' W'/\Ji ok0 Pr W Pr' W')
 {id:Nat}{ops:Array Oper}(k1:Nat)(av:List.range ops.size=List.range' 0 (ops.toList.take k1).length++(k1::(List.range' (k1+1) (ops.toList.drop (k1+1)).length++[])))(ad:K2 N (ops.toList.take k1)=true)(af:K2 N (ops.toList.drop (k1+1))=true)(z:YD ops=true)
 {o:Oper}{c:Call}{f:Operand}{x:List D}(s1:A9){s s2:A9}{a:Act}{w:World}{Q:Exit->Act->World->Prop}{g t:Nat}(ho:ops[k1]? =some o)(aq:o.op= .call c)(aa:c.callee= .value f)(aj:o.guard=some (g,true))(ak:(ops[g]?).bind (·.dst)=some t)(ai:AC s1.tm t= .im (.bool true))
 (hf:Aw s1.tm f= .im (.fn (1000000000+l) [] []))(O:Ec s1.tm c.args.toList=x.map .im)(au:x.all D.scs=true)(hx:ac i x j)(ao: ∀n e,hget s1.h n=some e->e.2.isView=false)(hd: ∀d,o.dst=some d->d<N)(ag:s1.good=true)(ah:s2.good=true)
 (h:It J base ok0 N i s a w)(am:LP P V (Ha ops (ops.toList.take k1)) (λs=>sub s s1) s)(an:LP P V (Ha ops (ops.toList.drop (k1+1))) (λs=>sub s s2) (s1.put o.dst (.im (.bool true))))
 (ab: ∀a w,It J base ok0 N j s2 a w->Q .normal a w):(Code.region id ops false).wpIn Fence.wide 0 P Q a w:=by
 refine wpIn_region ?_;rw[av];refine Yl HV Z (seg:=ops.toList.take k1) (more:=ops.toList.drop k1) (by rw[Jc,Ze]) ad z am h (λs a w h1 h2=> ?_);have h3:=G8 h2 h1 ag Z;have hw:Region.wanted o (yielded ops a.tmps)=true:=by
  obtain⟨C,S,Pr,_,hE,_⟩:=h3;have hy:=Qqk hE ak ai;simp[Region.wanted,aj,hy]
 refine vX Z hY ho hw aq aa hf O au hx ao hd h3 (λa w h4=> ?_);refine Yl HV Z (seg:=ops.toList.drop (k1+1)) (more:=[]) (by rw[CQ]) af z an h4 (λs a w h5 h6=> ?_);exact ab a w (G8 h6 h5 ah Z)
end
def U9{P:Program}{gf:Nat}{fn:Func}{c:Code}(hf:P.funcs[gf]? =some fn)(Q:fn.body=some c)(aa:fn.results.toList=[]){capt:List D}{X:sV}(ag:capt.length+1<=fn.ntmps)
 (hk: ∀(l:Nat) (J:X.I->(Nat->Prop)->World->Prop) (base:Nat) (ok0:Nat->Prop),Pl base J->
  (∀i x j O Pr W,X.step i x j->(∀ok hp,rdl ok hp x O.toList)->J i Pr W->YieldAt Fence.wide 0 P l O W λe W'=>e= .returned (.bool true)/\ ∃Pr',J j Pr' W'/\Ji ok0 Pr W Pr' W')->
  ∀a w,It J base ok0 fn.ntmps X.i0 ⟨entry 0 (.im (.fn (1000000000+l) [] [])::capt.map .im),[],0⟩ a w->c.wpIn Fence.wide 0 P (λe a w=> ∃i,X.fin i/\U8 J base ok0 fn.ntmps i (λe _=>e= .normal\/e= .ret) e a w) a w):Mb P gf capt X:=by
 intro C S vs l J hW Z hA hY ⟨Pr,hJ⟩;refine callsIn_wide.1 (callsIn_of_wp_marks (n:=0) hf Q trivial (wpIn_mono (hk l J S.w.heap.size S.ok hA hY _ _ ?_) ?_))
 .let C0:Bj:=⟨S.w,λ_=>False,S.ok,0,λ_=>none,λ_=>none,[]⟩
  let S0:A7:=⟨λ_=>none,S.ok,λ_=>none,S.w⟩
  have ad:Wf C0 S0:=⟨rfl,rfl,rfl,AW _,λ_ _ _=>rfl,λ_ Q=>Q,λ_ Q=> .inl Q,hW.oks,λo e G=>(by cases G),λo e l G=>(by cases G),λo o' e e' l l' G=>(by cases G),hW.glN λ_ h=>h.elim⟩;have z:AY S0 (.im (.fn (1000000000+l) [] [])::capt.map .im) (#[Value.func (.yield l) #[] #[]]++vs).toList:=by
   rw[Zes];refine⟨_,_,rfl,?_,(Jj _ _).2 Z⟩;simp only[Aa,rd,rdl];refine⟨#[],#[],?_,rfl,rfl⟩;unfold Xz;rw[Ad (by omega),rJ]
  have af:(#[Value.func (.yield l) #[] #[]]++vs).size=capt.length+1:=by
   have:=Jq _ _ z
   simp at this⊢;omega
  obtain⟨As,hAs⟩: ∃As,As= #[Value.func (.yield l) #[] #[]]++vs:=⟨_,rfl⟩;rw[<-hAs] at z af⊢;refine⟨C0,S0,Pr,rfl,⟨ad,λn=>rfl,?_,?_,?_,?_,rfl,Cx _,λo ho=>absurd ho (ZdZ _)⟩,rfl,AW _,hJ,λb ⟨o,e,lc,h1,_⟩=>(by cases h1),λb Q=> .inl Q⟩
  .intro t;have h1:=pN (S:=S0) _ As.toList 0 t z;simp only[Cx,Bt,mD] at h1
   have:({tmps:=As++Array.replicate (fn.ntmps - As.size) undef,defers:=[]}:Act).eval (.tmp t)=(As.toList[t]?).getD undef:=by
    simp only[Act.eval,I2,Zdn,lZ];by_cases ht:t<As.size
    .simp[ht]
    .simp only[ht,CY]
     have:As[t]? =none:=Zd (by omega)
     simp only[GF,this]
     split<;>rfl
   rw[this];exact h1
  .intro t m hm
   have:=pU _ 0 t m hm
   simp only[AE,AV.nms,Fs] at this;have h0: ∀(q:List D),AE (q.map .im)=[]:=by
    intro q;induction q with
    |nil=>rfl
    |cons d r ih=>simp only[Bm,AE,AV.nms,ih,CQ]
   rw[h0] at this;cases this
  .intro n e G;cases G
  .simp;omega
 .intro e a w G;obtain⟨i,hi,G⟩:=G;have fin:(∃s,It J S.w.heap.size S.ok fn.ntmps i s a w)->LeavesInM Fence.wide 0 P fn a.tmps (λe W'=> ∃v Pr i,e= .returned v/\X.fin i/\J i Pr W') a.defers .returning w:=by
   rintro⟨s,C1,S1,Pr1,rfl,hE,hd,_,ac,_,_⟩;rw[hd];simp only[LeavesInM,LeavesIn];obtain⟨v,ab,_⟩:=xE (P:=P) hE (fn:=fn) (xs:=[]) (by rw[aa];rfl);exact⟨v,ab,v,Pr1,i,rfl,hi,ac⟩
  cases e<;>simp only[U8] at G<;>simp only[bodyPostM]
  .obtain⟨s,_,h⟩:=G;exact fin ⟨s,h⟩
  .obtain⟨s,h,_⟩:=G;rcases h with h|h<;>cases h
  .obtain⟨s,_,h⟩:=G;exact fin ⟨s,h⟩
def it_fn{P:Program}{gf:Nat}{fn:Func}{c:Code}(hf:P.funcs[gf]? =some fn)(hb:fn.body=some c)(O:fn.results.toList=[]){capt:List D}{xs:List (List D)}(G:capt.length+1<=fn.ntmps)
 (hk: ∀(l:Nat) (J:Nat->(Nat->Prop)->World->Prop) (base:Nat) (ok0:Nat->Prop),Pl base J->
  (∀i x j z Pr W,(xs[i]? =some x/\j=i+1)->(∀ok hp,rdl ok hp x z.toList)->J i Pr W->YieldAt Fence.wide 0 P l z W λe W'=>e= .returned (.bool true)/\ ∃Pr',J j Pr' W'/\Ji ok0 Pr W Pr' W')->
  ∀a w,It J base ok0 fn.ntmps 0 ⟨entry 0 (.im (.fn (1000000000+l) [] [])::capt.map .im),[],0⟩ a w->c.wpIn Fence.wide 0 P (U8 J base ok0 fn.ntmps xs.length (λe _=>e= .normal\/e= .ret)) a w):KG P gf capt xs:=
 U9 (X:=nJ xs) hf hb O G λl J base ok0 Z hY a w Q=>wpIn_mono (hk l J base ok0 Z hY a w Q) λ_ _ _ h=>⟨xs.length,rfl,h⟩
end Go.Ae
namespace Go.Ae
open Go Go.Proofs
def zU:D6:=RP [(114,step_.row),(250,placeAt.row)]
def Qh:K1 Tryz.prog zU:=Sa _ (by
 intro p hp;simp only[BO,Za,eW] at hp;rcases hp with rfl|rfl
 .exact step_.ok
 .exact placeAt.ok)
def HI(a:Al)(k:Nat):Nat->List (List D)
 |0=>[]
 |j+1=>HI a k j++if 0<=HR a k (1 - j) then [[.agg [.int .i64 k,.int .i64 (HR a k (1 - j))],.int .i64 (1 - j)]] else []
def CM(a:Al):Nat->List (List D)
 |0=>[]
 |k+1=>CM a k++HI a k 2
def Qzu(a:Al): ∀(n k:Nat),k<=n-> ∃r,CM a n=CM a k++r
 |0,k,h=>⟨[],by obtain rfl:k=0:=by omega
                rw[CQ]⟩
 |n+1,k,h=>by
  by_cases z:k=n+1
  .subst z;exact⟨[],by rw[CQ]⟩
  .obtain⟨r,G⟩:=Qzu a n k (by omega);exact⟨r++HI a n 2,by rw[CM,G,HY]⟩
def Qv3(a:Al)(k:Nat): ∀(n j:Nat),j<=n-> ∃r,HI a k n=HI a k j++r
 |0,j,h=>⟨[],by obtain rfl:j=0:=by omega
                rw[CQ]⟩
 |n+1,j,h=>by
  by_cases z:j=n+1
  .subst z;exact⟨[],by rw[CQ]⟩
  .obtain⟨r,G⟩:=Qv3 a k n j (by omega);rw[HI,G];exact⟨_,by rw[HY]⟩
def aK(a:Al){n k j:Nat}(O:k<n)(Q:j<2)(h:0<=HR a k (1 - j)):(CM a n)[(CM a k).length+(HI a k j).length]? =some [.agg [.int .i64 k,.int .i64 (HR a k (1 - j))],.int .i64 (1 - j)]:=by
 obtain⟨Z,z⟩:=Qzu a n (k+1) O;obtain⟨r2,G⟩:=Qv3 a k 2 (j+1) (by omega);rw[z,CM,G,HI,Ak h,HY,HY,HY,Fe (Nat.le_add_right _ _),rJ,Fe (AW _),I6];rfl
def JV(l:Nat)(A:Al)(k:Nat):A9:=⟨[(11,.im (.int .i64 k)),(10,.im (.int .i64 A.Tiles.length)),(9,.im (.sl false 3 (A.Tiles.map Ar.c))),(1,.im (.ref (Al.c A))),(0,.im (.fn (1000000000+l) [] []))],[],0⟩
def DH(l:Nat)(A:Al)(k:Nat)(p:Ar)(j:Nat):A9:=⟨[(18,.im (.int .i64 j)),(17,.im (.int .i64 2)),(16,.own 1),(4,.ptr 0 0),(3,.im (.int .i64 k)),(11,.im (.int .i64 k)),(10,.im (.int .i64 A.Tiles.length)),(9,.im (.sl false 3 (A.Tiles.map Ar.c))),(1,.im (.ref (Al.c A))),(0,.im (.fn (1000000000+l) [] []))],
 [(0,(true,.cells 136 [.im (.int .i64 p.At.X),.im (.int .i64 p.At.Y),.im (.int .i64 p.Tile)])),(1,(true,.arr 2 1 (([1,0]:List Int).map Af)))],2⟩
def Vm(A:Al)(hA:Dw none A.Tiles=true)(hl:A.Tiles.length<=1000000)(hS: ∀x∈A.Tiles,GZ x.At):KG Tryz.prog 249 [.ref (Al.c A)] (CM A A.Tiles.length):=by
 refine it_fn Tryz.func249 rfl rfl (by simp) ?_;intro l J base ok0 z hY a w ad;have HV:=lG Qh;obtain⟨R,hR⟩: ∃R,R=U8 J base ok0 Tryz.f249.ntmps (CM A A.Tiles.length).length (λe _=>e= .normal\/e= .ret):=⟨_,rfl⟩;rw[<-hR];simp only[Tryz.f249,Option.getD] at ad⊢;refine Mm DJ HV z (by decide) (by decide) ad (Qx:=BS (JV l A 0)) ?_ (λs a w G O=> ?_) (λ_ _ _ _ h=>h.elim) (λ_ _ _ h=>h.elim)
 .simp only[ZZ,simprocAttr,Ab,BS,JV,entry,Al.c,sub];exact λ_=>trivial
 have Z:=G8 O G (by simp[JV,ZG]) z;clear G O ad;refine wpIn_block (wpIn_loop_ghost (λm a w=> ∃k,k<=A.Tiles.length/\m=A.Tiles.length - k/\It J base ok0 41 (CM A k).length (JV l A k) a w) A.Tiles.length ⟨0,Cx _,rfl,Z⟩ ?_);clear Z;rintro m a w ⟨k,hk,hm,h⟩;refine Mm DJ HV z (by decide) (by decide) h (Qx:=BS ⟨(12,.im (.bool (decide (k<A.Tiles.length))))::(JV l A k).tm,[],0⟩) ?_ (λs a w G O=> ?_) (λ_ _ _ _ h=>h.elim) (λ_ _ _ h=>h.elim)
 .simp only[ZZ,simprocAttr,Ab,BS,JV,sub]
 have Z:=G8 O G (by simp[JV,ZG]) z;clear G O h;refine Mm DJ HV z (by decide) (by decide) Z (Qx:=JF (JV l A k) (k<A.Tiles.length) (¬k<A.Tiles.length) 0) ?_ (λs a w G O=> ?_) (λid s a w G O=> ?_) (λ_ _ _ h=>h.elim)
 .simp only[ZZ,simprocAttr,Ab,JF,JV,sub]
  split<;>assumption
 rotate_left
 .obtain⟨rfl,h4,G⟩:=G;have ah:k=A.Tiles.length:=by omega
  subst ah;simp only[Exit.then,Exit.inBlock,Bt,hR,U8];exact⟨s,.inl trivial,O⟩
 obtain⟨af,G⟩:=G;have h:=G8 O G (by simp[JV,ZG]) z;clear G O Z;obtain⟨p,hp⟩: ∃p,A.Tiles[k]? =some p:=⟨_,Bk af⟩;refine wpIn_seq (wpIn_block ?_);refine Mm DJ HV z (by decide) (by decide) h (Qx:=BS ⟨(4,.ptr 0 0)::(3,.im (.int .i64 k))::(JV l A k).tm,[(0,(true,.cells 136 [.im (.int .i64 p.At.X),.im (.int .i64 p.At.Y),.im (.int .i64 p.Tile)]))],1⟩) ?_ (λs a w G O=> ?_) (λ_ _ _ _ h=>h.elim) (λ_ _ _ h=>h.elim)
 .simp only[ZZ,simprocAttr,Ab,BS,JV,sub];refine⟨af,λq hq=> ?_⟩;rw[hp] at hq;obtain rfl:=A8 hq;exact⟨rfl,rfl,rfl⟩
 have Z:=G8 O G (by simp[JV,ZG]) z;clear G O h;refine Mm DJ HV z (by decide) (by decide) Z (Qx:=BS (DH l A k p 0)) ?_ (λs a w G O=> ?_) (λ_ _ _ _ h=>h.elim) (λ_ _ _ h=>h.elim)
 .simp only[ZZ,simprocAttr,Ab,BS,JV,DH,sub]
 have h:=G8 O G (by simp[DH,ZG]) z;clear G O Z;refine wpIn_block (wpIn_loop_ghost (λm a w=> ∃j,j<=2/\m=2 - j/\It J base ok0 41 ((CM A k).length+(HI A k j).length) (DH l A k p j) a w) 2 ⟨0,Cx _,rfl,h⟩ ?_);clear h;rintro m2 a w ⟨j,hj,aj,h⟩;refine Mm DJ HV z (by decide) (by decide) h (Qx:=BS ⟨(19,.im (.bool (decide (j<2))))::(DH l A k p j).tm,(DH l A k p j).h,2⟩) ?_ (λs a w G O=> ?_) (λ_ _ _ _ h=>h.elim) (λ_ _ _ h=>h.elim)
 .simp only[ZZ,simprocAttr,Ab,BS,DH,sub];rw[ZeX];omega
 have Z:=G8 O G (by simp[DH,ZG]) z;clear G O h;refine Mm DJ HV z (by decide) (by decide) Z (Qx:=JF (DH l A k p j) (j<2) (¬j<2) 2) ?_ (λs a w G O=> ?_) (λid s a w G O=> ?_) (λ_ _ _ h=>h.elim)
 .simp only[ZZ,simprocAttr,Ab,JF,DH,sub]
  split<;>assumption
 rotate_left
 .obtain⟨rfl,h4,G⟩:=G;have ac:j=2:=by omega
  subst ac;have h5:=G8 O G (by simp[DH,ZG]) z;simp only[Exit.then,Exit.inBlock,Bt];refine zP DJ HV z (by decide) (by decide) h5 (Qx:=BS (JV l A (k+1))) ?_ (λs a w G O=> ?_) (λ_ _ _ _ h=>h.elim) (λ_ _ _ h=>h.elim)
  .simp only[ZZ,simprocAttr,Ab,BS,DH,JV,sub];rw[AF (by omega) (by omega)];omega
  have h6:=G8 O G (by simp[JV,ZG]) z;refine⟨A.Tiles.length - (k+1),by omega,k+1,by omega,rfl,?_⟩;rw[CM,CS];exact h6
 obtain⟨ac,G⟩:=G;have h:=G8 O G (by simp[DH,ZG]) z;clear G O Z;refine wpIn_seq (wpIn_block ?_);refine Mm DJ HV z (by decide) (by decide) h (Qx:=BS ⟨(6,.im (.int .i64 (1 - (j:Int))))::(DH l A k p j).tm,(DH l A k p j).h,2⟩) ?_ (λs a w G O=> ?_) (λ_ _ _ _ h=>h.elim) (λ_ _ _ h=>h.elim)
 .simp only[ZZ,simprocAttr,Ab,BS,DH,sub];refine⟨by omega,ac,λrow aa=> ?_⟩;rcases (show j=0\/j=1 by omega) with rfl|rfl
  .simp only[Gw,AP] at aa;subst aa;simp only[ZZ,simprocAttr,Ab,BS,DH,sub]
   try rfl
  .simp only[GD,Gw,AP] at aa;subst aa;simp only[ZZ,simprocAttr,Ab,BS,DH,sub]
   try rfl
 have Z:=G8 O G (by simp[DH,ZG]) z;clear G O h;refine Mm DJ HV z (by decide) (by decide) Z (Qx:=BS ⟨(7,.im (.int .i64 (HR A k (1 - (j:Int)))))::(6,.im (.int .i64 (1 - (j:Int))))::(DH l A k p j).tm,(DH l A k p j).h,2⟩) ?_ (λs a w G O=> ?_) (λ_ _ _ _ h=>h.elim) (λ_ _ _ h=>h.elim)
 .simp only[zU];simp only[ZZ,simprocAttr,Ab,BS,DH,sub,step_.q,step_.ar,step_.re,step_.fv,placeAt.q,placeAt.ar,placeAt.re,placeAt.fv];refine⟨⟨hS p (Bd hp),by omega,by omega⟩,hA,?_⟩;simp only[HR,B1,hp,CR,AJ]
 have h:=G8 O G (by simp[DH,ZG]) z;clear G O Z;obtain⟨nb,hnb⟩: ∃nb,nb=HR A k (1 - (j:Int)):=⟨_,rfl⟩;rw[<-hnb] at h;have ab:HI A k (j+1)=HI A k j++if 0<=nb then [[.agg [.int .i64 k,.int .i64 nb],.int .i64 (1 - (j:Int))]] else []:=by rw[HI,<-hnb]
 refine wpIn_seq (wpIn_mono (Q:=λe a w=>e= .normal/\It J base ok0 41 ((CM A k).length+(HI A k (j+1)).length) ⟨(38,.im (.bool false))::(DH l A k p j).tm,(DH l A k p j).h,2⟩ a w) ?_ ?_)
 .by_cases hn:0<=nb
  .rw[Ak hn] at ab;have hx:=aK A (n:=A.Tiles.length) af ac (by rw[<-hnb];exact hn);rw[<-hnb] at hx;refine ZU HV z hY 8 rfl (by decide) (by decide) (by decide) (s1:=⟨(30,.im (.bool true))::(31,.im (.fn (1000000000+l) [] []))::(34,.im (.agg [.int .i64 k,.int .i64 nb]))::(35,.im (.int .i64 (1 - (j:Int))))::(DH l A k p j).tm,(DH l A k p j).h,2⟩) rfl rfl rfl rfl rfl rfl rfl rfl (by simp[D.scs,D.sc]) ⟨hx,rfl⟩ ?_ (by decide) ?_ ?_ h ?_ ?_ (λa w h9=>⟨rfl,by rw[ab,CS,<-Px];exact h9⟩)
   .intro n e he;simp only[DH,hget] at he;cases h0:(0==n)<;>rw[h0] at he<;>simp only[CJ,Co] at he
    .cases G:(1==n)<;>rw[G] at he<;>simp only[CJ,Co,reduceCtorEq,AP] at he;subst he;rfl
    .simp only[AP] at he;subst he;rfl
   .simp[DH,ZG]
   .simp[DH,ZG]
   .have ai:decide (nb≥0)=true:=by simpa using hn
    have ag:decide (0<=nb)=true:=by simpa using hn
    simp only[zU];simp only[ZZ,simprocAttr,Ab,DH,sub,ai,ag,hn,Mr hn]
   .change LP _ _ _ _ (A9.put _ (some 36) (.im (.bool true)));simp only[zU];simp only[ZZ,simprocAttr,Ab,DH,sub]
  .rw[Ad hn,CQ] at ab;refine zP DJ HV z (by decide) (by decide) h (Qx:=BS ⟨(38,.im (.bool false))::(DH l A k p j).tm,(DH l A k p j).h,2⟩) ?_ (λs a w G O=>⟨rfl,by rw[ab];exact G8 O G (by simp[DH,ZG]) z⟩) (λ_ _ _ _ h=>h.elim) (λ_ _ _ h=>h.elim);simp only[zU];simp only[ZZ,simprocAttr,Ab,BS,DH,sub,hn,eq_false hn]
 .rintro e a w ⟨rfl,h⟩;simp only[Exit.then];refine zP DJ HV z (by decide) (by decide) h (Qx:=BS (DH l A k p j)) ?_ (λs a w G O=> ?_) (λ_ _ _ _ h=>h.elim) (λ_ _ _ h=>h.elim)
  .simp only[ZZ,simprocAttr,Ab,BS,DH,sub]
  have Z:=G8 O G (by simp[DH,ZG]) z;simp only[Exit.inBlock,Exit.then];refine zP DJ HV z (by decide) (by decide) Z (Qx:=BS (DH l A k p (j+1))) ?_ (λs a w G O=> ?_) (λ_ _ _ _ h=>h.elim) (λ_ _ _ h=>h.elim)
  .simp only[ZZ,simprocAttr,Ab,BS,DH,sub];rw[AF (by omega) (by omega)];omega
  have h6:=G8 O G (by simp[DH,ZG]) z;exact⟨2 - (j+1),by omega,j+1,by omega,rfl,h6⟩
def nbD:D->Option Al
 | .fn g [] [.ref ds]=>if g=249 then Al.d ds else none
 |_=>none
def nY: ∀d b,nbD d=some b->Le d (.fn 249 [] [.ref (Al.c b)]):=by
 intro d b h;unfold nbD at h;split at h
 .rename_i g ds;split at h
  .rename_i z;subst z;refine YL ?_;exact⟨Xd (Al.d_le _ _ h).leP,trivial⟩
  .cases h
 .cases h
def nbD_c(b:Al):nbD (.fn 249 [] [.ref (Al.c b)])=some b:=by
 simp only[nbD,Bt,Al.d_c]
def nbrs.rc:D->Option (Al):=nbD
def nbrs.re:Al->D:=λa=>D.fn 249 [] [.ref (Al.c a)]
def nbrs.rle: ∀d b,nbrs.rc d=some b->Le d (nbrs.re b):=nY
def nbrs.ar:List PK->Option (Al):=a1 (kR Al.d)
def nbrs.fv(a:Al):Al:=(λa=>a) a
def nbrs.row:AO:=vK (b1 (qR Al.d_le)) (RK.mk nbrs.rc nbrs.re nbrs.rle) (λa=>True) nbrs.fv
def nbrs.q:=B2 (R:=nbrs.row) rfl
def nbrs.ok:AS 225 nbrs.row:=by
 refine vw tN Tryz.func225 ?_;intro a z;simp only[Tryz.f225,Option.getD];simp only[ZZ,simprocAttr,Ab,nbrs.fv,nbrs.rc];exact .inl (nbD_c a)
def Qs0(s:AI)(a:Al):Prop:=BK s/\CA s a/\a.Tiles.length<=1000000/\ ∀x∈a.Tiles,GZ x.At
def Kf(s:AI)(a:Al):List D->List Ag
 |[.agg [.int .i64 k,.int .i64 m],.int .i64 d]=>if 0<Gd s (Hs a k) d (Hs a m) then [⟨k,m,Gd s (Hs a k) d (Hs a m)⟩] else []
 |_=>[]
def FC(s:AI)(a:Al)(i:Nat):List Ag:=((CM a a.Tiles.length).take i).flatMap (Kf s a)
def V6(s:AI)(a:Al):FC s a (CM a a.Tiles.length).length=Gs s a a.Tiles.length:=by
 rw[FC,EW];have z: ∀k j,(HI a k j).flatMap (Kf s a)=Lc s a k j:=by
  intro k j;induction j with
  |zero=>rfl
  |succ j ih=>
   rw[HI,ZdR,ih,Lc];congr 1;simp only[YN];split
   .simp only[H2,rP,CQ,Kf]
   .rfl
 have G: ∀n,(CM a n).flatMap (Kf s a)=Gs s a n:=by
  intro n;induction n with
  |zero=>rfl
  |succ n ih=>rw[CM,ZdR,ih,z,Gs]
 exact G _
def Qv6(s:AI)(a:Al){i:Nat}{x:List D}(h:(CM a a.Tiles.length)[i]? =some x):FC s a (i+1)=FC s a i++Kf s a x:=by
 rw[FC,K6,h,ZdR,FC];simp
def Nz(a:Al){x:List D}(h:x∈CM a a.Tiles.length): ∃k m d:Int,x=[.agg [.int .i64 k,.int .i64 m],.int .i64 d]/\0<=k/\k<a.Tiles.length/\0<=m/\m<a.Tiles.length/\0<=d/\d<=1:=by
 have G: ∀(k:Nat) j,j<=2->k<a.Tiles.length->x∈HI a k j-> ∃k m d:Int,x=[.agg [.int .i64 k,.int .i64 m],.int .i64 d]/\0<=k/\k<a.Tiles.length/\0<=m/\m<a.Tiles.length/\0<=d/\d<=1:=by
  intro k j;induction j with
  |zero=>intro _ _ h;simp[HI] at h
  |succ j ih=>
   intro Z Q z;rw[HI,B5] at z;rcases z with z|z
   .exact ih (by omega) Q z
   .split at z
    .rename_i h0;obtain rfl:=BN.1 z;exact⟨k,HR a k (1 - j),1 - j,rfl,by omega,by omega,h0,LI _ _ _,by omega,by omega⟩
    .cases z
 have O: ∀n,n<=a.Tiles.length->x∈CM a n-> ∃k m d:Int,x=[.agg [.int .i64 k,.int .i64 m],.int .i64 d]/\0<=k/\k<a.Tiles.length/\0<=m/\m<a.Tiles.length/\0<=d/\d<=1:=by
  intro n;induction n with
  |zero=>intro _ h;simp[CM] at h
  |succ n ih=>
   intro hn z;rw[CM,B5] at z;rcases z with z|z
   .exact ih (by omega) z
   .exact G n 2 (AW _) hn z
 exact O _ (AW _) h
def Vl(a:Al): ∀n,(CM a n).length<=2*n:=by
 have z: ∀k j,(HI a k j).length<=j:=by
  intro k j;induction j with
  |zero=>simp[HI]
  |succ j ih=>rw[HI,CS];split<;>simp<;>omega
 intro n;induction n with
 |zero=>simp[CM]
 |succ n ih=>have:=z n 2;rw[CM,CS];omega
def V7(s:AI)(a:Al)(i:Nat):(FC s a i).length<=i:=by
 induction i with
 |zero=>simp[FC]
 |succ i ih=>
  cases h:(CM a a.Tiles.length)[i]? with
  |none=>
   have:FC s a (i+1)=FC s a i:=by
    have z:=ZeL.1 h;rw[FC,FC,GE (by omega),GE z]
   rw[this];omega
  |some x=>
   rw[Qv6 s a h,CS]
   have:(Kf s a x).length<=1:=by
    unfold Kf;split
    .split<;>simp
    .simp
   omega
def qW:D6:=RP [(225,nbrs.row),(115,bond_.row)]
def PC:K1 Tryz.prog qW:=Sa _ (by
 intro p hp;simp only[BO,Za,eW] at hp;rcases hp with rfl|rfl
 .exact nbrs.ok
 .exact bond_.ok)
def XA: ∀(H:Au),(H.all λp=> !p.2.2.isView)=true-> ∀o e,hget H o=some e->e.2.isView=false
 |[],_,o,e,h=>by cases h
 |(n,x)::r,z,o,e,h=>by
  simp only[RB,AZ,K5] at z;simp only[hget] at h;cases hq:(n==o)<;>rw[hq] at h
  .exact XA r z.2 o e h
  .simp only[CJ,AP] at h;subst h;exact z.1
def Qxh{P:Program}{V:D6}{C:Bj}{N:Nat}(Z:P.follows .mixedOrders=true)(HV:HU P V){x y:Code}(G:E8 N x=true)(z:I0 x=true){s':A9}{Q:Exit->Act->World->Prop}{s:A9}{a:Act}{w:World}(hc:BT C N s a w)(hk:D7 P V x (BS s') s)(hg:s'.good=true)(O:C.n0<=s'.nx)
 (hn: ∀a w,BT C N s' a w->y.wpIn Fence.wide 0 P Q a w):(x.seq y).wpIn Fence.wide 0 P Q a w:=by
 refine wpIn_seq (wpIn_mono (pR (ro:=none) Z HV x G z _ s a w hk hc) ?_);intro e a' w' hq;cases e<;>simp only[GJ] at hq<;>simp only[Exit.then]
 .obtain⟨s1,h1,h2⟩:=hq;exact hn _ _ (qM h2 h1 hg O)
 .obtain⟨_,h,_⟩:=hq;exact h.elim
 .obtain⟨_,h,_⟩:=hq;exact h.elim
def bnds.rc:D->Option (List Ag):=Rn Ag.d
def bnds.re:(List Ag)->D:=λb=>D.sl false 3 (b.map Ag.c)
def bnds.rle: ∀d b,bnds.rc d=some b->Le d (bnds.re b):=xF Ag.d_le (λ_=>rfl)
def bnds.ar:List PK->Option (AI×Al):=a2 (kR AI.d) (kR Al.d)
def bnds.ae(a:AI×Al):List PK:=[.val (.agg (AI.c a.1)),.val (.agg (Al.c a.2))]
def bnds.le: ∀z a,bnds.ar z=some a->Cy z (bnds.ae a):=(eX (UC AI.d_le) (UC Al.d_le))
def bnds.fv(a:AI×Al):List Ag:=(λs a=>Gs s a a.Tiles.length) (a.1) (a.2)
def bnds.row:AO:=H5 (b2 (qR AI.d_le) (qR Al.d_le)) (RK.mk bnds.rc bnds.re bnds.rle) (λa=>Qs0 a.1 a.2) bnds.fv
def bnds.q:=FE (R:=bnds.row) rfl
def bnds.ok:AS 203 bnds.row:=by
 refine Quy (by kernel_rfl) bnds.le bnds.rle ?_;intro a ac C S vs RR hW ad aa;refine Rq Tryz.func203 rfl (by simp[bnds.ae]) ?_ hW ad aa;clear aa ad hW;intro C0 ao w hw ab hc am;have HV:=lG PC;have an:C0.ds=[]:=by obtain⟨S0,_,h⟩:=hc;rw[<-h.defers];exact am
 simp only[Tryz.f203,Option.getD] at hc⊢;obtain⟨s,A⟩:=a;obtain⟨h1,h2,h3,h4⟩:=ac;simp only at h1 h2 h3 h4;refine Qxh DJ HV (by decide) (by decide) (s':=⟨[(3,.ptr 1 0),(2,.ptr 0 0)],[(0,(true,.cells 27 ((AI.c s).map .im))),(1,(true,.cells 30 ((Al.c A).map .im)))],2⟩) hc ?_ ?_ (by rw[ab];exact Cx _) (λa w hc=> ?_)
 .simp only[qW];simp only[ZZ,simprocAttr,Ab,BS,sub,bnds.ae,DM,Ea,Ca,entry]
 .simp[ZG,AI.c,Al.c]
 refine Qxh DJ HV (by decide) (by decide) (s':=⟨[(5,.ptr 2 0),(3,.ptr 1 0),(2,.ptr 0 0)],[(0,(true,.cells 27 ((AI.c s).map .im))),(1,(true,.cells 30 ((Al.c A).map .im))),(2,(true,.cells 178 [.im (.sl true 0 [])]))],3⟩) hc ?_ ?_ (by rw[ab];exact Cx _) (λa w hc=> ?_)
 .simp only[qW];simp only[ZZ,simprocAttr,Ab,BS,sub]
 .simp[ZG,AI.c,Al.c]
 refine wpIn_seq ?_;refine Qxh DJ HV (by decide) (by decide) (s':=⟨[(10,.im (.fn 249 [] [.ref (Al.c A)])),(5,.ptr 2 0),(3,.ptr 1 0),(2,.ptr 0 0)],[(0,(true,.cells 27 ((AI.c s).map .im))),(1,(true,.cells 30 ((Al.c A).map .im))),(2,(true,.cells 178 [.im (.sl true 0 [])]))],3⟩) hc ?_ ?_ (by rw[ab];exact Cx _) (λa w hc=> ?_)
 .simp only[qW];simp only[ZZ,simprocAttr,Ab,BS,sub,nbrs.q,nbrs.ar,nbrs.re,nbrs.fv]
 .simp[ZG,AI.c,Al.c]
 refine wpIn_block (wpIn_mono (VH DJ HV hc (gf:=249) (capt:=[.ref (Al.c A)]) (xs:=CM A A.Tiles.length) (S5 (by kernel_rfl)) (Vm A h2.1 h3 h4) (by decide) (by decide) (by decide) (by decide) ?_ (by decide)
  (tm0:=[(10,.im (.fn 249 [] [.ref (Al.c A)])),(5,.ptr 2 0),(3,.ptr 1 0),(2,.ptr 0 0)]) (hs:=λi=>[(0,(true,.cells 27 ((AI.c s).map .im))),(1,(true,.cells 30 ((Al.c A).map .im))),(2,(true,.cells 178 [.own 3])),(3,(true,.arr 215 3 ((FC s A i).map Ag.c)))]) (nx:=4) ⟨[(3,none)],?_⟩ rfl (by simp) ?_ ?_ ?_ ?_) ?_)
 .intro x hx;obtain⟨k,m,d,rfl,_⟩:=Nz A hx;rfl
 .simp only[Ao];simp only[ZZ,simprocAttr,Ab,AU,AT,FC,rP]
 .simp[C4,AV.bel]
 .intro i hi;simp[ZG,AI.c,Al.c]
 .intro i o e he hv;rw[XA _ (by rfl) o e he] at hv;cases hv
 .intro i x hx;have aq:=V7 s A i;have au:=(B9.1 hx).1;have av:=Vl A A.Tiles.length;obtain⟨k,m,d,rfl,k0,k1,m0,m1,d0,d1⟩:=Nz A (Bd hx);have G:=Qv6 s A hx;simp only[Kf] at G;simp only[qW];simp only[ZZ,simprocAttr,Ab,P4,Wb,FV,sub,bond_.q,bond_.ar,bond_.re,bond_.fv,AQ];refine⟨k0,k1,λp hp=>⟨m0,m1,λq hq=>⟨⟨h1,h2.2 p (Bd hp),⟨d0,by omega⟩,h2.2 q (Bd hq)⟩,λhb=>⟨?_,by omega,[(3,some 6)],?_⟩,λhb=>⟨[],?_⟩⟩⟩⟩
  .intro row Q;obtain rfl:=BN.1 Q;rfl
  all_goals
   have e1:Hs A k=p.Tile:=by simp[Hs,hp]
   have e2:Hs A m=q.Tile:=by simp[Hs,hq]
   rw[e1,e2] at G
  .rw[Ak hb] at G;simp only[Ao];simp only[ZZ,simprocAttr,Ab,AU,AT,G];simp[Ag.c]
  .rw[Ad hb,CQ] at G;simp only[Ao];simp only[ZZ,simprocAttr,Ab,AU,AT,G]
 .intro e a' w' hq;cases e<;>simp only[bE] at hq;obtain⟨C2,S2,Dk,rfl,hE,O,ht,hd,af,ag,ah,ai,aj⟩:=hq;simp only[Exit.inBlock,Exit.then];have ak:a.defers=[]:=by obtain⟨S0,_,h⟩:=hc;rw[h.defers];exact an
  rw[ak] at hd;have hm: ∀a'':Act,a''.defers=C2.ds->zO C0 C2 a''.defers:=λa'' h=> .inr ⟨Dk,by rw[h,<-hE.defers,hd],af,ag,ah,ai,aj⟩
  refine wpIn_mono (pR (ro:=none) DJ HV _ (by decide) (by decide) (eH Tryz.prog [ResultVar.tmp 4] (Be bnds.rc (bnds.fv (s,A)))) _ a' S2.w ?_ ⟨S2,rfl,hE⟩) ?_
  .simp only[qW];simp only[ZZ,simprocAttr,Ab,bnds.rc,bnds.fv,V6,Be];intro row Q;obtain⟨b,_,rfl⟩:=BZ.1 Q;rfl
  .intro e a'' w'' hq;cases e<;>simp only[GJ] at hq<;>simp only[Q7]
   .obtain⟨s',Z,z⟩:=hq;exact⟨s',C2,Z,z,O,hm a'' (by obtain⟨S0,_,h⟩:=z;exact h.defers)⟩
   .obtain⟨s',Z,z⟩:=hq;exact Z.elim
   .obtain⟨s',Z,z⟩:=hq;exact⟨s',C2,Z,z,O,hm a'' (by obtain⟨S0,_,h⟩:=z;exact h.defers)⟩
end Go.Ae
namespace Go.Ae
open Go.Proofs
def Mu{n:Nat}{gs:List (List Int)}(z:0<gs.length): ∀(bs:List Ag),(∀b∈bs,0<b.Strength/\b.Strength<=4)-> ∀b∈HE (SB n gs) bs,Lq gs.length b
 |[],_,b,h=>by simp[HE] at h
 |x::r,hs,b,h=>by
  simp only[HE] at h;have ih:=Mu (n:=n) z r (λy hy=>hs y (Cs _ hy)) b;split at h
  .exact ih h
  .rename_i G;rcases BO.1 h with rfl|h
   .have O:=Qy8 (n:=n) z x.A;have Q:=Qy8 (n:=n) z x.B;have Z:=hs x (Ct ..);exact⟨⟨O.1,O.2,Q.1,Q.2⟩,G,Z.1,Z.2⟩
   .exact ih h
def S9(s:AI)(a:Al)(t:Int):Bool×Bool:=
 if 64<(DP a.Tiles.length (Gs s a a.Tiles.length) t).1 then (false,false)
 else (zY (DP a.Tiles.length (Gs s a a.Tiles.length) t).1 (DP a.Tiles.length (Gs s a a.Tiles.length) t).2 t,true)
def Qz2(n:Nat)(bs:List Ag)(hn:0<n): ∀k,(∀v∈C6 n bs k,0<=v)/\(C6 n bs k)[0]? =some 0
 |0=>by
  refine⟨λv G=> ?_,Qj8 n 0 hn⟩;obtain⟨i,O⟩:=EK.1 G;have hl:=(B9.1 O).1;simp only[C6] at O hl;rw[Qj8 n i (by rwa [jU] at hl)] at O
  have:=A8 O
  omega
 |k+1=>by
  obtain⟨Q,h2⟩:=Qz2 n bs hn k;simp only[C6];split
  .rename_i b hb;have z: ∀i:Nat,0<=(C6 n bs k)[i]?.getD 0:=by
    intro i;cases h:(C6 n bs k)[i]? with
    |none=>simp
    |some v=>exact Q v (Bd h)
   have hj: ∀x y v:Int,0<=x->0<=y->0<=v->0<=Kz x y v:=by
    intro x y v z hy G;simp only[Kz];by_cases h:v=Et x y
    .rw[Ak h];simp only[FA];split<;>omega
    .rw[Ad h];exact G
   have Z: ∀x y:Int,0<=x->0<=y->Kz x y 0=0:=by
    intro x y z hy;simp only[Kz];by_cases h:(0:Int)=Et x y
    .rw[Ak h];simp only[Et] at h;simp only[FA];split at h<;>split<;>omega
    .rw[Ad h]
   refine⟨λv G=> ?_,?_⟩
   .obtain⟨u,hu,rfl⟩:=BZ.1 G;exact hj _ _ _ (z _) (z _) (Q u hu)
   .rw[yU,DX,h2,CR,Z _ _ (z _) (z _)]
  .exact⟨Q,h2⟩
def Qab7{n:Nat}{bs:List Ag}{t:Int}(hn:0<n):0<(Pe n bs t).length:=by
 have h:=(Qz2 n (Hu t bs) hn (Hu t bs).length).2;obtain⟨z,G⟩:=Qo6 (C6 n (Hu t bs) (Hu t bs).length) n 0 h n (AW _) hn
 have:(((0:Nat):Int)::z)∈Pe n bs t:=by simpa only[Pe,Xb,B1] using G
 exact List.length_pos_of_mem this
def M4{n:Nat}{bs:List Ag}{t:Int}(O: ∀b∈bs,Lq n b)(hl:bs.length<=1000000)(Q:(DP n bs t).1<=64):N6 (DP n bs t):=by
 have Z:=Qpl (SB n (Pe n bs t)) bs;by_cases h0:0<(DP n bs t).1
 .have G:=Mu (n:=n) (gs:=Pe n bs t) (by simp only[DP] at h0;omega) bs (λb z=>⟨(O b z).2.2.1,(O b z).2.2.2⟩);refine⟨by omega,Q,by simp only[DP,B1];omega,λb z=> ?_,λb z=> ?_,λb z=> ?_⟩
  .have:=G b (by simpa only[DP,B1] using z)
   exact this.1
  .have:=G b (by simpa only[DP,B1] using z)
   have:=this.2.2
   omega
  .have:=G b (by simpa only[DP,B1] using z)
   exact this.2.1
 .have hn:bs=[]:=by
   cases bs with
   |nil=>rfl
   |cons b r=>
    exfalso;have h5:=(O b (Ct ..)).1;have h6:=Qab7 (n:=n) (bs:=b::r) (t:=t) (by omega);simp only[DP] at h0;omega
  subst hn;refine⟨by simp only[DP];omega,Q,by simp only[DP,HE];simp,λb z=> ?_,λb z=> ?_,λb z=> ?_⟩<;>(simp[DP,HE] at z)
def stabI.fv(a:AI×Al×Int):Bool×Bool:=(S9) (a.1) (a.2.1) (a.2.2)
def stabI.row:AO:=H5 (b3 (qR AI.d_le) (qR Al.d_le) qI) (r2 rB rB) (λa=>Qs0 a.1 a.2.1/\a.2.1.Tiles.length<=512/\0<=a.2.2/\a.2.2<=1000000) stabI.fv
def stabI.q:=FE (R:=stabI.row) rfl
def stabI.ok:AS 161 stabI.row:=by
 refine LX (tC bnds.ok (tC contr.ok (tC holds_.ok tN))) Tryz.func161 ?_;intro a z;simp only[Tryz.f161,Option.getD];simp only[ZZ,simprocAttr,Ab,stabI.fv,bnds.q,bnds.fv,bnds.re,contr.q,contr.fv,holds_.q,holds_.fv,C8,D.sc,D.scs,Cm,Be];obtain⟨s,A,t⟩:=a;obtain⟨G,h2,O,Q⟩:=z;simp only at G h2 O Q⊢;have Z:=Qro G.1 A A.Tiles.length (AW _);have hL:=xN s A A.Tiles.length;refine⟨G,⟨by omega,λb hb=>(Z b hb).1,by omega⟩,?_⟩;split
 .rename_i h;simp only[S9];rw[Ak h]
 .rename_i h;refine⟨⟨M4 Z (by omega) (by omega),O,Q⟩,?_⟩;simp only[S9];rw[Ad h]
def Sz(s:AI)(a:Al)(t:Int):Bool×Int:=
 if (Gb s && La s a)=false then (false,1)
 else if Bz t 1 16=false then (false,2)
 else if (S9 s a t).2=false then (false,4) else ((S9 s a t).1,0)
def zC{s:AI}{a:Al}(h:(Gb s && La s a)=true):Qs0 s a/\a.Tiles.length<=512:=by
 rw[AZ] at h;have G:=Qge h.1;have z:=WV h.2;refine⟨⟨G,z.1,by omega,λx O=> ?_⟩,by omega⟩
 have:=(Qh6 _ _ z.1.1 x O).1
 simp only[EU,Bz,AZ,BA] at this;refine⟨?_,?_,?_,?_⟩<;>omega
def isStab.fv(a:AI×Al×Int):Bool×Int:=(Sz) (a.1) (a.2.1) (a.2.2)
def isStab.row:AO:=H5 (b3 (qR AI.d_le) (qR Al.d_le) qI) (r2 rB rI) (λa=>R0 a.1) isStab.fv
def isStab.q:=FE (R:=isStab.row) rfl
def isStab.ok:AS 122 isStab.row:=by
 refine LX (tC ValidAssembly_.ok (tC isTemperature.ok (tC stabI.ok tN))) Tryz.func122 ?_;intro a z;simp only[Tryz.f122,Option.getD];simp only[ZZ,simprocAttr,Ab,isStab.fv,ValidAssembly_.q,ValidAssembly_.fv,isTemperature.q,isTemperature.fv,stabI.q,stabI.fv,C8,D.sc,D.scs,Cm,Be];obtain⟨s,A,t⟩:=a;simp only at z⊢;refine⟨z,?_⟩;split
 .rename_i c1;simp only[Sz];rw[Ak c1]
 .rename_i c1;split
  .rename_i G;simp only[Sz];rw[Ad c1,Ak G]
  .rename_i G;have Q:=zC (s:=s) (a:=A) (by simpa using c1);have Z:Bz t 1 16=true:=by simpa using G
   simp only[Bz,AZ,BA] at Z;refine⟨⟨Q.1,Q.2,by omega,by omega⟩,?_⟩;split
   .rename_i O;simp only[Sz];rw[Ad c1,Ad G,Ak O]
   .rename_i O;simp only[Sz];rw[Ad c1,Ad G,Ad O]
def kN(y:An):Bool:=if y.Seed.Tiles.length=0 then false else ((Sz y.Set y.Seed y.Temperature).1 && decide ((Sz y.Set y.Seed y.Temperature).2=0))
def validI_.fv(a:An):Bool:=(kN) a
def validI_.row:AO:=H5 (b1 (qR An.d_le)) rB (λa=>R0 a.Set) validI_.fv
def validI_.q:=FE (R:=validI_.row) rfl
def validI_.ok:AS 65 validI_.row:=by
 refine LX (tC isStab.ok tN) Tryz.func65 ?_;intro a z;simp only[Tryz.f65,Option.getD];simp only[ZZ,simprocAttr,Ab,validI_.fv,isStab.q,isStab.fv,C8,D.sc,D.scs,Cm,Be];intro _;by_cases h:a.Seed.Tiles.length=0
 .rw[Ak (by omega)];simp only[kN];rw[Ak h]
 .rw[Ad (by omega)];refine⟨z,?_⟩;simp only[kN];rw[Ad h];split
  .rename_i c;rw[c,EL]
  .rename_i c;rw[RE] at c;rw[c,Gx]
def Qv9(S:Nat->Bool)(nm:List Int): ∀(bs:List Ag),Di S (HE nm bs)=Di S (Ix nm bs)
 |[]=>rfl
 |b::r=>by
  have ih:=Qv9 S nm r;simp only[HE,Ix];split
  .exact ih
  .simp only[Di,ih];congr 1;obtain⟨x,hx⟩: ∃x,x=Ch nm b.A:=⟨_,rfl⟩;obtain⟨y,hy⟩: ∃y,y=Ch nm b.B:=⟨_,rfl⟩;rw[<-hx,<-hy];by_cases h:x<y
   .have G:FA x y=x:=Ak h;have z:Et x y=y:=Ad (by omega);rw[G,z]
   .have G:FA x y=y:=Ad h;by_cases Q:y<x
    .have z:Et x y=x:=Ak Q;rw[G,z];by_cases O:S x.toNat=S y.toNat
     .rw[Ak O,Ak O.symm]
     .rw[Ad O,Ad (Fi O)]
    .have z:Et x y=y:=Ad Q
     have:x=y:=by omega
     rw[G,z,this]
def Qxe(n:Nat)(nm:List Int)(bs:List Ag)(t:Int)(k:Nat):YF n (HE nm bs) t k↔YF n (Ix nm bs) t k:=by
 simp only[YF,Qv9]
def WH{s:AI}{A:Al}{t:Int}(h:Qs0 s A)(hl:A.Tiles.length<=512)(ht:0<=t):
 (S9 s A t).2=decide ((lK s A t).2=0)/\((S9 s A t).2=true->(S9 s A t).1=(lK s A t).1):=by
 have O:=Qro h.1 A A.Tiles.length (AW _);have hL:=xN s A A.Tiles.length;obtain⟨bs,hbs⟩: ∃bs,bs=Gs s A A.Tiles.length:=⟨_,rfl⟩;obtain⟨n,hn⟩: ∃n,n=A.Tiles.length:=⟨_,rfl⟩;rw[<-hn] at O hL hbs hl;rw[<-hbs] at O hL;have Q:(DP n bs t).1=(C7 n bs t).1:=rfl;simp only[S9,lK,<-hn,<-hbs,Q];by_cases G:64<(C7 n bs t).1
 .rw[Ak G,Ak G];exact⟨rfl,λh=>by cases h⟩
 .rw[Ad G,Ad G];have z:=M4 (t:=t) O (by omega) (by rw[Q];omega);have hh:=Qtt (n:=(C7 n bs t).1.toNat) (bs:=(DP n bs t).2) (t:=t) (λb hb=>by
   have:=z.2.2.2.1 b hb
   have h0:=z.1;rw[Q] at this h0;rw[ZdP h0];exact this) z.2.2.2.2.1 ht
  by_cases h2:(C7 n bs t).1<2
  .rw[Ak h2];refine⟨rfl,λ_=> ?_⟩;simp only[zY];rw[show (C7 n bs t).1.toNat - 1=0 by omega];rfl
  .rw[Ad h2];refine⟨rfl,λ_=> ?_⟩;obtain⟨p1,p2⟩:=Oc (t:=t) O (by omega) (by omega) (by omega);have hw:=(Qzk (n:=(C7 n bs t).1) (bs:=(C7 n bs t).2) p1 p2 ht ((C7 n bs t).1 - 1).toNat (by omega) (by omega)).2;have Z:=hh ((C7 n bs t).1.toNat - 1) (by omega);simp only[zY];rw[show ((C7 n bs t).1 - 1).toNat=(C7 n bs t).1.toNat - 1 by omega] at hw⊢;have e:YF (C7 n bs t).1.toNat (DP n bs t).2 t ((C7 n bs t).1.toNat - 1)↔YF (C7 n bs t).1.toNat (C7 n bs t).2 t ((C7 n bs t).1.toNat - 1):=Qxe _ _ _ _ _;rw[Xq,Z,e,<-hw];simp
def gF(y:An):kN y=FL y:=by
 simp only[kN,FL];by_cases h:y.Seed.Tiles.length=0
 .rw[Ak h]
  have:y.Seed.Tiles=[]:=ZcB h
  simp[this]
 .rw[Ad h];have he:y.Seed.Tiles.isEmpty=false:=by
   rw[ZeM];intro Z;rw[Z] at h;simp at h
  by_cases c1:(Gb y.Set && La y.Set y.Seed)=false
  .have e:Sz y.Set y.Seed y.Temperature=(false,1):=Ak c1;rw[e];rw[lU] at c1;rcases c1 with c1|c1<;>simp[c1]
  .have z:=c1;rw[Gi] at c1;have hp:=zC (s:=y.Set) (a:=y.Seed) c1;rw[AZ] at c1;rw[c1.1,c1.2,he];by_cases G:Bz y.Temperature 1 16=false
   .have e:Sz y.Set y.Seed y.Temperature=(false,2):=(Ad z).trans (Ak G);rw[e,G];simp
   .have Q:=G;rw[Gi] at G;have ht:0<=y.Temperature:=by simp only[Bz,AZ,BA] at G;omega
    obtain⟨q1,q2⟩:=WH hp.1 hp.2 ht;rw[G];simp only[WG,Xs,EL];by_cases O:(S9 y.Set y.Seed y.Temperature).2=false
    .have e:Sz y.Set y.Seed y.Temperature=(false,4):=(Ad z).trans ((Ad Q).trans (Ak O));rw[e,<-q1,O];simp
    .have e:Sz y.Set y.Seed y.Temperature=((S9 y.Set y.Seed y.Temperature).1,0):=(Ad z).trans ((Ad Q).trans (Ad O));rw[Gi] at O;rw[e,<-q1,O,q2 O];simp
def Qq4{a b:Ac}(h:B6 a b=false)(G:a≠b):B6 b a=true:=by
 obtain⟨x,y⟩:=a;obtain⟨z,w⟩:=b;simp only[B6,ne_eq,Ac.mk.injEq] at*
 grind
def EA(p:Ac)(t:Int):List Ar->List Ar
 |[]=>[⟨p,t⟩]
 |x::r=>if B6 p x.At=true then ⟨p,t⟩::x::r else x::EA p t r
def NJ(p:Ac)(t:Int): ∀(l:List Ar),HJ p t false l++(if Jr p l=true then [] else [⟨p,t⟩])=EA p t l
 |[]=>rfl
 |x::r=>by
  have ih:=NJ p t r;by_cases h:B6 p x.At=true
  .have e:Jr p (x::r)=true:=by simp only[Jr,Ak h]
   simp only[e,Bt,CQ,HJ,EA,Ak h,zM]
  .have e:Jr p (x::r)=Jr p r:=by simp only[Jr,Ad h]
   simp only[e,HJ,EA,Ad h,CP,ih]
def YE(a:Al)(p:Ac)(t:Int):Ci a p t=⟨EA p t a.Tiles⟩:=by simp only[Ci,NJ]
def yM(p:Ac)(t:Int)(y:Ar): ∀(l:List Ar),y∈EA p t l↔y=⟨p,t⟩\/y∈l
 |[]=>by simp[EA]
 |x::r=>by
  simp only[EA];split
  .simp
  .simp only[BO,yM p t y r];constructor
   .rintro (h|h|h)
    .exact .inr (.inl h)
    .exact .inl h
    .exact .inr (.inr h)
   .rintro (h|h|h)
    .exact .inr (.inl h)
    .exact .inl h
    .exact .inr (.inr h)
def Qki{p:Ac}{t:Int}(hp:EU p=true)(Z:Bz t 0 159=true): ∀(l:List Ar) (q:Option Ac),Dw q l=true->(∀q',q=some q'->B6 q' p=true)->(∀x∈l,x.At≠p)->Dw q (EA p t l)=true
 |[],q,_,G,_=>by
  simp only[EA,Ru,xY,hp,Z,EL,Er];cases q with
  |none=>rfl
  |some q'=>exact G q' rfl
 |x::r,q,z,G,h3=>by
  have hx:=h3 x (Ct ..);rw[Ru] at z;simp only[AZ] at z;obtain⟨g1,g2,g3,g4⟩:=z;simp only[EA];split
  .rename_i O;rw[Ru,Ru];simp only[hp,Z,g1,g2,g4,O,EL,Er];cases q with
   |none=>rfl
   |some q'=>exact G q' rfl
  .rename_i O;rw[Ru];have ih:=Qki hp Z r (some x.At) g4 (λq' Q=>by
    obtain rfl:=A8 Q;exact Qq4 (by simpa using O) (Fi hx)) (λy hy=>h3 y (Cs _ hy))
   simp only[g1,g2,ih,EL,Er];exact g3
def VU(m:J0)(o:Al)(x:Ar):Option Al:=
 if (m.Labels[x.Tile.toNat]?.getD 0)<0 then some o
 else if 0<=Ba o (jZ x.At m.Scale).1/\Ba o (jZ x.At m.Scale).1≠(m.Labels[x.Tile.toNat]?.getD 0) then none
 else if Ba o (jZ x.At m.Scale).1<0 then some (Ci o (jZ x.At m.Scale).1 (m.Labels[x.Tile.toNat]?.getD 0)) else some o
def BX(s:An)(a:Al)(o:Aj):Bool:=EU o.At && (Bz o.Tile 0 (s.Set.Tiles.length - 1) && (decide (BB (λx=>decide (x.At=o.At)) 0 a.Tiles<0) && decide (s.Temperature<=K0 s.Set a o.At o.Tile 4)))
def Qma{a:Al}{p:Ac}(h:BB (λx=>decide (x.At=p)) 0 a.Tiles<0): ∀x∈a.Tiles,x.At≠p:=by
 intro x O G;rcases Xa (λx=>decide (x.At=p)) a.Tiles 0 with ⟨z,_⟩|⟨i,y,_,Q,_⟩
 .have:=lX.1 z x O
  simp[G] at this
 .omega
end Go.Ae
