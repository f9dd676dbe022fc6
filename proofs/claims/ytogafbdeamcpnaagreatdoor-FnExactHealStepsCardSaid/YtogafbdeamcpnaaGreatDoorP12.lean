/- Lemmas. Conditions: none. -/
import Derived.Test.YtogafbdeamcpnaaGreatDoorP11
import Derived.Sort.LoopGhostIn
set_option linter.all false
set_option maxHeartbeats 8000000
set_option maxRecDepth 100000
namespace Go.Ae
open Go
def It{ι:Type}(J:ι->(Nat->Prop)->World->Prop)(base:Nat)(ok0:Nat->Prop)(N:Nat)(i:ι)(s:Aj)(a:Act)(w:World):Prop:=
 ∃C S Pr,S.w=w/\C5 C N s S a/\a.defers=[]/\base<=w.heap.size/\J i Pr w/\(∀b,EF S b->base<=b/\ ¬Pr b)/\(∀b,S.ok b->ok0 b\/ ¬Pr b)
def RT{ι:Type}(J:ι->(Nat->Prop)->World->Prop)(base:Nat)(ok0:Nat->Prop)(N:Nat)(i:ι)(Q:Cb):Exit->Act->World->Prop
 | .normal,a,w=> ∃s,Q .normal s/\It J base ok0 N i s a w
 | .exit id,a,w=> ∃s,Q (.exit id) s/\It J base ok0 N i s a w
 | .ret,a,w=> ∃s,Q .ret s/\It J base ok0 N i s a w
 |_,_,_=>False
def Me{ok ok':Nat->Prop}{hp hp':Nat->Option Obj}: ∀(ds:List D) (vs:List Value),ds.all D.scs=true->rdl ok hp ds vs->rdl ok' hp' ds vs
 |[],_,_,hd=>by simpa only[rdl] using hd
 |d::ds,vs,h,hd=>by
  simp only[rdl,Je,AS] at hd h⊢;obtain⟨v,r,rfl,z,G⟩:=hd;exact⟨v,r,rfl,Kf h.1 z,Me ds r h.2 G⟩
section
variable {ι:Type}{P:Program}{V:CK}{N:Nat}{J:ι->(Nat->Prop)->World->Prop}{base:Nat}{ok0:Nat->Prop}{i j:ι}
def RV(hA:Ns base J){s:Aj}{a:Act}{w:World}(h:It J base ok0 N i s a w):
 ∃C1,B9 C1 N s a w/\ ∀s' a' w',B9 C1 N s' a' w'->It J base ok0 N i s' a' w':=by
 obtain⟨C,S,Pr,rfl,hE,hd,hb,hJ,z,Q⟩:=h;obtain⟨G,Z⟩:=hA i Pr _ hJ;refine⟨FV S s.nx a.defers,⟨S,rfl,XG hE⟩,?_⟩;rintro s' a' w' ⟨S',rfl,hc⟩;have hs:S.w.heap.size<=S'.w.heap.size:=hc.wf.size;refine⟨_,S',Pr,rfl,hc,hc.defers.trans hd,Dt hb hs,Z _ hs hc.wf.os hc.wf.tape hc.wf.output ?_,λb h=> ?_,λb h=> ?_⟩
 .rintro b (h|h)
  .exact YA hc.wf b (G b h) (λO=>(z b O).2 h)
  .exact YA hc.wf b (by omega) (λO=>by have:=(z b O).1;omega)
 .rcases iE hc.wf h with q|q
  .exact⟨Dt hb q,λhp=>by have:=G b hp;omega⟩
  .exact z b q
 .rcases YN hc.wf h with q|q|q
  .exact Q b q
  .exact .inr λhp=>by have:=G b hp;omega
  .exact .inr (z b q).2
def BD(s':Aj):Cb
 | .normal,s=>sub s s'
 | .exit _,_=>False
 | .ret,_=>False
def I1(s':Aj)(p q:Prop)(id:Nat):Cb
 | .normal,s=>p/\sub s s'
 | .exit k,s=>k=id/\q/\sub s s'
 | .ret,_=>False
def Qy6(HM:P.follows .mixedOrders=true)(HV:GI P V)(hA:Ns base J){c:Code}(hc:DY N c=true)(G:Hk c=true){Q:Cb}{s:Aj}{a:Act}{w:World}(hk:CM P V c Q s)(h:It J base ok0 N i s a w):
 c.wpIn Fence.wide 0 P (RT J base ok0 N i Q) a w:=by
 obtain⟨C1,aa,z⟩:=RV hA h;refine wpIn_mono (gP (ro:=none) HM HV c hc G Q s a w hk aa) ?_;intro e a' w' hq;cases e<;>simp only[FB] at hq<;>simp only[RT]
 .obtain⟨s',O,Z⟩:=hq;exact⟨s',O,z _ _ _ Z⟩
 .obtain⟨s',O,Z⟩:=hq;exact⟨s',O,z _ _ _ Z⟩
 .obtain⟨s',O,Z⟩:=hq;exact⟨s',O,z _ _ _ Z⟩
def F4{s s':Aj}{a:Act}{w:World}(h:It J base ok0 N i s a w)(hs:sub s s')(hg:s'.good=true)(hA:Ns base J):It J base ok0 N i s' a w:=by
 obtain⟨C,S,Pr,rfl,hE,hd,hb,Z,z,Q⟩:=h;have hm:Qt S S.w:=⟨AN _,rfl,rfl,rfl,λ_ _=>rfl,λ_ _=>rfl⟩;have O:C5 (FV S 0 a.defers) N s S a:=qD hE hm 0 (CF _) a a.defers rfl rfl;obtain⟨G,aa⟩:=hA i Pr _ Z;obtain⟨S',hw,hc⟩:=iK ⟨S,rfl,O⟩ hs hg (CF _);refine⟨_,S',Pr,hw,hc,hd,hb,Z,λb h=> ?_,λb h=> ?_⟩
 .rcases iE hc.wf h with q|q
  .exact⟨Dt hb q,λhp=>by have:=G b hp;omega⟩
  .exact z b q
 .rcases YN hc.wf h with q|q|q
  .exact Q b q
  .exact .inr λhp=>by have:=G b hp;omega
  .exact .inr (z b q).2
def K7(Z:P.follows .mixedOrders=true)(HV:GI P V)(hA:Ns base J){x y:Code}(hc:DY N x=true)(z:Hk x=true){Qx:Cb}{Q:Exit->Act->World->Prop}{s:Aj}{a:Act}{w:World}(h:It J base ok0 N i s a w)(hk:CM P V x Qx s)
 (hn: ∀s a w,Qx .normal s->It J base ok0 N i s a w->y.wpIn Fence.wide 0 P Q a w)(he: ∀id s a w,Qx (.exit id) s->It J base ok0 N i s a w->Q (.exit id) a w)(hr: ∀s a w,Qx .ret s->It J base ok0 N i s a w->Q .ret a w):(x.seq y).wpIn Fence.wide 0 P Q a w:=by
 refine wpIn_seq (wpIn_mono (Qy6 Z HV hA hc z hk h) ?_);intro e a' w' hq;cases e<;>simp only[RT] at hq<;>simp only[Exit.then]
 .obtain⟨s',G,O⟩:=hq;exact hn s' _ _ G O
 .obtain⟨s',G,O⟩:=hq;exact he _ s' _ _ G O
 .obtain⟨s',G,O⟩:=hq;exact hr s' _ _ G O
def qK(Z:P.follows .mixedOrders=true)(HV:GI P V)(hA:Ns base J){x:Code}(hc:DY N x=true)(z:Hk x=true){Qx:Cb}{Q:Exit->Act->World->Prop}{s:Aj}{a:Act}{w:World}(h:It J base ok0 N i s a w)(hk:CM P V x Qx s)
 (hn: ∀s a w,Qx .normal s->It J base ok0 N i s a w->Q .normal a w)(he: ∀id s a w,Qx (.exit id) s->It J base ok0 N i s a w->Q (.exit id) a w)(hr: ∀s a w,Qx .ret s->It J base ok0 N i s a w->Q .ret a w):x.wpIn Fence.wide 0 P Q a w:=by
 refine wpIn_mono (Qy6 Z HV hA hc z hk h) ?_;intro e a' w' hq;cases e<;>simp only[RT] at hq
 .obtain⟨s',G,O⟩:=hq;exact hn s' _ _ G O
 .obtain⟨s',G,O⟩:=hq;exact he _ s' _ _ G O
 .obtain⟨s',G,O⟩:=hq;exact hr s' _ _ G O
def VF(HV:GI P V)(hA:Ns base J){ops:Array Oper}{seg more:List Oper}{i0:Nat}(O:ops.toList.drop i0=seg++more)(hd:Jb N seg=true)(G:VZ ops=true){K:Aj->Prop}{Q:Exit->Act->World->Prop}{l2:List Nat}{s:Aj}{a:Act}{w:World}
 (hk:Ki P V (FJ ops seg) K s)(h:It J base ok0 N i s a w)(hK: ∀s a w,K s->It J base ok0 N i s a w->wpOpsIn Fence.wide 0 P ops Q l2 a w):wpOpsIn Fence.wide 0 P ops Q (List.range' i0 seg.length++l2) a w:=by
 obtain⟨C1,aa,z⟩:=RV hA h;exact uW (ro:=none) G (K:=λa w=> ∃s,K s/\It J base ok0 N i s a w) (λa w ⟨s,Z,h2⟩=>hK s a w Z h2) _ _ _
  (Qpr HV (Q:=λ_ a w=> ∃s,K s/\It J base ok0 N i s a w) (λs a w Z h2=>⟨s,Z,z _ _ _ h2⟩) seg more i0 O hd s a w hk aa)
def QV{C:AX}{s:Aj}{S:Ay}{a:Act}(hc:C5 C N s S a){dst:Option Nat}(hd: ∀d,dst=some d->d<N){x:AV}{v:Value}(Z:x.nms=[])(Q:Aa S x v):C5 C N (s.put dst x) S (a.put dst v):=by
 have G:(s.put dst x).h=s.h:=by cases dst<;>rfl
 have z:(s.put dst x).nx=s.nx:=by cases dst<;>rfl
 refine⟨hc.wf,λn=>by rw[G];exact hc.h n,?_,?_,?_,?_,?_,by rw[z];exact hc.n0,hc.pre⟩
 .intro t;rw[UC,uN (λd h=>by rw[hc.size];exact hd d h)];split
  .exact Q
  .exact hc.tm t
 .intro t;rw[UC,z];split
  .intro m O;rw[Z] at O;cases O
  .exact hc.nmT t
 .rw[G,z];exact hc.nmH
 .cases dst<;>simp[Act.put,hc.size]
 .cases dst<;>simp[Act.put,hc.defers]
def mZ(hA:Ns base J){ai:ι->List D->ι->Prop}{l:Nat}(hY: ∀i x j args Pr W,ai i x j->(∀ok hp,rdl ok hp x args.toList)->J i Pr W->YieldAt Fence.wide 0 P l args W λe W'=>e= .returned (.bool true)/\ ∃Pr',J j Pr' W'/\HZ ok0 Pr W Pr' W')
 {ops:Array Oper}{k:Nat}{rest:List Nat}{o:Oper}{c:Call}{f:Operand}{x:List D}{s:Aj}{a:Act}{w:World}{Q:Exit->Act->World->Prop}(ho:ops[k]? =some o)(hw:Region.wanted o (yielded ops a.tmps)=true)(aq:o.op= .call c)(af:c.callee= .value f)
 (hf:Aw s.tm f= .im (.fn (1000000000+l) [] []))(ab:Du s.tm c.args.toList=x.map .im)(av:x.all D.scs=true)(hx:ai i x j)(ao: ∀n e,hget s.h n=some e->e.2.isView=false)(hd: ∀d,o.dst=some d->d<N)(h:It J base ok0 N i s a w)
 (ac: ∀a' w',It J base ok0 N j (s.put o.dst (.im (.bool true))) a' w'->wpOpsIn Fence.wide 0 P ops Q rest a' w'):wpOpsIn Fence.wide 0 P ops Q (k::rest) a w:=by
 obtain⟨C,S,Pr,rfl,O,ag,hb,hJ,aa,ad⟩:=h;obtain⟨aw,_⟩:=hA i Pr _ hJ;have an:a.eval f= .func (.yield l) #[] #[]:=by
  have h1:=Qb O f;rw[hf] at h1;simp only[Aa,rd,rdl] at h1;obtain⟨A,B,h2,h3,h4⟩:=h1;have e1:A= #[]:=by simpa using h3
  have e2:B= #[]:=by simpa using h4
  rw[h2,e1,e2];congr 1;unfold UV;rw[Ag (by omega),rL]
 have hcl:AM S (x.map .im) (c.args.map a.eval).toList:=by
  rw[<-ab,UT];exact wS _ (λy _=>Qb O y)
 have au: ∀ok hp,rdl ok hp x (c.args.map a.eval).toList:=λok hp=>by
  have h1:=(Ia _ _).1 hcl;exact Me _ _ av h1
 obtain⟨fn,aj,ak,bo,hy,hR⟩:=hY i x j (c.args.map a.eval) Pr S.w hx au hJ;simp only[wpOpsIn,ho,hw,BI];refine⟨λ_ _=>trivial,?_⟩;have ah:(o.semAt Fence.wide.round a.eval).run P S.w= .ok (.round l fn aj ak bo) S.w:=by
  show (execOp a.eval o).run P S.w=_;simp only[execOp,aq,resolve,af,an,Sem.run_bind];simp[Deferred.ofValue,invoke,hy]
 rw[ah,Oper.uponIn_round];refine⟨λh=>(by cases h),RoundIn.mono hR ?_⟩;rintro e W' ⟨rfl,Pr',am,G⟩;have hm:Qt S W':=by
  refine⟨G.size,G.os,G.tape,G.output,λb z=> ?_,?_⟩
  .rcases ad b z with q|q
   .exact G.same b (O.wf.oks b z) (.inr q)
   .exact G.same b (O.wf.oks b z) (.inl q)
  .rintro b ⟨o',e,lc,q1,q2,rfl⟩;have hl:=O.wf.loc o' e lc q1 q2;cases hmu:e.1 with
   |true=>exact G.same _ hl.1 (.inl (aa _ ⟨o',e,lc,q1,hmu,q2,rfl⟩).2)
   |false=>
    have Z:=hl.2;rw[hmu] at Z;simp only[CE,Cy] at Z;rcases Z with Z|Z
    .rcases ad _ Z with q|q
     .exact G.same _ hl.1 (.inr q)
     .exact G.same _ hl.1 (.inl q)
    .rw[ao o' e (by rw[<-O.h o'];exact q1)] at Z;cases Z
 refine ac _ _ ⟨_,{S with w:=W'},Pr',rfl,QV (qD O hm 0 (CF _) a [] ag rfl) hd rfl (by simp only[Aa,rd]),?_,Dt hb G.size,am,λb z=> ?_,λb z=> ?_⟩
 .cases o.dst<;>exact ag
 .have q:=aa b z;have q2:=(VX O.wf z).1;refine⟨q.1,λhp=> ?_⟩;rcases G.pr b hp with r|r
  .exact q.2 r
  .omega
 .rcases ad b z with q|q
  .exact .inl q
  .refine .inr λhp=> ?_
   have q2:=O.wf.oks b z;rcases G.pr b hp with r|r
   .exact q r
   .omega
def Xl(HV:GI P V)(O:Ns base J){ab:ι->List D->ι->Prop}{l:Nat}(hY: ∀i x j args Pr W,ab i x j->(∀ok hp,rdl ok hp x args.toList)->J i Pr W->YieldAt Fence.wide 0 P l args W λe W'=>e= .returned (.bool true)/\ ∃Pr',J j Pr' W'/\HZ ok0 Pr W Pr' W')
 {id:Nat}{ops:Array Oper}(k1:Nat)(au:List.range ops.size=List.range' 0 (ops.toList.take k1).length++(k1::(List.range' (k1+1) (ops.toList.drop (k1+1)).length++[])))(ac:Jb N (ops.toList.take k1)=true)(ad:Jb N (ops.toList.drop (k1+1))=true)(z:VZ ops=true)
 {o:Oper}{c:Call}{f:Operand}{x:List D}(s1:Aj){s s2:Aj}{a:Act}{w:World}{Q:Exit->Act->World->Prop}{g t:Nat}(ho:ops[k1]? =some o)(ao:o.op= .call c)(Z:c.callee= .value f)(ai:o.guard=some (g,true))(aj:(ops[g]?).bind (·.dst)=some t)(ah:AD s1.tm t= .im (.bool true))
 (hf:Aw s1.tm f= .im (.fn (1000000000+l) [] []))(G:Du s1.tm c.args.toList=x.map .im)(aq:x.all D.scs=true)(hx:ab i x j)(an: ∀n e,hget s1.h n=some e->e.2.isView=false)(hd: ∀d,o.dst=some d->d<N)(af:s1.good=true)(ag:s2.good=true)
 (h:It J base ok0 N i s a w)(ak:Ki P V (FJ ops (ops.toList.take k1)) (λs=>sub s s1) s)(am:Ki P V (FJ ops (ops.toList.drop (k1+1))) (λs=>sub s s2) (s1.put o.dst (.im (.bool true))))
 (aa: ∀a w,It J base ok0 N j s2 a w->Q .normal a w):(Code.region id ops false).wpIn Fence.wide 0 P Q a w:=by
 refine wpIn_region ?_;rw[au];refine VF HV O (seg:=ops.toList.take k1) (more:=ops.toList.drop k1) (by rw[GN,KA]) ac z ak h (λs a w h1 h2=> ?_);have h3:=F4 h2 h1 af O;have hw:Region.wanted o (yielded ops a.tmps)=true:=by
  obtain⟨C,S,Pr,_,hE,_⟩:=h3;have hy:=Qqk hE aj ah;simp[Region.wanted,ai,hy]
 refine mZ O hY ho hw ao Z hf G aq hx an hd h3 (λa w h4=> ?_);refine VF HV O (seg:=ops.toList.drop (k1+1)) (more:=[]) (by rw[DA]) ad z am h4 (λs a w h5 h6=> ?_);exact aa a w (F4 h6 h5 ag O)
end
def RU{P:Program}{gf:Nat}{fn:Func}{c:Code}(hf:P.funcs[gf]? =some fn)(hb:fn.body=some c)(Q:fn.results.toList=[]){capt:List D}{X:jV}(ad:capt.length+1<=fn.ntmps)
 (hk: ∀(l:Nat) (J:X.I->(Nat->Prop)->World->Prop) (base:Nat) (ok0:Nat->Prop),Ns base J->
  (∀i x j args Pr W,X.step i x j->(∀ok hp,rdl ok hp x args.toList)->J i Pr W->YieldAt Fence.wide 0 P l args W λe W'=>e= .returned (.bool true)/\ ∃Pr',J j Pr' W'/\HZ ok0 Pr W Pr' W')->
  ∀a w,It J base ok0 fn.ntmps X.i0 ⟨entry 0 (.im (.fn (1000000000+l) [] [])::capt.map .im),[],0⟩ a w->c.wpIn Fence.wide 0 P (λe a w=> ∃i,X.fin i/\RT J base ok0 fn.ntmps i (λe _=>e= .normal\/e= .ret) e a w) a w):Kq P gf capt X:=by
 intro C S vs l J hW O hA hY ⟨Pr,hJ⟩;refine callsIn_wide.1 (callsIn_of_wp_marks (n:=0) hf hb trivial (wpIn_mono (hk l J S.w.heap.size S.ok hA hY _ _ ?_) ?_))
 .let C0:AX:=⟨S.w,λ_=>False,S.ok,0,λ_=>none,λ_=>none,[]⟩
  let S0:Ay:=⟨λ_=>none,S.ok,λ_=>none,S.w⟩
  have ab:Wf C0 S0:=⟨rfl,rfl,rfl,AN _,λ_ _ _=>rfl,λ_ hb=>hb,λ_ hb=> .inl hb,hW.oks,λo e G=>(by cases G),λo e l G=>(by cases G),λo o' e e' l l' G=>(by cases G),hW.glN λ_ h=>h.elim⟩;have z:AM S0 (.im (.fn (1000000000+l) [] [])::capt.map .im) (#[Value.func (.yield l) #[] #[]]++vs).toList:=by
   rw[Zec];refine⟨_,_,rfl,?_,(Ia _ _).2 O⟩;simp only[Aa,rd,rdl];refine⟨#[],#[],?_,rfl,rfl⟩;unfold UV;rw[Ag (by omega),rL]
  have ac:(#[Value.func (.yield l) #[] #[]]++vs).size=capt.length+1:=by
   have:=Ii _ _ z
   simp at this⊢;omega
  obtain⟨As,hAs⟩: ∃As,As= #[Value.func (.yield l) #[] #[]]++vs:=⟨_,rfl⟩;rw[<-hAs] at z ac⊢;refine⟨C0,S0,Pr,rfl,⟨ab,λn=>rfl,?_,?_,?_,?_,rfl,CF _,λo ho=>absurd ho (jI _)⟩,rfl,AN _,hJ,λb ⟨o,e,lc,h1,_⟩=>(by cases h1),λb hb=> .inl hb⟩
  .intro t;have h1:=gL (S:=S0) _ As.toList 0 t z;simp only[CF,BI,Zf] at h1
   have:({tmps:=As++Array.replicate (fn.ntmps - As.size) undef,defers:=[]}:Act).eval (.tmp t)=(As.toList[t]?).getD undef:=by
    simp only[Act.eval,Ho,rQ,dF];by_cases ht:t<As.size
    .simp[ht]
    .simp only[ht,Cy]
     have:As[t]? =none:=Wy (by omega)
     simp only[G4,this]
     split<;>rfl
   rw[this];exact h1
  .intro t m hm
   have:=gS _ 0 t m hm
   simp only[AC,AV.nms,GM] at this;have h0: ∀(q:List D),AC (q.map .im)=[]:=by
    intro q;induction q with
    |nil=>rfl
    |cons d r ih=>simp only[Bd,AC,AV.nms,ih,DA]
   rw[h0] at this;cases this
  .intro n e G;cases G
  .simp;omega
 .intro e a w G;obtain⟨i,hi,G⟩:=G;have fin:(∃s,It J S.w.heap.size S.ok fn.ntmps i s a w)->LeavesInM Fence.wide 0 P fn a.tmps (λe W'=> ∃v Pr i,e= .returned v/\X.fin i/\J i Pr W') a.defers .returning w:=by
   rintro⟨s,C1,S1,Pr1,rfl,hE,hd,_,aa,_,_⟩;rw[hd];simp only[LeavesInM,LeavesIn];obtain⟨v,Z,_⟩:=nS (P:=P) hE (fn:=fn) (xs:=[]) (by rw[Q];rfl);exact⟨v,Z,v,Pr1,i,rfl,hi,aa⟩
  cases e<;>simp only[RT] at G<;>simp only[bodyPostM]
  .obtain⟨s,_,h⟩:=G;exact fin ⟨s,h⟩
  .obtain⟨s,h,_⟩:=G;rcases h with h|h<;>cases h
  .obtain⟨s,_,h⟩:=G;exact fin ⟨s,h⟩
def sP{P:Program}{gf:Nat}{fn:Func}{c:Code}(hf:P.funcs[gf]? =some fn)(hb:fn.body=some c)(G:fn.results.toList=[]){capt:List D}{xs:List (List D)}(z:capt.length+1<=fn.ntmps)
 (hk: ∀(l:Nat) (J:Nat->(Nat->Prop)->World->Prop) (base:Nat) (ok0:Nat->Prop),Ns base J->
  (∀i x j args Pr W,(xs[i]? =some x/\j=i+1)->(∀ok hp,rdl ok hp x args.toList)->J i Pr W->YieldAt Fence.wide 0 P l args W λe W'=>e= .returned (.bool true)/\ ∃Pr',J j Pr' W'/\HZ ok0 Pr W Pr' W')->
  ∀a w,It J base ok0 fn.ntmps 0 ⟨entry 0 (.im (.fn (1000000000+l) [] [])::capt.map .im),[],0⟩ a w->c.wpIn Fence.wide 0 P (RT J base ok0 fn.ntmps xs.length (λe _=>e= .normal\/e= .ret)) a w):Jp P gf capt xs:=
 RU (X:=eG xs) hf hb G z λl J base ok0 Q Z a w O=>wpIn_mono (hk l J base ok0 Q Z a w O) λ_ _ _ h=>⟨xs.length,rfl,h⟩
end Go.Ae
namespace Go.Ae
open Go Go.Proofs
def qV:CK:=PI [(151,step_.row),(287,placeAt.row)]
def Oj:Ja Tryz.prog qV:=PQ _ (by
 intro p hp;simp only[Bi,jF,dP] at hp;rcases hp with rfl|rfl
 .exact step_.ok
 .exact placeAt.ok)
def Gx(a:Ah)(k:Nat):Nat->List (List D)
 |0=>[]
 |j+1=>Gx a k j++if 0<=GB a k (1 - j) then [[.agg [.int .i64 k,.int .i64 (GB a k (1 - j))],.int .i64 (1 - j)]] else []
def Cl(a:Ah):Nat->List (List D)
 |0=>[]
 |k+1=>Cl a k++Gx a k 2
def Qzu(a:Ah): ∀(n k:Nat),k<=n-> ∃r,Cl a n=Cl a k++r
 |0,k,h=>⟨[],by obtain rfl:k=0:=by omega
                rw[DA]⟩
 |n+1,k,h=>by
  by_cases z:k=n+1
  .subst z;exact⟨[],by rw[DA]⟩
  .obtain⟨r,G⟩:=Qzu a n k (by omega);exact⟨r++Gx a n 2,by rw[Cl,G,HP]⟩
def Qv3(a:Ah)(k:Nat): ∀(n j:Nat),j<=n-> ∃r,Gx a k n=Gx a k j++r
 |0,j,h=>⟨[],by obtain rfl:j=0:=by omega
                rw[DA]⟩
 |n+1,j,h=>by
  by_cases z:j=n+1
  .subst z;exact⟨[],by rw[DA]⟩
  .obtain⟨r,G⟩:=Qv3 a k n j (by omega);rw[Gx,G];exact⟨_,by rw[HP]⟩
def Xy(a:Ah){n k j:Nat}(O:k<n)(Q:j<2)(h:0<=GB a k (1 - j)):(Cl a n)[(Cl a k).length+(Gx a k j).length]? =some [.agg [.int .i64 k,.int .i64 (GB a k (1 - j))],.int .i64 (1 - j)]:=by
 obtain⟨Z,z⟩:=Qzu a n (k+1) O;obtain⟨r2,G⟩:=Qv3 a k 2 (j+1) (by omega);rw[z,Cl,G,Gx,Ao h,HP,HP,HP,Fo (Nat.le_add_right _ _),rL,Fo (AN _),GS];rfl
def ID(l:Nat)(A:Ah)(k:Nat):Aj:=⟨[(11,.im (.int .i64 k)),(10,.im (.int .i64 A.Tiles.length)),(9,.im (.sl false 3 (A.Tiles.map Ak.c))),(1,.im (.ref (Ah.c A))),(0,.im (.fn (1000000000+l) [] []))],[],0⟩
def Dq(l:Nat)(A:Ah)(k:Nat)(p:Ak)(j:Nat):Aj:=⟨[(18,.im (.int .i64 j)),(17,.im (.int .i64 2)),(16,.own 1),(4,.ptr 0 0),(3,.im (.int .i64 k)),(11,.im (.int .i64 k)),(10,.im (.int .i64 A.Tiles.length)),(9,.im (.sl false 3 (A.Tiles.map Ak.c))),(1,.im (.ref (Ah.c A))),(0,.im (.fn (1000000000+l) [] []))],
 [(0,(true,.cells 137 [.im (.int .i64 p.At.X),.im (.int .i64 p.At.Y),.im (.int .i64 p.Tile)])),(1,(true,.arr 2 1 (([1,0]:List Int).map Al)))],2⟩
def S7(A:Ah)(hA:BV none A.Tiles=true)(hl:A.Tiles.length<=1000000)(hS: ∀x∈A.Tiles,HB x.At):Jp Tryz.prog 286 [.ref (Ah.c A)] (Cl A A.Tiles.length):=by
 refine sP Tryz.func286 rfl rfl (by simp) ?_;intro l J base ok0 z hY a w ad;have HV:=cM Oj;obtain⟨R,hR⟩: ∃R,R=RT J base ok0 Tryz.f286.ntmps (Cl A A.Tiles.length).length (λe _=>e= .normal\/e= .ret):=⟨_,rfl⟩;rw[<-hR];simp only[Tryz.f286] at ad⊢;refine K7 C9 HV z (by decide) (by decide) ad (Qx:=BD (ID l A 0)) ?_ (λs a w G O=> ?_) (λ_ _ _ _ h=>h.elim) (λ_ _ _ h=>h.elim)
 .simp(disch:=omega)only[ZA,simprocAttr,BD,ID,entry,Ah.c,sub];exact λ_=>trivial
 have Z:=F4 O G (by simp[ID,Aj.good,An,Ac,A9,AV.bel]) z;clear G O ad;refine wpIn_block (wpIn_loop_ghost (λm a w=> ∃k,k<=A.Tiles.length/\m=A.Tiles.length - k/\It J base ok0 41 (Cl A k).length (ID l A k) a w) A.Tiles.length ⟨0,CF _,rfl,Z⟩ ?_);clear Z;rintro m a w ⟨k,hk,hm,h⟩;refine K7 C9 HV z (by decide) (by decide) h (Qx:=BD ⟨(12,.im (.bool (decide (k<A.Tiles.length))))::(ID l A k).tm,[],0⟩) ?_ (λs a w G O=> ?_) (λ_ _ _ _ h=>h.elim) (λ_ _ _ h=>h.elim)
 .simp(disch:=omega)only[ZA,simprocAttr,BD,ID,sub]
 have Z:=F4 O G (by simp[ID,Aj.good,An,Ac,A9,AV.bel]) z;clear G O h;refine K7 C9 HV z (by decide) (by decide) Z (Qx:=I1 (ID l A k) (k<A.Tiles.length) (¬k<A.Tiles.length) 0) ?_ (λs a w G O=> ?_) (λid s a w G O=> ?_) (λ_ _ _ h=>h.elim)
 .simp(disch:=omega)only[ZA,simprocAttr,I1,ID,sub]
  split<;>assumption
 rotate_left
 .obtain⟨rfl,h4,G⟩:=G;have ag:k=A.Tiles.length:=by omega
  subst ag;simp only[Exit.then,Exit.inBlock,BI,hR,RT];exact⟨s,.inl trivial,O⟩
 obtain⟨af,G⟩:=G;have h:=F4 O G (by simp[ID,Aj.good,An,Ac,A9,AV.bel]) z;clear G O Z;obtain⟨p,hp⟩: ∃p,A.Tiles[k]? =some p:=⟨_,Bh af⟩;refine wpIn_seq (wpIn_block ?_);refine K7 C9 HV z (by decide) (by decide) h (Qx:=BD ⟨(4,.ptr 0 0)::(3,.im (.int .i64 k))::(ID l A k).tm,[(0,(true,.cells 137 [.im (.int .i64 p.At.X),.im (.int .i64 p.At.Y),.im (.int .i64 p.Tile)]))],1⟩) ?_ (λs a w G O=> ?_) (λ_ _ _ _ h=>h.elim) (λ_ _ _ h=>h.elim)
 .simp(disch:=omega)only[ZA,simprocAttr,BD,ID,sub];refine⟨af,λq hq=> ?_⟩;rw[hp] at hq;obtain rfl:=AE hq;exact⟨rfl,rfl,rfl⟩
 have Z:=F4 O G (by simp[ID,Aj.good,An,Ac,Av,A9,AV.bel]) z;clear G O h;refine K7 C9 HV z (by decide) (by decide) Z (Qx:=BD (Dq l A k p 0)) ?_ (λs a w G O=> ?_) (λ_ _ _ _ h=>h.elim) (λ_ _ _ h=>h.elim)
 .simp(disch:=omega)only[ZA,simprocAttr,BD,ID,Dq,sub]
 have h:=F4 O G (by simp[Dq,Aj.good,An,Ac,Av,A9,AV.bel]) z;clear G O Z;refine wpIn_block (wpIn_loop_ghost (λm a w=> ∃j,j<=2/\m=2 - j/\It J base ok0 41 ((Cl A k).length+(Gx A k j).length) (Dq l A k p j) a w) 2 ⟨0,CF _,rfl,h⟩ ?_);clear h;rintro m2 a w ⟨j,hj,ai,h⟩;refine K7 C9 HV z (by decide) (by decide) h (Qx:=BD ⟨(19,.im (.bool (decide (j<2))))::(Dq l A k p j).tm,(Dq l A k p j).h,2⟩) ?_ (λs a w G O=> ?_) (λ_ _ _ _ h=>h.elim) (λ_ _ _ h=>h.elim)
 .simp(disch:=omega)only[ZA,simprocAttr,BD,Dq,sub];rw[decide_eq_decide];omega
 have Z:=F4 O G (by simp[Dq,Aj.good,An,Ac,Av,A9,AV.bel]) z;clear G O h;refine K7 C9 HV z (by decide) (by decide) Z (Qx:=I1 (Dq l A k p j) (j<2) (¬j<2) 2) ?_ (λs a w G O=> ?_) (λid s a w G O=> ?_) (λ_ _ _ h=>h.elim)
 .simp(disch:=omega)only[ZA,simprocAttr,I1,Dq,sub]
  split<;>assumption
 rotate_left
 .obtain⟨rfl,h4,G⟩:=G;have ac:j=2:=by omega
  subst ac;have h5:=F4 O G (by simp[Dq,Aj.good,An,Ac,Av,A9,AV.bel]) z;simp only[Exit.then,Exit.inBlock,BI];refine qK C9 HV z (by decide) (by decide) h5 (Qx:=BD (ID l A (k+1))) ?_ (λs a w G O=> ?_) (λ_ _ _ _ h=>h.elim) (λ_ _ _ h=>h.elim)
  .simp(disch:=omega)only[ZA,simprocAttr,BD,Dq,ID,sub];rw[AG (by omega) (by omega)];omega
  have h6:=F4 O G (by simp[ID,Aj.good,An,Ac,A9,AV.bel]) z;refine⟨A.Tiles.length - (k+1),by omega,k+1,by omega,rfl,?_⟩;rw[Cl,Dn];exact h6
 obtain⟨ac,G⟩:=G;have h:=F4 O G (by simp[Dq,Aj.good,An,Ac,Av,A9,AV.bel]) z;clear G O Z;refine wpIn_seq (wpIn_block ?_);refine K7 C9 HV z (by decide) (by decide) h (Qx:=BD ⟨(6,.im (.int .i64 (1 - (j:Int))))::(Dq l A k p j).tm,(Dq l A k p j).h,2⟩) ?_ (λs a w G O=> ?_) (λ_ _ _ _ h=>h.elim) (λ_ _ _ h=>h.elim)
 .simp(disch:=omega)only[ZA,simprocAttr,Dq];refine⟨by omega,ac,λrow aa=> ?_⟩;rcases (show j=0\/j=1 by omega) with rfl|rfl
  .simp only[GL,AI] at aa;subst aa;simp(disch:=omega)only[ZA,simprocAttr,BD,sub]
   try rfl
  .simp only[Jd,GL,AI] at aa;subst aa;simp(disch:=omega)only[ZA,simprocAttr,BD,sub]
   try rfl
 have Z:=F4 O G (by simp[Dq,Aj.good,An,Ac,Av,A9,AV.bel]) z;clear G O h;refine K7 C9 HV z (by decide) (by decide) Z (Qx:=BD ⟨(7,.im (.int .i64 (GB A k (1 - (j:Int)))))::(6,.im (.int .i64 (1 - (j:Int))))::(Dq l A k p j).tm,(Dq l A k p j).h,2⟩) ?_ (λs a w G O=> ?_) (λ_ _ _ _ h=>h.elim) (λ_ _ _ h=>h.elim)
 .simp only[qV];simp(disch:=omega)only[ZA,simprocAttr,Ah.d,BD,Dq,sub,step_.q,step_.re,step_.fv,placeAt.q,placeAt.re,placeAt.fv];refine⟨⟨hS p (AY hp),by omega,by omega⟩,hA,?_⟩;simp only[GB,Bt,hp,Ds,AQ]
 have h:=F4 O G (by simp[Dq,Aj.good,An,Ac,Av,A9,AV.bel]) z;clear G O Z;obtain⟨nb,hnb⟩: ∃nb,nb=GB A k (1 - (j:Int)):=⟨_,rfl⟩;rw[<-hnb] at h;have ab:Gx A k (j+1)=Gx A k j++if 0<=nb then [[.agg [.int .i64 k,.int .i64 nb],.int .i64 (1 - (j:Int))]] else []:=by rw[Gx,<-hnb]
 refine wpIn_seq (wpIn_mono (Q:=λe a w=>e= .normal/\It J base ok0 41 ((Cl A k).length+(Gx A k (j+1)).length) ⟨(38,.im (.bool false))::(Dq l A k p j).tm,(Dq l A k p j).h,2⟩ a w) ?_ ?_)
 .by_cases hn:0<=nb
  .rw[Ao hn] at ab;have hx:=Xy A (n:=A.Tiles.length) af ac (by rw[<-hnb];exact hn);rw[<-hnb] at hx;refine Xl HV z hY 8 rfl (by decide) (by decide) (by decide) (s1:=⟨(30,.im (.bool true))::(31,.im (.fn (1000000000+l) [] []))::(34,.im (.agg [.int .i64 k,.int .i64 nb]))::(35,.im (.int .i64 (1 - (j:Int))))::(Dq l A k p j).tm,(Dq l A k p j).h,2⟩) rfl rfl rfl rfl rfl rfl rfl rfl (by simp[D.scs,D.sc]) ⟨hx,rfl⟩ ?_ (by decide) ?_ ?_ h ?_ ?_ (λa w h9=>⟨rfl,by rw[ab,Dn,<-PA];exact h9⟩)
   .intro n e he;simp only[Dq,hget] at he;cases h0:(0==n)<;>rw[h0] at he<;>simp only[Ca,B8] at he
    .cases G:(1==n)<;>rw[G] at he<;>simp only[Ca,B8,reduceCtorEq,AI] at he;subst he;rfl
    .simp only[AI] at he;subst he;rfl
   .simp[Dq,Aj.good,An,Ac,Av,A9,AV.bel]
   .simp[Dq,Aj.good,An,Ac,Av,A9,AV.bel]
   .have aj:decide (nb≥0)=true:=by simpa using hn
    have ah:decide (0<=nb)=true:=by simpa using hn
    simp only[qV];simp(disch:=omega)only[ZA,simprocAttr,Dq,sub,Zk hn]
   .change Ki _ _ _ _ (Aj.put _ (some 36) (.im (.bool true)));simp only[qV];simp(disch:=omega)only[ZA,simprocAttr,Dq,sub]
  .rw[Ag hn,DA] at ab;refine qK C9 HV z (by decide) (by decide) h (Qx:=BD ⟨(38,.im (.bool false))::(Dq l A k p j).tm,(Dq l A k p j).h,2⟩) ?_ (λs a w G O=>⟨rfl,by rw[ab];exact F4 O G (by simp[Dq,Aj.good,An,Ac,Av,A9,AV.bel]) z⟩) (λ_ _ _ _ h=>h.elim) (λ_ _ _ h=>h.elim);simp only[qV];simp(disch:=omega)only[ZA,simprocAttr,BD,Dq,sub,eq_false hn]
 .rintro e a w ⟨rfl,h⟩;simp only[Exit.then];refine qK C9 HV z (by decide) (by decide) h (Qx:=BD (Dq l A k p j)) ?_ (λs a w G O=> ?_) (λ_ _ _ _ h=>h.elim) (λ_ _ _ h=>h.elim)
  .simp(disch:=omega)only[ZA,simprocAttr,BD,Dq,sub]
  have Z:=F4 O G (by simp[Dq,Aj.good,An,Ac,Av,A9,AV.bel]) z;simp only[Exit.inBlock,Exit.then];refine qK C9 HV z (by decide) (by decide) Z (Qx:=BD (Dq l A k p (j+1))) ?_ (λs a w G O=> ?_) (λ_ _ _ _ h=>h.elim) (λ_ _ _ h=>h.elim)
  .simp(disch:=omega)only[ZA,simprocAttr,BD,Dq,sub];rw[AG (by omega) (by omega)];omega
  have h6:=F4 O G (by simp[Dq,Aj.good,An,Ac,Av,A9,AV.bel]) z;exact⟨2 - (j+1),by omega,j+1,by omega,rfl,h6⟩
def tG:D->Option Ah
 | .fn g [] [.ref ds]=>if g=286 then Ah.d ds else none
 |_=>none
def eW: ∀d b,tG d=some b->Le d (.fn 286 [] [.ref (Ah.c b)]):=by
 intro d b h;unfold tG at h;split at h
 .rename_i g ds;split at h
  .rename_i z;subst z;refine Qq ?_;exact⟨Qm (Ah.d_le _ _ h).leP,trivial⟩
  .cases h
 .cases h
def tH(b:Ah):tG (.fn 286 [] [.ref (Ah.c b)])=some b:=by
 simp only[tG,BI,Ah.d_c]
def nbrs.rc:D->Option (Ah):=tG
def nbrs.re:Ah->D:=λa=>D.fn 286 [] [.ref (Ah.c a)]
def nbrs.rle: ∀d b,nbrs.rc d=some b->Le d (nbrs.re b):=eW
def nbrs.fv(a:Ah):Ah:=(λa=>a) a
def nbrs.row:A7:=vK (b1 (qR Ah.d_le)) (RK.mk nbrs.rc nbrs.re nbrs.rle) (λa=>True) nbrs.fv
def nbrs.q:=AU (R:=nbrs.row) rfl
def nbrs.ok:AA Tryz.prog 269 nbrs.row:=by
 refine vw tN Tryz.func269 rfl (by kernel_rfl) ?_;intro a z;simp only[Tryz.f269];simp(disch:=omega)only[ZA,simprocAttr,nbrs.fv,nbrs.rc];exact .inl (tH a)
def xF(s:AB)(a:Ah):Prop:=Cu s/\Hm s a/\a.Tiles.length<=1000000/\ ∀x∈a.Tiles,HB x.At
def IL(s:AB)(a:Ah):List D->List Af
 |[.agg [.int .i64 k,.int .i64 m],.int .i64 d]=>if 0<K3 s (Gd a k) d (Gd a m) then [⟨k,m,K3 s (Gd a k) d (Gd a m)⟩] else []
 |_=>[]
def EE(s:AB)(a:Ah)(i:Nat):List Af:=((Cl a a.Tiles.length).take i).flatMap (IL s a)
def SM(s:AB)(a:Ah):EE s a (Cl a a.Tiles.length).length=Fl s a a.Tiles.length:=by
 rw[EE,HJ];have z: ∀k j,(Gx a k j).flatMap (IL s a)=J5 s a k j:=by
  intro k j;induction j with
  |zero=>rfl
  |succ j ih=>
   rw[Gx,yO,ih,J5];congr 1;simp only[Wo];split
   .simp only[Gj,ZeG,DA,IL]
   .rfl
 have G: ∀n,(Cl a n).flatMap (IL s a)=Fl s a n:=by
  intro n;induction n with
  |zero=>rfl
  |succ n ih=>rw[Cl,yO,ih,z,Fl]
 exact G _
def Qv6(s:AB)(a:Ah){i:Nat}{x:List D}(h:(Cl a a.Tiles.length)[i]? =some x):EE s a (i+1)=EE s a i++IL s a x:=by
 rw[EE,GO,h,yO,EE];simp
def LK(a:Ah){x:List D}(h:x∈Cl a a.Tiles.length): ∃k m d:Int,x=[.agg [.int .i64 k,.int .i64 m],.int .i64 d]/\0<=k/\k<a.Tiles.length/\0<=m/\m<a.Tiles.length/\0<=d/\d<=1:=by
 have G: ∀(k:Nat) j,j<=2->k<a.Tiles.length->x∈Gx a k j-> ∃k m d:Int,x=[.agg [.int .i64 k,.int .i64 m],.int .i64 d]/\0<=k/\k<a.Tiles.length/\0<=m/\m<a.Tiles.length/\0<=d/\d<=1:=by
  intro k j;induction j with
  |zero=>intro _ _ h;simp[Gx] at h
  |succ j ih=>
   intro Z Q z;rw[Gx,Br] at z;rcases z with z|z
   .exact ih (by omega) Q z
   .split at z
    .rename_i h0;obtain rfl:=BE.1 z;exact⟨k,GB a k (1 - j),1 - j,rfl,by omega,by omega,h0,JZ _ _ _,by omega,by omega⟩
    .cases z
 have O: ∀n,n<=a.Tiles.length->x∈Cl a n-> ∃k m d:Int,x=[.agg [.int .i64 k,.int .i64 m],.int .i64 d]/\0<=k/\k<a.Tiles.length/\0<=m/\m<a.Tiles.length/\0<=d/\d<=1:=by
  intro n;induction n with
  |zero=>intro _ h;simp[Cl] at h
  |succ n ih=>
   intro hn z;rw[Cl,Br] at z;rcases z with z|z
   .exact ih (by omega) z
   .exact G n 2 (AN _) hn z
 exact O _ (AN _) h
def S6(a:Ah): ∀n,(Cl a n).length<=2*n:=by
 have z: ∀k j,(Gx a k j).length<=j:=by
  intro k j;induction j with
  |zero=>simp[Gx]
  |succ j ih=>rw[Gx,Dn];split<;>simp<;>omega
 intro n;induction n with
 |zero=>simp[Cl]
 |succ n ih=>have:=z n 2;rw[Cl,Dn];omega
def SN(s:AB)(a:Ah)(i:Nat):(EE s a i).length<=i:=by
 induction i with
 |zero=>simp[EE]
 |succ i ih=>
  cases h:(Cl a a.Tiles.length)[i]? with
  |none=>
   have:EE s a (i+1)=EE s a i:=by
    have z:=Zev.1 h;rw[EE,EE,DB (by omega),DB z]
   rw[this];omega
  |some x=>
   rw[Qv6 s a h,Dn]
   have:(IL s a x).length<=1:=by
    unfold IL;split
    .split<;>simp
    .simp
   omega
def iO:CK:=PI [(269,nbrs.row),(213,bond_.row)]
def NH:Ja Tryz.prog iO:=PQ _ (by
 intro p hp;simp only[Bi,jF,dP] at hp;rcases hp with rfl|rfl
 .exact nbrs.ok
 .exact bond_.ok)
def Vj: ∀(H:Ap),(H.all λp=> !p.2.2.isView)=true-> ∀o e,hget H o=some e->e.2.isView=false
 |[],_,o,e,h=>by cases h
 |(n,x)::r,z,o,e,h=>by
  simp only[Je,AS,Nz] at z;simp only[hget] at h;cases hq:(n==o)<;>rw[hq] at h
  .exact Vj r z.2 o e h
  .simp only[Ca,AI] at h;subst h;exact z.1
def rF{P:Program}{V:CK}{C:AX}{N:Nat}(Z:P.follows .mixedOrders=true)(HV:GI P V){x y:Code}(G:DY N x=true)(z:Hk x=true){s':Aj}{Q:Exit->Act->World->Prop}{s:Aj}{a:Act}{w:World}(hc:B9 C N s a w)(hk:CM P V x (BD s') s)(hg:s'.good=true)(O:C.n0<=s'.nx)
 (hn: ∀a w,B9 C N s' a w->y.wpIn Fence.wide 0 P Q a w):(x.seq y).wpIn Fence.wide 0 P Q a w:=by
 refine wpIn_seq (wpIn_mono (gP (ro:=none) Z HV x G z _ s a w hk hc) ?_);intro e a' w' hq;cases e<;>simp only[FB] at hq<;>simp only[Exit.then]
 .obtain⟨s1,h1,h2⟩:=hq;exact hn _ _ (iK h2 h1 hg O)
 .obtain⟨_,h,_⟩:=hq;exact h.elim
 .obtain⟨_,h,_⟩:=hq;exact h.elim
def bnds.rc:D->Option (List Af):=PL Af.d
def bnds.re:(List Af)->D:=λb=>D.sl false 3 (b.map Af.c)
def bnds.rle: ∀d b,bnds.rc d=some b->Le d (bnds.re b):=nU Af.d_le (λ_=>rfl)
def bnds.ar:List PK->Option (AB×Ah):=a2 (kR AB.d) (kR Ah.d)
def bnds.ae(a:AB×Ah):List PK:=[.val (.agg (AB.c a.1)),.val (.agg (Ah.c a.2))]
def bnds.le: ∀z a,bnds.ar z=some a->BA z (bnds.ae a):=(Zn (I7 AB.d_le) (I7 Ah.d_le))
def bnds.fv(a:AB×Ah):List Af:=(λs a=>Fl s a a.Tiles.length) (a.1) (a.2)
def bnds.row:A7:=CN (b2 (qR AB.d_le) (qR Ah.d_le)) (RK.mk bnds.rc bnds.re bnds.rle) (λa=>xF a.1 a.2) bnds.fv
def bnds.q:=DO (R:=bnds.row) rfl
def bnds.ok:AA Tryz.prog 246 bnds.row:=by
 refine Quy (by kernel_rfl) bnds.le bnds.rle ?_;intro a ac C S vs RR hW ad aa;refine Pl Tryz.func246 rfl (by simp[bnds.ae]) ?_ hW ad aa;clear aa ad hW;intro C0 ao w hw ab hc am;have HV:=cM NH;have an:C0.ds=[]:=by obtain⟨S0,_,h⟩:=hc;rw[<-h.defers];exact am
 simp only[Tryz.f246] at hc⊢;obtain⟨s,A⟩:=a;obtain⟨h1,h2,h3,h4⟩:=ac;simp only at h1 h2 h3 h4;refine rF C9 HV (by decide) (by decide) (s':=⟨[(3,.ptr 1 0),(2,.ptr 0 0)],[(0,(true,.cells 45 ((AB.c s).map .im))),(1,(true,.cells 39 ((Ah.c A).map .im)))],2⟩) hc ?_ ?_ (by rw[ab];exact CF _) (λa w hc=> ?_)
 .simp only[iO];simp(disch:=omega)only[ZA,simprocAttr,BD,sub,bnds.ae,De,Dr,BF,entry]
 .simp[Aj.good,An,Ac,Av,A9,AV.bel,AB.c,Ah.c]
 refine rF C9 HV (by decide) (by decide) (s':=⟨[(5,.ptr 2 0),(3,.ptr 1 0),(2,.ptr 0 0)],[(0,(true,.cells 45 ((AB.c s).map .im))),(1,(true,.cells 39 ((Ah.c A).map .im))),(2,(true,.cells 281 [.im (.sl true 0 [])]))],3⟩) hc ?_ ?_ (by rw[ab];exact CF _) (λa w hc=> ?_)
 .simp only[iO];simp(disch:=omega)only[ZA,simprocAttr,BD,sub]
 .simp[Aj.good,An,Ac,Av,A9,AV.bel,AB.c,Ah.c]
 refine wpIn_seq ?_;refine rF C9 HV (by decide) (by decide) (s':=⟨[(10,.im (.fn 286 [] [.ref (Ah.c A)])),(5,.ptr 2 0),(3,.ptr 1 0),(2,.ptr 0 0)],[(0,(true,.cells 45 ((AB.c s).map .im))),(1,(true,.cells 39 ((Ah.c A).map .im))),(2,(true,.cells 281 [.im (.sl true 0 [])]))],3⟩) hc ?_ ?_ (by rw[ab];exact CF _) (λa w hc=> ?_)
 .simp only[iO];simp(disch:=omega)only[ZA,simprocAttr,Ah.d,BD,sub,nbrs.q,nbrs.re,nbrs.fv]
 .simp[Aj.good,An,Ac,Av,A9,AV.bel,AB.c,Ah.c]
 refine wpIn_block (wpIn_mono (Tc C9 HV hc (gf:=286) (capt:=[.ref (Ah.c A)]) (xs:=Cl A A.Tiles.length) (Nn (by kernel_rfl)) (S7 A h2.1 h3 h4) (by decide) (by decide) (by decide) (by decide) ?_ (by decide)
  (tm0:=[(10,.im (.fn 286 [] [.ref (Ah.c A)])),(5,.ptr 2 0),(3,.ptr 1 0),(2,.ptr 0 0)]) (hs:=λi=>[(0,(true,.cells 45 ((AB.c s).map .im))),(1,(true,.cells 39 ((Ah.c A).map .im))),(2,(true,.cells 281 [.own 3])),(3,(true,.arr 318 3 ((EE s A i).map Af.c)))]) (nx:=4) ⟨[(3,none)],?_⟩ rfl (by simp) ?_ ?_ ?_ ?_) ?_)
 .intro x hx;obtain⟨k,m,d,rfl,_⟩:=LK A hx;rfl
 .simp only[A8];simp(disch:=omega)only[ZA,simprocAttr,Bz,cW,EE]
 .simp[An,AV.bel]
 .intro i hi;simp[Aj.good,An,Ac,Av,A9,AV.bel,AB.c,Ah.c]
 .intro i o e he hv;rw[Vj _ (by rfl) o e he] at hv;cases hv
 .intro i x hx;have aq:=SN s A i;have au:=(Cd.1 hx).1;have av:=S6 A A.Tiles.length;obtain⟨k,m,d,rfl,k0,k1,m0,m1,d0,d1⟩:=LK A (AY hx);have G:=Qv6 s A hx;simp only[IL] at G;simp only[iO];simp(disch:=omega)only[ZA,simprocAttr,NA,Ty,EY,bond_.q,bond_.re,bond_.fv,AP];refine⟨k0,k1,λp hp=>⟨m0,m1,λq hq=>⟨⟨h1,h2.2 p (AY hp),⟨d0,by omega⟩,h2.2 q (AY hq)⟩,λhb=>⟨?_,by omega,[(3,some 6)],?_⟩,λhb=>⟨[],?_⟩⟩⟩⟩
  .intro row Q;obtain rfl:=BE.1 Q;rfl
  all_goals
   have e1:Gd A k=p.Tile:=by simp[Gd,hp]
   have e2:Gd A m=q.Tile:=by simp[Gd,hq]
   rw[e1,e2] at G
  .rw[Ao hb] at G;simp only[A8];simp(disch:=omega)only[ZA,simprocAttr,Bz,G];simp[Af.c]
  .rw[Ag hb,DA] at G;simp only[A8];simp(disch:=omega)only[ZA,simprocAttr,Bz,G]
 .intro e a' w' hq;cases e<;>simp only[XK] at hq;obtain⟨C2,S2,Dk,rfl,hE,O,ht,hd,af,ag,ah,ai,aj⟩:=hq;simp only[Exit.inBlock,Exit.then];have ak:a.defers=[]:=by obtain⟨S0,_,h⟩:=hc;rw[h.defers];exact an
  rw[ak] at hd;have hm: ∀a'':Act,a''.defers=C2.ds->qJ C0 C2 a''.defers:=λa'' h=> .inr ⟨Dk,by rw[h,<-hE.defers,hd],af,ag,ah,ai,aj⟩
  refine wpIn_mono (gP (ro:=none) C9 HV _ (by decide) (by decide) (YX Tryz.prog [ResultVar.tmp 4] (Bv bnds.rc (bnds.fv (s,A)))) _ a' S2.w ?_ ⟨S2,rfl,hE⟩) ?_
  .simp only[iO];simp(disch:=omega)only[ZA,simprocAttr,bnds.rc,bnds.fv,SM,Bv];intro row Q;obtain⟨b,_,rfl⟩:=Bm.1 Q;rfl
  .intro e a'' w'' hq;cases e<;>simp only[FB] at hq<;>simp only[O9]
   .obtain⟨s',Z,z⟩:=hq;exact⟨s',C2,Z,z,O,hm a'' (by obtain⟨S0,_,h⟩:=z;exact h.defers)⟩
   .obtain⟨s',Z,z⟩:=hq;exact Z.elim
   .obtain⟨s',Z,z⟩:=hq;exact⟨s',C2,Z,z,O,hm a'' (by obtain⟨S0,_,h⟩:=z;exact h.defers)⟩
end Go.Ae
namespace Go.Ae
open Go.Proofs
def KH{n:Nat}{gs:List (List Int)}(z:0<gs.length): ∀(bs:List Af),(∀b∈bs,0<b.Strength/\b.Strength<=4)-> ∀b∈Gu (Qr n gs) bs,JI gs.length b
 |[],_,b,h=>by simp[Gu] at h
 |x::r,hs,b,h=>by
  simp only[Gu] at h;have ih:=KH (n:=n) z r (λy hy=>hs y (BR _ hy)) b;split at h
  .exact ih h
  .rename_i G;rcases Bi.1 h with rfl|h
   .have O:=yE (n:=n) z x.A;have Q:=yE (n:=n) z x.B;have Z:=hs x (BM ..);exact⟨⟨O.1,O.2,Q.1,Q.2⟩,G,Z.1,Z.2⟩
   .exact ih h
def Qn(s:AB)(a:Ah)(t:Int):Bool×Bool:=
 if 64<(Dg a.Tiles.length (Fl s a a.Tiles.length) t).1 then (false,false)
 else (rC (Dg a.Tiles.length (Fl s a a.Tiles.length) t).1 (Dg a.Tiles.length (Fl s a a.Tiles.length) t).2 t,true)
def Qz2(n:Nat)(bs:List Af)(hn:0<n): ∀k,(∀v∈BX n bs k,0<=v)/\(BX n bs k)[0]? =some 0
 |0=>by
  refine⟨λv G=> ?_,vL n 0 hn⟩;obtain⟨i,O⟩:=P7.1 G;have hl:=(Cd.1 O).1;simp only[BX] at O hl;rw[vL n i (by rwa [bO] at hl)] at O
  have:=AE O
  omega
 |k+1=>by
  obtain⟨Q,h2⟩:=Qz2 n bs hn k;simp only[BX];split
  .rename_i b hb;have z: ∀i:Nat,0<=(BX n bs k)[i]?.getD 0:=by
    intro i;cases h:(BX n bs k)[i]? with
    |none=>simp
    |some v=>exact Q v (AY h)
   have hj: ∀x y v:Int,0<=x->0<=y->0<=v->0<=IY x y v:=by
    intro x y v z hy G;simp only[IY];by_cases h:v=Ec x y
    .rw[Ao h];simp only[EC];split<;>omega
    .rw[Ag h];exact G
   have Z: ∀x y:Int,0<=x->0<=y->IY x y 0=0:=by
    intro x y z hy;simp only[IY];by_cases h:(0:Int)=Ec x y
    .rw[Ao h];simp only[Ec] at h;simp only[EC];split at h<;>split<;>omega
    .rw[Ag h]
   refine⟨λv G=> ?_,?_⟩
   .obtain⟨u,hu,rfl⟩:=Bm.1 G;exact hj _ _ _ (z _) (z _) (Q u hu)
   .rw[pO,D9,h2,Ds,Z _ _ (z _) (z _)]
  .exact⟨Q,h2⟩
def Qab7{n:Nat}{bs:List Af}{t:Int}(hn:0<n):0<(Nm n bs t).length:=by
 have h:=(Qz2 n (Gg t bs) hn (Gg t bs).length).2;obtain⟨z,G⟩:=Qo6 (BX n (Gg t bs) (Gg t bs).length) n 0 h n (AN _) hn
 have:(((0:Nat):Int)::z)∈Nm n bs t:=by simpa only[Nm,UF,Bt] using G
 exact ZeI this
def KR{n:Nat}{bs:List Af}{t:Int}(hb: ∀b∈bs,JI n b)(hl:bs.length<=1000000)(O:(Dg n bs t).1<=64):LP (Dg n bs t):=by
 have Q:=Qpl (Qr n (Nm n bs t)) bs;by_cases h0:0<(Dg n bs t).1
 .have G:=KH (n:=n) (gs:=Nm n bs t) (by simp only[Dg] at h0;omega) bs (λb z=>⟨(hb b z).2.2.1,(hb b z).2.2.2⟩);refine⟨by omega,O,by simp only[Dg,Bt];omega,λb z=> ?_,λb z=> ?_,λb z=> ?_⟩
  .have:=G b (by simpa only[Dg,Bt] using z)
   exact this.1
  .have:=G b (by simpa only[Dg,Bt] using z)
   have:=this.2.2
   omega
  .have:=G b (by simpa only[Dg,Bt] using z)
   exact this.2.1
 .have hn:bs=[]:=by
   cases bs with
   |nil=>rfl
   |cons b r=>
    exfalso;have Z:=(hb b (BM ..)).1;have h6:=Qab7 (n:=n) (bs:=b::r) (t:=t) (by omega);simp only[Dg] at h0;omega
  subst hn;refine⟨by simp only[Dg];omega,O,by simp only[Dg,Gu];simp,λb z=> ?_,λb z=> ?_,λb z=> ?_⟩<;>(simp[Dg,Gu] at z)
def stabI.fv(a:AB×Ah×Int):Bool×Bool:=(Qn) (a.1) (a.2.1) (a.2.2)
def stabI.row:A7:=CN (b3 (qR AB.d_le) (qR Ah.d_le) qI) (r2 rB rB) (λa=>xF a.1 a.2.1/\a.2.1.Tiles.length<=512/\0<=a.2.2/\a.2.2<=1000000) stabI.fv
def stabI.q:=DO (R:=stabI.row) rfl
def stabI.ok:AA Tryz.prog 211 stabI.row:=by
 refine FZ (tC bnds.ok (tC contr.ok (tC holds_.ok tN))) Tryz.func211 rfl (by kernel_rfl) ?_;intro a z;simp only[Tryz.f211];simp(disch:=omega)only[ZA,simprocAttr,Ah.d,CB,stabI.fv,bnds.q,bnds.fv,bnds.re,contr.q,contr.fv,holds_.q,holds_.fv,D.sc,D.scs,Bv];obtain⟨s,A,t⟩:=a;obtain⟨G,h2,O,Q⟩:=z;simp only at G h2 O Q⊢;have Z:=xC G.1 A A.Tiles.length (AN _);have hL:=oD s A A.Tiles.length;refine⟨G,⟨by omega,λb hb=>(Z b hb).1,by omega⟩,?_⟩;split
 .rename_i h;simp only[Qn];rw[Ao h]
 .rename_i h;refine⟨⟨KR Z (by omega) (by omega),O,Q⟩,?_⟩;simp only[Qn];rw[Ag h]
def Qf(s:AB)(a:Ah)(t:Int):Bool×Int:=
 if (Fe s && FH s a)=false then (false,1)
 else if Bq t 1 16=false then (false,2)
 else if (Qn s a t).2=false then (false,4) else ((Qn s a t).1,0)
def Qof{s:AB}{a:Ah}(h:(Fe s && FH s a)=true):xF s a/\a.Tiles.length<=512:=by
 rw[AS] at h;have G:=Qge h.1;have z:=Kz h.2;refine⟨⟨G,z.1,by omega,λx O=> ?_⟩,by omega⟩
 have:=(uV _ _ z.1.1 x O).1
 simp only[EP,Bq,AS,Ch] at this;refine⟨?_,?_,?_,?_⟩<;>omega
def isStab.fv(a:AB×Ah×Int):Bool×Int:=(Qf) (a.1) (a.2.1) (a.2.2)
def isStab.row:A7:=CN (b3 (qR AB.d_le) (qR Ah.d_le) qI) (r2 rB rI) (λa=>UG a.1) isStab.fv
def isStab.q:=DO (R:=isStab.row) rfl
def isStab.ok:AA Tryz.prog 173 isStab.row:=by
 refine FZ (tC ValidAssembly_.ok (tC isTemperature.ok (tC stabI.ok tN))) Tryz.func173 rfl (by kernel_rfl) ?_;intro a z;simp only[Tryz.f173];simp(disch:=omega)only[ZA,simprocAttr,Ah.d,CB,isStab.fv,ValidAssembly_.q,ValidAssembly_.fv,isTemperature.q,isTemperature.fv,stabI.q,stabI.fv,D.sc,D.scs,Bv];obtain⟨s,A,t⟩:=a;simp only at z⊢;refine⟨z,?_⟩;split
 .rename_i c1;simp only[Qf];rw[Ao c1]
 .rename_i c1;split
  .rename_i G;simp only[Qf];rw[Ag c1,Ao G]
  .rename_i G;have Q:=Qof (s:=s) (a:=A) (by simpa using c1);have Z:Bq t 1 16=true:=by simpa using G
   simp only[Bq,AS,Ch] at Z;refine⟨⟨Q.1,Q.2,by omega,by omega⟩,?_⟩;split
   .rename_i O;simp only[Qf];rw[Ag c1,Ag G,Ao O]
   .rename_i O;simp only[Qf];rw[Ag c1,Ag G,Ag O]
def oT(y:Az):Bool:=if y.Seed.Tiles.length=0 then false else ((Qf y.Set y.Seed y.Temperature).1 && decide ((Qf y.Set y.Seed y.Temperature).2=0))
def validI_.fv(a:Az):Bool:=(oT) a
def validI_.row:A7:=CN (b1 (qR Az.d_le)) rB (λa=>UG a.Set) validI_.fv
def validI_.q:=DO (R:=validI_.row) rfl
def validI_.ok:AA Tryz.prog 123 validI_.row:=by
 refine FZ (tC isStab.ok tN) Tryz.func123 rfl (by kernel_rfl) ?_;intro a z;simp only[Tryz.f123];simp(disch:=omega)only[ZA,simprocAttr,Ah.d,CB,validI_.fv,isStab.q,isStab.fv,D.sc,D.scs,Bv];intro _;by_cases h:a.Seed.Tiles.length=0
 .rw[Ao (by omega)];simp only[oT];rw[Ao h]
 .rw[Ag (by omega)];refine⟨z,?_⟩;simp only[oT];rw[Ag h];split
  .rename_i c;rw[c,CP]
  .rename_i c;rw[N3] at c;rw[c,Ei]
def Qv9(S:Nat->Bool)(nm:List Int): ∀(bs:List Af),Cz S (Gu nm bs)=Cz S (Hg nm bs)
 |[]=>rfl
 |b::r=>by
  have ih:=Qv9 S nm r;simp only[Gu,Hg];split
  .exact ih
  .simp only[Cz,ih];congr 1;obtain⟨x,hx⟩: ∃x,x=BG nm b.A:=⟨_,rfl⟩;obtain⟨y,hy⟩: ∃y,y=BG nm b.B:=⟨_,rfl⟩;rw[<-hx,<-hy];by_cases h:x<y
   .have G:EC x y=x:=Ao h;have z:Ec x y=y:=Ag (by omega);rw[G,z]
   .have G:EC x y=y:=Ag h;by_cases Q:y<x
    .have z:Ec x y=x:=Ao Q;rw[G,z];by_cases O:S x.toNat=S y.toNat
     .rw[Ao O,Ao O.symm]
     .rw[Ag O,Ag (E9 O)]
    .have z:Ec x y=y:=Ag Q
     have:x=y:=by omega
     rw[G,z,this]
def Qxe(n:Nat)(nm:List Int)(bs:List Af)(t:Int)(k:Nat):Wd n (Gu nm bs) t k↔Wd n (Hg nm bs) t k:=by
 simp only[Wd,Qv9]
def Uh{s:AB}{A:Ah}{t:Int}(h:xF s A)(hl:A.Tiles.length<=512)(ht:0<=t):
 (Qn s A t).2=decide ((cQ s A t).2=0)/\((Qn s A t).2=true->(Qn s A t).1=(cQ s A t).1):=by
 have O:=xC h.1 A A.Tiles.length (AN _);have hL:=oD s A A.Tiles.length;obtain⟨bs,hbs⟩: ∃bs,bs=Fl s A A.Tiles.length:=⟨_,rfl⟩;obtain⟨n,hn⟩: ∃n,n=A.Tiles.length:=⟨_,rfl⟩;rw[<-hn] at O hL hbs hl;rw[<-hbs] at O hL;have hc:(Dg n bs t).1=(BY n bs t).1:=rfl;simp only[Qn,cQ,<-hn,<-hbs,hc];by_cases G:64<(BY n bs t).1
 .rw[Ao G,Ao G];exact⟨rfl,λh=>by cases h⟩
 .rw[Ag G,Ag G];have z:=KR (t:=t) O (by omega) (by rw[hc];omega);have hh:=Qtt (n:=(BY n bs t).1.toNat) (bs:=(Dg n bs t).2) (t:=t) (λb hb=>by
   have:=z.2.2.2.1 b hb
   have h0:=z.1;rw[hc] at this h0;rw[Int.toNat_of_nonneg h0];exact this) z.2.2.2.2.1 ht
  by_cases Z:(BY n bs t).1<2
  .rw[Ao Z];refine⟨rfl,λ_=> ?_⟩;simp only[rC];rw[show (BY n bs t).1.toNat - 1=0 by omega];rfl
  .rw[Ag Z];refine⟨rfl,λ_=> ?_⟩;obtain⟨p1,p2⟩:=Ms (t:=t) O (by omega) (by omega) (by omega);have hw:=(Qzk (n:=(BY n bs t).1) (bs:=(BY n bs t).2) p1 p2 ht ((BY n bs t).1 - 1).toNat (by omega) (by omega)).2;have Q:=hh ((BY n bs t).1.toNat - 1) (by omega);simp only[rC];rw[show ((BY n bs t).1 - 1).toNat=(BY n bs t).1.toNat - 1 by omega] at hw⊢;have e:Wd (BY n bs t).1.toNat (Dg n bs t).2 t ((BY n bs t).1.toNat - 1)↔Wd (BY n bs t).1.toNat (BY n bs t).2 t ((BY n bs t).1.toNat - 1):=Qxe _ _ _ _ _;rw[Q5,Q,e,<-hw];simp
def Pi(y:Az):oT y=Hl y:=by
 simp only[oT,Hl];by_cases h:y.Seed.Tiles.length=0
 .rw[Ao h]
  have:y.Seed.Tiles=[]:=rM h
  simp[this]
 .rw[Ag h];have he:y.Seed.Tiles.isEmpty=false:=by
   rw[Zew];intro Z;rw[Z] at h;simp at h
  by_cases c1:(Fe y.Set && FH y.Set y.Seed)=false
  .have e:Qf y.Set y.Seed y.Temperature=(false,1):=Ao c1;rw[e];rw[ZdV] at c1;rcases c1 with c1|c1<;>simp[c1]
  .have z:=c1;rw[HO] at c1;have hp:=Qof (s:=y.Set) (a:=y.Seed) c1;rw[AS] at c1;rw[c1.1,c1.2,he];by_cases G:Bq y.Temperature 1 16=false
   .have e:Qf y.Set y.Seed y.Temperature=(false,2):=(Ag z).trans (Ao G);rw[e,G];simp
   .have Q:=G;rw[HO] at G;have ht:0<=y.Temperature:=by simp only[Bq,AS,Ch] at G;omega
    obtain⟨q1,q2⟩:=Uh hp.1 hp.2 ht;rw[G];simp only[Ug,Q6,CP];by_cases O:(Qn y.Set y.Seed y.Temperature).2=false
    .have e:Qf y.Set y.Seed y.Temperature=(false,4):=(Ag z).trans ((Ag Q).trans (Ao O));rw[e,<-q1,O];simp
    .have e:Qf y.Set y.Seed y.Temperature=((Qn y.Set y.Seed y.Temperature).1,0):=(Ag z).trans ((Ag Q).trans (Ag O));rw[HO] at O;rw[e,<-q1,O,q2 O];simp
def Qq4{a b:Ab}(h:Bf a b=false)(G:a≠b):Bf b a=true:=by
 obtain⟨x,y⟩:=a;obtain⟨z,w⟩:=b;simp only[Bf,ne_eq,Ab.mk.injEq] at*
 grind
def DM(p:Ab)(t:Int):List Ak->List Ak
 |[]=>[⟨p,t⟩]
 |x::r=>if Bf p x.At=true then ⟨p,t⟩::x::r else x::DM p t r
def Ma(p:Ab)(t:Int): ∀(l:List Ak),Gy p t false l++(if Ij p l=true then [] else [⟨p,t⟩])=DM p t l
 |[]=>rfl
 |x::r=>by
  have ih:=Ma p t r;by_cases h:Bf p x.At=true
  .have e:Ij p (x::r)=true:=by simp only[Ij,Ao h]
   simp only[e,BI,DA,Gy,DM,Ao h,qE]
  .have e:Ij p (x::r)=Ij p r:=by simp only[Ij,Ag h]
   simp only[e,Gy,DM,Ag h,CX,ih]
def oI(a:Ah)(p:Ab)(t:Int):C7 a p t=⟨DM p t a.Tiles⟩:=by simp only[C7,Ma]
def Qlc(p:Ab)(t:Int)(y:Ak): ∀(l:List Ak),y∈DM p t l↔y=⟨p,t⟩\/y∈l
 |[]=>by simp[DM]
 |x::r=>by
  simp only[DM];split
  .simp
  .simp only[Bi,Qlc p t y r];constructor
   .rintro (h|h|h)
    .exact .inr (.inl h)
    .exact .inl h
    .exact .inr (.inr h)
   .rintro (h|h|h)
    .exact .inr (.inl h)
    .exact .inl h
    .exact .inr (.inr h)
def Qki{p:Ab}{t:Int}(hp:EP p=true)(Z:Bq t 0 159=true): ∀(l:List Ak) (q:Option Ab),BV q l=true->(∀q',q=some q'->Bf q' p=true)->(∀x∈l,x.At≠p)->BV q (DM p t l)=true
 |[],q,_,G,_=>by
  simp only[DM,Pp,oP,hp,Z,CP,ET];cases q with
  |none=>rfl
  |some q'=>exact G q' rfl
 |x::r,q,z,G,h3=>by
  have hx:=h3 x (BM ..);rw[Pp] at z;simp only[AS] at z;obtain⟨g1,g2,g3,g4⟩:=z;simp only[DM];split
  .rename_i O;rw[Pp,Pp];simp only[hp,Z,g1,g2,g4,O,CP,ET];cases q with
   |none=>rfl
   |some q'=>exact G q' rfl
  .rename_i O;rw[Pp];have ih:=Qki hp Z r (some x.At) g4 (λq' Q=>by
    obtain rfl:=AE Q;exact Qq4 (by simpa using O) (E9 hx)) (λy hy=>h3 y (BR _ hy))
   simp only[g1,g2,ih,CP,ET];exact g3
def Tq(m:Io)(o:Ah)(x:Ak):Option Ah:=
 if (m.Labels[x.Tile.toNat]?.getD 0)<0 then some o
 else if 0<=Bu o (bT x.At m.Scale).1/\Bu o (bT x.At m.Scale).1≠(m.Labels[x.Tile.toNat]?.getD 0) then none
 else if Bu o (bT x.At m.Scale).1<0 then some (C7 o (bT x.At m.Scale).1 (m.Labels[x.Tile.toNat]?.getD 0)) else some o
def FP(s:Az)(a:Ah)(o:AJ):Bool:=EP o.At && (Bq o.Tile 0 (s.Set.Tiles.length - 1) && (decide (Bn (λx=>decide (x.At=o.At)) 0 a.Tiles<0) && decide (s.Temperature<=KM s.Set a o.At o.Tile 4)))
def Qma{a:Ah}{p:Ab}(h:Bn (λx=>decide (x.At=p)) 0 a.Tiles<0): ∀x∈a.Tiles,x.At≠p:=by
 intro x O G;rcases Px (λx=>decide (x.At=p)) a.Tiles 0 with ⟨z,_⟩|⟨i,y,_,Q,_⟩
 .have:=YY.1 z x O
  simp[G] at this
 .omega
end Go.Ae
