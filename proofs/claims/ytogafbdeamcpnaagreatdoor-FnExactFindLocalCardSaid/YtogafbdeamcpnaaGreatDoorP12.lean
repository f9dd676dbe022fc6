/- Lemmas. Conditions: none. -/
import Derived.Test.YtogafbdeamcpnaaGreatDoorP11
import Derived.Sort.LoopGhostIn
set_option linter.all false
set_option maxHeartbeats 8000000
set_option maxRecDepth 100000
namespace Go.Ae
open Go
def It{ι:Type}(J:ι->(Nat->Prop)->World->Prop)(base:Nat)(ok0:Nat->Prop)(N:Nat)(i:ι)(s:Aj)(a:Act)(w:World):Prop:=
 ∃C S Pr,S.w=w/\CI C N s S a/\a.defers=[]/\base<=w.heap.size/\J i Pr w/\(∀b,EQ S b->base<=b/\ ¬Pr b)/\(∀b,S.ok b->ok0 b\/ ¬Pr b)
def SL{ι:Type}(J:ι->(Nat->Prop)->World->Prop)(base:Nat)(ok0:Nat->Prop)(N:Nat)(i:ι)(Q:Cn):Exit->Act->World->Prop
 | .normal,a,w=> ∃s,Q .normal s/\It J base ok0 N i s a w
 | .exit id,a,w=> ∃s,Q (.exit id) s/\It J base ok0 N i s a w
 | .ret,a,w=> ∃s,Q .ret s/\It J base ok0 N i s a w
 |_,_,_=>False
def MD{ok ok':Nat->Prop}{hp hp':Nat->Option Obj}: ∀(ds:List D) (vs:List Value),ds.all D.scs=true->rdl ok hp ds vs->rdl ok' hp' ds vs
 |[],_,_,hd=>by simpa only[rdl] using hd
 |d::ds,vs,h,hd=>by
  simp only[rdl,Lr,AR] at hd h⊢;obtain⟨v,r,rfl,z,G⟩:=hd;exact⟨v,r,rfl,KH h.1 z,MD ds r h.2 G⟩
section
variable {ι:Type}{P:Program}{V:CW}{N:Nat}{J:ι->(Nat->Prop)->World->Prop}{base:Nat}{ok0:Nat->Prop}{i j:ι}
def SN(hA:Ob base J){s:Aj}{a:Act}{w:World}(h:It J base ok0 N i s a w):
 ∃C1,BF C1 N s a w/\ ∀s' a' w',BF C1 N s' a' w'->It J base ok0 N i s' a' w':=by
 obtain⟨C,S,Pr,rfl,hE,hd,hb,hJ,z,Q⟩:=h;obtain⟨G,Z⟩:=hA i Pr _ hJ;refine⟨Gx S s.nx a.defers,⟨S,rfl,Y6 hE⟩,?_⟩;rintro s' a' w' ⟨S',rfl,hc⟩;have hs:S.w.heap.size<=S'.w.heap.size:=hc.wf.size;refine⟨_,S',Pr,rfl,hc,hc.defers.trans hd,D3 hb hs,Z _ hs hc.wf.os hc.wf.tape hc.wf.output ?_,λb h=> ?_,λb h=> ?_⟩
 .rintro b (h|h)
  .exact Z0 hc.wf b (G b h) (λO=>(z b O).2 h)
  .exact Z0 hc.wf b (by omega) (λO=>by have:=(z b O).1;omega)
 .rcases lI hc.wf h with q|q
  .exact⟨D3 hb q,λhp=>by have:=G b hp;omega⟩
  .exact z b q
 .rcases ZF hc.wf h with q|q|q
  .exact Q b q
  .exact .inr λhp=>by have:=G b hp;omega
  .exact .inr (z b q).2
def BH(s':Aj):Cn
 | .normal,s=>sub s s'
 | .exit _,_=>False
 | .ret,_=>False
def IP(s':Aj)(p q:Prop)(id:Nat):Cn
 | .normal,s=>p/\sub s s'
 | .exit k,s=>k=id/\q/\sub s s'
 | .ret,_=>False
def Qy6(HM:P.follows .mixedOrders=true)(HV:Hm P V)(hA:Ob base J){c:Code}(hc:Ej N c=true)(G:HC c=true){Q:Cn}{s:Aj}{a:Act}{w:World}(hk:CX P V c Q s)(h:It J base ok0 N i s a w):
 c.wpIn Fence.wide 0 P (SL J base ok0 N i Q) a w:=by
 obtain⟨C1,aa,z⟩:=SN hA h;refine wpIn_mono (kN (ro:=none) HM HV c hc G Q s a w hk aa) ?_;intro e a' w' hq;cases e<;>simp only[FW] at hq<;>simp only[SL]
 .obtain⟨s',O,Z⟩:=hq;exact⟨s',O,z _ _ _ Z⟩
 .obtain⟨s',O,Z⟩:=hq;exact⟨s',O,z _ _ _ Z⟩
 .obtain⟨s',O,Z⟩:=hq;exact⟨s',O,z _ _ _ Z⟩
def FQ{s s':Aj}{a:Act}{w:World}(h:It J base ok0 N i s a w)(hs:sub s s')(hg:s'.good=true)(hA:Ob base J):It J base ok0 N i s' a w:=by
 obtain⟨C,S,Pr,rfl,hE,hd,hb,Z,z,Q⟩:=h;have hm:Rf S S.w:=⟨AP _,rfl,rfl,rfl,λ_ _=>rfl,λ_ _=>rfl⟩;have O:CI (Gx S 0 a.defers) N s S a:=tV hE hm 0 (Cx _) a a.defers rfl rfl;obtain⟨G,aa⟩:=hA i Pr _ Z;obtain⟨S',hw,hc⟩:=lP ⟨S,rfl,O⟩ hs hg (Cx _);refine⟨_,S',Pr,hw,hc,hd,hb,Z,λb h=> ?_,λb h=> ?_⟩
 .rcases lI hc.wf h with q|q
  .exact⟨D3 hb q,λhp=>by have:=G b hp;omega⟩
  .exact z b q
 .rcases ZF hc.wf h with q|q|q
  .exact Q b q
  .exact .inr λhp=>by have:=G b hp;omega
  .exact .inr (z b q).2
def Lk(Z:P.follows .mixedOrders=true)(HV:Hm P V)(hA:Ob base J){x y:Code}(hc:Ej N x=true)(z:HC x=true){Qx:Cn}{Q:Exit->Act->World->Prop}{s:Aj}{a:Act}{w:World}(h:It J base ok0 N i s a w)(hk:CX P V x Qx s)
 (hn: ∀s a w,Qx .normal s->It J base ok0 N i s a w->y.wpIn Fence.wide 0 P Q a w)(he: ∀id s a w,Qx (.exit id) s->It J base ok0 N i s a w->Q (.exit id) a w)(hr: ∀s a w,Qx .ret s->It J base ok0 N i s a w->Q .ret a w):(x.seq y).wpIn Fence.wide 0 P Q a w:=by
 refine wpIn_seq (wpIn_mono (Qy6 Z HV hA hc z hk h) ?_);intro e a' w' hq;cases e<;>simp only[SL] at hq<;>simp only[Exit.then]
 .obtain⟨s',G,O⟩:=hq;exact hn s' _ _ G O
 .obtain⟨s',G,O⟩:=hq;exact he _ s' _ _ G O
 .obtain⟨s',G,O⟩:=hq;exact hr s' _ _ G O
def uA(Z:P.follows .mixedOrders=true)(HV:Hm P V)(hA:Ob base J){x:Code}(hc:Ej N x=true)(z:HC x=true){Qx:Cn}{Q:Exit->Act->World->Prop}{s:Aj}{a:Act}{w:World}(h:It J base ok0 N i s a w)(hk:CX P V x Qx s)
 (hn: ∀s a w,Qx .normal s->It J base ok0 N i s a w->Q .normal a w)(he: ∀id s a w,Qx (.exit id) s->It J base ok0 N i s a w->Q (.exit id) a w)(hr: ∀s a w,Qx .ret s->It J base ok0 N i s a w->Q .ret a w):x.wpIn Fence.wide 0 P Q a w:=by
 refine wpIn_mono (Qy6 Z HV hA hc z hk h) ?_;intro e a' w' hq;cases e<;>simp only[SL] at hq
 .obtain⟨s',G,O⟩:=hq;exact hn s' _ _ G O
 .obtain⟨s',G,O⟩:=hq;exact he _ s' _ _ G O
 .obtain⟨s',G,O⟩:=hq;exact hr s' _ _ G O
def W3(HV:Hm P V)(hA:Ob base J){ops:Array Oper}{seg more:List Oper}{i0:Nat}(O:ops.toList.drop i0=seg++more)(hd:J2 N seg=true)(G:WL ops=true){K:Aj->Prop}{Q:Exit->Act->World->Prop}{l2:List Nat}{s:Aj}{a:Act}{w:World}
 (hk:KM P V (Gg ops seg) K s)(h:It J base ok0 N i s a w)(hK: ∀s a w,K s->It J base ok0 N i s a w->wpOpsIn Fence.wide 0 P ops Q l2 a w):wpOpsIn Fence.wide 0 P ops Q (List.range' i0 seg.length++l2) a w:=by
 obtain⟨C1,aa,z⟩:=SN hA h;exact yH (ro:=none) G (K:=λa w=> ∃s,K s/\It J base ok0 N i s a w) (λa w ⟨s,Z,h2⟩=>hK s a w Z h2) _ _ _
  (Qpr HV (Q:=λ_ a w=> ∃s,K s/\It J base ok0 N i s a w) (λs a w Z h2=>⟨s,Z,z _ _ _ h2⟩) seg more i0 O hd s a w hk aa)
def RE{C:AW}{s:Aj}{S:A8}{a:Act}(hc:CI C N s S a){dst:Option Nat}(hd: ∀d,dst=some d->d<N){x:AV}{v:Value}(Z:x.nms=[])(Q:Aa S x v):CI C N (s.put dst x) S (a.put dst v):=by
 have G:(s.put dst x).h=s.h:=by cases dst<;>rfl
 have z:(s.put dst x).nx=s.nx:=by cases dst<;>rfl
 refine⟨hc.wf,λn=>by rw[G];exact hc.h n,?_,?_,?_,?_,?_,by rw[z];exact hc.n0,hc.pre⟩
 .intro t;rw[V1,xY (λd h=>by rw[hc.size];exact hd d h)];split
  .exact Q
  .exact hc.tm t
 .intro t;rw[V1,z];split
  .intro m O;rw[Z] at O;cases O
  .exact hc.nmT t
 .rw[G,z];exact hc.nmH
 .cases dst<;>simp[Act.put,hc.size]
 .cases dst<;>simp[Act.put,hc.defers]
def qE(hA:Ob base J){ai:ι->List D->ι->Prop}{l:Nat}(hY: ∀i x j args Pr W,ai i x j->(∀ok hp,rdl ok hp x args.toList)->J i Pr W->YieldAt Fence.wide 0 P l args W λe W'=>e= .returned (.bool true)/\ ∃Pr',J j Pr' W'/\Iz ok0 Pr W Pr' W')
 {ops:Array Oper}{k:Nat}{rest:List Nat}{o:Oper}{c:Call}{f:Operand}{x:List D}{s:Aj}{a:Act}{w:World}{Q:Exit->Act->World->Prop}(ho:ops[k]? =some o)(hw:Region.wanted o (yielded ops a.tmps)=true)(aq:o.op= .call c)(af:c.callee= .value f)
 (hf:Ay s.tm f= .im (.fn (1000000000+l) [] []))(ab:D5 s.tm c.args.toList=x.map .im)(av:x.all D.scs=true)(hx:ai i x j)(ao: ∀n e,hget s.h n=some e->e.2.isView=false)(hd: ∀d,o.dst=some d->d<N)(h:It J base ok0 N i s a w)
 (ac: ∀a' w',It J base ok0 N j (s.put o.dst (.im (.bool true))) a' w'->wpOpsIn Fence.wide 0 P ops Q rest a' w'):wpOpsIn Fence.wide 0 P ops Q (k::rest) a w:=by
 obtain⟨C,S,Pr,rfl,O,ag,hb,hJ,aa,ad⟩:=h;obtain⟨aw,_⟩:=hA i Pr _ hJ;have an:a.eval f= .func (.yield l) #[] #[]:=by
  have h1:=QN O f;rw[hf] at h1;simp only[Aa,rd,rdl] at h1;obtain⟨A,B,h2,h3,h4⟩:=h1;have e1:A= #[]:=by simpa using h3
  have e2:B= #[]:=by simpa using h4
  rw[h2,e1,e2];congr 1;unfold VK;rw[Af (by omega),uU]
 have hcl:AN S (x.map .im) (c.args.map a.eval).toList:=by
  rw[<-ab,VH];exact Qpe _ (λy _=>QN O y)
 have au: ∀ok hp,rdl ok hp x (c.args.map a.eval).toList:=λok hp=>by
  have h1:=(I0 _ _).1 hcl;exact MD _ _ av h1
 obtain⟨fn,aj,ak,bo,hy,hR⟩:=hY i x j (c.args.map a.eval) Pr S.w hx au hJ;simp only[wpOpsIn,ho,hw,BM];refine⟨λ_ _=>trivial,?_⟩;have ah:(o.semAt Fence.wide.round a.eval).run P S.w= .ok (.round l fn aj ak bo) S.w:=by
  show (execOp a.eval o).run P S.w=_;simp only[execOp,aq,resolve,af,an,Sem.run_bind];simp[Deferred.ofValue,invoke,hy]
 rw[ah,Oper.uponIn_round];refine⟨λh=>(by cases h),RoundIn.mono hR ?_⟩;rintro e W' ⟨rfl,Pr',am,G⟩;have hm:Rf S W':=by
  refine⟨G.size,G.os,G.tape,G.output,λb z=> ?_,?_⟩
  .rcases ad b z with q|q
   .exact G.same b (O.wf.oks b z) (.inr q)
   .exact G.same b (O.wf.oks b z) (.inl q)
  .rintro b ⟨o',e,lc,q1,q2,rfl⟩;have hl:=O.wf.loc o' e lc q1 q2;cases hmu:e.1 with
   |true=>exact G.same _ hl.1 (.inl (aa _ ⟨o',e,lc,q1,hmu,q2,rfl⟩).2)
   |false=>
    have Z:=hl.2;rw[hmu] at Z;simp only[CY,CH] at Z;rcases Z with Z|Z
    .rcases ad _ Z with q|q
     .exact G.same _ hl.1 (.inr q)
     .exact G.same _ hl.1 (.inl q)
    .rw[ao o' e (by rw[<-O.h o'];exact q1)] at Z;cases Z
 refine ac _ _ ⟨_,{S with w:=W'},Pr',rfl,RE (tV O hm 0 (Cx _) a [] ag rfl) hd rfl (by simp only[Aa,rd]),?_,D3 hb G.size,am,λb z=> ?_,λb z=> ?_⟩
 .cases o.dst<;>exact ag
 .have q:=aa b z;have q2:=(WJ O.wf z).1;refine⟨q.1,λhp=> ?_⟩;rcases G.pr b hp with r|r
  .exact q.2 r
  .omega
 .rcases ad b z with q|q
  .exact .inl q
  .refine .inr λhp=> ?_
   have q2:=O.wf.oks b z;rcases G.pr b hp with r|r
   .exact q r
   .omega
def XZ(HV:Hm P V)(O:Ob base J){ab:ι->List D->ι->Prop}{l:Nat}(hY: ∀i x j args Pr W,ab i x j->(∀ok hp,rdl ok hp x args.toList)->J i Pr W->YieldAt Fence.wide 0 P l args W λe W'=>e= .returned (.bool true)/\ ∃Pr',J j Pr' W'/\Iz ok0 Pr W Pr' W')
 {id:Nat}{ops:Array Oper}(k1:Nat)(au:List.range ops.size=List.range' 0 (ops.toList.take k1).length++(k1::(List.range' (k1+1) (ops.toList.drop (k1+1)).length++[])))(ac:J2 N (ops.toList.take k1)=true)(ad:J2 N (ops.toList.drop (k1+1))=true)(z:WL ops=true)
 {o:Oper}{c:Call}{f:Operand}{x:List D}(s1:Aj){s s2:Aj}{a:Act}{w:World}{Q:Exit->Act->World->Prop}{g t:Nat}(ho:ops[k1]? =some o)(ao:o.op= .call c)(Z:c.callee= .value f)(ai:o.guard=some (g,true))(aj:(ops[g]?).bind (·.dst)=some t)(ah:AE s1.tm t= .im (.bool true))
 (hf:Ay s1.tm f= .im (.fn (1000000000+l) [] []))(G:D5 s1.tm c.args.toList=x.map .im)(aq:x.all D.scs=true)(hx:ab i x j)(an: ∀n e,hget s1.h n=some e->e.2.isView=false)(hd: ∀d,o.dst=some d->d<N)(af:s1.good=true)(ag:s2.good=true)
 (h:It J base ok0 N i s a w)(ak:KM P V (Gg ops (ops.toList.take k1)) (λs=>sub s s1) s)(am:KM P V (Gg ops (ops.toList.drop (k1+1))) (λs=>sub s s2) (s1.put o.dst (.im (.bool true))))
 (aa: ∀a w,It J base ok0 N j s2 a w->Q .normal a w):(Code.region id ops false).wpIn Fence.wide 0 P Q a w:=by
 refine wpIn_region ?_;rw[au];refine W3 HV O (seg:=ops.toList.take k1) (more:=ops.toList.drop k1) (by rw[Hq,Of]) ac z ak h (λs a w h1 h2=> ?_);have h3:=FQ h2 h1 af O;have hw:Region.wanted o (yielded ops a.tmps)=true:=by
  obtain⟨C,S,Pr,_,hE,_⟩:=h3;have hy:=Qqk hE aj ah;simp[Region.wanted,ai,hy]
 refine qE O hY ho hw ao Z hf G aq hx an hd h3 (λa w h4=> ?_);refine W3 HV O (seg:=ops.toList.drop (k1+1)) (more:=[]) (by rw[D2]) ad z am h4 (λs a w h5 h6=> ?_);exact aa a w (FQ h6 h5 ag O)
end
def SM{P:Program}{gf:Nat}{fn:Func}{c:Code}(hf:P.funcs[gf]? =some fn)(hb:fn.body=some c)(Q:fn.results.toList=[]){capt:List D}{X:nA}(ad:capt.length+1<=fn.ntmps)
 (hk: ∀(l:Nat) (J:X.I->(Nat->Prop)->World->Prop) (base:Nat) (ok0:Nat->Prop),Ob base J->
  (∀i x j args Pr W,X.step i x j->(∀ok hp,rdl ok hp x args.toList)->J i Pr W->YieldAt Fence.wide 0 P l args W λe W'=>e= .returned (.bool true)/\ ∃Pr',J j Pr' W'/\Iz ok0 Pr W Pr' W')->
  ∀a w,It J base ok0 fn.ntmps X.i0 ⟨entry 0 (.im (.fn (1000000000+l) [] [])::capt.map .im),[],0⟩ a w->c.wpIn Fence.wide 0 P (λe a w=> ∃i,X.fin i/\SL J base ok0 fn.ntmps i (λe _=>e= .normal\/e= .ret) e a w) a w):KW P gf capt X:=by
 intro C S vs l J hW O hA hY ⟨Pr,hJ⟩;refine callsIn_wide.1 (callsIn_of_wp_marks (n:=0) hf hb trivial (wpIn_mono (hk l J S.w.heap.size S.ok hA hY _ _ ?_) ?_))
 .let C0:AW:=⟨S.w,λ_=>False,S.ok,0,λ_=>none,λ_=>none,[]⟩
  let S0:A8:=⟨λ_=>none,S.ok,λ_=>none,S.w⟩
  have ab:Wf C0 S0:=⟨rfl,rfl,rfl,AP _,λ_ _ _=>rfl,λ_ hb=>hb,λ_ hb=> .inl hb,hW.oks,λo e G=>(by cases G),λo e l G=>(by cases G),λo o' e e' l l' G=>(by cases G),hW.glN λ_ h=>h.elim⟩;have z:AN S0 (.im (.fn (1000000000+l) [] [])::capt.map .im) (#[Value.func (.yield l) #[] #[]]++vs).toList:=by
   rw[Zeh];refine⟨_,_,rfl,?_,(I0 _ _).2 O⟩;simp only[Aa,rd,rdl];refine⟨#[],#[],?_,rfl,rfl⟩;unfold VK;rw[Af (by omega),uU]
  have ac:(#[Value.func (.yield l) #[] #[]]++vs).size=capt.length+1:=by
   have:=I8 _ _ z
   simp at this⊢;omega
  obtain⟨As,hAs⟩: ∃As,As= #[Value.func (.yield l) #[] #[]]++vs:=⟨_,rfl⟩;rw[<-hAs] at z ac⊢;refine⟨C0,S0,Pr,rfl,⟨ab,λn=>rfl,?_,?_,?_,?_,rfl,Cx _,λo ho=>absurd ho (mG _)⟩,rfl,AP _,hJ,λb ⟨o,e,lc,h1,_⟩=>(by cases h1),λb hb=> .inl hb⟩
  .intro t;have h1:=kH (S:=S0) _ As.toList 0 t z;simp only[Cx,BM,ZX] at h1
   have:({tmps:=As++Array.replicate (fn.ntmps - As.size) undef,defers:=[]}:Act).eval (.tmp t)=(As.toList[t]?).getD undef:=by
    simp only[Act.eval,HE,vA,fP];by_cases ht:t<As.size
    .simp[ht]
    .simp only[ht,CH]
     have:As[t]? =none:=Xg (by omega)
     simp only[GX,this]
     split<;>rfl
   rw[this];exact h1
  .intro t m hm
   have:=kV _ 0 t m hm
   simp only[AG,AV.nms,Hb] at this;have h0: ∀(q:List D),AG (q.map .im)=[]:=by
    intro q;induction q with
    |nil=>rfl
    |cons d r ih=>simp only[Be,AG,AV.nms,ih,D2]
   rw[h0] at this;cases this
  .intro n e G;cases G
  .simp;omega
 .intro e a w G;obtain⟨i,hi,G⟩:=G;have fin:(∃s,It J S.w.heap.size S.ok fn.ntmps i s a w)->LeavesInM Fence.wide 0 P fn a.tmps (λe W'=> ∃v Pr i,e= .returned v/\X.fin i/\J i Pr W') a.defers .returning w:=by
   rintro⟨s,C1,S1,Pr1,rfl,hE,hd,_,aa,_,_⟩;rw[hd];simp only[LeavesInM,LeavesIn];obtain⟨v,Z,_⟩:=rJ (P:=P) hE (fn:=fn) (xs:=[]) (by rw[Q];rfl);exact⟨v,Z,v,Pr1,i,rfl,hi,aa⟩
  cases e<;>simp only[SL] at G<;>simp only[bodyPostM]
  .obtain⟨s,_,h⟩:=G;exact fin ⟨s,h⟩
  .obtain⟨s,h,_⟩:=G;rcases h with h|h<;>cases h
  .obtain⟨s,_,h⟩:=G;exact fin ⟨s,h⟩
def wF{P:Program}{gf:Nat}{fn:Func}{c:Code}(hf:P.funcs[gf]? =some fn)(hb:fn.body=some c)(G:fn.results.toList=[]){capt:List D}{xs:List (List D)}(z:capt.length+1<=fn.ntmps)
 (hk: ∀(l:Nat) (J:Nat->(Nat->Prop)->World->Prop) (base:Nat) (ok0:Nat->Prop),Ob base J->
  (∀i x j args Pr W,(xs[i]? =some x/\j=i+1)->(∀ok hp,rdl ok hp x args.toList)->J i Pr W->YieldAt Fence.wide 0 P l args W λe W'=>e= .returned (.bool true)/\ ∃Pr',J j Pr' W'/\Iz ok0 Pr W Pr' W')->
  ∀a w,It J base ok0 fn.ntmps 0 ⟨entry 0 (.im (.fn (1000000000+l) [] [])::capt.map .im),[],0⟩ a w->c.wpIn Fence.wide 0 P (SL J base ok0 fn.ntmps xs.length (λe _=>e= .normal\/e= .ret)) a w):JG P gf capt xs:=
 SM (X:=iA xs) hf hb G z λl J base ok0 Q Z a w O=>wpIn_mono (hk l J base ok0 Q Z a w O) λ_ _ _ h=>⟨xs.length,rfl,h⟩
end Go.Ae
namespace Go.Ae
open Go Go.Proofs
def uH:CW:=Qv [(151,step_.row),(287,placeAt.row)]
def OR:J1 Tryz.prog uH:=Q7 _ (by
 intro p hp;simp only[Bk,mK,gB] at hp;rcases hp with rfl|rfl
 .exact step_.ok
 .exact placeAt.ok)
def GR(a:Ak)(k:Nat):Nat->List (List D)
 |0=>[]
 |j+1=>GR a k j++if 0<=Hh a k (1 - j) then [[.agg [.int .i64 k,.int .i64 (Hh a k (1 - j))],.int .i64 (1 - j)]] else []
def Cr(a:Ak):Nat->List (List D)
 |0=>[]
 |k+1=>Cr a k++GR a k 2
def Qzu(a:Ak): ∀(n k:Nat),k<=n-> ∃r,Cr a n=Cr a k++r
 |0,k,h=>⟨[],by obtain rfl:k=0:=by omega
                rw[D2]⟩
 |n+1,k,h=>by
  by_cases z:k=n+1
  .subst z;exact⟨[],by rw[D2]⟩
  .obtain⟨r,G⟩:=Qzu a n k (by omega);exact⟨r++GR a n 2,by rw[Cr,G,Hr]⟩
def Qv3(a:Ak)(k:Nat): ∀(n j:Nat),j<=n-> ∃r,GR a k n=GR a k j++r
 |0,j,h=>⟨[],by obtain rfl:j=0:=by omega
                rw[D2]⟩
 |n+1,j,h=>by
  by_cases z:j=n+1
  .subst z;exact⟨[],by rw[D2]⟩
  .obtain⟨r,G⟩:=Qv3 a k n j (by omega);rw[GR,G];exact⟨_,by rw[Hr]⟩
def Ym(a:Ak){n k j:Nat}(O:k<n)(Q:j<2)(h:0<=Hh a k (1 - j)):(Cr a n)[(Cr a k).length+(GR a k j).length]? =some [.agg [.int .i64 k,.int .i64 (Hh a k (1 - j))],.int .i64 (1 - j)]:=by
 obtain⟨Z,z⟩:=Qzu a n (k+1) O;obtain⟨r2,G⟩:=Qv3 a k 2 (j+1) (by omega);rw[z,Cr,G,GR,An h,Hr,Hr,Hr,F3 (Nat.le_add_right _ _),uU,F3 (AP _),Hd];rfl
def Jb(l:Nat)(A:Ak)(k:Nat):Aj:=⟨[(11,.im (.int .i64 k)),(10,.im (.int .i64 A.Tiles.length)),(9,.im (.sl false 3 (A.Tiles.map Al.c))),(1,.im (.ref (Ak.c A))),(0,.im (.fn (1000000000+l) [] []))],[],0⟩
def Dy(l:Nat)(A:Ak)(k:Nat)(p:Al)(j:Nat):Aj:=⟨[(18,.im (.int .i64 j)),(17,.im (.int .i64 2)),(16,.own 1),(4,.ptr 0 0),(3,.im (.int .i64 k)),(11,.im (.int .i64 k)),(10,.im (.int .i64 A.Tiles.length)),(9,.im (.sl false 3 (A.Tiles.map Al.c))),(1,.im (.ref (Ak.c A))),(0,.im (.fn (1000000000+l) [] []))],
 [(0,(true,.cells 137 [.im (.int .i64 p.At.X),.im (.int .i64 p.At.Y),.im (.int .i64 p.Tile)])),(1,(true,.arr 2 1 (([1,0]:List Int).map Ai)))],2⟩
def Ty(A:Ak)(hA:Dc none A.Tiles=true)(hl:A.Tiles.length<=1000000)(hS: ∀x∈A.Tiles,FB x.At):JG Tryz.prog 286 [.ref (Ak.c A)] (Cr A A.Tiles.length):=by
 refine wF Tryz.func286 rfl rfl (by simp) ?_;intro l J base ok0 z hY a w ad;have HV:=fB OR;obtain⟨R,hR⟩: ∃R,R=SL J base ok0 Tryz.f286.ntmps (Cr A A.Tiles.length).length (λe _=>e= .normal\/e= .ret):=⟨_,rfl⟩;rw[<-hR];simp only[Tryz.f286] at ad⊢;refine Lk CV HV z (by decide) (by decide) ad (Qx:=BH (Jb l A 0)) ?_ (λs a w G O=> ?_) (λ_ _ _ _ h=>h.elim) (λ_ _ _ h=>h.elim)
 .simp(disch:=omega)only[ZA,simprocAttr,BH,Jb,entry,Ak.c,sub];exact λ_=>trivial
 have Z:=FQ O G (by simp[Jb,Aj.good,Am,Ac,A9,AV.bel]) z;clear G O ad;refine wpIn_block (wpIn_loop_ghost (λm a w=> ∃k,k<=A.Tiles.length/\m=A.Tiles.length - k/\It J base ok0 41 (Cr A k).length (Jb l A k) a w) A.Tiles.length ⟨0,Cx _,rfl,Z⟩ ?_);clear Z;rintro m a w ⟨k,hk,hm,h⟩;refine Lk CV HV z (by decide) (by decide) h (Qx:=BH ⟨(12,.im (.bool (decide (k<A.Tiles.length))))::(Jb l A k).tm,[],0⟩) ?_ (λs a w G O=> ?_) (λ_ _ _ _ h=>h.elim) (λ_ _ _ h=>h.elim)
 .simp(disch:=omega)only[ZA,simprocAttr,BH,Jb,sub]
 have Z:=FQ O G (by simp[Jb,Aj.good,Am,Ac,A9,AV.bel]) z;clear G O h;refine Lk CV HV z (by decide) (by decide) Z (Qx:=IP (Jb l A k) (k<A.Tiles.length) (¬k<A.Tiles.length) 0) ?_ (λs a w G O=> ?_) (λid s a w G O=> ?_) (λ_ _ _ h=>h.elim)
 .simp(disch:=omega)only[ZA,simprocAttr,IP,Jb,sub]
  split<;>assumption
 rotate_left
 .obtain⟨rfl,h4,G⟩:=G;have ag:k=A.Tiles.length:=by omega
  subst ag;simp only[Exit.then,Exit.inBlock,BM,hR,SL];exact⟨s,.inl trivial,O⟩
 obtain⟨af,G⟩:=G;have h:=FQ O G (by simp[Jb,Aj.good,Am,Ac,A9,AV.bel]) z;clear G O Z;obtain⟨p,hp⟩: ∃p,A.Tiles[k]? =some p:=⟨_,Bj af⟩;refine wpIn_seq (wpIn_block ?_);refine Lk CV HV z (by decide) (by decide) h (Qx:=BH ⟨(4,.ptr 0 0)::(3,.im (.int .i64 k))::(Jb l A k).tm,[(0,(true,.cells 137 [.im (.int .i64 p.At.X),.im (.int .i64 p.At.Y),.im (.int .i64 p.Tile)]))],1⟩) ?_ (λs a w G O=> ?_) (λ_ _ _ _ h=>h.elim) (λ_ _ _ h=>h.elim)
 .simp(disch:=omega)only[ZA,simprocAttr,BH,Jb,sub];refine⟨af,λq hq=> ?_⟩;rw[hp] at hq;obtain rfl:=AD hq;exact⟨rfl,rfl,rfl⟩
 have Z:=FQ O G (by simp[Jb,Aj.good,Am,Ac,Aq,A9,AV.bel]) z;clear G O h;refine Lk CV HV z (by decide) (by decide) Z (Qx:=BH (Dy l A k p 0)) ?_ (λs a w G O=> ?_) (λ_ _ _ _ h=>h.elim) (λ_ _ _ h=>h.elim)
 .simp(disch:=omega)only[ZA,simprocAttr,BH,Jb,Dy,sub]
 have h:=FQ O G (by simp[Dy,Aj.good,Am,Ac,Aq,A9,AV.bel]) z;clear G O Z;refine wpIn_block (wpIn_loop_ghost (λm a w=> ∃j,j<=2/\m=2 - j/\It J base ok0 41 ((Cr A k).length+(GR A k j).length) (Dy l A k p j) a w) 2 ⟨0,Cx _,rfl,h⟩ ?_);clear h;rintro m2 a w ⟨j,hj,ai,h⟩;refine Lk CV HV z (by decide) (by decide) h (Qx:=BH ⟨(19,.im (.bool (decide (j<2))))::(Dy l A k p j).tm,(Dy l A k p j).h,2⟩) ?_ (λs a w G O=> ?_) (λ_ _ _ _ h=>h.elim) (λ_ _ _ h=>h.elim)
 .simp(disch:=omega)only[ZA,simprocAttr,BH,Dy,sub];rw[decide_eq_decide];omega
 have Z:=FQ O G (by simp[Dy,Aj.good,Am,Ac,Aq,A9,AV.bel]) z;clear G O h;refine Lk CV HV z (by decide) (by decide) Z (Qx:=IP (Dy l A k p j) (j<2) (¬j<2) 2) ?_ (λs a w G O=> ?_) (λid s a w G O=> ?_) (λ_ _ _ h=>h.elim)
 .simp(disch:=omega)only[ZA,simprocAttr,IP,Dy,sub]
  split<;>assumption
 rotate_left
 .obtain⟨rfl,h4,G⟩:=G;have ac:j=2:=by omega
  subst ac;have h5:=FQ O G (by simp[Dy,Aj.good,Am,Ac,Aq,A9,AV.bel]) z;simp only[Exit.then,Exit.inBlock,BM];refine uA CV HV z (by decide) (by decide) h5 (Qx:=BH (Jb l A (k+1))) ?_ (λs a w G O=> ?_) (λ_ _ _ _ h=>h.elim) (λ_ _ _ h=>h.elim)
  .simp(disch:=omega)only[ZA,simprocAttr,BH,Dy,Jb,sub];rw[AH (by omega) (by omega)];omega
  have h6:=FQ O G (by simp[Jb,Aj.good,Am,Ac,A9,AV.bel]) z;refine⟨A.Tiles.length - (k+1),by omega,k+1,by omega,rfl,?_⟩;rw[Cr,Df];exact h6
 obtain⟨ac,G⟩:=G;have h:=FQ O G (by simp[Dy,Aj.good,Am,Ac,Aq,A9,AV.bel]) z;clear G O Z;refine wpIn_seq (wpIn_block ?_);refine Lk CV HV z (by decide) (by decide) h (Qx:=BH ⟨(6,.im (.int .i64 (1 - (j:Int))))::(Dy l A k p j).tm,(Dy l A k p j).h,2⟩) ?_ (λs a w G O=> ?_) (λ_ _ _ _ h=>h.elim) (λ_ _ _ h=>h.elim)
 .simp(disch:=omega)only[ZA,simprocAttr,Dy];refine⟨by omega,ac,λrow aa=> ?_⟩;rcases (show j=0\/j=1 by omega) with rfl|rfl
  .simp only[G9,AJ] at aa;subst aa;simp(disch:=omega)only[ZA,simprocAttr,BH,sub]
   try rfl
  .simp only[HF,G9,AJ] at aa;subst aa;simp(disch:=omega)only[ZA,simprocAttr,BH,sub]
   try rfl
 have Z:=FQ O G (by simp[Dy,Aj.good,Am,Ac,Aq,A9,AV.bel]) z;clear G O h;refine Lk CV HV z (by decide) (by decide) Z (Qx:=BH ⟨(7,.im (.int .i64 (Hh A k (1 - (j:Int)))))::(6,.im (.int .i64 (1 - (j:Int))))::(Dy l A k p j).tm,(Dy l A k p j).h,2⟩) ?_ (λs a w G O=> ?_) (λ_ _ _ _ h=>h.elim) (λ_ _ _ h=>h.elim)
 .simp only[uH];simp(disch:=omega)only[ZA,simprocAttr,Ak.d,BH,Dy,sub,step_.q,step_.re,step_.fv,placeAt.q,placeAt.re,placeAt.fv];refine⟨⟨hS p (AZ hp),by omega,by omega⟩,hA,?_⟩;simp only[Hh,Bx,hp,CQ,AM]
 have h:=FQ O G (by simp[Dy,Aj.good,Am,Ac,Aq,A9,AV.bel]) z;clear G O Z;obtain⟨nb,hnb⟩: ∃nb,nb=Hh A k (1 - (j:Int)):=⟨_,rfl⟩;rw[<-hnb] at h;have ab:GR A k (j+1)=GR A k j++if 0<=nb then [[.agg [.int .i64 k,.int .i64 nb],.int .i64 (1 - (j:Int))]] else []:=by rw[GR,<-hnb]
 refine wpIn_seq (wpIn_mono (Q:=λe a w=>e= .normal/\It J base ok0 41 ((Cr A k).length+(GR A k (j+1)).length) ⟨(38,.im (.bool false))::(Dy l A k p j).tm,(Dy l A k p j).h,2⟩ a w) ?_ ?_)
 .by_cases hn:0<=nb
  .rw[An hn] at ab;have hx:=Ym A (n:=A.Tiles.length) af ac (by rw[<-hnb];exact hn);rw[<-hnb] at hx;refine XZ HV z hY 8 rfl (by decide) (by decide) (by decide) (s1:=⟨(30,.im (.bool true))::(31,.im (.fn (1000000000+l) [] []))::(34,.im (.agg [.int .i64 k,.int .i64 nb]))::(35,.im (.int .i64 (1 - (j:Int))))::(Dy l A k p j).tm,(Dy l A k p j).h,2⟩) rfl rfl rfl rfl rfl rfl rfl rfl (by simp[D.scs,D.sc]) ⟨hx,rfl⟩ ?_ (by decide) ?_ ?_ h ?_ ?_ (λa w h9=>⟨rfl,by rw[ab,Df,<-Ql];exact h9⟩)
   .intro n e he;simp only[Dy,hget] at he;cases h0:(0==n)<;>rw[h0] at he<;>simp only[Ck,BD] at he
    .cases G:(1==n)<;>rw[G] at he<;>simp only[Ck,BD,reduceCtorEq,AJ] at he;subst he;rfl
    .simp only[AJ] at he;subst he;rfl
   .simp[Dy,Aj.good,Am,Ac,Aq,A9,AV.bel]
   .simp[Dy,Aj.good,Am,Ac,Aq,A9,AV.bel]
   .have aj:decide (nb≥0)=true:=by simpa using hn
    have ah:decide (0<=nb)=true:=by simpa using hn
    simp only[uH];simp(disch:=omega)only[ZA,simprocAttr,Dy,sub,aB hn]
   .change KM _ _ _ _ (Aj.put _ (some 36) (.im (.bool true)));simp only[uH];simp(disch:=omega)only[ZA,simprocAttr,Dy,sub]
  .rw[Af hn,D2] at ab;refine uA CV HV z (by decide) (by decide) h (Qx:=BH ⟨(38,.im (.bool false))::(Dy l A k p j).tm,(Dy l A k p j).h,2⟩) ?_ (λs a w G O=>⟨rfl,by rw[ab];exact FQ O G (by simp[Dy,Aj.good,Am,Ac,Aq,A9,AV.bel]) z⟩) (λ_ _ _ _ h=>h.elim) (λ_ _ _ h=>h.elim);simp only[uH];simp(disch:=omega)only[ZA,simprocAttr,BH,Dy,sub,eq_false hn]
 .rintro e a w ⟨rfl,h⟩;simp only[Exit.then];refine uA CV HV z (by decide) (by decide) h (Qx:=BH (Dy l A k p j)) ?_ (λs a w G O=> ?_) (λ_ _ _ _ h=>h.elim) (λ_ _ _ h=>h.elim)
  .simp(disch:=omega)only[ZA,simprocAttr,BH,Dy,sub]
  have Z:=FQ O G (by simp[Dy,Aj.good,Am,Ac,Aq,A9,AV.bel]) z;simp only[Exit.inBlock,Exit.then];refine uA CV HV z (by decide) (by decide) Z (Qx:=BH (Dy l A k p (j+1))) ?_ (λs a w G O=> ?_) (λ_ _ _ _ h=>h.elim) (λ_ _ _ h=>h.elim)
  .simp(disch:=omega)only[ZA,simprocAttr,BH,Dy,sub];rw[AH (by omega) (by omega)];omega
  have h6:=FQ O G (by simp[Dy,Aj.good,Am,Ac,Aq,A9,AV.bel]) z;exact⟨2 - (j+1),by omega,j+1,by omega,rfl,h6⟩
def wV:D->Option Ak
 | .fn g [] [.ref ds]=>if g=286 then Ak.d ds else none
 |_=>none
def iO: ∀d b,wV d=some b->Le d (.fn 286 [] [.ref (Ak.c b)]):=by
 intro d b h;unfold wV at h;split at h
 .rename_i g ds;split at h
  .rename_i z;subst z;refine V9 ?_;exact⟨Ra (Ak.d_le _ _ h).leP,trivial⟩
  .cases h
 .cases h
def wW(b:Ak):wV (.fn 286 [] [.ref (Ak.c b)])=some b:=by
 simp only[wV,BM,Ak.d_c]
def nbrs.rc:D->Option (Ak):=wV
def nbrs.re:Ak->D:=λa=>D.fn 286 [] [.ref (Ak.c a)]
def nbrs.rle: ∀d b,nbrs.rc d=some b->Le d (nbrs.re b):=iO
def nbrs.fv(a:Ak):Ak:=(λa=>a) a
def nbrs.row:AB:=vK (b1 (qR Ak.d_le)) (RK.mk nbrs.rc nbrs.re nbrs.rle) (λa=>True) nbrs.fv
def nbrs.q:=AT (R:=nbrs.row) rfl
def nbrs.ok:AC Tryz.prog 269 nbrs.row:=by
 refine vw tN Tryz.func269 rfl (by kernel_rfl) ?_;intro a z;simp only[Tryz.f269];simp(disch:=omega)only[ZA,simprocAttr,nbrs.fv,nbrs.rc];exact .inl (wW a)
def Qs0(s:AA)(a:Ak):Prop:=BE s/\DM s a/\a.Tiles.length<=1000000/\ ∀x∈a.Tiles,FB x.At
def Jk(s:AA)(a:Ak):List D->List Ag
 |[.agg [.int .i64 k,.int .i64 m],.int .i64 d]=>if 0<Gf s (G5 a k) d (G5 a m) then [⟨k,m,Gf s (G5 a k) d (G5 a m)⟩] else []
 |_=>[]
def EP(s:AA)(a:Ak)(i:Nat):List Ag:=((Cr a a.Tiles.length).take i).flatMap (Jk s a)
def TM(s:AA)(a:Ak):EP s a (Cr a a.Tiles.length).length=FC s a a.Tiles.length:=by
 rw[EP,GC];have z: ∀k j,(GR a k j).flatMap (Jk s a)=JY s a k j:=by
  intro k j;induction j with
  |zero=>rfl
  |succ j ih=>
   rw[GR,ZdM,ih,JY];congr 1;simp only[WV];split
   .simp only[GB,ZeJ,D2,Jk]
   .rfl
 have G: ∀n,(Cr a n).flatMap (Jk s a)=FC s a n:=by
  intro n;induction n with
  |zero=>rfl
  |succ n ih=>rw[Cr,ZdM,ih,z,FC]
 exact G _
def Qv6(s:AA)(a:Ak){i:Nat}{x:List D}(h:(Cr a a.Tiles.length)[i]? =some x):EP s a (i+1)=EP s a i++Jk s a x:=by
 rw[EP,Il,h,ZdM,EP];simp
def Mt(a:Ak){x:List D}(h:x∈Cr a a.Tiles.length): ∃k m d:Int,x=[.agg [.int .i64 k,.int .i64 m],.int .i64 d]/\0<=k/\k<a.Tiles.length/\0<=m/\m<a.Tiles.length/\0<=d/\d<=1:=by
 have G: ∀(k:Nat) j,j<=2->k<a.Tiles.length->x∈GR a k j-> ∃k m d:Int,x=[.agg [.int .i64 k,.int .i64 m],.int .i64 d]/\0<=k/\k<a.Tiles.length/\0<=m/\m<a.Tiles.length/\0<=d/\d<=1:=by
  intro k j;induction j with
  |zero=>intro _ _ h;simp[GR] at h
  |succ j ih=>
   intro Z Q z;rw[GR,Bv] at z;rcases z with z|z
   .exact ih (by omega) Q z
   .split at z
    .rename_i h0;obtain rfl:=BJ.1 z;exact⟨k,Hh a k (1 - j),1 - j,rfl,by omega,by omega,h0,K9 _ _ _,by omega,by omega⟩
    .cases z
 have O: ∀n,n<=a.Tiles.length->x∈Cr a n-> ∃k m d:Int,x=[.agg [.int .i64 k,.int .i64 m],.int .i64 d]/\0<=k/\k<a.Tiles.length/\0<=m/\m<a.Tiles.length/\0<=d/\d<=1:=by
  intro n;induction n with
  |zero=>intro _ h;simp[Cr] at h
  |succ n ih=>
   intro hn z;rw[Cr,Bv] at z;rcases z with z|z
   .exact ih (by omega) z
   .exact G n 2 (AP _) hn z
 exact O _ (AP _) h
def Tx(a:Ak): ∀n,(Cr a n).length<=2*n:=by
 have z: ∀k j,(GR a k j).length<=j:=by
  intro k j;induction j with
  |zero=>simp[GR]
  |succ j ih=>rw[GR,Df];split<;>simp<;>omega
 intro n;induction n with
 |zero=>simp[Cr]
 |succ n ih=>have:=z n 2;rw[Cr,Df];omega
def TN(s:AA)(a:Ak)(i:Nat):(EP s a i).length<=i:=by
 induction i with
 |zero=>simp[EP]
 |succ i ih=>
  cases h:(Cr a a.Tiles.length)[i]? with
  |none=>
   have:EP s a (i+1)=EP s a i:=by
    have z:=ZeB.1 h;rw[EP,EP,DY (by omega),DY z]
   rw[this];omega
  |some x=>
   rw[Qv6 s a h,Df]
   have:(Jk s a x).length<=1:=by
    unfold Jk;split
    .split<;>simp
    .simp
   omega
def lT:CW:=Qv [(269,nbrs.row),(213,bond_.row)]
def Oz:J1 Tryz.prog lT:=Q7 _ (by
 intro p hp;simp only[Bk,mK,gB] at hp;rcases hp with rfl|rfl
 .exact nbrs.ok
 .exact bond_.ok)
def VV: ∀(H:Aw),(H.all λp=> !p.2.2.isView)=true-> ∀o e,hget H o=some e->e.2.isView=false
 |[],_,o,e,h=>by cases h
 |(n,x)::r,z,o,e,h=>by
  simp only[Lr,AR,Ki] at z;simp only[hget] at h;cases hq:(n==o)<;>rw[hq] at h
  .exact VV r z.2 o e h
  .simp only[Ck,AJ] at h;subst h;exact z.1
def uP{P:Program}{V:CW}{C:AW}{N:Nat}(Z:P.follows .mixedOrders=true)(HV:Hm P V){x y:Code}(G:Ej N x=true)(z:HC x=true){s':Aj}{Q:Exit->Act->World->Prop}{s:Aj}{a:Act}{w:World}(hc:BF C N s a w)(hk:CX P V x (BH s') s)(hg:s'.good=true)(O:C.n0<=s'.nx)
 (hn: ∀a w,BF C N s' a w->y.wpIn Fence.wide 0 P Q a w):(x.seq y).wpIn Fence.wide 0 P Q a w:=by
 refine wpIn_seq (wpIn_mono (kN (ro:=none) Z HV x G z _ s a w hk hc) ?_);intro e a' w' hq;cases e<;>simp only[FW] at hq<;>simp only[Exit.then]
 .obtain⟨s1,h1,h2⟩:=hq;exact hn _ _ (lP h2 h1 hg O)
 .obtain⟨_,h,_⟩:=hq;exact h.elim
 .obtain⟨_,h,_⟩:=hq;exact h.elim
def bnds.rc:D->Option (List Ag):=Qy Ag.d
def bnds.re:(List Ag)->D:=λb=>D.sl false 3 (b.map Ag.c)
def bnds.rle: ∀d b,bnds.rc d=some b->Le d (bnds.re b):=rK Ag.d_le (λ_=>rfl)
def bnds.ar:List PK->Option (AA×Ak):=a2 (kR AA.d) (kR Ak.d)
def bnds.ae(a:AA×Ak):List PK:=[.val (.agg (AA.c a.1)),.val (.agg (Ak.c a.2))]
def bnds.le: ∀z a,bnds.ar z=some a->BL z (bnds.ae a):=(Ro (Me AA.d_le) (Me Ak.d_le))
def bnds.fv(a:AA×Ak):List Ag:=(λs a=>FC s a a.Tiles.length) (a.1) (a.2)
def bnds.row:AB:=Dg (b2 (qR AA.d_le) (qR Ak.d_le)) (RK.mk bnds.rc bnds.re bnds.rle) (λa=>Qs0 a.1 a.2) bnds.fv
def bnds.q:=DS (R:=bnds.row) rfl
def bnds.ok:AC Tryz.prog 246 bnds.row:=by
 refine Quy (by kernel_rfl) bnds.le bnds.rle ?_;intro a ac C S vs RR hW ad aa;refine PS Tryz.func246 rfl (by simp[bnds.ae]) ?_ hW ad aa;clear aa ad hW;intro C0 ao w hw ab hc am;have HV:=fB Oz;have an:C0.ds=[]:=by obtain⟨S0,_,h⟩:=hc;rw[<-h.defers];exact am
 simp only[Tryz.f246] at hc⊢;obtain⟨s,A⟩:=a;obtain⟨h1,h2,h3,h4⟩:=ac;simp only at h1 h2 h3 h4;refine uP CV HV (by decide) (by decide) (s':=⟨[(3,.ptr 1 0),(2,.ptr 0 0)],[(0,(true,.cells 45 ((AA.c s).map .im))),(1,(true,.cells 39 ((Ak.c A).map .im)))],2⟩) hc ?_ ?_ (by rw[ab];exact Cx _) (λa w hc=> ?_)
 .simp only[lT];simp(disch:=omega)only[ZA,simprocAttr,BH,sub,bnds.ae,Di,D0,BI,entry]
 .simp[Aj.good,Am,Ac,Aq,A9,AV.bel,AA.c,Ak.c]
 refine uP CV HV (by decide) (by decide) (s':=⟨[(5,.ptr 2 0),(3,.ptr 1 0),(2,.ptr 0 0)],[(0,(true,.cells 45 ((AA.c s).map .im))),(1,(true,.cells 39 ((Ak.c A).map .im))),(2,(true,.cells 281 [.im (.sl true 0 [])]))],3⟩) hc ?_ ?_ (by rw[ab];exact Cx _) (λa w hc=> ?_)
 .simp only[lT];simp(disch:=omega)only[ZA,simprocAttr,BH,sub]
 .simp[Aj.good,Am,Ac,Aq,A9,AV.bel,AA.c,Ak.c]
 refine wpIn_seq ?_;refine uP CV HV (by decide) (by decide) (s':=⟨[(10,.im (.fn 286 [] [.ref (Ak.c A)])),(5,.ptr 2 0),(3,.ptr 1 0),(2,.ptr 0 0)],[(0,(true,.cells 45 ((AA.c s).map .im))),(1,(true,.cells 39 ((Ak.c A).map .im))),(2,(true,.cells 281 [.im (.sl true 0 [])]))],3⟩) hc ?_ ?_ (by rw[ab];exact Cx _) (λa w hc=> ?_)
 .simp only[lT];simp(disch:=omega)only[ZA,simprocAttr,Ak.d,BH,sub,nbrs.q,nbrs.re,nbrs.fv]
 .simp[Aj.good,Am,Ac,Aq,A9,AV.bel,AA.c,Ak.c]
 refine wpIn_block (wpIn_mono (Ua CV HV hc (gf:=286) (capt:=[.ref (Ak.c A)]) (xs:=Cr A A.Tiles.length) (NX (by kernel_rfl)) (Ty A h2.1 h3 h4) (by decide) (by decide) (by decide) (by decide) ?_ (by decide)
  (tm0:=[(10,.im (.fn 286 [] [.ref (Ak.c A)])),(5,.ptr 2 0),(3,.ptr 1 0),(2,.ptr 0 0)]) (hs:=λi=>[(0,(true,.cells 45 ((AA.c s).map .im))),(1,(true,.cells 39 ((Ak.c A).map .im))),(2,(true,.cells 281 [.own 3])),(3,(true,.arr 318 3 ((EP s A i).map Ag.c)))]) (nx:=4) ⟨[(3,none)],?_⟩ rfl (by simp) ?_ ?_ ?_ ?_) ?_)
 .intro x hx;obtain⟨k,m,d,rfl,_⟩:=Mt A hx;rfl
 .simp only[Az];simp(disch:=omega)only[ZA,simprocAttr,Br,Xh,EP]
 .simp[Am,AV.bel]
 .intro i hi;simp[Aj.good,Am,Ac,Aq,A9,AV.bel,AA.c,Ak.c]
 .intro i o e he hv;rw[VV _ (by rfl) o e he] at hv;cases hv
 .intro i x hx;have aq:=TN s A i;have au:=(Cd.1 hx).1;have av:=Tx A A.Tiles.length;obtain⟨k,m,d,rfl,k0,k1,m0,m1,d0,d1⟩:=Mt A (AZ hx);have G:=Qv6 s A hx;simp only[Jk] at G;simp only[lT];simp(disch:=omega)only[ZA,simprocAttr,Ou,Uv,Fs,bond_.q,bond_.re,bond_.fv,AO];refine⟨k0,k1,λp hp=>⟨m0,m1,λq hq=>⟨⟨h1,h2.2 p (AZ hp),⟨d0,by omega⟩,h2.2 q (AZ hq)⟩,λhb=>⟨?_,by omega,[(3,some 6)],?_⟩,λhb=>⟨[],?_⟩⟩⟩⟩
  .intro row Q;obtain rfl:=BJ.1 Q;rfl
  all_goals
   have e1:G5 A k=p.Tile:=by simp[G5,hp]
   have e2:G5 A m=q.Tile:=by simp[G5,hq]
   rw[e1,e2] at G
  .rw[An hb] at G;simp only[Az];simp(disch:=omega)only[ZA,simprocAttr,Br,G];simp[Ag.c]
  .rw[Af hb,D2] at G;simp only[Az];simp(disch:=omega)only[ZA,simprocAttr,Br,G]
 .intro e a' w' hq;cases e<;>simp only[YA] at hq;obtain⟨C2,S2,Dk,rfl,hE,O,ht,hd,af,ag,ah,ai,aj⟩:=hq;simp only[Exit.inBlock,Exit.then];have ak:a.defers=[]:=by obtain⟨S0,_,h⟩:=hc;rw[h.defers];exact an
  rw[ak] at hd;have hm: ∀a'':Act,a''.defers=C2.ds->tZ C0 C2 a''.defers:=λa'' h=> .inr ⟨Dk,by rw[h,<-hE.defers,hd],af,ag,ah,ai,aj⟩
  refine wpIn_mono (kN (ro:=none) CV HV _ (by decide) (by decide) (ZN Tryz.prog [ResultVar.tmp 4] (B4 bnds.rc (bnds.fv (s,A)))) _ a' S2.w ?_ ⟨S2,rfl,hE⟩) ?_
  .simp only[lT];simp(disch:=omega)only[ZA,simprocAttr,bnds.rc,bnds.fv,TM,B4];intro row Q;obtain⟨b,_,rfl⟩:=Bt.1 Q;rfl
  .intro e a'' w'' hq;cases e<;>simp only[FW] at hq<;>simp only[Po]
   .obtain⟨s',Z,z⟩:=hq;exact⟨s',C2,Z,z,O,hm a'' (by obtain⟨S0,_,h⟩:=z;exact h.defers)⟩
   .obtain⟨s',Z,z⟩:=hq;exact Z.elim
   .obtain⟨s',Z,z⟩:=hq;exact⟨s',C2,Z,z,O,hm a'' (by obtain⟨S0,_,h⟩:=z;exact h.defers)⟩
end Go.Ae
namespace Go.Ae
open Go.Proofs
def Lx{n:Nat}{gs:List (List Int)}(z:0<gs.length): ∀(bs:List Ag),(∀b∈bs,0<b.Strength/\b.Strength<=4)-> ∀b∈GN (Rd n gs) bs,Kq gs.length b
 |[],_,b,h=>by simp[GN] at h
 |x::r,hs,b,h=>by
  simp only[GN] at h;have ih:=Lx (n:=n) z r (λy hy=>hs y (BW _ hy)) b;split at h
  .exact ih h
  .rename_i G;rcases Bk.1 h with rfl|h
   .have O:=Qy8 (n:=n) z x.A;have Q:=Qy8 (n:=n) z x.B;have Z:=hs x (BS ..);exact⟨⟨O.1,O.2,Q.1,Q.2⟩,G,Z.1,Z.2⟩
   .exact ih h
def Rb(s:AA)(a:Ak)(t:Int):Bool×Bool:=
 if 64<(Dp a.Tiles.length (FC s a a.Tiles.length) t).1 then (false,false)
 else (uL (Dp a.Tiles.length (FC s a a.Tiles.length) t).1 (Dp a.Tiles.length (FC s a a.Tiles.length) t).2 t,true)
def Qz2(n:Nat)(bs:List Ag)(hn:0<n): ∀k,(∀v∈Cf n bs k,0<=v)/\(Cf n bs k)[0]? =some 0
 |0=>by
  refine⟨λv G=> ?_,yT n 0 hn⟩;obtain⟨i,O⟩:=Kl.1 G;have hl:=(Cd.1 O).1;simp only[Cf] at O hl;rw[yT n i (by rwa [dU] at hl)] at O
  have:=AD O
  omega
 |k+1=>by
  obtain⟨Q,h2⟩:=Qz2 n bs hn k;simp only[Cf];split
  .rename_i b hb;have z: ∀i:Nat,0<=(Cf n bs k)[i]?.getD 0:=by
    intro i;cases h:(Cf n bs k)[i]? with
    |none=>simp
    |some v=>exact Q v (AZ h)
   have hj: ∀x y v:Int,0<=x->0<=y->0<=v->0<=Jy x y v:=by
    intro x y v z hy G;simp only[Jy];by_cases h:v=Er x y
    .rw[An h];simp only[EN];split<;>omega
    .rw[Af h];exact G
   have Z: ∀x y:Int,0<=x->0<=y->Jy x y 0=0:=by
    intro x y z hy;simp only[Jy];by_cases h:(0:Int)=Er x y
    .rw[An h];simp only[Er] at h;simp only[EN];split at h<;>split<;>omega
    .rw[Af h]
   refine⟨λv G=> ?_,?_⟩
   .obtain⟨u,hu,rfl⟩:=Bt.1 G;exact hj _ _ _ (z _) (z _) (Q u hu)
   .rw[tD,D1,h2,CQ,Z _ _ (z _) (z _)]
  .exact⟨Q,h2⟩
def Qab7{n:Nat}{bs:List Ag}{t:Int}(hn:0<n):0<(NW n bs t).length:=by
 have h:=(Qz2 n (G7 t bs) hn (G7 t bs).length).2;obtain⟨z,G⟩:=Qo6 (Cf n (G7 t bs) (G7 t bs).length) n 0 h n (AP _) hn
 have:(((0:Nat):Int)::z)∈NW n bs t:=by simpa only[NW,V4,Bx] using G
 exact List.length_pos_of_mem this
def L6{n:Nat}{bs:List Ag}{t:Int}(hb: ∀b∈bs,Kq n b)(hl:bs.length<=1000000)(O:(Dp n bs t).1<=64):My (Dp n bs t):=by
 have Q:=Qpl (Rd n (NW n bs t)) bs;by_cases h0:0<(Dp n bs t).1
 .have G:=Lx (n:=n) (gs:=NW n bs t) (by simp only[Dp] at h0;omega) bs (λb z=>⟨(hb b z).2.2.1,(hb b z).2.2.2⟩);refine⟨by omega,O,by simp only[Dp,Bx];omega,λb z=> ?_,λb z=> ?_,λb z=> ?_⟩
  .have:=G b (by simpa only[Dp,Bx] using z)
   exact this.1
  .have:=G b (by simpa only[Dp,Bx] using z)
   have:=this.2.2
   omega
  .have:=G b (by simpa only[Dp,Bx] using z)
   exact this.2.1
 .have hn:bs=[]:=by
   cases bs with
   |nil=>rfl
   |cons b r=>
    exfalso;have Z:=(hb b (BS ..)).1;have h6:=Qab7 (n:=n) (bs:=b::r) (t:=t) (by omega);simp only[Dp] at h0;omega
  subst hn;refine⟨by simp only[Dp];omega,O,by simp only[Dp,GN];simp,λb z=> ?_,λb z=> ?_,λb z=> ?_⟩<;>(simp[Dp,GN] at z)
def stabI.fv(a:AA×Ak×Int):Bool×Bool:=(Rb) (a.1) (a.2.1) (a.2.2)
def stabI.row:AB:=Dg (b3 (qR AA.d_le) (qR Ak.d_le) qI) (r2 rB rB) (λa=>Qs0 a.1 a.2.1/\a.2.1.Tiles.length<=512/\0<=a.2.2/\a.2.2<=1000000) stabI.fv
def stabI.q:=DS (R:=stabI.row) rfl
def stabI.ok:AC Tryz.prog 211 stabI.row:=by
 refine G1 (tC bnds.ok (tC contr.ok (tC holds_.ok tN))) Tryz.func211 rfl (by kernel_rfl) ?_;intro a z;simp only[Tryz.f211];simp(disch:=omega)only[ZA,simprocAttr,Ak.d,C8,stabI.fv,bnds.q,bnds.fv,bnds.re,contr.q,contr.fv,holds_.q,holds_.fv,D.sc,D.scs,B4];obtain⟨s,A,t⟩:=a;obtain⟨G,h2,O,Q⟩:=z;simp only at G h2 O Q⊢;have Z:=Qro G.1 A A.Tiles.length (AP _);have hL:=rV s A A.Tiles.length;refine⟨G,⟨by omega,λb hb=>(Z b hb).1,by omega⟩,?_⟩;split
 .rename_i h;simp only[Rb];rw[An h]
 .rename_i h;refine⟨⟨L6 Z (by omega) (by omega),O,Q⟩,?_⟩;simp only[Rb];rw[Af h]
def QR(s:AA)(a:Ak)(t:Int):Bool×Int:=
 if (Fz s && JW s a)=false then (false,1)
 else if Bh t 1 16=false then (false,2)
 else if (Rb s a t).2=false then (false,4) else ((Rb s a t).1,0)
def tL{s:AA}{a:Ak}(h:(Fz s && JW s a)=true):Qs0 s a/\a.Tiles.length<=512:=by
 rw[AR] at h;have G:=Qge h.1;have z:=Zu h.2;refine⟨⟨G,z.1,by omega,λx O=> ?_⟩,by omega⟩
 have:=(rW _ _ z.1.1 x O).1
 simp only[E0,Bh,AR,BK] at this;refine⟨?_,?_,?_,?_⟩<;>omega
def isStab.fv(a:AA×Ak×Int):Bool×Int:=(QR) (a.1) (a.2.1) (a.2.2)
def isStab.row:AB:=Dg (b3 (qR AA.d_le) (qR Ak.d_le) qI) (r2 rB rI) (λa=>QT a.1) isStab.fv
def isStab.q:=DS (R:=isStab.row) rfl
def isStab.ok:AC Tryz.prog 173 isStab.row:=by
 refine G1 (tC ValidAssembly_.ok (tC isTemperature.ok (tC stabI.ok tN))) Tryz.func173 rfl (by kernel_rfl) ?_;intro a z;simp only[Tryz.f173];simp(disch:=omega)only[ZA,simprocAttr,Ak.d,C8,isStab.fv,ValidAssembly_.q,ValidAssembly_.fv,isTemperature.q,isTemperature.fv,stabI.q,stabI.fv,D.sc,D.scs,B4];obtain⟨s,A,t⟩:=a;simp only at z⊢;refine⟨z,?_⟩;split
 .rename_i c1;simp only[QR];rw[An c1]
 .rename_i c1;split
  .rename_i G;simp only[QR];rw[Af c1,An G]
  .rename_i G;have Q:=tL (s:=s) (a:=A) (by simpa using c1);have Z:Bh t 1 16=true:=by simpa using G
   simp only[Bh,AR,BK] at Z;refine⟨⟨Q.1,Q.2,by omega,by omega⟩,?_⟩;split
   .rename_i O;simp only[QR];rw[Af c1,Af G,An O]
   .rename_i O;simp only[QR];rw[Af c1,Af G,Af O]
def eM(y:Ax):Bool:=if y.Seed.Tiles.length=0 then false else ((QR y.Set y.Seed y.Temperature).1 && decide ((QR y.Set y.Seed y.Temperature).2=0))
def validI_.fv(a:Ax):Bool:=(eM) a
def validI_.row:AB:=Dg (b1 (qR Ax.d_le)) rB (λa=>QT a.Set) validI_.fv
def validI_.q:=DS (R:=validI_.row) rfl
def validI_.ok:AC Tryz.prog 123 validI_.row:=by
 refine G1 (tC isStab.ok tN) Tryz.func123 rfl (by kernel_rfl) ?_;intro a z;simp only[Tryz.f123];simp(disch:=omega)only[ZA,simprocAttr,Ak.d,C8,validI_.fv,isStab.q,isStab.fv,D.sc,D.scs,B4];intro _;by_cases h:a.Seed.Tiles.length=0
 .rw[An (by omega)];simp only[eM];rw[An h]
 .rw[Af (by omega)];refine⟨z,?_⟩;simp only[eM];rw[Af h];split
  .rename_i c;rw[c,DZ]
  .rename_i c;rw[Lq] at c;rw[c,F5]
def Qv9(S:Nat->Bool)(nm:List Int): ∀(bs:List Ag),CC S (GN nm bs)=CC S (H9 nm bs)
 |[]=>rfl
 |b::r=>by
  have ih:=Qv9 S nm r;simp only[GN,H9];split
  .exact ih
  .simp only[CC,ih];congr 1;obtain⟨x,hx⟩: ∃x,x=BO nm b.A:=⟨_,rfl⟩;obtain⟨y,hy⟩: ∃y,y=BO nm b.B:=⟨_,rfl⟩;rw[<-hx,<-hy];by_cases h:x<y
   .have G:EN x y=x:=An h;have z:Er x y=y:=Af (by omega);rw[G,z]
   .have G:EN x y=y:=Af h;by_cases Q:y<x
    .have z:Er x y=x:=An Q;rw[G,z];by_cases O:S x.toNat=S y.toNat
     .rw[An O,An O.symm]
     .rw[Af O,Af (EJ O)]
    .have z:Er x y=y:=Af Q
     have:x=y:=by omega
     rw[G,z,this]
def Qxe(n:Nat)(nm:List Int)(bs:List Ag)(t:Int)(k:Nat):WO n (GN nm bs) t k↔WO n (H9 nm bs) t k:=by
 simp only[WO,Qv9]
def UZ{s:AA}{A:Ak}{t:Int}(h:Qs0 s A)(hl:A.Tiles.length<=512)(ht:0<=t):
 (Rb s A t).2=decide ((fF s A t).2=0)/\((Rb s A t).2=true->(Rb s A t).1=(fF s A t).1):=by
 have O:=Qro h.1 A A.Tiles.length (AP _);have hL:=rV s A A.Tiles.length;obtain⟨bs,hbs⟩: ∃bs,bs=FC s A A.Tiles.length:=⟨_,rfl⟩;obtain⟨n,hn⟩: ∃n,n=A.Tiles.length:=⟨_,rfl⟩;rw[<-hn] at O hL hbs hl;rw[<-hbs] at O hL;have hc:(Dp n bs t).1=(Ch n bs t).1:=rfl;simp only[Rb,fF,<-hn,<-hbs,hc];by_cases G:64<(Ch n bs t).1
 .rw[An G,An G];exact⟨rfl,λh=>by cases h⟩
 .rw[Af G,Af G];have z:=L6 (t:=t) O (by omega) (by rw[hc];omega);have hh:=Qtt (n:=(Ch n bs t).1.toNat) (bs:=(Dp n bs t).2) (t:=t) (λb hb=>by
   have:=z.2.2.2.1 b hb
   have h0:=z.1;rw[hc] at this h0;rw[Zek h0];exact this) z.2.2.2.2.1 ht
  by_cases Z:(Ch n bs t).1<2
  .rw[An Z];refine⟨rfl,λ_=> ?_⟩;simp only[uL];rw[show (Ch n bs t).1.toNat - 1=0 by omega];rfl
  .rw[Af Z];refine⟨rfl,λ_=> ?_⟩;obtain⟨p1,p2⟩:=MU (t:=t) O (by omega) (by omega) (by omega);have hw:=(Qzk (n:=(Ch n bs t).1) (bs:=(Ch n bs t).2) p1 p2 ht ((Ch n bs t).1 - 1).toNat (by omega) (by omega)).2;have Q:=hh ((Ch n bs t).1.toNat - 1) (by omega);simp only[uL];rw[show ((Ch n bs t).1 - 1).toNat=(Ch n bs t).1.toNat - 1 by omega] at hw⊢;have e:WO (Ch n bs t).1.toNat (Dp n bs t).2 t ((Ch n bs t).1.toNat - 1)↔WO (Ch n bs t).1.toNat (Ch n bs t).2 t ((Ch n bs t).1.toNat - 1):=Qxe _ _ _ _ _;rw[VJ,Q,e,<-hw];simp
def bM(y:Ax):eM y=F2 y:=by
 simp only[eM,F2];by_cases h:y.Seed.Tiles.length=0
 .rw[An h]
  have:y.Seed.Tiles=[]:=uV h
  simp[this]
 .rw[Af h];have he:y.Seed.Tiles.isEmpty=false:=by
   rw[ZdK];intro Z;rw[Z] at h;simp at h
  by_cases c1:(Fz y.Set && JW y.Set y.Seed)=false
  .have e:QR y.Set y.Seed y.Temperature=(false,1):=An c1;rw[e];rw[vB] at c1;rcases c1 with c1|c1<;>simp[c1]
  .have z:=c1;rw[FU] at c1;have hp:=tL (s:=y.Set) (a:=y.Seed) c1;rw[AR] at c1;rw[c1.1,c1.2,he];by_cases G:Bh y.Temperature 1 16=false
   .have e:QR y.Set y.Seed y.Temperature=(false,2):=(Af z).trans (An G);rw[e,G];simp
   .have Q:=G;rw[FU] at G;have ht:0<=y.Temperature:=by simp only[Bh,AR,BK] at G;omega
    obtain⟨q1,q2⟩:=UZ hp.1 hp.2 ht;rw[G];simp only[UY,Xf,DZ];by_cases O:(Rb y.Set y.Seed y.Temperature).2=false
    .have e:QR y.Set y.Seed y.Temperature=(false,4):=(Af z).trans ((Af Q).trans (An O));rw[e,<-q1,O];simp
    .have e:QR y.Set y.Seed y.Temperature=((Rb y.Set y.Seed y.Temperature).1,0):=(Af z).trans ((Af Q).trans (Af O));rw[FU] at O;rw[e,<-q1,O,q2 O];simp
def Qq4{a b:Ab}(h:Bq a b=false)(G:a≠b):Bq b a=true:=by
 obtain⟨x,y⟩:=a;obtain⟨z,w⟩:=b;simp only[Bq,ne_eq,Ab.mk.injEq] at*
 grind
def Eb(p:Ab)(t:Int):List Al->List Al
 |[]=>[⟨p,t⟩]
 |x::r=>if Bq p x.At=true then ⟨p,t⟩::x::r else x::Eb p t r
def M9(p:Ab)(t:Int): ∀(l:List Al),GS p t false l++(if I9 p l=true then [] else [⟨p,t⟩])=Eb p t l
 |[]=>rfl
 |x::r=>by
  have ih:=M9 p t r;by_cases h:Bq p x.At=true
  .have e:I9 p (x::r)=true:=by simp only[I9,An h]
   simp only[e,BM,D2,GS,Eb,An h,tW]
  .have e:I9 p (x::r)=I9 p r:=by simp only[I9,Af h]
   simp only[e,GS,Eb,Af h,CP,ih]
def WM(a:Ak)(p:Ab)(t:Int):BT a p t=⟨Eb p t a.Tiles⟩:=by simp only[BT,M9]
def sV(p:Ab)(t:Int)(y:Al): ∀(l:List Al),y∈Eb p t l↔y=⟨p,t⟩\/y∈l
 |[]=>by simp[Eb]
 |x::r=>by
  simp only[Eb];split
  .simp
  .simp only[Bk,sV p t y r];constructor
   .rintro (h|h|h)
    .exact .inr (.inl h)
    .exact .inl h
    .exact .inr (.inr h)
   .rintro (h|h|h)
    .exact .inr (.inl h)
    .exact .inl h
    .exact .inr (.inr h)
def Qki{p:Ab}{t:Int}(hp:E0 p=true)(Z:Bh t 0 159=true): ∀(l:List Al) (q:Option Ab),Dc q l=true->(∀q',q=some q'->Bq q' p=true)->(∀x∈l,x.At≠p)->Dc q (Eb p t l)=true
 |[],q,_,G,_=>by
  simp only[Eb,PV,sG,hp,Z,DZ,F6];cases q with
  |none=>rfl
  |some q'=>exact G q' rfl
 |x::r,q,z,G,h3=>by
  have hx:=h3 x (BS ..);rw[PV] at z;simp only[AR] at z;obtain⟨g1,g2,g3,g4⟩:=z;simp only[Eb];split
  .rename_i O;rw[PV,PV];simp only[hp,Z,g1,g2,g4,O,DZ,F6];cases q with
   |none=>rfl
   |some q'=>exact G q' rfl
  .rename_i O;rw[PV];have ih:=Qki hp Z r (some x.At) g4 (λq' Q=>by
    obtain rfl:=AD Q;exact Qq4 (by simpa using O) (EJ hx)) (λy hy=>h3 y (BW _ hy))
   simp only[g1,g2,ih,DZ,F6];exact g3
def Ul(m:ID)(o:Ak)(x:Al):Option Ak:=
 if (m.Labels[x.Tile.toNat]?.getD 0)<0 then some o
 else if 0<=Bb o (dZ x.At m.Scale).1/\Bb o (dZ x.At m.Scale).1≠(m.Labels[x.Tile.toNat]?.getD 0) then none
 else if Bb o (dZ x.At m.Scale).1<0 then some (BT o (dZ x.At m.Scale).1 (m.Labels[x.Tile.toNat]?.getD 0)) else some o
def Dn(s:Ax)(a:Ak)(o:Ap):Bool:=E0 o.At && (Bh o.Tile 0 (s.Set.Tiles.length - 1) && (decide (Bp (λx=>decide (x.At=o.At)) 0 a.Tiles<0) && decide (s.Temperature<=J0 s.Set a o.At o.Tile 4)))
def Qma{a:Ak}{p:Ab}(h:Bp (λx=>decide (x.At=p)) 0 a.Tiles<0): ∀x∈a.Tiles,x.At≠p:=by
 intro x O G;rcases QS (λx=>decide (x.At=p)) a.Tiles 0 with ⟨z,_⟩|⟨i,y,_,Q,_⟩
 .have:=ZP.1 z x O
  simp[G] at this
 .omega
end Go.Ae
