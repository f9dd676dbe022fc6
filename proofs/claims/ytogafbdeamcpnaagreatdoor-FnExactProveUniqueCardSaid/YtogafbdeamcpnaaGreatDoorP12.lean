/- Lemmas. Conditions: none. -/
import Derived.Test.YtogafbdeamcpnaaGreatDoorP11
import Derived.Sort.LoopGhostIn
set_option linter.all false
set_option maxHeartbeats 8000000
set_option maxRecDepth 100000
namespace Go.Ae
open Go
def It{ι:Type}(J:ι->(Nat->Prop)->World->Prop)(base:Nat)(ok0:Nat->Prop)(N:Nat)(i:ι)(s:Ai)(a:Act)(w:World):Prop:=
 ∃C S Pr,S.w=w/\CL C N s S a/\a.defers=[]/\base<=w.heap.size/\J i Pr w/\(∀b,ER S b->base<=b/\ ¬Pr b)/\(∀b,S.ok b->ok0 b\/ ¬Pr b)
def SQ{ι:Type}(J:ι->(Nat->Prop)->World->Prop)(base:Nat)(ok0:Nat->Prop)(N:Nat)(i:ι)(Q:Cq):Exit->Act->World->Prop
 | .normal,a,w=> ∃s,Q .normal s/\It J base ok0 N i s a w
 | .exit id,a,w=> ∃s,Q (.exit id) s/\It J base ok0 N i s a w
 | .ret,a,w=> ∃s,Q .ret s/\It J base ok0 N i s a w
 |_,_,_=>False
def MJ{ok ok':Nat->Prop}{hp hp':Nat->Option Obj}: ∀(ds:List D) (vs:List Value),ds.all D.scs=true->rdl ok hp ds vs->rdl ok' hp' ds vs
 |[],_,_,hd=>by simpa only[rdl] using hd
 |d::ds,vs,h,hd=>by
  simp only[rdl,Lw,AS] at hd h⊢;obtain⟨v,r,rfl,z,G⟩:=hd;exact⟨v,r,rfl,KO h.1 z,MJ ds r h.2 G⟩
section
variable {ι:Type}{P:Program}{V:Db}{N:Nat}{J:ι->(Nat->Prop)->World->Prop}{base:Nat}{ok0:Nat->Prop}{i j:ι}
def SS(hA:Oe base J){s:Ai}{a:Act}{w:World}(h:It J base ok0 N i s a w):
 ∃C1,BG C1 N s a w/\ ∀s' a' w',BG C1 N s' a' w'->It J base ok0 N i s' a' w':=by
 obtain⟨C,S,Pr,rfl,hE,hd,hb,hJ,z,Q⟩:=h;obtain⟨G,Z⟩:=hA i Pr _ hJ;refine⟨G4 S s.nx a.defers,⟨S,rfl,YF hE⟩,?_⟩;rintro s' a' w' ⟨S',rfl,hc⟩;have hs:S.w.heap.size<=S'.w.heap.size:=hc.wf.size;refine⟨_,S',Pr,rfl,hc,hc.defers.trans hd,D9 hb hs,Z _ hs hc.wf.os hc.wf.tape hc.wf.output ?_,λb h=> ?_,λb h=> ?_⟩
 .rintro b (h|h)
  .exact Z9 hc.wf b (G b h) (λO=>(z b O).2 h)
  .exact Z9 hc.wf b (by omega) (λO=>by have:=(z b O).1;omega)
 .rcases lR hc.wf h with q|q
  .exact⟨D9 hb q,λhp=>by have:=G b hp;omega⟩
  .exact z b q
 .rcases ZP hc.wf h with q|q|q
  .exact Q b q
  .exact .inr λhp=>by have:=G b hp;omega
  .exact .inr (z b q).2
def BI(s':Ai):Cq
 | .normal,s=>sub s s'
 | .exit _,_=>False
 | .ret,_=>False
def IS(s':Ai)(p q:Prop)(id:Nat):Cq
 | .normal,s=>p/\sub s s'
 | .exit k,s=>k=id/\q/\sub s s'
 | .ret,_=>False
def Qy6(HM:P.follows .mixedOrders=true)(HV:Hs P V)(hA:Oe base J){c:Code}(hc:Em N c=true)(G:HG c=true){Q:Cq}{s:Ai}{a:Act}{w:World}(hk:Dc P V c Q s)(h:It J base ok0 N i s a w):
 c.wpIn Fence.wide 0 P (SQ J base ok0 N i Q) a w:=by
 obtain⟨C1,aa,z⟩:=SS hA h;refine wpIn_mono (lC (ro:=none) HM HV c hc G Q s a w hk aa) ?_;intro e a' w' hq;cases e<;>simp only[FZ] at hq<;>simp only[SQ]
 .obtain⟨s',O,Z⟩:=hq;exact⟨s',O,z _ _ _ Z⟩
 .obtain⟨s',O,Z⟩:=hq;exact⟨s',O,z _ _ _ Z⟩
 .obtain⟨s',O,Z⟩:=hq;exact⟨s',O,z _ _ _ Z⟩
def FS{s s':Ai}{a:Act}{w:World}(h:It J base ok0 N i s a w)(hs:sub s s')(hg:s'.good=true)(hA:Oe base J):It J base ok0 N i s' a w:=by
 obtain⟨C,S,Pr,rfl,hE,hd,hb,Z,z,Q⟩:=h;have hm:Ri S S.w:=⟨AQ _,rfl,rfl,rfl,λ_ _=>rfl,λ_ _=>rfl⟩;have O:CL (G4 S 0 a.defers) N s S a:=uJ hE hm 0 (Cz _) a a.defers rfl rfl;obtain⟨G,aa⟩:=hA i Pr _ Z;obtain⟨S',hw,hc⟩:=lY ⟨S,rfl,O⟩ hs hg (Cz _);refine⟨_,S',Pr,hw,hc,hd,hb,Z,λb h=> ?_,λb h=> ?_⟩
 .rcases lR hc.wf h with q|q
  .exact⟨D9 hb q,λhp=>by have:=G b hp;omega⟩
  .exact z b q
 .rcases ZP hc.wf h with q|q|q
  .exact Q b q
  .exact .inr λhp=>by have:=G b hp;omega
  .exact .inr (z b q).2
def Lq(Z:P.follows .mixedOrders=true)(HV:Hs P V)(hA:Oe base J){x y:Code}(hc:Em N x=true)(z:HG x=true){Qx:Cq}{Q:Exit->Act->World->Prop}{s:Ai}{a:Act}{w:World}(h:It J base ok0 N i s a w)(hk:Dc P V x Qx s)
 (hn: ∀s a w,Qx .normal s->It J base ok0 N i s a w->y.wpIn Fence.wide 0 P Q a w)(he: ∀id s a w,Qx (.exit id) s->It J base ok0 N i s a w->Q (.exit id) a w)(hr: ∀s a w,Qx .ret s->It J base ok0 N i s a w->Q .ret a w):(x.seq y).wpIn Fence.wide 0 P Q a w:=by
 refine wpIn_seq (wpIn_mono (Qy6 Z HV hA hc z hk h) ?_);intro e a' w' hq;cases e<;>simp only[SQ] at hq<;>simp only[Exit.then]
 .obtain⟨s',G,O⟩:=hq;exact hn s' _ _ G O
 .obtain⟨s',G,O⟩:=hq;exact he _ s' _ _ G O
 .obtain⟨s',G,O⟩:=hq;exact hr s' _ _ G O
def uO(Z:P.follows .mixedOrders=true)(HV:Hs P V)(hA:Oe base J){x:Code}(hc:Em N x=true)(z:HG x=true){Qx:Cq}{Q:Exit->Act->World->Prop}{s:Ai}{a:Act}{w:World}(h:It J base ok0 N i s a w)(hk:Dc P V x Qx s)
 (hn: ∀s a w,Qx .normal s->It J base ok0 N i s a w->Q .normal a w)(he: ∀id s a w,Qx (.exit id) s->It J base ok0 N i s a w->Q (.exit id) a w)(hr: ∀s a w,Qx .ret s->It J base ok0 N i s a w->Q .ret a w):x.wpIn Fence.wide 0 P Q a w:=by
 refine wpIn_mono (Qy6 Z HV hA hc z hk h) ?_;intro e a' w' hq;cases e<;>simp only[SQ] at hq
 .obtain⟨s',G,O⟩:=hq;exact hn s' _ _ G O
 .obtain⟨s',G,O⟩:=hq;exact he _ s' _ _ G O
 .obtain⟨s',G,O⟩:=hq;exact hr s' _ _ G O
def WC(HV:Hs P V)(hA:Oe base J){ops:Array Oper}{seg more:List Oper}{i0:Nat}(O:ops.toList.drop i0=seg++more)(hd:J6 N seg=true)(G:WU ops=true){K:Ai->Prop}{Q:Exit->Act->World->Prop}{l2:List Nat}{s:Ai}{a:Act}{w:World}
 (hk:KR P V (Gl ops seg) K s)(h:It J base ok0 N i s a w)(hK: ∀s a w,K s->It J base ok0 N i s a w->wpOpsIn Fence.wide 0 P ops Q l2 a w):wpOpsIn Fence.wide 0 P ops Q (List.range' i0 seg.length++l2) a w:=by
 obtain⟨C1,aa,z⟩:=SS hA h;exact yT (ro:=none) G (K:=λa w=> ∃s,K s/\It J base ok0 N i s a w) (λa w ⟨s,Z,h2⟩=>hK s a w Z h2) _ _ _
  (Qpr HV (Q:=λ_ a w=> ∃s,K s/\It J base ok0 N i s a w) (λs a w Z h2=>⟨s,Z,z _ _ _ h2⟩) seg more i0 O hd s a w hk aa)
def RH{C:AW}{s:Ai}{S:A9}{a:Act}(hc:CL C N s S a){dst:Option Nat}(hd: ∀d,dst=some d->d<N){x:AV}{v:Value}(Z:x.nms=[])(Q:Aa S x v):CL C N (s.put dst x) S (a.put dst v):=by
 have G:(s.put dst x).h=s.h:=by cases dst<;>rfl
 have z:(s.put dst x).nx=s.nx:=by cases dst<;>rfl
 refine⟨hc.wf,λn=>by rw[G];exact hc.h n,?_,?_,?_,?_,?_,by rw[z];exact hc.n0,hc.pre⟩
 .intro t;rw[V7,yM (λd h=>by rw[hc.size];exact hd d h)];split
  .exact Q
  .exact hc.tm t
 .intro t;rw[V7,z];split
  .intro m O;rw[Z] at O;cases O
  .exact hc.nmT t
 .rw[G,z];exact hc.nmH
 .cases dst<;>simp[Act.put,hc.size]
 .cases dst<;>simp[Act.put,hc.defers]
def qX(hA:Oe base J){ai:ι->List D->ι->Prop}{l:Nat}(hY: ∀i x j args Pr W,ai i x j->(∀ok hp,rdl ok hp x args.toList)->J i Pr W->YieldAt Fence.wide 0 P l args W λe W'=>e= .returned (.bool true)/\ ∃Pr',J j Pr' W'/\I1 ok0 Pr W Pr' W')
 {ops:Array Oper}{k:Nat}{rest:List Nat}{o:Oper}{c:Call}{f:Operand}{x:List D}{s:Ai}{a:Act}{w:World}{Q:Exit->Act->World->Prop}(ho:ops[k]? =some o)(hw:Region.wanted o (yielded ops a.tmps)=true)(aq:o.op= .call c)(af:c.callee= .value f)
 (hf:Az s.tm f= .im (.fn (1000000000+l) [] []))(ab:DB s.tm c.args.toList=x.map .im)(av:x.all D.scs=true)(hx:ai i x j)(ao: ∀n e,hget s.h n=some e->e.2.isView=false)(hd: ∀d,o.dst=some d->d<N)(h:It J base ok0 N i s a w)
 (ac: ∀a' w',It J base ok0 N j (s.put o.dst (.im (.bool true))) a' w'->wpOpsIn Fence.wide 0 P ops Q rest a' w'):wpOpsIn Fence.wide 0 P ops Q (k::rest) a w:=by
 obtain⟨C,S,Pr,rfl,O,ag,hb,hJ,aa,ad⟩:=h;obtain⟨aw,_⟩:=hA i Pr _ hJ;have an:a.eval f= .func (.yield l) #[] #[]:=by
  have h1:=QR O f;rw[hf] at h1;simp only[Aa,rd,rdl] at h1;obtain⟨A,B,h2,h3,h4⟩:=h1;have e1:A= #[]:=by simpa using h3
  have e2:B= #[]:=by simpa using h4
  rw[h2,e1,e2];congr 1;unfold VR;rw[Af (by omega),vJ]
 have hcl:AN S (x.map .im) (c.args.map a.eval).toList:=by
  rw[<-ab,VO];exact Qpe _ (λy _=>QR O y)
 have au: ∀ok hp,rdl ok hp x (c.args.map a.eval).toList:=λok hp=>by
  have h1:=(I2 _ _).1 hcl;exact MJ _ _ av h1
 obtain⟨fn,aj,ak,bo,hy,hR⟩:=hY i x j (c.args.map a.eval) Pr S.w hx au hJ;simp only[wpOpsIn,ho,hw,BM];refine⟨λ_ _=>trivial,?_⟩;have ah:(o.semAt Fence.wide.round a.eval).run P S.w= .ok (.round l fn aj ak bo) S.w:=by
  show (execOp a.eval o).run P S.w=_;simp only[execOp,aq,resolve,af,an,Sem.run_bind];simp[Deferred.ofValue,invoke,hy]
 rw[ah,Oper.uponIn_round];refine⟨λh=>(by cases h),RoundIn.mono hR ?_⟩;rintro e W' ⟨rfl,Pr',am,G⟩;have hm:Ri S W':=by
  refine⟨G.size,G.os,G.tape,G.output,λb z=> ?_,?_⟩
  .rcases ad b z with q|q
   .exact G.same b (O.wf.oks b z) (.inr q)
   .exact G.same b (O.wf.oks b z) (.inl q)
  .rintro b ⟨o',e,lc,q1,q2,rfl⟩;have hl:=O.wf.loc o' e lc q1 q2;cases hmu:e.1 with
   |true=>exact G.same _ hl.1 (.inl (aa _ ⟨o',e,lc,q1,hmu,q2,rfl⟩).2)
   |false=>
    have Z:=hl.2;rw[hmu] at Z;simp only[Df,CK] at Z;rcases Z with Z|Z
    .rcases ad _ Z with q|q
     .exact G.same _ hl.1 (.inr q)
     .exact G.same _ hl.1 (.inl q)
    .rw[ao o' e (by rw[<-O.h o'];exact q1)] at Z;cases Z
 refine ac _ _ ⟨_,{S with w:=W'},Pr',rfl,RH (uJ O hm 0 (Cz _) a [] ag rfl) hd rfl (by simp only[Aa,rd]),?_,D9 hb G.size,am,λb z=> ?_,λb z=> ?_⟩
 .cases o.dst<;>exact ag
 .have q:=aa b z;have q2:=(WS O.wf z).1;refine⟨q.1,λhp=> ?_⟩;rcases G.pr b hp with r|r
  .exact q.2 r
  .omega
 .rcases ad b z with q|q
  .exact .inl q
  .refine .inr λhp=> ?_
   have q2:=O.wf.oks b z;rcases G.pr b hp with r|r
   .exact q r
   .omega
def Yh(HV:Hs P V)(O:Oe base J){ab:ι->List D->ι->Prop}{l:Nat}(hY: ∀i x j args Pr W,ab i x j->(∀ok hp,rdl ok hp x args.toList)->J i Pr W->YieldAt Fence.wide 0 P l args W λe W'=>e= .returned (.bool true)/\ ∃Pr',J j Pr' W'/\I1 ok0 Pr W Pr' W')
 {id:Nat}{ops:Array Oper}(k1:Nat)(au:List.range ops.size=List.range' 0 (ops.toList.take k1).length++(k1::(List.range' (k1+1) (ops.toList.drop (k1+1)).length++[])))(ac:J6 N (ops.toList.take k1)=true)(ad:J6 N (ops.toList.drop (k1+1))=true)(z:WU ops=true)
 {o:Oper}{c:Call}{f:Operand}{x:List D}(s1:Ai){s s2:Ai}{a:Act}{w:World}{Q:Exit->Act->World->Prop}{g t:Nat}(ho:ops[k1]? =some o)(ao:o.op= .call c)(Z:c.callee= .value f)(ai:o.guard=some (g,true))(aj:(ops[g]?).bind (·.dst)=some t)(ah:AF s1.tm t= .im (.bool true))
 (hf:Az s1.tm f= .im (.fn (1000000000+l) [] []))(G:DB s1.tm c.args.toList=x.map .im)(aq:x.all D.scs=true)(hx:ab i x j)(an: ∀n e,hget s1.h n=some e->e.2.isView=false)(hd: ∀d,o.dst=some d->d<N)(af:s1.good=true)(ag:s2.good=true)
 (h:It J base ok0 N i s a w)(ak:KR P V (Gl ops (ops.toList.take k1)) (λs=>sub s s1) s)(am:KR P V (Gl ops (ops.toList.drop (k1+1))) (λs=>sub s s2) (s1.put o.dst (.im (.bool true))))
 (aa: ∀a w,It J base ok0 N j s2 a w->Q .normal a w):(Code.region id ops false).wpIn Fence.wide 0 P Q a w:=by
 refine wpIn_region ?_;rw[au];refine WC HV O (seg:=ops.toList.take k1) (more:=ops.toList.drop k1) (by rw[Hh,Oi]) ac z ak h (λs a w h1 h2=> ?_);have h3:=FS h2 h1 af O;have hw:Region.wanted o (yielded ops a.tmps)=true:=by
  obtain⟨C,S,Pr,_,hE,_⟩:=h3;have hy:=Qqk hE aj ah;simp[Region.wanted,ai,hy]
 refine qX O hY ho hw ao Z hf G aq hx an hd h3 (λa w h4=> ?_);refine WC HV O (seg:=ops.toList.drop (k1+1)) (more:=[]) (by rw[D8]) ad z am h4 (λs a w h5 h6=> ?_);exact aa a w (FS h6 h5 ag O)
end
def SR{P:Program}{gf:Nat}{fn:Func}{c:Code}(hf:P.funcs[gf]? =some fn)(hb:fn.body=some c)(Q:fn.results.toList=[]){capt:List D}{X:nP}(ad:capt.length+1<=fn.ntmps)
 (hk: ∀(l:Nat) (J:X.I->(Nat->Prop)->World->Prop) (base:Nat) (ok0:Nat->Prop),Oe base J->
  (∀i x j args Pr W,X.step i x j->(∀ok hp,rdl ok hp x args.toList)->J i Pr W->YieldAt Fence.wide 0 P l args W λe W'=>e= .returned (.bool true)/\ ∃Pr',J j Pr' W'/\I1 ok0 Pr W Pr' W')->
  ∀a w,It J base ok0 fn.ntmps X.i0 ⟨entry 0 (.im (.fn (1000000000+l) [] [])::capt.map .im),[],0⟩ a w->c.wpIn Fence.wide 0 P (λe a w=> ∃i,X.fin i/\SQ J base ok0 fn.ntmps i (λe _=>e= .normal\/e= .ret) e a w) a w):Lb P gf capt X:=by
 intro C S vs l J hW O hA hY ⟨Pr,hJ⟩;refine callsIn_wide.1 (callsIn_of_wp_marks (n:=0) hf hb trivial (wpIn_mono (hk l J S.w.heap.size S.ok hA hY _ _ ?_) ?_))
 .let C0:AW:=⟨S.w,λ_=>False,S.ok,0,λ_=>none,λ_=>none,[]⟩
  let S0:A9:=⟨λ_=>none,S.ok,λ_=>none,S.w⟩
  have ab:Wf C0 S0:=⟨rfl,rfl,rfl,AQ _,λ_ _ _=>rfl,λ_ hb=>hb,λ_ hb=> .inl hb,hW.oks,λo e G=>(by cases G),λo e l G=>(by cases G),λo o' e e' l l' G=>(by cases G),hW.glN λ_ h=>h.elim⟩;have z:AN S0 (.im (.fn (1000000000+l) [] [])::capt.map .im) (#[Value.func (.yield l) #[] #[]]++vs).toList:=by
   rw[Zeh];refine⟨_,_,rfl,?_,(I2 _ _).2 O⟩;simp only[Aa,rd,rdl];refine⟨#[],#[],?_,rfl,rfl⟩;unfold VR;rw[Af (by omega),vJ]
  have ac:(#[Value.func (.yield l) #[] #[]]++vs).size=capt.length+1:=by
   have:=IB _ _ z
   simp at this⊢;omega
  obtain⟨As,hAs⟩: ∃As,As= #[Value.func (.yield l) #[] #[]]++vs:=⟨_,rfl⟩;rw[<-hAs] at z ac⊢;refine⟨C0,S0,Pr,rfl,⟨ab,λn=>rfl,?_,?_,?_,?_,rfl,Cz _,λo ho=>absurd ho (mP _)⟩,rfl,AQ _,hJ,λb ⟨o,e,lc,h1,_⟩=>(by cases h1),λb hb=> .inl hb⟩
  .intro t;have h1:=kX (S:=S0) _ As.toList 0 t z;simp only[Cz,BM,aJ] at h1
   have:({tmps:=As++Array.replicate (fn.ntmps - As.size) undef,defers:=[]}:Act).eval (.tmp t)=(As.toList[t]?).getD undef:=by
    simp only[Act.eval,HI,vR,fZ];by_cases ht:t<As.size
    .simp[ht]
    .simp only[ht,CK]
     have:As[t]? =none:=Xp (by omega)
     simp only[Hc,this]
     split<;>rfl
   rw[this];exact h1
  .intro t m hm
   have:=lF _ 0 t m hm
   simp only[AH,AV.nms,Hg] at this;have h0: ∀(q:List D),AH (q.map .im)=[]:=by
    intro q;induction q with
    |nil=>rfl
    |cons d r ih=>simp only[Bd,AH,AV.nms,ih,D8]
   rw[h0] at this;cases this
  .intro n e G;cases G
  .simp;omega
 .intro e a w G;obtain⟨i,hi,G⟩:=G;have fin:(∃s,It J S.w.heap.size S.ok fn.ntmps i s a w)->LeavesInM Fence.wide 0 P fn a.tmps (λe W'=> ∃v Pr i,e= .returned v/\X.fin i/\J i Pr W') a.defers .returning w:=by
   rintro⟨s,C1,S1,Pr1,rfl,hE,hd,_,aa,_,_⟩;rw[hd];simp only[LeavesInM,LeavesIn];obtain⟨v,Z,_⟩:=rY (P:=P) hE (fn:=fn) (xs:=[]) (by rw[Q];rfl);exact⟨v,Z,v,Pr1,i,rfl,hi,aa⟩
  cases e<;>simp only[SQ] at G<;>simp only[bodyPostM]
  .obtain⟨s,_,h⟩:=G;exact fin ⟨s,h⟩
  .obtain⟨s,h,_⟩:=G;rcases h with h|h<;>cases h
  .obtain⟨s,_,h⟩:=G;exact fin ⟨s,h⟩
def wT{P:Program}{gf:Nat}{fn:Func}{c:Code}(hf:P.funcs[gf]? =some fn)(hb:fn.body=some c)(G:fn.results.toList=[]){capt:List D}{xs:List (List D)}(z:capt.length+1<=fn.ntmps)
 (hk: ∀(l:Nat) (J:Nat->(Nat->Prop)->World->Prop) (base:Nat) (ok0:Nat->Prop),Oe base J->
  (∀i x j args Pr W,(xs[i]? =some x/\j=i+1)->(∀ok hp,rdl ok hp x args.toList)->J i Pr W->YieldAt Fence.wide 0 P l args W λe W'=>e= .returned (.bool true)/\ ∃Pr',J j Pr' W'/\I1 ok0 Pr W Pr' W')->
  ∀a w,It J base ok0 fn.ntmps 0 ⟨entry 0 (.im (.fn (1000000000+l) [] [])::capt.map .im),[],0⟩ a w->c.wpIn Fence.wide 0 P (SQ J base ok0 fn.ntmps xs.length (λe _=>e= .normal\/e= .ret)) a w):JM P gf capt xs:=
 SR (X:=iK xs) hf hb G z λl J base ok0 Q Z a w O=>wpIn_mono (hk l J base ok0 Q Z a w O) λ_ _ _ h=>⟨xs.length,rfl,h⟩
end Go.Ae
namespace Go.Ae
open Go Go.Proofs
def uV:Db:=Q4 [(151,step_.row),(287,placeAt.row)]
def OV:J5 Tryz.prog uV:=QC _ (by
 intro p hp;simp only[Bm,mU,gO] at hp;rcases hp with rfl|rfl
 .exact step_.ok
 .exact placeAt.ok)
def GX(a:Ak)(k:Nat):Nat->List (List D)
 |0=>[]
 |j+1=>GX a k j++if 0<=Hm a k (1 - j) then [[.agg [.int .i64 k,.int .i64 (Hm a k (1 - j))],.int .i64 (1 - j)]] else []
def Cv(a:Ak):Nat->List (List D)
 |0=>[]
 |k+1=>Cv a k++GX a k 2
def Qzu(a:Ak): ∀(n k:Nat),k<=n-> ∃r,Cv a n=Cv a k++r
 |0,k,h=>⟨[],by obtain rfl:k=0:=by omega
                rw[D8]⟩
 |n+1,k,h=>by
  by_cases z:k=n+1
  .subst z;exact⟨[],by rw[D8]⟩
  .obtain⟨r,G⟩:=Qzu a n k (by omega);exact⟨r++GX a n 2,by rw[Cv,G,Hw]⟩
def Qv3(a:Ak)(k:Nat): ∀(n j:Nat),j<=n-> ∃r,GX a k n=GX a k j++r
 |0,j,h=>⟨[],by obtain rfl:j=0:=by omega
                rw[D8]⟩
 |n+1,j,h=>by
  by_cases z:j=n+1
  .subst z;exact⟨[],by rw[D8]⟩
  .obtain⟨r,G⟩:=Qv3 a k n j (by omega);rw[GX,G];exact⟨_,by rw[Hw]⟩
def Yv(a:Ak){n k j:Nat}(O:k<n)(Q:j<2)(h:0<=Hm a k (1 - j)):(Cv a n)[(Cv a k).length+(GX a k j).length]? =some [.agg [.int .i64 k,.int .i64 (Hm a k (1 - j))],.int .i64 (1 - j)]:=by
 obtain⟨Z,z⟩:=Qzu a n (k+1) O;obtain⟨r2,G⟩:=Qv3 a k 2 (j+1) (by omega);rw[z,Cv,G,GX,An h,Hw,Hw,Hw,F4 (Nat.le_add_right _ _),vJ,F4 (AQ _),Hi];rfl
def Jf(l:Nat)(A:Ak)(k:Nat):Ai:=⟨[(11,.im (.int .i64 k)),(10,.im (.int .i64 A.Tiles.length)),(9,.im (.sl false 3 (A.Tiles.map Al.c))),(1,.im (.ref (Ak.c A))),(0,.im (.fn (1000000000+l) [] []))],[],0⟩
def D5(l:Nat)(A:Ak)(k:Nat)(p:Al)(j:Nat):Ai:=⟨[(18,.im (.int .i64 j)),(17,.im (.int .i64 2)),(16,.own 1),(4,.ptr 0 0),(3,.im (.int .i64 k)),(11,.im (.int .i64 k)),(10,.im (.int .i64 A.Tiles.length)),(9,.im (.sl false 3 (A.Tiles.map Al.c))),(1,.im (.ref (Ak.c A))),(0,.im (.fn (1000000000+l) [] []))],
 [(0,(true,.cells 137 [.im (.int .i64 p.At.X),.im (.int .i64 p.At.Y),.im (.int .i64 p.Tile)])),(1,(true,.arr 2 1 (([1,0]:List Int).map Aj)))],2⟩
def T5(A:Ak)(hA:Dl none A.Tiles=true)(hl:A.Tiles.length<=1000000)(hS: ∀x∈A.Tiles,FD x.At):JM Tryz.prog 286 [.ref (Ak.c A)] (Cv A A.Tiles.length):=by
 refine wT Tryz.func286 rfl rfl (by simp) ?_;intro l J base ok0 z hY a w ad;have HV:=fL OV;obtain⟨R,hR⟩: ∃R,R=SQ J base ok0 Tryz.f286.ntmps (Cv A A.Tiles.length).length (λe _=>e= .normal\/e= .ret):=⟨_,rfl⟩;rw[<-hR];simp only[Tryz.f286] at ad⊢;refine Lq CZ HV z (by decide) (by decide) ad (Qx:=BI (Jf l A 0)) ?_ (λs a w G O=> ?_) (λ_ _ _ _ h=>h.elim) (λ_ _ _ h=>h.elim)
 .simp(disch:=omega)only[ZA,simprocAttr,BI,Jf,entry,Ak.c,sub];exact λ_=>trivial
 have Z:=FS O G (by simp[Jf,Ai.good,Am,Ac,A8,AV.bel]) z;clear G O ad;refine wpIn_block (wpIn_loop_ghost (λm a w=> ∃k,k<=A.Tiles.length/\m=A.Tiles.length - k/\It J base ok0 41 (Cv A k).length (Jf l A k) a w) A.Tiles.length ⟨0,Cz _,rfl,Z⟩ ?_);clear Z;rintro m a w ⟨k,hk,hm,h⟩;refine Lq CZ HV z (by decide) (by decide) h (Qx:=BI ⟨(12,.im (.bool (decide (k<A.Tiles.length))))::(Jf l A k).tm,[],0⟩) ?_ (λs a w G O=> ?_) (λ_ _ _ _ h=>h.elim) (λ_ _ _ h=>h.elim)
 .simp(disch:=omega)only[ZA,simprocAttr,BI,Jf,sub]
 have Z:=FS O G (by simp[Jf,Ai.good,Am,Ac,A8,AV.bel]) z;clear G O h;refine Lq CZ HV z (by decide) (by decide) Z (Qx:=IS (Jf l A k) (k<A.Tiles.length) (¬k<A.Tiles.length) 0) ?_ (λs a w G O=> ?_) (λid s a w G O=> ?_) (λ_ _ _ h=>h.elim)
 .simp(disch:=omega)only[ZA,simprocAttr,IS,Jf,sub]
  split<;>assumption
 rotate_left
 .obtain⟨rfl,h4,G⟩:=G;have ag:k=A.Tiles.length:=by omega
  subst ag;simp only[Exit.then,Exit.inBlock,BM,hR,SQ];exact⟨s,.inl trivial,O⟩
 obtain⟨af,G⟩:=G;have h:=FS O G (by simp[Jf,Ai.good,Am,Ac,A8,AV.bel]) z;clear G O Z;obtain⟨p,hp⟩: ∃p,A.Tiles[k]? =some p:=⟨_,Bk af⟩;refine wpIn_seq (wpIn_block ?_);refine Lq CZ HV z (by decide) (by decide) h (Qx:=BI ⟨(4,.ptr 0 0)::(3,.im (.int .i64 k))::(Jf l A k).tm,[(0,(true,.cells 137 [.im (.int .i64 p.At.X),.im (.int .i64 p.At.Y),.im (.int .i64 p.Tile)]))],1⟩) ?_ (λs a w G O=> ?_) (λ_ _ _ _ h=>h.elim) (λ_ _ _ h=>h.elim)
 .simp(disch:=omega)only[ZA,simprocAttr,BI,Jf,sub];refine⟨af,λq hq=> ?_⟩;rw[hp] at hq;obtain rfl:=AD hq;exact⟨rfl,rfl,rfl⟩
 have Z:=FS O G (by simp[Jf,Ai.good,Am,Ac,Aq,A8,AV.bel]) z;clear G O h;refine Lq CZ HV z (by decide) (by decide) Z (Qx:=BI (D5 l A k p 0)) ?_ (λs a w G O=> ?_) (λ_ _ _ _ h=>h.elim) (λ_ _ _ h=>h.elim)
 .simp(disch:=omega)only[ZA,simprocAttr,BI,Jf,D5,sub]
 have h:=FS O G (by simp[D5,Ai.good,Am,Ac,Aq,A8,AV.bel]) z;clear G O Z;refine wpIn_block (wpIn_loop_ghost (λm a w=> ∃j,j<=2/\m=2 - j/\It J base ok0 41 ((Cv A k).length+(GX A k j).length) (D5 l A k p j) a w) 2 ⟨0,Cz _,rfl,h⟩ ?_);clear h;rintro m2 a w ⟨j,hj,ai,h⟩;refine Lq CZ HV z (by decide) (by decide) h (Qx:=BI ⟨(19,.im (.bool (decide (j<2))))::(D5 l A k p j).tm,(D5 l A k p j).h,2⟩) ?_ (λs a w G O=> ?_) (λ_ _ _ _ h=>h.elim) (λ_ _ _ h=>h.elim)
 .simp(disch:=omega)only[ZA,simprocAttr,BI,D5,sub];rw[decide_eq_decide];omega
 have Z:=FS O G (by simp[D5,Ai.good,Am,Ac,Aq,A8,AV.bel]) z;clear G O h;refine Lq CZ HV z (by decide) (by decide) Z (Qx:=IS (D5 l A k p j) (j<2) (¬j<2) 2) ?_ (λs a w G O=> ?_) (λid s a w G O=> ?_) (λ_ _ _ h=>h.elim)
 .simp(disch:=omega)only[ZA,simprocAttr,IS,D5,sub]
  split<;>assumption
 rotate_left
 .obtain⟨rfl,h4,G⟩:=G;have ac:j=2:=by omega
  subst ac;have h5:=FS O G (by simp[D5,Ai.good,Am,Ac,Aq,A8,AV.bel]) z;simp only[Exit.then,Exit.inBlock,BM];refine uO CZ HV z (by decide) (by decide) h5 (Qx:=BI (Jf l A (k+1))) ?_ (λs a w G O=> ?_) (λ_ _ _ _ h=>h.elim) (λ_ _ _ h=>h.elim)
  .simp(disch:=omega)only[ZA,simprocAttr,BI,D5,Jf,sub];rw[AG (by omega) (by omega)];omega
  have h6:=FS O G (by simp[Jf,Ai.good,Am,Ac,A8,AV.bel]) z;refine⟨A.Tiles.length - (k+1),by omega,k+1,by omega,rfl,?_⟩;rw[Cv,Dq];exact h6
 obtain⟨ac,G⟩:=G;have h:=FS O G (by simp[D5,Ai.good,Am,Ac,Aq,A8,AV.bel]) z;clear G O Z;refine wpIn_seq (wpIn_block ?_);refine Lq CZ HV z (by decide) (by decide) h (Qx:=BI ⟨(6,.im (.int .i64 (1 - (j:Int))))::(D5 l A k p j).tm,(D5 l A k p j).h,2⟩) ?_ (λs a w G O=> ?_) (λ_ _ _ _ h=>h.elim) (λ_ _ _ h=>h.elim)
 .simp(disch:=omega)only[ZA,simprocAttr,D5];refine⟨by omega,ac,λrow aa=> ?_⟩;rcases (show j=0\/j=1 by omega) with rfl|rfl
  .simp only[GF,AJ] at aa;subst aa;simp(disch:=omega)only[ZA,simprocAttr,BI,sub]
   try rfl
  .simp only[HJ,GF,AJ] at aa;subst aa;simp(disch:=omega)only[ZA,simprocAttr,BI,sub]
   try rfl
 have Z:=FS O G (by simp[D5,Ai.good,Am,Ac,Aq,A8,AV.bel]) z;clear G O h;refine Lq CZ HV z (by decide) (by decide) Z (Qx:=BI ⟨(7,.im (.int .i64 (Hm A k (1 - (j:Int)))))::(6,.im (.int .i64 (1 - (j:Int))))::(D5 l A k p j).tm,(D5 l A k p j).h,2⟩) ?_ (λs a w G O=> ?_) (λ_ _ _ _ h=>h.elim) (λ_ _ _ h=>h.elim)
 .simp only[uV];simp(disch:=omega)only[ZA,simprocAttr,Ak.d,BI,D5,sub,step_.q,step_.re,step_.fv,placeAt.q,placeAt.re,placeAt.fv];refine⟨⟨hS p (AZ hp),by omega,by omega⟩,hA,?_⟩;simp only[Hm,B0,hp,CQ,AM]
 have h:=FS O G (by simp[D5,Ai.good,Am,Ac,Aq,A8,AV.bel]) z;clear G O Z;obtain⟨nb,hnb⟩: ∃nb,nb=Hm A k (1 - (j:Int)):=⟨_,rfl⟩;rw[<-hnb] at h;have ab:GX A k (j+1)=GX A k j++if 0<=nb then [[.agg [.int .i64 k,.int .i64 nb],.int .i64 (1 - (j:Int))]] else []:=by rw[GX,<-hnb]
 refine wpIn_seq (wpIn_mono (Q:=λe a w=>e= .normal/\It J base ok0 41 ((Cv A k).length+(GX A k (j+1)).length) ⟨(38,.im (.bool false))::(D5 l A k p j).tm,(D5 l A k p j).h,2⟩ a w) ?_ ?_)
 .by_cases hn:0<=nb
  .rw[An hn] at ab;have hx:=Yv A (n:=A.Tiles.length) af ac (by rw[<-hnb];exact hn);rw[<-hnb] at hx;refine Yh HV z hY 8 rfl (by decide) (by decide) (by decide) (s1:=⟨(30,.im (.bool true))::(31,.im (.fn (1000000000+l) [] []))::(34,.im (.agg [.int .i64 k,.int .i64 nb]))::(35,.im (.int .i64 (1 - (j:Int))))::(D5 l A k p j).tm,(D5 l A k p j).h,2⟩) rfl rfl rfl rfl rfl rfl rfl rfl (by simp[D.scs,D.sc]) ⟨hx,rfl⟩ ?_ (by decide) ?_ ?_ h ?_ ?_ (λa w h9=>⟨rfl,by rw[ab,Dq,<-Qq];exact h9⟩)
   .intro n e he;simp only[D5,hget] at he;cases h0:(0==n)<;>rw[h0] at he<;>simp only[Ck,BC] at he
    .cases G:(1==n)<;>rw[G] at he<;>simp only[Ck,BC,reduceCtorEq,AJ] at he;subst he;rfl
    .simp only[AJ] at he;subst he;rfl
   .simp[D5,Ai.good,Am,Ac,Aq,A8,AV.bel]
   .simp[D5,Ai.good,Am,Ac,Aq,A8,AV.bel]
   .have aj:decide (nb≥0)=true:=by simpa using hn
    have ah:decide (0<=nb)=true:=by simpa using hn
    simp only[uV];simp(disch:=omega)only[ZA,simprocAttr,D5,sub,aM hn]
   .change KR _ _ _ _ (Ai.put _ (some 36) (.im (.bool true)));simp only[uV];simp(disch:=omega)only[ZA,simprocAttr,D5,sub]
  .rw[Af hn,D8] at ab;refine uO CZ HV z (by decide) (by decide) h (Qx:=BI ⟨(38,.im (.bool false))::(D5 l A k p j).tm,(D5 l A k p j).h,2⟩) ?_ (λs a w G O=>⟨rfl,by rw[ab];exact FS O G (by simp[D5,Ai.good,Am,Ac,Aq,A8,AV.bel]) z⟩) (λ_ _ _ _ h=>h.elim) (λ_ _ _ h=>h.elim);simp only[uV];simp(disch:=omega)only[ZA,simprocAttr,BI,D5,sub,eq_false hn]
 .rintro e a w ⟨rfl,h⟩;simp only[Exit.then];refine uO CZ HV z (by decide) (by decide) h (Qx:=BI (D5 l A k p j)) ?_ (λs a w G O=> ?_) (λ_ _ _ _ h=>h.elim) (λ_ _ _ h=>h.elim)
  .simp(disch:=omega)only[ZA,simprocAttr,BI,D5,sub]
  have Z:=FS O G (by simp[D5,Ai.good,Am,Ac,Aq,A8,AV.bel]) z;simp only[Exit.inBlock,Exit.then];refine uO CZ HV z (by decide) (by decide) Z (Qx:=BI (D5 l A k p (j+1))) ?_ (λs a w G O=> ?_) (λ_ _ _ _ h=>h.elim) (λ_ _ _ h=>h.elim)
  .simp(disch:=omega)only[ZA,simprocAttr,BI,D5,sub];rw[AG (by omega) (by omega)];omega
  have h6:=FS O G (by simp[D5,Ai.good,Am,Ac,Aq,A8,AV.bel]) z;exact⟨2 - (j+1),by omega,j+1,by omega,rfl,h6⟩
def xI:D->Option Ak
 | .fn g [] [.ref ds]=>if g=286 then Ak.d ds else none
 |_=>none
def iX: ∀d b,xI d=some b->Le d (.fn 286 [] [.ref (Ak.c b)]):=by
 intro d b h;unfold xI at h;split at h
 .rename_i g ds;split at h
  .rename_i z;subst z;refine VF ?_;exact⟨Rd (Ak.d_le _ _ h).leP,trivial⟩
  .cases h
 .cases h
def xJ(b:Ak):xI (.fn 286 [] [.ref (Ak.c b)])=some b:=by
 simp only[xI,BM,Ak.d_c]
def nbrs.rc:D->Option (Ak):=xI
def nbrs.re:Ak->D:=λa=>D.fn 286 [] [.ref (Ak.c a)]
def nbrs.rle: ∀d b,nbrs.rc d=some b->Le d (nbrs.re b):=iX
def nbrs.fv(a:Ak):Ak:=(λa=>a) a
def nbrs.row:AA:=vK (b1 (qR Ak.d_le)) (RK.mk nbrs.rc nbrs.re nbrs.rle) (λa=>True) nbrs.fv
def nbrs.q:=AT (R:=nbrs.row) rfl
def nbrs.ok:AB Tryz.prog 269 nbrs.row:=by
 refine vw tN Tryz.func269 rfl (by kernel_rfl) ?_;intro a z;simp only[Tryz.f269];simp(disch:=omega)only[ZA,simprocAttr,nbrs.fv,nbrs.rc];exact .inl (xJ a)
def Qs0(s:AC)(a:Ak):Prop:=BF s/\DP s a/\a.Tiles.length<=1000000/\ ∀x∈a.Tiles,FD x.At
def Jo(s:AC)(a:Ak):List D->List Ag
 |[.agg [.int .i64 k,.int .i64 m],.int .i64 d]=>if 0<Gk s (GA a k) d (GA a m) then [⟨k,m,Gk s (GA a k) d (GA a m)⟩] else []
 |_=>[]
def EQ(s:AC)(a:Ak)(i:Nat):List Ag:=((Cv a a.Tiles.length).take i).flatMap (Jo s a)
def TP(s:AC)(a:Ak):EQ s a (Cv a a.Tiles.length).length=FE s a a.Tiles.length:=by
 rw[EQ,Gs];have z: ∀k j,(GX a k j).flatMap (Jo s a)=Kd s a k j:=by
  intro k j;induction j with
  |zero=>rfl
  |succ j ih=>
   rw[GX,ZdM,ih,Kd];congr 1;simp only[Xe];split
   .simp only[GG,ZeJ,D8,Jo]
   .rfl
 have G: ∀n,(Cv a n).flatMap (Jo s a)=FE s a n:=by
  intro n;induction n with
  |zero=>rfl
  |succ n ih=>rw[Cv,ZdM,ih,z,FE]
 exact G _
def Qv6(s:AC)(a:Ak){i:Nat}{x:List D}(h:(Cv a a.Tiles.length)[i]? =some x):EQ s a (i+1)=EQ s a i++Jo s a x:=by
 rw[EQ,Iq,h,ZdM,EQ];simp
def My(a:Ak){x:List D}(h:x∈Cv a a.Tiles.length): ∃k m d:Int,x=[.agg [.int .i64 k,.int .i64 m],.int .i64 d]/\0<=k/\k<a.Tiles.length/\0<=m/\m<a.Tiles.length/\0<=d/\d<=1:=by
 have G: ∀(k:Nat) j,j<=2->k<a.Tiles.length->x∈GX a k j-> ∃k m d:Int,x=[.agg [.int .i64 k,.int .i64 m],.int .i64 d]/\0<=k/\k<a.Tiles.length/\0<=m/\m<a.Tiles.length/\0<=d/\d<=1:=by
  intro k j;induction j with
  |zero=>intro _ _ h;simp[GX] at h
  |succ j ih=>
   intro Z Q z;rw[GX,Bx] at z;rcases z with z|z
   .exact ih (by omega) Q z
   .split at z
    .rename_i h0;obtain rfl:=BK.1 z;exact⟨k,Hm a k (1 - j),1 - j,rfl,by omega,by omega,h0,KF _ _ _,by omega,by omega⟩
    .cases z
 have O: ∀n,n<=a.Tiles.length->x∈Cv a n-> ∃k m d:Int,x=[.agg [.int .i64 k,.int .i64 m],.int .i64 d]/\0<=k/\k<a.Tiles.length/\0<=m/\m<a.Tiles.length/\0<=d/\d<=1:=by
  intro n;induction n with
  |zero=>intro _ h;simp[Cv] at h
  |succ n ih=>
   intro hn z;rw[Cv,Bx] at z;rcases z with z|z
   .exact ih (by omega) z
   .exact G n 2 (AQ _) hn z
 exact O _ (AQ _) h
def T4(a:Ak): ∀n,(Cv a n).length<=2*n:=by
 have z: ∀k j,(GX a k j).length<=j:=by
  intro k j;induction j with
  |zero=>simp[GX]
  |succ j ih=>rw[GX,Dq];split<;>simp<;>omega
 intro n;induction n with
 |zero=>simp[Cv]
 |succ n ih=>have:=z n 2;rw[Cv,Dq];omega
def TQ(s:AC)(a:Ak)(i:Nat):(EQ s a i).length<=i:=by
 induction i with
 |zero=>simp[EQ]
 |succ i ih=>
  cases h:(Cv a a.Tiles.length)[i]? with
  |none=>
   have:EQ s a (i+1)=EQ s a i:=by
    have z:=ZeB.1 h;rw[EQ,EQ,DQ (by omega),DQ z]
   rw[this];omega
  |some x=>
   rw[Qv6 s a h,Dq]
   have:(Jo s a x).length<=1:=by
    unfold Jo;split
    .split<;>simp
    .simp
   omega
def mC:Db:=Q4 [(269,nbrs.row),(213,bond_.row)]
def O2:J5 Tryz.prog mC:=QC _ (by
 intro p hp;simp only[Bm,mU,gO] at hp;rcases hp with rfl|rfl
 .exact nbrs.ok
 .exact bond_.ok)
def Wb: ∀(H:Av),(H.all λp=> !p.2.2.isView)=true-> ∀o e,hget H o=some e->e.2.isView=false
 |[],_,o,e,h=>by cases h
 |(n,x)::r,z,o,e,h=>by
  simp only[Lw,AS,Kq] at z;simp only[hget] at h;cases hq:(n==o)<;>rw[hq] at h
  .exact Wb r z.2 o e h
  .simp only[Ck,AJ] at h;subst h;exact z.1
def vD{P:Program}{V:Db}{C:AW}{N:Nat}(Z:P.follows .mixedOrders=true)(HV:Hs P V){x y:Code}(G:Em N x=true)(z:HG x=true){s':Ai}{Q:Exit->Act->World->Prop}{s:Ai}{a:Act}{w:World}(hc:BG C N s a w)(hk:Dc P V x (BI s') s)(hg:s'.good=true)(O:C.n0<=s'.nx)
 (hn: ∀a w,BG C N s' a w->y.wpIn Fence.wide 0 P Q a w):(x.seq y).wpIn Fence.wide 0 P Q a w:=by
 refine wpIn_seq (wpIn_mono (lC (ro:=none) Z HV x G z _ s a w hk hc) ?_);intro e a' w' hq;cases e<;>simp only[FZ] at hq<;>simp only[Exit.then]
 .obtain⟨s1,h1,h2⟩:=hq;exact hn _ _ (lY h2 h1 hg O)
 .obtain⟨_,h,_⟩:=hq;exact h.elim
 .obtain⟨_,h,_⟩:=hq;exact h.elim
def bnds.rc:D->Option (List Ag):=Q6 Ag.d
def bnds.re:(List Ag)->D:=λb=>D.sl false 3 (b.map Ag.c)
def bnds.rle: ∀d b,bnds.rc d=some b->Le d (bnds.re b):=rZ Ag.d_le (λ_=>rfl)
def bnds.ar:List PK->Option (AC×Ak):=a2 (kR AC.d) (kR Ak.d)
def bnds.ae(a:AC×Ak):List PK:=[.val (.agg (AC.c a.1)),.val (.agg (Ak.c a.2))]
def bnds.le: ∀z a,bnds.ar z=some a->BN z (bnds.ae a):=(Rr (Mj AC.d_le) (Mj Ak.d_le))
def bnds.fv(a:AC×Ak):List Ag:=(λs a=>FE s a a.Tiles.length) (a.1) (a.2)
def bnds.row:AA:=CR (b2 (qR AC.d_le) (qR Ak.d_le)) (RK.mk bnds.rc bnds.re bnds.rle) (λa=>Qs0 a.1 a.2) bnds.fv
def bnds.q:=CY (R:=bnds.row) rfl
def bnds.ok:AB Tryz.prog 246 bnds.row:=by
 refine Quy (by kernel_rfl) bnds.le bnds.rle ?_;intro a ac C S vs RR hW ad aa;refine PV Tryz.func246 rfl (by simp[bnds.ae]) ?_ hW ad aa;clear aa ad hW;intro C0 ao w hw ab hc am;have HV:=fL O2;have an:C0.ds=[]:=by obtain⟨S0,_,h⟩:=hc;rw[<-h.defers];exact am
 simp only[Tryz.f246] at hc⊢;obtain⟨s,A⟩:=a;obtain⟨h1,h2,h3,h4⟩:=ac;simp only at h1 h2 h3 h4;refine vD CZ HV (by decide) (by decide) (s':=⟨[(3,.ptr 1 0),(2,.ptr 0 0)],[(0,(true,.cells 45 ((AC.c s).map .im))),(1,(true,.cells 39 ((Ak.c A).map .im)))],2⟩) hc ?_ ?_ (by rw[ab];exact Cz _) (λa w hc=> ?_)
 .simp only[mC];simp(disch:=omega)only[ZA,simprocAttr,BI,sub,bnds.ae,Dt,D7,BJ,entry]
 .simp[Ai.good,Am,Ac,Aq,A8,AV.bel,AC.c,Ak.c]
 refine vD CZ HV (by decide) (by decide) (s':=⟨[(5,.ptr 2 0),(3,.ptr 1 0),(2,.ptr 0 0)],[(0,(true,.cells 45 ((AC.c s).map .im))),(1,(true,.cells 39 ((Ak.c A).map .im))),(2,(true,.cells 281 [.im (.sl true 0 [])]))],3⟩) hc ?_ ?_ (by rw[ab];exact Cz _) (λa w hc=> ?_)
 .simp only[mC];simp(disch:=omega)only[ZA,simprocAttr,BI,sub]
 .simp[Ai.good,Am,Ac,Aq,A8,AV.bel,AC.c,Ak.c]
 refine wpIn_seq ?_;refine vD CZ HV (by decide) (by decide) (s':=⟨[(10,.im (.fn 286 [] [.ref (Ak.c A)])),(5,.ptr 2 0),(3,.ptr 1 0),(2,.ptr 0 0)],[(0,(true,.cells 45 ((AC.c s).map .im))),(1,(true,.cells 39 ((Ak.c A).map .im))),(2,(true,.cells 281 [.im (.sl true 0 [])]))],3⟩) hc ?_ ?_ (by rw[ab];exact Cz _) (λa w hc=> ?_)
 .simp only[mC];simp(disch:=omega)only[ZA,simprocAttr,Ak.d,BI,sub,nbrs.q,nbrs.re,nbrs.fv]
 .simp[Ai.good,Am,Ac,Aq,A8,AV.bel,AC.c,Ak.c]
 refine wpIn_block (wpIn_mono (Ug CZ HV hc (gf:=286) (capt:=[.ref (Ak.c A)]) (xs:=Cv A A.Tiles.length) (Oa (by kernel_rfl)) (T5 A h2.1 h3 h4) (by decide) (by decide) (by decide) (by decide) ?_ (by decide)
  (tm0:=[(10,.im (.fn 286 [] [.ref (Ak.c A)])),(5,.ptr 2 0),(3,.ptr 1 0),(2,.ptr 0 0)]) (hs:=λi=>[(0,(true,.cells 45 ((AC.c s).map .im))),(1,(true,.cells 39 ((Ak.c A).map .im))),(2,(true,.cells 281 [.own 3])),(3,(true,.arr 318 3 ((EQ s A i).map Ag.c)))]) (nx:=4) ⟨[(3,none)],?_⟩ rfl (by simp) ?_ ?_ ?_ ?_) ?_)
 .intro x hx;obtain⟨k,m,d,rfl,_⟩:=My A hx;rfl
 .simp only[Ay];simp(disch:=omega)only[ZA,simprocAttr,Bp,VL,EQ]
 .simp[Am,AV.bel]
 .intro i hi;simp[Ai.good,Am,Ac,Aq,A8,AV.bel,AC.c,Ak.c]
 .intro i o e he hv;rw[Wb _ (by rfl) o e he] at hv;cases hv
 .intro i x hx;have aq:=TQ s A i;have au:=(Ce.1 hx).1;have av:=T4 A A.Tiles.length;obtain⟨k,m,d,rfl,k0,k1,m0,m1,d0,d1⟩:=My A (AZ hx);have G:=Qv6 s A hx;simp only[Jo] at G;simp only[mC];simp(disch:=omega)only[ZA,simprocAttr,Ox,U3,Fu,bond_.q,bond_.re,bond_.fv,AO];refine⟨k0,k1,λp hp=>⟨m0,m1,λq hq=>⟨⟨h1,h2.2 p (AZ hp),⟨d0,by omega⟩,h2.2 q (AZ hq)⟩,λhb=>⟨?_,by omega,[(3,some 6)],?_⟩,λhb=>⟨[],?_⟩⟩⟩⟩
  .intro row Q;obtain rfl:=BK.1 Q;rfl
  all_goals
   have e1:GA A k=p.Tile:=by simp[GA,hp]
   have e2:GA A m=q.Tile:=by simp[GA,hq]
   rw[e1,e2] at G
  .rw[An hb] at G;simp only[Ay];simp(disch:=omega)only[ZA,simprocAttr,Bp,G];simp[Ag.c]
  .rw[Af hb,D8] at G;simp only[Ay];simp(disch:=omega)only[ZA,simprocAttr,Bp,G]
 .intro e a' w' hq;cases e<;>simp only[YJ] at hq;obtain⟨C2,S2,Dk,rfl,hE,O,ht,hd,af,ag,ah,ai,aj⟩:=hq;simp only[Exit.inBlock,Exit.then];have ak:a.defers=[]:=by obtain⟨S0,_,h⟩:=hc;rw[h.defers];exact an
  rw[ak] at hd;have hm: ∀a'':Act,a''.defers=C2.ds->uN C0 C2 a''.defers:=λa'' h=> .inr ⟨Dk,by rw[h,<-hE.defers,hd],af,ag,ah,ai,aj⟩
  refine wpIn_mono (lC (ro:=none) CZ HV _ (by decide) (by decide) (ZY Tryz.prog [ResultVar.tmp 4] (Bn bnds.rc (bnds.fv (s,A)))) _ a' S2.w ?_ ⟨S2,rfl,hE⟩) ?_
  .simp only[mC];simp(disch:=omega)only[ZA,simprocAttr,bnds.rc,bnds.fv,TP,Bn];intro row Q;obtain⟨b,_,rfl⟩:=Bv.1 Q;rfl
  .intro e a'' w'' hq;cases e<;>simp only[FZ] at hq<;>simp only[Ps]
   .obtain⟨s',Z,z⟩:=hq;exact⟨s',C2,Z,z,O,hm a'' (by obtain⟨S0,_,h⟩:=z;exact h.defers)⟩
   .obtain⟨s',Z,z⟩:=hq;exact Z.elim
   .obtain⟨s',Z,z⟩:=hq;exact⟨s',C2,Z,z,O,hm a'' (by obtain⟨S0,_,h⟩:=z;exact h.defers)⟩
end Go.Ae
namespace Go.Ae
open Go.Proofs
def L2{n:Nat}{gs:List (List Int)}(z:0<gs.length): ∀(bs:List Ag),(∀b∈bs,0<b.Strength/\b.Strength<=4)-> ∀b∈GU (Rg n gs) bs,Ky gs.length b
 |[],_,b,h=>by simp[GU] at h
 |x::r,hs,b,h=>by
  simp only[GU] at h;have ih:=L2 (n:=n) z r (λy hy=>hs y (BX _ hy)) b;split at h
  .exact ih h
  .rename_i G;rcases Bm.1 h with rfl|h
   .have O:=Qy8 (n:=n) z x.A;have Q:=Qy8 (n:=n) z x.B;have Z:=hs x (BT ..);exact⟨⟨O.1,O.2,Q.1,Q.2⟩,G,Z.1,Z.2⟩
   .exact ih h
def Re(s:AC)(a:Ak)(t:Int):Bool×Bool:=
 if 64<(Dw a.Tiles.length (FE s a a.Tiles.length) t).1 then (false,false)
 else (uZ (Dw a.Tiles.length (FE s a a.Tiles.length) t).1 (Dw a.Tiles.length (FE s a a.Tiles.length) t).2 t,true)
def Qz2(n:Nat)(bs:List Ag)(hn:0<n): ∀k,(∀v∈Cg n bs k,0<=v)/\(Cg n bs k)[0]? =some 0
 |0=>by
  refine⟨λv G=> ?_,zG n 0 hn⟩;obtain⟨i,O⟩:=Ku.1 G;have hl:=(Ce.1 O).1;simp only[Cg] at O hl;rw[zG n i (by rwa [eG] at hl)] at O
  have:=AD O
  omega
 |k+1=>by
  obtain⟨Q,h2⟩:=Qz2 n bs hn k;simp only[Cg];split
  .rename_i b hb;have z: ∀i:Nat,0<=(Cg n bs k)[i]?.getD 0:=by
    intro i;cases h:(Cg n bs k)[i]? with
    |none=>simp
    |some v=>exact Q v (AZ h)
   have hj: ∀x y v:Int,0<=x->0<=y->0<=v->0<=J2 x y v:=by
    intro x y v z hy G;simp only[J2];by_cases h:v=Et x y
    .rw[An h];simp only[EO];split<;>omega
    .rw[Af h];exact G
   have Z: ∀x y:Int,0<=x->0<=y->J2 x y 0=0:=by
    intro x y z hy;simp only[J2];by_cases h:(0:Int)=Et x y
    .rw[An h];simp only[Et] at h;simp only[EO];split at h<;>split<;>omega
    .rw[Af h]
   refine⟨λv G=> ?_,?_⟩
   .obtain⟨u,hu,rfl⟩:=Bv.1 G;exact hj _ _ _ (z _) (z _) (Q u hu)
   .rw[tS,D2,h2,CQ,Z _ _ (z _) (z _)]
  .exact⟨Q,h2⟩
def Qab7{n:Nat}{bs:List Ag}{t:Int}(hn:0<n):0<(NZ n bs t).length:=by
 have h:=(Qz2 n (GC t bs) hn (GC t bs).length).2;obtain⟨z,G⟩:=Qo6 (Cg n (GC t bs) (GC t bs).length) n 0 h n (AQ _) hn
 have:(((0:Nat):Int)::z)∈NZ n bs t:=by simpa only[NZ,VA,B0] using G
 exact List.length_pos_of_mem this
def LA{n:Nat}{bs:List Ag}{t:Int}(hb: ∀b∈bs,Ky n b)(hl:bs.length<=1000000)(O:(Dw n bs t).1<=64):M4 (Dw n bs t):=by
 have Q:=Qpl (Rg n (NZ n bs t)) bs;by_cases h0:0<(Dw n bs t).1
 .have G:=L2 (n:=n) (gs:=NZ n bs t) (by simp only[Dw] at h0;omega) bs (λb z=>⟨(hb b z).2.2.1,(hb b z).2.2.2⟩);refine⟨by omega,O,by simp only[Dw,B0];omega,λb z=> ?_,λb z=> ?_,λb z=> ?_⟩
  .have:=G b (by simpa only[Dw,B0] using z)
   exact this.1
  .have:=G b (by simpa only[Dw,B0] using z)
   have:=this.2.2
   omega
  .have:=G b (by simpa only[Dw,B0] using z)
   exact this.2.1
 .have hn:bs=[]:=by
   cases bs with
   |nil=>rfl
   |cons b r=>
    exfalso;have Z:=(hb b (BT ..)).1;have h6:=Qab7 (n:=n) (bs:=b::r) (t:=t) (by omega);simp only[Dw] at h0;omega
  subst hn;refine⟨by simp only[Dw];omega,O,by simp only[Dw,GU];simp,λb z=> ?_,λb z=> ?_,λb z=> ?_⟩<;>(simp[Dw,GU] at z)
def stabI.fv(a:AC×Ak×Int):Bool×Bool:=(Re) (a.1) (a.2.1) (a.2.2)
def stabI.row:AA:=CR (b3 (qR AC.d_le) (qR Ak.d_le) qI) (r2 rB rB) (λa=>Qs0 a.1 a.2.1/\a.2.1.Tiles.length<=512/\0<=a.2.2/\a.2.2<=1000000) stabI.fv
def stabI.q:=CY (R:=stabI.row) rfl
def stabI.ok:AB Tryz.prog 211 stabI.row:=by
 refine Fy (tC bnds.ok (tC contr.ok (tC holds_.ok tN))) Tryz.func211 rfl (by kernel_rfl) ?_;intro a z;simp only[Tryz.f211];simp(disch:=omega)only[ZA,simprocAttr,Ak.d,Cl,stabI.fv,bnds.q,bnds.fv,bnds.re,contr.q,contr.fv,holds_.q,holds_.fv,D.sc,D.scs,Bn];obtain⟨s,A,t⟩:=a;obtain⟨G,h2,O,Q⟩:=z;simp only at G h2 O Q⊢;have Z:=Qro G.1 A A.Tiles.length (AQ _);have hL:=sI s A A.Tiles.length;refine⟨G,⟨by omega,λb hb=>(Z b hb).1,by omega⟩,?_⟩;split
 .rename_i h;simp only[Re];rw[An h]
 .rename_i h;refine⟨⟨LA Z (by omega) (by omega),O,Q⟩,?_⟩;simp only[Re];rw[Af h]
def QV(s:AC)(a:Ak)(t:Int):Bool×Int:=
 if (F1 s && Kb s a)=false then (false,1)
 else if Bj t 1 16=false then (false,2)
 else if (Re s a t).2=false then (false,4) else ((Re s a t).1,0)
def uA{s:AC}{a:Ak}(h:(F1 s && Kb s a)=true):Qs0 s a/\a.Tiles.length<=512:=by
 rw[AS] at h;have G:=Qge h.1;have z:=Z3 h.2;refine⟨⟨G,z.1,by omega,λx O=> ?_⟩,by omega⟩
 have:=(sJ _ _ z.1.1 x O).1
 simp only[E3,Bj,AS,BL] at this;refine⟨?_,?_,?_,?_⟩<;>omega
def isStab.fv(a:AC×Ak×Int):Bool×Int:=(QV) (a.1) (a.2.1) (a.2.2)
def isStab.row:AA:=CR (b3 (qR AC.d_le) (qR Ak.d_le) qI) (r2 rB rI) (λa=>Qf a.1) isStab.fv
def isStab.q:=CY (R:=isStab.row) rfl
def isStab.ok:AB Tryz.prog 173 isStab.row:=by
 refine Fy (tC ValidAssembly_.ok (tC isTemperature.ok (tC stabI.ok tN))) Tryz.func173 rfl (by kernel_rfl) ?_;intro a z;simp only[Tryz.f173];simp(disch:=omega)only[ZA,simprocAttr,Ak.d,Cl,isStab.fv,ValidAssembly_.q,ValidAssembly_.fv,isTemperature.q,isTemperature.fv,stabI.q,stabI.fv,D.sc,D.scs,Bn];obtain⟨s,A,t⟩:=a;simp only at z⊢;refine⟨z,?_⟩;split
 .rename_i c1;simp only[QV];rw[An c1]
 .rename_i c1;split
  .rename_i G;simp only[QV];rw[Af c1,An G]
  .rename_i G;have Q:=uA (s:=s) (a:=A) (by simpa using c1);have Z:Bj t 1 16=true:=by simpa using G
   simp only[Bj,AS,BL] at Z;refine⟨⟨Q.1,Q.2,by omega,by omega⟩,?_⟩;split
   .rename_i O;simp only[QV];rw[Af c1,Af G,An O]
   .rename_i O;simp only[QV];rw[Af c1,Af G,Af O]
def eZ(y:Ax):Bool:=if y.Seed.Tiles.length=0 then false else ((QV y.Set y.Seed y.Temperature).1 && decide ((QV y.Set y.Seed y.Temperature).2=0))
def validI_.fv(a:Ax):Bool:=(eZ) a
def validI_.row:AA:=CR (b1 (qR Ax.d_le)) rB (λa=>Qf a.Set) validI_.fv
def validI_.q:=CY (R:=validI_.row) rfl
def validI_.ok:AB Tryz.prog 123 validI_.row:=by
 refine Fy (tC isStab.ok tN) Tryz.func123 rfl (by kernel_rfl) ?_;intro a z;simp only[Tryz.f123];simp(disch:=omega)only[ZA,simprocAttr,Ak.d,Cl,validI_.fv,isStab.q,isStab.fv,D.sc,D.scs,Bn];intro _;by_cases h:a.Seed.Tiles.length=0
 .rw[An (by omega)];simp only[eZ];rw[An h]
 .rw[Af (by omega)];refine⟨z,?_⟩;simp only[eZ];rw[Af h];split
  .rename_i c;rw[c,Eb]
  .rename_i c;rw[Lv] at c;rw[c,F6]
def Qv9(S:Nat->Bool)(nm:List Int): ∀(bs:List Ag),CH S (GU nm bs)=CH S (HC nm bs)
 |[]=>rfl
 |b::r=>by
  have ih:=Qv9 S nm r;simp only[GU,HC];split
  .exact ih
  .simp only[CH,ih];congr 1;obtain⟨x,hx⟩: ∃x,x=BQ nm b.A:=⟨_,rfl⟩;obtain⟨y,hy⟩: ∃y,y=BQ nm b.B:=⟨_,rfl⟩;rw[<-hx,<-hy];by_cases h:x<y
   .have G:EO x y=x:=An h;have z:Et x y=y:=Af (by omega);rw[G,z]
   .have G:EO x y=y:=Af h;by_cases Q:y<x
    .have z:Et x y=x:=An Q;rw[G,z];by_cases O:S x.toNat=S y.toNat
     .rw[An O,An O.symm]
     .rw[Af O,Af (EK O)]
    .have z:Et x y=y:=Af Q
     have:x=y:=by omega
     rw[G,z,this]
def Qxe(n:Nat)(nm:List Int)(bs:List Ag)(t:Int)(k:Nat):WX n (GU nm bs) t k↔WX n (HC nm bs) t k:=by
 simp only[WX,Qv9]
def Ve{s:AC}{A:Ak}{t:Int}(h:Qs0 s A)(hl:A.Tiles.length<=512)(ht:0<=t):
 (Re s A t).2=decide ((fP s A t).2=0)/\((Re s A t).2=true->(Re s A t).1=(fP s A t).1):=by
 have O:=Qro h.1 A A.Tiles.length (AQ _);have hL:=sI s A A.Tiles.length;obtain⟨bs,hbs⟩: ∃bs,bs=FE s A A.Tiles.length:=⟨_,rfl⟩;obtain⟨n,hn⟩: ∃n,n=A.Tiles.length:=⟨_,rfl⟩;rw[<-hn] at O hL hbs hl;rw[<-hbs] at O hL;have hc:(Dw n bs t).1=(Ch n bs t).1:=rfl;simp only[Re,fP,<-hn,<-hbs,hc];by_cases G:64<(Ch n bs t).1
 .rw[An G,An G];exact⟨rfl,λh=>by cases h⟩
 .rw[Af G,Af G];have z:=LA (t:=t) O (by omega) (by rw[hc];omega);have hh:=Qtt (n:=(Ch n bs t).1.toNat) (bs:=(Dw n bs t).2) (t:=t) (λb hb=>by
   have:=z.2.2.2.1 b hb
   have h0:=z.1;rw[hc] at this h0;rw[Zek h0];exact this) z.2.2.2.2.1 ht
  by_cases Z:(Ch n bs t).1<2
  .rw[An Z];refine⟨rfl,λ_=> ?_⟩;simp only[uZ];rw[show (Ch n bs t).1.toNat - 1=0 by omega];rfl
  .rw[Af Z];refine⟨rfl,λ_=> ?_⟩;obtain⟨p1,p2⟩:=Na (t:=t) O (by omega) (by omega) (by omega);have hw:=(Qzk (n:=(Ch n bs t).1) (bs:=(Ch n bs t).2) p1 p2 ht ((Ch n bs t).1 - 1).toNat (by omega) (by omega)).2;have Q:=hh ((Ch n bs t).1.toNat - 1) (by omega);simp only[uZ];rw[show ((Ch n bs t).1 - 1).toNat=(Ch n bs t).1.toNat - 1 by omega] at hw⊢;have e:WX (Ch n bs t).1.toNat (Dw n bs t).2 t ((Ch n bs t).1.toNat - 1)↔WX (Ch n bs t).1.toNat (Ch n bs t).2 t ((Ch n bs t).1.toNat - 1):=Qxe _ _ _ _ _;rw[VQ,Q,e,<-hw];simp
def bX(y:Ax):eZ y=F3 y:=by
 simp only[eZ,F3];by_cases h:y.Seed.Tiles.length=0
 .rw[An h]
  have:y.Seed.Tiles=[]:=vL h
  simp[this]
 .rw[Af h];have he:y.Seed.Tiles.isEmpty=false:=by
   rw[ZdK];intro Z;rw[Z] at h;simp at h
  by_cases c1:(F1 y.Set && Kb y.Set y.Seed)=false
  .have e:QV y.Set y.Seed y.Temperature=(false,1):=An c1;rw[e];rw[vS] at c1;rcases c1 with c1|c1<;>simp[c1]
  .have z:=c1;rw[FW] at c1;have hp:=uA (s:=y.Set) (a:=y.Seed) c1;rw[AS] at c1;rw[c1.1,c1.2,he];by_cases G:Bj y.Temperature 1 16=false
   .have e:QV y.Set y.Seed y.Temperature=(false,2):=(Af z).trans (An G);rw[e,G];simp
   .have Q:=G;rw[FW] at G;have ht:0<=y.Temperature:=by simp only[Bj,AS,BL] at G;omega
    obtain⟨q1,q2⟩:=Ve hp.1 hp.2 ht;rw[G];simp only[Vd,Xo,Eb];by_cases O:(Re y.Set y.Seed y.Temperature).2=false
    .have e:QV y.Set y.Seed y.Temperature=(false,4):=(Af z).trans ((Af Q).trans (An O));rw[e,<-q1,O];simp
    .have e:QV y.Set y.Seed y.Temperature=((Re y.Set y.Seed y.Temperature).1,0):=(Af z).trans ((Af Q).trans (Af O));rw[FW] at O;rw[e,<-q1,O,q2 O];simp
def Qq4{a b:Ab}(h:Bt a b=false)(G:a≠b):Bt b a=true:=by
 obtain⟨x,y⟩:=a;obtain⟨z,w⟩:=b;simp only[Bt,ne_eq,Ab.mk.injEq] at*
 grind
def Ed(p:Ab)(t:Int):List Al->List Al
 |[]=>[⟨p,t⟩]
 |x::r=>if Bt p x.At=true then ⟨p,t⟩::x::r else x::Ed p t r
def MF(p:Ab)(t:Int): ∀(l:List Al),GY p t false l++(if IC p l=true then [] else [⟨p,t⟩])=Ed p t l
 |[]=>rfl
 |x::r=>by
  have ih:=MF p t r;by_cases h:Bt p x.At=true
  .have e:IC p (x::r)=true:=by simp only[IC,An h]
   simp only[e,BM,D8,GY,Ed,An h,uK]
  .have e:IC p (x::r)=IC p r:=by simp only[IC,Af h]
   simp only[e,GY,Ed,Af h,CT,ih]
def WV(a:Ak)(p:Ab)(t:Int):BU a p t=⟨Ed p t a.Tiles⟩:=by simp only[BU,MF]
def tK(p:Ab)(t:Int)(y:Al): ∀(l:List Al),y∈Ed p t l↔y=⟨p,t⟩\/y∈l
 |[]=>by simp[Ed]
 |x::r=>by
  simp only[Ed];split
  .simp
  .simp only[Bm,tK p t y r];constructor
   .rintro (h|h|h)
    .exact .inr (.inl h)
    .exact .inl h
    .exact .inr (.inr h)
   .rintro (h|h|h)
    .exact .inr (.inl h)
    .exact .inl h
    .exact .inr (.inr h)
def Qki{p:Ab}{t:Int}(hp:E3 p=true)(Z:Bj t 0 159=true): ∀(l:List Al) (q:Option Ab),Dl q l=true->(∀q',q=some q'->Bt q' p=true)->(∀x∈l,x.At≠p)->Dl q (Ed p t l)=true
 |[],q,_,G,_=>by
  simp only[Ed,PY,sU,hp,Z,Eb,F7];cases q with
  |none=>rfl
  |some q'=>exact G q' rfl
 |x::r,q,z,G,h3=>by
  have hx:=h3 x (BT ..);rw[PY] at z;simp only[AS] at z;obtain⟨g1,g2,g3,g4⟩:=z;simp only[Ed];split
  .rename_i O;rw[PY,PY];simp only[hp,Z,g1,g2,g4,O,Eb,F7];cases q with
   |none=>rfl
   |some q'=>exact G q' rfl
  .rename_i O;rw[PY];have ih:=Qki hp Z r (some x.At) g4 (λq' Q=>by
    obtain rfl:=AD Q;exact Qq4 (by simpa using O) (EK hx)) (λy hy=>h3 y (BX _ hy))
   simp only[g1,g2,ih,Eb,F7];exact g3
def Ut(m:IG)(o:Ak)(x:Al):Option Ak:=
 if (m.Labels[x.Tile.toNat]?.getD 0)<0 then some o
 else if 0<=Bb o (eM x.At m.Scale).1/\Bb o (eM x.At m.Scale).1≠(m.Labels[x.Tile.toNat]?.getD 0) then none
 else if Bb o (eM x.At m.Scale).1<0 then some (BU o (eM x.At m.Scale).1 (m.Labels[x.Tile.toNat]?.getD 0)) else some o
def Dv(s:Ax)(a:Ak)(o:Ap):Bool:=E3 o.At && (Bj o.Tile 0 (s.Set.Tiles.length - 1) && (decide (Bs (λx=>decide (x.At=o.At)) 0 a.Tiles<0) && decide (s.Temperature<=J4 s.Set a o.At o.Tile 4)))
def Qma{a:Ak}{p:Ab}(h:Bs (λx=>decide (x.At=p)) 0 a.Tiles<0): ∀x∈a.Tiles,x.At≠p:=by
 intro x O G;rcases QW (λx=>decide (x.At=p)) a.Tiles 0 with ⟨z,_⟩|⟨i,y,_,Q,_⟩
 .have:=aB.1 z x O
  simp[G] at this
 .omega
end Go.Ae
