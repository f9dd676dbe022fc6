/- Lemmas. Conditions: none. -/
import Derived.Test.YtelbgmfdnnljoabGreatDoorP11
import Derived.Sort.LoopGhostIn
set_option linter.all false
set_option maxHeartbeats 8000000
set_option maxRecDepth 100000
namespace Go.Ae
open Go
def It{ι:Type}(J:ι->(Nat->Prop)->World->Prop)(base:Nat)(ok0:Nat->Prop)(N:Nat)(i:ι)(s:Az)(a:Act)(w:World):Prop:=
 ∃C S Pr,S.w=w/\CQ C N s S a/\a.defers=[]/\base<=w.heap.size/\J i Pr w/\(∀b,Ft S b->base<=b/\ ¬Pr b)/\(∀b,S.ok b->ok0 b\/ ¬Pr b)
def Yu{ι:Type}(J:ι->(Nat->Prop)->World->Prop)(base:Nat)(ok0:Nat->Prop)(N:Nat)(i:ι)(Q:Ct):Exit->Act->World->Prop
 | .normal,a,w=> ∃s,Q .normal s/\It J base ok0 N i s a w
 | .exit id,a,w=> ∃s,Q (.exit id) s/\It J base ok0 N i s a w
 | .ret,a,w=> ∃s,Q .ret s/\It J base ok0 N i s a w
 |_,_,_=>False
def Nk{ok ok':Nat->Prop}{hp hp':Nat->Option Obj}: ∀(ds:List D) (vs:List Value),ds.all D.scs=true->rdl ok hp ds vs->rdl ok' hp' ds vs
 |[],_,_,hd=>by simpa only[rdl] using hd
 |d::ds,vs,h,hd=>by
  simp only[rdl,EZ,AY] at hd h⊢;obtain⟨v,r,rfl,z,O⟩:=hd;exact⟨v,r,rfl,WT h.1 z,Nk ds r h.2 O⟩
section
variable {ι:Type}{P:Program}{V:Dn}{N:Nat}{J:ι->(Nat->Prop)->World->Prop}{base:Nat}{ok0:Nat->Prop}{i j:ι}
def Tp(hA:QC base J){s:Az}{a:Act}{w:World}(h:It J base ok0 N i s a w):
 ∃C1,BN C1 N s a w/\ ∀s' a' w',BN C1 N s' a' w'->It J base ok0 N i s' a' w':=by
 obtain⟨C,S,Pr,rfl,hE,hd,hb,hJ,z,aa⟩:=h;obtain⟨Q,ab⟩:=hA i Pr _ hJ;refine⟨GX S s.nx a.defers,⟨S,rfl,YU hE⟩,?_⟩;rintro s' a' w' ⟨S',rfl,O⟩;have hs:S.w.heap.size<=S'.w.heap.size:=O.wf.size;refine⟨_,S',Pr,rfl,O,O.defers.trans hd,CS hb hs,ab _ hs O.wf.os O.wf.tape O.wf.output O.wf.dr ?_,λb h=> ?_,λb h=> ?_⟩
 .rintro b (h|h)
  .exact ZU O.wf b (Q b h) (λZ=>(z b Z).2 h)
  .exact ZU O.wf b (by omega) (λZ=>by have:=(z b Z).1;omega)
 .rcases lW O.wf h with q|q
  .exact⟨CS hb q,λhp=>by have:=Q b hp;omega⟩
  .exact z b q
 .rcases aN O.wf h with q|q|q
  .exact aa b q
  .exact .inr λhp=>by have:=Q b hp;omega
  .exact .inr (z b q).2
def Cw(s':Az):Ct
 | .normal,s=>sub s s'
 | .exit _,_=>False
 | .ret,_=>False
def Ya(s':Az)(p q:Prop)(id:Nat):Ct
 | .normal,s=>p/\sub s s'
 | .exit k,s=>k=id/\q/\sub s s'
 | .ret,_=>False
def Qy6(HM:P.follows .mixedOrders=true)(HV:Ii P V)(hA:QC base J){c:Code}(hc:Eu N c=true)(O:Il c=true){Q:Ct}{s:Az}{a:Act}{w:World}(hk:Di P V c Q s)(h:It J base ok0 N i s a w):
 c.wpIn Fence.wide 0 P (Yu J base ok0 N i Q) a w:=by
 obtain⟨C1,aa,z⟩:=Tp hA h;refine wpIn_mono (rQ (ro:=none) HM HV c hc O Q s a w hk aa) ?_;intro e a' w' hq;cases e<;>simp only[Hb] at hq<;>simp only[Yu]
 .obtain⟨s',Z,h2⟩:=hq;exact⟨s',Z,z _ _ _ h2⟩
 .obtain⟨s',Z,h2⟩:=hq;exact⟨s',Z,z _ _ _ h2⟩
 .obtain⟨s',Z,h2⟩:=hq;exact⟨s',Z,z _ _ _ h2⟩
def JX{s s':Az}{a:Act}{w:World}(h:It J base ok0 N i s a w)(hs:sub s s')(hg:s'.good=true)(hA:QC base J):It J base ok0 N i s' a w:=by
 obtain⟨C,S,Pr,rfl,hE,hd,hb,hJ,z,aa⟩:=h;have hm:RC S S.w:=⟨AU _,rfl,rfl,rfl,AU _,λ_ _=>rfl,λ_ _=>rfl⟩;have Q:CQ (GX S 0 a.defers) N s S a:=tY hE hm 0 (C5 _) a a.defers rfl rfl;obtain⟨O,ab⟩:=hA i Pr _ hJ;obtain⟨S',hw,Z⟩:=mA ⟨S,rfl,Q⟩ hs hg (C5 _);refine⟨_,S',Pr,hw,Z,hd,hb,hJ,λb h=> ?_,λb h=> ?_⟩
 .rcases lW Z.wf h with q|q
  .exact⟨CS hb q,λhp=>by have:=O b hp;omega⟩
  .exact z b q
 .rcases aN Z.wf h with q|q|q
  .exact aa b q
  .exact .inr λhp=>by have:=O b hp;omega
  .exact .inr (z b q).2
def Xv(HM:P.follows .mixedOrders=true)(HV:Ii P V)(hA:QC base J){x y:Code}(hc:Eu N x=true)(z:Il x=true){Qx:Ct}{Q:Exit->Act->World->Prop}{s:Az}{a:Act}{w:World}(h:It J base ok0 N i s a w)(hk:Di P V x Qx s)
 (hn: ∀s a w,Qx .normal s->It J base ok0 N i s a w->y.wpIn Fence.wide 0 P Q a w)(he: ∀id s a w,Qx (.exit id) s->It J base ok0 N i s a w->Q (.exit id) a w)(hr: ∀s a w,Qx .ret s->It J base ok0 N i s a w->Q .ret a w):(x.seq y).wpIn Fence.wide 0 P Q a w:=by
 refine wpIn_seq (wpIn_mono (Qy6 HM HV hA hc z hk h) ?_);intro e a' w' hq;cases e<;>simp only[Yu] at hq<;>simp only[Exit.then]
 .obtain⟨s',O,Z⟩:=hq;exact hn s' _ _ O Z
 .obtain⟨s',O,Z⟩:=hq;exact he _ s' _ _ O Z
 .obtain⟨s',O,Z⟩:=hq;exact hr s' _ _ O Z
def Qs5(HM:P.follows .mixedOrders=true)(HV:Ii P V)(hA:QC base J){x:Code}(hc:Eu N x=true)(z:Il x=true){Qx:Ct}{Q:Exit->Act->World->Prop}{s:Az}{a:Act}{w:World}(h:It J base ok0 N i s a w)(hk:Di P V x Qx s)
 (hn: ∀s a w,Qx .normal s->It J base ok0 N i s a w->Q .normal a w)(he: ∀id s a w,Qx (.exit id) s->It J base ok0 N i s a w->Q (.exit id) a w)(hr: ∀s a w,Qx .ret s->It J base ok0 N i s a w->Q .ret a w):x.wpIn Fence.wide 0 P Q a w:=by
 refine wpIn_mono (Qy6 HM HV hA hc z hk h) ?_;intro e a' w' hq;cases e<;>simp only[Yu] at hq
 .obtain⟨s',O,Z⟩:=hq;exact hn s' _ _ O Z
 .obtain⟨s',O,Z⟩:=hq;exact he _ s' _ _ O Z
 .obtain⟨s',O,Z⟩:=hq;exact hr s' _ _ O Z
def Tq(HV:Ii P V)(hA:QC base J){ops:Array Oper}{seg more:List Oper}{i0:Nat}(Z:ops.toList.drop i0=seg++more)(hd:LM N seg=true)(O:aC ops=true){K:Az->Prop}{Q:Exit->Act->World->Prop}{l2:List Nat}{s:Az}{a:Act}{w:World}
 (hk:PL P V (Ik ops seg) K s)(h:It J base ok0 N i s a w)(hK: ∀s a w,K s->It J base ok0 N i s a w->wpOpsIn Fence.wide 0 P ops Q l2 a w):wpOpsIn Fence.wide 0 P ops Q (List.range' i0 seg.length++l2) a w:=by
 obtain⟨C1,aa,z⟩:=Tp hA h;exact yM (ro:=none) O (K:=λa w=> ∃s,K s/\It J base ok0 N i s a w) (λa w ⟨s,h1,h2⟩=>hK s a w h1 h2) _ _ _
  (Qpr HV (Q:=λ_ a w=> ∃s,K s/\It J base ok0 N i s a w) (λs a w h1 h2=>⟨s,h1,z _ _ _ h2⟩) seg more i0 Z hd s a w hk aa)
def Sn{C:Bb}{s:Az}{S:A7}{a:Act}(z:CQ C N s S a){dst:Option Nat}(hd: ∀d,dst=some d->d<N){x:AV}{v:Value}(hx:x.nms=[])(hv:Aa S x v):CQ C N (s.put dst x) S (a.put dst v):=by
 have Q:(s.put dst x).h=s.h:=by cases dst<;>rfl
 have O:(s.put dst x).nx=s.nx:=by cases dst<;>rfl
 refine⟨z.wf,λn=>by rw[Q];exact z.h n,?_,?_,?_,?_,?_,by rw[O];exact z.n0,z.pre⟩
 .intro t;rw[VQ,yF (λd h=>by rw[z.size];exact hd d h)];split
  .exact hv
  .exact z.tm t
 .intro t;rw[VQ,O];split
  .intro m Z;rw[hx] at Z;cases Z
  .exact z.nmT t
 .rw[Q,O];exact z.nmH
 .cases dst<;>simp[Act.put,z.size]
 .cases dst<;>simp[Act.put,z.defers]
def Tr(hA:QC base J){ai:ι->List D->ι->Prop}{l:Nat}(hY: ∀i x j args Pr W,ai i x j->(∀ok hp,rdl ok hp x args.toList)->J i Pr W->YieldAt Fence.wide 0 P l args W λe W'=>e= .returned (.bool true)/\ ∃Pr',J j Pr' W'/\Kv ok0 Pr W Pr' W')
 {ops:Array Oper}{k:Nat}{rest:List Nat}{o:Oper}{c:Call}{f:Operand}{x:List D}{s:Az}{a:Act}{w:World}{Q:Exit->Act->World->Prop}(ho:ops[k]? =some o)(hw:Region.wanted o (yielded ops a.tmps)=true)(aq:o.op= .call c)(af:c.callee= .value f)
 (hf:Ay s.tm f= .im (.fn (1000000000+l) [] []))(ab:DT s.tm c.args.toList=x.map .im)(av:x.all D.scs=true)(hx:ai i x j)(ao: ∀n e,hget s.h n=some e->e.2.isView=false)(hd: ∀d,o.dst=some d->d<N)(h:It J base ok0 N i s a w)
 (ac: ∀a' w',It J base ok0 N j (s.put o.dst (.im (.bool true))) a' w'->wpOpsIn Fence.wide 0 P ops Q rest a' w'):wpOpsIn Fence.wide 0 P ops Q (k::rest) a w:=by
 obtain⟨C,S,Pr,rfl,Z,ag,hb,hJ,aa,ad⟩:=h;obtain⟨aw,_⟩:=hA i Pr _ hJ;have an:a.eval f= .func (.yield l) #[] #[]:=by
  have h1:=Ru Z f;rw[hf] at h1;simp only[Aa,rd,rdl] at h1;obtain⟨A,B,h2,h3,h4⟩:=h1;have e1:A= #[]:=by simpa using h3
  have e2:B= #[]:=by simpa using h4
  rw[h2,e1,e2];congr 1;unfold Yf;rw[Af (by omega),Zdk]
 have hcl:AO S (x.map .im) (c.args.map a.eval).toList:=by
  rw[<-ab,Wr];exact Qpe _ (λy _=>Ru Z y)
 have au: ∀ok hp,rdl ok hp x (c.args.map a.eval).toList:=λok hp=>by
  have h1:=(IW _ _).1 hcl;exact Nk _ _ av h1
 obtain⟨fn,aj,ak,bo,hy,hR⟩:=hY i x j (c.args.map a.eval) Pr S.w hx au hJ;simp only[wpOpsIn,ho,hw,BD];refine⟨λ_ _=>trivial,?_⟩;have ah:(o.semAt Fence.wide.round a.eval).run P S.w= .ok (.round l fn aj ak bo) S.w:=by
  show (execOp a.eval o).run P S.w=_;simp only[execOp,aq,resolve,af,an,Sem.run_bind];simp[Deferred.ofValue,invoke,hy]
 rw[ah,Oper.uponIn_round];refine⟨λh=>(by cases h),RoundIn.mono hR ?_⟩;rintro e W' ⟨rfl,Pr',am,O⟩;have hm:RC S W':=by
  refine⟨O.size,O.os,O.tape,O.output,O.dr,λb z=> ?_,?_⟩
  .rcases ad b z with q|q
   .exact O.same b (Z.wf.oks b z) (.inr q)
   .exact O.same b (Z.wf.oks b z) (.inl q)
  .rintro b ⟨o',e,lc,q1,q2,rfl⟩;have hl:=Z.wf.loc o' e lc q1 q2;cases hmu:e.1 with
   |true=>exact O.same _ hl.1 (.inl (aa _ ⟨o',e,lc,q1,hmu,q2,rfl⟩).2)
   |false=>
    have h5:=hl.2;rw[hmu] at h5;simp only[Df,CO] at h5;rcases h5 with h5|h5
    .rcases ad _ h5 with q|q
     .exact O.same _ hl.1 (.inr q)
     .exact O.same _ hl.1 (.inl q)
    .rw[ao o' e (by rw[<-Z.h o'];exact q1)] at h5;cases h5
 refine ac _ _ ⟨_,{S with w:=W'},Pr',rfl,Sn (tY Z hm 0 (C5 _) a [] ag rfl) hd rfl (by simp only[Aa,rd]),?_,CS hb O.size,am,λb z=> ?_,λb z=> ?_⟩
 .cases o.dst<;>exact ag
 .have q:=aa b z;have q2:=(Xq Z.wf z).1;refine⟨q.1,λhp=> ?_⟩;rcases O.pr b hp with r|r
  .exact q.2 r
  .omega
 .rcases ad b z with q|q
  .exact .inl q
  .refine .inr λhp=> ?_
   have q2:=Z.wf.oks b z;rcases O.pr b hp with r|r
   .exact q r
   .omega
def Yv(HV:Ii P V)(Z:QC base J){ac:ι->List D->ι->Prop}{l:Nat}(hY: ∀i x j args Pr W,ac i x j->(∀ok hp,rdl ok hp x args.toList)->J i Pr W->YieldAt Fence.wide 0 P l args W λe W'=>e= .returned (.bool true)/\ ∃Pr',J j Pr' W'/\Kv ok0 Pr W Pr' W')
 {id:Nat}{ops:Array Oper}(k1:Nat)(av:List.range ops.size=List.range' 0 (ops.toList.take k1).length++(k1::(List.range' (k1+1) (ops.toList.drop (k1+1)).length++[])))(ad:LM N (ops.toList.take k1)=true)(af:LM N (ops.toList.drop (k1+1))=true)(z:aC ops=true)
 {o:Oper}{c:Call}{f:Operand}{x:List D}(s1:Az){s s2:Az}{a:Act}{w:World}{Q:Exit->Act->World->Prop}{g t:Nat}(ho:ops[k1]? =some o)(aq:o.op= .call c)(aa:c.callee= .value f)(aj:o.guard=some (g,true))(ak:(ops[g]?).bind (·.dst)=some t)(ai:AE s1.tm t= .im (.bool true))
 (hf:Ay s1.tm f= .im (.fn (1000000000+l) [] []))(O:DT s1.tm c.args.toList=x.map .im)(au:x.all D.scs=true)(hx:ac i x j)(ao: ∀n e,hget s1.h n=some e->e.2.isView=false)(hd: ∀d,o.dst=some d->d<N)(ag:s1.good=true)(ah:s2.good=true)
 (h:It J base ok0 N i s a w)(am:PL P V (Ik ops (ops.toList.take k1)) (λs=>sub s s1) s)(an:PL P V (Ik ops (ops.toList.drop (k1+1))) (λs=>sub s s2) (s1.put o.dst (.im (.bool true))))
 (ab: ∀a w,It J base ok0 N j s2 a w->Q .normal a w):(Code.region id ops false).wpIn Fence.wide 0 P Q a w:=by
 refine wpIn_region ?_;rw[av];refine Tq HV Z (seg:=ops.toList.take k1) (more:=ops.toList.drop k1) (by rw[GJ,RG]) ad z am h (λs a w h1 h2=> ?_);have h3:=JX h2 h1 ag Z;have hw:Region.wanted o (yielded ops a.tmps)=true:=by
  obtain⟨C,S,Pr,_,hE,_⟩:=h3;have hy:=Qqk hE ak ai;simp[Region.wanted,aj,hy]
 refine Tr Z hY ho hw aq aa hf O au hx ao hd h3 (λa w h4=> ?_);refine Tq HV Z (seg:=ops.toList.drop (k1+1)) (more:=[]) (by rw[DJ]) af z an h4 (λs a w h5 h6=> ?_);exact ab a w (JX h6 h5 ah Z)
end
def iN{P:Program}{gf:Nat}{fn:Func}{c:Code}(hf:P.funcs[gf]? =some fn)(Q:fn.body=some c)(aa:fn.results.toList=[]){capt:List D}{X:xZ}(ag:capt.length+1<=fn.ntmps)
 (hk: ∀(l:Nat) (J:X.I->(Nat->Prop)->World->Prop) (base:Nat) (ok0:Nat->Prop),QC base J->
  (∀i x j args Pr W,X.step i x j->(∀ok hp,rdl ok hp x args.toList)->J i Pr W->YieldAt Fence.wide 0 P l args W λe W'=>e= .returned (.bool true)/\ ∃Pr',J j Pr' W'/\Kv ok0 Pr W Pr' W')->
  ∀a w,It J base ok0 fn.ntmps X.i0 ⟨entry 0 (.im (.fn (1000000000+l) [] [])::capt.map .im),[],0⟩ a w->c.wpIn Fence.wide 0 P (λe a w=> ∃i,X.fin i/\Yu J base ok0 fn.ntmps i (λe _=>e= .normal\/e= .ret) e a w) a w):QZ P gf capt X:=by
 intro C S vs l J hW Z hA hY ⟨Pr,hJ⟩;refine callsIn_wide.1 (callsIn_of_wp_marks (n:=0) hf Q trivial (wpIn_mono (hk l J S.w.heap.size S.ok hA hY _ _ ?_) ?_))
 .let C0:Bb:=⟨S.w,λ_=>False,S.ok,0,λ_=>none,λ_=>none,[]⟩
  let S0:A7:=⟨λ_=>none,S.ok,λ_=>none,S.w⟩
  have ad:Wf C0 S0:=⟨rfl,rfl,rfl,AU _,AU _,λ_ _ _=>rfl,λ_ Q=>Q,λ_ Q=> .inl Q,hW.oks,λo e O=>(by cases O),λo e l O=>(by cases O),λo o' e e' l l' O=>(by cases O),hW.glN λ_ h=>h.elim⟩;have z:AO S0 (.im (.fn (1000000000+l) [] [])::capt.map .im) (#[Value.func (.yield l) #[] #[]]++vs).toList:=by
   rw[Zek];refine⟨_,_,rfl,?_,(IW _ _).2 Z⟩;simp only[Aa,rd,rdl];refine⟨#[],#[],?_,rfl,rfl⟩;unfold Yf;rw[Af (by omega),Zdk]
  have af:(#[Value.func (.yield l) #[] #[]]++vs).size=capt.length+1:=by
   have:=Jf _ _ z
   simp at this⊢;omega
  obtain⟨As,hAs⟩: ∃As,As= #[Value.func (.yield l) #[] #[]]++vs:=⟨_,rfl⟩;rw[<-hAs] at z af⊢;refine⟨C0,S0,Pr,rfl,⟨ad,λn=>rfl,?_,?_,?_,?_,rfl,C5 _,λo ho=>absurd ho (vH _)⟩,rfl,AU _,hJ,λb ⟨o,e,lc,h1,_⟩=>(by cases h1),λb Q=> .inl Q⟩
  .intro t;have h1:=lD (S:=S0) _ As.toList 0 t z;simp only[C5,BD,nA] at h1
   have:({tmps:=As++Array.replicate (fn.ntmps - As.size) undef,defers:=[]}:Act).eval (.tmp t)=(As.toList[t]?).getD undef:=by
    simp only[Act.eval,Im,vB,gT];by_cases ht:t<As.size
    .simp[ht]
    .simp only[ht,CO]
     have:As[t]? =none:=XB (by omega)
     simp only[KS,this]
     split<;>rfl
   rw[this];exact h1
  .intro t m hm
   have:=lK _ 0 t m hm
   simp only[Au,AV.nms,Dg] at this;have h0: ∀(q:List D),Au (q.map .im)=[]:=by
    intro q;induction q with
    |nil=>rfl
    |cons d r ih=>simp only[Be,Au,AV.nms,ih,DJ]
   rw[h0] at this;cases this
  .intro n e O;cases O
  .simp;omega
 .intro e a w O;obtain⟨i,hi,O⟩:=O;have fin:(∃s,It J S.w.heap.size S.ok fn.ntmps i s a w)->LeavesInM Fence.wide 0 P fn a.tmps (λe W'=> ∃v Pr i,e= .returned v/\X.fin i/\J i Pr W') a.defers .returning w:=by
   rintro⟨s,C1,S1,Pr1,rfl,hE,hd,_,ac,_,_⟩;rw[hd];simp only[LeavesInM,LeavesIn];obtain⟨v,ab,_⟩:=rL (P:=P) hE (fn:=fn) (xs:=[]) (by rw[aa];rfl);exact⟨v,ab,v,Pr1,i,rfl,hi,ac⟩
  cases e<;>simp only[Yu] at O<;>simp only[bodyPostM]
  .obtain⟨s,_,h⟩:=O;exact fin ⟨s,h⟩
  .obtain⟨s,h,_⟩:=O;rcases h with h|h<;>cases h
  .obtain⟨s,_,h⟩:=O;exact fin ⟨s,h⟩
def wS{P:Program}{gf:Nat}{fn:Func}{c:Code}(hf:P.funcs[gf]? =some fn)(hb:fn.body=some c)(O:fn.results.toList=[]){capt:List D}{xs:List (List D)}(z:capt.length+1<=fn.ntmps)
 (hk: ∀(l:Nat) (J:Nat->(Nat->Prop)->World->Prop) (base:Nat) (ok0:Nat->Prop),QC base J->
  (∀i x j args Pr W,(xs[i]? =some x/\j=i+1)->(∀ok hp,rdl ok hp x args.toList)->J i Pr W->YieldAt Fence.wide 0 P l args W λe W'=>e= .returned (.bool true)/\ ∃Pr',J j Pr' W'/\Kv ok0 Pr W Pr' W')->
  ∀a w,It J base ok0 fn.ntmps 0 ⟨entry 0 (.im (.fn (1000000000+l) [] [])::capt.map .im),[],0⟩ a w->c.wpIn Fence.wide 0 P (Yu J base ok0 fn.ntmps xs.length (λe _=>e= .normal\/e= .ret)) a w):Ku P gf capt xs:=
 iN (X:=iJ xs) hf hb O z λl J base ok0 Z hY a w Q=>wpIn_mono (hk l J base ok0 Z hY a w Q) λ_ _ _ h=>⟨xs.length,rfl,h⟩
end Go.Ae
namespace Go.Ae
open Go Go.Proofs
def uI:Dn:=tab [(184,step_.row),(183,placeAt.row)]
def Py:KJ Tryz.prog uI:=W8 _ (by
 intro p hp;simp only[Br,OI,LV] at hp;rcases hp with rfl|rfl
 .exact step_.ok
 .exact placeAt.ok)
def Hq(a:AB)(k:Nat):Nat->List (List D)
 |0=>[]
 |j+1=>Hq a k j++if 0<=Hz a k (1 - j) then [[.agg [.int .i64 k,.int .i64 (Hz a k (1 - j))],.int .i64 (1 - j)]] else []
def C3(a:AB):Nat->List (List D)
 |0=>[]
 |k+1=>C3 a k++Hq a k 2
def Qzu(a:AB): ∀(n k:Nat),k<=n-> ∃r,C3 a n=C3 a k++r
 |0,k,h=>⟨[],by obtain rfl:k=0:=by omega
                rw[DJ]⟩
 |n+1,k,h=>by
  by_cases z:k=n+1
  .subst z;exact⟨[],by rw[DJ]⟩
  .obtain⟨r,O⟩:=Qzu a n k (by omega);exact⟨r++Hq a n 2,by rw[C3,O,Ka]⟩
def Qv3(a:AB)(k:Nat): ∀(n j:Nat),j<=n-> ∃r,Hq a k n=Hq a k j++r
 |0,j,h=>⟨[],by obtain rfl:j=0:=by omega
                rw[DJ]⟩
 |n+1,j,h=>by
  by_cases z:j=n+1
  .subst z;exact⟨[],by rw[DJ]⟩
  .obtain⟨r,O⟩:=Qv3 a k n j (by omega);rw[Hq,O];exact⟨_,by rw[Ka]⟩
def Y9(a:AB){n k j:Nat}(Q:k<n)(Z:j<2)(h:0<=Hz a k (1 - j)):(C3 a n)[(C3 a k).length+(Hq a k j).length]? =some [.agg [.int .i64 k,.int .i64 (Hz a k (1 - j))],.int .i64 (1 - j)]:=by
 obtain⟨r1,z⟩:=Qzu a n (k+1) Q;obtain⟨r2,O⟩:=Qv3 a k 2 (j+1) (by omega);rw[z,C3,O,Hq,Ai h,Ka,Ka,Ka,Kc (Zee _ _),Zdk,Kc (AU _),Ke];rfl
def J9(l:Nat)(A:AB)(k:Nat):Az:=⟨[(11,.im (.int .i64 k)),(10,.im (.int .i64 A.Tiles.length)),(9,.im (.sl false 3 (A.Tiles.map Al.c))),(1,.im (.ref (AB.c A))),(0,.im (.fn (1000000000+l) [] []))],[],0⟩
def D0(l:Nat)(A:AB)(k:Nat)(p:Al)(j:Nat):Az:=⟨[(18,.im (.int .i64 j)),(17,.im (.int .i64 2)),(16,.own 1),(4,.ptr 0 0),(3,.im (.int .i64 k)),(11,.im (.int .i64 k)),(10,.im (.int .i64 A.Tiles.length)),(9,.im (.sl false 3 (A.Tiles.map Al.c))),(1,.im (.ref (AB.c A))),(0,.im (.fn (1000000000+l) [] []))],
 [(0,(true,.cells 119 [.im (.int .i64 p.At.X),.im (.int .i64 p.At.Y),.im (.int .i64 p.Tile)])),(1,(true,.arr 2 1 (([1,0]:List Int).map Ak)))],2⟩
def TN(A:AB)(hA:Dm none A.Tiles=true)(hl:A.Tiles.length<=1000000)(hS: ∀x∈A.Tiles,Ry x.At):Ku Tryz.prog 182 [.ref (AB.c A)] (C3 A A.Tiles.length):=by
 refine wS Tryz.func182 rfl rfl (by simp) ?_;intro l J base ok0 z hY a w ad;have HV:=uK Py;obtain⟨R,hR⟩: ∃R,R=Yu J base ok0 Tryz.f182.ntmps (C3 A A.Tiles.length).length (λe _=>e= .normal\/e= .ret):=⟨_,rfl⟩;rw[<-hR];simp only[Tryz.f182,Option.getD] at ad⊢;refine Xv Fw HV z (by decide) (by decide) ad (Qx:=Cw (J9 l A 0)) ?_ (λs a w O Z=> ?_) (λ_ _ _ _ h=>h.elim) (λ_ _ _ h=>h.elim)
 .simp(disch:=omega)only[ZZ,simprocAttr,Ab,Cw,J9,entry,AB.c,sub];exact λ_=>trivial
 have h3:=JX Z O (by simp[J9,ZG]) z;clear O Z ad;refine wpIn_block (wpIn_loop_ghost (λm a w=> ∃k,k<=A.Tiles.length/\m=A.Tiles.length - k/\It J base ok0 41 (C3 A k).length (J9 l A k) a w) A.Tiles.length ⟨0,C5 _,rfl,h3⟩ ?_);clear h3;rintro m a w ⟨k,hk,hm,h⟩;refine Xv Fw HV z (by decide) (by decide) h (Qx:=Cw ⟨(12,.im (.bool (decide (k<A.Tiles.length))))::(J9 l A k).tm,[],0⟩) ?_ (λs a w O Z=> ?_) (λ_ _ _ _ h=>h.elim) (λ_ _ _ h=>h.elim)
 .simp(disch:=omega)only[ZZ,simprocAttr,Ab,Cw,J9,sub]
 have h3:=JX Z O (by simp[J9,ZG]) z;clear O Z h;refine Xv Fw HV z (by decide) (by decide) h3 (Qx:=Ya (J9 l A k) (k<A.Tiles.length) (¬k<A.Tiles.length) 0) ?_ (λs a w O Z=> ?_) (λid s a w O Z=> ?_) (λ_ _ _ h=>h.elim)
 .simp(disch:=omega)only[ZZ,simprocAttr,Ab,Ya,J9,sub]
  split<;>assumption
 rotate_left
 .obtain⟨rfl,h4,O⟩:=O;have ah:k=A.Tiles.length:=by omega
  subst ah;simp only[Exit.then,Exit.inBlock,BD,hR,Yu];exact⟨s,.inl trivial,Z⟩
 obtain⟨af,O⟩:=O;have h:=JX Z O (by simp[J9,ZG]) z;clear O Z h3;obtain⟨p,hp⟩: ∃p,A.Tiles[k]? =some p:=⟨_,BA af⟩;refine wpIn_seq (wpIn_block ?_);refine Xv Fw HV z (by decide) (by decide) h (Qx:=Cw ⟨(4,.ptr 0 0)::(3,.im (.int .i64 k))::(J9 l A k).tm,[(0,(true,.cells 119 [.im (.int .i64 p.At.X),.im (.int .i64 p.At.Y),.im (.int .i64 p.Tile)]))],1⟩) ?_ (λs a w O Z=> ?_) (λ_ _ _ _ h=>h.elim) (λ_ _ _ h=>h.elim)
 .simp(disch:=omega)only[ZZ,simprocAttr,Ab,Cw,J9,sub];refine⟨af,λq hq=> ?_⟩;rw[hp] at hq;obtain rfl:=AJ hq;exact⟨rfl,rfl,rfl⟩
 have h3:=JX Z O (by simp[J9,ZG]) z;clear O Z h;refine Xv Fw HV z (by decide) (by decide) h3 (Qx:=Cw (D0 l A k p 0)) ?_ (λs a w O Z=> ?_) (λ_ _ _ _ h=>h.elim) (λ_ _ _ h=>h.elim)
 .simp(disch:=omega)only[ZZ,simprocAttr,Ab,Cw,J9,D0,sub]
 have h:=JX Z O (by simp[D0,ZG]) z;clear O Z h3;refine wpIn_block (wpIn_loop_ghost (λm a w=> ∃j,j<=2/\m=2 - j/\It J base ok0 41 ((C3 A k).length+(Hq A k j).length) (D0 l A k p j) a w) 2 ⟨0,C5 _,rfl,h⟩ ?_);clear h;rintro m2 a w ⟨j,hj,aj,h⟩;refine Xv Fw HV z (by decide) (by decide) h (Qx:=Cw ⟨(19,.im (.bool (decide (j<2))))::(D0 l A k p j).tm,(D0 l A k p j).h,2⟩) ?_ (λs a w O Z=> ?_) (λ_ _ _ _ h=>h.elim) (λ_ _ _ h=>h.elim)
 .simp(disch:=omega)only[ZZ,simprocAttr,Ab,Cw,D0,sub];rw[decide_eq_decide];omega
 have h3:=JX Z O (by simp[D0,ZG]) z;clear O Z h;refine Xv Fw HV z (by decide) (by decide) h3 (Qx:=Ya (D0 l A k p j) (j<2) (¬j<2) 2) ?_ (λs a w O Z=> ?_) (λid s a w O Z=> ?_) (λ_ _ _ h=>h.elim)
 .simp(disch:=omega)only[ZZ,simprocAttr,Ab,Ya,D0,sub]
  split<;>assumption
 rotate_left
 .obtain⟨rfl,h4,O⟩:=O;have ac:j=2:=by omega
  subst ac;have h5:=JX Z O (by simp[D0,ZG]) z;simp only[Exit.then,Exit.inBlock,BD];refine Qs5 Fw HV z (by decide) (by decide) h5 (Qx:=Cw (J9 l A (k+1))) ?_ (λs a w O Z=> ?_) (λ_ _ _ _ h=>h.elim) (λ_ _ _ h=>h.elim)
  .simp(disch:=omega)only[ZZ,simprocAttr,Ab,Cw,D0,J9,sub];rw[AG (by omega) (by omega)];omega
  have h6:=JX Z O (by simp[J9,ZG]) z;refine⟨A.Tiles.length - (k+1),by omega,k+1,by omega,rfl,?_⟩;rw[C3,Ez];exact h6
 obtain⟨ac,O⟩:=O;have h:=JX Z O (by simp[D0,ZG]) z;clear O Z h3;refine wpIn_seq (wpIn_block ?_);refine Xv Fw HV z (by decide) (by decide) h (Qx:=Cw ⟨(6,.im (.int .i64 (1 - (j:Int))))::(D0 l A k p j).tm,(D0 l A k p j).h,2⟩) ?_ (λs a w O Z=> ?_) (λ_ _ _ _ h=>h.elim) (λ_ _ _ h=>h.elim)
 .simp(disch:=omega)only[ZZ,simprocAttr,Ab,Cw,D0,sub];refine⟨by omega,ac,λrow aa=> ?_⟩;rcases (show j=0\/j=1 by omega) with rfl|rfl
  .simp only[Iq,AN] at aa;subst aa;simp(disch:=omega)only[ZZ,simprocAttr,Ab,Cw,D0,sub]
   try rfl
  .simp only[QH,Iq,AN] at aa;subst aa;simp(disch:=omega)only[ZZ,simprocAttr,Ab,Cw,D0,sub]
   try rfl
 have h3:=JX Z O (by simp[D0,ZG]) z;clear O Z h;refine Xv Fw HV z (by decide) (by decide) h3 (Qx:=Cw ⟨(7,.im (.int .i64 (Hz A k (1 - (j:Int)))))::(6,.im (.int .i64 (1 - (j:Int))))::(D0 l A k p j).tm,(D0 l A k p j).h,2⟩) ?_ (λs a w O Z=> ?_) (λ_ _ _ _ h=>h.elim) (λ_ _ _ h=>h.elim)
 .simp only[uI];simp(disch:=omega)only[ZZ,simprocAttr,Ab,Cw,D0,sub,step_.q,step_.ar,step_.re,step_.fv,placeAt.q,placeAt.ar,placeAt.re,placeAt.fv];refine⟨⟨hS p (Bg hp),by omega,by omega⟩,hA,?_⟩;simp only[Hz,Bq,hp,Dh,AX]
 have h:=JX Z O (by simp[D0,ZG]) z;clear O Z h3;obtain⟨nb,hnb⟩: ∃nb,nb=Hz A k (1 - (j:Int)):=⟨_,rfl⟩;rw[<-hnb] at h;have ab:Hq A k (j+1)=Hq A k j++if 0<=nb then [[.agg [.int .i64 k,.int .i64 nb],.int .i64 (1 - (j:Int))]] else []:=by rw[Hq,<-hnb]
 refine wpIn_seq (wpIn_mono (Q:=λe a w=>e= .normal/\It J base ok0 41 ((C3 A k).length+(Hq A k (j+1)).length) ⟨(38,.im (.bool false))::(D0 l A k p j).tm,(D0 l A k p j).h,2⟩ a w) ?_ ?_)
 .by_cases hn:0<=nb
  .rw[Ai hn] at ab;have hx:=Y9 A (n:=A.Tiles.length) af ac (by rw[<-hnb];exact hn);rw[<-hnb] at hx;refine Yv HV z hY 8 rfl (by decide) (by decide) (by decide) (s1:=⟨(30,.im (.bool true))::(31,.im (.fn (1000000000+l) [] []))::(34,.im (.agg [.int .i64 k,.int .i64 nb]))::(35,.im (.int .i64 (1 - (j:Int))))::(D0 l A k p j).tm,(D0 l A k p j).h,2⟩) rfl rfl rfl rfl rfl rfl rfl rfl (by simp[D.scs,D.sc]) ⟨hx,rfl⟩ ?_ (by decide) ?_ ?_ h ?_ ?_ (λa w h9=>⟨rfl,by rw[ab,Ez,<-Fa];exact h9⟩)
   .intro n e he;simp only[D0,hget] at he;cases h0:(0==n)<;>rw[h0] at he<;>simp only[Cg,Bk] at he
    .cases O:(1==n)<;>rw[O] at he<;>simp only[Cg,Bk,reduceCtorEq,AN] at he;subst he;rfl
    .simp only[AN] at he;subst he;rfl
   .simp[D0,ZG]
   .simp[D0,ZG]
   .have ai:decide (nb≥0)=true:=by simpa using hn
    have ag:decide (0<=nb)=true:=by simpa using hn
    simp only[uI];simp(disch:=omega)only[ZZ,simprocAttr,Ab,D0,sub,ai,ag,hn,gY hn]
   .change PL _ _ _ _ (Az.put _ (some 36) (.im (.bool true)));simp only[uI];simp(disch:=omega)only[ZZ,simprocAttr,Ab,D0,sub]
  .rw[Af hn,DJ] at ab;refine Qs5 Fw HV z (by decide) (by decide) h (Qx:=Cw ⟨(38,.im (.bool false))::(D0 l A k p j).tm,(D0 l A k p j).h,2⟩) ?_ (λs a w O Z=>⟨rfl,by rw[ab];exact JX Z O (by simp[D0,ZG]) z⟩) (λ_ _ _ _ h=>h.elim) (λ_ _ _ h=>h.elim);simp only[uI];simp(disch:=omega)only[ZZ,simprocAttr,Ab,Cw,D0,sub,hn,eq_false hn]
 .rintro e a w ⟨rfl,h⟩;simp only[Exit.then];refine Qs5 Fw HV z (by decide) (by decide) h (Qx:=Cw (D0 l A k p j)) ?_ (λs a w O Z=> ?_) (λ_ _ _ _ h=>h.elim) (λ_ _ _ h=>h.elim)
  .simp(disch:=omega)only[ZZ,simprocAttr,Ab,Cw,D0,sub]
  have h3:=JX Z O (by simp[D0,ZG]) z;simp only[Exit.inBlock,Exit.then];refine Qs5 Fw HV z (by decide) (by decide) h3 (Qx:=Cw (D0 l A k p (j+1))) ?_ (λs a w O Z=> ?_) (λ_ _ _ _ h=>h.elim) (λ_ _ _ h=>h.elim)
  .simp(disch:=omega)only[ZZ,simprocAttr,Ab,Cw,D0,sub];rw[AG (by omega) (by omega)];omega
  have h6:=JX Z O (by simp[D0,ZG]) z;exact⟨2 - (j+1),by omega,j+1,by omega,rfl,h6⟩
def xA:D->Option AB
 | .fn g [] [.ref ds]=>if g=182 then AB.d ds else none
 |_=>none
def iS: ∀d b,xA d=some b->Le d (.fn 182 [] [.ref (AB.c b)]):=by
 intro d b h;unfold xA at h;split at h
 .rename_i g ds;split at h
  .rename_i z;subst z;refine mC ?_;exact⟨sJ (AB.d_le _ _ h).leP,trivial⟩
  .cases h
 .cases h
def xB(b:AB):xA (.fn 182 [] [.ref (AB.c b)])=some b:=by
 simp only[xA,BD,AB.d_c]
def nbrs.rc:D->Option (AB):=xA
def nbrs.re:AB->D:=λa=>D.fn 182 [] [.ref (AB.c a)]
def nbrs.rle: ∀d b,nbrs.rc d=some b->Le d (nbrs.re b):=iS
def nbrs.ar:List PK->Option (AB):=a1 (kR AB.d)
def nbrs.fv(a:AB):AB:=(λa=>a) a
def nbrs.row:AF:=vK (b1 (qR AB.d_le)) (RK.mk nbrs.rc nbrs.re nbrs.rle) (λa=>True) nbrs.fv
def nbrs.q:=Bd (R:=nbrs.row) rfl
def nbrs.ok:AL 160 nbrs.row:=by
 refine vw tN Tryz.func160 ?_;intro a z;simp only[Tryz.f160,Option.getD];simp only[ZZ,simprocAttr,Ab,nbrs.fv,nbrs.rc];exact .inl (xB a)
def Qs0(s:Ap)(a:AB):Prop:=Dt s/\LW s a/\a.Tiles.length<=1000000/\ ∀x∈a.Tiles,Ry x.At
def JI(s:Ap)(a:AB):List D->List Ag
 |[.agg [.int .i64 k,.int .i64 m],.int .i64 d]=>if 0<VW s (Hd a k) d (Hd a m) then [⟨k,m,VW s (Hd a k) d (Hd a m)⟩] else []
 |_=>[]
def Fs(s:Ap)(a:AB)(i:Nat):List Ag:=((C3 a a.Tiles.length).take i).flatMap (JI s a)
def Uh(s:Ap)(a:AB):Fs s a (C3 a a.Tiles.length).length=FX s a a.Tiles.length:=by
 rw[Fs,IM];have z: ∀k j,(Hq a k j).flatMap (JI s a)=KC s a k j:=by
  intro k j;induction j with
  |zero=>rfl
  |succ j ih=>
   rw[Hq,Zen,ih,KC];congr 1;simp only[X1];split
   .simp only[Kb,Zec,DJ,JI]
   .rfl
 have O: ∀n,(C3 a n).flatMap (JI s a)=FX s a n:=by
  intro n;induction n with
  |zero=>rfl
  |succ n ih=>rw[C3,Zen,ih,z,FX]
 exact O _
def Qv6(s:Ap)(a:AB){i:Nat}{x:List D}(h:(C3 a a.Tiles.length)[i]? =some x):Fs s a (i+1)=Fs s a i++JI s a x:=by
 rw[Fs,Jq,h,Zen,Fs];simp
def MP(a:AB){x:List D}(h:x∈C3 a a.Tiles.length): ∃k m d:Int,x=[.agg [.int .i64 k,.int .i64 m],.int .i64 d]/\0<=k/\k<a.Tiles.length/\0<=m/\m<a.Tiles.length/\0<=d/\d<=1:=by
 have O: ∀(k:Nat) j,j<=2->k<a.Tiles.length->x∈Hq a k j-> ∃k m d:Int,x=[.agg [.int .i64 k,.int .i64 m],.int .i64 d]/\0<=k/\k<a.Tiles.length/\0<=m/\m<a.Tiles.length/\0<=d/\d<=1:=by
  intro k j;induction j with
  |zero=>intro _ _ h;simp[Hq] at h
  |succ j ih=>
   intro hj Z z;rw[Hq,B7] at z;rcases z with z|z
   .exact ih (by omega) Z z
   .split at z
    .rename_i h0;obtain rfl:=BS.1 z;exact⟨k,Hz a k (1 - j),1 - j,rfl,by omega,by omega,h0,Lp _ _ _,by omega,by omega⟩
    .cases z
 have Q: ∀n,n<=a.Tiles.length->x∈C3 a n-> ∃k m d:Int,x=[.agg [.int .i64 k,.int .i64 m],.int .i64 d]/\0<=k/\k<a.Tiles.length/\0<=m/\m<a.Tiles.length/\0<=d/\d<=1:=by
  intro n;induction n with
  |zero=>intro _ h;simp[C3] at h
  |succ n ih=>
   intro hn z;rw[C3,B7] at z;rcases z with z|z
   .exact ih (by omega) z
   .exact O n 2 (AU _) hn z
 exact Q _ (AU _) h
def TM(a:AB): ∀n,(C3 a n).length<=2*n:=by
 have z: ∀k j,(Hq a k j).length<=j:=by
  intro k j;induction j with
  |zero=>simp[Hq]
  |succ j ih=>rw[Hq,Ez];split<;>simp<;>omega
 intro n;induction n with
 |zero=>simp[C3]
 |succ n ih=>have:=z n 2;rw[C3,Ez];omega
def Ui(s:Ap)(a:AB)(i:Nat):(Fs s a i).length<=i:=by
 induction i with
 |zero=>simp[Fs]
 |succ i ih=>
  cases h:(C3 a a.Tiles.length)[i]? with
  |none=>
   have:Fs s a (i+1)=Fs s a i:=by
    have z:=List.getElem?_eq_none_iff.1 h;rw[Fs,Fs,F9 (by omega),F9 z]
   rw[this];omega
  |some x=>
   rw[Qv6 s a h,Ez]
   have:(JI s a x).length<=1:=by
    unfold JI;split
    .split<;>simp
    .simp
   omega
def mF:Dn:=tab [(160,nbrs.row),(161,bond_.row)]
def Pb:KJ Tryz.prog mF:=W8 _ (by
 intro p hp;simp only[Br,OI,LV] at hp;rcases hp with rfl|rfl
 .exact nbrs.ok
 .exact bond_.ok)
def nY: ∀(H:An),(H.all λp=> !p.2.2.isView)=true-> ∀o e,hget H o=some e->e.2.isView=false
 |[],_,o,e,h=>by cases h
 |(n,x)::r,z,o,e,h=>by
  simp only[EZ,AY,QJ] at z;simp only[hget] at h;cases hq:(n==o)<;>rw[hq] at h
  .exact nY r z.2 o e h
  .simp only[Cg,AN] at h;subst h;exact z.1
def Qxh{P:Program}{V:Dn}{C:Bb}{N:Nat}(HM:P.follows .mixedOrders=true)(HV:Ii P V){x y:Code}(O:Eu N x=true)(z:Il x=true){s':Az}{Q:Exit->Act->World->Prop}{s:Az}{a:Act}{w:World}(hc:BN C N s a w)(hk:Di P V x (Cw s') s)(hg:s'.good=true)(Z:C.n0<=s'.nx)
 (hn: ∀a w,BN C N s' a w->y.wpIn Fence.wide 0 P Q a w):(x.seq y).wpIn Fence.wide 0 P Q a w:=by
 refine wpIn_seq (wpIn_mono (rQ (ro:=none) HM HV x O z _ s a w hk hc) ?_);intro e a' w' hq;cases e<;>simp only[Hb] at hq<;>simp only[Exit.then]
 .obtain⟨s1,h1,h2⟩:=hq;exact hn _ _ (mA h2 h1 hg Z)
 .obtain⟨_,h,_⟩:=hq;exact h.elim
 .obtain⟨_,h,_⟩:=hq;exact h.elim
def bnds.rc:D->Option (List Ag):=Wx Ag.d
def bnds.re:(List Ag)->D:=λb=>D.sl false 3 (b.map Ag.c)
def bnds.rle: ∀d b,bnds.rc d=some b->Le d (bnds.re b):=V9 Ag.d_le (λ_=>rfl)
def bnds.ar:List PK->Option (Ap×AB):=a2 (kR Ap.d) (kR AB.d)
def bnds.ae(a:Ap×AB):List PK:=[.val (.agg (Ap.c a.1)),.val (.agg (AB.c a.2))]
def bnds.le: ∀z a,bnds.ar z=some a->Cy z (bnds.ae a):=(RL (MC Ap.d_le) (MC AB.d_le))
def bnds.fv(a:Ap×AB):List Ag:=(λs a=>FX s a a.Tiles.length) (a.1) (a.2)
def bnds.row:AF:=CH (b2 (qR Ap.d_le) (qR AB.d_le)) (RK.mk bnds.rc bnds.re bnds.rle) (λa=>Qs0 a.1 a.2) bnds.fv
def bnds.q:=C9 (R:=bnds.row) rfl
def bnds.ok:AL 138 bnds.row:=by
 refine Quy (by kernel_rfl) bnds.le bnds.rle ?_;intro a ad C S vs RR hW af ab;refine Qv Tryz.func138 rfl (by simp[bnds.ae]) ?_ hW af ab;clear ab af hW;intro C0 aq w hw ac hc an;have HV:=uK Pb;have ao:C0.ds=[]:=by obtain⟨S0,_,h⟩:=hc;rw[<-h.defers];exact an
 simp only[Tryz.f138,Option.getD] at hc⊢;obtain⟨s,A⟩:=a;obtain⟨h1,h2,h3,h4⟩:=ad;simp only at h1 h2 h3 h4;refine Qxh Fw HV (by decide) (by decide) (s':=⟨[(3,.ptr 1 0),(2,.ptr 0 0)],[(0,(true,.cells 35 ((Ap.c s).map .im))),(1,(true,.cells 38 ((AB.c A).map .im)))],2⟩) hc ?_ ?_ (by rw[ac];exact C5 _) (λa w hc=> ?_)
 .simp only[mF];simp(disch:=omega)only[ZZ,simprocAttr,Ab,Cw,sub,bnds.ae,Da,CY,BV,entry]
 .simp[ZG,Ap.c,AB.c]
 refine Qxh Fw HV (by decide) (by decide) (s':=⟨[(5,.ptr 2 0),(3,.ptr 1 0),(2,.ptr 0 0)],[(0,(true,.cells 35 ((Ap.c s).map .im))),(1,(true,.cells 38 ((AB.c A).map .im))),(2,(true,.cells 155 [.im (.sl true 0 [])]))],3⟩) hc ?_ ?_ (by rw[ac];exact C5 _) (λa w hc=> ?_)
 .simp only[mF];simp(disch:=omega)only[ZZ,simprocAttr,Ab,Cw,sub]
 .simp[ZG,Ap.c,AB.c]
 refine wpIn_seq ?_;refine Qxh Fw HV (by decide) (by decide) (s':=⟨[(10,.im (.fn 182 [] [.ref (AB.c A)])),(5,.ptr 2 0),(3,.ptr 1 0),(2,.ptr 0 0)],[(0,(true,.cells 35 ((Ap.c s).map .im))),(1,(true,.cells 38 ((AB.c A).map .im))),(2,(true,.cells 155 [.im (.sl true 0 [])]))],3⟩) hc ?_ ?_ (by rw[ac];exact C5 _) (λa w hc=> ?_)
 .simp only[mF];simp(disch:=omega)only[ZZ,simprocAttr,Ab,Cw,sub,nbrs.q,nbrs.ar,nbrs.re,nbrs.fv]
 .simp[ZG,Ap.c,AB.c]
 refine wpIn_block (wpIn_mono (Uz Fw HV hc (gf:=182) (capt:=[.ref (AB.c A)]) (xs:=C3 A A.Tiles.length) (aA (by kernel_rfl)) (TN A h2.1 h3 h4) (by decide) (by decide) (by decide) (by decide) ?_ (by decide)
  (tm0:=[(10,.im (.fn 182 [] [.ref (AB.c A)])),(5,.ptr 2 0),(3,.ptr 1 0),(2,.ptr 0 0)]) (hs:=λi=>[(0,(true,.cells 35 ((Ap.c s).map .im))),(1,(true,.cells 38 ((AB.c A).map .im))),(2,(true,.cells 155 [.own 3])),(3,(true,.arr 177 3 ((Fs s A i).map Ag.c)))]) (nx:=4) ⟨[(3,none)],?_⟩ rfl (by simp) ?_ ?_ ?_ ?_) ?_)
 .intro x hx;obtain⟨k,m,d,rfl,_⟩:=MP A hx;rfl
 .simp only[Av];simp(disch:=omega)only[ZZ,simprocAttr,Ab,AS,AR,Fs,Zec]
 .simp[Cv,AV.bel]
 .intro i hi;simp[ZG,Ap.c,AB.c]
 .intro i o e he hv;rw[nY _ (by rfl) o e he] at hv;cases hv
 .intro i x hx;have au:=Ui s A i;have av:=(C6.1 hx).1;have aw:=TM A A.Tiles.length;obtain⟨k,m,d,rfl,k0,k1,m0,m1,d0,d1⟩:=MP A (Bg hx);have O:=Qv6 s A hx;simp only[JI] at O;simp only[mF];simp(disch:=omega)only[ZZ,simprocAttr,Ab,RT,YX,Gm,sub,bond_.q,bond_.ar,bond_.re,bond_.fv,AP];refine⟨k0,k1,λp hp=>⟨m0,m1,λq hq=>⟨⟨h1,h2.2 p (Bg hp),⟨d0,by omega⟩,h2.2 q (Bg hq)⟩,λhb=>⟨?_,by omega,[(3,some 6)],?_⟩,λhb=>⟨[],?_⟩⟩⟩⟩
  .intro row Z;obtain rfl:=BS.1 Z;rfl
  all_goals
   have e1:Hd A k=p.Tile:=by simp[Hd,hp]
   have e2:Hd A m=q.Tile:=by simp[Hd,hq]
   rw[e1,e2] at O
  .rw[Ai hb] at O;simp only[Av];simp(disch:=omega)only[ZZ,simprocAttr,Ab,AS,AR,O];simp[Ag.c]
  .rw[Af hb,DJ] at O;simp only[Av];simp(disch:=omega)only[ZZ,simprocAttr,Ab,AS,AR,O]
 .intro e a' w' hq;cases e<;>simp only[jT] at hq;obtain⟨C2,S2,Dk,rfl,hE,Q,ht,hd,ag,ah,ai,aj,ak⟩:=hq;simp only[Exit.inBlock,Exit.then];have am:a.defers=[]:=by obtain⟨S0,_,h⟩:=hc;rw[h.defers];exact ao
  rw[am] at hd;have hm: ∀a'':Act,a''.defers=C2.ds->Qrj C0 C2 a''.defers:=λa'' h=> .inr ⟨Dk,by rw[h,<-hE.defers,hd],ag,ah,ai,aj,ak⟩
  refine wpIn_mono (rQ (ro:=none) Fw HV _ (by decide) (by decide) (aX Tryz.prog [ResultVar.tmp 4] (AT bnds.rc (bnds.fv (s,A)))) _ a' S2.w ?_ ⟨S2,rfl,hE⟩) ?_
  .simp only[mF];simp(disch:=omega)only[ZZ,simprocAttr,Ab,bnds.rc,bnds.fv,Uh,AT];intro row Z;obtain⟨b,_,rfl⟩:=Bl.1 Z;rfl
  .intro e a'' w'' hq;cases e<;>simp only[Hb] at hq<;>simp only[UM]
   .obtain⟨s',aa,z⟩:=hq;exact⟨s',C2,aa,z,Q,hm a'' (by obtain⟨S0,_,h⟩:=z;exact h.defers)⟩
   .obtain⟨s',aa,z⟩:=hq;exact aa.elim
   .obtain⟨s',aa,z⟩:=hq;exact⟨s',C2,aa,z,Q,hm a'' (by obtain⟨S0,_,h⟩:=z;exact h.defers)⟩
end Go.Ae
namespace Go.Ae
open Go.Proofs
def LX{n:Nat}{gs:List (List Int)}(z:0<gs.length): ∀(bs:List Ag),(∀b∈bs,0<b.Strength/\b.Strength<=4)-> ∀b∈Hn (RA n gs) bs,KY gs.length b
 |[],_,b,h=>by simp[Hn] at h
 |x::r,hs,b,h=>by
  simp only[Hn] at h;have ih:=LX (n:=n) z r (λy hy=>hs y (BQ _ hy)) b;split at h
  .exact ih h
  .rename_i O;rcases Br.1 h with rfl|h
   .have Q:=Qy8 (n:=n) z x.A;have Z:=Qy8 (n:=n) z x.B;have h3:=hs x (BU ..);exact⟨⟨Q.1,Q.2,Z.1,Z.2⟩,O,h3.1,h3.2⟩
   .exact ih h
def R7(s:Ap)(a:AB)(t:Int):Bool×Bool:=
 if 64<(D5 a.Tiles.length (FX s a a.Tiles.length) t).1 then (false,false)
 else (uN (D5 a.Tiles.length (FX s a a.Tiles.length) t).1 (D5 a.Tiles.length (FX s a a.Tiles.length) t).2 t,true)
def Qz2(n:Nat)(bs:List Ag)(hn:0<n): ∀k,(∀v∈Cp n bs k,0<=v)/\(Cp n bs k)[0]? =some 0
 |0=>by
  refine⟨λv O=> ?_,zA n 0 hn⟩;obtain⟨i,Q⟩:=Wp.1 O;have hl:=(C6.1 Q).1;simp only[Cp] at Q hl;rw[zA n i (by rwa [fA] at hl)] at Q
  have:=AJ Q
  omega
 |k+1=>by
  obtain⟨Z,h2⟩:=Qz2 n bs hn k;simp only[Cp];split
  .rename_i b hb;have z: ∀i:Nat,0<=(Cp n bs k)[i]?.getD 0:=by
    intro i;cases h:(Cp n bs k)[i]? with
    |none=>simp
    |some v=>exact Z v (Bg h)
   have hj: ∀x y v:Int,0<=x->0<=y->0<=v->0<=JZ x y v:=by
    intro x y v z hy O;simp only[JZ];by_cases h:v=EC x y
    .rw[Ai h];simp only[Fq];split<;>omega
    .rw[Af h];exact O
   have aa: ∀x y:Int,0<=x->0<=y->JZ x y 0=0:=by
    intro x y z hy;simp only[JZ];by_cases h:(0:Int)=EC x y
    .rw[Ai h];simp only[EC] at h;simp only[Fq];split at h<;>split<;>omega
    .rw[Af h]
   refine⟨λv O=> ?_,?_⟩
   .obtain⟨u,hu,rfl⟩:=Bl.1 O;exact hj _ _ _ (z _) (z _) (Z u hu)
   .rw[tJ,D3,h2,Dh,aa _ _ (z _) (z _)]
  .exact⟨Z,h2⟩
def Qab7{n:Nat}{bs:List Ag}{t:Int}(hn:0<n):0<(O1 n bs t).length:=by
 have h:=(Qz2 n (Hf t bs) hn (Hf t bs).length).2;obtain⟨z,O⟩:=Qo6 (Cp n (Hf t bs) (Hf t bs).length) n 0 h n (AU _) hn
 have:(((0:Nat):Int)::z)∈O1 n bs t:=by simpa only[O1,VT,Bq] using O
 exact List.length_pos_of_mem this
def Mh{n:Nat}{bs:List Ag}{t:Int}(Q: ∀b∈bs,KY n b)(hl:bs.length<=1000000)(Z:(D5 n bs t).1<=64):MW (D5 n bs t):=by
 have aa:=Qpl (RA n (O1 n bs t)) bs;by_cases h0:0<(D5 n bs t).1
 .have O:=LX (n:=n) (gs:=O1 n bs t) (by simp only[D5] at h0;omega) bs (λb z=>⟨(Q b z).2.2.1,(Q b z).2.2.2⟩);refine⟨by omega,Z,by simp only[D5,Bq];omega,λb z=> ?_,λb z=> ?_,λb z=> ?_⟩
  .have:=O b (by simpa only[D5,Bq] using z)
   exact this.1
  .have:=O b (by simpa only[D5,Bq] using z)
   have:=this.2.2
   omega
  .have:=O b (by simpa only[D5,Bq] using z)
   exact this.2.1
 .have hn:bs=[]:=by
   cases bs with
   |nil=>rfl
   |cons b r=>
    exfalso;have h5:=(Q b (BU ..)).1;have h6:=Qab7 (n:=n) (bs:=b::r) (t:=t) (by omega);simp only[D5] at h0;omega
  subst hn;refine⟨by simp only[D5];omega,Z,by simp only[D5,Hn];simp,λb z=> ?_,λb z=> ?_,λb z=> ?_⟩<;>(simp[D5,Hn] at z)
def stabI.fv(a:Ap×AB×Int):Bool×Bool:=(R7) (a.1) (a.2.1) (a.2.2)
def stabI.row:AF:=CH (b3 (qR Ap.d_le) (qR AB.d_le) qI) (r2 rB rB) (λa=>Qs0 a.1 a.2.1/\a.2.1.Tiles.length<=512/\0<=a.2.2/\a.2.2<=1000000) stabI.fv
def stabI.q:=C9 (R:=stabI.row) rfl
def stabI.ok:AL 112 stabI.row:=by
 refine FR (tC bnds.ok (tC contr.ok (tC holds_.ok tN))) Tryz.func112 ?_;intro a z;simp only[Tryz.f112,Option.getD];simp only[ZZ,simprocAttr,Ab,stabI.fv,bnds.q,bnds.fv,bnds.re,contr.q,contr.fv,holds_.q,holds_.fv,BX,D.sc,D.scs,BM,AT];obtain⟨s,A,t⟩:=a;obtain⟨O,h2,Q,Z⟩:=z;simp only at O h2 Q Z⊢;have hP:=Qro O.1 A A.Tiles.length (AU _);have hL:=sA s A A.Tiles.length;refine⟨O,⟨by omega,λb hb=>(hP b hb).1,by omega⟩,?_⟩;split
 .rename_i h;simp only[R7];rw[Ai h]
 .rename_i h;refine⟨⟨Mh hP (by omega) (by omega),Q,Z⟩,?_⟩;simp only[R7];rw[Af h]
def R0(s:Ap)(a:AB)(t:Int):Bool×Int:=
 if (EH s && Ih s a)=false then (false,1)
 else if Bz t 1 16=false then (false,2)
 else if (R7 s a t).2=false then (false,4) else ((R7 s a t).1,0)
def Qof{s:Ap}{a:AB}(h:(EH s && Ih s a)=true):Qs0 s a/\a.Tiles.length<=512:=by
 rw[AY] at h;have O:=rR h.1;have z:=Qdg h.2;refine⟨⟨O,z.1,by omega,λx Q=> ?_⟩,by omega⟩
 have:=(lP _ _ z.1.1 x Q).1
 simp only[Ic,Bz,AY,CF] at this;refine⟨?_,?_,?_,?_⟩<;>omega
def isStab.fv(a:Ap×AB×Int):Bool×Int:=(R0) (a.1) (a.2.1) (a.2.2)
def isStab.row:AF:=CH (b3 (qR Ap.d_le) (qR AB.d_le) qI) (r2 rB rI) (λa=>Xl a.1) isStab.fv
def isStab.q:=C9 (R:=isStab.row) rfl
def isStab.ok:AL 75 isStab.row:=by
 refine FR (tC ValidAssembly_.ok (tC isTemperature.ok (tC stabI.ok tN))) Tryz.func75 ?_;intro a z;simp only[Tryz.f75,Option.getD];simp only[ZZ,simprocAttr,Ab,isStab.fv,ValidAssembly_.q,ValidAssembly_.fv,isTemperature.q,isTemperature.fv,stabI.q,stabI.fv,BX,D.sc,D.scs,BM,AT];obtain⟨s,A,t⟩:=a;simp only at z⊢;refine⟨z,?_⟩;split
 .rename_i c1;simp only[R0];rw[Ai c1]
 .rename_i c1;split
  .rename_i O;simp only[R0];rw[Af c1,Ai O]
  .rename_i O;have Z:=Qof (s:=s) (a:=A) (by simpa using c1);have h2:Bz t 1 16=true:=by simpa using O
   simp only[Bz,AY,CF] at h2;refine⟨⟨Z.1,Z.2,by omega,by omega⟩,?_⟩;split
   .rename_i Q;simp only[R0];rw[Af c1,Af O,Ai Q]
   .rename_i Q;simp only[R0];rw[Af c1,Af O,Af Q]
def sN(y:A9):Bool:=if y.Seed.Tiles.length=0 then false else ((R0 y.Set y.Seed y.Temperature).1 && decide ((R0 y.Set y.Seed y.Temperature).2=0))
def validI_.fv(a:A9):Bool:=(sN) a
def validI_.row:AF:=CH (b1 (qR A9.d_le)) rB (λa=>Xl a.Set) validI_.fv
def validI_.ok:AL 41 validI_.row:=by
 refine FR (tC isStab.ok tN) Tryz.func41 ?_;intro a z;simp only[Tryz.f41,Option.getD];simp only[ZZ,simprocAttr,Ab,validI_.fv,isStab.q,isStab.fv,BX,D.sc,D.scs,BM,AT];intro _;by_cases h:a.Seed.Tiles.length=0
 .rw[Ai (by omega)];simp only[sN];rw[Ai h]
 .rw[Af (by omega)];refine⟨z,?_⟩;simp only[sN];rw[Af h];split
  .rename_i c;rw[c,EL]
  .rename_i c;rw[mW] at c;rw[c,Gu]
def Qv9(S:Nat->Bool)(nm:List Int): ∀(bs:List Ag),CK S (Hn nm bs)=CK S (Ig nm bs)
 |[]=>rfl
 |b::r=>by
  have ih:=Qv9 S nm r;simp only[Hn,Ig];split
  .exact ih
  .simp only[CK,ih];congr 1;obtain⟨x,hx⟩: ∃x,x=Ca nm b.A:=⟨_,rfl⟩;obtain⟨y,hy⟩: ∃y,y=Ca nm b.B:=⟨_,rfl⟩;rw[<-hx,<-hy];by_cases h:x<y
   .have O:Fq x y=x:=Ai h;have z:EC x y=y:=Af (by omega);rw[O,z]
   .have O:Fq x y=y:=Af h;by_cases Z:y<x
    .have z:EC x y=x:=Ai Z;rw[O,z];by_cases Q:S x.toNat=S y.toNat
     .rw[Ai Q,Ai Q.symm]
     .rw[Af Q,Af (FP Q)]
    .have z:EC x y=y:=Af Z
     have:x=y:=by omega
     rw[O,z,this]
def Qxe(n:Nat)(nm:List Int)(bs:List Ag)(t:Int)(k:Nat):Xs n (Hn nm bs) t k↔Xs n (Ig nm bs) t k:=by
 simp only[Xs,Qv9]
def Vw{s:Ap}{A:AB}{t:Int}(h:Qs0 s A)(hl:A.Tiles.length<=512)(ht:0<=t):
 (R7 s A t).2=decide ((gD s A t).2=0)/\((R7 s A t).2=true->(R7 s A t).1=(gD s A t).1):=by
 have Q:=Qro h.1 A A.Tiles.length (AU _);have hL:=sA s A A.Tiles.length;obtain⟨bs,hbs⟩: ∃bs,bs=FX s A A.Tiles.length:=⟨_,rfl⟩;obtain⟨n,hn⟩: ∃n,n=A.Tiles.length:=⟨_,rfl⟩;rw[<-hn] at Q hL hbs hl;rw[<-hbs] at Q hL;have Z:(D5 n bs t).1=(Cq n bs t).1:=rfl;simp only[R7,gD,<-hn,<-hbs,Z];by_cases O:64<(Cq n bs t).1
 .rw[Ai O,Ai O];exact⟨rfl,λh=>by cases h⟩
 .rw[Af O,Af O];have z:=Mh (t:=t) Q (by omega) (by rw[Z];omega);have hh:=Qtt (n:=(Cq n bs t).1.toNat) (bs:=(D5 n bs t).2) (t:=t) (λb hb=>by
   have:=z.2.2.2.1 b hb
   have h0:=z.1;rw[Z] at this h0;rw[Int.toNat_of_nonneg h0];exact this) z.2.2.2.2.1 ht
  by_cases h2:(Cq n bs t).1<2
  .rw[Ai h2];refine⟨rfl,λ_=> ?_⟩;simp only[uN];rw[show (Cq n bs t).1.toNat - 1=0 by omega];rfl
  .rw[Af h2];refine⟨rfl,λ_=> ?_⟩;obtain⟨p1,p2⟩:=Ny (t:=t) Q (by omega) (by omega) (by omega);have hw:=(Qzk (n:=(Cq n bs t).1) (bs:=(Cq n bs t).2) p1 p2 ht ((Cq n bs t).1 - 1).toNat (by omega) (by omega)).2;have aa:=hh ((Cq n bs t).1.toNat - 1) (by omega);simp only[uN];rw[show ((Cq n bs t).1 - 1).toNat=(Cq n bs t).1.toNat - 1 by omega] at hw⊢;have e:Xs (Cq n bs t).1.toNat (D5 n bs t).2 t ((Cq n bs t).1.toNat - 1)↔Xs (Cq n bs t).1.toNat (Cq n bs t).2 t ((Cq n bs t).1.toNat - 1):=Qxe _ _ _ _ _;rw[mX,aa,e,<-hw];simp
def oZ(y:A9):sN y=Ht y:=by
 simp only[sN,Ht];by_cases h:y.Seed.Tiles.length=0
 .rw[Ai h]
  have:y.Seed.Tiles=[]:=uZ h
  simp[this]
 .rw[Af h];have he:y.Seed.Tiles.isEmpty=false:=by
   rw[ZeF];intro h2;rw[h2] at h;simp at h
  by_cases c1:(EH y.Set && Ih y.Set y.Seed)=false
  .have e:R0 y.Set y.Seed y.Temperature=(false,1):=Ai c1;rw[e];rw[ZdX] at c1;rcases c1 with c1|c1<;>simp[c1]
  .have z:=c1;rw[KR] at c1;have hp:=Qof (s:=y.Set) (a:=y.Seed) c1;rw[AY] at c1;rw[c1.1,c1.2,he];by_cases O:Bz y.Temperature 1 16=false
   .have e:R0 y.Set y.Seed y.Temperature=(false,2):=(Af z).trans (Ai O);rw[e,O];simp
   .have Z:=O;rw[KR] at O;have ht:0<=y.Temperature:=by simp only[Bz,AY,CF] at O;omega
    obtain⟨q1,q2⟩:=Vw hp.1 hp.2 ht;rw[O];simp only[Vv,Wm,EL];by_cases Q:(R7 y.Set y.Seed y.Temperature).2=false
    .have e:R0 y.Set y.Seed y.Temperature=(false,4):=(Af z).trans ((Af Z).trans (Ai Q));rw[e,<-q1,Q];simp
    .have e:R0 y.Set y.Seed y.Temperature=((R7 y.Set y.Seed y.Temperature).1,0):=(Af z).trans ((Af Z).trans (Af Q));rw[KR] at Q;rw[e,<-q1,Q,q2 Q];simp
def EB(p:AC)(t:Int):List Al->List Al
 |[]=>[⟨p,t⟩]
 |x::r=>if Co p x.At=true then ⟨p,t⟩::x::r else x::EB p t r
def Nh(p:AC)(t:Int): ∀(l:List Al),Hr p t false l++(if Ji p l=true then [] else [⟨p,t⟩])=EB p t l
 |[]=>rfl
 |x::r=>by
  have ih:=Nh p t r;by_cases h:Co p x.At=true
  .have e:Ji p (x::r)=true:=by simp only[Ji,Ai h]
   simp only[e,BD,DJ,Hr,EB,Ai h,tZ]
  .have e:Ji p (x::r)=Ji p r:=by simp only[Ji,Af h]
   simp only[e,Hr,EB,Af h,BO,ih]
def yT(a:AB)(p:AC)(t:Int):GW a p t=⟨EB p t a.Tiles⟩:=by simp only[GW,Nh]
def Qkk(p:AC)(t:Int): ∀(l:List Al),(EB p t l).length=l.length+1
 |[]=>rfl
 |x::r=>by simp only[EB];split<;>simp[Qkk p t r]
def Qlc(p:AC)(t:Int)(y:Al): ∀(l:List Al),y∈EB p t l↔y=⟨p,t⟩\/y∈l
 |[]=>by simp[EB]
 |x::r=>by
  simp only[EB];split
  .simp
  .simp only[Br,Qlc p t y r];constructor
   .rintro (h|h|h)
    .exact .inr (.inl h)
    .exact .inl h
    .exact .inr (.inr h)
   .rintro (h|h|h)
    .exact .inr (.inl h)
    .exact .inl h
    .exact .inr (.inr h)
def UD(m:Bt)(o:AB)(x:Al):Option AB:=
 if (m.Labels[x.Tile.toNat]?.getD 0)<0 then some o
 else if 0<=nH o (fE x.At m.Scale).1/\nH o (fE x.At m.Scale).1≠(m.Labels[x.Tile.toNat]?.getD 0) then none
 else if nH o (fE x.At m.Scale).1<0 then some (GW o (fE x.At m.Scale).1 (m.Labels[x.Tile.toNat]?.getD 0)) else some o
def oD(o:AB):D:=if o.Tiles=[] then .sl true 0 [] else .sl false 3 (o.Tiles.map Al.c)
def xF(o:AB):AB.d [oD o]=some o:=by
 obtain⟨l⟩:=o;cases l with
 |nil=>rfl
 |cons x r=>simp only[oD];rw[Af (by simp)];exact AB.d_c ⟨x::r⟩
def QW(l:List Al):AB.d [.sl false 3 (l.map Al.c)]=some ⟨l⟩:=AB.d_c ⟨l⟩
def jE(o:AB)(p:AC)(t:Int):D.sl false 3 ((GW o p t).Tiles.map Al.c)=oD (GW o p t):=by
 rw[yT,oD,Af];intro h
 have:=Qkk p t o.Tiles
 simp only at h;rw[h] at this;simp at this
def Qws{s:Ap}(h:EH s=true):s.Tiles.length<=160:=by
 simp only[EH,AY,CF,Bz] at h;omega
end Go.Ae
