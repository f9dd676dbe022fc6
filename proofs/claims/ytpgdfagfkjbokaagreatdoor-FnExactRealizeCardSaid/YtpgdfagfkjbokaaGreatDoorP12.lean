/- Lemmas. Conditions: none. -/
import Derived.Test.YtpgdfagfkjbokaaGreatDoorP11
import Derived.Sort.LoopGhostIn
set_option linter.all false
set_option maxHeartbeats 8000000
set_option maxRecDepth 100000
namespace Go.Ae
open Go
def It{ι:Type}(J:ι->(Nat->Prop)->World->Prop)(base:Nat)(ok0:Nat->Prop)(N:Nat)(i:ι)(s:Av)(a:Act)(w:World):Prop:=
 ∃C S Pr,S.w=w/\CN C N s S a/\a.defers=[]/\base<=w.heap.size/\J i Pr w/\(∀b,EZ S b->base<=b/\ ¬Pr b)/\(∀b,S.ok b->ok0 b\/ ¬Pr b)
def SF{ι:Type}(J:ι->(Nat->Prop)->World->Prop)(base:Nat)(ok0:Nat->Prop)(N:Nat)(i:ι)(Q:Cq):Exit->Act->World->Prop
 | .normal,a,w=> ∃s,Q .normal s/\It J base ok0 N i s a w
 | .exit id,a,w=> ∃s,Q (.exit id) s/\It J base ok0 N i s a w
 | .ret,a,w=> ∃s,Q .ret s/\It J base ok0 N i s a w
 |_,_,_=>False
def MA{ok ok':Nat->Prop}{hp hp':Nat->Option Obj}: ∀(ds:List D) (vs:List Value),ds.all D.scs=true->rdl ok hp ds vs->rdl ok' hp' ds vs
 |[],_,_,hd=>by simpa only[rdl] using hd
 |d::ds,vs,h,hd=>by
  simp only[rdl,JL,AN] at hd h⊢;obtain⟨v,r,rfl,z,O⟩:=hd;exact⟨v,r,rfl,W5 h.1 z,MA ds r h.2 O⟩
section
variable {ι:Type}{P:Program}{V:Dt}{N:Nat}{J:ι->(Nat->Prop)->World->Prop}{base:Nat}{ok0:Nat->Prop}{i j:ι}
def SH(hA:NY base J){s:Av}{a:Act}{w:World}(h:It J base ok0 N i s a w):
 ∃C1,BF C1 N s a w/\ ∀s' a' w',BF C1 N s' a' w'->It J base ok0 N i s' a' w':=by
 obtain⟨C,S,Pr,rfl,hE,hd,hb,hJ,z,aa⟩:=h;obtain⟨Q,ab⟩:=hA i Pr _ hJ;refine⟨Gv S s.nx a.defers,⟨S,rfl,Y5 hE⟩,?_⟩;rintro s' a' w' ⟨S',rfl,O⟩;have hs:S.w.heap.size<=S'.w.heap.size:=O.wf.size;refine⟨_,S',Pr,rfl,O,O.defers.trans hd,DH hb hs,ab _ hs O.wf.os O.wf.tape O.wf.output ?_,λb h=> ?_,λb h=> ?_⟩
 .rintro b (h|h)
  .exact ZH O.wf b (Q b h) (λZ=>(z b Z).2 h)
  .exact ZH O.wf b (by omega) (λZ=>by have:=(z b Z).1;omega)
 .rcases mG O.wf h with q|q
  .exact⟨DH hb q,λhp=>by have:=Q b hp;omega⟩
  .exact z b q
 .rcases ZW O.wf h with q|q|q
  .exact aa b q
  .exact .inr λhp=>by have:=Q b hp;omega
  .exact .inr (z b q).2
def BL(s':Av):Cq
 | .normal,s=>sub s s'
 | .exit _,_=>False
 | .ret,_=>False
def Jb(s':Av)(p q:Prop)(id:Nat):Cq
 | .normal,s=>p/\sub s s'
 | .exit k,s=>k=id/\q/\sub s s'
 | .ret,_=>False
def Qy6(HM:P.follows .mixedOrders=true)(HV:Hq P V)(hA:NY base J){c:Code}(hc:Eh N c=true)(O:HF c=true){Q:Cq}{s:Av}{a:Act}{w:World}(hk:Dh P V c Q s)(h:It J base ok0 N i s a w):
 c.wpIn Fence.wide 0 P (SF J base ok0 N i Q) a w:=by
 obtain⟨C1,aa,z⟩:=SH hA h;refine wpIn_mono (lR (ro:=none) HM HV c hc O Q s a w hk aa) ?_;intro e a' w' hq;cases e<;>simp only[FQ] at hq<;>simp only[SF]
 .obtain⟨s',Z,h2⟩:=hq;exact⟨s',Z,z _ _ _ h2⟩
 .obtain⟨s',Z,h2⟩:=hq;exact⟨s',Z,z _ _ _ h2⟩
 .obtain⟨s',Z,h2⟩:=hq;exact⟨s',Z,z _ _ _ h2⟩
def FL{s s':Av}{a:Act}{w:World}(h:It J base ok0 N i s a w)(hs:sub s s')(hg:s'.good=true)(hA:NY base J):It J base ok0 N i s' a w:=by
 obtain⟨C,S,Pr,rfl,hE,hd,hb,hJ,z,aa⟩:=h;have hm:Rh S S.w:=⟨AL _,rfl,rfl,rfl,λ_ _=>rfl,λ_ _=>rfl⟩;have Q:CN (Gv S 0 a.defers) N s S a:=vD hE hm 0 (CC _) a a.defers rfl rfl;obtain⟨O,ab⟩:=hA i Pr _ hJ;obtain⟨S',hw,Z⟩:=mM ⟨S,rfl,Q⟩ hs hg (CC _);refine⟨_,S',Pr,hw,Z,hd,hb,hJ,λb h=> ?_,λb h=> ?_⟩
 .rcases mG Z.wf h with q|q
  .exact⟨DH hb q,λhp=>by have:=O b hp;omega⟩
  .exact z b q
 .rcases ZW Z.wf h with q|q|q
  .exact aa b q
  .exact .inr λhp=>by have:=O b hp;omega
  .exact .inr (z b q).2
def Lr(HM:P.follows .mixedOrders=true)(HV:Hq P V)(hA:NY base J){x y:Code}(hc:Eh N x=true)(z:HF x=true){Qx:Cq}{Q:Exit->Act->World->Prop}{s:Av}{a:Act}{w:World}(h:It J base ok0 N i s a w)(hk:Dh P V x Qx s)
 (hn: ∀s a w,Qx .normal s->It J base ok0 N i s a w->y.wpIn Fence.wide 0 P Q a w)(he: ∀id s a w,Qx (.exit id) s->It J base ok0 N i s a w->Q (.exit id) a w)(hr: ∀s a w,Qx .ret s->It J base ok0 N i s a w->Q .ret a w):(x.seq y).wpIn Fence.wide 0 P Q a w:=by
 refine wpIn_seq (wpIn_mono (Qy6 HM HV hA hc z hk h) ?_);intro e a' w' hq;cases e<;>simp only[SF] at hq<;>simp only[Exit.then]
 .obtain⟨s',O,Z⟩:=hq;exact hn s' _ _ O Z
 .obtain⟨s',O,Z⟩:=hq;exact he _ s' _ _ O Z
 .obtain⟨s',O,Z⟩:=hq;exact hr s' _ _ O Z
def vI(HM:P.follows .mixedOrders=true)(HV:Hq P V)(hA:NY base J){x:Code}(hc:Eh N x=true)(z:HF x=true){Qx:Cq}{Q:Exit->Act->World->Prop}{s:Av}{a:Act}{w:World}(h:It J base ok0 N i s a w)(hk:Dh P V x Qx s)
 (hn: ∀s a w,Qx .normal s->It J base ok0 N i s a w->Q .normal a w)(he: ∀id s a w,Qx (.exit id) s->It J base ok0 N i s a w->Q (.exit id) a w)(hr: ∀s a w,Qx .ret s->It J base ok0 N i s a w->Q .ret a w):x.wpIn Fence.wide 0 P Q a w:=by
 refine wpIn_mono (Qy6 HM HV hA hc z hk h) ?_;intro e a' w' hq;cases e<;>simp only[SF] at hq
 .obtain⟨s',O,Z⟩:=hq;exact hn s' _ _ O Z
 .obtain⟨s',O,Z⟩:=hq;exact he _ s' _ _ O Z
 .obtain⟨s',O,Z⟩:=hq;exact hr s' _ _ O Z
def Wu(HV:Hq P V)(hA:NY base J){ops:Array Oper}{seg more:List Oper}{i0:Nat}(Z:ops.toList.drop i0=seg++more)(hd:JF N seg=true)(O:WJ ops=true){K:Av->Prop}{Q:Exit->Act->World->Prop}{l2:List Nat}{s:Av}{a:Act}{w:World}
 (hk:KS P V (Ga ops seg) K s)(h:It J base ok0 N i s a w)(hK: ∀s a w,K s->It J base ok0 N i s a w->wpOpsIn Fence.wide 0 P ops Q l2 a w):wpOpsIn Fence.wide 0 P ops Q (List.range' i0 seg.length++l2) a w:=by
 obtain⟨C1,aa,z⟩:=SH hA h;exact zZ (ro:=none) O (K:=λa w=> ∃s,K s/\It J base ok0 N i s a w) (λa w ⟨s,h1,h2⟩=>hK s a w h1 h2) _ _ _
  (Qpr HV (Q:=λ_ a w=> ∃s,K s/\It J base ok0 N i s a w) (λs a w h1 h2=>⟨s,h1,z _ _ _ h2⟩) seg more i0 Z hd s a w hk aa)
def RF{C:AU}{s:Av}{S:Au}{a:Act}(z:CN C N s S a){dst:Option Nat}(hd: ∀d,dst=some d->d<N){x:AV}{v:Value}(hx:x.nms=[])(hv:Aa S x v):CN C N (s.put dst x) S (a.put dst v):=by
 have Q:(s.put dst x).h=s.h:=by cases dst<;>rfl
 have O:(s.put dst x).nx=s.nx:=by cases dst<;>rfl
 refine⟨z.wf,λn=>by rw[Q];exact z.h n,?_,?_,?_,?_,?_,by rw[O];exact z.n0,z.pre⟩
 .intro t;rw[Vz,zR (λd h=>by rw[z.size];exact hd d h)];split
  .exact hv
  .exact z.tm t
 .intro t;rw[Vz,O];split
  .intro m Z;rw[hx] at Z;cases Z
  .exact z.nmT t
 .rw[Q,O];exact z.nmH
 .cases dst<;>simp[Act.put,z.size]
 .cases dst<;>simp[Act.put,z.defers]
def rR(hA:NY base J){ai:ι->List D->ι->Prop}{l:Nat}(hY: ∀i x j args Pr W,ai i x j->(∀ok hp,rdl ok hp x args.toList)->J i Pr W->YieldAt Fence.wide 0 P l args W λe W'=>e= .returned (.bool true)/\ ∃Pr',J j Pr' W'/\IA ok0 Pr W Pr' W')
 {ops:Array Oper}{k:Nat}{rest:List Nat}{o:Oper}{c:Call}{f:Operand}{x:List D}{s:Av}{a:Act}{w:World}{Q:Exit->Act->World->Prop}(ho:ops[k]? =some o)(hw:Region.wanted o (yielded ops a.tmps)=true)(aq:o.op= .call c)(af:c.callee= .value f)
 (hf:Ax s.tm f= .im (.fn (1000000000+l) [] []))(ab:DP s.tm c.args.toList=x.map .im)(av:x.all D.scs=true)(hx:ai i x j)(ao: ∀n e,hget s.h n=some e->e.2.isView=false)(hd: ∀d,o.dst=some d->d<N)(h:It J base ok0 N i s a w)
 (ac: ∀a' w',It J base ok0 N j (s.put o.dst (.im (.bool true))) a' w'->wpOpsIn Fence.wide 0 P ops Q rest a' w'):wpOpsIn Fence.wide 0 P ops Q (k::rest) a w:=by
 obtain⟨C,S,Pr,rfl,Z,ag,hb,hJ,aa,ad⟩:=h;obtain⟨aw,_⟩:=hA i Pr _ hJ;have an:a.eval f= .func (.yield l) #[] #[]:=by
  have h1:=QQ Z f;rw[hf] at h1;simp only[Aa,rd,rdl] at h1;obtain⟨A,B,h2,h3,h4⟩:=h1;have e1:A= #[]:=by simpa using h3
  have e2:B= #[]:=by simpa using h4
  rw[h2,e1,e2];congr 1;unfold VK;rw[Af (by omega),wN]
 have hcl:AJ S (x.map .im) (c.args.map a.eval).toList:=by
  rw[<-ab,Xh];exact Qpe _ (λy _=>QQ Z y)
 have au: ∀ok hp,rdl ok hp x (c.args.map a.eval).toList:=λok hp=>by
  have h1:=(IB _ _).1 hcl;exact MA _ _ av h1
 obtain⟨fn,aj,ak,bo,hy,hR⟩:=hY i x j (c.args.map a.eval) Pr S.w hx au hJ;simp only[wpOpsIn,ho,hw,BI];refine⟨λ_ _=>trivial,?_⟩;have ah:(o.semAt Fence.wide.round a.eval).run P S.w= .ok (.round l fn aj ak bo) S.w:=by
  show (execOp a.eval o).run P S.w=_;simp only[execOp,aq,resolve,af,an,Sem.run_bind];simp[Deferred.ofValue,invoke,hy]
 rw[ah,Oper.uponIn_round];refine⟨λh=>(by cases h),RoundIn.mono hR ?_⟩;rintro e W' ⟨rfl,Pr',am,O⟩;have hm:Rh S W':=by
  refine⟨O.size,O.os,O.tape,O.output,λb z=> ?_,?_⟩
  .rcases ad b z with q|q
   .exact O.same b (Z.wf.oks b z) (.inr q)
   .exact O.same b (Z.wf.oks b z) (.inl q)
  .rintro b ⟨o',e,lc,q1,q2,rfl⟩;have hl:=Z.wf.loc o' e lc q1 q2;cases hmu:e.1 with
   |true=>exact O.same _ hl.1 (.inl (aa _ ⟨o',e,lc,q1,hmu,q2,rfl⟩).2)
   |false=>
    have h5:=hl.2;rw[hmu] at h5;simp only[CE,Cr] at h5;rcases h5 with h5|h5
    .rcases ad _ h5 with q|q
     .exact O.same _ hl.1 (.inr q)
     .exact O.same _ hl.1 (.inl q)
    .rw[ao o' e (by rw[<-Z.h o'];exact q1)] at h5;cases h5
 refine ac _ _ ⟨_,{S with w:=W'},Pr',rfl,RF (vD Z hm 0 (CC _) a [] ag rfl) hd rfl (by simp only[Aa,rd]),?_,DH hb O.size,am,λb z=> ?_,λb z=> ?_⟩
 .cases o.dst<;>exact ag
 .have q:=aa b z;have q2:=(WH Z.wf z).1;refine⟨q.1,λhp=> ?_⟩;rcases O.pr b hp with r|r
  .exact q.2 r
  .omega
 .rcases ad b z with q|q
  .exact .inl q
  .refine .inr λhp=> ?_
   have q2:=Z.wf.oks b z;rcases O.pr b hp with r|r
   .exact q r
   .omega
def Ye(HV:Hq P V)(Z:NY base J){ac:ι->List D->ι->Prop}{l:Nat}(hY: ∀i x j args Pr W,ac i x j->(∀ok hp,rdl ok hp x args.toList)->J i Pr W->YieldAt Fence.wide 0 P l args W λe W'=>e= .returned (.bool true)/\ ∃Pr',J j Pr' W'/\IA ok0 Pr W Pr' W')
 {id:Nat}{ops:Array Oper}(k1:Nat)(av:List.range ops.size=List.range' 0 (ops.toList.take k1).length++(k1::(List.range' (k1+1) (ops.toList.drop (k1+1)).length++[])))(ad:JF N (ops.toList.take k1)=true)(af:JF N (ops.toList.drop (k1+1))=true)(z:WJ ops=true)
 {o:Oper}{c:Call}{f:Operand}{x:List D}(s1:Av){s s2:Av}{a:Act}{w:World}{Q:Exit->Act->World->Prop}{g t:Nat}(ho:ops[k1]? =some o)(aq:o.op= .call c)(aa:c.callee= .value f)(aj:o.guard=some (g,true))(ak:(ops[g]?).bind (·.dst)=some t)(ai:A8 s1.tm t= .im (.bool true))
 (hf:Ax s1.tm f= .im (.fn (1000000000+l) [] []))(O:DP s1.tm c.args.toList=x.map .im)(au:x.all D.scs=true)(hx:ac i x j)(ao: ∀n e,hget s1.h n=some e->e.2.isView=false)(hd: ∀d,o.dst=some d->d<N)(ag:s1.good=true)(ah:s2.good=true)
 (h:It J base ok0 N i s a w)(am:KS P V (Ga ops (ops.toList.take k1)) (λs=>sub s s1) s)(an:KS P V (Ga ops (ops.toList.drop (k1+1))) (λs=>sub s s2) (s1.put o.dst (.im (.bool true))))
 (ab: ∀a w,It J base ok0 N j s2 a w->Q .normal a w):(Code.region id ops false).wpIn Fence.wide 0 P Q a w:=by
 refine wpIn_region ?_;rw[av];refine Wu HV Z (seg:=ops.toList.take k1) (more:=ops.toList.drop k1) (by rw[F8,Iv]) ad z am h (λs a w h1 h2=> ?_);have h3:=FL h2 h1 ag Z;have hw:Region.wanted o (yielded ops a.tmps)=true:=by
  obtain⟨C,S,Pr,_,hE,_⟩:=h3;have hy:=Qqk hE ak ai;simp[Region.wanted,aj,hy]
 refine rR Z hY ho hw aq aa hf O au hx ao hd h3 (λa w h4=> ?_);refine Wu HV Z (seg:=ops.toList.drop (k1+1)) (more:=[]) (by rw[D2]) af z an h4 (λs a w h5 h6=> ?_);exact ab a w (FL h6 h5 ah Z)
end
def SG{P:Program}{gf:Nat}{fn:Func}{c:Code}(hf:P.funcs[gf]? =some fn)(Q:fn.body=some c)(aa:fn.results.toList=[]){capt:List D}{X:oM}(af:capt.length+1<=fn.ntmps)
 (hk: ∀(l:Nat) (J:X.I->(Nat->Prop)->World->Prop) (base:Nat) (ok0:Nat->Prop),NY base J->
  (∀i x j args Pr W,X.step i x j->(∀ok hp,rdl ok hp x args.toList)->J i Pr W->YieldAt Fence.wide 0 P l args W λe W'=>e= .returned (.bool true)/\ ∃Pr',J j Pr' W'/\IA ok0 Pr W Pr' W')->
  ∀a w,It J base ok0 fn.ntmps X.i0 ⟨entry 0 (.im (.fn (1000000000+l) [] [])::capt.map .im),[],0⟩ a w->c.wpIn Fence.wide 0 P (λe a w=> ∃i,X.fin i/\SF J base ok0 fn.ntmps i (λe _=>e= .normal\/e= .ret) e a w) a w):Lg P gf capt X:=by
 intro C S vs l J hW Z hA hY ⟨Pr,hJ⟩;refine callsIn_wide.1 (callsIn_of_wp_marks (n:=0) hf Q trivial (wpIn_mono (hk l J S.w.heap.size S.ok hA hY _ _ ?_) ?_))
 .let C0:AU:=⟨S.w,λ_=>False,S.ok,0,λ_=>none,λ_=>none,[]⟩
  let S0:Au:=⟨λ_=>none,S.ok,λ_=>none,S.w⟩
  have ad:Wf C0 S0:=⟨rfl,rfl,rfl,AL _,λ_ _ _=>rfl,λ_ Q=>Q,λ_ Q=> .inl Q,hW.oks,λo e O=>(by cases O),λo e l O=>(by cases O),λo o' e e' l l' O=>(by cases O),hW.glN λ_ h=>h.elim⟩;have z:AJ S0 (.im (.fn (1000000000+l) [] [])::capt.map .im) (#[Value.func (.yield l) #[] #[]]++vs).toList:=by
   rw[wS];refine⟨_,_,rfl,?_,(IB _ _).2 Z⟩;simp only[Aa,rd,rdl];refine⟨#[],#[],?_,rfl,rfl⟩;unfold VK;rw[Af (by omega),wN]
  have hvs:(#[Value.func (.yield l) #[] #[]]++vs).size=capt.length+1:=by
   have:=IJ _ _ z
   simp at this⊢;omega
  obtain⟨As,hAs⟩: ∃As,As= #[Value.func (.yield l) #[] #[]]++vs:=⟨_,rfl⟩;rw[<-hAs] at z hvs⊢;refine⟨C0,S0,Pr,rfl,⟨ad,λn=>rfl,?_,?_,?_,?_,rfl,CC _,λo ho=>absurd ho (wJ _)⟩,rfl,AL _,hJ,λb ⟨o,e,lc,h1,_⟩=>(by cases h1),λb Q=> .inl Q⟩
  .intro t;have h1:=lM (S:=S0) _ As.toList 0 t z;simp only[CC,BI,nU] at h1
   have:({tmps:=As++Array.replicate (fn.ntmps - As.size) undef,defers:=[]}:Act).eval (.tmp t)=(As.toList[t]?).getD undef:=by
    simp only[Act.eval,HG,wO,gL];by_cases ht:t<As.size
    .simp[ht]
    .simp only[ht,Cr]
     have:As[t]? =none:=Xm (by omega)
     simp only[Gd,this]
     split<;>rfl
   rw[this];exact h1
  .intro t m hm
   have:=lU _ 0 t m hm
   simp only[AA,AV.nms,Fq] at this;have h0: ∀(q:List D),AA (q.map .im)=[]:=by
    intro q;induction q with
    |nil=>rfl
    |cons d r ih=>simp only[Bf,AA,AV.nms,ih,D2]
   rw[h0] at this;cases this
  .intro n e O;cases O
  .simp;omega
 .intro e a w O;obtain⟨i,hi,O⟩:=O;have fin:(∃s,It J S.w.heap.size S.ok fn.ntmps i s a w)->LeavesInM Fence.wide 0 P fn a.tmps (λe W'=> ∃v Pr i,e= .returned v/\X.fin i/\J i Pr W') a.defers .returning w:=by
   rintro⟨s,C1,S1,Pr1,rfl,hE,hd,_,ac,_,_⟩;rw[hd];simp only[LeavesInM,LeavesIn];obtain⟨v,ab,_⟩:=sR (P:=P) hE (fn:=fn) (xs:=[]) (by rw[aa];rfl);exact⟨v,ab,v,Pr1,i,rfl,hi,ac⟩
  cases e<;>simp only[SF] at O<;>simp only[bodyPostM]
  .obtain⟨s,_,h⟩:=O;exact fin ⟨s,h⟩
  .obtain⟨s,h,_⟩:=O;rcases h with h|h<;>cases h
  .obtain⟨s,_,h⟩:=O;exact fin ⟨s,h⟩
def xV{P:Program}{gf:Nat}{fn:Func}{c:Code}(hf:P.funcs[gf]? =some fn)(hb:fn.body=some c)(O:fn.results.toList=[]){capt:List D}{xs:List (List D)}(z:capt.length+1<=fn.ntmps)
 (hk: ∀(l:Nat) (J:Nat->(Nat->Prop)->World->Prop) (base:Nat) (ok0:Nat->Prop),NY base J->
  (∀i x j args Pr W,(xs[i]? =some x/\j=i+1)->(∀ok hp,rdl ok hp x args.toList)->J i Pr W->YieldAt Fence.wide 0 P l args W λe W'=>e= .returned (.bool true)/\ ∃Pr',J j Pr' W'/\IA ok0 Pr W Pr' W')->
  ∀a w,It J base ok0 fn.ntmps 0 ⟨entry 0 (.im (.fn (1000000000+l) [] [])::capt.map .im),[],0⟩ a w->c.wpIn Fence.wide 0 P (SF J base ok0 fn.ntmps xs.length (λe _=>e= .normal\/e= .ret)) a w):JZ P gf capt xs:=
 SG (X:=iR xs) hf hb O z λl J base ok0 Z hY a w Q=>wpIn_mono (hk l J base ok0 Z hY a w Q) λ_ _ _ h=>⟨xs.length,rfl,h⟩
end Go.Ae
namespace Go.Ae
open Go Go.Proofs
def vQ:Dt:=Q4 [(107,step_.row),(235,placeAt.row)]
def ON:JE Tryz.prog vQ:=QC _ (by
 intro p hp;simp only[Bh,aO,VJ] at hp;rcases hp with rfl|rfl
 .exact step_.ok
 .exact placeAt.ok)
def GQ(a:Ad)(k:Nat):Nat->List (List D)
 |0=>[]
 |j+1=>GQ a k j++if 0<=Hj a k (1 - j) then [[.agg [.int .i64 k,.int .i64 (Hj a k (1 - j))],.int .i64 (1 - j)]] else []
def Cw(a:Ad):Nat->List (List D)
 |0=>[]
 |k+1=>Cw a k++GQ a k 2
def Qzu(a:Ad): ∀(n k:Nat),k<=n-> ∃r,Cw a n=Cw a k++r
 |0,k,h=>⟨[],by obtain rfl:k=0:=by omega
                rw[D2]⟩
 |n+1,k,h=>by
  by_cases z:k=n+1
  .subst z;exact⟨[],by rw[D2]⟩
  .obtain⟨r,O⟩:=Qzu a n k (by omega);exact⟨r++GQ a n 2,by rw[Cw,O,EK]⟩
def Qv3(a:Ad)(k:Nat): ∀(n j:Nat),j<=n-> ∃r,GQ a k n=GQ a k j++r
 |0,j,h=>⟨[],by obtain rfl:j=0:=by omega
                rw[D2]⟩
 |n+1,j,h=>by
  by_cases z:j=n+1
  .subst z;exact⟨[],by rw[D2]⟩
  .obtain⟨r,O⟩:=Qv3 a k n j (by omega);rw[GQ,O];exact⟨_,by rw[EK]⟩
def Yr(a:Ad){n k j:Nat}(Q:k<n)(Z:j<2)(h:0<=Hj a k (1 - j)):(Cw a n)[(Cw a k).length+(GQ a k j).length]? =some [.agg [.int .i64 k,.int .i64 (Hj a k (1 - j))],.int .i64 (1 - j)]:=by
 obtain⟨r1,z⟩:=Qzu a n (k+1) Q;obtain⟨r2,O⟩:=Qv3 a k 2 (j+1) (by omega);rw[z,Cw,O,GQ,Ai h,EK,EK,EK,E3 (Nat.le_add_right _ _),wN,E3 (AL _),Gh];rfl
def Jm(l:Nat)(A:Ad)(k:Nat):Av:=⟨[(11,.im (.int .i64 k)),(10,.im (.int .i64 A.Tiles.length)),(9,.im (.sl false 3 (A.Tiles.map Aj.c))),(1,.im (.ref (Ad.c A))),(0,.im (.fn (1000000000+l) [] []))],[],0⟩
def DF(l:Nat)(A:Ad)(k:Nat)(p:Aj)(j:Nat):Av:=⟨[(18,.im (.int .i64 j)),(17,.im (.int .i64 2)),(16,.own 1),(4,.ptr 0 0),(3,.im (.int .i64 k)),(11,.im (.int .i64 k)),(10,.im (.int .i64 A.Tiles.length)),(9,.im (.sl false 3 (A.Tiles.map Aj.c))),(1,.im (.ref (Ad.c A))),(0,.im (.fn (1000000000+l) [] []))],
 [(0,(true,.cells 115 [.im (.int .i64 p.At.X),.im (.int .i64 p.At.Y),.im (.int .i64 p.Tile)])),(1,(true,.arr 2 1 (([1,0]:List Int).map Al)))],2⟩
def Tr(A:Ad)(hA:De none A.Tiles=true)(hl:A.Tiles.length<=1000000)(hS: ∀x∈A.Tiles,HE x.At):JZ Tryz.prog 234 [.ref (Ad.c A)] (Cw A A.Tiles.length):=by
 refine xV Tryz.func234 rfl rfl (by simp) ?_;intro l J base ok0 z hY a w ad;have HV:=fU ON;obtain⟨R,hR⟩: ∃R,R=SF J base ok0 Tryz.f234.ntmps (Cw A A.Tiles.length).length (λe _=>e= .normal\/e= .ret):=⟨_,rfl⟩;rw[<-hR];simp only[Tryz.f234] at ad⊢;refine Lr Dd HV z (by decide) (by decide) ad (Qx:=BL (Jm l A 0)) ?_ (λs a w O Z=> ?_) (λ_ _ _ _ h=>h.elim) (λ_ _ _ h=>h.elim)
 .simp(disch:=omega)only[ZA,simprocAttr,BL,Jm,entry,Ad.c,sub];exact λ_=>trivial
 have h3:=FL Z O (by simp[Jm,ZG]) z;clear O Z ad;refine wpIn_block (wpIn_loop_ghost (λm a w=> ∃k,k<=A.Tiles.length/\m=A.Tiles.length - k/\It J base ok0 41 (Cw A k).length (Jm l A k) a w) A.Tiles.length ⟨0,CC _,rfl,h3⟩ ?_);clear h3;rintro m a w ⟨k,hk,hm,h⟩;refine Lr Dd HV z (by decide) (by decide) h (Qx:=BL ⟨(12,.im (.bool (decide (k<A.Tiles.length))))::(Jm l A k).tm,[],0⟩) ?_ (λs a w O Z=> ?_) (λ_ _ _ _ h=>h.elim) (λ_ _ _ h=>h.elim)
 .simp(disch:=omega)only[ZA,simprocAttr,BL,Jm,sub]
 have h3:=FL Z O (by simp[Jm,ZG]) z;clear O Z h;refine Lr Dd HV z (by decide) (by decide) h3 (Qx:=Jb (Jm l A k) (k<A.Tiles.length) (¬k<A.Tiles.length) 0) ?_ (λs a w O Z=> ?_) (λid s a w O Z=> ?_) (λ_ _ _ h=>h.elim)
 .simp(disch:=omega)only[ZA,simprocAttr,Jb,Jm,sub]
  split<;>assumption
 rotate_left
 .obtain⟨rfl,h4,O⟩:=O;have ag:k=A.Tiles.length:=by omega
  subst ag;simp only[Exit.then,Exit.inBlock,BI,hR,SF];exact⟨s,.inl trivial,Z⟩
 obtain⟨af,O⟩:=O;have h:=FL Z O (by simp[Jm,ZG]) z;clear O Z h3;obtain⟨p,hp⟩: ∃p,A.Tiles[k]? =some p:=⟨_,Bi af⟩;refine wpIn_seq (wpIn_block ?_);refine Lr Dd HV z (by decide) (by decide) h (Qx:=BL ⟨(4,.ptr 0 0)::(3,.im (.int .i64 k))::(Jm l A k).tm,[(0,(true,.cells 115 [.im (.int .i64 p.At.X),.im (.int .i64 p.At.Y),.im (.int .i64 p.Tile)]))],1⟩) ?_ (λs a w O Z=> ?_) (λ_ _ _ _ h=>h.elim) (λ_ _ _ h=>h.elim)
 .simp(disch:=omega)only[ZA,simprocAttr,BL,Jm,sub];refine⟨af,λq hq=> ?_⟩;rw[hp] at hq;obtain rfl:=Ay hq;exact⟨rfl,rfl,rfl⟩
 have h3:=FL Z O (by simp[Jm,ZG]) z;clear O Z h;refine Lr Dd HV z (by decide) (by decide) h3 (Qx:=BL (DF l A k p 0)) ?_ (λs a w O Z=> ?_) (λ_ _ _ _ h=>h.elim) (λ_ _ _ h=>h.elim)
 .simp(disch:=omega)only[ZA,simprocAttr,BL,Jm,DF,sub]
 have h:=FL Z O (by simp[DF,ZG]) z;clear O Z h3;refine wpIn_block (wpIn_loop_ghost (λm a w=> ∃j,j<=2/\m=2 - j/\It J base ok0 41 ((Cw A k).length+(GQ A k j).length) (DF l A k p j) a w) 2 ⟨0,CC _,rfl,h⟩ ?_);clear h;rintro m2 a w ⟨j,hj,ai,h⟩;refine Lr Dd HV z (by decide) (by decide) h (Qx:=BL ⟨(19,.im (.bool (decide (j<2))))::(DF l A k p j).tm,(DF l A k p j).h,2⟩) ?_ (λs a w O Z=> ?_) (λ_ _ _ _ h=>h.elim) (λ_ _ _ h=>h.elim)
 .simp(disch:=omega)only[ZA,simprocAttr,BL,DF,sub];rw[decide_eq_decide];omega
 have h3:=FL Z O (by simp[DF,ZG]) z;clear O Z h;refine Lr Dd HV z (by decide) (by decide) h3 (Qx:=Jb (DF l A k p j) (j<2) (¬j<2) 2) ?_ (λs a w O Z=> ?_) (λid s a w O Z=> ?_) (λ_ _ _ h=>h.elim)
 .simp(disch:=omega)only[ZA,simprocAttr,Jb,DF,sub]
  split<;>assumption
 rotate_left
 .obtain⟨rfl,h4,O⟩:=O;have ac:j=2:=by omega
  subst ac;have h5:=FL Z O (by simp[DF,ZG]) z;simp only[Exit.then,Exit.inBlock,BI];refine vI Dd HV z (by decide) (by decide) h5 (Qx:=BL (Jm l A (k+1))) ?_ (λs a w O Z=> ?_) (λ_ _ _ _ h=>h.elim) (λ_ _ _ h=>h.elim)
  .simp(disch:=omega)only[ZA,simprocAttr,BL,DF,Jm,sub];rw[AD (by omega) (by omega)];omega
  have h6:=FL Z O (by simp[Jm,ZG]) z;refine⟨A.Tiles.length - (k+1),by omega,k+1,by omega,rfl,?_⟩;rw[Cw,C9];exact h6
 obtain⟨ac,O⟩:=O;have h:=FL Z O (by simp[DF,ZG]) z;clear O Z h3;refine wpIn_seq (wpIn_block ?_);refine Lr Dd HV z (by decide) (by decide) h (Qx:=BL ⟨(6,.im (.int .i64 (1 - (j:Int))))::(DF l A k p j).tm,(DF l A k p j).h,2⟩) ?_ (λs a w O Z=> ?_) (λ_ _ _ _ h=>h.elim) (λ_ _ _ h=>h.elim)
 .simp(disch:=omega)only[ZA,simprocAttr,DF];refine⟨by omega,ac,λrow aa=> ?_⟩;rcases (show j=0\/j=1 by omega) with rfl|rfl
  .simp only[G6,AI] at aa;subst aa;simp(disch:=omega)only[ZA,simprocAttr,BL,sub]
   try rfl
  .simp only[Ir,G6,AI] at aa;subst aa;simp(disch:=omega)only[ZA,simprocAttr,BL,sub]
   try rfl
 have h3:=FL Z O (by simp[DF,ZG]) z;clear O Z h;refine Lr Dd HV z (by decide) (by decide) h3 (Qx:=BL ⟨(7,.im (.int .i64 (Hj A k (1 - (j:Int)))))::(6,.im (.int .i64 (1 - (j:Int))))::(DF l A k p j).tm,(DF l A k p j).h,2⟩) ?_ (λs a w O Z=> ?_) (λ_ _ _ _ h=>h.elim) (λ_ _ _ h=>h.elim)
 .simp only[vQ];simp(disch:=omega)only[ZA,simprocAttr,Ad.d,BL,DF,sub,step_.q,step_.re,step_.fv,placeAt.q,placeAt.re,placeAt.fv];refine⟨⟨hS p (AZ hp),by omega,by omega⟩,hA,?_⟩;simp only[Hj,B8,hp,D3,AP]
 have h:=FL Z O (by simp[DF,ZG]) z;clear O Z h3;obtain⟨nb,hnb⟩: ∃nb,nb=Hj A k (1 - (j:Int)):=⟨_,rfl⟩;rw[<-hnb] at h;have ab:GQ A k (j+1)=GQ A k j++if 0<=nb then [[.agg [.int .i64 k,.int .i64 nb],.int .i64 (1 - (j:Int))]] else []:=by rw[GQ,<-hnb]
 refine wpIn_seq (wpIn_mono (Q:=λe a w=>e= .normal/\It J base ok0 41 ((Cw A k).length+(GQ A k (j+1)).length) ⟨(38,.im (.bool false))::(DF l A k p j).tm,(DF l A k p j).h,2⟩ a w) ?_ ?_)
 .by_cases hn:0<=nb
  .rw[Ai hn] at ab;have hx:=Yr A (n:=A.Tiles.length) af ac (by rw[<-hnb];exact hn);rw[<-hnb] at hx;refine Ye HV z hY 8 rfl (by decide) (by decide) (by decide) (s1:=⟨(30,.im (.bool true))::(31,.im (.fn (1000000000+l) [] []))::(34,.im (.agg [.int .i64 k,.int .i64 nb]))::(35,.im (.int .i64 (1 - (j:Int))))::(DF l A k p j).tm,(DF l A k p j).h,2⟩) rfl rfl rfl rfl rfl rfl rfl rfl (by simp[D.scs,D.sc]) ⟨hx,rfl⟩ ?_ (by decide) ?_ ?_ h ?_ ?_ (λa w h9=>⟨rfl,by rw[ab,C9,<-Gg];exact h9⟩)
   .intro n e he;simp only[DF,hget] at he;cases h0:(0==n)<;>rw[h0] at he<;>simp only[BX,Bm] at he
    .cases O:(1==n)<;>rw[O] at he<;>simp only[BX,Bm,reduceCtorEq,AI] at he;subst he;rfl
    .simp only[AI] at he;subst he;rfl
   .simp[DF,ZG]
   .simp[DF,ZG]
   .have aj:decide (nb≥0)=true:=by simpa using hn
    have ah:decide (0<=nb)=true:=by simpa using hn
    simp only[vQ];simp(disch:=omega)only[ZA,simprocAttr,DF,sub,aT hn]
   .change KS _ _ _ _ (Av.put _ (some 36) (.im (.bool true)));simp only[vQ];simp(disch:=omega)only[ZA,simprocAttr,DF,sub]
  .rw[Af hn,D2] at ab;refine vI Dd HV z (by decide) (by decide) h (Qx:=BL ⟨(38,.im (.bool false))::(DF l A k p j).tm,(DF l A k p j).h,2⟩) ?_ (λs a w O Z=>⟨rfl,by rw[ab];exact FL Z O (by simp[DF,ZG]) z⟩) (λ_ _ _ _ h=>h.elim) (λ_ _ _ h=>h.elim);simp only[vQ];simp(disch:=omega)only[ZA,simprocAttr,BL,DF,sub,eq_false hn]
 .rintro e a w ⟨rfl,h⟩;simp only[Exit.then];refine vI Dd HV z (by decide) (by decide) h (Qx:=BL (DF l A k p j)) ?_ (λs a w O Z=> ?_) (λ_ _ _ _ h=>h.elim) (λ_ _ _ h=>h.elim)
  .simp(disch:=omega)only[ZA,simprocAttr,BL,DF,sub]
  have h3:=FL Z O (by simp[DF,ZG]) z;simp only[Exit.inBlock,Exit.then];refine vI Dd HV z (by decide) (by decide) h3 (Qx:=BL (DF l A k p (j+1))) ?_ (λs a w O Z=> ?_) (λ_ _ _ _ h=>h.elim) (λ_ _ _ h=>h.elim)
  .simp(disch:=omega)only[ZA,simprocAttr,BL,DF,sub];rw[AD (by omega) (by omega)];omega
  have h6:=FL Z O (by simp[DF,ZG]) z;exact⟨2 - (j+1),by omega,j+1,by omega,rfl,h6⟩
def yO:D->Option Ad
 | .fn g [] [.ref ds]=>if g=234 then Ad.d ds else none
 |_=>none
def jB: ∀d b,yO d=some b->Le d (.fn 234 [] [.ref (Ad.c b)]):=by
 intro d b h;unfold yO at h;split at h
 .rename_i g ds;split at h
  .rename_i z;subst z;refine WV ?_;exact⟨WK (Ad.d_le _ _ h).leP,trivial⟩
  .cases h
 .cases h
def yP(b:Ad):yO (.fn 234 [] [.ref (Ad.c b)])=some b:=by
 simp only[yO,BI,Ad.d_c]
def nbrs.rc:D->Option (Ad):=yO
def nbrs.re:Ad->D:=λa=>D.fn 234 [] [.ref (Ad.c a)]
def nbrs.rle: ∀d b,nbrs.rc d=some b->Le d (nbrs.re b):=jB
def nbrs.fv(a:Ad):Ad:=(λa=>a) a
def nbrs.row:A7:=vK (b1 (qR Ad.d_le)) (RK.mk nbrs.rc nbrs.re nbrs.rle) (λa=>True) nbrs.fv
def nbrs.q:=AY (R:=nbrs.row) rfl
def nbrs.ok:AC 219 nbrs.row:=by
 refine vw tN Tryz.func219 ?_;intro a z;simp only[Tryz.f219];simp only[ZA,simprocAttr,nbrs.fv,nbrs.rc];exact .inl (yP a)
def Qs0(s:Az)(a:Ad):Prop:=Ct s/\Il s a/\a.Tiles.length<=1000000/\ ∀x∈a.Tiles,HE x.At
def Jw(s:Az)(a:Ad):List D->List Ag
 |[.agg [.int .i64 k,.int .i64 m],.int .i64 d]=>if 0<Km s (G1 a k) d (G1 a m) then [⟨k,m,Km s (G1 a k) d (G1 a m)⟩] else []
 |_=>[]
def EY(s:Az)(a:Ad)(i:Nat):List Ag:=((Cw a a.Tiles.length).take i).flatMap (Jw s a)
def TA(s:Az)(a:Ad):EY s a (Cw a a.Tiles.length).length=F6 s a a.Tiles.length:=by
 rw[EY,IS];have z: ∀k j,(GQ a k j).flatMap (Jw s a)=Kl s a k j:=by
  intro k j;induction j with
  |zero=>rfl
  |succ j ih=>
   rw[GQ,ZdP,ih,Kl];congr 1;simp only[WX];split
   .simp only[F3,nQ,D2,Jw]
   .rfl
 have O: ∀n,(Cw a n).flatMap (Jw s a)=F6 s a n:=by
  intro n;induction n with
  |zero=>rfl
  |succ n ih=>rw[Cw,ZdP,ih,z,F6]
 exact O _
def Qv6(s:Az)(a:Ad){i:Nat}{x:List D}(h:(Cw a a.Tiles.length)[i]? =some x):EY s a (i+1)=EY s a i++Jw s a x:=by
 rw[EY,Ip,h,ZdP,EY];simp
def Mq(a:Ad){x:List D}(h:x∈Cw a a.Tiles.length): ∃k m d:Int,x=[.agg [.int .i64 k,.int .i64 m],.int .i64 d]/\0<=k/\k<a.Tiles.length/\0<=m/\m<a.Tiles.length/\0<=d/\d<=1:=by
 have O: ∀(k:Nat) j,j<=2->k<a.Tiles.length->x∈GQ a k j-> ∃k m d:Int,x=[.agg [.int .i64 k,.int .i64 m],.int .i64 d]/\0<=k/\k<a.Tiles.length/\0<=m/\m<a.Tiles.length/\0<=d/\d<=1:=by
  intro k j;induction j with
  |zero=>intro _ _ h;simp[GQ] at h
  |succ j ih=>
   intro hj Z z;rw[GQ,Bn] at z;rcases z with z|z
   .exact ih (by omega) Z z
   .split at z
    .rename_i h0;obtain rfl:=Bz.1 z;exact⟨k,Hj a k (1 - j),1 - j,rfl,by omega,by omega,h0,KH _ _ _,by omega,by omega⟩
    .cases z
 have Q: ∀n,n<=a.Tiles.length->x∈Cw a n-> ∃k m d:Int,x=[.agg [.int .i64 k,.int .i64 m],.int .i64 d]/\0<=k/\k<a.Tiles.length/\0<=m/\m<a.Tiles.length/\0<=d/\d<=1:=by
  intro n;induction n with
  |zero=>intro _ h;simp[Cw] at h
  |succ n ih=>
   intro hn z;rw[Cw,Bn] at z;rcases z with z|z
   .exact ih (by omega) z
   .exact O n 2 (AL _) hn z
 exact Q _ (AL _) h
def Tq(a:Ad): ∀n,(Cw a n).length<=2*n:=by
 have z: ∀k j,(GQ a k j).length<=j:=by
  intro k j;induction j with
  |zero=>simp[GQ]
  |succ j ih=>rw[GQ,C9];split<;>simp<;>omega
 intro n;induction n with
 |zero=>simp[Cw]
 |succ n ih=>have:=z n 2;rw[Cw,C9];omega
def TB(s:Az)(a:Ad)(i:Nat):(EY s a i).length<=i:=by
 induction i with
 |zero=>simp[EY]
 |succ i ih=>
  cases h:(Cw a a.Tiles.length)[i]? with
  |none=>
   have:EY s a (i+1)=EY s a i:=by
    have z:=List.getElem?_eq_none_iff.1 h;rw[EY,EY,DE (by omega),DE z]
   rw[this];omega
  |some x=>
   rw[Qv6 s a h,C9]
   have:(Jw s a x).length<=1:=by
    unfold Jw;split
    .split<;>simp
    .simp
   omega
def mR:Dt:=Q4 [(219,nbrs.row),(108,bond_.row)]
def Ov:JE Tryz.prog mR:=QC _ (by
 intro p hp;simp only[Bh,aO,VJ] at hp;rcases hp with rfl|rfl
 .exact nbrs.ok
 .exact bond_.ok)
def VU: ∀(H:Ap),(H.all λp=> !p.2.2.isView)=true-> ∀o e,hget H o=some e->e.2.isView=false
 |[],_,o,e,h=>by cases h
 |(n,x)::r,z,o,e,h=>by
  simp only[JL,AN,Rl] at z;simp only[hget] at h;cases hq:(n==o)<;>rw[hq] at h
  .exact VU r z.2 o e h
  .simp only[BX,AI] at h;subst h;exact z.1
def vX{P:Program}{V:Dt}{C:AU}{N:Nat}(HM:P.follows .mixedOrders=true)(HV:Hq P V){x y:Code}(O:Eh N x=true)(z:HF x=true){s':Av}{Q:Exit->Act->World->Prop}{s:Av}{a:Act}{w:World}(hc:BF C N s a w)(hk:Dh P V x (BL s') s)(hg:s'.good=true)(Z:C.n0<=s'.nx)
 (hn: ∀a w,BF C N s' a w->y.wpIn Fence.wide 0 P Q a w):(x.seq y).wpIn Fence.wide 0 P Q a w:=by
 refine wpIn_seq (wpIn_mono (lR (ro:=none) HM HV x O z _ s a w hk hc) ?_);intro e a' w' hq;cases e<;>simp only[FQ] at hq<;>simp only[Exit.then]
 .obtain⟨s1,h1,h2⟩:=hq;exact hn _ _ (mM h2 h1 hg Z)
 .obtain⟨_,h,_⟩:=hq;exact h.elim
 .obtain⟨_,h,_⟩:=hq;exact h.elim
def bnds.rc:D->Option (List Ag):=Q6 Ag.d
def bnds.re:(List Ag)->D:=λb=>D.sl false 3 (b.map Ag.c)
def bnds.rle: ∀d b,bnds.rc d=some b->Le d (bnds.re b):=sS Ag.d_le (λ_=>rfl)
def bnds.ar:List PK->Option (Az×Ad):=a2 (kR Az.d) (kR Ad.d)
def bnds.ae(a:Az×Ad):List PK:=[.val (.agg (Az.c a.1)),.val (.agg (Ad.c a.2))]
def bnds.le: ∀z a,bnds.ar z=some a->Ca z (bnds.ae a):=(aU (N8 Az.d_le) (N8 Ad.d_le))
def bnds.fv(a:Az×Ad):List Ag:=(λs a=>F6 s a a.Tiles.length) (a.1) (a.2)
def bnds.row:A7:=Dy (b2 (qR Az.d_le) (qR Ad.d_le)) (RK.mk bnds.rc bnds.re bnds.rle) (λa=>Qs0 a.1 a.2) bnds.fv
def bnds.q:=CP (R:=bnds.row) rfl
def bnds.ok:AC 193 bnds.row:=by
 refine Quy (by kernel_rfl) bnds.le bnds.rle ?_;intro a ad C S vs RR hW af ab;refine PR Tryz.func193 rfl (by simp[bnds.ae]) ?_ hW af ab;clear ab af hW;intro C0 aq w hw ac hc an;have HV:=fU Ov;have ao:C0.ds=[]:=by obtain⟨S0,_,h⟩:=hc;rw[<-h.defers];exact an
 simp only[Tryz.f193] at hc⊢;obtain⟨s,A⟩:=a;obtain⟨h1,h2,h3,h4⟩:=ad;simp only at h1 h2 h3 h4;refine vX Dd HV (by decide) (by decide) (s':=⟨[(3,.ptr 1 0),(2,.ptr 0 0)],[(0,(true,.cells 46 ((Az.c s).map .im))),(1,(true,.cells 49 ((Ad.c A).map .im)))],2⟩) hc ?_ ?_ (by rw[ac];exact CC _) (λa w hc=> ?_)
 .simp only[mR];simp(disch:=omega)only[ZA,simprocAttr,BL,sub,bnds.ae,CR,CQ,BK,entry]
 .simp[ZG,Az.c,Ad.c]
 refine vX Dd HV (by decide) (by decide) (s':=⟨[(5,.ptr 2 0),(3,.ptr 1 0),(2,.ptr 0 0)],[(0,(true,.cells 46 ((Az.c s).map .im))),(1,(true,.cells 49 ((Ad.c A).map .im))),(2,(true,.cells 232 [.im (.sl true 0 [])]))],3⟩) hc ?_ ?_ (by rw[ac];exact CC _) (λa w hc=> ?_)
 .simp only[mR];simp(disch:=omega)only[ZA,simprocAttr,BL,sub]
 .simp[ZG,Az.c,Ad.c]
 refine wpIn_seq ?_;refine vX Dd HV (by decide) (by decide) (s':=⟨[(10,.im (.fn 234 [] [.ref (Ad.c A)])),(5,.ptr 2 0),(3,.ptr 1 0),(2,.ptr 0 0)],[(0,(true,.cells 46 ((Az.c s).map .im))),(1,(true,.cells 49 ((Ad.c A).map .im))),(2,(true,.cells 232 [.im (.sl true 0 [])]))],3⟩) hc ?_ ?_ (by rw[ac];exact CC _) (λa w hc=> ?_)
 .simp only[mR];simp(disch:=omega)only[ZA,simprocAttr,Ad.d,BL,sub,nbrs.q,nbrs.re,nbrs.fv]
 .simp[ZG,Az.c,Ad.c]
 refine wpIn_block (wpIn_mono (TT Dd HV hc (gf:=234) (capt:=[.ref (Ad.c A)]) (xs:=Cw A A.Tiles.length) (Lp (by kernel_rfl)) (Tr A h2.1 h3 h4) (by decide) (by decide) (by decide) (by decide) ?_ (by decide)
  (tm0:=[(10,.im (.fn 234 [] [.ref (Ad.c A)])),(5,.ptr 2 0),(3,.ptr 1 0),(2,.ptr 0 0)]) (hs:=λi=>[(0,(true,.cells 46 ((Az.c s).map .im))),(1,(true,.cells 49 ((Ad.c A).map .im))),(2,(true,.cells 232 [.own 3])),(3,(true,.arr 259 3 ((EY s A i).map Ag.c)))]) (nx:=4) ⟨[(3,none)],?_⟩ rfl (by simp) ?_ ?_ ?_ ?_) ?_)
 .intro x hx;obtain⟨k,m,d,rfl,_⟩:=Mq A hx;rfl
 .simp only[Aq];simp(disch:=omega)only[ZA,simprocAttr,Bs,wQ,EY]
 .simp[CF,AV.bel]
 .intro i hi;simp[ZG,Az.c,Ad.c]
 .intro i o e he hv;rw[VU _ (by rfl) o e he] at hv;cases hv
 .intro i x hx;have au:=TB s A i;have av:=(BW.1 hx).1;have aw:=Tq A A.Tiles.length;obtain⟨k,m,d,rfl,k0,k1,m0,m1,d0,d1⟩:=Mq A (AZ hx);have O:=Qv6 s A hx;simp only[Jw] at O;simp only[mR];simp(disch:=omega)only[ZA,simprocAttr,Oj,Uk,Fv,bond_.q,bond_.re,bond_.fv,AO];refine⟨k0,k1,λp hp=>⟨m0,m1,λq hq=>⟨⟨h1,h2.2 p (AZ hp),⟨d0,by omega⟩,h2.2 q (AZ hq)⟩,λhb=>⟨?_,by omega,[(3,some 6)],?_⟩,λhb=>⟨[],?_⟩⟩⟩⟩
  .intro row Z;obtain rfl:=Bz.1 Z;rfl
  all_goals
   have e1:G1 A k=p.Tile:=by simp[G1,hp]
   have e2:G1 A m=q.Tile:=by simp[G1,hq]
   rw[e1,e2] at O
  .rw[Ai hb] at O;simp only[Aq];simp(disch:=omega)only[ZA,simprocAttr,Bs,O];simp[Ag.c]
  .rw[Af hb,D2] at O;simp only[Aq];simp(disch:=omega)only[ZA,simprocAttr,Bs,O]
 .intro e a' w' hq;cases e<;>simp only[YB] at hq;obtain⟨C2,S2,Dk,rfl,hE,Q,ht,hd,ag,ah,ai,aj,ak⟩:=hq;simp only[Exit.inBlock,Exit.then];have am:a.defers=[]:=by obtain⟨S0,_,h⟩:=hc;rw[h.defers];exact ao
  rw[am] at hd;have hm: ∀a'':Act,a''.defers=C2.ds->vH C0 C2 a''.defers:=λa'' h=> .inr ⟨Dk,by rw[h,<-hE.defers,hd],ag,ah,ai,aj,ak⟩
  refine wpIn_mono (lR (ro:=none) Dd HV _ (by decide) (by decide) (aK Tryz.prog [ResultVar.tmp 4] (BC bnds.rc (bnds.fv (s,A)))) _ a' S2.w ?_ ⟨S2,rfl,hE⟩) ?_
  .simp only[mR];simp(disch:=omega)only[ZA,simprocAttr,bnds.rc,bnds.fv,TA,BC];intro row Z;obtain⟨b,_,rfl⟩:=Bo.1 Z;rfl
  .intro e a'' w'' hq;cases e<;>simp only[FQ] at hq<;>simp only[Pl]
   .obtain⟨s',aa,z⟩:=hq;exact⟨s',C2,aa,z,Q,hm a'' (by obtain⟨S0,_,h⟩:=z;exact h.defers)⟩
   .obtain⟨s',aa,z⟩:=hq;exact aa.elim
   .obtain⟨s',aa,z⟩:=hq;exact⟨s',C2,aa,z,Q,hm a'' (by obtain⟨S0,_,h⟩:=z;exact h.defers)⟩
end Go.Ae
namespace Go.Ae
open Go.Proofs
def L2{n:Nat}{gs:List (List Int)}(z:0<gs.length): ∀(bs:List Ag),(∀b∈bs,0<b.Strength/\b.Strength<=4)-> ∀b∈GM (Rf n gs) bs,K2 gs.length b
 |[],_,b,h=>by simp[GM] at h
 |x::r,hs,b,h=>by
  simp only[GM] at h;have ih:=L2 (n:=n) z r (λy hy=>hs y (BP _ hy)) b;split at h
  .exact ih h
  .rename_i O;rcases Bh.1 h with rfl|h
   .have Q:=Qy8 (n:=n) z x.A;have Z:=Qy8 (n:=n) z x.B;have h3:=hs x (BM ..);exact⟨⟨Q.1,Q.2,Z.1,Z.2⟩,O,h3.1,h3.2⟩
   .exact ih h
def Rc(s:Az)(a:Ad)(t:Int):Bool×Bool:=
 if 64<(D4 a.Tiles.length (F6 s a a.Tiles.length) t).1 then (false,false)
 else (vU (D4 a.Tiles.length (F6 s a a.Tiles.length) t).1 (D4 a.Tiles.length (F6 s a a.Tiles.length) t).2 t,true)
def Qz2(n:Nat)(bs:List Ag)(hn:0<n): ∀k,(∀v∈Cn n bs k,0<=v)/\(Cn n bs k)[0]? =some 0
 |0=>by
  refine⟨λv O=> ?_,Qj8 n 0 hn⟩;obtain⟨i,Q⟩:=JK.1 O;have hl:=(BW.1 Q).1;simp only[Cn] at Q hl;rw[Qj8 n i (by rwa [eT] at hl)] at Q
  have:=Ay Q
  omega
 |k+1=>by
  obtain⟨Z,h2⟩:=Qz2 n bs hn k;simp only[Cn];split
  .rename_i b hb;have z: ∀i:Nat,0<=(Cn n bs k)[i]?.getD 0:=by
    intro i;cases h:(Cn n bs k)[i]? with
    |none=>simp
    |some v=>exact Z v (AZ h)
   have hj: ∀x y v:Int,0<=x->0<=y->0<=v->0<=JC x y v:=by
    intro x y v z hy O;simp only[JC];by_cases h:v=Ew x y
    .rw[Ai h];simp only[EW];split<;>omega
    .rw[Af h];exact O
   have aa: ∀x y:Int,0<=x->0<=y->JC x y 0=0:=by
    intro x y z hy;simp only[JC];by_cases h:(0:Int)=Ew x y
    .rw[Ai h];simp only[Ew] at h;simp only[EW];split at h<;>split<;>omega
    .rw[Af h]
   refine⟨λv O=> ?_,?_⟩
   .obtain⟨u,hu,rfl⟩:=Bo.1 O;exact hj _ _ _ (z _) (z _) (Z u hu)
   .rw[uP,CM,h2,D3,aa _ _ (z _) (z _)]
  .exact⟨Z,h2⟩
def Qab7{n:Nat}{bs:List Ag}{t:Int}(hn:0<n):0<(NS n bs t).length:=by
 have h:=(Qz2 n (G3 t bs) hn (G3 t bs).length).2;obtain⟨z,O⟩:=Qo6 (Cn n (G3 t bs) (G3 t bs).length) n 0 h n (AL _) hn
 have:(((0:Nat):Int)::z)∈NS n bs t:=by simpa only[NS,V2,B8] using O
 exact List.length_pos_of_mem this
def LD{n:Nat}{bs:List Ag}{t:Int}(Q: ∀b∈bs,K2 n b)(hl:bs.length<=1000000)(Z:(D4 n bs t).1<=64):Mv (D4 n bs t):=by
 have aa:=Qpl (Rf n (NS n bs t)) bs;by_cases h0:0<(D4 n bs t).1
 .have O:=L2 (n:=n) (gs:=NS n bs t) (by simp only[D4] at h0;omega) bs (λb z=>⟨(Q b z).2.2.1,(Q b z).2.2.2⟩);refine⟨by omega,Z,by simp only[D4,B8];omega,λb z=> ?_,λb z=> ?_,λb z=> ?_⟩
  .have:=O b (by simpa only[D4,B8] using z)
   exact this.1
  .have:=O b (by simpa only[D4,B8] using z)
   have:=this.2.2
   omega
  .have:=O b (by simpa only[D4,B8] using z)
   exact this.2.1
 .have hn:bs=[]:=by
   cases bs with
   |nil=>rfl
   |cons b r=>
    exfalso;have h5:=(Q b (BM ..)).1;have h6:=Qab7 (n:=n) (bs:=b::r) (t:=t) (by omega);simp only[D4] at h0;omega
  subst hn;refine⟨by simp only[D4];omega,Z,by simp only[D4,GM];simp,λb z=> ?_,λb z=> ?_,λb z=> ?_⟩<;>(simp[D4,GM] at z)
def stabI.fv(a:Az×Ad×Int):Bool×Bool:=(Rc) (a.1) (a.2.1) (a.2.2)
def stabI.row:A7:=Dy (b3 (qR Az.d_le) (qR Ad.d_le) qI) (r2 rB rB) (λa=>Qs0 a.1 a.2.1/\a.2.1.Tiles.length<=512/\0<=a.2.2/\a.2.2<=1000000) stabI.fv
def stabI.q:=CP (R:=stabI.row) rfl
def stabI.ok:AC 166 stabI.row:=by
 refine Gz (tC bnds.ok (tC contr.ok (tC holds_.ok tN))) Tryz.func166 ?_;intro a z;simp only[Tryz.f166];simp only[ZA,simprocAttr,Ad.d,C3,stabI.fv,bnds.q,bnds.fv,bnds.re,contr.q,contr.fv,holds_.q,holds_.fv,D.sc,D.scs,BC];obtain⟨s,A,t⟩:=a;obtain⟨O,h2,Q,Z⟩:=z;simp only at O h2 Q Z⊢;have hP:=Qro O.1 A A.Tiles.length (AL _);have hL:=tF s A A.Tiles.length;refine⟨O,⟨by omega,λb hb=>(hP b hb).1,by omega⟩,?_⟩;split
 .rename_i h;simp only[Rc];rw[Ai h]
 .rename_i h;refine⟨⟨LD hP (by omega) (by omega),Q,Z⟩,?_⟩;simp only[Rc];rw[Af h]
def QU(s:Az)(a:Ad)(t:Int):Bool×Int:=
 if (DT s && D1 s a)=false then (false,1)
 else if AX t 1 16=false then (false,2)
 else if (Rc s a t).2=false then (false,4) else ((Rc s a t).1,0)
def Qof{s:Az}{a:Ad}(h:(DT s && D1 s a)=true):Qs0 s a/\a.Tiles.length<=512:=by
 rw[AN] at h;have O:=sV h.1;have z:=Kj h.2;refine⟨⟨O,z.1,by omega,λx Q=> ?_⟩,by omega⟩
 have:=(V5 _ _ z.1.1 x Q).1
 simp only[DA,AX,AN,Bq] at this;refine⟨?_,?_,?_,?_⟩<;>omega
def isStab.fv(a:Az×Ad×Int):Bool×Int:=(QU) (a.1) (a.2.1) (a.2.2)
def isStab.row:A7:=Dy (b3 (qR Az.d_le) (qR Ad.d_le) qI) (r2 rB rI) (λa=>Qf a.1) isStab.fv
def isStab.q:=CP (R:=isStab.row) rfl
def isStab.ok:AC 136 isStab.row:=by
 refine Gz (tC ValidAssembly_.ok (tC isTemperature.ok (tC stabI.ok tN))) Tryz.func136 ?_;intro a z;simp only[Tryz.f136];simp only[ZA,simprocAttr,Ad.d,C3,isStab.fv,ValidAssembly_.q,ValidAssembly_.fv,isTemperature.q,isTemperature.fv,stabI.q,stabI.fv,D.sc,D.scs,BC];obtain⟨s,A,t⟩:=a;simp only at z⊢;refine⟨z,?_⟩;split
 .rename_i c1;simp only[QU];rw[Ai c1]
 .rename_i c1;split
  .rename_i O;simp only[QU];rw[Af c1,Ai O]
  .rename_i O;have Z:=Qof (s:=s) (a:=A) (by simpa using c1);have h2:AX t 1 16=true:=by simpa using O
   simp only[AX,AN,Bq] at h2;refine⟨⟨Z.1,Z.2,by omega,by omega⟩,?_⟩;split
   .rename_i Q;simp only[QU];rw[Af c1,Af O,Ai Q]
   .rename_i Q;simp only[QU];rw[Af c1,Af O,Af Q]
def WN(y:AM):Bool:=if y.Seed.Tiles.length=0 then false else ((QU y.Set y.Seed y.Temperature).1 && decide ((QU y.Set y.Seed y.Temperature).2=0))
def validI_.fv(a:AM):Bool:=(WN) a
def validI_.row:A7:=Dy (b1 (qR AM.d_le)) rB (λa=>Qf a.Set) validI_.fv
def validI_.q:=CP (R:=validI_.row) rfl
def validI_.ok:AC 95 validI_.row:=by
 refine Gz (tC isStab.ok tN) Tryz.func95 ?_;intro a z;simp only[Tryz.f95];simp only[ZA,simprocAttr,Ad.d,C3,validI_.fv,isStab.q,isStab.fv,D.sc,D.scs,BC];intro _;by_cases h:a.Seed.Tiles.length=0
 .rw[Ai (by omega)];simp only[WN];rw[Ai h]
 .rw[Af (by omega)];refine⟨z,?_⟩;simp only[WN];rw[Af h];split
  .rename_i c;rw[c,Eg]
  .rename_i c;rw[Gi] at c;rw[c,Gf]
def Gw(m:AE):Bool:=WN m.Big && (WN m.Small && (AX m.Scale 1 4 && (decide (m.Labels.length=m.Big.Set.Tiles.length) && !m.Labels.any (fO m))))
def simI_.fv(a:AE):Bool:=(Gw) a
def simI_.row:A7:=Dy (b1 (qR AE.d_le)) rB (λa=>Qf a.Big.Set/\Qf a.Small.Set) simI_.fv
def simI_.q:=CP (R:=simI_.row) rfl
def simI_.ok:AC 57 simI_.row:=by
 refine Gz (tC validI_.ok (tC blockSizeOk.ok (tC ContVM.ok tN))) Tryz.func57 ?_;intro a z;simp only[Tryz.f57];simp only[ZA,simprocAttr,C3,simI_.fv,validI_.q,validI_.fv,blockSizeOk.q,blockSizeOk.fv,ContVM.q,ContVM.ar,ContVM.fv,D.sc,D.scs,BC];refine⟨z.1,?_⟩;by_cases c1:WN a.Big=true
 case neg=>rw[Af c1];rw[Gi] at c1;simp[Gw,c1]
 rw[Ai c1];refine⟨z.2,?_⟩;by_cases O:WN a.Small=true
 case neg=>rw[Af O];rw[Gi] at O;simp[Gw,O]
 rw[Ai O];by_cases Q:AX a.Scale 1 4=true
 case neg=>rw[Af Q];rw[Gi] at Q;simp[Gw,Q]
 rw[Ai Q];intro _ _;by_cases Z:a.Labels.length=a.Big.Set.Tiles.length
 .rw[Af (by omega)];simp[Gw,c1,O,Q,Z]
 .rw[Ai (by omega)];simp[Gw,Z]
def lL(m:AE)(a:Ad):Int:=if Gw m=false then 1 else if (DT m.Big.Set && D1 m.Big.Set a)=false then 1 else 0
def simCode_.fv(a:AE×Ad):Int:=(lL) (a.1) (a.2)
def simCode_.row:A7:=Dy (b2 (qR AE.d_le) (qR Ad.d_le)) rI (λa=>Qf a.1.Big.Set/\Qf a.1.Small.Set) simCode_.fv
def simCode_.q:=CP (R:=simCode_.row) rfl
def simCode_.ok:AC 28 simCode_.row:=by
 refine Gz (tC simI_.ok (tC ValidAssembly_.ok tN)) Tryz.func28 ?_;intro a z;simp only[Tryz.f28];simp(disch:=omega)only[ZA,simprocAttr,Ad.d,C3,simCode_.fv,simI_.q,simI_.fv,ValidAssembly_.q,ValidAssembly_.fv,D.sc,D.scs,BC];refine⟨z,?_⟩;by_cases c1:Gw a.1=true
 case neg=>rw[Af c1];rw[Gi] at c1;simp[lL,c1]
 rw[Ai c1];refine⟨z.1,?_⟩;have O: ¬Gw a.1=false:=by simp[c1]
 by_cases Q:(DT a.1.Big.Set && D1 a.1.Big.Set a.2)=false
 .rw[Ai Q];simp only[lL];rw[Af O,Ai Q]
 .rw[Af Q];simp only[lL];rw[Af O,Af Q]
def Qv9(S:Nat->Bool)(nm:List Int): ∀(bs:List Ag),CG S (GM nm bs)=CG S (HB nm bs)
 |[]=>rfl
 |b::r=>by
  have ih:=Qv9 S nm r;simp only[GM,HB];split
  .exact ih
  .simp only[CG,ih];congr 1;obtain⟨x,hx⟩: ∃x,x=BQ nm b.A:=⟨_,rfl⟩;obtain⟨y,hy⟩: ∃y,y=BQ nm b.B:=⟨_,rfl⟩;rw[<-hx,<-hy];by_cases h:x<y
   .have O:EW x y=x:=Ai h;have z:Ew x y=y:=Af (by omega);rw[O,z]
   .have O:EW x y=y:=Af h;by_cases Z:y<x
    .have z:Ew x y=x:=Ai Z;rw[O,z];by_cases Q:S x.toNat=S y.toNat
     .rw[Ai Q,Ai Q.symm]
     .rw[Af Q,Af (E5 Q)]
    .have z:Ew x y=y:=Af Z
     have:x=y:=by omega
     rw[O,z,this]
def Qxe(n:Nat)(nm:List Int)(bs:List Ag)(t:Int)(k:Nat):WP n (GM nm bs) t k↔WP n (HB nm bs) t k:=by
 simp only[WP,Qv9]
def UT{s:Az}{A:Ad}{t:Int}(h:Qs0 s A)(hl:A.Tiles.length<=512)(ht:0<=t):
 (Rc s A t).2=decide ((fY s A t).2=0)/\((Rc s A t).2=true->(Rc s A t).1=(fY s A t).1):=by
 have Q:=Qro h.1 A A.Tiles.length (AL _);have hL:=tF s A A.Tiles.length;obtain⟨bs,hbs⟩: ∃bs,bs=F6 s A A.Tiles.length:=⟨_,rfl⟩;obtain⟨n,hn⟩: ∃n,n=A.Tiles.length:=⟨_,rfl⟩;rw[<-hn] at Q hL hbs hl;rw[<-hbs] at Q hL;have Z:(D4 n bs t).1=(Co n bs t).1:=rfl;simp only[Rc,fY,<-hn,<-hbs,Z];by_cases O:64<(Co n bs t).1
 .rw[Ai O,Ai O];exact⟨rfl,λh=>by cases h⟩
 .rw[Af O,Af O];have z:=LD (t:=t) Q (by omega) (by rw[Z];omega);have hh:=Qtt (n:=(Co n bs t).1.toNat) (bs:=(D4 n bs t).2) (t:=t) (λb hb=>by
   have:=z.2.2.2.1 b hb
   have h0:=z.1;rw[Z] at this h0;rw[Int.toNat_of_nonneg h0];exact this) z.2.2.2.2.1 ht
  by_cases h2:(Co n bs t).1<2
  .rw[Ai h2];refine⟨rfl,λ_=> ?_⟩;simp only[vU];rw[show (Co n bs t).1.toNat - 1=0 by omega];rfl
  .rw[Af h2];refine⟨rfl,λ_=> ?_⟩;obtain⟨p1,p2⟩:=MT (t:=t) Q (by omega) (by omega) (by omega);have hw:=(Qzk (n:=(Co n bs t).1) (bs:=(Co n bs t).2) p1 p2 ht ((Co n bs t).1 - 1).toNat (by omega) (by omega)).2;have aa:=hh ((Co n bs t).1.toNat - 1) (by omega);simp only[vU];rw[show ((Co n bs t).1 - 1).toNat=(Co n bs t).1.toNat - 1 by omega] at hw⊢;have e:WP (Co n bs t).1.toNat (D4 n bs t).2 t ((Co n bs t).1.toNat - 1)↔WP (Co n bs t).1.toNat (Co n bs t).2 t ((Co n bs t).1.toNat - 1):=Qxe _ _ _ _ _;rw[Xi,aa,e,<-hw];simp
def PP(y:AM):WN y=GV y:=by
 simp only[WN,GV];by_cases h:y.Seed.Tiles.length=0
 .rw[Ai h]
  have:y.Seed.Tiles=[]:=wC h
  simp[this]
 .rw[Af h];have he:y.Seed.Tiles.isEmpty=false:=by
   rw[ZeL];intro h2;rw[h2] at h;simp at h
  by_cases c1:(DT y.Set && D1 y.Set y.Seed)=false
  .have e:QU y.Set y.Seed y.Temperature=(false,1):=Ai c1;rw[e];rw[Zec] at c1;rcases c1 with c1|c1<;>simp[c1]
  .have z:=c1;rw[Im] at c1;have hp:=Qof (s:=y.Set) (a:=y.Seed) c1;rw[AN] at c1;rw[c1.1,c1.2,he];by_cases O:AX y.Temperature 1 16=false
   .have e:QU y.Set y.Seed y.Temperature=(false,2):=(Af z).trans (Ai O);rw[e,O];simp
   .have Z:=O;rw[Im] at O;have ht:0<=y.Temperature:=by simp only[AX,AN,Bq] at O;omega
    obtain⟨q1,q2⟩:=UT hp.1 hp.2 ht;rw[O];simp only[US,Xn,Eg];by_cases Q:(Rc y.Set y.Seed y.Temperature).2=false
    .have e:QU y.Set y.Seed y.Temperature=(false,4):=(Af z).trans ((Af Z).trans (Ai Q));rw[e,<-q1,Q];simp
    .have e:QU y.Set y.Seed y.Temperature=((Rc y.Set y.Seed y.Temperature).1,0):=(Af z).trans ((Af Z).trans (Af Q));rw[Im] at Q;rw[e,<-q1,Q,q2 Q];simp
def YP(m:AE):Gw m=Fk m:=by
 simp only[Gw,Fk,PP,NX];congr 3;congr 1;rw[Xi];simp[fO]
def C6(s:AM)(a:Ad)(o:A9):Bool:=DA o.At && (AX o.Tile 0 (s.Set.Tiles.length - 1) && (decide (BO (λx=>decide (x.At=o.At)) 0 a.Tiles<0) && decide (s.Temperature<=JD s.Set a o.At o.Tile 4)))
def Qt2(m:AE)(b:Ad):Prop:=NX m=true/\AX m.Scale 1 4=true/\m.Small.Set.Tiles.length<=160/\D1 m.Big.Set b=true/\m.Labels.length=m.Big.Set.Tiles.length
def Qgc{m:AE}{b:Ad}(h:Qt2 m b):De none (BD m b).1.Tiles=true:=by
 obtain⟨z,O,Q,Z,h5⟩:=h;have hf:=(Kj Z).1.1;simp only[BD];cases hq:G4 m b b.Tiles.length with
 |none=>rfl
 |some o=>exact (tW z O Q hf _ o hq).1
def tR{m:AE}(h:Fk m=true):DT m.Small.Set=true:=by
 simp only[Fk,GV,AN] at h;exact h.2.1.1
def Qws{s:Az}(h:DT s=true):s.Tiles.length<=160:=by
 simp only[DT,AN,Bq,AX] at h;omega
def OS{s:Az}(h:DT s=true):0<s.Tiles.length:=by
 simp only[DT,AN,Bq,AX] at h;omega
def sQ{m:AE}(h:Fk m=true){b:Ad}(z:D1 m.Big.Set b=true):Qt2 m b:=by
 have O:=Qws (tR h);simp only[Fk,AN,Bq] at h;exact⟨h.2.2.2.2,h.2.2.1,O,z,h.2.2.2.1⟩
def Qma{a:Ad}{p:Ac}(h:BO (λx=>decide (x.At=p)) 0 a.Tiles<0): ∀x∈a.Tiles,x.At≠p:=by
 intro x Q O;rcases ZE (λx=>decide (x.At=p)) a.Tiles 0 with ⟨z,_⟩|⟨i,y,_,Z,_⟩
 .have:=aL.1 z x Q
  simp[O] at this
 .omega
def TQ{m:AE}{a:Ad}{o:A9}(z:DT m.Big.Set=true)(Z:D1 m.Big.Set a=true)(hc:C6 m.Big a o=true)(hl:a.Tiles.length<500):D1 m.Big.Set (Cg a o.At o.Tile)=true:=by
 simp only[C6,AN,Bq] at hc;obtain⟨c1,Q,c3,_⟩:=hc;simp only[D1,AN,Bq,CA] at Z⊢;obtain⟨⟨f1,f2⟩,f3⟩:=Z;rw[Ra];have hw:AX o.Tile 0 159=true:=by
  have:=Qws z
  simp only[AX,AN,Bq] at Q⊢;omega
 refine⟨⟨Qki c1 hw _ _ f1 (λ_ h=>by cases h) (Qma c3),by simp only[tY];omega⟩,λx O=> ?_⟩;rcases (uG o.At o.Tile x a.Tiles).1 O with rfl|O
 .exact Q
 .exact f3 x O
def Qrw{m:AE}{a:Ad}(h0:0<m.Small.Set.Tiles.length)(O:NX m=true): ∀k o,G4 m a k=some o-> ∀x∈o.Tiles,FX m.Small.Set x.Tile
 |0,o,h=>by
  simp only[G4,AI] at h;subst h;intro x Z;cases Z
 |k+1,o,h=>by
  simp only[G4] at h;split at h
  .rename_i x o' Z ho;have ih:=Qrw h0 O k o' ho;simp only[aE] at h;split at h
   .obtain rfl:=Ay h;exact ih
   .rename_i c0;split at h
    .cases h
    .split at h
     .obtain rfl:=Ay h;rw[Ra];intro z Q;rcases (uG _ _ z _).1 Q with rfl|Q
      .simp only;cases hl:m.Labels[x.Tile.toNat]? with
       |none=>
        simp only[wH];exact⟨Oe _,by omega⟩
       |some lb=>
        simp only[NX,CA,AX,AN,Bq] at O
        have:=O lb (AZ hl)
        rw[hl,AP] at c0;exact⟨by simp only[AP];omega,by simp only[AP];omega⟩
      .exact ih z Q
     .obtain rfl:=Ay h;exact ih
  .exact Qrw h0 O k o h
def MG{m:AE}{a:Ad}(hs:Fk m=true)(z:D1 m.Big.Set a=true):Il m.Small.Set (BD m a).1:=by
 have hp:=sQ hs z;refine⟨Qgc hp,?_⟩;simp only[BD];cases hq:G4 m a a.Tiles.length with
 |none=>intro x O;cases O
 |some o=>exact Qrw (OS (tR hs)) hp.1 _ o hq
def Qr0{m:AE}{a:Ad}(h:Qt2 m a):(BD m a).1.Tiles.length<=a.Tiles.length:=by
 obtain⟨z,O,Q,Z,h5⟩:=h;simp only[BD];cases hq:G4 m a a.Tiles.length with
 |none=>exact CC _
 |some o=>exact (tW z O Q (Kj Z).1.1 _ o hq).2
end Go.Ae
