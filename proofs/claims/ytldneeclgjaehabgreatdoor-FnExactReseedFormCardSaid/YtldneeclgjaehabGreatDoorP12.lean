/- Lemmas. Conditions: none. -/
import Derived.Test.YtldneeclgjaehabGreatDoorP11
import Derived.Sort.LoopGhostIn
set_option linter.all false
set_option maxHeartbeats 8000000
set_option maxRecDepth 100000
namespace Go.Ae
open Go
def It{ι:Type}(J:ι->(Nat->Prop)->World->Prop)(base:Nat)(ok0:Nat->Prop)(N:Nat)(i:ι)(s:Az)(a:Act)(w:World):Prop:=
 ∃C S Pr,S.w=w/\Dt C N s S a/\a.defers=[]/\base<=w.heap.size/\J i Pr w/\(∀b,Gd S b->base<=b/\ ¬Pr b)/\(∀b,S.ok b->ok0 b\/ ¬Pr b)
def Z9{ι:Type}(J:ι->(Nat->Prop)->World->Prop)(base:Nat)(ok0:Nat->Prop)(N:Nat)(i:ι)(Q:CI):Exit->Act->World->Prop
 | .normal,a,w=> ∃s,Q .normal s/\It J base ok0 N i s a w
 | .exit id,a,w=> ∃s,Q (.exit id) s/\It J base ok0 N i s a w
 | .ret,a,w=> ∃s,Q .ret s/\It J base ok0 N i s a w
 |_,_,_=>False
def NL{ok ok':Nat->Prop}{hp hp':Nat->Option Obj}: ∀(ds:List D) (vs:LVa),ds.all D.scs=true->rdl ok hp ds vs->rdl ok' hp' ds vs
 |[],_,_,hd=>by simpa only[rdl] using hd
 |d::ds,vs,h,hd=>by
  simp only[rdl,E6,B1] at hd h⊢;obtain⟨v,r,rfl,z,O⟩:=hd;exact⟨v,r,rfl,XR h.1 z,NL ds r h.2 O⟩
section
variable {ι:Type}{P:Program}{V:DK}{N:Nat}{J:ι->(Nat->Prop)->World->Prop}{base:Nat}{ok0:Nat->Prop}{i j:ι}
def Uc(hA:Re base J){s:Az}{a:Act}{w:World}(h:It J base ok0 N i s a w):
 ∃C1,Cg C1 N s a w/\ ∀s' a' w',Cg C1 N s' a' w'->It J base ok0 N i s' a' w':=by
 obtain⟨C,S,Pr,rfl,hE,hd,hb,hJ,z,aa⟩:=h;obtain⟨Q,ab⟩:=hA i Pr _ hJ;refine⟨Hz S s.nx a.defers,⟨S,rfl,aP hE⟩,?_⟩;rintro s' a' w' ⟨S',rfl,O⟩;have hs:S.w.heap.size<=S'.w.heap.size:=O.wf.size;refine⟨_,S',Pr,rfl,O,O.defers.trans hd,Gu hb hs,ab _ hs O.wf.os O.wf.tape O.wf.output O.wf.dr ?_,λb h=> ?_,λb h=> ?_⟩
 .rintro b (h|h)
  .exact dC O.wf b (Q b h) (λZ=>(z b Z).2 h)
  .exact dC O.wf b auOm (λZ=>by have:=(z b Z).1;omega)
 .rcases pZ O.wf h with q|q
  .exact⟨Gu hb q,λhp=>by have:=Q b hp;omega⟩
  .exact z b q
 .rcases dR O.wf h with q|q|q
  .exact aa b q
  .exact .inr λhp=>by have:=Q b hp;omega
  .exact .inr (z b q).2
def CL(s':Az):CI
 | .normal,s=>sub s s'
 | .exit _,_=>False
 | .ret,_=>False
def Zp(s':Az)(p q:Prop)(id:Nat):CI
 | .normal,s=>p/\sub s s'
 | .exit k,s=>k=id/\q/\sub s s'
 | .ret,_=>False
def Qy6(HM:P.follows .mixedOrders=true)(HV:IE P V)(hA:Re base J){c:Code}(hc:EW N c=true)(O:II c=true){Q:CI}{s:Az}{a:Act}{w:World}(hk:DH P V c Q s)(h:It J base ok0 N i s a w):
 c.wpIn Fence.wide 0 P (Z9 J base ok0 N i Q) a w:=by
 obtain⟨C1,aa,z⟩:=Uc hA h;refine wpIn_mono (wG (ro:=none) HM HV c hc O Q s a w hk aa) ?_;intro e a' w' hq;cases e<;>simp only[H3] at hq<;>simp only[Z9]
 .obtain⟨s',Z,h2⟩:=hq;exact⟨s',Z,z _ _ _ h2⟩
 .obtain⟨s',Z,h2⟩:=hq;exact⟨s',Z,z _ _ _ h2⟩
 .obtain⟨s',Z,h2⟩:=hq;exact⟨s',Z,z _ _ _ h2⟩
def K3{s s':Az}{a:Act}{w:World}(h:It J base ok0 N i s a w)(hs:sub s s')(hg:s'.good=true)(hA:Re base J):It J base ok0 N i s' a w:=by
 obtain⟨C,S,Pr,rfl,hE,hd,hb,hJ,z,aa⟩:=h;have hm:Ss S S.w:=⟨BN _,rfl,rfl,rfl,BN _,λ_ _=>rfl,λ_ _=>rfl⟩;have Q:Dt (Hz S 0 a.defers) N s S a:=yI hE hm 0 (Ir _) a a.defers rfl rfl;obtain⟨O,ab⟩:=hA i Pr _ hJ;obtain⟨S',hw,Z⟩:=qE ⟨S,rfl,Q⟩ hs hg (Ir _);refine⟨_,S',Pr,hw,Z,hd,hb,hJ,λb h=> ?_,λb h=> ?_⟩
 .rcases pZ Z.wf h with q|q
  .exact⟨Gu hb q,λhp=>by have:=O b hp;omega⟩
  .exact z b q
 .rcases dR Z.wf h with q|q|q
  .exact aa b q
  .exact .inr λhp=>by have:=O b hp;omega
  .exact .inr (z b q).2
def Y0(HM:P.follows .mixedOrders=true)(HV:IE P V)(hA:Re base J){x y:Code}(hc:EW N x=true)(z:II x=true){Qx:CI}{Q:Exit->Act->World->Prop}{s:Az}{a:Act}{w:World}(h:It J base ok0 N i s a w)(hk:DH P V x Qx s)
 (hn: ∀s a w,Qx .normal s->It J base ok0 N i s a w->y.wpIn Fence.wide 0 P Q a w)(he: ∀id s a w,Qx (.exit id) s->It J base ok0 N i s a w->Q (.exit id) a w)(hr: ∀s a w,Qx .ret s->It J base ok0 N i s a w->Q .ret a w):(x.seq y).wpIn Fence.wide 0 P Q a w:=by
 refine wpIn_seq (wpIn_mono (Qy6 HM HV hA hc z hk h) ?_);intro e a' w' hq;cases e<;>simp only[Z9] at hq<;>simp only[Exit.then]
 .obtain⟨s',O,Z⟩:=hq;exact hn s' _ _ O Z
 .obtain⟨s',O,Z⟩:=hq;exact he _ s' _ _ O Z
 .obtain⟨s',O,Z⟩:=hq;exact hr s' _ _ O Z
def Qs5(HM:P.follows .mixedOrders=true)(HV:IE P V)(hA:Re base J){x:Code}(hc:EW N x=true)(z:II x=true){Qx:CI}{Q:Exit->Act->World->Prop}{s:Az}{a:Act}{w:World}(h:It J base ok0 N i s a w)(hk:DH P V x Qx s)
 (hn: ∀s a w,Qx .normal s->It J base ok0 N i s a w->Q .normal a w)(he: ∀id s a w,Qx (.exit id) s->It J base ok0 N i s a w->Q (.exit id) a w)(hr: ∀s a w,Qx .ret s->It J base ok0 N i s a w->Q .ret a w):x.wpIn Fence.wide 0 P Q a w:=by
 refine wpIn_mono (Qy6 HM HV hA hc z hk h) ?_;intro e a' w' hq;cases e<;>simp only[Z9] at hq
 .obtain⟨s',O,Z⟩:=hq;exact hn s' _ _ O Z
 .obtain⟨s',O,Z⟩:=hq;exact he _ s' _ _ O Z
 .obtain⟨s',O,Z⟩:=hq;exact hr s' _ _ O Z
def Ud(HV:IE P V)(hA:Re base J){ops:Array Oper}{seg more:List Oper}{i0:Nat}(Z:ops.toList.drop i0=seg++more)(hd:Mr N seg=true)(O:dJ ops=true){K:Az->Prop}{Q:Exit->Act->World->Prop}{l2:List Nat}{s:Az}{a:Act}{w:World}
 (hk:Qk P V (IG ops seg) K s)(h:It J base ok0 N i s a w)(hK: ∀s a w,K s->It J base ok0 N i s a w->wpOpsIn Fence.wide 0 P ops Q l2 a w):wpOpsIn Fence.wide 0 P ops Q (List.range' i0 seg.length++l2) a w:=by
 obtain⟨C1,aa,z⟩:=Uc hA h;exact Qha (ro:=none) O (K:=λa w=> ∃s,K s/\It J base ok0 N i s a w) (λa w ⟨s,h1,h2⟩=>hK s a w h1 h2) _ _ _
  (Qpr HV (Q:=λ_ a w=> ∃s,K s/\It J base ok0 N i s a w) (λs a w h1 h2=>⟨s,h1,z _ _ _ h2⟩) seg more i0 Z hd s a w hk aa)
def SU{C:Bn}{s:Az}{S:AD}{a:Act}(z:Dt C N s S a){dst:Option Nat}(hd: ∀d,dst=some d->d<N){x:AV}{v:Value}(hx:x.nms=[])(Z:Ab S x v):Dt C N (s.put dst x) S (a.put dst v):=by
 have Q:(s.put dst x).h=s.h:=by cases dst<;>rfl
 have O:(s.put dst x).nx=s.nx:=by cases dst<;>rfl
 refine⟨z.wf,λn=>by rw[Q];exact z.h n,?_,?_,?_,?_,?_,by rw[O];exact z.n0,z.pre⟩
 .intro t;rw[WL,Qfo (λd h=>by rw[z.size];exact hd d h)];split
  .exact Z
  .exact z.tm t
 .intro t;rw[WL,O];split
  .intro m hm;rw[hx] at hm;cases hm
  .exact z.nmT t
 .rw[Q,O];exact z.nmH
 .cases dst<;>simp[Act.put,z.size]
 .cases dst<;>simp[Act.put,z.defers]
def Ue(hA:Re base J){ai:ι->List D->ι->Prop}{l:Nat}(hY: ∀i x j args Pr W,ai i x j->(∀ok hp,rdl ok hp x args.toList)->J i Pr W->YieldAt Fence.wide 0 P l args W λe W'=>e= .returned (.bool true)/\ ∃Pr',J j Pr' W'/\KO ok0 Pr W Pr' W')
 {ops:Array Oper}{k:Nat}{rest:List Nat}{o:Oper}{c:Call}{f:Operand}{x:List D}{s:Az}{a:Act}{w:World}{Q:Exit->Act->World->Prop}(ho:ops[k]? =some o)(hw:Region.wanted o (yielded ops a.tmps)=true)(aq:o.op= .call c)(af:c.callee= .value f)
 (hf:Ay s.tm f= .im (.fn (1000000000+l) [] []))(ab:Ey s.tm c.args.toList=x.map .im)(av:x.all D.scs=true)(hx:ai i x j)(ao: ∀n e,hget s.h n=some e->e.2.isView=false)(hd: ∀d,o.dst=some d->d<N)(h:It J base ok0 N i s a w)
 (ac: ∀a' w',It J base ok0 N j (s.put o.dst (.im (.bool true))) a' w'->wpOpsIn Fence.wide 0 P ops Q rest a' w'):wpOpsIn Fence.wide 0 P ops Q (k::rest) a w:=by
 obtain⟨C,S,Pr,rfl,Z,ag,hb,hJ,aa,ad⟩:=h;obtain⟨aw,_⟩:=hA i Pr _ hJ;have an:a.eval f= .func (.yield l) #[] #[]:=by
  have h1:=RW Z f;rw[hf] at h1;simp only[Ab,rd,rdl] at h1;obtain⟨A,B,h2,h3,h4⟩:=h1;have e1:A= #[]:=by simpa using h3
  have e2:B= #[]:=by simpa using h4
  rw[h2,e1,e2];congr 1;unfold eV;rw[Be auOm,zM]
 have hcl:AX S (x.map .im) (c.args.map a.eval).toList:=by
  rw[<-ab,Xj];exact Qpe _ (λy _=>RW Z y)
 have au: ∀ok hp,rdl ok hp x (c.args.map a.eval).toList:=λok hp=>by
  have h1:=(Js _ _).1 hcl;exact NL _ _ av h1
 obtain⟨fn,aj,ak,bo,hy,hR⟩:=hY i x j (c.args.map a.eval) Pr S.w hx au hJ;simp only[wpOpsIn,ho,hw,Ff];refine⟨λ_ _=>trivial,?_⟩;have ah:(o.semAt Fence.wide.round a.eval).run P S.w= .ok (.round l fn aj ak bo) S.w:=by
  show (execOp a.eval o).run P S.w=_;simp only[execOp,aq,resolve,af,an,Sem.run_bind];simp[Deferred.ofValue,invoke,hy]
 rw[ah,Oper.uponIn_round];refine⟨λh=>(by cases h),RoundIn.mono hR ?_⟩;rintro e W' ⟨rfl,Pr',am,O⟩;have hm:Ss S W':=by
  refine⟨O.size,O.os,O.tape,O.output,O.dr,λb z=> ?_,?_⟩
  .rcases ad b z with q|q
   .exact O.same b (Z.wf.oks b z) (.inr q)
   .exact O.same b (Z.wf.oks b z) (.inl q)
  .rintro b ⟨o',e,lc,q1,q2,rfl⟩;have hl:=Z.wf.loc o' e lc q1 q2;cases hmu:e.1 with
   |true=>exact O.same _ hl.1 (.inl (aa _ ⟨o',e,lc,q1,hmu,q2,rfl⟩).2)
   |false=>
    have h5:=hl.2;rw[hmu] at h5;simp only[BL,HS] at h5;rcases h5 with h5|h5
    .rcases ad _ h5 with q|q
     .exact O.same _ hl.1 (.inr q)
     .exact O.same _ hl.1 (.inl q)
    .rw[ao o' e (by rw[<-Z.h o'];exact q1)] at h5;cases h5
 refine ac _ _ ⟨_,{S with w:=W'},Pr',rfl,SU (yI Z hm 0 (Ir _) a [] ag rfl) hd rfl (by simp only[Ab,rd]),?_,Gu hb O.size,am,λb z=> ?_,λb z=> ?_⟩
 .cases o.dst<;>exact ag
 .have q:=aa b z;have q2:=(Yu Z.wf z).1;refine⟨q.1,λhp=> ?_⟩;rcases O.pr b hp with r|r
  .exact q.2 r
  .omega
 .rcases ad b z with q|q
  .exact .inl q
  .refine .inr λhp=> ?_
   have q2:=Z.wf.oks b z;rcases O.pr b hp with r|r
   .exact q r
   .omega
def ZB(HV:IE P V)(Z:Re base J){ac:ι->List D->ι->Prop}{l:Nat}(hY: ∀i x j args Pr W,ac i x j->(∀ok hp,rdl ok hp x args.toList)->J i Pr W->YieldAt Fence.wide 0 P l args W λe W'=>e= .returned (.bool true)/\ ∃Pr',J j Pr' W'/\KO ok0 Pr W Pr' W')
 {id:Nat}{ops:Array Oper}(k1:Nat)(av:List.range ops.size=List.range' 0 (ops.toList.take k1).length++(k1::(List.range' (k1+1) (ops.toList.drop (k1+1)).length++[])))(ad:Mr N (ops.toList.take k1)=true)(af:Mr N (ops.toList.drop (k1+1))=true)(z:dJ ops=true)
 {o:Oper}{c:Call}{f:Operand}{x:List D}(s1:Az){s s2:Az}{a:Act}{w:World}{Q:Exit->Act->World->Prop}{g t:Nat}(ho:ops[k1]? =some o)(aq:o.op= .call c)(aa:c.callee= .value f)(aj:o.guard=some (g,true))(ak:(ops[g]?).bind (·.dst)=some t)(ai:AF s1.tm t= .im (.bool true))
 (hf:Ay s1.tm f= .im (.fn (1000000000+l) [] []))(O:Ey s1.tm c.args.toList=x.map .im)(au:x.all D.scs=true)(hx:ac i x j)(ao: ∀n e,hget s1.h n=some e->e.2.isView=false)(hd: ∀d,o.dst=some d->d<N)(ag:s1.good=true)(ah:s2.good=true)
 (h:It J base ok0 N i s a w)(am:Qk P V (IG ops (ops.toList.take k1)) (λs=>sub s s1) s)(an:Qk P V (IG ops (ops.toList.drop (k1+1))) (λs=>sub s s2) (s1.put o.dst (.im (.bool true))))
 (ab: ∀a w,It J base ok0 N j s2 a w->Q .normal a w):(Code.region id ops false).wpIn Fence.wide 0 P Q a w:=by
 refine wpIn_region ?_;rw[av];refine Ud HV Z (seg:=ops.toList.take k1) (more:=ops.toList.drop k1) (by rw[Mv,HT]) ad z am h (λs a w h1 h2=> ?_);have h3:=K3 h2 h1 ag Z;have hw:Region.wanted o (yielded ops a.tmps)=true:=by
  obtain⟨C,S,Pr,_,hE,_⟩:=h3;have hy:=Qqk hE ak ai;simp[Region.wanted,aj,hy]
 refine Ue Z hY ho hw aq aa hf O au hx ao hd h3 (λa w h4=> ?_);refine Ud HV Z (seg:=ops.toList.drop (k1+1)) (more:=[]) (by rw[C3]) af z an h4 (λs a w h5 h6=> ?_);exact ab a w (K3 h6 h5 ah Z)
end
def mI{P:Program}{gf:Nat}{fn:Func}{c:Code}(hf:P.funcs[gf]? =some fn)(Q:fn.body=some c)(aa:fn.results.toList=[]){capt:List D}{X:Giv}(ag:capt.length+1<=fn.ntmps)
 (hk: ∀(l:Nat) (J:X.I->(Nat->Prop)->World->Prop) (base:Nat) (ok0:Nat->Prop),Re base J->
  (∀i x j args Pr W,X.step i x j->(∀ok hp,rdl ok hp x args.toList)->J i Pr W->YieldAt Fence.wide 0 P l args W λe W'=>e= .returned (.bool true)/\ ∃Pr',J j Pr' W'/\KO ok0 Pr W Pr' W')->
  ∀a w,It J base ok0 fn.ntmps X.i0 ⟨entry 0 (.im (.fn (1000000000+l) [] [])::capt.map .im),[],0⟩ a w->c.wpIn Fence.wide 0 P (λe a w=> ∃i,X.fin i/\Z9 J base ok0 fn.ntmps i (λe _=>e= .normal\/e= .ret) e a w) a w):R3 P gf capt X:=by
 intro C S vs l J hW Z hA hY ⟨Pr,hJ⟩;refine callsIn_wide.1 (callsIn_of_wp_marks (n:=0) hf Q trivial (wpIn_mono (hk l J S.w.heap.size S.ok hA hY _ _ ?_) ?_))
 .let C0:Bn:=⟨S.w,λ_=>False,S.ok,0,λ_=>none,λ_=>none,[]⟩
  let S0:AD:=⟨λ_=>none,S.ok,λ_=>none,S.w⟩
  have ad:Wf C0 S0:=⟨rfl,rfl,rfl,BN _,BN _,λ_ _ _=>rfl,λ_ Q=>Q,λ_ Q=> .inl Q,hW.oks,λo e O=>(by cases O),λo e l O=>(by cases O),λo o' e e' l l' O=>(by cases O),hW.glN λ_ h=>h.elim⟩;have z:AX S0 (.im (.fn (1000000000+l) [] [])::capt.map .im) (#[Value.func (.yield l) #[] #[]]++vs).toList:=by
   rw[rO];refine⟨_,_,rfl,?_,(Js _ _).2 Z⟩;simp only[Ab,rd,rdl];refine⟨#[],#[],?_,rfl,rfl⟩;unfold eV;rw[Be auOm,zM]
  have af:(#[Value.func (.yield l) #[] #[]]++vs).size=capt.length+1:=by
   have:=Jz _ _ z
   simp at this⊢;omega
  obtain⟨As,hAs⟩: ∃As,As= #[Value.func (.yield l) #[] #[]]++vs:=⟨_,rfl⟩;rw[<-hAs] at z af⊢;refine⟨C0,S0,Pr,rfl,⟨ad,λn=>rfl,?_,?_,?_,?_,rfl,Ir _,λo ho=>absurd ho (zN _)⟩,rfl,BN _,hJ,λb ⟨o,e,lc,h1,_⟩=>(by cases h1),λb Q=> .inl Q⟩
  .intro t;have h1:=pD (S:=S0) _ As.toList 0 t z;simp only[Ir,Ff,YE] at h1
   have:({tmps:=As++Array.replicate (fn.ntmps - As.size) undef,defers:=[]}:Act).eval (.tmp t)=(As.toList[t]?).getD undef:=by
    simp only[Act.eval,Ec,rK,YM];by_cases ht:t<As.size
    .simp[ht]
    .simp only[ht,HS]
     have:As[t]? =none:=eH auOm
     simp only[YK,this]
     split<;>rfl
   rw[this];exact h1
  .intro t m hm
   have:=pL _ 0 t m hm
   simp only[Av,AV.nms,E5] at this;have h0: ∀(q:List D),Av (q.map .im)=[]:=by
    intro q;induction q with
    |nil=>rfl
    |cons d r ih=>simp only[Br,Av,AV.nms,ih,C3]
   rw[h0] at this;cases this
  .intro n e O;cases O
  .simp;omega
 .intro e a w O;obtain⟨i,hi,O⟩:=O;have fin:(∃s,It J S.w.heap.size S.ok fn.ntmps i s a w)->LeavesInM Fence.wide 0 P fn a.tmps (λe W'=> ∃v Pr i,e= .returned v/\X.fin i/\J i Pr W') a.defers .returning w:=by
   rintro⟨s,C1,S1,Pr1,rfl,hE,hd,_,ac,_,_⟩;rw[hd];simp only[LeavesInM,LeavesIn];obtain⟨v,ab,_⟩:=wA (P:=P) hE (fn:=fn) (xs:=[]) (by rw[aa];rfl);exact⟨v,ab,v,Pr1,i,rfl,hi,ac⟩
  cases e<;>simp only[Z9] at O<;>simp only[bodyPostM]
  .obtain⟨s,_,h⟩:=O;exact fin ⟨s,h⟩
  .obtain⟨s,h,_⟩:=O;rcases h with h|h<;>cases h
  .obtain⟨s,_,h⟩:=O;exact fin ⟨s,h⟩
def it_fn{P:Program}{gf:Nat}{fn:Func}{c:Code}(hf:P.funcs[gf]? =some fn)(hb:fn.body=some c)(O:fn.results.toList=[]){capt:List D}{xs:List (List D)}(z:capt.length+1<=fn.ntmps)
 (hk: ∀(l:Nat) (J:Nat->(Nat->Prop)->World->Prop) (base:Nat) (ok0:Nat->Prop),Re base J->
  (∀i x j args Pr W,(xs[i]? =some x/\j=i+1)->(∀ok hp,rdl ok hp x args.toList)->J i Pr W->YieldAt Fence.wide 0 P l args W λe W'=>e= .returned (.bool true)/\ ∃Pr',J j Pr' W'/\KO ok0 Pr W Pr' W')->
  ∀a w,It J base ok0 fn.ntmps 0 ⟨entry 0 (.im (.fn (1000000000+l) [] [])::capt.map .im),[],0⟩ a w->c.wpIn Fence.wide 0 P (Z9 J base ok0 fn.ntmps xs.length (λe _=>e= .normal\/e= .ret)) a w):KM P gf capt xs:=
 mI (X:=mG xs) hf hb O z λl J base ok0 Z hY a w Q=>wpIn_mono (hk l J base ok0 Z hY a w Q) λ_ _ _ h=>⟨xs.length,rfl,h⟩
end Go.Ae
namespace Go.Ae
open Go Go.Proofs
def yP:DK:=tab [(200,step_.row),(199,placeAt.row)]
def PR:Ls Tryz.prog yP:=X2 _ (by
 intro p hp;simp only[B0,D2,Rl] at hp;rcases hp with rfl|rfl
 .exact step_.ok
 .exact placeAt.ok)
def HP(a:AP)(k:Nat):Nat->List (List D)
 |0=>[]
 |j+1=>HP a k j++if 0<=HZ a k (1 - j) then [[.agg [.int .i64 k,.int .i64 (HZ a k (1 - j))],.int .i64 (1 - j)]] else []
def CR(a:AP):Nat->List (List D)
 |0=>[]
 |k+1=>CR a k++HP a k 2
def Qzu(a:AP): ∀(n k:Nat),k<=n-> ∃r,CR a n=CR a k++r
 |0,k,h=>⟨[],by obtain rfl:k=0:=auOm
                rw[C3]⟩
 |n+1,k,h=>by
  by_cases z:k=n+1
  .subst z;exact⟨[],by rw[C3]⟩
  .obtain⟨r,O⟩:=Qzu a n k auOm;exact⟨r++HP a n 2,by rw[CR,O,Gk]⟩
def Qv3(a:AP)(k:Nat): ∀(n j:Nat),j<=n-> ∃r,HP a k n=HP a k j++r
 |0,j,h=>⟨[],by obtain rfl:j=0:=auOm
                rw[C3]⟩
 |n+1,j,h=>by
  by_cases z:j=n+1
  .subst z;exact⟨[],by rw[C3]⟩
  .obtain⟨r,O⟩:=Qv3 a k n j auOm;rw[HP,O];exact⟨_,by rw[Gk]⟩
def ZS(a:AP){n k j:Nat}(Q:k<n)(Z:j<2)(h:0<=HZ a k (1 - j)):(CR a n)[(CR a k).length+(HP a k j).length]? =some [.agg [.int .i64 k,.int .i64 (HZ a k (1 - j))],.int .i64 (1 - j)]:=by
 obtain⟨r1,z⟩:=Qzu a n (k+1) Q;obtain⟨r2,O⟩:=Qv3 a k 2 (j+1) auOm;rw[z,CR,O,HP,Bt h,Gk,Gk,Gk,D8 (ZeG _ _),zM,D8 (BN _),YL];rfl
def JX(l:Nat)(A:AP)(k:Nat):Az:=⟨[(11,.im (.int .i64 k)),(10,.im (.int .i64 A.Tiles.length)),(9,.im (.sl false 3 (A.Tiles.map AA.c))),(1,.im (.ref (AP.c A))),(0,.im (.fn (1000000000+l) [] []))],[],0⟩
def DW(l:Nat)(A:AP)(k:Nat)(p:AA)(j:Nat):Az:=⟨[(18,.im (.int .i64 j)),(17,.im (.int .i64 2)),(16,.own 1),(4,.ptr 0 0),(3,.im (.int .i64 k)),(11,.im (.int .i64 k)),(10,.im (.int .i64 A.Tiles.length)),(9,.im (.sl false 3 (A.Tiles.map AA.c))),(1,.im (.ref (AP.c A))),(0,.im (.fn (1000000000+l) [] []))],
 [(0,(true,.cells 137 [.im (.int .i64 p.At.X),.im (.int .i64 p.At.Y),.im (.int .i64 p.Tile)])),(1,(true,.arr 2 1 (([1,0]:Cz).map Aj)))],2⟩
def U7(A:AP)(hA:FF none A.Tiles=true)(hl:A.Tiles.length<=1000000)(hS: ∀x∈A.Tiles,Sb x.At):KM Tryz.prog 198 [.ref (AP.c A)] (CR A A.Tiles.length):=by
 refine it_fn Tryz.func198 rfl rfl auSi ?_;intro l J base ok0 z hY a w ad;have HV:=yR PR;obtain⟨R,hR⟩: ∃R,R=Z9 J base ok0 Tryz.f198.ntmps (CR A A.Tiles.length).length (λe _=>e= .normal\/e= .ret):=⟨_,rfl⟩;rw[<-hR];simp only[Tryz.f198] at ad⊢;refine Y0 Fc HV z auDe auDe ad (Qx:=CL (JX l A 0)) ?_ (λs a w O Z=> ?_) (λ_ _ _ _ h=>h.elim) (λ_ _ _ h=>h.elim)
 .simp(disch:=omega)only[ZA,simprocAttr,CL,JX,entry,AP.c,sub];exact λ_=>trivial
 have h3:=K3 Z O (by simp[JX,ZG]) z;clear O Z ad;refine wpIn_block (wpIn_loop_ghost (λm a w=> ∃k,k<=A.Tiles.length/\m=A.Tiles.length - k/\It J base ok0 41 (CR A k).length (JX l A k) a w) A.Tiles.length ⟨0,Ir _,rfl,h3⟩ ?_);clear h3;rintro m a w ⟨k,hk,hm,h⟩;refine Y0 Fc HV z auDe auDe h (Qx:=CL ⟨(12,.im (.bool (decide (k<A.Tiles.length))))::(JX l A k).tm,[],0⟩) ?_ (λs a w O Z=> ?_) (λ_ _ _ _ h=>h.elim) (λ_ _ _ h=>h.elim)
 .simp(disch:=omega)only[ZA,simprocAttr,CL,JX,sub]
 have h3:=K3 Z O (by simp[JX,ZG]) z;clear O Z h;refine Y0 Fc HV z auDe auDe h3 (Qx:=Zp (JX l A k) (k<A.Tiles.length) (¬k<A.Tiles.length) 0) ?_ (λs a w O Z=> ?_) (λid s a w O Z=> ?_) (λ_ _ _ h=>h.elim)
 .simp(disch:=omega)only[ZA,simprocAttr,Zp,JX,sub]
  split<;>assumption
 rotate_left
 .obtain⟨rfl,h4,O⟩:=O;have ag:k=A.Tiles.length:=auOm;subst ag;simp only[Exit.then,Exit.inBlock,Ff,hR,Z9];exact⟨s,.inl trivial,Z⟩
 obtain⟨af,O⟩:=O;have h:=K3 Z O (by simp[JX,ZG]) z;clear O Z h3;obtain⟨p,hp⟩: ∃p,A.Tiles[k]? =some p:=⟨_,Bk af⟩;refine wpIn_seq (wpIn_block ?_);refine Y0 Fc HV z auDe auDe h (Qx:=CL ⟨(4,.ptr 0 0)::(3,.im (.int .i64 k))::(JX l A k).tm,[(0,(true,.cells 137 [.im (.int .i64 p.At.X),.im (.int .i64 p.At.Y),.im (.int .i64 p.Tile)]))],1⟩) ?_ (λs a w O Z=> ?_) (λ_ _ _ _ h=>h.elim) (λ_ _ _ h=>h.elim)
 .simp(disch:=omega)only[ZA,simprocAttr,CL,JX,sub];refine⟨af,λq hq=> ?_⟩;rw[hp] at hq;obtain rfl:=AJ hq;exact⟨rfl,rfl,rfl⟩
 have h3:=K3 Z O (by simp[JX,ZG]) z;clear O Z h;refine Y0 Fc HV z auDe auDe h3 (Qx:=CL (DW l A k p 0)) ?_ (λs a w O Z=> ?_) (λ_ _ _ _ h=>h.elim) (λ_ _ _ h=>h.elim)
 .simp(disch:=omega)only[ZA,simprocAttr,CL,JX,DW,sub]
 have h:=K3 Z O (by simp[DW,ZG]) z;clear O Z h3;refine wpIn_block (wpIn_loop_ghost (λm a w=> ∃j,j<=2/\m=2 - j/\It J base ok0 41 ((CR A k).length+(HP A k j).length) (DW l A k p j) a w) 2 ⟨0,Ir _,rfl,h⟩ ?_);clear h;rintro m2 a w ⟨j,hj,ai,h⟩;refine Y0 Fc HV z auDe auDe h (Qx:=CL ⟨(19,.im (.bool (decide (j<2))))::(DW l A k p j).tm,(DW l A k p j).h,2⟩) ?_ (λs a w O Z=> ?_) (λ_ _ _ _ h=>h.elim) (λ_ _ _ h=>h.elim)
 .simp(disch:=omega)only[ZA,simprocAttr,CL,DW,sub];rw[decide_eq_decide];omega
 have h3:=K3 Z O (by simp[DW,ZG]) z;clear O Z h;refine Y0 Fc HV z auDe auDe h3 (Qx:=Zp (DW l A k p j) (j<2) (¬j<2) 2) ?_ (λs a w O Z=> ?_) (λid s a w O Z=> ?_) (λ_ _ _ h=>h.elim)
 .simp(disch:=omega)only[ZA,simprocAttr,Zp,DW,sub]
  split<;>assumption
 rotate_left
 .obtain⟨rfl,h4,O⟩:=O;have ac:j=2:=auOm;subst ac;have h5:=K3 Z O (by simp[DW,ZG]) z;simp only[Exit.then,Exit.inBlock,Ff];refine Qs5 Fc HV z auDe auDe h5 (Qx:=CL (JX l A (k+1))) ?_ (λs a w O Z=> ?_) (λ_ _ _ _ h=>h.elim) (λ_ _ _ h=>h.elim)
  .simp(disch:=omega)only[ZA,simprocAttr,CL,DW,JX,sub];rw[AG auOm auOm];omega
  have h6:=K3 Z O (by simp[JX,ZG]) z;refine⟨A.Tiles.length - (k+1),auOm,k+1,auOm,rfl,?_⟩;rw[CR,BR];exact h6
 obtain⟨ac,O⟩:=O;have h:=K3 Z O (by simp[DW,ZG]) z;clear O Z h3;refine wpIn_seq (wpIn_block ?_);refine Y0 Fc HV z auDe auDe h (Qx:=CL ⟨(6,.im (.int .i64 (1 - (j:Int))))::(DW l A k p j).tm,(DW l A k p j).h,2⟩) ?_ (λs a w O Z=> ?_) (λ_ _ _ _ h=>h.elim) (λ_ _ _ h=>h.elim)
 .simp(disch:=omega)only[ZA,simprocAttr,DW];refine⟨auOm,ac,λrow aa=> ?_⟩;rcases (show j=0\/j=1 by omega) with rfl|rfl
  .simp only[ES,AS] at aa;subst aa;simp(disch:=omega)only[ZA,simprocAttr,CL,sub]
   try rfl
  .simp only[Su,ES,AS] at aa;subst aa;simp(disch:=omega)only[ZA,simprocAttr,CL,sub]
   try rfl
 have h3:=K3 Z O (by simp[DW,ZG]) z;clear O Z h;refine Y0 Fc HV z auDe auDe h3 (Qx:=CL ⟨(7,.im (.int .i64 (HZ A k (1 - (j:Int)))))::(6,.im (.int .i64 (1 - (j:Int))))::(DW l A k p j).tm,(DW l A k p j).h,2⟩) ?_ (λs a w O Z=> ?_) (λ_ _ _ _ h=>h.elim) (λ_ _ _ h=>h.elim)
 .simp only[yP];simp(disch:=omega)only[ZA,simprocAttr,AP.d,CL,DW,sub,step_.q,step_.re,step_.fv,placeAt.q,placeAt.re,placeAt.fv];refine⟨⟨hS p (Bj hp),auOm,auOm⟩,hA,?_⟩;simp only[HZ,Cp,hp,CT,BG]
 have h:=K3 Z O (by simp[DW,ZG]) z;clear O Z h3;obtain⟨nb,hnb⟩: ∃nb,nb=HZ A k (1 - (j:Int)):=⟨_,rfl⟩;rw[<-hnb] at h;have ab:HP A k (j+1)=HP A k j++if 0<=nb then [[.agg [.int .i64 k,.int .i64 nb],.int .i64 (1 - (j:Int))]] else []:=by rw[HP,<-hnb]
 refine wpIn_seq (wpIn_mono (Q:=λe a w=>e= .normal/\It J base ok0 41 ((CR A k).length+(HP A k (j+1)).length) ⟨(38,.im (.bool false))::(DW l A k p j).tm,(DW l A k p j).h,2⟩ a w) ?_ ?_)
 .by_cases hn:0<=nb
  .rw[Bt hn] at ab;have hx:=ZS A (n:=A.Tiles.length) af ac (by rw[<-hnb];exact hn);rw[<-hnb] at hx;refine ZB HV z hY 8 rfl auDe auDe auDe (s1:=⟨(30,.im (.bool true))::(31,.im (.fn (1000000000+l) [] []))::(34,.im (.agg [.int .i64 k,.int .i64 nb]))::(35,.im (.int .i64 (1 - (j:Int))))::(DW l A k p j).tm,(DW l A k p j).h,2⟩) rfl rfl rfl rfl rfl rfl rfl rfl (by simp[D.scs,D.sc]) ⟨hx,rfl⟩ ?_ auDe ?_ ?_ h ?_ ?_ (λa w h9=>⟨rfl,by rw[ab,BR,<-Rj];exact h9⟩)
   .intro n e he;simp only[DW,hget] at he;cases h0:(0==n)<;>rw[h0] at he<;>simp only[IJ,Dw] at he
    .cases O:(1==n)<;>rw[O] at he<;>simp only[IJ,Dw,reduceCtorEq,AS] at he;subst he;rfl
    .simp only[AS] at he;subst he;rfl
   .simp[DW,ZG]
   .simp[DW,ZG]
   .have aj:decide (nb≥0)=true:=by simpa using hn
    have ah:decide (0<=nb)=true:=by simpa using hn
    simp only[yP];simp(disch:=omega)only[ZA,simprocAttr,DW,sub,Rg hn]
   .change Qk _ _ _ _ (Az.put _ (some 36) (.im (.bool true)));simp only[yP];simp(disch:=omega)only[ZA,simprocAttr,DW,sub]
  .rw[Be hn,C3] at ab;refine Qs5 Fc HV z auDe auDe h (Qx:=CL ⟨(38,.im (.bool false))::(DW l A k p j).tm,(DW l A k p j).h,2⟩) ?_ (λs a w O Z=>⟨rfl,by rw[ab];exact K3 Z O (by simp[DW,ZG]) z⟩) (λ_ _ _ _ h=>h.elim) (λ_ _ _ h=>h.elim);simp only[yP];simp(disch:=omega)only[ZA,simprocAttr,CL,DW,sub,eq_false hn]
 .rintro e a w ⟨rfl,h⟩;simp only[Exit.then];refine Qs5 Fc HV z auDe auDe h (Qx:=CL (DW l A k p j)) ?_ (λs a w O Z=> ?_) (λ_ _ _ _ h=>h.elim) (λ_ _ _ h=>h.elim)
  .simp(disch:=omega)only[ZA,simprocAttr,CL,DW,sub]
  have h3:=K3 Z O (by simp[DW,ZG]) z;simp only[Exit.inBlock,Exit.then];refine Qs5 Fc HV z auDe auDe h3 (Qx:=CL (DW l A k p (j+1))) ?_ (λs a w O Z=> ?_) (λ_ _ _ _ h=>h.elim) (λ_ _ _ h=>h.elim)
  .simp(disch:=omega)only[ZA,simprocAttr,CL,DW,sub];rw[AG auOm auOm];omega
  have h6:=K3 Z O (by simp[DW,ZG]) z;exact⟨2 - (j+1),auOm,j+1,auOm,rfl,h6⟩
def nbD:D->Option AP
 | .fn g [] [.ref ds]=>if g=198 then AP.d ds else none
 |_=>none
def mQ: ∀d b,nbD d=some b->Le d (.fn 198 [] [.ref (AP.c b)]):=by
 intro d b h;unfold nbD at h;split at h
 .rename_i g ds;split at h
  .rename_i hg;subst hg;refine Xc ?_;exact⟨jS (AP.d_le _ _ h).leP,trivial⟩
  .cases h
 .cases h
def nbD_c(b:AP):nbD (.fn 198 [] [.ref (AP.c b)])=some b:=by
 simp only[nbD,Ff,AP.d_c]
def nbrs.rc:D->Option (AP):=nbD
def nbrs.re:AP->D:=λa=>D.fn 198 [] [.ref (AP.c a)]
def nbrs.rle: ∀d b,nbrs.rc d=some b->Le d (nbrs.re b):=mQ
def nbrs.fv(a:AP):AP:=(λa=>a) a
def nbrs.row:A8:=vK (b1 (qR AP.d_le)) (RK.mk nbrs.rc nbrs.re nbrs.rle) (λa=>True) nbrs.fv
def nbrs.q:=Bg (R:=nbrs.row) rfl
def nbrs.ok:AE 185 nbrs.row:=by
 refine vw tN Tryz.func185 ?_;intro a z;simp only[Tryz.f185];simp only[ZA,simprocAttr,nbrs.fv,nbrs.rc];exact .inl (nbD_c a)
def Qs0(s:AI)(a:AP):Prop:=FB s/\M2 s a/\a.Tiles.length<=1000000/\ ∀x∈a.Tiles,Sb x.At
def Ki(s:AI)(a:AP):List D->List Ak
 |[.agg [.int .i64 k,.int .i64 m],.int .i64 d]=>if 0<WR s (H6 a k) d (H6 a m) then [⟨k,m,WR s (H6 a k) d (H6 a m)⟩] else []
 |_=>[]
def Gc(s:AI)(a:AP)(i:Nat):List Ak:=((CR a a.Tiles.length).take i).flatMap (Ki s a)
def UR(s:AI)(a:AP):Gc s a (CR a a.Tiles.length).length=GM s a a.Tiles.length:=by
 rw[Gc,Pj];have z: ∀k j,(HP a k j).flatMap (Ki s a)=Li s a k j:=by
  intro k j;induction j with
  |zero=>rfl
  |succ j ih=>
   rw[HP,Xk,ih,Li];congr 1;simp only[Y4];split
   .simp only[Lz,L0,C3,Ki]
   .rfl
 have O: ∀n,(CR a n).flatMap (Ki s a)=GM s a n:=by
  intro n;induction n with
  |zero=>rfl
  |succ n ih=>rw[CR,Xk,ih,z,GM]
 exact O _
def Qv6(s:AI)(a:AP){i:Nat}{x:List D}(h:(CR a a.Tiles.length)[i]? =some x):Gc s a (i+1)=Gc s a i++Ki s a x:=by
 rw[Gc,FL,h,Xk,Gc];simp
def Nz(a:AP){x:List D}(h:x∈CR a a.Tiles.length): ∃k m d:Int,x=[.agg [.int .i64 k,.int .i64 m],.int .i64 d]/\0<=k/\k<a.Tiles.length/\0<=m/\m<a.Tiles.length/\0<=d/\d<=1:=by
 have O: ∀(k:Nat) j,j<=2->k<a.Tiles.length->x∈HP a k j-> ∃k m d:Int,x=[.agg [.int .i64 k,.int .i64 m],.int .i64 d]/\0<=k/\k<a.Tiles.length/\0<=m/\m<a.Tiles.length/\0<=d/\d<=1:=by
  intro k j;induction j with
  |zero=>intro _ _ h;simp[HP] at h
  |succ j ih=>
   intro hj Z z;rw[HP,BO] at z;rcases z with z|z
   .exact ih auOm Z z
   .split at z
    .rename_i h0;obtain rfl:=Am.1 z;exact⟨k,HZ a k (1 - j),1 - j,rfl,auOm,auOm,h0,LM _ _ _,auOm,auOm⟩
    .cases z
 have Q: ∀n,n<=a.Tiles.length->x∈CR a n-> ∃k m d:Int,x=[.agg [.int .i64 k,.int .i64 m],.int .i64 d]/\0<=k/\k<a.Tiles.length/\0<=m/\m<a.Tiles.length/\0<=d/\d<=1:=by
  intro n;induction n with
  |zero=>intro _ h;simp[CR] at h
  |succ n ih=>
   intro hn z;rw[CR,BO] at z;rcases z with z|z
   .exact ih auOm z
   .exact O n 2 (BN _) hn z
 exact Q _ (BN _) h
def U6(a:AP): ∀n,(CR a n).length<=2*n:=by
 have z: ∀k j,(HP a k j).length<=j:=by
  intro k j;induction j with
  |zero=>simp[HP]
  |succ j ih=>rw[HP,BR];split<;>simp<;>omega
 intro n;induction n with
 |zero=>simp[CR]
 |succ n ih=>have:=z n 2;rw[CR,BR];omega
def US(s:AI)(a:AP)(i:Nat):(Gc s a i).length<=i:=by
 induction i with
 |zero=>simp[Gc]
 |succ i ih=>
  cases h:(CR a a.Tiles.length)[i]? with
  |none=>
   have:Gc s a (i+1)=Gc s a i:=by
    have z:=List.getElem?_eq_none_iff.1 h;rw[Gc,Gc,BE auOm,BE z]
   rw[this];omega
  |some x=>
   rw[Qv6 s a h,BR]
   have:(Ki s a x).length<=1:=by
    unfold Ki;split
    .split<;>simp
    .simp
   omega
def qK:DK:=tab [(185,nbrs.row),(186,bond_.row)]
def P1:Ls Tryz.prog qK:=X2 _ (by
 intro p hp;simp only[B0,D2,Rl] at hp;rcases hp with rfl|rfl
 .exact nbrs.ok
 .exact bond_.ok)
def sS: ∀(H:An),(H.all λp=> !p.2.2.isView)=true-> ∀o e,hget H o=some e->e.2.isView=false
 |[],_,o,e,h=>by cases h
 |(n,x)::r,z,o,e,h=>by
  simp only[E6,B1,lB] at z;simp only[hget] at h;cases hq:(n==o)<;>rw[hq] at h
  .exact sS r z.2 o e h
  .simp only[IJ,AS] at h;subst h;exact z.1
def Qxh{P:Program}{V:DK}{C:Bn}{N:Nat}(HM:P.follows .mixedOrders=true)(HV:IE P V){x y:Code}(O:EW N x=true)(z:II x=true){s':Az}{Q:Exit->Act->World->Prop}{s:Az}{a:Act}{w:World}(hc:Cg C N s a w)(hk:DH P V x (CL s') s)(hg:s'.good=true)(Z:C.n0<=s'.nx)
 (hn: ∀a w,Cg C N s' a w->y.wpIn Fence.wide 0 P Q a w):(x.seq y).wpIn Fence.wide 0 P Q a w:=by
 refine wpIn_seq (wpIn_mono (wG (ro:=none) HM HV x O z _ s a w hk hc) ?_);intro e a' w' hq;cases e<;>simp only[H3] at hq<;>simp only[Exit.then]
 .obtain⟨s1,h1,h2⟩:=hq;exact hn _ _ (qE h2 h1 hg Z)
 .obtain⟨_,h,_⟩:=hq;exact h.elim
 .obtain⟨_,h,_⟩:=hq;exact h.elim
def bnds.rc:D->Option (List Ak):=Xt Ak.d
def bnds.re:(List Ak)->D:=λb=>D.sl false 3 (b.map Ak.c)
def bnds.rle: ∀d b,bnds.rc d=some b->Le d (bnds.re b):=Wy Ak.d_le (λ_=>rfl)
def bnds.ar:List PK->Option (AI×AP):=a2 (kR AI.d) (kR AP.d)
def bnds.ae(a:AI×AP):List PK:=[.val (.agg (AI.c a.1)),.val (.agg (AP.c a.2))]
def bnds.le: ∀z a,bnds.ar z=some a->Cu z (bnds.ae a):=(eM (JS AI.d_le) (JS AP.d_le))
def bnds.fv(a:AI×AP):List Ak:=(λs a=>GM s a a.Tiles.length) (a.1) (a.2)
def bnds.row:A8:=Cj (b2 (qR AI.d_le) (qR AP.d_le)) (RK.mk bnds.rc bnds.re bnds.rle) (λa=>Qs0 a.1 a.2) bnds.fv
def bnds.q:=Cf (R:=bnds.row) rfl
def bnds.ok:AE 157 bnds.row:=by
 refine Quy (by kernel_rfl) bnds.le bnds.rle ?_;intro a ad C S vs RR hW af ab;refine QR Tryz.func157 rfl (by simp[bnds.ae]) ?_ hW af ab;clear ab af hW;intro C0 aq w hw ac hc an;have HV:=yR P1;have ao:C0.ds=[]:=by obtain⟨S0,_,h⟩:=hc;rw[<-h.defers];exact an
 simp only[Tryz.f157] at hc⊢;obtain⟨s,A⟩:=a;obtain⟨h1,h2,h3,h4⟩:=ad;simp only at h1 h2 h3 h4;refine Qxh Fc HV auDe auDe (s':=⟨[(3,.ptr 1 0),(2,.ptr 0 0)],[(0,(true,.cells 41 ((AI.c s).map .im))),(1,(true,.cells 44 ((AP.c A).map .im)))],2⟩) hc ?_ ?_ (by rw[ac];exact Ir _) (λa w hc=> ?_)
 .simp only[qK];simp(disch:=omega)only[ZA,simprocAttr,CL,sub,bnds.ae,D7,D6,Cm,entry]
 .simp[ZG,AI.c,AP.c]
 refine Qxh Fc HV auDe auDe (s':=⟨[(5,.ptr 2 0),(3,.ptr 1 0),(2,.ptr 0 0)],[(0,(true,.cells 41 ((AI.c s).map .im))),(1,(true,.cells 44 ((AP.c A).map .im))),(2,(true,.cells 158 [.im (.sl true 0 [])]))],3⟩) hc ?_ ?_ (by rw[ac];exact Ir _) (λa w hc=> ?_)
 .simp only[qK];simp(disch:=omega)only[ZA,simprocAttr,CL,sub]
 .simp[ZG,AI.c,AP.c]
 refine wpIn_seq ?_;refine Qxh Fc HV auDe auDe (s':=⟨[(10,.im (.fn 198 [] [.ref (AP.c A)])),(5,.ptr 2 0),(3,.ptr 1 0),(2,.ptr 0 0)],[(0,(true,.cells 41 ((AI.c s).map .im))),(1,(true,.cells 44 ((AP.c A).map .im))),(2,(true,.cells 158 [.im (.sl true 0 [])]))],3⟩) hc ?_ ?_ (by rw[ac];exact Ir _) (λa w hc=> ?_)
 .simp only[qK];simp(disch:=omega)only[ZA,simprocAttr,AP.d,CL,sub,nbrs.q,nbrs.re,nbrs.fv]
 .simp[ZG,AI.c,AP.c]
 refine wpIn_block (wpIn_mono (Vi Fc HV hc (gf:=198) (capt:=[.ref (AP.c A)]) (xs:=CR A A.Tiles.length) (pR (by kernel_rfl)) (U7 A h2.1 h3 h4) auDe auDe auDe auDe ?_ auDe
  (tm0:=[(10,.im (.fn 198 [] [.ref (AP.c A)])),(5,.ptr 2 0),(3,.ptr 1 0),(2,.ptr 0 0)]) (hs:=λi=>[(0,(true,.cells 41 ((AI.c s).map .im))),(1,(true,.cells 44 ((AP.c A).map .im))),(2,(true,.cells 158 [.own 3])),(3,(true,.arr 196 3 ((Gc s A i).map Ak.c)))]) (nx:=4) ⟨[(3,none)],?_⟩ rfl auSi ?_ ?_ ?_ ?_) ?_)
 .intro x hx;obtain⟨k,m,d,rfl,_⟩:=Nz A hx;rfl
 .simp only[AB];simp(disch:=omega)only[ZA,simprocAttr,Bf,lA,Gc]
 .simp[Cl,AV.bel]
 .intro i hi;simp[ZG,AI.c,AP.c]
 .intro i o e he hv;rw[sS _ (by rfl) o e he] at hv;cases hv
 .intro i x hx;have au:=US s A i;have av:=(Bi.1 hx).1;have aw:=U6 A A.Tiles.length;obtain⟨k,m,d,rfl,k0,k1,m0,m1,d0,d1⟩:=Nz A (Bj hx);have O:=Qv6 s A hx;simp only[Ki] at O;simp only[qK];simp(disch:=omega)only[ZA,simprocAttr,SB,aU,Hc,bond_.q,bond_.re,bond_.fv,AL];refine⟨k0,k1,λp hp=>⟨m0,m1,λq hq=>⟨⟨h1,h2.2 p (Bj hp),⟨d0,auOm⟩,h2.2 q (Bj hq)⟩,λhb=>⟨?_,auOm,[(3,some 6)],?_⟩,λhb=>⟨[],?_⟩⟩⟩⟩
  .intro row Z;obtain rfl:=Am.1 Z;rfl
  all_goals
   have e1:H6 A k=p.Tile:=by simp[H6,hp]
   have e2:H6 A m=q.Tile:=by simp[H6,hq]
   rw[e1,e2] at O
  .rw[Bt hb] at O;simp only[AB];simp(disch:=omega)only[ZA,simprocAttr,Bf,O];simp[Ak.c]
  .rw[Be hb,C3] at O;simp only[AB];simp(disch:=omega)only[ZA,simprocAttr,Bf,O]
 .intro e a' w' hq;cases e<;>simp only[nV] at hq;obtain⟨C2,S2,Dk,rfl,hE,Q,ht,hd,ag,ah,ai,aj,ak⟩:=hq;simp only[Exit.inBlock,Exit.then];have am:a.defers=[]:=by obtain⟨S0,_,h⟩:=hc;rw[h.defers];exact ao
  rw[am] at hd;have hm: ∀a'':Act,a''.defers=C2.ds->Qrj C0 C2 a''.defers:=λa'' h=> .inr ⟨Dk,by rw[h,<-hE.defers,hd],ag,ah,ai,aj,ak⟩
  refine wpIn_mono (wG (ro:=none) Fc HV _ auDe auDe (eC Tryz.prog [ResultVar.tmp 4] (AO bnds.rc (bnds.fv (s,A)))) _ a' S2.w ?_ ⟨S2,rfl,hE⟩) ?_
  .simp only[qK];simp(disch:=omega)only[ZA,simprocAttr,bnds.rc,bnds.fv,UR,AO];intro row Z;obtain⟨b,_,rfl⟩:=BY.1 Z;rfl
  .intro e a'' w'' hq;cases e<;>simp only[H3] at hq<;>simp only[V5]
   .obtain⟨s',aa,z⟩:=hq;exact⟨s',C2,aa,z,Q,hm a'' (by obtain⟨S0,_,h⟩:=z;exact h.defers)⟩
   .obtain⟨s',aa,z⟩:=hq;exact aa.elim
   .obtain⟨s',aa,z⟩:=hq;exact⟨s',C2,aa,z,Q,hm a'' (by obtain⟨S0,_,h⟩:=z;exact h.defers)⟩
end Go.Ae
namespace Go.Ae
open Go.Proofs
def M3{n:Nat}{gs:List (Cz)}(hg:0<gs.length): ∀(bs:List Ak),(∀b∈bs,0<b.Strength/\b.Strength<=4)-> ∀b∈HL (Sq n gs) bs,L6 gs.length b
 |[],_,b,h=>by simp[HL] at h
 |x::r,hs,b,h=>by
  simp only[HL] at h;have ih:=M3 (n:=n) hg r (λy hy=>hs y (Ah _ hy)) b;split at h
  .exact ih h
  .rename_i z;rcases B0.1 h with rfl|h
   .have O:=Qy8 (n:=n) hg x.A;have Q:=Qy8 (n:=n) hg x.B;have Z:=hs x (CP ..);exact⟨⟨O.1,O.2,Q.1,Q.2⟩,z,Z.1,Z.2⟩
   .exact ih h
def Sl(s:AI)(a:AP)(t:Int):Bool×Bool:=
 if 64<(Ef a.Tiles.length (GM s a a.Tiles.length) t).1 then (false,false)
 else (yU (Ef a.Tiles.length (GM s a a.Tiles.length) t).1 (Ef a.Tiles.length (GM s a a.Tiles.length) t).2 t,true)
def Qz2(n:Nat)(bs:List Ak)(hn:0<n): ∀k,(∀v∈CC n bs k,0<=v)/\(CC n bs k)[0]? =some 0
 |0=>by
  refine⟨λv O=> ?_,Qj8 n 0 hn⟩;obtain⟨i,Q⟩:=JB.1 O;have hl:=(Bi.1 Q).1;simp only[CC] at Q hl;rw[Qj8 n i (by rwa [jF] at hl)] at Q
  have:=AJ Q
  omega
 |k+1=>by
  obtain⟨Z,h2⟩:=Qz2 n bs hn k;simp only[CC];split
  .rename_i b hb;have z: ∀i:Nat,0<=(CC n bs k)[i]?.getD 0:=by
    intro i;cases h:(CC n bs k)[i]? with
    |none=>simp
    |some v=>exact Z v (Bj h)
   have hj: ∀x y v:Int,0<=x->0<=y->0<=v->0<=K5 x y v:=by
    intro x y v z hy O;simp only[K5];by_cases h:v=Fj x y
    .rw[Bt h];simp only[Gb];split<;>omega
    .rw[Be h];exact O
   have aa: ∀x y:Int,0<=x->0<=y->K5 x y 0=0:=by
    intro x y z hy;simp only[K5];by_cases h:(0:Int)=Fj x y
    .rw[Bt h];simp only[Fj] at h;simp only[Gb];split at h<;>split<;>omega
    .rw[Be h]
   refine⟨λv O=> ?_,?_⟩
   .obtain⟨u,hu,rfl⟩:=BY.1 O;exact hj _ _ _ (z _) (z _) (Z u hu)
   .rw[xR,Dp,h2,CT,aa _ _ (z _) (z _)]
  .exact⟨Z,h2⟩
def Qab7{n:Nat}{bs:List Ak}{t:Int}(hn:0<n):0<(OW n bs t).length:=by
 have h:=(Qz2 n (H8 t bs) hn (H8 t bs).length).2;obtain⟨z,hm⟩:=Qo6 (CC n (H8 t bs) (H8 t bs).length) n 0 h n (BN _) hn
 have:(((0:Nat):Int)::z)∈OW n bs t:=by simpa only[OW,WO,Cp] using hm
 exact List.length_pos_of_mem this
def MD{n:Nat}{bs:List Ak}{t:Int}(Q: ∀b∈bs,L6 n b)(hl:bs.length<=1000000)(Z:(Ef n bs t).1<=64):N7 (Ef n bs t):=by
 have aa:=Qpl (Sq n (OW n bs t)) bs;by_cases h0:0<(Ef n bs t).1
 .have O:=M3 (n:=n) (gs:=OW n bs t) (by simp only[Ef] at h0;omega) bs (λb z=>⟨(Q b z).2.2.1,(Q b z).2.2.2⟩);refine⟨auOm,Z,by simp only[Ef,Cp];omega,λb z=> ?_,λb z=> ?_,λb z=> ?_⟩
  .have:=O b (by simpa only[Ef,Cp] using z)
   exact this.1
  .have:=O b (by simpa only[Ef,Cp] using z)
   have:=this.2.2
   omega
  .have:=O b (by simpa only[Ef,Cp] using z)
   exact this.2.1
 .have hn:bs=[]:=by
   cases bs with
   |nil=>rfl
   |cons b r=>
    exfalso;have h5:=(Q b (CP ..)).1;have h6:=Qab7 (n:=n) (bs:=b::r) (t:=t) auOm;simp only[Ef] at h0;omega
  subst hn;refine⟨by simp only[Ef];omega,Z,by simp only[Ef,HL];simp,λb z=> ?_,λb z=> ?_,λb z=> ?_⟩<;>(simp[Ef,HL] at z)
def stabI.fv(a:AI×AP×Int):Bool×Bool:=(Sl) (a.1) (a.2.1) (a.2.2)
def stabI.row:A8:=Cj (b3 (qR AI.d_le) (qR AP.d_le) qI) (r2 rB rB) (λa=>Qs0 a.1 a.2.1/\a.2.1.Tiles.length<=512/\0<=a.2.2/\a.2.2<=1000000) stabI.fv
def stabI.q:=Cf (R:=stabI.row) rfl
def stabI.ok:AE 114 stabI.row:=by
 refine EK (tC bnds.ok (tC contr.ok (tC holds_.ok tN))) Tryz.func114 ?_;intro a z;simp only[Tryz.f114];simp only[ZA,simprocAttr,AP.d,Aa,stabI.fv,bnds.q,bnds.fv,bnds.re,contr.q,contr.fv,holds_.q,holds_.fv,D.sc,D.scs,AO];obtain⟨s,A,t⟩:=a;obtain⟨O,h2,Q,Z⟩:=z;simp only at O h2 Q Z⊢;have hP:=Qro O.1 A A.Tiles.length (BN _);have hL:=wO s A A.Tiles.length;refine⟨O,⟨auOm,λb hb=>(hP b hb).1,auOm⟩,?_⟩;split
 .rename_i h;simp only[Sl];rw[Bt h]
 .rename_i h;refine⟨⟨MD hP auOm auOm,Q,Z⟩,?_⟩;simp only[Sl];rw[Be h]
def Sd(s:AI)(a:AP)(t:Int):Bool×Int:=
 if (He s && OV s a)=false then (false,1)
 else if B7 t 1 16=false then (false,2)
 else if (Sl s a t).2=false then (false,4) else ((Sl s a t).1,0)
def Qof{s:AI}{a:AP}(h:(He s && OV s a)=true):Qs0 s a/\a.Tiles.length<=512:=by
 rw[B1] at h;have O:=Qge h.1;have z:=Qdg h.2;refine⟨⟨O,z.1,auOm,λx Q=> ?_⟩,auOm⟩
 have:=(Qh6 _ _ z.1.1 x Q).1
 simp only[Kz,B7,B1,CK] at this;refine⟨?_,?_,?_,?_⟩<;>omega
def isStab.fv(a:AI×AP×Int):Bool×Int:=(Sd) (a.1) (a.2.1) (a.2.2)
def isStab.row:A8:=Cj (b3 (qR AI.d_le) (qR AP.d_le) qI) (r2 rB rI) (λa=>wC a.1) isStab.fv
def isStab.q:=Cf (R:=isStab.row) rfl
def isStab.ok:AE 69 isStab.row:=by
 refine EK (tC ValidAssembly_.ok (tC isTemperature.ok (tC stabI.ok tN))) Tryz.func69 ?_;intro a z;simp only[Tryz.f69];simp only[ZA,simprocAttr,AP.d,Aa,isStab.fv,ValidAssembly_.q,ValidAssembly_.fv,isTemperature.q,isTemperature.fv,stabI.q,stabI.fv,D.sc,D.scs,AO];obtain⟨s,A,t⟩:=a;simp only at z⊢;refine⟨z,?_⟩;split
 .rename_i c1;simp only[Sd];rw[Bt c1]
 .rename_i c1;split
  .rename_i O;simp only[Sd];rw[Be c1,Bt O]
  .rename_i O;have Z:=Qof (s:=s) (a:=A) (by simpa using c1);have h2:B7 t 1 16=true:=by simpa using O
   simp only[B7,B1,CK] at h2;refine⟨⟨Z.1,Z.2,auOm,auOm⟩,?_⟩;split
   .rename_i Q;simp only[Sd];rw[Be c1,Be O,Bt Q]
   .rename_i Q;simp only[Sd];rw[Be c1,Be O,Be Q]
def xA(y:AM):Bool:=if y.Seed.Tiles.length=0 then false else ((Sd y.Set y.Seed y.Temperature).1 && decide ((Sd y.Set y.Seed y.Temperature).2=0))
def validI_.fv(a:AM):Bool:=(xA) a
def validI_.row:A8:=Cj (b1 (qR AM.d_le)) rB (λa=>wC a.Set) validI_.fv
def validI_.ok:AE 31 validI_.row:=by
 refine EK (tC isStab.ok tN) Tryz.func31 ?_;intro a z;simp only[Tryz.f31];simp only[ZA,simprocAttr,AP.d,Aa,validI_.fv,isStab.q,isStab.fv,D.sc,D.scs,AO];intro _;by_cases h:a.Seed.Tiles.length=0
 .rw[Bt auOm];simp only[xA];rw[Bt h]
 .rw[Be auOm];refine⟨z,?_⟩;simp only[xA];rw[Be h];split
  .rename_i c;rw[c,CZ]
  .rename_i c;rw[kN] at c;rw[c,Da]
def Qv9(S:Nat->Bool)(nm:Cz): ∀(bs:List Ak),Dq S (HL nm bs)=Dq S (ID nm bs)
 |[]=>rfl
 |b::r=>by
  have ih:=Qv9 S nm r;simp only[HL,ID];split
  .exact ih
  .simp only[Dq,ih];congr 1;obtain⟨x,hx⟩: ∃x,x=Cs nm b.A:=⟨_,rfl⟩;obtain⟨y,hy⟩: ∃y,y=Cs nm b.B:=⟨_,rfl⟩;rw[<-hx,<-hy];by_cases h:x<y
   .have O:Gb x y=x:=Bt h;have z:Fj x y=y:=Be auOm;rw[O,z]
   .have O:Gb x y=y:=Be h;by_cases Z:y<x
    .have z:Fj x y=x:=Bt Z;rw[O,z];by_cases Q:S x.toNat=S y.toNat
     .rw[Bt Q,Bt Q.symm]
     .rw[Be Q,Be (kZ Q)]
    .have z:Fj x y=y:=Be Z
     have:x=y:=auOm
     rw[O,z,this]
def Qxe(n:Nat)(nm:Cz)(bs:List Ak)(t:Int)(k:Nat):Yx n (HL nm bs) t k↔Yx n (ID nm bs) t k:=by
 simp only[Yx,Qv9]
def Wj{s:AI}{A:AP}{t:Int}(h:Qs0 s A)(hl:A.Tiles.length<=512)(ht:0<=t):
 (Sl s A t).2=decide ((kG s A t).2=0)/\((Sl s A t).2=true->(Sl s A t).1=(kG s A t).1):=by
 have Q:=Qro h.1 A A.Tiles.length (BN _);have hL:=wO s A A.Tiles.length;obtain⟨bs,hbs⟩: ∃bs,bs=GM s A A.Tiles.length:=⟨_,rfl⟩;obtain⟨n,hn⟩: ∃n,n=A.Tiles.length:=⟨_,rfl⟩;rw[<-hn] at Q hL hbs hl;rw[<-hbs] at Q hL;have Z:(Ef n bs t).1=(CD n bs t).1:=rfl;simp only[Sl,kG,<-hn,<-hbs,Z];by_cases O:64<(CD n bs t).1
 .rw[Bt O,Bt O];exact⟨rfl,λh=>by cases h⟩
 .rw[Be O,Be O];have z:=MD (t:=t) Q auOm (by rw[Z];omega);have hh:=Qtt (n:=(CD n bs t).1.toNat) (bs:=(Ef n bs t).2) (t:=t) (λb hb=>by
   have:=z.2.2.2.1 b hb
   have h0:=z.1;rw[Z] at this h0;rw[Int.toNat_of_nonneg h0];exact this) z.2.2.2.2.1 ht
  by_cases h2:(CD n bs t).1<2
  .rw[Bt h2];refine⟨rfl,λ_=> ?_⟩;simp only[yU];rw[show (CD n bs t).1.toNat - 1=0 by omega];rfl
  .rw[Be h2];refine⟨rfl,λ_=> ?_⟩;obtain⟨p1,p2⟩:=NX (t:=t) Q auOm auOm auOm;have hw:=(Qzk (n:=(CD n bs t).1) (bs:=(CD n bs t).2) p1 p2 ht ((CD n bs t).1 - 1).toNat auOm auOm).2;have aa:=hh ((CD n bs t).1.toNat - 1) auOm;simp only[yU];rw[show ((CD n bs t).1 - 1).toNat=(CD n bs t).1.toNat - 1 by omega] at hw⊢;have e:Yx (CD n bs t).1.toNat (Ef n bs t).2 t ((CD n bs t).1.toNat - 1)↔Yx (CD n bs t).1.toNat (CD n bs t).2 t ((CD n bs t).1.toNat - 1):=Qxe _ _ _ _ _;rw[Iw,aa,e,<-hw];simp
def QP(y:AM):xA y=WU y:=by
 simp only[xA,WU];by_cases h:y.Seed.Tiles.length=0
 .rw[Bt h]
  have:y.Seed.Tiles=[]:=Sw h
  simp[this]
 .rw[Be h];have he:y.Seed.Tiles.isEmpty=false:=by
   rw[Zeu];intro h2;rw[h2] at h;simp at h
  by_cases c1:(He y.Set && OV y.Set y.Seed)=false
  .have e:Sd y.Set y.Seed y.Temperature=(false,1):=Bt c1;rw[e];rw[ZdU] at c1;rcases c1 with c1|c1<;>simp[c1]
  .have z:=c1;rw[FM] at c1;have hp:=Qof (s:=y.Set) (a:=y.Seed) c1;rw[B1] at c1;rw[c1.1,c1.2,he];by_cases O:B7 y.Temperature 1 16=false
   .have e:Sd y.Set y.Seed y.Temperature=(false,2):=(Be z).trans (Bt O);rw[e,O];simp
   .have Z:=O;rw[FM] at O;have ht:0<=y.Temperature:=by simp only[B7,B1,CK] at O;omega
    obtain⟨q1,q2⟩:=Wj hp.1 hp.2 ht;rw[O];simp only[Wi,Xm,CZ];by_cases Q:(Sl y.Set y.Seed y.Temperature).2=false
    .have e:Sd y.Set y.Seed y.Temperature=(false,4):=(Be z).trans ((Be Z).trans (Bt Q));rw[e,<-q1,Q];simp
    .have e:Sd y.Set y.Seed y.Temperature=((Sl y.Set y.Seed y.Temperature).1,0):=(Be z).trans ((Be Z).trans (Be Q));rw[FM] at Q;rw[e,<-q1,Q,q2 Q];simp
def Ga(p:AR)(t:Int):List AA->List AA
 |[]=>[⟨p,t⟩]
 |x::r=>if Ds p x.At=true then ⟨p,t⟩::x::r else x::Ga p t r
def NI(p:AR)(t:Int): ∀(l:List AA),Yo p t false l++(if cX p l=true then [] else [⟨p,t⟩])=Ga p t l
 |[]=>rfl
 |x::r=>by
  have ih:=NI p t r;by_cases h:Ds p x.At=true
  .have e:cX p (x::r)=true:=by simp only[cX,Bt h]
   simp only[e,Ff,C3,Yo,Ga,Bt h,NH]
  .have e:cX p (x::r)=cX p r:=by simp only[cX,Be h]
   simp only[e,Yo,Ga,Be h,BZ,ih]
def Qi8(a:AP)(p:AR)(t:Int):aL a p t=⟨Ga p t a.Tiles⟩:=by simp only[aL,NI]
def Qlc(p:AR)(t:Int)(y:AA): ∀(l:List AA),y∈Ga p t l↔y=⟨p,t⟩\/y∈l
 |[]=>by simp[Ga]
 |x::r=>by
  simp only[Ga];split
  .simp
  .simp only[B0,Qlc p t y r];constructor
   .rintro (h|h|h)
    .exact .inr (.inl h)
    .exact .inl h
    .exact .inr (.inr h)
   .rintro (h|h|h)
    .exact .inr (.inl h)
    .exact .inl h
    .exact .inr (.inr h)
def Vv(m:J8)(o:AP)(x:AA):Option AP:=
 if (m.Labels[x.Tile.toNat]?.getD 0)<0 then some o
 else if 0<=rU o (jK x.At m.Scale).1/\rU o (jK x.At m.Scale).1≠(m.Labels[x.Tile.toNat]?.getD 0) then none
 else if rU o (jK x.At m.Scale).1<0 then some (aL o (jK x.At m.Scale).1 (m.Labels[x.Tile.toNat]?.getD 0)) else some o
end Go.Ae
