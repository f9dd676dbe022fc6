/- Lemmas. Conditions: none. -/
import Derived.Test.YtnlohpcinfedjaaGreatDoorP11
import Derived.Sort.LoopGhostIn
set_option linter.all false
set_option maxHeartbeats 8000000
set_option maxRecDepth 100000
namespace Go.Ae
open Go
def It{ι:Type}(J:ι->(Nat->Prop)->World->Prop)(base:Nat)(ok0:Nat->Prop)(N:Nat)(i:ι)(s:A8)(a:Act)(w:World):Prop:=
 ∃C S Pr,S.w=w/\Dc C N s S a/\a.defers=[]/\base<=w.heap.size/\J i Pr w/\(∀b,F2 S b->base<=b/\ ¬Pr b)/\(∀b,S.ok b->ok0 b\/ ¬Pr b)
def TE{ι:Type}(J:ι->(Nat->Prop)->World->Prop)(base:Nat)(ok0:Nat->Prop)(N:Nat)(i:ι)(Q:C4):Exit->Act->World->Prop
 | .normal,a,w=> ∃s,Q .normal s/\It J base ok0 N i s a w
 | .exit id,a,w=> ∃s,Q (.exit id) s/\It J base ok0 N i s a w
 | .ret,a,w=> ∃s,Q .ret s/\It J base ok0 N i s a w
 |_,_,_=>False
def Ng{ok ok':Nat->Prop}{hp hp':Nat->Option Obj}: ∀(ds:List D) (vs:List Value),ds.all D.scs=true->rdl ok hp ds vs->rdl ok' hp' ds vs
 |[],_,_,hd=>by simpa only[rdl] using hd
 |d::ds,vs,h,hd=>by
  simp only[rdl,EE,Bc] at hd h⊢;obtain⟨v,r,rfl,z,G⟩:=hd;exact⟨v,r,rfl,Xh h.1 z,Ng ds r h.2 G⟩
section
variable {ι:Type}{P:Program}{V:D4}{N:Nat}{J:ι->(Nat->Prop)->World->Prop}{base:Nat}{ok0:Nat->Prop}{i j:ι}
def TG(hA:O3 base J){s:A8}{a:Act}{w:World}(h:It J base ok0 N i s a w):
 ∃C1,BR C1 N s a w/\ ∀s' a' w',BR C1 N s' a' w'->It J base ok0 N i s' a' w':=by
 obtain⟨C,S,Pr,rfl,hE,hd,hb,hJ,z,Z⟩:=h;obtain⟨O,aa⟩:=hA i Pr _ hJ;refine⟨GI S s.nx a.defers,⟨S,rfl,Zl hE⟩,?_⟩;rintro s' a' w' ⟨S',rfl,G⟩;have hs:S.w.heap.size<=S'.w.heap.size:=G.wf.size;refine⟨_,S',Pr,rfl,G,G.defers.trans hd,CW hb hs,aa _ hs G.wf.os G.wf.tape G.wf.output G.wf.dr ?_,λb h=> ?_,λb h=> ?_⟩
 .rintro b (h|h)
  .exact aQ G.wf b (O b h) (λQ=>(z b Q).2 h)
  .exact aQ G.wf b (by omega) (λQ=>by have:=(z b Q).1;omega)
 .rcases mT G.wf h with q|q
  .exact⟨CW hb q,λhp=>by have:=O b hp;omega⟩
  .exact z b q
 .rcases bF G.wf h with q|q|q
  .exact Z b q
  .exact .inr λhp=>by have:=O b hp;omega
  .exact .inr (z b q).2
def BQ(s':A8):C4
 | .normal,s=>sub s s'
 | .exit _,_=>False
 | .ret,_=>False
def Jw(s':A8)(p q:Prop)(id:Nat):C4
 | .normal,s=>p/\sub s s'
 | .exit k,s=>k=id/\q/\sub s s'
 | .ret,_=>False
def Qy6(HM:P.follows .mixedOrders=true)(HV:HB P V)(hA:O3 base J){c:Code}(hc:E0 N c=true)(G:Ia c=true){Q:C4}{s:A8}{a:Act}{w:World}(hk:D6 P V c Q s)(h:It J base ok0 N i s a w):
 c.wpIn Fence.wide 0 P (TE J base ok0 N i Q) a w:=by
 obtain⟨C1,aa,z⟩:=TG hA h;refine wpIn_mono (lZ (ro:=none) HM HV c hc G Q s a w hk aa) ?_;intro e a' w' hq;cases e<;>simp only[Gv] at hq<;>simp only[TE]
 .obtain⟨s',O,Z⟩:=hq;exact⟨s',O,z _ _ _ Z⟩
 .obtain⟨s',O,Z⟩:=hq;exact⟨s',O,z _ _ _ Z⟩
 .obtain⟨s',O,Z⟩:=hq;exact⟨s',O,z _ _ _ Z⟩
def Gr{s s':A8}{a:Act}{w:World}(h:It J base ok0 N i s a w)(hs:sub s s')(hg:s'.good=true)(hA:O3 base J):It J base ok0 N i s' a w:=by
 obtain⟨C,S,Pr,rfl,hE,hd,hb,hJ,z,Z⟩:=h;have hm:RD S S.w:=⟨AU _,rfl,rfl,rfl,AU _,λ_ _=>rfl,λ_ _=>rfl⟩;have O:Dc (GI S 0 a.defers) N s S a:=vD hE hm 0 (BV _) a a.defers rfl rfl;obtain⟨G,aa⟩:=hA i Pr _ hJ;obtain⟨S',hw,Q⟩:=mY ⟨S,rfl,O⟩ hs hg (BV _);refine⟨_,S',Pr,hw,Q,hd,hb,hJ,λb h=> ?_,λb h=> ?_⟩
 .rcases mT Q.wf h with q|q
  .exact⟨CW hb q,λhp=>by have:=G b hp;omega⟩
  .exact z b q
 .rcases bF Q.wf h with q|q|q
  .exact Z b q
  .exact .inr λhp=>by have:=G b hp;omega
  .exact .inr (z b q).2
def LH(Z:P.follows .mixedOrders=true)(HV:HB P V)(hA:O3 base J){x y:Code}(hc:E0 N x=true)(z:Ia x=true){Qx:C4}{Q:Exit->Act->World->Prop}{s:A8}{a:Act}{w:World}(h:It J base ok0 N i s a w)(hk:D6 P V x Qx s)
 (hn: ∀s a w,Qx .normal s->It J base ok0 N i s a w->y.wpIn Fence.wide 0 P Q a w)(he: ∀id s a w,Qx (.exit id) s->It J base ok0 N i s a w->Q (.exit id) a w)(hr: ∀s a w,Qx .ret s->It J base ok0 N i s a w->Q .ret a w):(x.seq y).wpIn Fence.wide 0 P Q a w:=by
 refine wpIn_seq (wpIn_mono (Qy6 Z HV hA hc z hk h) ?_);intro e a' w' hq;cases e<;>simp only[TE] at hq<;>simp only[Exit.then]
 .obtain⟨s',G,O⟩:=hq;exact hn s' _ _ G O
 .obtain⟨s',G,O⟩:=hq;exact he _ s' _ _ G O
 .obtain⟨s',G,O⟩:=hq;exact hr s' _ _ G O
def vJ(Z:P.follows .mixedOrders=true)(HV:HB P V)(hA:O3 base J){x:Code}(hc:E0 N x=true)(z:Ia x=true){Qx:C4}{Q:Exit->Act->World->Prop}{s:A8}{a:Act}{w:World}(h:It J base ok0 N i s a w)(hk:D6 P V x Qx s)
 (hn: ∀s a w,Qx .normal s->It J base ok0 N i s a w->Q .normal a w)(he: ∀id s a w,Qx (.exit id) s->It J base ok0 N i s a w->Q (.exit id) a w)(hr: ∀s a w,Qx .ret s->It J base ok0 N i s a w->Q .ret a w):x.wpIn Fence.wide 0 P Q a w:=by
 refine wpIn_mono (Qy6 Z HV hA hc z hk h) ?_;intro e a' w' hq;cases e<;>simp only[TE] at hq
 .obtain⟨s',G,O⟩:=hq;exact hn s' _ _ G O
 .obtain⟨s',G,O⟩:=hq;exact he _ s' _ _ G O
 .obtain⟨s',G,O⟩:=hq;exact hr s' _ _ G O
def Xd(HV:HB P V)(hA:O3 base J){ops:Array Oper}{seg more:List Oper}{i0:Nat}(O:ops.toList.drop i0=seg++more)(hd:Kd N seg=true)(G:X3 ops=true){K:A8->Prop}{Q:Exit->Act->World->Prop}{l2:List Nat}{s:A8}{a:Act}{w:World}
 (hk:Lv P V (G4 ops seg) K s)(h:It J base ok0 N i s a w)(hK: ∀s a w,K s->It J base ok0 N i s a w->wpOpsIn Fence.wide 0 P ops Q l2 a w):wpOpsIn Fence.wide 0 P ops Q (List.range' i0 seg.length++l2) a w:=by
 obtain⟨C1,aa,z⟩:=TG hA h;exact zL (ro:=none) G (K:=λa w=> ∃s,K s/\It J base ok0 N i s a w) (λa w ⟨s,Z,h2⟩=>hK s a w Z h2) _ _ _
  (Qpr HV (Q:=λ_ a w=> ∃s,K s/\It J base ok0 N i s a w) (λs a w Z h2=>⟨s,Z,z _ _ _ h2⟩) seg more i0 O hd s a w hk aa)
def Sv{C:Ba}{s:A8}{S:Ay}{a:Act}(z:Dc C N s S a){dst:Option Nat}(hd: ∀d,dst=some d->d<N){x:AV}{v:Value}(hx:x.nms=[])(Z:Aa S x v):Dc C N (s.put dst x) S (a.put dst v):=by
 have O:(s.put dst x).h=s.h:=by cases dst<;>rfl
 have G:(s.put dst x).nx=s.nx:=by cases dst<;>rfl
 refine⟨z.wf,λn=>by rw[O];exact z.h n,?_,?_,?_,?_,?_,by rw[G];exact z.n0,z.pre⟩
 .intro t;rw[Wi,zB (λd h=>by rw[z.size];exact hd d h)];split
  .exact Z
  .exact z.tm t
 .intro t;rw[Wi,G];split
  .intro m Q;rw[hx] at Q;cases Q
  .exact z.nmT t
 .rw[O,G];exact z.nmH
 .cases dst<;>simp[Act.put,z.size]
 .cases dst<;>simp[Act.put,z.defers]
def rU(hA:O3 base J){ai:ι->List D->ι->Prop}{l:Nat}(hY: ∀i x j args Pr W,ai i x j->(∀ok hp,rdl ok hp x args.toList)->J i Pr W->YieldAt Fence.wide 0 P l args W λe W'=>e= .returned (.bool true)/\ ∃Pr',J j Pr' W'/\IP ok0 Pr W Pr' W')
 {ops:Array Oper}{k:Nat}{rest:List Nat}{o:Oper}{c:Call}{f:Operand}{x:List D}{s:A8}{a:Act}{w:World}{Q:Exit->Act->World->Prop}(ho:ops[k]? =some o)(hw:Region.wanted o (yielded ops a.tmps)=true)(au:o.op= .call c)(af:c.callee= .value f)
 (hf:Aw s.tm f= .im (.fn (1000000000+l) [] []))(ab:DV s.tm c.args.toList=x.map .im)(aw:x.all D.scs=true)(hx:ai i x j)(aq: ∀n e,hget s.h n=some e->e.2.isView=false)(hd: ∀d,o.dst=some d->d<N)(h:It J base ok0 N i s a w)
 (ac: ∀a' w',It J base ok0 N j (s.put o.dst (.im (.bool true))) a' w'->wpOpsIn Fence.wide 0 P ops Q rest a' w'):wpOpsIn Fence.wide 0 P ops Q (k::rest) a w:=by
 obtain⟨C,S,Pr,rfl,O,ag,hb,hJ,aa,ad⟩:=h;obtain⟨ax,_⟩:=hA i Pr _ hJ;have ao:a.eval f= .func (.yield l) #[] #[]:=by
  have h1:=Rx O f;rw[hf] at h1;simp only[Aa,rd,rdl] at h1;obtain⟨A,B,h2,h3,h4⟩:=h1;have e1:A= #[]:=by simpa using h3
  have e2:B= #[]:=by simpa using h4
  rw[h2,e1,e2];congr 1;unfold W6;rw[Ag (by omega),wS]
 have an:AR S (x.map .im) (c.args.map a.eval).toList:=by
  rw[<-ab,W4];exact Qpe _ (λy _=>Rx O y)
 have av: ∀ok hp,rdl ok hp x (c.args.map a.eval).toList:=λok hp=>by
  have h1:=(IQ _ _).1 an;exact Ng _ _ aw h1
 obtain⟨fn,aj,ak,bo,hy,hR⟩:=hY i x j (c.args.map a.eval) Pr S.w hx av hJ;simp only[wpOpsIn,ho,hw,Bb];refine⟨λ_ _=>trivial,?_⟩;have ah:(o.semAt Fence.wide.round a.eval).run P S.w= .ok (.round l fn aj ak bo) S.w:=by
  show (execOp a.eval o).run P S.w=_;simp only[execOp,au,resolve,af,ao,Sem.run_bind];simp[Deferred.ofValue,invoke,hy]
 rw[ah,Oper.uponIn_round];refine⟨λh=>(by cases h),RoundIn.mono hR ?_⟩;rintro e W' ⟨rfl,Pr',am,G⟩;have hm:RD S W':=by
  refine⟨G.size,G.os,G.tape,G.output,G.dr,λb z=> ?_,?_⟩
  .rcases ad b z with q|q
   .exact G.same b (O.wf.oks b z) (.inr q)
   .exact G.same b (O.wf.oks b z) (.inl q)
  .rintro b ⟨o',e,lc,q1,q2,rfl⟩;have hl:=O.wf.loc o' e lc q1 q2;cases hmu:e.1 with
   |true=>exact G.same _ hl.1 (.inl (aa _ ⟨o',e,lc,q1,hmu,q2,rfl⟩).2)
   |false=>
    have Z:=hl.2;rw[hmu] at Z;simp only[Dp,CN] at Z;rcases Z with Z|Z
    .rcases ad _ Z with q|q
     .exact G.same _ hl.1 (.inr q)
     .exact G.same _ hl.1 (.inl q)
    .rw[aq o' e (by rw[<-O.h o'];exact q1)] at Z;cases Z
 refine ac _ _ ⟨_,{S with w:=W'},Pr',rfl,Sv (vD O hm 0 (BV _) a [] ag rfl) hd rfl (by simp only[Aa,rd]),?_,CW hb G.size,am,λb z=> ?_,λb z=> ?_⟩
 .cases o.dst<;>exact ag
 .have q:=aa b z;have q2:=(X1 O.wf z).1;refine⟨q.1,λhp=> ?_⟩;rcases G.pr b hp with r|r
  .exact q.2 r
  .omega
 .rcases ad b z with q|q
  .exact .inl q
  .refine .inr λhp=> ?_
   have q2:=O.wf.oks b z;rcases G.pr b hp with r|r
   .exact q r
   .omega
def YF(HV:HB P V)(O:O3 base J){ab:ι->List D->ι->Prop}{l:Nat}(hY: ∀i x j args Pr W,ab i x j->(∀ok hp,rdl ok hp x args.toList)->J i Pr W->YieldAt Fence.wide 0 P l args W λe W'=>e= .returned (.bool true)/\ ∃Pr',J j Pr' W'/\IP ok0 Pr W Pr' W')
 {id:Nat}{ops:Array Oper}(k1:Nat)(au:List.range ops.size=List.range' 0 (ops.toList.take k1).length++(k1::(List.range' (k1+1) (ops.toList.drop (k1+1)).length++[])))(ac:Kd N (ops.toList.take k1)=true)(ad:Kd N (ops.toList.drop (k1+1))=true)(z:X3 ops=true)
 {o:Oper}{c:Call}{f:Operand}{x:List D}(s1:A8){s s2:A8}{a:Act}{w:World}{Q:Exit->Act->World->Prop}{g t:Nat}(ho:ops[k1]? =some o)(ao:o.op= .call c)(Z:c.callee= .value f)(ai:o.guard=some (g,true))(aj:(ops[g]?).bind (·.dst)=some t)(ah:A9 s1.tm t= .im (.bool true))
 (hf:Aw s1.tm f= .im (.fn (1000000000+l) [] []))(G:DV s1.tm c.args.toList=x.map .im)(aq:x.all D.scs=true)(hx:ab i x j)(an: ∀n e,hget s1.h n=some e->e.2.isView=false)(hd: ∀d,o.dst=some d->d<N)(af:s1.good=true)(ag:s2.good=true)
 (h:It J base ok0 N i s a w)(ak:Lv P V (G4 ops (ops.toList.take k1)) (λs=>sub s s1) s)(am:Lv P V (G4 ops (ops.toList.drop (k1+1))) (λs=>sub s s2) (s1.put o.dst (.im (.bool true))))
 (aa: ∀a w,It J base ok0 N j s2 a w->Q .normal a w):(Code.region id ops false).wpIn Fence.wide 0 P Q a w:=by
 refine wpIn_region ?_;rw[au];refine Xd HV O (seg:=ops.toList.take k1) (more:=ops.toList.drop k1) (by rw[Ie,XS]) ac z ak h (λs a w h1 h2=> ?_);have h3:=Gr h2 h1 af O;have hw:Region.wanted o (yielded ops a.tmps)=true:=by
  obtain⟨C,S,Pr,_,hE,_⟩:=h3;have hy:=Qqk hE aj ah;simp[Region.wanted,ai,hy]
 refine rU O hY ho hw ao Z hf G aq hx an hd h3 (λa w h4=> ?_);refine Xd HV O (seg:=ops.toList.drop (k1+1)) (more:=[]) (by rw[Ck]) ad z am h4 (λs a w h5 h6=> ?_);exact aa a w (Gr h6 h5 ag O)
end
def TF{P:Program}{gf:Nat}{fn:Func}{c:Code}(hf:P.funcs[gf]? =some fn)(O:fn.body=some c)(Z:fn.results.toList=[]){capt:List D}{X:oS}(af:capt.length+1<=fn.ntmps)
 (hk: ∀(l:Nat) (J:X.I->(Nat->Prop)->World->Prop) (base:Nat) (ok0:Nat->Prop),O3 base J->
  (∀i x j args Pr W,X.step i x j->(∀ok hp,rdl ok hp x args.toList)->J i Pr W->YieldAt Fence.wide 0 P l args W λe W'=>e= .returned (.bool true)/\ ∃Pr',J j Pr' W'/\IP ok0 Pr W Pr' W')->
  ∀a w,It J base ok0 fn.ntmps X.i0 ⟨entry 0 (.im (.fn (1000000000+l) [] [])::capt.map .im),[],0⟩ a w->c.wpIn Fence.wide 0 P (λe a w=> ∃i,X.fin i/\TE J base ok0 fn.ntmps i (λe _=>e= .normal\/e= .ret) e a w) a w):L5 P gf capt X:=by
 intro C S vs l J hW Q hA hY ⟨Pr,hJ⟩;refine callsIn_wide.1 (callsIn_of_wp_marks (n:=0) hf O trivial (wpIn_mono (hk l J S.w.heap.size S.ok hA hY _ _ ?_) ?_))
 .let C0:Ba:=⟨S.w,λ_=>False,S.ok,0,λ_=>none,λ_=>none,[]⟩
  let S0:Ay:=⟨λ_=>none,S.ok,λ_=>none,S.w⟩
  have ac:Wf C0 S0:=⟨rfl,rfl,rfl,AU _,AU _,λ_ _ _=>rfl,λ_ O=>O,λ_ O=> .inl O,hW.oks,λo e G=>(by cases G),λo e l G=>(by cases G),λo o' e e' l l' G=>(by cases G),hW.glN λ_ h=>h.elim⟩;have z:AR S0 (.im (.fn (1000000000+l) [] [])::capt.map .im) (#[Value.func (.yield l) #[] #[]]++vs).toList:=by
   rw[Zet];refine⟨_,_,rfl,?_,(IQ _ _).2 Q⟩;simp only[Aa,rd,rdl];refine⟨#[],#[],?_,rfl,rfl⟩;unfold W6;rw[Ag (by omega),wS]
  have ad:(#[Value.func (.yield l) #[] #[]]++vs).size=capt.length+1:=by
   have:=IW _ _ z
   simp at this⊢;omega
  obtain⟨As,hAs⟩: ∃As,As= #[Value.func (.yield l) #[] #[]]++vs:=⟨_,rfl⟩;rw[<-hAs] at z ad⊢;refine⟨C0,S0,Pr,rfl,⟨ac,λn=>rfl,?_,?_,?_,?_,rfl,BV _,λo ho=>absurd ho (wZ _)⟩,rfl,AU _,hJ,λb ⟨o,e,lc,h1,_⟩=>(by cases h1),λb O=> .inl O⟩
  .intro t;have h1:=lV (S:=S0) _ As.toList 0 t z;simp only[BV,Bb,bZ] at h1
   have:({tmps:=As++Array.replicate (fn.ntmps - As.size) undef,defers:=[]}:Act).eval (.tmp t)=(As.toList[t]?).getD undef:=by
    simp only[Act.eval,Ib,wT,iE];by_cases ht:t<As.size
    .simp[ht]
    .simp only[ht,CN]
     have:As[t]? =none:=XR (by omega)
     simp only[Hq,this]
     split<;>rfl
   rw[this];exact h1
  .intro t m hm
   have:=mC _ 0 t m hm
   simp only[Ax,AV.nms,Dv] at this;have h0: ∀(q:List D),Ax (q.map .im)=[]:=by
    intro q;induction q with
    |nil=>rfl
    |cons d r ih=>simp only[Bf,Ax,AV.nms,ih,Ck]
   rw[h0] at this;cases this
  .intro n e G;cases G
  .simp;omega
 .intro e a w G;obtain⟨i,hi,G⟩:=G;have fin:(∃s,It J S.w.heap.size S.ok fn.ntmps i s a w)->LeavesInM Fence.wide 0 P fn a.tmps (λe W'=> ∃v Pr i,e= .returned v/\X.fin i/\J i Pr W') a.defers .returning w:=by
   rintro⟨s,C1,S1,Pr1,rfl,hE,hd,_,ab,_,_⟩;rw[hd];simp only[LeavesInM,LeavesIn];obtain⟨v,aa,_⟩:=sQ (P:=P) hE (fn:=fn) (xs:=[]) (by rw[Z];rfl);exact⟨v,aa,v,Pr1,i,rfl,hi,ab⟩
  cases e<;>simp only[TE] at G<;>simp only[bodyPostM]
  .obtain⟨s,_,h⟩:=G;exact fin ⟨s,h⟩
  .obtain⟨s,h,_⟩:=G;rcases h with h|h<;>cases h
  .obtain⟨s,_,h⟩:=G;exact fin ⟨s,h⟩
def xU{P:Program}{gf:Nat}{fn:Func}{c:Code}(hf:P.funcs[gf]? =some fn)(hb:fn.body=some c)(G:fn.results.toList=[]){capt:List D}{xs:List (List D)}(z:capt.length+1<=fn.ntmps)
 (hk: ∀(l:Nat) (J:Nat->(Nat->Prop)->World->Prop) (base:Nat) (ok0:Nat->Prop),O3 base J->
  (∀i x j args Pr W,(xs[i]? =some x/\j=i+1)->(∀ok hp,rdl ok hp x args.toList)->J i Pr W->YieldAt Fence.wide 0 P l args W λe W'=>e= .returned (.bool true)/\ ∃Pr',J j Pr' W'/\IP ok0 Pr W Pr' W')->
  ∀a w,It J base ok0 fn.ntmps 0 ⟨entry 0 (.im (.fn (1000000000+l) [] [])::capt.map .im),[],0⟩ a w->c.wpIn Fence.wide 0 P (TE J base ok0 fn.ntmps xs.length (λe _=>e= .normal\/e= .ret)) a w):Kt P gf capt xs:=
 TF (X:=jE xs) hf hb G z λl J base ok0 Q Z a w O=>wpIn_mono (hk l J base ok0 Q Z a w O) λ_ _ _ h=>⟨xs.length,rfl,h⟩
end Go.Ae
namespace Go.Ae
open Go Go.Proofs
def vR:D4:=tab [(121,step_.row),(173,placeAt.row)]
def Ps:Kc Tryz.prog vR:=Rf _ (by
 intro p hp;simp only[Bw,G7,Gd] at hp;rcases hp with rfl|rfl
 .exact step_.ok
 .exact placeAt.ok)
def Hj(a:Ao)(k:Nat):Nat->List (List D)
 |0=>[]
 |j+1=>Hj a k j++if 0<=Hw a k (1 - j) then [[.agg [.int .i64 k,.int .i64 (Hw a k (1 - j))],.int .i64 (1 - j)]] else []
def CC(a:Ao):Nat->List (List D)
 |0=>[]
 |k+1=>CC a k++Hj a k 2
def Qzu(a:Ao): ∀(n k:Nat),k<=n-> ∃r,CC a n=CC a k++r
 |0,k,h=>⟨[],by obtain rfl:k=0:=by omega
                rw[Ck]⟩
 |n+1,k,h=>by
  by_cases z:k=n+1
  .subst z;exact⟨[],by rw[Ck]⟩
  .obtain⟨r,G⟩:=Qzu a n k (by omega);exact⟨r++Hj a n 2,by rw[CC,G,Ej]⟩
def Qv3(a:Ao)(k:Nat): ∀(n j:Nat),j<=n-> ∃r,Hj a k n=Hj a k j++r
 |0,j,h=>⟨[],by obtain rfl:j=0:=by omega
                rw[Ck]⟩
 |n+1,j,h=>by
  by_cases z:j=n+1
  .subst z;exact⟨[],by rw[Ck]⟩
  .obtain⟨r,G⟩:=Qv3 a k n j (by omega);rw[Hj,G];exact⟨_,by rw[Ej]⟩
def YV(a:Ao){n k j:Nat}(O:k<n)(Q:j<2)(h:0<=Hw a k (1 - j)):(CC a n)[(CC a k).length+(Hj a k j).length]? =some [.agg [.int .i64 k,.int .i64 (Hw a k (1 - j))],.int .i64 (1 - j)]:=by
 obtain⟨Z,z⟩:=Qzu a n (k+1) O;obtain⟨r2,G⟩:=Qv3 a k 2 (j+1) (by omega);rw[z,CC,G,Hj,Al h,Ej,Ej,Ej,G6 (wO _ _),wS,G6 (AU _),Ii];rfl
def JB(l:Nat)(A:Ao)(k:Nat):A8:=⟨[(11,.im (.int .i64 k)),(10,.im (.int .i64 A.Tiles.length)),(9,.im (.sl false 3 (A.Tiles.map Aq.c))),(1,.im (.ref (Ao.c A))),(0,.im (.fn (1000000000+l) [] []))],[],0⟩
def DI(l:Nat)(A:Ao)(k:Nat)(p:Aq)(j:Nat):A8:=⟨[(18,.im (.int .i64 j)),(17,.im (.int .i64 2)),(16,.own 1),(4,.ptr 0 0),(3,.im (.int .i64 k)),(11,.im (.int .i64 k)),(10,.im (.int .i64 A.Tiles.length)),(9,.im (.sl false 3 (A.Tiles.map Aq.c))),(1,.im (.ref (Ao.c A))),(0,.im (.fn (1000000000+l) [] []))],
 [(0,(true,.cells 88 [.im (.int .i64 p.At.X),.im (.int .i64 p.At.Y),.im (.int .i64 p.Tile)])),(1,(true,.arr 2 1 (([1,0]:List Int).map Af)))],2⟩
def Ur(A:Ao)(hA:Ed none A.Tiles=true)(hl:A.Tiles.length<=1000000)(hS: ∀x∈A.Tiles,I7 x.At):Kt Tryz.prog 172 [.ref (Ao.c A)] (CC A A.Tiles.length):=by
 refine xU Tryz.func172 rfl rfl (by simp) ?_;intro l J base ok0 z hY a w ad;have HV:=gL Ps;obtain⟨R,hR⟩: ∃R,R=TE J base ok0 Tryz.f172.ntmps (CC A A.Tiles.length).length (λe _=>e= .normal\/e= .ret):=⟨_,rfl⟩;rw[<-hR];simp only[Tryz.f172,Option.getD] at ad⊢;refine LH D3 HV z (by decide) (by decide) ad (Qx:=BQ (JB l A 0)) ?_ (λs a w G O=> ?_) (λ_ _ _ _ h=>h.elim) (λ_ _ _ h=>h.elim)
 .simp(disch:=omega)only[ZZ,simprocAttr,Ab,BQ,JB,entry,Ao.c,sub];exact λ_=>trivial
 have Z:=Gr O G (by simp[JB,ZG]) z;clear G O ad;refine wpIn_block (wpIn_loop_ghost (λm a w=> ∃k,k<=A.Tiles.length/\m=A.Tiles.length - k/\It J base ok0 41 (CC A k).length (JB l A k) a w) A.Tiles.length ⟨0,BV _,rfl,Z⟩ ?_);clear Z;rintro m a w ⟨k,hk,hm,h⟩;refine LH D3 HV z (by decide) (by decide) h (Qx:=BQ ⟨(12,.im (.bool (decide (k<A.Tiles.length))))::(JB l A k).tm,[],0⟩) ?_ (λs a w G O=> ?_) (λ_ _ _ _ h=>h.elim) (λ_ _ _ h=>h.elim)
 .simp(disch:=omega)only[ZZ,simprocAttr,Ab,BQ,JB,sub]
 have Z:=Gr O G (by simp[JB,ZG]) z;clear G O h;refine LH D3 HV z (by decide) (by decide) Z (Qx:=Jw (JB l A k) (k<A.Tiles.length) (¬k<A.Tiles.length) 0) ?_ (λs a w G O=> ?_) (λid s a w G O=> ?_) (λ_ _ _ h=>h.elim)
 .simp(disch:=omega)only[ZZ,simprocAttr,Ab,Jw,JB,sub]
  split<;>assumption
 rotate_left
 .obtain⟨rfl,h4,G⟩:=G;have ah:k=A.Tiles.length:=by omega
  subst ah;simp only[Exit.then,Exit.inBlock,Bb,hR,TE];exact⟨s,.inl trivial,O⟩
 obtain⟨af,G⟩:=G;have h:=Gr O G (by simp[JB,ZG]) z;clear G O Z;obtain⟨p,hp⟩: ∃p,A.Tiles[k]? =some p:=⟨_,BB af⟩;refine wpIn_seq (wpIn_block ?_);refine LH D3 HV z (by decide) (by decide) h (Qx:=BQ ⟨(4,.ptr 0 0)::(3,.im (.int .i64 k))::(JB l A k).tm,[(0,(true,.cells 88 [.im (.int .i64 p.At.X),.im (.int .i64 p.At.Y),.im (.int .i64 p.Tile)]))],1⟩) ?_ (λs a w G O=> ?_) (λ_ _ _ _ h=>h.elim) (λ_ _ _ h=>h.elim)
 .simp(disch:=omega)only[ZZ,simprocAttr,Ab,BQ,JB,sub];refine⟨af,λq hq=> ?_⟩;rw[hp] at hq;obtain rfl:=AC hq;exact⟨rfl,rfl,rfl⟩
 have Z:=Gr O G (by simp[JB,ZG]) z;clear G O h;refine LH D3 HV z (by decide) (by decide) Z (Qx:=BQ (DI l A k p 0)) ?_ (λs a w G O=> ?_) (λ_ _ _ _ h=>h.elim) (λ_ _ _ h=>h.elim)
 .simp(disch:=omega)only[ZZ,simprocAttr,Ab,BQ,JB,DI,sub]
 have h:=Gr O G (by simp[DI,ZG]) z;clear G O Z;refine wpIn_block (wpIn_loop_ghost (λm a w=> ∃j,j<=2/\m=2 - j/\It J base ok0 41 ((CC A k).length+(Hj A k j).length) (DI l A k p j) a w) 2 ⟨0,BV _,rfl,h⟩ ?_);clear h;rintro m2 a w ⟨j,hj,aj,h⟩;refine LH D3 HV z (by decide) (by decide) h (Qx:=BQ ⟨(19,.im (.bool (decide (j<2))))::(DI l A k p j).tm,(DI l A k p j).h,2⟩) ?_ (λs a w G O=> ?_) (λ_ _ _ _ h=>h.elim) (λ_ _ _ h=>h.elim)
 .simp(disch:=omega)only[ZZ,simprocAttr,Ab,BQ,DI,sub];rw[decide_eq_decide];omega
 have Z:=Gr O G (by simp[DI,ZG]) z;clear G O h;refine LH D3 HV z (by decide) (by decide) Z (Qx:=Jw (DI l A k p j) (j<2) (¬j<2) 2) ?_ (λs a w G O=> ?_) (λid s a w G O=> ?_) (λ_ _ _ h=>h.elim)
 .simp(disch:=omega)only[ZZ,simprocAttr,Ab,Jw,DI,sub]
  split<;>assumption
 rotate_left
 .obtain⟨rfl,h4,G⟩:=G;have ac:j=2:=by omega
  subst ac;have h5:=Gr O G (by simp[DI,ZG]) z;simp only[Exit.then,Exit.inBlock,Bb];refine vJ D3 HV z (by decide) (by decide) h5 (Qx:=BQ (JB l A (k+1))) ?_ (λs a w G O=> ?_) (λ_ _ _ _ h=>h.elim) (λ_ _ _ h=>h.elim)
  .simp(disch:=omega)only[ZZ,simprocAttr,Ab,BQ,DI,JB,sub];rw[AH (by omega) (by omega)];omega
  have h6:=Gr O G (by simp[JB,ZG]) z;refine⟨A.Tiles.length - (k+1),by omega,k+1,by omega,rfl,?_⟩;rw[CC,Bz];exact h6
 obtain⟨ac,G⟩:=G;have h:=Gr O G (by simp[DI,ZG]) z;clear G O Z;refine wpIn_seq (wpIn_block ?_);refine LH D3 HV z (by decide) (by decide) h (Qx:=BQ ⟨(6,.im (.int .i64 (1 - (j:Int))))::(DI l A k p j).tm,(DI l A k p j).h,2⟩) ?_ (λs a w G O=> ?_) (λ_ _ _ _ h=>h.elim) (λ_ _ _ h=>h.elim)
 .simp(disch:=omega)only[ZZ,simprocAttr,Ab,BQ,DI,sub];refine⟨by omega,ac,λrow aa=> ?_⟩;rcases (show j=0\/j=1 by omega) with rfl|rfl
  .simp only[Hn,AO] at aa;subst aa;simp(disch:=omega)only[ZZ,simprocAttr,Ab,BQ,DI,sub]
   try rfl
  .simp only[Kf,Hn,AO] at aa;subst aa;simp(disch:=omega)only[ZZ,simprocAttr,Ab,BQ,DI,sub]
   try rfl
 have Z:=Gr O G (by simp[DI,ZG]) z;clear G O h;refine LH D3 HV z (by decide) (by decide) Z (Qx:=BQ ⟨(7,.im (.int .i64 (Hw A k (1 - (j:Int)))))::(6,.im (.int .i64 (1 - (j:Int))))::(DI l A k p j).tm,(DI l A k p j).h,2⟩) ?_ (λs a w G O=> ?_) (λ_ _ _ _ h=>h.elim) (λ_ _ _ h=>h.elim)
 .simp only[vR];simp(disch:=omega)only[ZZ,simprocAttr,Ab,BQ,DI,sub,step_.q,step_.ar,step_.re,step_.fv,placeAt.q,placeAt.ar,placeAt.re,placeAt.fv];refine⟨⟨hS p (Bh hp),by omega,by omega⟩,hA,?_⟩;simp only[Hw,B5,hp,Ez,AW]
 have h:=Gr O G (by simp[DI,ZG]) z;clear G O Z;obtain⟨nb,hnb⟩: ∃nb,nb=Hw A k (1 - (j:Int)):=⟨_,rfl⟩;rw[<-hnb] at h;have ab:Hj A k (j+1)=Hj A k j++if 0<=nb then [[.agg [.int .i64 k,.int .i64 nb],.int .i64 (1 - (j:Int))]] else []:=by rw[Hj,<-hnb]
 refine wpIn_seq (wpIn_mono (Q:=λe a w=>e= .normal/\It J base ok0 41 ((CC A k).length+(Hj A k (j+1)).length) ⟨(38,.im (.bool false))::(DI l A k p j).tm,(DI l A k p j).h,2⟩ a w) ?_ ?_)
 .by_cases hn:0<=nb
  .rw[Al hn] at ab;have hx:=YV A (n:=A.Tiles.length) af ac (by rw[<-hnb];exact hn);rw[<-hnb] at hx;refine YF HV z hY 8 rfl (by decide) (by decide) (by decide) (s1:=⟨(30,.im (.bool true))::(31,.im (.fn (1000000000+l) [] []))::(34,.im (.agg [.int .i64 k,.int .i64 nb]))::(35,.im (.int .i64 (1 - (j:Int))))::(DI l A k p j).tm,(DI l A k p j).h,2⟩) rfl rfl rfl rfl rfl rfl rfl rfl (by simp[D.scs,D.sc]) ⟨hx,rfl⟩ ?_ (by decide) ?_ ?_ h ?_ ?_ (λa w h9=>⟨rfl,by rw[ab,Bz,<-RP];exact h9⟩)
   .intro n e he;simp only[DI,hget] at he;cases h0:(0==n)<;>rw[h0] at he<;>simp only[C8,Cy] at he
    .cases G:(1==n)<;>rw[G] at he<;>simp only[C8,Cy,reduceCtorEq,AO] at he;subst he;rfl
    .simp only[AO] at he;subst he;rfl
   .simp[DI,ZG]
   .simp[DI,ZG]
   .have ai:decide (nb≥0)=true:=by simpa using hn
    have ag:decide (0<=nb)=true:=by simpa using hn
    simp only[vR];simp(disch:=omega)only[ZZ,simprocAttr,Ab,DI,sub,ai,ag,hn,iM hn]
   .change Lv _ _ _ _ (A8.put _ (some 36) (.im (.bool true)));simp only[vR];simp(disch:=omega)only[ZZ,simprocAttr,Ab,DI,sub]
  .rw[Ag hn,Ck] at ab;refine vJ D3 HV z (by decide) (by decide) h (Qx:=BQ ⟨(38,.im (.bool false))::(DI l A k p j).tm,(DI l A k p j).h,2⟩) ?_ (λs a w G O=>⟨rfl,by rw[ab];exact Gr O G (by simp[DI,ZG]) z⟩) (λ_ _ _ _ h=>h.elim) (λ_ _ _ h=>h.elim);simp only[vR];simp(disch:=omega)only[ZZ,simprocAttr,Ab,BQ,DI,sub,hn,eq_false hn]
 .rintro e a w ⟨rfl,h⟩;simp only[Exit.then];refine vJ D3 HV z (by decide) (by decide) h (Qx:=BQ (DI l A k p j)) ?_ (λs a w G O=> ?_) (λ_ _ _ _ h=>h.elim) (λ_ _ _ h=>h.elim)
  .simp(disch:=omega)only[ZZ,simprocAttr,Ab,BQ,DI,sub]
  have Z:=Gr O G (by simp[DI,ZG]) z;simp only[Exit.inBlock,Exit.then];refine vJ D3 HV z (by decide) (by decide) Z (Qx:=BQ (DI l A k p (j+1))) ?_ (λs a w G O=> ?_) (λ_ _ _ _ h=>h.elim) (λ_ _ _ h=>h.elim)
  .simp(disch:=omega)only[ZZ,simprocAttr,Ab,BQ,DI,sub];rw[AH (by omega) (by omega)];omega
  have h6:=Gr O G (by simp[DI,ZG]) z;exact⟨2 - (j+1),by omega,j+1,by omega,rfl,h6⟩
def yG:D->Option Ao
 | .fn g [] [.ref ds]=>if g=172 then Ao.d ds else none
 |_=>none
def jQ: ∀d b,yG d=some b->Le d (.fn 172 [] [.ref (Ao.c b)]):=by
 intro d b h;unfold yG at h;split at h
 .rename_i g ds;split at h
  .rename_i z;subst z;refine Wr ?_;exact⟨aY (Ao.d_le _ _ h).leP,trivial⟩
  .cases h
 .cases h
def yH(b:Ao):yG (.fn 172 [] [.ref (Ao.c b)])=some b:=by
 simp only[yG,Bb,Ao.d_c]
def nbrs.rc:D->Option (Ao):=yG
def nbrs.re:Ao->D:=λa=>D.fn 172 [] [.ref (Ao.c a)]
def nbrs.rle: ∀d b,nbrs.rc d=some b->Le d (nbrs.re b):=jQ
def nbrs.ar:List PK->Option (Ao):=a1 (kR Ao.d)
def nbrs.fv(a:Ao):Ao:=(λa=>a) a
def nbrs.row:AG:=vK (b1 (qR Ao.d_le)) (RK.mk nbrs.rc nbrs.re nbrs.rle) (λa=>True) nbrs.fv
def nbrs.q:=B3 (R:=nbrs.row) rfl
def nbrs.ok:AJ 150 nbrs.row:=by
 refine vw tN Tryz.func150 ?_;intro a z;simp only[Tryz.f150,Option.getD];simp only[ZZ,simprocAttr,Ab,nbrs.fv,nbrs.rc];exact .inl (yH a)
def Qs0(s:AE)(a:Ao):Prop:=C5 s/\HG s a/\a.Tiles.length<=1000000/\ ∀x∈a.Tiles,I7 x.At
def JM(s:AE)(a:Ao):List D->List Ai
 |[.agg [.int .i64 k,.int .i64 m],.int .i64 d]=>if 0<LC s (GR a k) d (GR a m) then [⟨k,m,LC s (GR a k) d (GR a m)⟩] else []
 |_=>[]
def F1(s:AE)(a:Ao)(i:Nat):List Ai:=((CC a a.Tiles.length).take i).flatMap (JM s a)
def UC(s:AE)(a:Ao):F1 s a (CC a a.Tiles.length).length=FY s a a.Tiles.length:=by
 rw[F1,IF];have z: ∀k j,(Hj a k j).flatMap (JM s a)=KC s a k j:=by
  intro k j;induction j with
  |zero=>rfl
  |succ j ih=>
   rw[Hj,wV,ih,KC];congr 1;simp only[XD];split
   .simp only[FD,IE,Ck,JM]
   .rfl
 have G: ∀n,(CC a n).flatMap (JM s a)=FY s a n:=by
  intro n;induction n with
  |zero=>rfl
  |succ n ih=>rw[CC,wV,ih,z,FY]
 exact G _
def Qv6(s:AE)(a:Ao){i:Nat}{x:List D}(h:(CC a a.Tiles.length)[i]? =some x):F1 s a (i+1)=F1 s a i++JM s a x:=by
 rw[F1,Ji,h,wV,F1];simp
def MM(a:Ao){x:List D}(h:x∈CC a a.Tiles.length): ∃k m d:Int,x=[.agg [.int .i64 k,.int .i64 m],.int .i64 d]/\0<=k/\k<a.Tiles.length/\0<=m/\m<a.Tiles.length/\0<=d/\d<=1:=by
 have G: ∀(k:Nat) j,j<=2->k<a.Tiles.length->x∈Hj a k j-> ∃k m d:Int,x=[.agg [.int .i64 k,.int .i64 m],.int .i64 d]/\0<=k/\k<a.Tiles.length/\0<=m/\m<a.Tiles.length/\0<=d/\d<=1:=by
  intro k j;induction j with
  |zero=>intro _ _ h;simp[Hj] at h
  |succ j ih=>
   intro Z Q z;rw[Hj,B2] at z;rcases z with z|z
   .exact ih (by omega) Q z
   .split at z
    .rename_i h0;obtain rfl:=BL.1 z;exact⟨k,Hw a k (1 - j),1 - j,rfl,by omega,by omega,h0,Lm _ _ _,by omega,by omega⟩
    .cases z
 have O: ∀n,n<=a.Tiles.length->x∈CC a n-> ∃k m d:Int,x=[.agg [.int .i64 k,.int .i64 m],.int .i64 d]/\0<=k/\k<a.Tiles.length/\0<=m/\m<a.Tiles.length/\0<=d/\d<=1:=by
  intro n;induction n with
  |zero=>intro _ h;simp[CC] at h
  |succ n ih=>
   intro hn z;rw[CC,B2] at z;rcases z with z|z
   .exact ih (by omega) z
   .exact G n 2 (AU _) hn z
 exact O _ (AU _) h
def Uq(a:Ao): ∀n,(CC a n).length<=2*n:=by
 have z: ∀k j,(Hj a k j).length<=j:=by
  intro k j;induction j with
  |zero=>simp[Hj]
  |succ j ih=>rw[Hj,Bz];split<;>simp<;>omega
 intro n;induction n with
 |zero=>simp[CC]
 |succ n ih=>have:=z n 2;rw[CC,Bz];omega
def UD(s:AE)(a:Ao)(i:Nat):(F1 s a i).length<=i:=by
 induction i with
 |zero=>simp[F1]
 |succ i ih=>
  cases h:(CC a a.Tiles.length)[i]? with
  |none=>
   have:F1 s a (i+1)=F1 s a i:=by
    have z:=ZeO.1 h;rw[F1,F1,GW (by omega),GW z]
   rw[this];omega
  |some x=>
   rw[Qv6 s a h,Bz]
   have:(JM s a x).length<=1:=by
    unfold JM;split
    .split<;>simp
    .simp
   omega
def nG:D4:=tab [(150,nbrs.row),(151,bond_.row)]
def OT:Kc Tryz.prog nG:=Rf _ (by
 intro p hp;simp only[Bw,G7,Gd] at hp;rcases hp with rfl|rfl
 .exact nbrs.ok
 .exact bond_.ok)
def WI: ∀(H:Ar),(H.all λp=> !p.2.2.isView)=true-> ∀o e,hget H o=some e->e.2.isView=false
 |[],_,o,e,h=>by cases h
 |(n,x)::r,z,o,e,h=>by
  simp only[EE,Bc,LL] at z;simp only[hget] at h;cases hq:(n==o)<;>rw[hq] at h
  .exact WI r z.2 o e h
  .simp only[C8,AO] at h;subst h;exact z.1
def vY{P:Program}{V:D4}{C:Ba}{N:Nat}(Z:P.follows .mixedOrders=true)(HV:HB P V){x y:Code}(G:E0 N x=true)(z:Ia x=true){s':A8}{Q:Exit->Act->World->Prop}{s:A8}{a:Act}{w:World}(hc:BR C N s a w)(hk:D6 P V x (BQ s') s)(hg:s'.good=true)(O:C.n0<=s'.nx)
 (hn: ∀a w,BR C N s' a w->y.wpIn Fence.wide 0 P Q a w):(x.seq y).wpIn Fence.wide 0 P Q a w:=by
 refine wpIn_seq (wpIn_mono (lZ (ro:=none) Z HV x G z _ s a w hk hc) ?_);intro e a' w' hq;cases e<;>simp only[Gv] at hq<;>simp only[Exit.then]
 .obtain⟨s1,h1,h2⟩:=hq;exact hn _ _ (mY h2 h1 hg O)
 .obtain⟨_,h,_⟩:=hq;exact h.elim
 .obtain⟨_,h,_⟩:=hq;exact h.elim
def bnds.rc:D->Option (List Ai):=Qu Ai.d
def bnds.re:(List Ai)->D:=λb=>D.sl false 3 (b.map Ai.c)
def bnds.rle: ∀d b,bnds.rc d=some b->Le d (bnds.re b):=sR Ai.d_le (λ_=>rfl)
def bnds.ar:List PK->Option (AE×Ao):=a2 (kR AE.d) (kR Ao.d)
def bnds.ae(a:AE×Ao):List PK:=[.val (.agg (AE.c a.1)),.val (.agg (Ao.c a.2))]
def bnds.le: ∀z a,bnds.ar z=some a->BY z (bnds.ae a):=(cB (J6 AE.d_le) (J6 Ao.d_le))
def bnds.fv(a:AE×Ao):List Ai:=(λs a=>FY s a a.Tiles.length) (a.1) (a.2)
def bnds.row:AG:=CY (b2 (qR AE.d_le) (qR Ao.d_le)) (RK.mk bnds.rc bnds.re bnds.rle) (λa=>Qs0 a.1 a.2) bnds.fv
def bnds.q:=CD (R:=bnds.row) rfl
def bnds.ok:AJ 119 bnds.row:=by
 refine Quy (by kernel_rfl) bnds.le bnds.rle ?_;intro a ac C S vs RR hW ad aa;refine Qz Tryz.func119 rfl (by simp[bnds.ae]) ?_ hW ad aa;clear aa ad hW;intro C0 ao w hw ab hc am;have HV:=gL OT;have an:C0.ds=[]:=by obtain⟨S0,_,h⟩:=hc;rw[<-h.defers];exact am
 simp only[Tryz.f119,Option.getD] at hc⊢;obtain⟨s,A⟩:=a;obtain⟨h1,h2,h3,h4⟩:=ac;simp only at h1 h2 h3 h4;refine vY D3 HV (by decide) (by decide) (s':=⟨[(3,.ptr 1 0),(2,.ptr 0 0)],[(0,(true,.cells 37 ((AE.c s).map .im))),(1,(true,.cells 25 ((Ao.c A).map .im)))],2⟩) hc ?_ ?_ (by rw[ab];exact BV _) (λa w hc=> ?_)
 .simp only[nG];simp(disch:=omega)only[ZZ,simprocAttr,Ab,BQ,sub,bnds.ae,Dn,Dm,BT,entry]
 .simp[ZG,AE.c,Ao.c]
 refine vY D3 HV (by decide) (by decide) (s':=⟨[(5,.ptr 2 0),(3,.ptr 1 0),(2,.ptr 0 0)],[(0,(true,.cells 37 ((AE.c s).map .im))),(1,(true,.cells 25 ((Ao.c A).map .im))),(2,(true,.cells 126 [.im (.sl true 0 [])]))],3⟩) hc ?_ ?_ (by rw[ab];exact BV _) (λa w hc=> ?_)
 .simp only[nG];simp(disch:=omega)only[ZZ,simprocAttr,Ab,BQ,sub]
 .simp[ZG,AE.c,Ao.c]
 refine wpIn_seq ?_;refine vY D3 HV (by decide) (by decide) (s':=⟨[(10,.im (.fn 172 [] [.ref (Ao.c A)])),(5,.ptr 2 0),(3,.ptr 1 0),(2,.ptr 0 0)],[(0,(true,.cells 37 ((AE.c s).map .im))),(1,(true,.cells 25 ((Ao.c A).map .im))),(2,(true,.cells 126 [.im (.sl true 0 [])]))],3⟩) hc ?_ ?_ (by rw[ab];exact BV _) (λa w hc=> ?_)
 .simp only[nG];simp(disch:=omega)only[ZZ,simprocAttr,Ab,BQ,sub,nbrs.q,nbrs.ar,nbrs.re,nbrs.fv]
 .simp[ZG,AE.c,Ao.c]
 refine wpIn_block (wpIn_mono (UP D3 HV hc (gf:=172) (capt:=[.ref (Ao.c A)]) (xs:=CC A A.Tiles.length) (Oy (by kernel_rfl)) (Ur A h2.1 h3 h4) (by decide) (by decide) (by decide) (by decide) ?_ (by decide)
  (tm0:=[(10,.im (.fn 172 [] [.ref (Ao.c A)])),(5,.ptr 2 0),(3,.ptr 1 0),(2,.ptr 0 0)]) (hs:=λi=>[(0,(true,.cells 37 ((AE.c s).map .im))),(1,(true,.cells 25 ((Ao.c A).map .im))),(2,(true,.cells 126 [.own 3])),(3,(true,.arr 161 3 ((F1 s A i).map Ai.c)))]) (nx:=4) ⟨[(3,none)],?_⟩ rfl (by simp) ?_ ?_ ?_ ?_) ?_)
 .intro x hx;obtain⟨k,m,d,rfl,_⟩:=MM A hx;rfl
 .simp only[Am];simp(disch:=omega)only[ZZ,simprocAttr,Ab,AN,AM,F1,IE]
 .simp[Df,AV.bel]
 .intro i hi;simp[ZG,AE.c,Ao.c]
 .intro i o e he hv;rw[WI _ (by rfl) o e he] at hv;cases hv
 .intro i x hx;have aq:=UD s A i;have au:=(CL.1 hx).1;have av:=Uq A A.Tiles.length;obtain⟨k,m,d,rfl,k0,k1,m0,m1,d0,d1⟩:=MM A (Bh hx);have G:=Qv6 s A hx;simp only[JM] at G;simp only[nG];simp(disch:=omega)only[ZZ,simprocAttr,Ab,OJ,Vh,FJ,sub,bond_.q,bond_.ar,bond_.re,bond_.fv,AS];refine⟨k0,k1,λp hp=>⟨m0,m1,λq hq=>⟨⟨h1,h2.2 p (Bh hp),⟨d0,by omega⟩,h2.2 q (Bh hq)⟩,λhb=>⟨?_,by omega,[(3,some 6)],?_⟩,λhb=>⟨[],?_⟩⟩⟩⟩
  .intro row Q;obtain rfl:=BL.1 Q;rfl
  all_goals
   have e1:GR A k=p.Tile:=by simp[GR,hp]
   have e2:GR A m=q.Tile:=by simp[GR,hq]
   rw[e1,e2] at G
  .rw[Al hb] at G;simp only[Am];simp(disch:=omega)only[ZZ,simprocAttr,Ab,AN,AM,G];simp[Ai.c]
  .rw[Ag hb,Ck] at G;simp only[Am];simp(disch:=omega)only[ZZ,simprocAttr,Ab,AN,AM,G]
 .intro e a' w' hq;cases e<;>simp only[Zp] at hq;obtain⟨C2,S2,Dk,rfl,hE,O,ht,hd,af,ag,ah,ai,aj⟩:=hq;simp only[Exit.inBlock,Exit.then];have ak:a.defers=[]:=by obtain⟨S0,_,h⟩:=hc;rw[h.defers];exact an
  rw[ak] at hd;have hm: ∀a'':Act,a''.defers=C2.ds->vI C0 C2 a''.defers:=λa'' h=> .inr ⟨Dk,by rw[h,<-hE.defers,hd],af,ag,ah,ai,aj⟩
  refine wpIn_mono (lZ (ro:=none) D3 HV _ (by decide) (by decide) (bO Tryz.prog [ResultVar.tmp 4] (AP bnds.rc (bnds.fv (s,A)))) _ a' S2.w ?_ ⟨S2,rfl,hE⟩) ?_
  .simp only[nG];simp(disch:=omega)only[ZZ,simprocAttr,Ab,bnds.rc,bnds.fv,UC,AP];intro row Q;obtain⟨b,_,rfl⟩:=BF.1 Q;rfl
  .intro e a'' w'' hq;cases e<;>simp only[Gv] at hq<;>simp only[PH]
   .obtain⟨s',Z,z⟩:=hq;exact⟨s',C2,Z,z,O,hm a'' (by obtain⟨S0,_,h⟩:=z;exact h.defers)⟩
   .obtain⟨s',Z,z⟩:=hq;exact Z.elim
   .obtain⟨s',Z,z⟩:=hq;exact⟨s',C2,Z,z,O,hm a'' (by obtain⟨S0,_,h⟩:=z;exact h.defers)⟩
end Go.Ae
namespace Go.Ae
open Go.Proofs
def LP{n:Nat}{gs:List (List Int)}(z:0<gs.length): ∀(bs:List Ai),(∀b∈bs,0<b.Strength/\b.Strength<=4)-> ∀b∈Hg (RA n gs) bs,KQ gs.length b
 |[],_,b,h=>by simp[Hg] at h
 |x::r,hs,b,h=>by
  simp only[Hg] at h;have ih:=LP (n:=n) z r (λy hy=>hs y (BW _ hy)) b;split at h
  .exact ih h
  .rename_i G;rcases Bw.1 h with rfl|h
   .have O:=Qy8 (n:=n) z x.A;have Q:=Qy8 (n:=n) z x.B;have Z:=hs x (BS ..);exact⟨⟨O.1,O.2,Q.1,Q.2⟩,G,Z.1,Z.2⟩
   .exact ih h
def R8(s:AE)(a:Ao)(t:Int):Bool×Bool:=
 if 64<(DM a.Tiles.length (FY s a a.Tiles.length) t).1 then (false,false)
 else (vV (DM a.Tiles.length (FY s a a.Tiles.length) t).1 (DM a.Tiles.length (FY s a a.Tiles.length) t).2 t,true)
def Qz2(n:Nat)(bs:List Ai)(hn:0<n): ∀k,(∀v∈Cu n bs k,0<=v)/\(Cu n bs k)[0]? =some 0
 |0=>by
  refine⟨λv G=> ?_,zY n 0 hn⟩;obtain⟨i,O⟩:=W1.1 G;have hl:=(CL.1 O).1;simp only[Cu] at O hl;rw[zY n i (by rwa [fP] at hl)] at O
  have:=AC O
  omega
 |k+1=>by
  obtain⟨Q,h2⟩:=Qz2 n bs hn k;simp only[Cu];split
  .rename_i b hb;have z: ∀i:Nat,0<=(Cu n bs k)[i]?.getD 0:=by
    intro i;cases h:(Cu n bs k)[i]? with
    |none=>simp
    |some v=>exact Q v (Bh h)
   have hj: ∀x y v:Int,0<=x->0<=y->0<=v->0<=Ka x y v:=by
    intro x y v z hy G;simp only[Ka];by_cases h:v=Bo x y
    .rw[Al h];simp only[Bt];split<;>omega
    .rw[Ag h];exact G
   have Z: ∀x y:Int,0<=x->0<=y->Ka x y 0=0:=by
    intro x y z hy;simp only[Ka];by_cases h:(0:Int)=Bo x y
    .rw[Al h];simp only[Bo] at h;simp only[Bt];split at h<;>split<;>omega
    .rw[Ag h]
   refine⟨λv G=> ?_,?_⟩
   .obtain⟨u,hu,rfl⟩:=BF.1 G;exact hj _ _ _ (z _) (z _) (Q u hu)
   .rw[uP,Gb,h2,Ez,Z _ _ (z _) (z _)]
  .exact⟨Q,h2⟩
def Qab7{n:Nat}{bs:List Ai}{t:Int}(hn:0<n):0<(Ov n bs t).length:=by
 have h:=(Qz2 n (GU t bs) hn (GU t bs).length).2;obtain⟨z,G⟩:=Qo6 (Cu n (GU t bs) (GU t bs).length) n 0 h n (AU _) hn
 have:(((0:Nat):Int)::z)∈Ov n bs t:=by simpa only[Ov,Wl,B5] using G
 exact List.length_pos_of_mem this
def Ma{n:Nat}{bs:List Ai}{t:Int}(O: ∀b∈bs,KQ n b)(hl:bs.length<=1000000)(Q:(DM n bs t).1<=64):MS (DM n bs t):=by
 have Z:=Qpl (RA n (Ov n bs t)) bs;by_cases h0:0<(DM n bs t).1
 .have G:=LP (n:=n) (gs:=Ov n bs t) (by simp only[DM] at h0;omega) bs (λb z=>⟨(O b z).2.2.1,(O b z).2.2.2⟩);refine⟨by omega,Q,by simp only[DM,B5];omega,λb z=> ?_,λb z=> ?_,λb z=> ?_⟩
  .have:=G b (by simpa only[DM,B5] using z)
   exact this.1
  .have:=G b (by simpa only[DM,B5] using z)
   have:=this.2.2
   omega
  .have:=G b (by simpa only[DM,B5] using z)
   exact this.2.1
 .have hn:bs=[]:=by
   cases bs with
   |nil=>rfl
   |cons b r=>
    exfalso;have h5:=(O b (BS ..)).1;have h6:=Qab7 (n:=n) (bs:=b::r) (t:=t) (by omega);simp only[DM] at h0;omega
  subst hn;refine⟨by simp only[DM];omega,Q,by simp only[DM,Hg];simp,λb z=> ?_,λb z=> ?_,λb z=> ?_⟩<;>(simp[DM,Hg] at z)
def stabI.fv(a:AE×Ao×Int):Bool×Bool:=(R8) (a.1) (a.2.1) (a.2.2)
def stabI.row:AG:=CY (b3 (qR AE.d_le) (qR Ao.d_le) qI) (r2 rB rB) (λa=>Qs0 a.1 a.2.1/\a.2.1.Tiles.length<=512/\0<=a.2.2/\a.2.2<=1000000) stabI.fv
def stabI.q:=CD (R:=stabI.row) rfl
def stabI.ok:AJ 91 stabI.row:=by
 refine FM (tC bnds.ok (tC contr.ok (tC holds_.ok tN))) Tryz.func91 ?_;intro a z;simp only[Tryz.f91,Option.getD];simp only[ZZ,simprocAttr,Ab,stabI.fv,bnds.q,bnds.fv,bnds.re,contr.q,contr.fv,holds_.q,holds_.fv,BD,D.sc,D.scs,B6,AP];obtain⟨s,A,t⟩:=a;obtain⟨G,h2,O,Q⟩:=z;simp only at G h2 O Q⊢;have Z:=Qro G.1 A A.Tiles.length (AU _);have hL:=tE s A A.Tiles.length;refine⟨G,⟨by omega,λb hb=>(Z b hb).1,by omega⟩,?_⟩;split
 .rename_i h;simp only[R8];rw[Al h]
 .rename_i h;refine⟨⟨Ma Z (by omega) (by omega),O,Q⟩,?_⟩;simp only[R8];rw[Ag h]
def R1(s:AE)(a:Ao)(t:Int):Bool×Int:=
 if (FO s && HA s a)=false then (false,1)
 else if Bj t 1 16=false then (false,2)
 else if (R8 s a t).2=false then (false,4) else ((R8 s a t).1,0)
def Qof{s:AE}{a:Ao}(h:(FO s && HA s a)=true):Qs0 s a/\a.Tiles.length<=512:=by
 rw[Bc] at h;have G:=sV h.1;have z:=Xr h.2;refine⟨⟨G,z.1,by omega,λx O=> ?_⟩,by omega⟩
 have:=(zK _ _ z.1.1 x O).1
 simp only[F7,Bj,Bc,C7] at this;refine⟨?_,?_,?_,?_⟩<;>omega
def isStab.fv(a:AE×Ao×Int):Bool×Int:=(R1) (a.1) (a.2.1) (a.2.2)
def isStab.row:AG:=CY (b3 (qR AE.d_le) (qR Ao.d_le) qI) (r2 rB rI) (λa=>R2 a.1) isStab.fv
def isStab.q:=CD (R:=isStab.row) rfl
def isStab.ok:AJ 66 isStab.row:=by
 refine FM (tC ValidAssembly_.ok (tC isTemperature.ok (tC stabI.ok tN))) Tryz.func66 ?_;intro a z;simp only[Tryz.f66,Option.getD];simp only[ZZ,simprocAttr,Ab,isStab.fv,ValidAssembly_.q,ValidAssembly_.fv,isTemperature.q,isTemperature.fv,stabI.q,stabI.fv,BD,D.sc,D.scs,B6,AP];obtain⟨s,A,t⟩:=a;simp only at z⊢;refine⟨z,?_⟩;split
 .rename_i c1;simp only[R1];rw[Al c1]
 .rename_i c1;split
  .rename_i G;simp only[R1];rw[Ag c1,Al G]
  .rename_i G;have Q:=Qof (s:=s) (a:=A) (by simpa using c1);have Z:Bj t 1 16=true:=by simpa using G
   simp only[Bj,Bc,C7] at Z;refine⟨⟨Q.1,Q.2,by omega,by omega⟩,?_⟩;split
   .rename_i O;simp only[R1];rw[Ag c1,Ag G,Al O]
   .rename_i O;simp only[R1];rw[Ag c1,Ag G,Ag O]
def tS(y:AF):Bool:=if y.Seed.Tiles.length=0 then false else ((R1 y.Set y.Seed y.Temperature).1 && decide ((R1 y.Set y.Seed y.Temperature).2=0))
def validI_.fv(a:AF):Bool:=(tS) a
def validI_.row:AG:=CY (b1 (qR AF.d_le)) rB (λa=>R2 a.Set) validI_.fv
def validI_.q:=CD (R:=validI_.row) rfl
def validI_.ok:AJ 41 validI_.row:=by
 refine FM (tC isStab.ok tN) Tryz.func41 ?_;intro a z;simp only[Tryz.f41,Option.getD];simp only[ZZ,simprocAttr,Ab,validI_.fv,isStab.q,isStab.fv,BD,D.sc,D.scs,B6,AP];intro _;by_cases h:a.Seed.Tiles.length=0
 .rw[Al (by omega)];simp only[tS];rw[Al h]
 .rw[Ag (by omega)];refine⟨z,?_⟩;simp only[tS];rw[Ag h];split
  .rename_i c;rw[c,ED]
  .rename_i c;rw[QN] at c;rw[c,FT]
def Qv9(S:Nat->Bool)(nm:List Int): ∀(bs:List Ai),CX S (Hg nm bs)=CX S (HX nm bs)
 |[]=>rfl
 |b::r=>by
  have ih:=Qv9 S nm r;simp only[Hg,HX];split
  .exact ih
  .simp only[CX,ih];congr 1;obtain⟨x,hx⟩: ∃x,x=Cd nm b.A:=⟨_,rfl⟩;obtain⟨y,hy⟩: ∃y,y=Cd nm b.B:=⟨_,rfl⟩;rw[<-hx,<-hy];by_cases h:x<y
   .have G:Bt x y=x:=Al h;have z:Bo x y=y:=Ag (by omega);rw[G,z]
   .have G:Bt x y=y:=Ag h;by_cases Q:y<x
    .have z:Bo x y=x:=Al Q;rw[G,z];by_cases O:S x.toNat=S y.toNat
     .rw[Al O,Al O.symm]
     .rw[Ag O,Ag (Ft O)]
    .have z:Bo x y=y:=Ag Q
     have:x=y:=by omega
     rw[G,z,this]
def Qxe(n:Nat)(nm:List Int)(bs:List Ai)(t:Int)(k:Nat):X4 n (Hg nm bs) t k↔X4 n (HX nm bs) t k:=by
 simp only[X4,Qv9]
def VP{s:AE}{A:Ao}{t:Int}(h:Qs0 s A)(hl:A.Tiles.length<=512)(ht:0<=t):
 (R8 s A t).2=decide ((gR s A t).2=0)/\((R8 s A t).2=true->(R8 s A t).1=(gR s A t).1):=by
 have O:=Qro h.1 A A.Tiles.length (AU _);have hL:=tE s A A.Tiles.length;obtain⟨bs,hbs⟩: ∃bs,bs=FY s A A.Tiles.length:=⟨_,rfl⟩;obtain⟨n,hn⟩: ∃n,n=A.Tiles.length:=⟨_,rfl⟩;rw[<-hn] at O hL hbs hl;rw[<-hbs] at O hL;have Q:(DM n bs t).1=(Cv n bs t).1:=rfl;simp only[R8,gR,<-hn,<-hbs,Q];by_cases G:64<(Cv n bs t).1
 .rw[Al G,Al G];exact⟨rfl,λh=>by cases h⟩
 .rw[Ag G,Ag G];have z:=Ma (t:=t) O (by omega) (by rw[Q];omega);have hh:=Qtt (n:=(Cv n bs t).1.toNat) (bs:=(DM n bs t).2) (t:=t) (λb hb=>by
   have:=z.2.2.2.1 b hb
   have h0:=z.1;rw[Q] at this h0;rw[Int.toNat_of_nonneg h0];exact this) z.2.2.2.2.1 ht
  by_cases h2:(Cv n bs t).1<2
  .rw[Al h2];refine⟨rfl,λ_=> ?_⟩;simp only[vV];rw[show (Cv n bs t).1.toNat - 1=0 by omega];rfl
  .rw[Ag h2];refine⟨rfl,λ_=> ?_⟩;obtain⟨p1,p2⟩:=Nw (t:=t) O (by omega) (by omega) (by omega);have hw:=(Qzk (n:=(Cv n bs t).1) (bs:=(Cv n bs t).2) p1 p2 ht ((Cv n bs t).1 - 1).toNat (by omega) (by omega)).2;have Z:=hh ((Cv n bs t).1.toNat - 1) (by omega);simp only[vV];rw[show ((Cv n bs t).1 - 1).toNat=(Cv n bs t).1.toNat - 1 by omega] at hw⊢;have e:X4 (Cv n bs t).1.toNat (DM n bs t).2 t ((Cv n bs t).1.toNat - 1)↔X4 (Cv n bs t).1.toNat (Cv n bs t).2 t ((Cv n bs t).1.toNat - 1):=Qxe _ _ _ _ _;rw[iJ,Z,e,<-hw];simp
def pV(y:AF):tS y=Ga y:=by
 simp only[tS,Ga];by_cases h:y.Seed.Tiles.length=0
 .rw[Al h]
  have:y.Seed.Tiles=[]:=wH h
  simp[this]
 .rw[Ag h];have he:y.Seed.Tiles.isEmpty=false:=by
   rw[ZdM];intro Z;rw[Z] at h;simp at h
  by_cases c1:(FO y.Set && HA y.Set y.Seed)=false
  .have e:R1 y.Set y.Seed y.Temperature=(false,1):=Al c1;rw[e];rw[ZdC] at c1;rcases c1 with c1|c1<;>simp[c1]
  .have z:=c1;rw[Jg] at c1;have hp:=Qof (s:=y.Set) (a:=y.Seed) c1;rw[Bc] at c1;rw[c1.1,c1.2,he];by_cases G:Bj y.Temperature 1 16=false
   .have e:R1 y.Set y.Seed y.Temperature=(false,2):=(Ag z).trans (Al G);rw[e,G];simp
   .have Q:=G;rw[Jg] at G;have ht:0<=y.Temperature:=by simp only[Bj,Bc,C7] at G;omega
    obtain⟨q1,q2⟩:=VP hp.1 hp.2 ht;rw[G];simp only[VO,XT,ED];by_cases O:(R8 y.Set y.Seed y.Temperature).2=false
    .have e:R1 y.Set y.Seed y.Temperature=(false,4):=(Ag z).trans ((Ag Q).trans (Al O));rw[e,<-q1,O];simp
    .have e:R1 y.Set y.Seed y.Temperature=((R8 y.Set y.Seed y.Temperature).1,0):=(Ag z).trans ((Ag Q).trans (Ag O));rw[Jg] at O;rw[e,<-q1,O,q2 O];simp
def Qq4{a b:Ad}(h:Bv a b=false)(G:a≠b):Bv b a=true:=by
 obtain⟨x,y⟩:=a;obtain⟨z,w⟩:=b;simp only[Bv,ne_eq,Ad.mk.injEq] at*
 grind
def E5(p:Ad)(t:Int):List Aq->List Aq
 |[]=>[⟨p,t⟩]
 |x::r=>if Bv p x.At=true then ⟨p,t⟩::x::r else x::E5 p t r
def Nb(p:Ad)(t:Int): ∀(l:List Aq),Hk p t false l++(if IY p l=true then [] else [⟨p,t⟩])=E5 p t l
 |[]=>rfl
 |x::r=>by
  have ih:=Nb p t r;by_cases h:Bv p x.At=true
  .have e:IY p (x::r)=true:=by simp only[IY,Al h]
   simp only[e,Bb,Ck,Hk,E5,Al h,vG]
  .have e:IY p (x::r)=IY p r:=by simp only[IY,Ag h]
   simp only[e,Hk,E5,Ag h,Ci,ih]
def tJ(a:Ao)(p:Ad)(t:Int):Dg a p t=⟨E5 p t a.Tiles⟩:=by simp only[Dg,Nb]
def Qlc(p:Ad)(t:Int)(y:Aq): ∀(l:List Aq),y∈E5 p t l↔y=⟨p,t⟩\/y∈l
 |[]=>by simp[E5]
 |x::r=>by
  simp only[E5];split
  .simp
  .simp only[Bw,Qlc p t y r];constructor
   .rintro (h|h|h)
    .exact .inr (.inl h)
    .exact .inl h
    .exact .inr (.inr h)
   .rintro (h|h|h)
    .exact .inr (.inl h)
    .exact .inl h
    .exact .inr (.inr h)
def Qki{p:Ad}{t:Int}(hp:F7 p=true)(Z:Bj t 0 159=true): ∀(l:List Aq) (q:Option Ad),Ed q l=true->(∀q',q=some q'->Bv q' p=true)->(∀x∈l,x.At≠p)->Ed q (E5 p t l)=true
 |[],q,_,G,_=>by
  simp only[E5,Xn,Qik,hp,Z,ED,EL];cases q with
  |none=>rfl
  |some q'=>exact G q' rfl
 |x::r,q,z,G,h3=>by
  have hx:=h3 x (BS ..);rw[Xn] at z;simp only[Bc] at z;obtain⟨g1,g2,g3,g4⟩:=z;simp only[E5];split
  .rename_i O;rw[Xn,Xn];simp only[hp,Z,g1,g2,g4,O,ED,EL];cases q with
   |none=>rfl
   |some q'=>exact G q' rfl
  .rename_i O;rw[Xn];have ih:=Qki hp Z r (some x.At) g4 (λq' Q=>by
    obtain rfl:=AC Q;exact Qq4 (by simpa using O) (Ft hx)) (λy hy=>h3 y (BW _ hy))
   simp only[g1,g2,ih,ED,EL];exact g3
def Va(m:Jc)(o:Ao)(x:Aq):Option Ao:=
 if (m.Labels[x.Tile.toNat]?.getD 0)<0 then some o
 else if 0<=BM o (fU x.At m.Scale).1/\BM o (fU x.At m.Scale).1≠(m.Labels[x.Tile.toNat]?.getD 0) then none
 else if BM o (fU x.At m.Scale).1<0 then some (Dg o (fU x.At m.Scale).1 (m.Labels[x.Tile.toNat]?.getD 0)) else some o
def GD(s:AF)(a:Ao)(o:Be):Bool:=F7 o.At && (Bj o.Tile 0 (s.Set.Tiles.length - 1) && (decide (B0 (λx=>decide (x.At=o.At)) 0 a.Tiles<0) && decide (s.Temperature<=LS s.Set a o.At o.Tile 4)))
def Qma{a:Ao}{p:Ad}(h:B0 (λx=>decide (x.At=p)) 0 a.Tiles<0): ∀x∈a.Tiles,x.At≠p:=by
 intro x O G;rcases aP (λx=>decide (x.At=p)) a.Tiles 0 with ⟨z,_⟩|⟨i,y,_,Q,_⟩
 .have:=wL.1 z x O
  simp[G] at this
 .omega
end Go.Ae
