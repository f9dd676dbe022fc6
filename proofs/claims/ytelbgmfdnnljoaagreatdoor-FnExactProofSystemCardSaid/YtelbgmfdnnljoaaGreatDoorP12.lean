/- Lemmas. Conditions: none. -/
import Derived.Test.YtelbgmfdnnljoaaGreatDoorP11
import Derived.Sort.LoopGhostIn
set_option linter.all false
set_option maxHeartbeats 8000000
set_option maxRecDepth 100000
namespace Go.Ae
open Go
def It{ι:Type}(J:ι->(Nat->Prop)->World->Prop)(base:Nat)(ok0:Nat->Prop)(N:Nat)(i:ι)(s:Az)(a:Act)(w:World):Prop:=
 ∃C S Pr,S.w=w/\CC C N s S a/\a.defers=[]/\base<=w.heap.size/\J i Pr w/\(∀b,EN S b->base<=b/\ ¬Pr b)/\(∀b,S.ok b->ok0 b\/ ¬Pr b)
def Xp{ι:Type}(J:ι->(Nat->Prop)->World->Prop)(base:Nat)(ok0:Nat->Prop)(N:Nat)(i:ι)(Q:Ci):Exit->Act->World->Prop
 | .normal,a,w=> ∃s,Q .normal s/\It J base ok0 N i s a w
 | .exit id,a,w=> ∃s,Q (.exit id) s/\It J base ok0 N i s a w
 | .ret,a,w=> ∃s,Q .ret s/\It J base ok0 N i s a w
 |_,_,_=>False
def M1{ok ok':Nat->Prop}{hp hp':Nat->Option Obj}: ∀(ds:List D) (vs:List Value),ds.all D.scs=true->rdl ok hp ds vs->rdl ok' hp' ds vs
 |[],_,_,hd=>by simpa only[rdl] using hd
 |d::ds,vs,h,hd=>by
  simp only[rdl,ET,AW] at hd h⊢;obtain⟨v,r,rfl,z,G⟩:=hd;exact⟨v,r,rfl,VK h.1 z,M1 ds r h.2 G⟩
section
variable {ι:Type}{P:Program}{V:CT}{N:Nat}{J:ι->(Nat->Prop)->World->Prop}{base:Nat}{ok0:Nat->Prop}{i j:ι}
def Sh(hA:PA base J){s:Az}{a:Act}{w:World}(h:It J base ok0 N i s a w):
 ∃C1,BC C1 N s a w/\ ∀s' a' w',BC C1 N s' a' w'->It J base ok0 N i s' a' w':=by
 obtain⟨C,S,Pr,rfl,hE,hd,hb,hJ,z,Z⟩:=h;obtain⟨O,aa⟩:=hA i Pr _ hJ;refine⟨Gv S s.nx a.defers,⟨S,rfl,XL hE⟩,?_⟩;rintro s' a' w' ⟨S',rfl,G⟩;have hs:S.w.heap.size<=S'.w.heap.size:=G.wf.size;refine⟨_,S',Pr,rfl,G,G.defers.trans hd,CD hb hs,aa _ hs G.wf.os G.wf.tape G.wf.output G.wf.dr ?_,λb h=> ?_,λb h=> ?_⟩
 .rintro b (h|h)
  .exact YC G.wf b (O b h) (λQ=>(z b Q).2 h)
  .exact YC G.wf b (by omega) (λQ=>by have:=(z b Q).1;omega)
 .rcases iJ G.wf h with q|q
  .exact⟨CD hb q,λhp=>by have:=O b hp;omega⟩
  .exact z b q
 .rcases YT G.wf h with q|q|q
  .exact Z b q
  .exact .inr λhp=>by have:=O b hp;omega
  .exact .inr (z b q).2
def Cj(s':Az):Ci
 | .normal,s=>sub s s'
 | .exit _,_=>False
 | .ret,_=>False
def WV(s':Az)(p q:Prop)(id:Nat):Ci
 | .normal,s=>p/\sub s s'
 | .exit k,s=>k=id/\q/\sub s s'
 | .ret,_=>False
def Qy6(HM:P.follows .mixedOrders=true)(HV:Hx P V)(hA:PA base J){c:Code}(hc:DT N c=true)(G:H2 c=true){Q:Ci}{s:Az}{a:Act}{w:World}(hk:CR P V c Q s)(h:It J base ok0 N i s a w):
 c.wpIn Fence.wide 0 P (Xp J base ok0 N i Q) a w:=by
 obtain⟨C1,aa,z⟩:=Sh hA h;refine wpIn_mono (nK (ro:=none) HM HV c hc G Q s a w hk aa) ?_;intro e a' w' hq;cases e<;>simp only[Gx] at hq<;>simp only[Xp]
 .obtain⟨s',O,Z⟩:=hq;exact⟨s',O,z _ _ _ Z⟩
 .obtain⟨s',O,Z⟩:=hq;exact⟨s',O,z _ _ _ Z⟩
 .obtain⟨s',O,Z⟩:=hq;exact⟨s',O,z _ _ _ Z⟩
def Jw{s s':Az}{a:Act}{w:World}(h:It J base ok0 N i s a w)(hs:sub s s')(hg:s'.good=true)(hA:PA base J):It J base ok0 N i s' a w:=by
 obtain⟨C,S,Pr,rfl,hE,hd,hb,hJ,z,Z⟩:=h;have hm:QD S S.w:=⟨AP _,rfl,rfl,rfl,AP _,λ_ _=>rfl,λ_ _=>rfl⟩;have O:CC (Gv S 0 a.defers) N s S a:=pR hE hm 0 (Cz _) a a.defers rfl rfl;obtain⟨G,aa⟩:=hA i Pr _ hJ;obtain⟨S',hw,Q⟩:=iO ⟨S,rfl,O⟩ hs hg (Cz _);refine⟨_,S',Pr,hw,Q,hd,hb,hJ,λb h=> ?_,λb h=> ?_⟩
 .rcases iJ Q.wf h with q|q
  .exact⟨CD hb q,λhp=>by have:=G b hp;omega⟩
  .exact z b q
 .rcases YT Q.wf h with q|q|q
  .exact Z b q
  .exact .inr λhp=>by have:=G b hp;omega
  .exact .inr (z b q).2
def Wo(Z:P.follows .mixedOrders=true)(HV:Hx P V)(hA:PA base J){x y:Code}(hc:DT N x=true)(z:H2 x=true){Qx:Ci}{Q:Exit->Act->World->Prop}{s:Az}{a:Act}{w:World}(h:It J base ok0 N i s a w)(hk:CR P V x Qx s)
 (hn: ∀s a w,Qx .normal s->It J base ok0 N i s a w->y.wpIn Fence.wide 0 P Q a w)(he: ∀id s a w,Qx (.exit id) s->It J base ok0 N i s a w->Q (.exit id) a w)(hr: ∀s a w,Qx .ret s->It J base ok0 N i s a w->Q .ret a w):(x.seq y).wpIn Fence.wide 0 P Q a w:=by
 refine wpIn_seq (wpIn_mono (Qy6 Z HV hA hc z hk h) ?_);intro e a' w' hq;cases e<;>simp only[Xp] at hq<;>simp only[Exit.then]
 .obtain⟨s',G,O⟩:=hq;exact hn s' _ _ G O
 .obtain⟨s',G,O⟩:=hq;exact he _ s' _ _ G O
 .obtain⟨s',G,O⟩:=hq;exact hr s' _ _ G O
def xF(Z:P.follows .mixedOrders=true)(HV:Hx P V)(hA:PA base J){x:Code}(hc:DT N x=true)(z:H2 x=true){Qx:Ci}{Q:Exit->Act->World->Prop}{s:Az}{a:Act}{w:World}(h:It J base ok0 N i s a w)(hk:CR P V x Qx s)
 (hn: ∀s a w,Qx .normal s->It J base ok0 N i s a w->Q .normal a w)(he: ∀id s a w,Qx (.exit id) s->It J base ok0 N i s a w->Q (.exit id) a w)(hr: ∀s a w,Qx .ret s->It J base ok0 N i s a w->Q .ret a w):x.wpIn Fence.wide 0 P Q a w:=by
 refine wpIn_mono (Qy6 Z HV hA hc z hk h) ?_;intro e a' w' hq;cases e<;>simp only[Xp] at hq
 .obtain⟨s',G,O⟩:=hq;exact hn s' _ _ G O
 .obtain⟨s',G,O⟩:=hq;exact he _ s' _ _ G O
 .obtain⟨s',G,O⟩:=hq;exact hr s' _ _ G O
def Si(HV:Hx P V)(hA:PA base J){ops:Array Oper}{seg more:List Oper}{i0:Nat}(O:ops.toList.drop i0=seg++more)(hd:Lc N seg=true)(G:YJ ops=true){K:Az->Prop}{Q:Exit->Act->World->Prop}{l2:List Nat}{s:Az}{a:Act}{w:World}
 (hk:ON P V (Hz ops seg) K s)(h:It J base ok0 N i s a w)(hK: ∀s a w,K s->It J base ok0 N i s a w->wpOpsIn Fence.wide 0 P ops Q l2 a w):wpOpsIn Fence.wide 0 P ops Q (List.range' i0 seg.length++l2) a w:=by
 obtain⟨C1,aa,z⟩:=Sh hA h;exact uL (ro:=none) G (K:=λa w=> ∃s,K s/\It J base ok0 N i s a w) (λa w ⟨s,Z,h2⟩=>hK s a w Z h2) _ _ _
  (Qpr HV (Q:=λ_ a w=> ∃s,K s/\It J base ok0 N i s a w) (λs a w Z h2=>⟨s,Z,z _ _ _ h2⟩) seg more i0 O hd s a w hk aa)
def Rn{C:AZ}{s:Az}{S:Ay}{a:Act}(z:CC C N s S a){dst:Option Nat}(hd: ∀d,dst=some d->d<N){x:AV}{v:Value}(hx:x.nms=[])(Z:Aa S x v):CC C N (s.put dst x) S (a.put dst v):=by
 have O:(s.put dst x).h=s.h:=by cases dst<;>rfl
 have G:(s.put dst x).nx=s.nx:=by cases dst<;>rfl
 refine⟨z.wf,λn=>by rw[O];exact z.h n,?_,?_,?_,?_,?_,by rw[G];exact z.n0,z.pre⟩
 .intro t;rw[UR,uE (λd h=>by rw[z.size];exact hd d h)];split
  .exact Z
  .exact z.tm t
 .intro t;rw[UR,G];split
  .intro m Q;rw[hx] at Q;cases Q
  .exact z.nmT t
 .rw[O,G];exact z.nmH
 .cases dst<;>simp[Act.put,z.size]
 .cases dst<;>simp[Act.put,z.defers]
def Sj(hA:PA base J){ai:ι->List D->ι->Prop}{l:Nat}(hY: ∀i x j args Pr W,ai i x j->(∀ok hp,rdl ok hp x args.toList)->J i Pr W->YieldAt Fence.wide 0 P l args W λe W'=>e= .returned (.bool true)/\ ∃Pr',J j Pr' W'/\JH ok0 Pr W Pr' W')
 {ops:Array Oper}{k:Nat}{rest:List Nat}{o:Oper}{c:Call}{f:Operand}{x:List D}{s:Az}{a:Act}{w:World}{Q:Exit->Act->World->Prop}(ho:ops[k]? =some o)(hw:Region.wanted o (yielded ops a.tmps)=true)(aq:o.op= .call c)(af:c.callee= .value f)
 (hf:Ap s.tm f= .im (.fn (1000000000+l) [] []))(ab:D8 s.tm c.args.toList=x.map .im)(av:x.all D.scs=true)(hx:ai i x j)(ao: ∀n e,hget s.h n=some e->e.2.isView=false)(hd: ∀d,o.dst=some d->d<N)(h:It J base ok0 N i s a w)
 (ac: ∀a' w',It J base ok0 N j (s.put o.dst (.im (.bool true))) a' w'->wpOpsIn Fence.wide 0 P ops Q rest a' w'):wpOpsIn Fence.wide 0 P ops Q (k::rest) a w:=by
 obtain⟨C,S,Pr,rfl,O,ag,hb,hJ,aa,ad⟩:=h;obtain⟨aw,_⟩:=hA i Pr _ hJ;have an:a.eval f= .func (.yield l) #[] #[]:=by
  have h1:=Qs O f;rw[hf] at h1;simp only[Aa,rd,rdl] at h1;obtain⟨A,B,h2,h3,h4⟩:=h1;have e1:A= #[]:=by simpa using h3
  have e2:B= #[]:=by simpa using h4
  rw[h2,e1,e2];congr 1;unfold Xa;rw[Af (by omega),yZ]
 have hcl:AN S (x.map .im) (c.args.map a.eval).toList:=by
  rw[<-ab,Vq];exact wO _ (λy _=>Qs O y)
 have au: ∀ok hp,rdl ok hp x (c.args.map a.eval).toList:=λok hp=>by
  have h1:=(Ir _ _).1 hcl;exact M1 _ _ av h1
 obtain⟨fn,aj,ak,bo,hy,hR⟩:=hY i x j (c.args.map a.eval) Pr S.w hx au hJ;simp only[wpOpsIn,ho,hw,B5];refine⟨λ_ _=>trivial,?_⟩;have ah:(o.semAt Fence.wide.round a.eval).run P S.w= .ok (.round l fn aj ak bo) S.w:=by
  show (execOp a.eval o).run P S.w=_;simp only[execOp,aq,resolve,af,an,Sem.run_bind];simp[Deferred.ofValue,invoke,hy]
 rw[ah,Oper.uponIn_round];refine⟨λh=>(by cases h),RoundIn.mono hR ?_⟩;rintro e W' ⟨rfl,Pr',am,G⟩;have hm:QD S W':=by
  refine⟨G.size,G.os,G.tape,G.output,G.dr,λb z=> ?_,?_⟩
  .rcases ad b z with q|q
   .exact G.same b (O.wf.oks b z) (.inr q)
   .exact G.same b (O.wf.oks b z) (.inl q)
  .rintro b ⟨o',e,lc,q1,q2,rfl⟩;have hl:=O.wf.loc o' e lc q1 q2;cases hmu:e.1 with
   |true=>exact G.same _ hl.1 (.inl (aa _ ⟨o',e,lc,q1,hmu,q2,rfl⟩).2)
   |false=>
    have Z:=hl.2;rw[hmu] at Z;simp only[CQ,CA] at Z;rcases Z with Z|Z
    .rcases ad _ Z with q|q
     .exact G.same _ hl.1 (.inr q)
     .exact G.same _ hl.1 (.inl q)
    .rw[ao o' e (by rw[<-O.h o'];exact q1)] at Z;cases Z
 refine ac _ _ ⟨_,{S with w:=W'},Pr',rfl,Rn (pR O hm 0 (Cz _) a [] ag rfl) hd rfl (by simp only[Aa,rd]),?_,CD hb G.size,am,λb z=> ?_,λb z=> ?_⟩
 .cases o.dst<;>exact ag
 .have q:=aa b z;have q2:=(Wj O.wf z).1;refine⟨q.1,λhp=> ?_⟩;rcases G.pr b hp with r|r
  .exact q.2 r
  .omega
 .rcases ad b z with q|q
  .exact .inl q
  .refine .inr λhp=> ?_
   have q2:=O.wf.oks b z;rcases G.pr b hp with r|r
   .exact q r
   .omega
def Xq(HV:Hx P V)(O:PA base J){ab:ι->List D->ι->Prop}{l:Nat}(hY: ∀i x j args Pr W,ab i x j->(∀ok hp,rdl ok hp x args.toList)->J i Pr W->YieldAt Fence.wide 0 P l args W λe W'=>e= .returned (.bool true)/\ ∃Pr',J j Pr' W'/\JH ok0 Pr W Pr' W')
 {id:Nat}{ops:Array Oper}(k1:Nat)(au:List.range ops.size=List.range' 0 (ops.toList.take k1).length++(k1::(List.range' (k1+1) (ops.toList.drop (k1+1)).length++[])))(ac:Lc N (ops.toList.take k1)=true)(ad:Lc N (ops.toList.drop (k1+1))=true)(z:YJ ops=true)
 {o:Oper}{c:Call}{f:Operand}{x:List D}(s1:Az){s s2:Az}{a:Act}{w:World}{Q:Exit->Act->World->Prop}{g t:Nat}(ho:ops[k1]? =some o)(ao:o.op= .call c)(Z:c.callee= .value f)(ai:o.guard=some (g,true))(aj:(ops[g]?).bind (·.dst)=some t)(ah:A8 s1.tm t= .im (.bool true))
 (hf:Ap s1.tm f= .im (.fn (1000000000+l) [] []))(G:D8 s1.tm c.args.toList=x.map .im)(aq:x.all D.scs=true)(hx:ab i x j)(an: ∀n e,hget s1.h n=some e->e.2.isView=false)(hd: ∀d,o.dst=some d->d<N)(af:s1.good=true)(ag:s2.good=true)
 (h:It J base ok0 N i s a w)(ak:ON P V (Hz ops (ops.toList.take k1)) (λs=>sub s s1) s)(am:ON P V (Hz ops (ops.toList.drop (k1+1))) (λs=>sub s s2) (s1.put o.dst (.im (.bool true))))
 (aa: ∀a w,It J base ok0 N j s2 a w->Q .normal a w):(Code.region id ops false).wpIn Fence.wide 0 P Q a w:=by
 refine wpIn_region ?_;rw[au];refine Si HV O (seg:=ops.toList.take k1) (more:=ops.toList.drop k1) (by rw[Gf,QH]) ac z ak h (λs a w h1 h2=> ?_);have h3:=Jw h2 h1 af O;have hw:Region.wanted o (yielded ops a.tmps)=true:=by
  obtain⟨C,S,Pr,_,hE,_⟩:=h3;have hy:=Qqk hE aj ah;simp[Region.wanted,ai,hy]
 refine Sj O hY ho hw ao Z hf G aq hx an hd h3 (λa w h4=> ?_);refine Si HV O (seg:=ops.toList.drop (k1+1)) (more:=[]) (by rw[D6]) ad z am h4 (λs a w h5 h6=> ?_);exact aa a w (Jw h6 h5 ag O)
end
def eN{P:Program}{gf:Nat}{fn:Func}{c:Code}(hf:P.funcs[gf]? =some fn)(O:fn.body=some c)(Z:fn.results.toList=[]){capt:List D}{X:tZ}(af:capt.length+1<=fn.ntmps)
 (hk: ∀(l:Nat) (J:X.I->(Nat->Prop)->World->Prop) (base:Nat) (ok0:Nat->Prop),PA base J->
  (∀i x j args Pr W,X.step i x j->(∀ok hp,rdl ok hp x args.toList)->J i Pr W->YieldAt Fence.wide 0 P l args W λe W'=>e= .returned (.bool true)/\ ∃Pr',J j Pr' W'/\JH ok0 Pr W Pr' W')->
  ∀a w,It J base ok0 fn.ntmps X.i0 ⟨entry 0 (.im (.fn (1000000000+l) [] [])::capt.map .im),[],0⟩ a w->c.wpIn Fence.wide 0 P (λe a w=> ∃i,X.fin i/\Xp J base ok0 fn.ntmps i (λe _=>e= .normal\/e= .ret) e a w) a w):Qa P gf capt X:=by
 intro C S vs l J hW Q hA hY ⟨Pr,hJ⟩;refine callsIn_wide.1 (callsIn_of_wp_marks (n:=0) hf O trivial (wpIn_mono (hk l J S.w.heap.size S.ok hA hY _ _ ?_) ?_))
 .let C0:AZ:=⟨S.w,λ_=>False,S.ok,0,λ_=>none,λ_=>none,[]⟩
  let S0:Ay:=⟨λ_=>none,S.ok,λ_=>none,S.w⟩
  have ac:Wf C0 S0:=⟨rfl,rfl,rfl,AP _,AP _,λ_ _ _=>rfl,λ_ O=>O,λ_ O=> .inl O,hW.oks,λo e G=>(by cases G),λo e l G=>(by cases G),λo o' e e' l l' G=>(by cases G),hW.glN λ_ h=>h.elim⟩;have z:AN S0 (.im (.fn (1000000000+l) [] [])::capt.map .im) (#[Value.func (.yield l) #[] #[]]++vs).toList:=by
   rw[Zei];refine⟨_,_,rfl,?_,(Ir _ _).2 Q⟩;simp only[Aa,rd,rdl];refine⟨#[],#[],?_,rfl,rfl⟩;unfold Xa;rw[Af (by omega),yZ]
  have ad:(#[Value.func (.yield l) #[] #[]]++vs).size=capt.length+1:=by
   have:=I0 _ _ z
   simp at this⊢;omega
  obtain⟨As,hAs⟩: ∃As,As= #[Value.func (.yield l) #[] #[]]++vs:=⟨_,rfl⟩;rw[<-hAs] at z ad⊢;refine⟨C0,S0,Pr,rfl,⟨ac,λn=>rfl,?_,?_,?_,?_,rfl,Cz _,λo ho=>absurd ho (rJ _)⟩,rfl,AP _,hJ,λb ⟨o,e,lc,h1,_⟩=>(by cases h1),λb O=> .inl O⟩
  .intro t;have h1:=gS (S:=S0) _ As.toList 0 t z;simp only[Cz,B5,jO] at h1
   have:({tmps:=As++Array.replicate (fn.ntmps - As.size) undef,defers:=[]}:Act).eval (.tmp t)=(As.toList[t]?).getD undef:=by
    simp only[Act.eval,H5,rC,dP];by_cases ht:t<As.size
    .simp[ht]
    .simp only[ht,CA]
     have:As[t]? =none:=W7 (by omega)
     simp only[Kk,this]
     split<;>rfl
   rw[this];exact h1
  .intro t m hm
   have:=gZ _ 0 t m hm
   simp only[Aw,AV.nms,Dj] at this;have h0: ∀(q:List D),Aw (q.map .im)=[]:=by
    intro q;induction q with
    |nil=>rfl
    |cons d r ih=>simp only[Bb,Aw,AV.nms,ih,D6]
   rw[h0] at this;cases this
  .intro n e G;cases G
  .simp;omega
 .intro e a w G;obtain⟨i,hi,G⟩:=G;have fin:(∃s,It J S.w.heap.size S.ok fn.ntmps i s a w)->LeavesInM Fence.wide 0 P fn a.tmps (λe W'=> ∃v Pr i,e= .returned v/\X.fin i/\J i Pr W') a.defers .returning w:=by
   rintro⟨s,C1,S1,Pr1,rfl,hE,hd,_,ab,_,_⟩;rw[hd];simp only[LeavesInM,LeavesIn];obtain⟨v,aa,_⟩:=nG (P:=P) hE (fn:=fn) (xs:=[]) (by rw[Z];rfl);exact⟨v,aa,v,Pr1,i,rfl,hi,ab⟩
  cases e<;>simp only[Xp] at G<;>simp only[bodyPostM]
  .obtain⟨s,_,h⟩:=G;exact fin ⟨s,h⟩
  .obtain⟨s,h,_⟩:=G;rcases h with h|h<;>cases h
  .obtain⟨s,_,h⟩:=G;exact fin ⟨s,h⟩
def sR{P:Program}{gf:Nat}{fn:Func}{c:Code}(hf:P.funcs[gf]? =some fn)(hb:fn.body=some c)(G:fn.results.toList=[]){capt:List D}{xs:List (List D)}(z:capt.length+1<=fn.ntmps)
 (hk: ∀(l:Nat) (J:Nat->(Nat->Prop)->World->Prop) (base:Nat) (ok0:Nat->Prop),PA base J->
  (∀i x j args Pr W,(xs[i]? =some x/\j=i+1)->(∀ok hp,rdl ok hp x args.toList)->J i Pr W->YieldAt Fence.wide 0 P l args W λe W'=>e= .returned (.bool true)/\ ∃Pr',J j Pr' W'/\JH ok0 Pr W Pr' W')->
  ∀a w,It J base ok0 fn.ntmps 0 ⟨entry 0 (.im (.fn (1000000000+l) [] [])::capt.map .im),[],0⟩ a w->c.wpIn Fence.wide 0 P (Xp J base ok0 fn.ntmps xs.length (λe _=>e= .normal\/e= .ret)) a w):JG P gf capt xs:=
 eN (X:=eI xs) hf hb G z λl J base ok0 Q Z a w O=>wpIn_mono (hk l J base ok0 Q Z a w O) λ_ _ _ h=>⟨xs.length,rfl,h⟩
end Go.Ae
namespace Go.Ae
open Go Go.Proofs
def qC:CT:=tab [(170,step_.row),(169,placeAt.row)]
def O2:Kf Tryz.prog qC:=V6 _ (by
 intro p hp;simp only[Bt,PM,Lk] at hp;rcases hp with rfl|rfl
 .exact step_.ok
 .exact placeAt.ok)
def GM(a:A9)(k:Nat):Nat->List (List D)
 |0=>[]
 |j+1=>GM a k j++if 0<=GW a k (1 - j) then [[.agg [.int .i64 k,.int .i64 (GW a k (1 - j))],.int .i64 (1 - j)]] else []
def Cn(a:A9):Nat->List (List D)
 |0=>[]
 |k+1=>Cn a k++GM a k 2
def Qzu(a:A9): ∀(n k:Nat),k<=n-> ∃r,Cn a n=Cn a k++r
 |0,k,h=>⟨[],by obtain rfl:k=0:=by omega
                rw[D6]⟩
 |n+1,k,h=>by
  by_cases z:k=n+1
  .subst z;exact⟨[],by rw[D6]⟩
  .obtain⟨r,G⟩:=Qzu a n k (by omega);exact⟨r++GM a n 2,by rw[Cn,G,J0]⟩
def Qv3(a:A9)(k:Nat): ∀(n j:Nat),j<=n-> ∃r,GM a k n=GM a k j++r
 |0,j,h=>⟨[],by obtain rfl:j=0:=by omega
                rw[D6]⟩
 |n+1,j,h=>by
  by_cases z:j=n+1
  .subst z;exact⟨[],by rw[D6]⟩
  .obtain⟨r,G⟩:=Qv3 a k n j (by omega);rw[GM,G];exact⟨_,by rw[J0]⟩
def X4(a:A9){n k j:Nat}(O:k<n)(Q:j<2)(h:0<=GW a k (1 - j)):(Cn a n)[(Cn a k).length+(GM a k j).length]? =some [.agg [.int .i64 k,.int .i64 (GW a k (1 - j))],.int .i64 (1 - j)]:=by
 obtain⟨Z,z⟩:=Qzu a n (k+1) O;obtain⟨r2,G⟩:=Qv3 a k 2 (j+1) (by omega);rw[z,Cn,G,GM,Ai h,J0,J0,J0,J2 (zK _ _),yZ,J2 (AP _),J4];rfl
def IV(l:Nat)(A:A9)(k:Nat):Az:=⟨[(11,.im (.int .i64 k)),(10,.im (.int .i64 A.Tiles.length)),(9,.im (.sl false 3 (A.Tiles.map Al.c))),(1,.im (.ref (A9.c A))),(0,.im (.fn (1000000000+l) [] []))],[],0⟩
def Df(l:Nat)(A:A9)(k:Nat)(p:Al)(j:Nat):Az:=⟨[(18,.im (.int .i64 j)),(17,.im (.int .i64 2)),(16,.own 1),(4,.ptr 0 0),(3,.im (.int .i64 k)),(11,.im (.int .i64 k)),(10,.im (.int .i64 A.Tiles.length)),(9,.im (.sl false 3 (A.Tiles.map Al.c))),(1,.im (.ref (A9.c A))),(0,.im (.fn (1000000000+l) [] []))],
 [(0,(true,.cells 89 [.im (.int .i64 p.At.X),.im (.int .i64 p.At.Y),.im (.int .i64 p.Tile)])),(1,(true,.arr 2 1 (([1,0]:List Int).map Ak)))],2⟩
def SF(A:A9)(hA:CS none A.Tiles=true)(hl:A.Tiles.length<=1000000)(hS: ∀x∈A.Tiles,Qw x.At):JG Tryz.prog 168 [.ref (A9.c A)] (Cn A A.Tiles.length):=by
 refine sR Tryz.func168 rfl rfl (by simp) ?_;intro l J base ok0 z hY a w ad;have HV:=qE O2;obtain⟨R,hR⟩: ∃R,R=Xp J base ok0 Tryz.f168.ntmps (Cn A A.Tiles.length).length (λe _=>e= .normal\/e= .ret):=⟨_,rfl⟩;rw[<-hR];simp only[Tryz.f168,Option.getD] at ad⊢;refine Wo ER HV z (by decide) (by decide) ad (Qx:=Cj (IV l A 0)) ?_ (λs a w G O=> ?_) (λ_ _ _ _ h=>h.elim) (λ_ _ _ h=>h.elim)
 .simp(disch:=omega)only[ZZ,simprocAttr,Ab,Cj,IV,entry,A9.c,sub];exact λ_=>trivial
 have Z:=Jw O G (by simp[IV,ZG]) z;clear G O ad;refine wpIn_block (wpIn_loop_ghost (λm a w=> ∃k,k<=A.Tiles.length/\m=A.Tiles.length - k/\It J base ok0 41 (Cn A k).length (IV l A k) a w) A.Tiles.length ⟨0,Cz _,rfl,Z⟩ ?_);clear Z;rintro m a w ⟨k,hk,hm,h⟩;refine Wo ER HV z (by decide) (by decide) h (Qx:=Cj ⟨(12,.im (.bool (decide (k<A.Tiles.length))))::(IV l A k).tm,[],0⟩) ?_ (λs a w G O=> ?_) (λ_ _ _ _ h=>h.elim) (λ_ _ _ h=>h.elim)
 .simp(disch:=omega)only[ZZ,simprocAttr,Ab,Cj,IV,sub]
 have Z:=Jw O G (by simp[IV,ZG]) z;clear G O h;refine Wo ER HV z (by decide) (by decide) Z (Qx:=WV (IV l A k) (k<A.Tiles.length) (¬k<A.Tiles.length) 0) ?_ (λs a w G O=> ?_) (λid s a w G O=> ?_) (λ_ _ _ h=>h.elim)
 .simp(disch:=omega)only[ZZ,simprocAttr,Ab,WV,IV,sub]
  split<;>assumption
 rotate_left
 .obtain⟨rfl,h4,G⟩:=G;have ah:k=A.Tiles.length:=by omega
  subst ah;simp only[Exit.then,Exit.inBlock,B5,hR,Xp];exact⟨s,.inl trivial,O⟩
 obtain⟨af,G⟩:=G;have h:=Jw O G (by simp[IV,ZG]) z;clear G O Z;obtain⟨p,hp⟩: ∃p,A.Tiles[k]? =some p:=⟨_,B2 af⟩;refine wpIn_seq (wpIn_block ?_);refine Wo ER HV z (by decide) (by decide) h (Qx:=Cj ⟨(4,.ptr 0 0)::(3,.im (.int .i64 k))::(IV l A k).tm,[(0,(true,.cells 89 [.im (.int .i64 p.At.X),.im (.int .i64 p.At.Y),.im (.int .i64 p.Tile)]))],1⟩) ?_ (λs a w G O=> ?_) (λ_ _ _ _ h=>h.elim) (λ_ _ _ h=>h.elim)
 .simp(disch:=omega)only[ZZ,simprocAttr,Ab,Cj,IV,sub];refine⟨af,λq hq=> ?_⟩;rw[hp] at hq;obtain rfl:=AB hq;exact⟨rfl,rfl,rfl⟩
 have Z:=Jw O G (by simp[IV,ZG]) z;clear G O h;refine Wo ER HV z (by decide) (by decide) Z (Qx:=Cj (Df l A k p 0)) ?_ (λs a w G O=> ?_) (λ_ _ _ _ h=>h.elim) (λ_ _ _ h=>h.elim)
 .simp(disch:=omega)only[ZZ,simprocAttr,Ab,Cj,IV,Df,sub]
 have h:=Jw O G (by simp[Df,ZG]) z;clear G O Z;refine wpIn_block (wpIn_loop_ghost (λm a w=> ∃j,j<=2/\m=2 - j/\It J base ok0 41 ((Cn A k).length+(GM A k j).length) (Df l A k p j) a w) 2 ⟨0,Cz _,rfl,h⟩ ?_);clear h;rintro m2 a w ⟨j,hj,aj,h⟩;refine Wo ER HV z (by decide) (by decide) h (Qx:=Cj ⟨(19,.im (.bool (decide (j<2))))::(Df l A k p j).tm,(Df l A k p j).h,2⟩) ?_ (λs a w G O=> ?_) (λ_ _ _ _ h=>h.elim) (λ_ _ _ h=>h.elim)
 .simp(disch:=omega)only[ZZ,simprocAttr,Ab,Cj,Df,sub];rw[decide_eq_decide];omega
 have Z:=Jw O G (by simp[Df,ZG]) z;clear G O h;refine Wo ER HV z (by decide) (by decide) Z (Qx:=WV (Df l A k p j) (j<2) (¬j<2) 2) ?_ (λs a w G O=> ?_) (λid s a w G O=> ?_) (λ_ _ _ h=>h.elim)
 .simp(disch:=omega)only[ZZ,simprocAttr,Ab,WV,Df,sub]
  split<;>assumption
 rotate_left
 .obtain⟨rfl,h4,G⟩:=G;have ac:j=2:=by omega
  subst ac;have h5:=Jw O G (by simp[Df,ZG]) z;simp only[Exit.then,Exit.inBlock,B5];refine xF ER HV z (by decide) (by decide) h5 (Qx:=Cj (IV l A (k+1))) ?_ (λs a w G O=> ?_) (λ_ _ _ _ h=>h.elim) (λ_ _ _ h=>h.elim)
  .simp(disch:=omega)only[ZZ,simprocAttr,Ab,Cj,Df,IV,sub];rw[AA (by omega) (by omega)];omega
  have h6:=Jw O G (by simp[IV,ZG]) z;refine⟨A.Tiles.length - (k+1),by omega,k+1,by omega,rfl,?_⟩;rw[Cn,DZ];exact h6
 obtain⟨ac,G⟩:=G;have h:=Jw O G (by simp[Df,ZG]) z;clear G O Z;refine wpIn_seq (wpIn_block ?_);refine Wo ER HV z (by decide) (by decide) h (Qx:=Cj ⟨(6,.im (.int .i64 (1 - (j:Int))))::(Df l A k p j).tm,(Df l A k p j).h,2⟩) ?_ (λs a w G O=> ?_) (λ_ _ _ _ h=>h.elim) (λ_ _ _ h=>h.elim)
 .simp(disch:=omega)only[ZZ,simprocAttr,Ab,Cj,Df,sub];refine⟨by omega,ac,λrow aa=> ?_⟩;rcases (show j=0\/j=1 by omega) with rfl|rfl
  .simp only[HA,AM] at aa;subst aa;simp(disch:=omega)only[ZZ,simprocAttr,Ab,Cj,Df,sub]
   try rfl
  .simp only[PG,HA,AM] at aa;subst aa;simp(disch:=omega)only[ZZ,simprocAttr,Ab,Cj,Df,sub]
   try rfl
 have Z:=Jw O G (by simp[Df,ZG]) z;clear G O h;refine Wo ER HV z (by decide) (by decide) Z (Qx:=Cj ⟨(7,.im (.int .i64 (GW A k (1 - (j:Int)))))::(6,.im (.int .i64 (1 - (j:Int))))::(Df l A k p j).tm,(Df l A k p j).h,2⟩) ?_ (λs a w G O=> ?_) (λ_ _ _ _ h=>h.elim) (λ_ _ _ h=>h.elim)
 .simp only[qC];simp(disch:=omega)only[ZZ,simprocAttr,Ab,Cj,Df,sub,step_.q,step_.ar,step_.re,step_.fv,placeAt.q,placeAt.ar,placeAt.re,placeAt.fv];refine⟨⟨hS p (Bf hp),by omega,by omega⟩,hA,?_⟩;simp only[GW,Bj,hp,D7,AT]
 have h:=Jw O G (by simp[Df,ZG]) z;clear G O Z;obtain⟨nb,hnb⟩: ∃nb,nb=GW A k (1 - (j:Int)):=⟨_,rfl⟩;rw[<-hnb] at h;have ab:GM A k (j+1)=GM A k j++if 0<=nb then [[.agg [.int .i64 k,.int .i64 nb],.int .i64 (1 - (j:Int))]] else []:=by rw[GM,<-hnb]
 refine wpIn_seq (wpIn_mono (Q:=λe a w=>e= .normal/\It J base ok0 41 ((Cn A k).length+(GM A k (j+1)).length) ⟨(38,.im (.bool false))::(Df l A k p j).tm,(Df l A k p j).h,2⟩ a w) ?_ ?_)
 .by_cases hn:0<=nb
  .rw[Ai hn] at ab;have hx:=X4 A (n:=A.Tiles.length) af ac (by rw[<-hnb];exact hn);rw[<-hnb] at hx;refine Xq HV z hY 8 rfl (by decide) (by decide) (by decide) (s1:=⟨(30,.im (.bool true))::(31,.im (.fn (1000000000+l) [] []))::(34,.im (.agg [.int .i64 k,.int .i64 nb]))::(35,.im (.int .i64 (1 - (j:Int))))::(Df l A k p j).tm,(Df l A k p j).h,2⟩) rfl rfl rfl rfl rfl rfl rfl rfl (by simp[D.scs,D.sc]) ⟨hx,rfl⟩ ?_ (by decide) ?_ ?_ h ?_ ?_ (λa w h9=>⟨rfl,by rw[ab,DZ,<-FA];exact h9⟩)
   .intro n e he;simp only[Df,hget] at he;cases h0:(0==n)<;>rw[h0] at he<;>simp only[BV,Bs] at he
    .cases G:(1==n)<;>rw[G] at he<;>simp only[BV,Bs,reduceCtorEq,AM] at he;subst he;rfl
    .simp only[AM] at he;subst he;rfl
   .simp[Df,ZG]
   .simp[Df,ZG]
   .have ai:decide (nb≥0)=true:=by simpa using hn
    have ag:decide (0<=nb)=true:=by simpa using hn
    simp only[qC];simp(disch:=omega)only[ZZ,simprocAttr,Ab,Df,sub,ai,ag,hn,dV hn]
   .change ON _ _ _ _ (Az.put _ (some 36) (.im (.bool true)));simp only[qC];simp(disch:=omega)only[ZZ,simprocAttr,Ab,Df,sub]
  .rw[Af hn,D6] at ab;refine xF ER HV z (by decide) (by decide) h (Qx:=Cj ⟨(38,.im (.bool false))::(Df l A k p j).tm,(Df l A k p j).h,2⟩) ?_ (λs a w G O=>⟨rfl,by rw[ab];exact Jw O G (by simp[Df,ZG]) z⟩) (λ_ _ _ _ h=>h.elim) (λ_ _ _ h=>h.elim);simp only[qC];simp(disch:=omega)only[ZZ,simprocAttr,Ab,Cj,Df,sub,hn,eq_false hn]
 .rintro e a w ⟨rfl,h⟩;simp only[Exit.then];refine xF ER HV z (by decide) (by decide) h (Qx:=Cj (Df l A k p j)) ?_ (λs a w G O=> ?_) (λ_ _ _ _ h=>h.elim) (λ_ _ _ h=>h.elim)
  .simp(disch:=omega)only[ZZ,simprocAttr,Ab,Cj,Df,sub]
  have Z:=Jw O G (by simp[Df,ZG]) z;simp only[Exit.inBlock,Exit.then];refine xF ER HV z (by decide) (by decide) Z (Qx:=Cj (Df l A k p (j+1))) ?_ (λs a w G O=> ?_) (λ_ _ _ _ h=>h.elim) (λ_ _ _ h=>h.elim)
  .simp(disch:=omega)only[ZZ,simprocAttr,Ab,Cj,Df,sub];rw[AA (by omega) (by omega)];omega
  have h6:=Jw O G (by simp[Df,ZG]) z;exact⟨2 - (j+1),by omega,j+1,by omega,rfl,h6⟩
def tA:D->Option A9
 | .fn g [] [.ref ds]=>if g=168 then A9.d ds else none
 |_=>none
def eT: ∀d b,tA d=some b->Le d (.fn 168 [] [.ref (A9.c b)]):=by
 intro d b h;unfold tA at h;split at h
 .rename_i g ds;split at h
  .rename_i z;subst z;refine iR ?_;exact⟨oC (A9.d_le _ _ h).leP,trivial⟩
  .cases h
 .cases h
def tB(b:A9):tA (.fn 168 [] [.ref (A9.c b)])=some b:=by
 simp only[tA,B5,A9.d_c]
def nbrs.rc:D->Option (A9):=tA
def nbrs.re:A9->D:=λa=>D.fn 168 [] [.ref (A9.c a)]
def nbrs.rle: ∀d b,nbrs.rc d=some b->Le d (nbrs.re b):=eT
def nbrs.ar:List PK->Option (A9):=a1 (kR A9.d)
def nbrs.fv(a:A9):A9:=(λa=>a) a
def nbrs.row:AE:=vK (b1 (qR A9.d_le)) (RK.mk nbrs.rc nbrs.re nbrs.rle) (λa=>True) nbrs.fv
def nbrs.q:=Bg (R:=nbrs.row) rfl
def nbrs.ok:AI 146 nbrs.row:=by
 refine vw tN Tryz.func146 ?_;intro a z;simp only[Tryz.f146,Option.getD];simp only[ZZ,simprocAttr,Ab,nbrs.fv,nbrs.rc];exact .inl (tB a)
def xD(s:Au)(a:A9):Prop:=CY s/\Ll s a/\a.Tiles.length<=1000000/\ ∀x∈a.Tiles,Qw x.At
def Jf(s:Au)(a:A9):List D->List Ag
 |[.agg [.int .i64 k,.int .i64 m],.int .i64 d]=>if 0<UX s (G1 a k) d (G1 a m) then [⟨k,m,UX s (G1 a k) d (G1 a m)⟩] else []
 |_=>[]
def EM(s:Au)(a:A9)(i:Nat):List Ag:=((Cn a a.Tiles.length).take i).flatMap (Jf s a)
def SY(s:Au)(a:A9):EM s a (Cn a a.Tiles.length).length=F6 s a a.Tiles.length:=by
 rw[EM,IB];have z: ∀k j,(GM a k j).flatMap (Jf s a)=JY s a k j:=by
  intro k j;induction j with
  |zero=>rfl
  |succ j ih=>
   rw[GM,Zel,ih,JY];congr 1;simp only[Wv];split
   .simp only[J1,zI,D6,Jf]
   .rfl
 have G: ∀n,(Cn a n).flatMap (Jf s a)=F6 s a n:=by
  intro n;induction n with
  |zero=>rfl
  |succ n ih=>rw[Cn,Zel,ih,z,F6]
 exact G _
def Qv6(s:Au)(a:A9){i:Nat}{x:List D}(h:(Cn a a.Tiles.length)[i]? =some x):EM s a (i+1)=EM s a i++Jf s a x:=by
 rw[EM,IA,h,Zel,EM];simp
def Mg(a:A9){x:List D}(h:x∈Cn a a.Tiles.length): ∃k m d:Int,x=[.agg [.int .i64 k,.int .i64 m],.int .i64 d]/\0<=k/\k<a.Tiles.length/\0<=m/\m<a.Tiles.length/\0<=d/\d<=1:=by
 have G: ∀(k:Nat) j,j<=2->k<a.Tiles.length->x∈GM a k j-> ∃k m d:Int,x=[.agg [.int .i64 k,.int .i64 m],.int .i64 d]/\0<=k/\k<a.Tiles.length/\0<=m/\m<a.Tiles.length/\0<=d/\d<=1:=by
  intro k j;induction j with
  |zero=>intro _ _ h;simp[GM] at h
  |succ j ih=>
   intro Z Q z;rw[GM,Bz] at z;rcases z with z|z
   .exact ih (by omega) Q z
   .split at z
    .rename_i h0;obtain rfl:=BL.1 z;exact⟨k,GW a k (1 - j),1 - j,rfl,by omega,by omega,h0,K7 _ _ _,by omega,by omega⟩
    .cases z
 have O: ∀n,n<=a.Tiles.length->x∈Cn a n-> ∃k m d:Int,x=[.agg [.int .i64 k,.int .i64 m],.int .i64 d]/\0<=k/\k<a.Tiles.length/\0<=m/\m<a.Tiles.length/\0<=d/\d<=1:=by
  intro n;induction n with
  |zero=>intro _ h;simp[Cn] at h
  |succ n ih=>
   intro hn z;rw[Cn,Bz] at z;rcases z with z|z
   .exact ih (by omega) z
   .exact G n 2 (AP _) hn z
 exact O _ (AP _) h
def SE(a:A9): ∀n,(Cn a n).length<=2*n:=by
 have z: ∀k j,(GM a k j).length<=j:=by
  intro k j;induction j with
  |zero=>simp[GM]
  |succ j ih=>rw[GM,DZ];split<;>simp<;>omega
 intro n;induction n with
 |zero=>simp[Cn]
 |succ n ih=>have:=z n 2;rw[Cn,DZ];omega
def SZ(s:Au)(a:A9)(i:Nat):(EM s a i).length<=i:=by
 induction i with
 |zero=>simp[EM]
 |succ i ih=>
  cases h:(Cn a a.Tiles.length)[i]? with
  |none=>
   have:EM s a (i+1)=EM s a i:=by
    have z:=List.getElem?_eq_none_iff.1 h;rw[EM,EM,F9 (by omega),F9 z]
   rw[this];omega
  |some x=>
   rw[Qv6 s a h,DZ]
   have:(Jf s a x).length<=1:=by
    unfold Jf;split
    .split<;>simp
    .simp
   omega
def iU:CT:=tab [(146,nbrs.row),(147,bond_.row)]
def Oc:Kf Tryz.prog iU:=V6 _ (by
 intro p hp;simp only[Bt,PM,Lk] at hp;rcases hp with rfl|rfl
 .exact nbrs.ok
 .exact bond_.ok)
def kM: ∀(H:Ao),(H.all λp=> !p.2.2.isView)=true-> ∀o e,hget H o=some e->e.2.isView=false
 |[],_,o,e,h=>by cases h
 |(n,x)::r,z,o,e,h=>by
  simp only[ET,AW,PL] at z;simp only[hget] at h;cases hq:(n==o)<;>rw[hq] at h
  .exact kM r z.2 o e h
  .simp only[BV,AM] at h;subst h;exact z.1
def Qxh{P:Program}{V:CT}{C:AZ}{N:Nat}(Z:P.follows .mixedOrders=true)(HV:Hx P V){x y:Code}(G:DT N x=true)(z:H2 x=true){s':Az}{Q:Exit->Act->World->Prop}{s:Az}{a:Act}{w:World}(hc:BC C N s a w)(hk:CR P V x (Cj s') s)(hg:s'.good=true)(O:C.n0<=s'.nx)
 (hn: ∀a w,BC C N s' a w->y.wpIn Fence.wide 0 P Q a w):(x.seq y).wpIn Fence.wide 0 P Q a w:=by
 refine wpIn_seq (wpIn_mono (nK (ro:=none) Z HV x G z _ s a w hk hc) ?_);intro e a' w' hq;cases e<;>simp only[Gx] at hq<;>simp only[Exit.then]
 .obtain⟨s1,h1,h2⟩:=hq;exact hn _ _ (iO h2 h1 hg O)
 .obtain⟨_,h,_⟩:=hq;exact h.elim
 .obtain⟨_,h,_⟩:=hq;exact h.elim
def bnds.rc:D->Option (List Ag):=Vw Ag.d
def bnds.re:(List Ag)->D:=λb=>D.sl false 3 (b.map Ag.c)
def bnds.rle: ∀d b,bnds.rc d=some b->Le d (bnds.re b):=UA Ag.d_le (λ_=>rfl)
def bnds.ar:List PK->Option (Au×A9):=a2 (kR Au.d) (kR A9.d)
def bnds.ae(a:Au×A9):List PK:=[.val (.agg (Au.c a.1)),.val (.agg (A9.c a.2))]
def bnds.le: ∀z a,bnds.ar z=some a->Cl z (bnds.ae a):=(QN (LR Au.d_le) (LR A9.d_le))
def bnds.fv(a:Au×A9):List Ag:=(λs a=>F6 s a a.Tiles.length) (a.1) (a.2)
def bnds.row:AE:=CG (b2 (qR Au.d_le) (qR A9.d_le)) (RK.mk bnds.rc bnds.re bnds.rle) (λa=>xD a.1 a.2) bnds.fv
def bnds.q:=CH (R:=bnds.row) rfl
def bnds.ok:AI 122 bnds.row:=by
 refine Quy (by kernel_rfl) bnds.le bnds.rle ?_;intro a ac C S vs RR hW ad aa;refine Py Tryz.func122 rfl (by simp[bnds.ae]) ?_ hW ad aa;clear aa ad hW;intro C0 ao w hw ab hc am;have HV:=qE Oc;have an:C0.ds=[]:=by obtain⟨S0,_,h⟩:=hc;rw[<-h.defers];exact am
 simp only[Tryz.f122,Option.getD] at hc⊢;obtain⟨s,A⟩:=a;obtain⟨h1,h2,h3,h4⟩:=ac;simp only at h1 h2 h3 h4;refine Qxh ER HV (by decide) (by decide) (s':=⟨[(3,.ptr 1 0),(2,.ptr 0 0)],[(0,(true,.cells 35 ((Au.c s).map .im))),(1,(true,.cells 38 ((A9.c A).map .im)))],2⟩) hc ?_ ?_ (by rw[ab];exact Cz _) (λa w hc=> ?_)
 .simp only[iU];simp(disch:=omega)only[ZZ,simprocAttr,Ab,Cj,sub,bnds.ae,CL,CJ,BH,entry]
 .simp[ZG,Au.c,A9.c]
 refine Qxh ER HV (by decide) (by decide) (s':=⟨[(5,.ptr 2 0),(3,.ptr 1 0),(2,.ptr 0 0)],[(0,(true,.cells 35 ((Au.c s).map .im))),(1,(true,.cells 38 ((A9.c A).map .im))),(2,(true,.cells 128 [.im (.sl true 0 [])]))],3⟩) hc ?_ ?_ (by rw[ab];exact Cz _) (λa w hc=> ?_)
 .simp only[iU];simp(disch:=omega)only[ZZ,simprocAttr,Ab,Cj,sub]
 .simp[ZG,Au.c,A9.c]
 refine wpIn_seq ?_;refine Qxh ER HV (by decide) (by decide) (s':=⟨[(10,.im (.fn 168 [] [.ref (A9.c A)])),(5,.ptr 2 0),(3,.ptr 1 0),(2,.ptr 0 0)],[(0,(true,.cells 35 ((Au.c s).map .im))),(1,(true,.cells 38 ((A9.c A).map .im))),(2,(true,.cells 128 [.im (.sl true 0 [])]))],3⟩) hc ?_ ?_ (by rw[ab];exact Cz _) (λa w hc=> ?_)
 .simp only[iU];simp(disch:=omega)only[ZZ,simprocAttr,Ab,Cj,sub,nbrs.q,nbrs.ar,nbrs.re,nbrs.fv]
 .simp[ZG,Au.c,A9.c]
 refine wpIn_block (wpIn_mono (Ts ER HV hc (gf:=168) (capt:=[.ref (A9.c A)]) (xs:=Cn A A.Tiles.length) (YH (by kernel_rfl)) (SF A h2.1 h3 h4) (by decide) (by decide) (by decide) (by decide) ?_ (by decide)
  (tm0:=[(10,.im (.fn 168 [] [.ref (A9.c A)])),(5,.ptr 2 0),(3,.ptr 1 0),(2,.ptr 0 0)]) (hs:=λi=>[(0,(true,.cells 35 ((Au.c s).map .im))),(1,(true,.cells 38 ((A9.c A).map .im))),(2,(true,.cells 128 [.own 3])),(3,(true,.arr 160 3 ((EM s A i).map Ag.c)))]) (nx:=4) ⟨[(3,none)],?_⟩ rfl (by simp) ?_ ?_ ?_ ?_) ?_)
 .intro x hx;obtain⟨k,m,d,rfl,_⟩:=Mg A hx;rfl
 .simp only[Ar];simp(disch:=omega)only[ZZ,simprocAttr,Ab,AS,AR,EM,zI]
 .simp[Cp,AV.bel]
 .intro i hi;simp[ZG,Au.c,A9.c]
 .intro i o e he hv;rw[kM _ (by rfl) o e he] at hv;cases hv
 .intro i x hx;have aq:=SZ s A i;have au:=(Cu.1 hx).1;have av:=SE A A.Tiles.length;obtain⟨k,m,d,rfl,k0,k1,m0,m1,d0,d1⟩:=Mg A (Bf hx);have G:=Qv6 s A hx;simp only[Jf] at G;simp only[iU];simp(disch:=omega)only[ZZ,simprocAttr,Ab,QT,XO,FJ,sub,bond_.q,bond_.ar,bond_.re,bond_.fv,AO];refine⟨k0,k1,λp hp=>⟨m0,m1,λq hq=>⟨⟨h1,h2.2 p (Bf hp),⟨d0,by omega⟩,h2.2 q (Bf hq)⟩,λhb=>⟨?_,by omega,[(3,some 6)],?_⟩,λhb=>⟨[],?_⟩⟩⟩⟩
  .intro row Q;obtain rfl:=BL.1 Q;rfl
  all_goals
   have e1:G1 A k=p.Tile:=by simp[G1,hp]
   have e2:G1 A m=q.Tile:=by simp[G1,hq]
   rw[e1,e2] at G
  .rw[Ai hb] at G;simp only[Ar];simp(disch:=omega)only[ZZ,simprocAttr,Ab,AS,AR,G];simp[Ag.c]
  .rw[Af hb,D6] at G;simp only[Ar];simp(disch:=omega)only[ZZ,simprocAttr,Ab,AS,AR,G]
 .intro e a' w' hq;cases e<;>simp only[fQ] at hq;obtain⟨C2,S2,Dk,rfl,hE,O,ht,hd,af,ag,ah,ai,aj⟩:=hq;simp only[Exit.inBlock,Exit.then];have ak:a.defers=[]:=by obtain⟨S0,_,h⟩:=hc;rw[h.defers];exact an
  rw[ak] at hd;have hm: ∀a'':Act,a''.defers=C2.ds->wX C0 C2 a''.defers:=λa'' h=> .inr ⟨Dk,by rw[h,<-hE.defers,hd],af,ag,ah,ai,aj⟩
  refine wpIn_mono (nK (ro:=none) ER HV _ (by decide) (by decide) (Zc Tryz.prog [ResultVar.tmp 4] (AQ bnds.rc (bnds.fv (s,A)))) _ a' S2.w ?_ ⟨S2,rfl,hE⟩) ?_
  .simp only[iU];simp(disch:=omega)only[ZZ,simprocAttr,Ab,bnds.rc,bnds.fv,SY,AQ];intro row Q;obtain⟨b,_,rfl⟩:=Bn.1 Q;rfl
  .intro e a'' w'' hq;cases e<;>simp only[Gx] at hq<;>simp only[TG]
   .obtain⟨s',Z,z⟩:=hq;exact⟨s',C2,Z,z,O,hm a'' (by obtain⟨S0,_,h⟩:=z;exact h.defers)⟩
   .obtain⟨s',Z,z⟩:=hq;exact Z.elim
   .obtain⟨s',Z,z⟩:=hq;exact⟨s',C2,Z,z,O,hm a'' (by obtain⟨S0,_,h⟩:=z;exact h.defers)⟩
end Go.Ae
namespace Go.Ae
open Go.Proofs
def Lm{n:Nat}{gs:List (List Int)}(z:0<gs.length): ∀(bs:List Ag),(∀b∈bs,0<b.Strength/\b.Strength<=4)-> ∀b∈GJ (QB n gs) bs,Kr gs.length b
 |[],_,b,h=>by simp[GJ] at h
 |x::r,hs,b,h=>by
  simp only[GJ] at h;have ih:=Lm (n:=n) z r (λy hy=>hs y (BK _ hy)) b;split at h
  .exact ih h
  .rename_i G;rcases Bt.1 h with rfl|h
   .have O:=xY (n:=n) z x.A;have Q:=xY (n:=n) z x.B;have Z:=hs x (BQ ..);exact⟨⟨O.1,O.2,Q.1,Q.2⟩,G,Z.1,Z.2⟩
   .exact ih h
def Q9(s:Au)(a:A9)(t:Int):Bool×Bool:=
 if 64<(Dm a.Tiles.length (F6 s a a.Tiles.length) t).1 then (false,false)
 else (qJ (Dm a.Tiles.length (F6 s a a.Tiles.length) t).1 (Dm a.Tiles.length (F6 s a a.Tiles.length) t).2 t,true)
def Qz2(n:Nat)(bs:List Ag)(hn:0<n): ∀k,(∀v∈Ce n bs k,0<=v)/\(Ce n bs k)[0]? =some 0
 |0=>by
  refine⟨λv G=> ?_,vA n 0 hn⟩;obtain⟨i,O⟩:=Vo.1 G;have hl:=(Cu.1 O).1;simp only[Ce] at O hl;rw[vA n i (by rwa [bY] at hl)] at O
  have:=AB O
  omega
 |k+1=>by
  obtain⟨Q,h2⟩:=Qz2 n bs hn k;simp only[Ce];split
  .rename_i b hb;have z: ∀i:Nat,0<=(Ce n bs k)[i]?.getD 0:=by
    intro i;cases h:(Ce n bs k)[i]? with
    |none=>simp
    |some v=>exact Q v (Bf h)
   have hj: ∀x y v:Int,0<=x->0<=y->0<=v->0<=Jy x y v:=by
    intro x y v z hy G;simp only[Jy];by_cases h:v=Ei x y
    .rw[Ai h];simp only[EL];split<;>omega
    .rw[Af h];exact G
   have Z: ∀x y:Int,0<=x->0<=y->Jy x y 0=0:=by
    intro x y z hy;simp only[Jy];by_cases h:(0:Int)=Ei x y
    .rw[Ai h];simp only[Ei] at h;simp only[EL];split at h<;>split<;>omega
    .rw[Af h]
   refine⟨λv G=> ?_,?_⟩
   .obtain⟨u,hu,rfl⟩:=Bn.1 G;exact hj _ _ _ (z _) (z _) (Q u hu)
   .rw[pC,Dt,h2,D7,Z _ _ (z _) (z _)]
  .exact⟨Q,h2⟩
def Qab7{n:Nat}{bs:List Ag}{t:Int}(hn:0<n):0<(N5 n bs t).length:=by
 have h:=(Qz2 n (G9 t bs) hn (G9 t bs).length).2;obtain⟨z,G⟩:=Qo6 (Ce n (G9 t bs) (G9 t bs).length) n 0 h n (AP _) hn
 have:(((0:Nat):Int)::z)∈N5 n bs t:=by simpa only[N5,UU,Bj] using G
 exact List.length_pos_of_mem this
def Lx{n:Nat}{bs:List Ag}{t:Int}(O: ∀b∈bs,Kr n b)(hl:bs.length<=1000000)(Q:(Dm n bs t).1<=64):Mo (Dm n bs t):=by
 have Z:=Qpl (QB n (N5 n bs t)) bs;by_cases h0:0<(Dm n bs t).1
 .have G:=Lm (n:=n) (gs:=N5 n bs t) (by simp only[Dm] at h0;omega) bs (λb z=>⟨(O b z).2.2.1,(O b z).2.2.2⟩);refine⟨by omega,Q,by simp only[Dm,Bj];omega,λb z=> ?_,λb z=> ?_,λb z=> ?_⟩
  .have:=G b (by simpa only[Dm,Bj] using z)
   exact this.1
  .have:=G b (by simpa only[Dm,Bj] using z)
   have:=this.2.2
   omega
  .have:=G b (by simpa only[Dm,Bj] using z)
   exact this.2.1
 .have hn:bs=[]:=by
   cases bs with
   |nil=>rfl
   |cons b r=>
    exfalso;have h5:=(O b (BQ ..)).1;have h6:=Qab7 (n:=n) (bs:=b::r) (t:=t) (by omega);simp only[Dm] at h0;omega
  subst hn;refine⟨by simp only[Dm];omega,Q,by simp only[Dm,GJ];simp,λb z=> ?_,λb z=> ?_,λb z=> ?_⟩<;>(simp[Dm,GJ] at z)
def stabI.fv(a:Au×A9×Int):Bool×Bool:=(Q9) (a.1) (a.2.1) (a.2.2)
def stabI.row:AE:=CG (b3 (qR Au.d_le) (qR A9.d_le) qI) (r2 rB rB) (λa=>xD a.1 a.2.1/\a.2.1.Tiles.length<=512/\0<=a.2.2/\a.2.2<=1000000) stabI.fv
def stabI.q:=CH (R:=stabI.row) rfl
def stabI.ok:AI 87 stabI.row:=by
 refine Gy (tC bnds.ok (tC contr.ok (tC holds_.ok tN))) Tryz.func87 ?_;intro a z;simp only[Tryz.f87,Option.getD];simp only[ZZ,simprocAttr,Ab,stabI.fv,bnds.q,bnds.fv,bnds.re,contr.q,contr.fv,holds_.q,holds_.fv,BS,D.sc,D.scs,BJ,AQ];obtain⟨s,A,t⟩:=a;obtain⟨G,h2,O,Q⟩:=z;simp only at G h2 O Q⊢;have Z:=xA G.1 A A.Tiles.length (AP _);have hL:=nS s A A.Tiles.length;refine⟨G,⟨by omega,λb hb=>(Z b hb).1,by omega⟩,?_⟩;split
 .rename_i h;simp only[Q9];rw[Ai h]
 .rename_i h;refine⟨⟨Lx Z (by omega) (by omega),O,Q⟩,?_⟩;simp only[Q9];rw[Af h]
def Qz(s:Au)(a:A9)(t:Int):Bool×Int:=
 if (El s && Hw s a)=false then (false,1)
 else if Bw t 1 16=false then (false,2)
 else if (Q9 s a t).2=false then (false,4) else ((Q9 s a t).1,0)
def Qof{s:Au}{a:A9}(h:(El s && Hw s a)=true):xD s a/\a.Tiles.length<=512:=by
 rw[AW] at h;have G:=nL h.1;have z:=Qdg h.2;refine⟨⟨G,z.1,by omega,λx O=> ?_⟩,by omega⟩
 have:=(iC _ _ z.1.1 x O).1
 simp only[Ht,Bw,AW,Cy] at this;refine⟨?_,?_,?_,?_⟩<;>omega
def isStab.fv(a:Au×A9×Int):Bool×Int:=(Qz) (a.1) (a.2.1) (a.2.2)
def isStab.row:AE:=CG (b3 (qR Au.d_le) (qR A9.d_le) qI) (r2 rB rI) (λa=>bV a.1) isStab.fv
def isStab.q:=CH (R:=isStab.row) rfl
def isStab.ok:AI 49 isStab.row:=by
 refine Gy (tC ValidAssembly_.ok (tC isTemperature.ok (tC stabI.ok tN))) Tryz.func49 ?_;intro a z;simp only[Tryz.f49,Option.getD];simp only[ZZ,simprocAttr,Ab,isStab.fv,ValidAssembly_.q,ValidAssembly_.fv,isTemperature.q,isTemperature.fv,stabI.q,stabI.fv,BS,D.sc,D.scs,BJ,AQ];obtain⟨s,A,t⟩:=a;simp only at z⊢;refine⟨z,?_⟩;split
 .rename_i c1;simp only[Qz];rw[Ai c1]
 .rename_i c1;split
  .rename_i G;simp only[Qz];rw[Af c1,Ai G]
  .rename_i G;have Q:=Qof (s:=s) (a:=A) (by simpa using c1);have Z:Bw t 1 16=true:=by simpa using G
   simp only[Bw,AW,Cy] at Z;refine⟨⟨Q.1,Q.2,by omega,by omega⟩,?_⟩;split
   .rename_i O;simp only[Qz];rw[Af c1,Af G,Ai O]
   .rename_i O;simp only[Qz];rw[Af c1,Af G,Af O]
def oI(y:AF):Bool:=if y.Seed.Tiles.length=0 then false else ((Qz y.Set y.Seed y.Temperature).1 && decide ((Qz y.Set y.Seed y.Temperature).2=0))
def validI_.fv(a:AF):Bool:=(oI) a
def validI_.row:AE:=CG (b1 (qR AF.d_le)) rB (λa=>bV a.Set) validI_.fv
def validI_.ok:AI 19 validI_.row:=by
 refine Gy (tC isStab.ok tN) Tryz.func19 ?_;intro a z;simp only[Tryz.f19,Option.getD];simp only[ZZ,simprocAttr,Ab,validI_.fv,isStab.q,isStab.fv,BS,D.sc,D.scs,BJ,AQ];intro _;by_cases h:a.Seed.Tiles.length=0
 .rw[Ai (by omega)];simp only[oI];rw[Ai h]
 .rw[Af (by omega)];refine⟨z,?_⟩;simp only[oI];rw[Af h];split
  .rename_i c;rw[c,Ew]
  .rename_i c;rw[jJ] at c;rw[c,FP]
def Qv9(S:Nat->Bool)(nm:List Int): ∀(bs:List Ag),C8 S (GJ nm bs)=C8 S (Hv nm bs)
 |[]=>rfl
 |b::r=>by
  have ih:=Qv9 S nm r;simp only[GJ,Hv];split
  .exact ih
  .simp only[C8,ih];congr 1;obtain⟨x,hx⟩: ∃x,x=BN nm b.A:=⟨_,rfl⟩;obtain⟨y,hy⟩: ∃y,y=BN nm b.B:=⟨_,rfl⟩;rw[<-hx,<-hy];by_cases h:x<y
   .have G:EL x y=x:=Ai h;have z:Ei x y=y:=Af (by omega);rw[G,z]
   .have G:EL x y=y:=Af h;by_cases Q:y<x
    .have z:Ei x y=x:=Ai Q;rw[G,z];by_cases O:S x.toNat=S y.toNat
     .rw[Ai O,Ai O.symm]
     .rw[Af O,Af (Fz O)]
    .have z:Ei x y=y:=Af Q
     have:x=y:=by omega
     rw[G,z,this]
def Qxe(n:Nat)(nm:List Int)(bs:List Ag)(t:Int)(k:Nat):Wl n (GJ nm bs) t k↔Wl n (Hv nm bs) t k:=by
 simp only[Wl,Qv9]
def Uv{s:Au}{A:A9}{t:Int}(h:xD s A)(hl:A.Tiles.length<=512)(ht:0<=t):
 (Q9 s A t).2=decide ((cZ s A t).2=0)/\((Q9 s A t).2=true->(Q9 s A t).1=(cZ s A t).1):=by
 have O:=xA h.1 A A.Tiles.length (AP _);have hL:=nS s A A.Tiles.length;obtain⟨bs,hbs⟩: ∃bs,bs=F6 s A A.Tiles.length:=⟨_,rfl⟩;obtain⟨n,hn⟩: ∃n,n=A.Tiles.length:=⟨_,rfl⟩;rw[<-hn] at O hL hbs hl;rw[<-hbs] at O hL;have Q:(Dm n bs t).1=(Cf n bs t).1:=rfl;simp only[Q9,cZ,<-hn,<-hbs,Q];by_cases G:64<(Cf n bs t).1
 .rw[Ai G,Ai G];exact⟨rfl,λh=>by cases h⟩
 .rw[Af G,Af G];have z:=Lx (t:=t) O (by omega) (by rw[Q];omega);have hh:=Qtt (n:=(Cf n bs t).1.toNat) (bs:=(Dm n bs t).2) (t:=t) (λb hb=>by
   have:=z.2.2.2.1 b hb
   have h0:=z.1;rw[Q] at this h0;rw[Int.toNat_of_nonneg h0];exact this) z.2.2.2.2.1 ht
  by_cases h2:(Cf n bs t).1<2
  .rw[Ai h2];refine⟨rfl,λ_=> ?_⟩;simp only[qJ];rw[show (Cf n bs t).1.toNat - 1=0 by omega];rfl
  .rw[Af h2];refine⟨rfl,λ_=> ?_⟩;obtain⟨p1,p2⟩:=ME (t:=t) O (by omega) (by omega) (by omega);have hw:=(Qzk (n:=(Cf n bs t).1) (bs:=(Cf n bs t).2) p1 p2 ht ((Cf n bs t).1 - 1).toNat (by omega) (by omega)).2;have Z:=hh ((Cf n bs t).1.toNat - 1) (by omega);simp only[qJ];rw[show ((Cf n bs t).1 - 1).toNat=(Cf n bs t).1.toNat - 1 by omega] at hw⊢;have e:Wl (Cf n bs t).1.toNat (Dm n bs t).2 t ((Cf n bs t).1.toNat - 1)↔Wl (Cf n bs t).1.toNat (Cf n bs t).2 t ((Cf n bs t).1.toNat - 1):=Qxe _ _ _ _ _;rw[jK,Z,e,<-hw];simp
def lQ(y:AF):oI y=Ih y:=by
 simp only[oI,Ih];by_cases h:y.Seed.Tiles.length=0
 .rw[Ai h]
  have:y.Seed.Tiles=[]:=rD h
  simp[this]
 .rw[Af h];have he:y.Seed.Tiles.isEmpty=false:=by
   rw[ZeD];intro Z;rw[Z] at h;simp at h
  by_cases c1:(El y.Set && Hw y.Set y.Seed)=false
  .have e:Qz y.Set y.Seed y.Temperature=(false,1):=Ai c1;rw[e];rw[ZdW] at c1;rcases c1 with c1|c1<;>simp[c1]
  .have z:=c1;rw[Kj] at c1;have hp:=Qof (s:=y.Set) (a:=y.Seed) c1;rw[AW] at c1;rw[c1.1,c1.2,he];by_cases G:Bw y.Temperature 1 16=false
   .have e:Qz y.Set y.Seed y.Temperature=(false,2):=(Af z).trans (Ai G);rw[e,G];simp
   .have Q:=G;rw[Kj] at G;have ht:0<=y.Temperature:=by simp only[Bw,AW,Cy] at G;omega
    obtain⟨q1,q2⟩:=Uv hp.1 hp.2 ht;rw[G];simp only[Uu,W6,Ew];by_cases O:(Q9 y.Set y.Seed y.Temperature).2=false
    .have e:Qz y.Set y.Seed y.Temperature=(false,4):=(Af z).trans ((Af Q).trans (Ai O));rw[e,<-q1,O];simp
    .have e:Qz y.Set y.Seed y.Temperature=((Q9 y.Set y.Seed y.Temperature).1,0):=(Af z).trans ((Af Q).trans (Af O));rw[Kj] at O;rw[e,<-q1,O,q2 O];simp
def Eh(p:A7)(t:Int):List Al->List Al
 |[]=>[⟨p,t⟩]
 |x::r=>if Cb p x.At=true then ⟨p,t⟩::x::r else x::Eh p t r
def Mx(p:A7)(t:Int): ∀(l:List Al),GN p t false l++(if I3 p l=true then [] else [⟨p,t⟩])=Eh p t l
 |[]=>rfl
 |x::r=>by
  have ih:=Mx p t r;by_cases h:Cb p x.At=true
  .have e:I3 p (x::r)=true:=by simp only[I3,Ai h]
   simp only[e,B5,D6,GN,Eh,Ai h,pS]
  .have e:I3 p (x::r)=I3 p r:=by simp only[I3,Af h]
   simp only[e,GN,Eh,Af h,BG,ih]
def uS(a:A9)(p:A7)(t:Int):Gu a p t=⟨Eh p t a.Tiles⟩:=by simp only[Gu,Mx]
def Qkk(p:A7)(t:Int): ∀(l:List Al),(Eh p t l).length=l.length+1
 |[]=>rfl
 |x::r=>by simp only[Eh];split<;>simp[Qkk p t r]
def Qlc(p:A7)(t:Int)(y:Al): ∀(l:List Al),y∈Eh p t l↔y=⟨p,t⟩\/y∈l
 |[]=>by simp[Eh]
 |x::r=>by
  simp only[Eh];split
  .simp
  .simp only[Bt,Qlc p t y r];constructor
   .rintro (h|h|h)
    .exact .inr (.inl h)
    .exact .inl h
    .exact .inr (.inr h)
   .rintro (h|h|h)
    .exact .inr (.inl h)
    .exact .inl h
    .exact .inr (.inr h)
def T6(m:I7)(o:A9)(x:Al):Option A9:=
 if (m.Labels[x.Tile.toNat]?.getD 0)<0 then some o
 else if 0<=jT o (cC x.At m.Scale).1/\jT o (cC x.At m.Scale).1≠(m.Labels[x.Tile.toNat]?.getD 0) then none
 else if jT o (cC x.At m.Scale).1<0 then some (Gu o (cC x.At m.Scale).1 (m.Labels[x.Tile.toNat]?.getD 0)) else some o
def oD(o:A9):D:=if o.Tiles=[] then .sl true 0 [] else .sl false 3 (o.Tiles.map Al.c)
def tG(o:A9):A9.d [oD o]=some o:=by
 obtain⟨l⟩:=o;cases l with
 |nil=>rfl
 |cons x r=>simp only[oD];rw[Af (by simp)];exact A9.d_c ⟨x::r⟩
def PX(l:List Al):A9.d [.sl false 3 (l.map Al.c)]=some ⟨l⟩:=A9.d_c ⟨l⟩
def fF(o:A9)(p:A7)(t:Int):D.sl false 3 ((Gu o p t).Tiles.map Al.c)=oD (Gu o p t):=by
 rw[uS,oD,Af];intro h
 have:=Qkk p t o.Tiles
 simp only at h;rw[h] at this;simp at this
def Qws{s:Au}(h:El s=true):s.Tiles.length<=160:=by
 simp only[El,AW,Cy,Bw] at h;omega
end Go.Ae
