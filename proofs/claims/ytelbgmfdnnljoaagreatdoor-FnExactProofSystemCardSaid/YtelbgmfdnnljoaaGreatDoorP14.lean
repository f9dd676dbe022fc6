/- Lemmas. Conditions: none. -/
import Derived.Test.YtelbgmfdnnljoaaGreatDoorP13
set_option linter.all false
set_option maxHeartbeats 8000000
set_option maxRecDepth 100000
namespace Go.Ae
open Go.Proofs Go.Lib
def BF(g:List Ad)(t:List Tile):Ao:=(0,(true,.cells 76 [.own 1,.own 2,.mp 3]))::(1,(true,.arr 108 2 (g.map Ad.c)))::(2,(true,.arrA 98 2 (C4 10 t)))::(3,(true,.map ⟨false,[.str]⟩ (BX g)))::AG 10 t.length (Ca t)
def N2(g:List Ad)(t:List Tile)(j:Nat):Aj (BF g t) j=true↔j<4\/(10<=j/\j<10+t.length):=by
 simp only[Aj,BF,hget];rcases (by omega:j=0\/j=1\/j=2\/j=3\/4<=j) with rfl|rfl|rfl|rfl|h
 .simp
 .simp
 .simp
 .simp
 rw[AC _ _ (show 0≠j by omega),AC _ _ (show 1≠j by omega),AC _ _ (show 2≠j by omega),AC _ _ (show 3≠j by omega)];simp only[Bs];by_cases c:10<=j/\j<10+t.length
 .obtain⟨i,rfl⟩: ∃i,j=10+i:=⟨j - 10,by omega⟩;rw[DY _ _ _ _ (by omega)];simp;omega
 .rw[vY _ _ _ _ (by omega)];simp;omega
def mU(g:List Ad)(t:List Tile){H0:Ao}(h: ∀j,Aj (BF g t) j=true->Aj H0 j=true):BU H0 (BF g t):=by
 have hd: ∀j,(j<4\/(10<=j/\j<10+t.length))->Aj H0 j=true:=λj O=>h j ((N2 g t j).2 O)
 simp only[BF,BU];refine⟨λm z=> ?_,λm z=>by simp[Ac.nms] at z,λm z=> ?_,λm z=>by simp[Ac.nms] at z,ZX λi G m z=>by simp[Ca,Ac.nms] at z⟩
 .simp[Ac.nms,Aw,AV.nms] at z;exact hd m (by omega)
 .simp only[Ac.nms] at z;obtain⟨r,Q,z⟩:=EU.1 z;obtain⟨i,G,rfl⟩:=Bn.1 Q
  have:=Bk.1 G
  simp[Aw,AV.nms] at z;exact hd m (by omega)
def bB(g:List Ad)(t:List Tile){N:Nat}(h:10+t.length<=N):Av N (BF g t)=true:=by
 simp only[BF,Av];rw[N9 _ _ _ (λi=>by simp[Av,Ca]),Qp _ _ _ h];simp[AD,AV.bel];omega
def aV(g:List Ad)(t:List Tile){N:Nat}(h:10+t.length<=N):BB N (BF g t)=true:=by
 simp only[BF,BB];rw[N6 _ _ _ _ h];simp;omega
abbrev Y6:={a:Mk×ByteArray×List ByteArray//a.1.2.length<=1000/\a.2.2.length<=100}
def mfC.ca(a:Y6):List AV:=[.ptr 0 0,.im (.str a.1.2.1),.own 4]
def mfC.H0(a:Y6):Ao:=(4,(true,.arr 9 1 (a.1.2.2.map HW)))::BF a.1.1.1 a.1.1.2
def mfC.H1(a:Y6):Ao:=[(0,(true,.cells 76 [.own 1,.own 2003,.mp 3])),(2003,(true,.arrA 98 2 (C4 10 a.1.1.2++[[.im (.str a.1.2.1),.own 2001]]))),(2001,(true,.arr 2 1 ((a.1.2.2.map (E3 a.1.1.1)).map Ak)))]
def mfC.row:AE:=AL mfC.ca mfC.H0 2000 (λ_=>True) IQ (λa=> .im (.int .i64 a.1.1.2.length)) mfC.H1 20
def VP(a:Y6)(j:Nat):Aj (mfC.H0 a) j=true↔j<5\/(10<=j/\j<10+a.1.1.2.length):=by
 have h:=N2 a.1.1.1 a.1.1.2 j;simp only[Aj,mfC.H0,hget] at h⊢;by_cases z:j=4
 .subst z;simp
 .rw[AC _ _ (show 4≠j by omega)];simp only[Bs];rw[h];omega
def mfC.hbel(a:Y6):AD 2000 (mfC.ca a)=true:=by simp[mfC.ca,AD,AV.bel]
def mfC.hbH(a:Y6):Av 2000 (mfC.H0 a)=true:=by
 simp only[mfC.H0,Av];exact bB _ _ (by have:=a.2.1;omega)
def mfC.hkH(a:Y6):BB 2000 (mfC.H0 a)=true:=by
 simp only[mfC.H0,BB];rw[aV _ _ (by have:=a.2.1;omega)];rfl
def mfC.hnm(a:Y6):BU (mfC.H0 a) (mfC.H0 a):=by
 conv=>arg 2;unfold mfC.H0
 simp only[BU];refine⟨λm G=>by simp[Ac.nms] at G,mU _ _ λj z=> ?_⟩;rw[VP]
 have:=(N2 _ _ j).1 z
 omega
def aW{f:List AV->Option (List AV)}: ∀{a b a' b':List (List AV)},Aq f a=some a'->Aq f b=some b'->Aq f (a++b)=some (a'++b')
 |[],b,a',b',z,G=>by
  simp only[Aq,AM] at z;subst z;exact G
 |x::r,b,a',b',z,G=>by
  simp only[Aq] at z;cases hx:f x with
  |none=>rw[hx] at z;simp at z
  |some y=>
   rw[hx] at z;cases hr:Aq f r with
   |none=>rw[hr] at z;simp at z
   |some O=>
    rw[hr] at z;simp only[AM] at z;subst z
    have:=aW hr G
    simp only[BG,Aq,hx,this]
def bJ{π:List (Nat×Option Nat)}{b:Nat}{t:List Tile}(h: ∀i,i<t.length->pm π (b+i)=some (b+i)):FQ π (C4 b t) (C4 b t):=by
 rw[Wp];refine⟨rfl,λi Q r2 z O=> ?_⟩;obtain rfl:=AB (z.symm.trans O);have G:i<t.length:=by
  have:=(Cu.1 z).1
  simpa[C4] using this
 rw[C4,Dt,FN G] at z;obtain rfl:=AB z;simp only[Dp,mt,h i G,EO,E8]
def mfC.ok:AI 60 mfC.row:=by
 refine ow tN Tryz.func60 (exB:=λj=>Nat.ble 2000 j) (R:=λa r=>r= .im (.int .i64 a.1.1.2.length)) (λ_=>rfl)
  (λa=>⟨mfC.hbel a,mfC.hbH a,mfC.hkH a,mfC.hnm a⟩) (λa p hp=> ?_) (λa r h=>by subst h;exact Dh.refl _) ?_
 rotate_left
 intro a ag;simp only[Tryz.f60,Option.getD,mfC.ca,mfC.H0,BF,F3,EZ,F5,ET,Li,Hj];simp(maxSteps:=9^9)(disch:=omega)only[ZZ,simprocAttr,Ab,Ax,mfC.ca,mfC.H0,BF,F3,EZ,F5,ET,Li,Hj];rotate_left
 .simp only[mfC.H1,Bt,PM,Lk] at hp;rcases hp with rfl|rfl|rfl
  .exact .inl ⟨by simp only;omega,rfl,(VP _ _).2 (.inl (by simp only;omega))⟩
  .exact .inr ⟨by simp only;omega,by simp only;omega,rfl,rfl⟩
  .exact .inr ⟨by simp only;omega,by simp only;omega,rfl,rfl⟩
 obtain⟨⟨⟨g,t⟩,x,l⟩,p1,p2⟩:=a;simp only at p1 p2⊢;intro _;have O:Ba (AG 10 t.length (Ca t)) [2000]=AG 10 t.length (Ca t):=JQ (by omega);have G:Ba (AG 10 t.length (Ca t)) [2001]=AG 10 t.length (Ca t):=JQ (by omega);have aa:Ba (AG 10 t.length (Ca t)) [0]=AG 10 t.length (Ca t):=JQ (by omega);have af:Ba (AG 10 t.length (Ca t)) [2]=AG 10 t.length (Ca t):=JQ (by omega);refine AY.ren ⟨{k:Nat//k<=l.length},λk=>⟨[(14,.im (.int .i64 k.1)),(13,.im (.int .i64 l.length)),(12,.own 4),(7,.ptr 2000 0),(0,.ptr 0 0),(6,.im (.int .i64 0))],(2000,(true,.cells 98 [.im (.str x),.own 2001]))::(2001,(true,.arr 2 1 (((l.take k.1).map (E3 g)).map Ak)))::(4,(true,.arr 9 1 (l.map HW)))::BF g t,2002⟩,λk=>l.length - k.1,λk=>⟨?_,by simp⟩,⟨⟨0,Cz _⟩,[(2001,none)],?_⟩,λk=> ?_⟩
 .simp only[ZG,bB g t (show 10+t.length<=2002 by omega),aV g t (show 10+t.length<=2002 by omega)];simp
 .simp only[Eo,BD,Bq,O];refine Ny (A:=[_,_,_,_,_,_,_]) (λi=>10+i) (by simp[HO]) (by simp[Es,pm,Cr]) (λi z=>by simp only[pm];rw[Af (by omega)]) (λi j _ _ h=>by omega) (λm hm i z=>by simp[Es,pm] at hm;omega) ?_ ?_ (λi z=> ?_)
  .simp only[H4];simp(maxSteps:=9^9)(disch:=omega)only[ZZ,simprocAttr,Ab,Ax,mfC.ca,mfC.H0,BF,F3,EZ,F5,ET,Li,Hj,AS,AR]
  .simp only[ES];simp(maxSteps:=9^9)(disch:=omega)only[ZZ,simprocAttr,Ab,Ax,mfC.ca,mfC.H0,BF,F3,EZ,F5,ET,Li,Hj,AS,AR];exact bJ λi z=>by simp only[pm];rw[Af (by omega)]
  .simp only[CE,hget,AC _ _ (show 2000≠10+i by omega),AC _ _ (show 4≠10+i by omega),AC _ _ (show 0≠10+i by omega),AC _ _ (show 1≠10+i by omega),AC _ _ (show 2≠10+i by omega),AC _ _ (show 3≠10+i by omega),Bs];rw[DY _ _ _ _ z];exact⟨rfl,rfl⟩
 obtain⟨k,Z⟩:=k;have hw:IntKind.i64.wrap ((k:Int)+1)=((k+1:Nat):Int):=by rw[AA (by omega) (by omega)];omega
 simp only[BF];simp(maxSteps:=9^9)(disch:=omega)only[ZZ,simprocAttr,Ab,Ax,mfC.ca,mfC.H0,BF,F3,EZ,F5,ET,Li,Hj,sub,AO,F3,EZ,F5,ET,Li,Hj];refine⟨λQ=>⟨Q,Q,λv hv=> ?_⟩,λQ=> ?_⟩
 .have hr:((l.take k).map (E3 g)).map Ak++[[D.int .i64 (E3 g v)]]=((l.take (k+1)).map (E3 g)).map Ak:=by
   rw[qH hv,En,En];rfl
  have ah:(l.take k).length<=100:=by rw[Ck];omega
  have ai: ∀e,E3 g v=e->True:=λ_ _=>trivial
  refine Ss g v _ _ ?_ λhz=> ?_
  .simp(maxSteps:=9^9)(disch:=omega)only[ZZ,simprocAttr,Ab,Ax,mfC.ca,mfC.H0,BF,F3,EZ,F5,ET,Li,Hj,sub,AO,hr,hw,Bq,O,G];refine⟨by omega,⟨k+1,by omega⟩,[(2001,some 2003)],by simp only;omega,?_⟩;refine Ny (A:=[_,_,_,_,_,_,_]) (λi=>10+i) (by simp[HO]) (by simp[Es,pm,Cr]) (λi z=>by simp only[pm];rw[Af (by omega)]) (λi j _ _ h=>by omega) (λm hm i z=>by simp[Es,pm] at hm;omega) ?_ ?_ (λi z=> ?_)
   .simp only[H4];simp(maxSteps:=9^9)(disch:=omega)only[ZZ,simprocAttr,Ab,Ax,mfC.ca,mfC.H0,BF,F3,EZ,F5,ET,Li,Hj,AS,AR]
   .simp only[ES];simp(maxSteps:=9^9)(disch:=omega)only[ZZ,simprocAttr,Ab,Ax,mfC.ca,mfC.H0,BF,F3,EZ,F5,ET,Li,Hj,AS,AR];exact bJ λi z=>by simp only[pm];rw[Af (by omega)]
   .simp only[CE,hget,AC _ _ (show 2000≠10+i by omega),AC _ _ (show 2003≠10+i by omega),AC _ _ (show 2002≠10+i by omega),AC _ _ (show 4≠10+i by omega),AC _ _ (show 0≠10+i by omega),AC _ _ (show 1≠10+i by omega),AC _ _ (show 2≠10+i by omega),AC _ _ (show 3≠10+i by omega),Bs];rw[DY _ _ _ _ z];exact⟨rfl,rfl⟩
  .rw[hz] at hr;simp(maxSteps:=9^9)(disch:=omega)only[ZZ,simprocAttr,Ab,Ax,mfC.ca,mfC.H0,BF,F3,EZ,F5,ET,Li,Hj,sub,AO,hr,hw,Bq,O,G];refine⟨by omega,⟨k+1,by omega⟩,[(2001,some 2003)],by simp only;omega,?_⟩;refine Ny (A:=[_,_,_,_,_,_,_]) (λi=>10+i) (by simp[HO]) (by simp[Es,pm,Cr]) (λi z=>by simp only[pm];rw[Af (by omega)]) (λi j _ _ h=>by omega) (λm hm i z=>by simp[Es,pm] at hm;omega) ?_ ?_ (λi z=> ?_)
   .simp only[H4];simp(maxSteps:=9^9)(disch:=omega)only[ZZ,simprocAttr,Ab,Ax,mfC.ca,mfC.H0,BF,F3,EZ,F5,ET,Li,Hj,AS,AR]
   .simp only[ES];simp(maxSteps:=9^9)(disch:=omega)only[ZZ,simprocAttr,Ab,Ax,mfC.ca,mfC.H0,BF,F3,EZ,F5,ET,Li,Hj,AS,AR];exact bJ λi z=>by simp only[pm];rw[Af (by omega)]
   .simp only[CE,hget,AC _ _ (show 2000≠10+i by omega),AC _ _ (show 2003≠10+i by omega),AC _ _ (show 2002≠10+i by omega),AC _ _ (show 4≠10+i by omega),AC _ _ (show 0≠10+i by omega),AC _ _ (show 1≠10+i by omega),AC _ _ (show 2≠10+i by omega),AC _ _ (show 3≠10+i by omega),Bs];rw[DY _ _ _ _ z];exact⟨rfl,rfl⟩
 .obtain rfl:k=l.length:=by omega
  rw[IB];have ad:(C4 10 t).length=t.length:=by simp[C4]
  have ab:Ba (AG 10 t.length (Ca t)) [2,2002]=AG 10 t.length (Ca t):=Iw _ _ _ _ (λy hy=>by simp at hy;omega);refine⟨by omega,?_,by rw[oK];rfl,λ_=> ?_⟩
  .rw[QL,Qp _ _ _ (by omega)];simp[AD,AV.bel]
  simp only[Bq,aa,ab];have ac: ∀i,i<t.length->hget ((0,(true,Ac.cells 76 [AV.own 1,AV.own 2003,AV.mp 3]))::(2003,(true,Ac.arrA 98 2 (C4 10 t++[[AV.im (D.str x),AV.own 2001]])))::(2000,(true,Ac.cells 98 [AV.im (D.str x),AV.own 2001]))::(2001,(true,Ac.arr 2 1 (List.map Ak (List.map (E3 g) l))))::(4,(true,Ac.arr 9 1 (List.map HW l)))::(1,(true,Ac.arr 108 2 (List.map Ad.c g)))::(3,(true,Ac.map ⟨false,[.str]⟩ (BX g)))::AG 10 t.length (Ca t)) (10+i)=some (Ca t i):=λi z=>by
   simp only[hget,AC _ _ (show 0≠10+i by omega),AC _ _ (show 2003≠10+i by omega),AC _ _ (show 2000≠10+i by omega),AC _ _ (show 2001≠10+i by omega),AC _ _ (show 4≠10+i by omega),AC _ _ (show 1≠10+i by omega),AC _ _ (show 3≠10+i by omega),Bs];exact DY _ _ _ _ z
  refine⟨⟨by simp,by simp[IQ],by simp,by simp[IQ],by simp,qN _ _ _ _ _ λi z=> .inr (ac i z)⟩,by rw[DZ,ad];simp only[ZeW];rw[AA (by omega) (by omega)];omega,?_⟩;have Z: ∀m,(m<5\/(10<=m/\m<10+t.length)\/(2000<=m/\m<2020))->GU ((4,(true,Ac.arr 9 1 (List.map HW l)))::(0,(true,Ac.cells 76 [AV.own 1,AV.own 2,AV.mp 3]))::(1,(true,Ac.arr 108 2 (List.map Ad.c g)))::(2,(true,Ac.arrA 98 2 (C4 10 t)))::(3,(true,Ac.map ⟨false,[.str]⟩ (BX g)))::AG 10 t.length (Ca t)) 2000 20 (λj=>decide (2000<=j)) m=some m:=λm hm=>by
   have hd:=VP ⟨((g,t),x,l),p1,p2⟩ m;simp only[mfC.H0,BF] at hd;simp only[GU];by_cases c:m<5\/(10<=m/\m<10+t.length)
   .rw[hd.2 c];rfl
   .have hb:(decide (2000<=m) && (Nat.ble 2000 m && Nat.blt m (2000+20)))=true:=by
     simp only[AW,Cy,Gi,Ed];omega
    rw[hb,dR];rfl
  simp only[mfC.H1,E5];refine⟨⟨rfl,?_⟩,⟨rfl,?_⟩,⟨rfl,rfl⟩,trivial⟩
  .simp only[Cd,Aq,Bd,Z 1 (by omega),Z 2003 (by omega),Z 3 (by omega),kp];rfl
  .simp only[Cd];rw[aW (Qj (b:=10) (λi z=>Z (10+i) (by omega))) (b':=[[.im (.str x),.own 2001]]) (by simp only[Aq,Bd,Z 2001 (by omega),kp])];rfl
def MR{σ:Nat->Nat}{b:Nat}{t:List Tile}(h: ∀i,i<t.length->σ (b+i)=b+i):(C4 b t).map (AH σ)=C4 b t:=by
 simp only[C4,Km];refine Ii λi z=> ?_
 simp only[Function.comp,AH,AV.ren,h i (Bk.1 z)]
def eH(t:List Tile):List Nat:=[0,1,2,3,2002]++(List.range t.length).map (10+ ·)
def Xz{g:List Ad}{t:List Tile}{nm:ByteArray}{l:List ByteArray}{h:Nat->Option Am}{K:Ah}(p1:t.length<=1000)(p2:l.length<=100)
 (h0:h 0=some (true,.cells 76 [.own 1,.own 2,.mp 3]))(Q:h 1=some (true,.arr 108 2 (g.map Ad.c)))(Z:h 2=some (true,.arrA 98 2 (C4 10 t)))(h3:h 3=some (true,.map ⟨false,[.str]⟩ (BX g)))(h4:h 2002=some (true,.arr 9 1 (l.map HW)))
 (hf: ∀i,i<t.length->h (10+i)=some (Ca t i))
 (hK:K (.im (.int .i64 t.length)) {use:=eH t,kill:=[0,2],new:=[(0,(true,.cells 76 [.own 1,.own 2006,.mp 3])),(2006,(true,.arrA 98 2 (C4 10 t++[[.im (.str nm),.own 2004]]))),(2004,(true,.arr 2 1 ((l.map (E3 g)).map Ak)))],cnt:=20}):
 mfC.row [.ptr 0 0,.im (.str nm),.own 2002] h 2003 K:=by
 have s0: ∀j,j<2000->j≠4->B0 (λj=>if j=4 then 2002 else j) 2000 2003 j=j:=λj Q Z=>by simp only[B0];rw[Ai Q,Af Z]
 have s4:B0 (λj=>if j=4 then 2002 else j) 2000 2003 4=2002:=rfl;have sa:B0 (λj=>if j=4 then 2002 else j) 2000 2003 2003=2006:=rfl;have sb:B0 (λj=>if j=4 then 2002 else j) 2000 2003 2001=2004:=rfl;have z:=VP ⟨((g,t),nm,l),p1,p2⟩;refine⟨⟨((g,t),nm,l),p1,p2⟩,λj=>if j=4 then 2002 else j,eH t,[0,2],trivial,?_,?_,⟨?_,?_,?_,?_,?_⟩,?_⟩
 .simp only[mfC.ca,AH,AV.ren,s4,s0 0 (by omega) (by omega)]
 .simp only[mfC.H0,BF,D5,Ac.ren,AH,AV.ren,s4,s0 0 (by omega) (by omega),s0 1 (by omega) (by omega),s0 2 (by omega) (by omega),s0 3 (by omega) (by omega)];rw[MR (λi O=>s0 (10+i) (by omega) (by omega))];refine⟨h4,h0,Q,Z,h3,Nw λi O=> ?_⟩;rw[s0 (10+i) (by omega) (by omega),hf i O];rfl
 .intro i j O G e;have O:=(z i).1 O;have G:=(z j).1 G;simp only at O G e;split at e<;>split at e<;>omega
 .intro j G;have G:=(z j).1 G;simp only at G⊢
  split<;>omega
 .intro j G;have G:=(z j).1 G;simp only[eH] at G⊢;rw[Bz];rcases G with G|G
  .left;rcases (by omega:j=0\/j=1\/j=2\/j=3\/j=4) with rfl|rfl|rfl|rfl|rfl<;>simp
  .right;rw[Af (by omega)];exact Bn.2 ⟨j - 10,Bk.2 (by omega),by omega⟩
 .intro m hm;simp only[Bt,PM,Lk] at hm;rcases hm with rfl|rfl
  .exact⟨0,(z 0).2 (.inl (by omega)),rfl,rfl⟩
  .exact⟨2,(z 2).2 (.inl (by omega)),rfl,rfl⟩
 .intro j G hk;simp only[IQ,H8,PO] at hk;rcases hk with rfl|rfl<;>simp
 .have e:AX (B0 (λj=>if j=4 then 2002 else j) 2000 2003) (mfC.H1 ⟨((g,t),nm,l),p1,p2⟩)=[(0,(true,.cells 76 [.own 1,.own 2006,.mp 3])),(2006,(true,.arrA 98 2 (C4 10 t++[[.im (.str nm),.own 2004]]))),(2004,(true,.arr 2 1 ((l.map (E3 g)).map Ak)))]:=by
   simp only[mfC.H1,AX,Ac.ren,AH,AV.ren,sa,sb,s0 0 (by omega) (by omega),s0 1 (by omega) (by omega),s0 3 (by omega) (by omega),En,Bb,BD];rw[MR (λi O=>s0 (10+i) (by omega) (by omega))]
  rw[e];exact hK
abbrev Vx:={a:Mk×(Au×Nat)×Nat×Nat//a.1.2.length<=900}
def jV(a:Vx):List ByteArray:=[NX a.1.2.1.1 a.1.2.1.2 a.1.2.2.1 (a.1.2.2.2 % a.1.2.1.2) (a.1.2.2.2/a.1.2.1.2),NY a.1.2.1.1 a.1.2.1.2 a.1.2.2.1 (a.1.2.2.2 % a.1.2.1.2) (a.1.2.2.2/a.1.2.1.2),NZ a.1.2.1.1 a.1.2.2.1 (a.1.2.2.2 % a.1.2.1.2) (a.1.2.2.2/a.1.2.1.2),Oa a.1.2.1.1 a.1.2.2.1 (a.1.2.2.2 % a.1.2.1.2) (a.1.2.2.2/a.1.2.1.2)]
def clC.ca(a:Vx):List AV:=[Ch a.1.2.1.1 a.1.2.1.2,.im (.int .i64 a.1.2.2.1),.im (.agg [.int .i64 ((a.1.2.2.2 % a.1.2.1.2:Nat):Int),.int .i64 ((a.1.2.2.2/a.1.2.1.2:Nat):Int)])]
def clC.H0(a:Vx):Ao:=BF a.1.1.1 a.1.1.2
def clC.H1(a:Vx):Ao:=[(0,(true,.cells 76 [.own 1,.own 2006,.mp 3])),(2006,(true,.arrA 98 2 (C4 10 a.1.1.2++[[.im (.str (Cg ⟨#[112]⟩ (a.1.2.2.1:Nat) ((a.1.2.2.2 % a.1.2.1.2:Nat):Int) ((a.1.2.2.2/a.1.2.1.2:Nat):Int))),.own 2004]]))),(2004,(true,.arr 2 1 (((jV a).map (E3 a.1.1.1)).map Ak)))]
def clC.pre(a:Vx):Prop:=CY a.1.2.1.1/\(a.1.2.1.1.Glues.length<=1000/\a.1.2.1.1.Tiles.length<=1000)/\(1<=a.1.2.1.2/\a.1.2.1.2<=4)/\a.1.2.2.1<a.1.2.1.1.Tiles.length/\a.1.2.2.2<a.1.2.1.2*a.1.2.1.2
def clC.row:AE:=AL clC.ca clC.H0 2000 clC.pre IQ (λ_=> .im (.tup [])) clC.H1 200
def clC.hbel(a:Vx):AD 2000 (clC.ca a)=true:=by simp[clC.ca,Ch,AD,AV.bel]
def clC.hbH(a:Vx):Av 2000 (clC.H0 a)=true:=bB _ _ (by have:=a.2;omega)
def clC.hkH(a:Vx):BB 2000 (clC.H0 a)=true:=aV _ _ (by have:=a.2;omega)
def clC.hnm(a:Vx):BU (clC.H0 a) (clC.H0 a):=mU _ _ λ_ h=>h
def iY:=J @bkn_.q @bkn_.fv.eq_1
def clC.ok:AI 26 clC.row:=by
 refine ow (tC bkn_.ok (tC botC.ok (tC mfC.ok tN))) Tryz.func26 (exB:=λj=>Nat.ble 2000 j) (R:=λa r=>r= .im (.tup [])) (λ_=>rfl)
  (λa=>⟨clC.hbel a,clC.hbH a,clC.hkH a,clC.hnm a⟩) (λa p hp=> ?_) (λa r h=>by subst h;exact Dh.refl _) ?_
 rotate_left
 intro a ab;simp only[Tryz.f26,Option.getD,clC.ca,clC.H0,BF,Ch,Bq];simp(maxSteps:=9^9)(disch:=omega)only[ZZ,simprocAttr,Ab,iY,Ax,clC.ca,clC.H0,BF,Ch,Bq];rotate_left
 .simp only[clC.H1,Bt,PM,Lk] at hp;rcases hp with rfl|rfl|rfl
  .exact .inl ⟨by simp only;omega,rfl,(N2 _ _ _).2 (.inl (by simp only;omega))⟩
  .exact .inr ⟨by simp only;omega,by simp only;omega,rfl,rfl⟩
  .exact .inr ⟨by simp only;omega,by simp only;omega,rfl,rfl⟩
 obtain⟨⟨⟨g,t⟩,⟨s,n⟩,i,c⟩,p1⟩:=a;obtain⟨Z,⟨h2,h3⟩,hn,h5,h6⟩:=ab;simp only at p1 Z h2 h3 hn h5 h6⊢;have d2:=Zm c (show n>0 by omega);have d1:c/n<n:=by rcases (by omega:n=1\/n=2\/n=3\/n=4) with rfl|rfl|rfl|rfl<;>omega
 simp only[clC.H1,jV];generalize c % n=x at*;generalize c/n=y at*;have G:IntKind.i64.wrap ((n:Int) - 1)=((n - 1:Nat):Int):=by rw[AA (by omega) (by omega)];omega
 have O:IntKind.i64.wrap ((x:Int) - 1)=(x:Int) - 1:=AA (by omega) (by omega);have Q:IntKind.i64.wrap ((y:Int) - 1)=(y:Int) - 1:=AA (by omega) (by omega);have ac:(⟨#[104]⟩:ByteArray).size=1:=rfl;have ad:(⟨#[118]⟩:ByteArray).size=1:=rfl;have af:(⟨#[112]⟩:ByteArray).size=1:=rfl;simp only[G,O,Q];refine⟨⟨by omega,by omega,by omega,by omega⟩,⟨by omega,by omega,by omega,by omega⟩,⟨by omega,by omega,by omega,by omega⟩,⟨by omega,by omega,by omega,by omega⟩,?_⟩;by_cases c0:y=n - 1<;>by_cases c1:y=0<;>by_cases c2:x=n - 1<;>by_cases c3:x=0
 any_goals (exfalso;omega)
 all_goals first
  |(rw[Ai (by omega)]
    refine AL.o0 ((s,(n:Int)),(i:Int),0,(x:Int)) (λ_=>0) ⟨Z,h2,⟨by simp only;omega,by simp only;omega⟩,⟨by simp only;omega,by simp only;omega⟩,by simp only;omega,by simp only;omega⟩ rfl (by simp[botC.ca,Ch,AH,AV.ren,B0]) ?_;simp(maxSteps:=9^9)(disch:=omega)only[ZZ,simprocAttr,Ab,iY,Ax,clC.ca,clC.H0,BF,Ch,Bq,sub,Bj,G,O,Q])
  |rw[Af (by omega)]
 all_goals first
  |(rw[Ai (by omega)]
    refine AL.o0 ((s,(n:Int)),(i:Int),2,(x:Int)) (λ_=>0) ⟨Z,h2,⟨by simp only;omega,by simp only;omega⟩,⟨by simp only;omega,by simp only;omega⟩,by simp only;omega,by simp only;omega⟩ rfl (by simp[botC.ca,Ch,AH,AV.ren,B0]) ?_;simp(maxSteps:=9^9)(disch:=omega)only[ZZ,simprocAttr,Ab,iY,Ax,clC.ca,clC.H0,BF,Ch,Bq,sub,Bj,G,O,Q])
  |rw[Af (by omega)]
 all_goals first
  |(rw[Ai (by omega)]
    refine AL.o0 ((s,(n:Int)),(i:Int),1,(y:Int)) (λ_=>0) ⟨Z,h2,⟨by simp only;omega,by simp only;omega⟩,⟨by simp only;omega,by simp only;omega⟩,by simp only;omega,by simp only;omega⟩ rfl (by simp[botC.ca,Ch,AH,AV.ren,B0]) ?_;simp(maxSteps:=9^9)(disch:=omega)only[ZZ,simprocAttr,Ab,iY,Ax,clC.ca,clC.H0,BF,Ch,Bq,sub,Bj,G,O,Q])
  |rw[Af (by omega)]
 all_goals first
  |(rw[Ai (by omega)]
    refine AL.o0 ((s,(n:Int)),(i:Int),3,(y:Int)) (λ_=>0) ⟨Z,h2,⟨by simp only;omega,by simp only;omega⟩,⟨by simp only;omega,by simp only;omega⟩,by simp only;omega,by simp only;omega⟩ rfl (by simp[botC.ca,Ch,AH,AV.ren,B0]) ?_;simp(maxSteps:=9^9)(disch:=omega)only[ZZ,simprocAttr,Ab,iY,Ax,clC.ca,clC.H0,BF,Ch,Bq,sub,Bj,G,O,Q])
  |rw[Af (by omega)]
 all_goals
  refine⟨⟨by omega,by omega,by omega,by omega⟩,?_⟩;refine Xz (g:=g) (t:=t) (l:=[NX s n i x y,NY s n i x y,NZ s i x y,Oa s i x y]) (by omega) (by simp) rfl rfl rfl rfl ?_ (λq hq=> ?_) ?_
  .simp only[Bb,BD,HW,NX,NY,NZ,Oa]
   first|rw[Ai c0]|rw[Af c0]
   first|rw[Ai c1]|rw[Af c1,show ((y - 1:Nat):Int)=(y:Int) - 1 by omega]
   first|rw[Ai c2]|rw[Af c2]
   first|rw[Ai c3]|rw[Af c3,show ((x - 1:Nat):Int)=(x:Int) - 1 by omega]
   rfl
  .simp only[hget,AC _ _ (show 2002≠10+q by omega),AC _ _ (show 2001≠10+q by omega),AC _ _ (show 2000≠10+q by omega),AC _ _ (show 0≠10+q by omega),AC _ _ (show 1≠10+q by omega),AC _ _ (show 2≠10+q by omega),AC _ _ (show 3≠10+q by omega),Bs];exact DY _ _ _ _ hq
  .have aa:Ba (AG 10 t.length (Ca t)) [0,2]=AG 10 t.length (Ca t):=Iw _ _ _ _ (λz hz=>by simp at hz;omega);simp(maxSteps:=9^9)(disch:=omega)only[ZZ,simprocAttr,Ab,iY,Ax,clC.ca,clC.H0,BF,Ch,Bq,sub,aa];have hk: ∀m,(m<4\/(10<=m/\m<10+t.length)\/(2000<=m/\m<2200))->GU ((0,(true,Ac.cells 76 [AV.own 1,AV.own 2,AV.mp 3]))::(1,(true,Ac.arr 108 2 (List.map Ad.c g)))::(2,(true,Ac.arrA 98 2 (C4 10 t)))::(3,(true,Ac.map ⟨false,[.str]⟩ (BX g)))::AG 10 t.length (Ca t)) 2000 200 (λj=>decide (2000<=j)) m=some m:=λm hm=>by
    have hd:=N2 g t m;simp only[BF] at hd;simp only[GU];by_cases c:m<4\/(10<=m/\m<10+t.length)
    .rw[hd.2 c];rfl
    .have hb:(decide (2000<=m) && (Nat.ble 2000 m && Nat.blt m (2000+200)))=true:=by
      simp only[AW,Cy,Gi,Ed];omega
     rw[hb,dR];rfl
   refine⟨?_,⟨by simp only[Hj],by simp only[Hj]⟩,⟨by simp[IQ],by simp,by simp[IQ],by simp,qN _ _ _ _ _ λq hq=> .inr ?_⟩,?_⟩
   .rw[QL,Qp _ _ _ (by omega)];simp[AD,AV.bel]
   .simp only[hget,AC _ _ (show 0≠10+q by omega),AC _ _ (show 2006≠10+q by omega),AC _ _ (show 2004≠10+q by omega),AC _ _ (show 2002≠10+q by omega),AC _ _ (show 2001≠10+q by omega),AC _ _ (show 2000≠10+q by omega),AC _ _ (show 1≠10+q by omega),AC _ _ (show 3≠10+q by omega),Bs];exact DY _ _ _ _ hq
   .rw[aW (Qj (b:=10) (λq hq=>hk (10+q) (by omega))) (b':=[[.im (.str (Cg ⟨#[112]⟩ (i:Nat) (x:Nat) (y:Nat))),.own 2004]]) (by simp only[Aq,Bd,hk 2004 (by omega),kp])];rfl
def mW{σ:Nat->Nat}{b F:Nat}{t:List Tile}(h: ∀i,i<t.length->σ (b+i)=F+i):(C4 b t).map (AH σ)=C4 F t:=by
 simp only[C4,Km];refine Ii λi z=> ?_
 simp only[Function.comp,AH,AV.ren,h i (Bk.1 z)]
def J7(M Gn Tn Pn F:Nat)(j:Nat):Nat:=if j=0 then M else if j=1 then Gn else if j=2 then Tn else if j=3 then Pn else F+(j - 10)
def clU(M Gn Tn Pn F:Nat)(t:List Tile):List Nat:=[M,Gn,Tn,Pn]++(List.range t.length).map (F+ ·)
def WJ{g:List Ad}{t:List Tile}{s:Au}{n i c M Gn Tn Pn F nx:Nat}{h:Nat->Option Am}{K:Ah}(p1:t.length<=900)(Q:clC.pre ⟨((g,t),(s,n),i,c),p1⟩)
 (hd:M≠Gn/\M≠Tn/\M≠Pn/\Gn≠Tn/\Gn≠Pn/\Tn≠Pn)(ab:M<F/\Gn<F/\Tn<F/\Pn<F)(ac:F+t.length<=nx)
 (h0:h M=some (true,.cells 76 [.own Gn,.own Tn,.mp Pn]))(h1:h Gn=some (true,.arr 108 2 (g.map Ad.c)))(h2:h Tn=some (true,.arrA 98 2 (C4 F t)))(h3:h Pn=some (true,.map ⟨false,[.str]⟩ (BX g)))
 (hf: ∀i,i<t.length->h (F+i)=some (Ca t i))
 (hK:K (.im (.tup [])) {use:=clU M Gn Tn Pn F t,kill:=[M,Tn],new:=[(M,(true,.cells 76 [.own Gn,.own (nx+6),.mp Pn])),(nx+6,(true,.arrA 98 2 (C4 F t++[[.im (.str (Cg ⟨#[112]⟩ (i:Nat) ((c % n:Nat):Int) ((c/n:Nat):Int))),.own (nx+4)]]))),(nx+4,(true,.arr 2 1 (((jV ⟨((g,t),(s,n),i,c),p1⟩).map (E3 g)).map Ak)))],cnt:=200}):
 clC.row [.agg [.ptr M 0,.im (.sl false 2 (s.Glues.map Ad.c)),.im (.sl false 2 (s.Tiles.map Tile.c)),.im (.int .i64 n)],.im (.int .i64 i),.im (.agg [.int .i64 ((c % n:Nat):Int),.int .i64 ((c/n:Nat):Int)])] h nx K:=by
 have s0:B0 (J7 M Gn Tn Pn F) 2000 nx 0=M:=rfl;have s1:B0 (J7 M Gn Tn Pn F) 2000 nx 1=Gn:=rfl;have s2:B0 (J7 M Gn Tn Pn F) 2000 nx 2=Tn:=rfl;have s3:B0 (J7 M Gn Tn Pn F) 2000 nx 3=Pn:=rfl;have sf: ∀q,q<t.length->B0 (J7 M Gn Tn Pn F) 2000 nx (10+q)=F+q:=λq hq=>by
  simp only[B0,J7];rw[Ai (by omega),Af (by omega),Af (by omega),Af (by omega),Af (by omega)];omega
 have sa:B0 (J7 M Gn Tn Pn F) 2000 nx 2006=nx+6:=rfl;have sb:B0 (J7 M Gn Tn Pn F) 2000 nx 2004=nx+4:=rfl;have z: ∀j,Aj (clC.H0 ⟨((g,t),(s,n),i,c),p1⟩) j=true↔j<4\/(10<=j/\j<10+t.length):=λj=>N2 g t j
 have Z: ∀j,(j<4\/(10<=j/\j<10+t.length))->J7 M Gn Tn Pn F j=M/\j=0\/J7 M Gn Tn Pn F j=Gn/\j=1\/J7 M Gn Tn Pn F j=Tn/\j=2\/J7 M Gn Tn Pn F j=Pn/\j=3\/10<=j/\J7 M Gn Tn Pn F j=F+(j - 10):=λj G=>by
  rcases (by omega:j=0\/j=1\/j=2\/j=3\/10<=j) with rfl|rfl|rfl|rfl|aa
  .exact .inl ⟨rfl,rfl⟩
  .exact .inr (.inl ⟨rfl,rfl⟩)
  .exact .inr (.inr (.inl ⟨rfl,rfl⟩))
  .exact .inr (.inr (.inr (.inl ⟨rfl,rfl⟩)))
  .refine .inr (.inr (.inr (.inr ⟨aa,?_⟩)));simp only[J7];rw[Af (by omega),Af (by omega),Af (by omega),Af (by omega)]
 refine⟨⟨((g,t),(s,n),i,c),p1⟩,J7 M Gn Tn Pn F,clU M Gn Tn Pn F t,[M,Tn],Q,?_,?_,⟨?_,?_,?_,?_,?_⟩,?_⟩
 .simp only[clC.ca,Ch,AH,AV.ren,s0]
 .simp only[clC.H0,BF,D5,Ac.ren,AH,AV.ren,s0,s1,s2,s3];rw[mW sf];refine⟨h0,h1,h2,h3,Nw λq hq=> ?_⟩;rw[sf q hq,hf q hq];rfl
 .intro a b ha hb e;have ha:=Z a ((z a).1 ha);have hb:=Z b ((z b).1 hb);omega
 .intro j G;have O:=(z j).1 G;have G:=Z j O;omega
 .intro j G;have O:=(z j).1 G;have G:=Z j O;simp only[clU];rw[Bz];rcases G with G|G|G|G|G
  .left;rw[G.1];simp
  .left;rw[G.1];simp
  .left;rw[G.1];simp
  .left;rw[G.1];simp
  .right;exact Bn.2 ⟨j - 10,Bk.2 (by omega),by rw[G.2]⟩
 .intro m hm;simp only[Bt,PM,Lk] at hm;rcases hm with rfl|rfl
  .exact⟨0,(z 0).2 (.inl (by omega)),rfl,rfl⟩
  .exact⟨2,(z 2).2 (.inl (by omega)),rfl,rfl⟩
 .intro j G hk;simp only[IQ,H8,PO] at hk;rcases hk with rfl|rfl
  .show M∈[M,Tn];simp
  .show Tn∈[M,Tn];simp
 .have e:AX (B0 (J7 M Gn Tn Pn F) 2000 nx) (clC.H1 ⟨((g,t),(s,n),i,c),p1⟩)=[(M,(true,.cells 76 [.own Gn,.own (nx+6),.mp Pn])),(nx+6,(true,.arrA 98 2 (C4 F t++[[.im (.str (Cg ⟨#[112]⟩ (i:Nat) ((c % n:Nat):Int) ((c/n:Nat):Int))),.own (nx+4)]]))),(nx+4,(true,.arr 2 1 (((jV ⟨((g,t),(s,n),i,c),p1⟩).map (E3 g)).map Ak)))]:=by
   simp only[clC.H1,AX,Ac.ren,AH,AV.ren,sa,sb,s0,s1,s3,En,Bb,BD];rw[mW sf]
  rw[e];exact hK
def HI(s:Au)(n m:Nat):List Tile:=(List.range m).map (Kq s n)
def Vs(s:Au)(n i:Nat):Am:=(true,.arr 2 1 ((Kq s n i).Sides.map Ak))
def HG(s:Au)(n:Nat)(G:Nat->Nat)(m:Nat):List (List AV):=(List.range m).map λi=>[.im (.str (Kq s n i).Name),.own (G i)]
def JU(s:Au)(n m:Nat):(HI s n m).length=m:=by simp[HI]
def Lr{s:Au}{n m i:Nat}(h:i<m):(HI s n m)[i]? =some (Kq s n i):=by
 rw[HI,Dt,FN h];rfl
def Kp{s:Au}{n m i:Nat}(h:i<m):Ca (HI s n m) i=Vs s n i:=by
 simp only[Ca,Lr h,Vs,D7,AT]
def VU(s:Au)(n F m:Nat):C4 F (HI s n m)=HG s n (λi=>F+i) m:=by
 simp only[C4,HG,JU];refine Ii λi z=> ?_
 rw[Lr (Bk.1 z)];rfl
def Rd(s:Au)(n m:Nat)(G:Nat->Nat):HG s n G (m+1)=HG s n G m++[[.im (.str (Kq s n m).Name),.own (G m)]]:=F4 _ _
def Rc{s:Au}{n m:Nat}{G H:Nat->Nat}(h: ∀i,i<m->G i=H i):HG s n G m=HG s n H m:=by
 simp only[HG];exact Ii λi z=>by rw[h i (Bk.1 z)]
def Rb{s:Au}{n m i:Nat}{G:Nat->Nat}{r:List AV}(h:(HG s n G m)[i]? =some r):i<m/\r=[.im (.str (Kq s n i).Name),.own (G i)]:=by
 have z:i<m:=by
  have:=(Cu.1 h).1
  simpa[HG] using this
 rw[HG,Dt,FN z] at h;exact⟨z,(AB h).symm⟩
def bL{s:Au}{n m N:Nat}{G:Nat->Nat}(h: ∀i,i<m->G i<N):(HG s n G m).all (AD N)=true:=by
 rw[CM];intro r O;obtain⟨i,z,rfl⟩:=Bn.1 O;simp[AD,AV.bel,h i (Bk.1 z)]
def bK{π:List (Nat×Option Nat)}{s:Au}{n m F:Nat}{G:Nat->Nat}(h: ∀i,i<m->pm π (F+i)=some (G i)):FQ π (HG s n (λi=>F+i) m) (HG s n G m):=by
 rw[Wp];refine⟨by simp[HG],λi Z r2 z O=> ?_⟩;obtain⟨Q,rfl⟩:=Rb z;obtain⟨_,rfl⟩:=Rb O;simp only[Dp,mt,h i Q,EO,E8]
def fO(F m:Nat)(G:Nat->Nat):List (Nat×Option Nat):=(List.range m).map λi=>(F+i,some (G i))
def VM(F m:Nat)(G:Nat->Nat)(x:Nat):pm (fO F m G) x=if F<=x/\x<F+m then some (G (x - F)) else some x:=by
 have Q: ∀l:List Nat,pm (l.map λi=>(F+i,some (G i))) x=if F<=x/\x - F∈l then some (G (x - F)) else some x:=by
  intro l;induction l with
  |nil=>simp[pm]
  |cons a r ih=>
   simp only[Bb,pm];by_cases c:F+a=x
   .subst c;rw[Ai rfl,Ai ⟨by omega,by simp⟩];rw[show F+a - F=a by omega]
   .rw[Af c,ih];by_cases O:F<=x/\x - F∈r
    .rw[Ai O,Ai ⟨O.1,BK _ O.2⟩]
    .rw[Af O,Af];rintro⟨Z,z⟩;rcases Bt.1 z with z|z
     .omega
     .exact O ⟨Z,z⟩
 rw[fO,Q];by_cases c:F<=x/\x<F+m
 .rw[Ai c,Ai ⟨c.1,Bk.2 (by omega)⟩]
 .rw[Af c,Af];rintro⟨Z,z⟩
  have:=Bk.1 z
  omega
def LD{lo F m:Nat}{G:Nat->Nat}(h:lo<=F):HO lo (fO F m G):=by
 have z: ∀l:List Nat,HO lo (l.map λi=>(F+i,some (G i))):=by
  intro l;induction l with
  |nil=>trivial
  |cons a r ih=>exact⟨by omega,ih⟩
 exact z _
def OF{s:Au}{n:Nat}(hn:1<=n/\n<=4)(h1:s.Glues.length<=1000)(h2:s.Tiles.length<=1000):bV ⟨Dg s n,KE s n⟩:=by
 have z1:(⟨#[103]⟩:ByteArray).size=1:=rfl;have z2:(⟨#[104]⟩:ByteArray).size=1:=rfl;have z3:(⟨#[118]⟩:ByteArray).size=1:=rfl;have z4:(⟨#[112]⟩:ByteArray).size=1:=rfl;refine⟨λg O=> ?_,λt Z=> ?_⟩
 .simp only[Dg,Bn,Bk] at O;obtain⟨j,Q,rfl⟩:=O;rcases VQ hn Q with ⟨i,c,q1,z,rfl⟩|⟨i,x,y,q1,z,G,rfl⟩|⟨i,x,y,q1,z,G,rfl⟩
  .rw[FV hn q1 z]
   have:=bA (w:=⟨#[103]⟩) (a:=((i+1:Nat):Int)) (b:=(c:Nat)) (by omega) (by omega) (by omega) (by omega)
   simp only;omega
  .rw[FW hn z G]
   have:=bM (w:=⟨#[104]⟩) (a:=(i:Nat)) (b:=(x:Nat)) (c:=(y:Nat)) (by omega) (by omega) (by omega)
   simp only;omega
  .rw[FX hn z G]
   have:=bM (w:=⟨#[118]⟩) (a:=(i:Nat)) (b:=(x:Nat)) (c:=(y:Nat)) (by omega) (by omega) (by omega)
   simp only;omega
 .simp only[KE,Bn,Bk] at Z;obtain⟨j,Q,rfl⟩:=Z;have aa:j<16000:=by
   rcases (by omega:n=1\/n=2\/n=3\/n=4) with rfl|rfl|rfl|rfl<;>omega
  have b1:=Zk j (n*n);have b2:=Nat.mod_le j (n*n);have b3:=Nat.mod_le (j % (n*n)) n;have b4:=Zk (j % (n*n)) n;simp only[Kq];generalize j/(n*n)=u at*;generalize j % (n*n)=v at*;generalize v % n=p at*;generalize v/n=r at*
  have:=bM (w:=⟨#[112]⟩) (a:=(u:Nat)) (b:=(p:Nat)) (c:=(r:Nat)) (by omega) (by omega) (by omega)
  omega
def DX:D:= .agg [.sl true 0 [],.sl true 0 [],.sl true 0 [],.int .i64 0]
def prfC.ca(a:AF×Int):List AV:=[.im (.agg (AF.c a.1)),.im (.int .i64 a.2)]
def prfC.r0(a:AF×Int):AV:=if (Bm a.1 a.2).2=0 then .tup [.agg [.own 144,.own 300,.own 26,.im (.int .i64 2)],.im (.int .i64 0)] else .im (.tup [DX,.int .i64 (Bm a.1 a.2).2])
def prfC.H1(a:AF×Int):Ao:=if (Bm a.1 a.2).2=0 then (144,(true,.arr 108 2 ((Bm a.1 a.2).1.Set.Glues.map Ad.c)))::(300,(true,.arrA 98 2 (C4 301 (Bm a.1 a.2).1.Set.Tiles)))::(26,(true,.arr 89 3 ((Bm a.1 a.2).1.Seed.Tiles.map Al.c)))::AG 301 (min (Bm a.1 a.2).1.Set.Tiles.length 1048576) (Ca (Bm a.1 a.2).1.Set.Tiles) else []
def N3{s:AF}{k:Int}{c:Int}(h:Bm s k=(⟨⟨[],[]⟩,⟨[]⟩,0⟩,c))(z:c≠0):prfC.r0 (s,k)= .im (.tup [DX,.int .i64 c])/\prfC.H1 (s,k)=[]:=by
 simp only[prfC.r0,prfC.H1,h];rw[Af z,Af z];exact⟨rfl,rfl⟩
def prfC.row:AE:=AL prfC.ca (λ_=>[]) 0 (λa=>bV a.1.Set) (λ_=>false) prfC.r0 prfC.H1 2000013
def GC:=J @blockSizeOk.q<|J @blockSizeOk.fv.eq_1<|J @cls_.q @cls_.fv.eq_1
def prfC.ok:AI 7 prfC.row:=by
 refine ow (tC validI_.ok (tC blockSizeOk.ok (tC nmC.ok (tC scuC.ok (tC bszC.ok (tC bglC.ok (tC cls_.ok (tC clC.ok tN)))))))) Tryz.func7 (exB:=λj=>Nat.ble 1 j) (R:=λa r=>r=prfC.r0 a) (λ_=>rfl)
  (λa=>by simp[prfC.ca,AF.c,AD,AV.bel,Av,BB,BU,Ac.nms,Aw,AV.nms,Aj,hget]) (λa p hp=> ?_) (λa r h=>by subst h;exact Dh.refl _) ?_
 rotate_left
 intro a af;simp only[Tryz.f7,Option.getD,prfC.ca,AF.c];simp(maxSteps:=9^9)(disch:=omega)only[ZZ,simprocAttr,Ab,GC,Ax,prfC.ca,AF.c];rotate_left
 .simp only[prfC.H1] at hp;split at hp
  .simp only[Bt,AG,Bn,Bk] at hp;rcases hp with rfl|rfl|rfl|⟨i,hi,rfl⟩
   .exact .inr ⟨by omega,by simp only;omega,rfl,rfl⟩
   .exact .inr ⟨by omega,by simp only;omega,rfl,rfl⟩
   .exact .inr ⟨by omega,by simp only;omega,rfl,rfl⟩
   .exact .inr ⟨by simp only;omega,by simp only;omega,by simp only[Gi];omega,rfl⟩
  .cases hp
 obtain⟨s,k⟩:=a;simp only at af⊢;unfold validI_.row CG;refine vF.call [.val (.agg (AF.c s))] rfl s (JR s) af ?_;simp(maxSteps:=9^9)(disch:=omega)only[ZZ,simprocAttr,Ab,GC,Ax,prfC.ca,AF.c,sub,validI_.fv];rw[lQ];by_cases c1:Ih s=true
 case neg=>
  obtain⟨q1,Q⟩:=N3 (s:=s) (k:=k) (c:=1) (by simp only[Bm];rw[Af c1]) (by decide);rw[Ai (by simpa using c1),q1,Q];exact⟨rfl,trivial⟩
 rw[Af (by simp[c1])];by_cases c2:Bw k 1 4=true
 case neg=>
  obtain⟨q1,Q⟩:=N3 (s:=s) (k:=k) (c:=2) (by simp only[Bm];rw[Ai c1,Af c2]) (by decide);rw[Ai (by simpa using c2),q1,Q];exact⟨rfl,trivial⟩
 rw[Af (by simp[c2])];by_cases c3:s.Temperature=2
 case neg=>
  obtain⟨q1,Q⟩:=N3 (s:=s) (k:=k) (c:=5) (by simp only[Bm];rw[Ai c1,Ai c2,Af c3]) (by decide);rw[Ai c3,q1,Q];exact⟨rfl,trivial⟩
 rw[Af (by simpa using c3)];have hk:1<=k/\k<=4:=by simpa[Bw] using c2
 obtain⟨n,rfl⟩: ∃n:Nat,k=n:=⟨k.toNat,by omega⟩;have hn:1<=n/\n<=4:=by omega
 obtain⟨w1,w2⟩:El s.Set=true/\Hw s.Set s.Seed=true:=by
  simp only[Ih,AW] at c1;exact⟨c1.1,c1.2.1⟩
 have w3:=nL w1;have w4:=Qws w1;have w5:s.Set.Glues.length<=200:=by simp only[El,AW,Cy] at w1;exact w1.1.1
 have w6:CS none s.Seed.Tiles=true/\s.Seed.Tiles.length<=500:=by simp only[Hw,AW,Cy] at w2;exact w2.1
 refine AL.os () [] trivial (λj=>by simp[Aj,hget]) rfl rfl ?_ ?_
 .simp(maxSteps:=9^9)(disch:=omega)only[ZZ,simprocAttr,Ab,GC,Ax,prfC.ca,AF.c,nmC.ca,D5]
  try exact⟨rfl,rfl⟩
 simp(maxSteps:=9^9)(disch:=omega)only[ZZ,simprocAttr,Ab,GC,Ax,prfC.ca,AF.c,Cq,sub,EF,GQ];refine AL.os (s.Seed,(n:Int)) [] ⟨w6,hk⟩ (λj=>by simp[Aj,hget]) rfl rfl ?_ ?_
 .simp(maxSteps:=9^9)(disch:=omega)only[ZZ,simprocAttr,Ab,GC,Ax,prfC.ca,AF.c,scuC.ca,A9.c,D5]
  try exact⟨rfl,rfl⟩
 by_cases c6:(CF s.Seed n).2=true
 case neg=>
  simp only[scuC.r0,scuC.H1,Bj,Af c6];simp(maxSteps:=9^9)(disch:=omega)only[ZZ,simprocAttr,Ab,GC,Ax,prfC.ca,AF.c,sub,EF,GQ];obtain⟨q1,Q⟩:=N3 (s:=s) (k:=n) (c:=4) (by simp only[Bm];rw[Ai c1,Ai c2,Ai c3,Bj,Af (λh=>c6 h.2.2)]) (by decide);refine AL.o0 (s.Set,(n:Int)) (λ_=>2) ⟨⟨by simp only;omega,by simp only;omega⟩,hk⟩ rfl (by simp[bszC.ca,Ch,AH,AV.ren,B0]) ?_;simp(maxSteps:=9^9)(disch:=omega)only[ZZ,simprocAttr,Ab,GC,Ax,prfC.ca,AF.c,sub,Bj];rw[q1,Q]
  repeat' split
  all_goals exact⟨rfl,trivial⟩
 simp only[scuC.r0,scuC.H1,Bj,Ai c6];simp(maxSteps:=9^9)(disch:=omega)only[ZZ,simprocAttr,Ab,GC,Ax,prfC.ca,AF.c,sub,EF,GQ];refine AL.o0 (s.Set,(n:Int)) (λ_=>2) ⟨⟨by simp only;omega,by simp only;omega⟩,hk⟩ rfl (by simp[bszC.ca,Ch,AH,AV.ren,B0]) ?_;simp(maxSteps:=9^9)(disch:=omega)only[ZZ,simprocAttr,Ab,GC,Ax,prfC.ca,AF.c,sub,Bj];have ac: ¬(Cv s.Set n<=200/\s.Set.Tiles.length*(n*n)<=160)->prfC.r0 (s,(n:Int))= .im (.tup [DX,.int .i64 4])/\prfC.H1 (s,(n:Int))=[]:=λh=>
  N3 (by simp only[Bm];rw[Ai c1,Ai c2,Ai c3,Bj,Af (λh2=>h ⟨h2.1,h2.2.1⟩)]) (by decide)
 by_cases c4:Cv s.Set n<=200
 case neg=>
  obtain⟨q1,Q⟩:=ac λh=>c4 h.1
  rw[Af (by omega),q1,Q];exact⟨rfl,trivial⟩
 rw[Ai (by omega)];by_cases c5:s.Set.Tiles.length*(n*n)<=160
 case neg=>
  obtain⟨q1,Q⟩:=ac λh=>c5 h.2
  rw[Af (by omega),q1,Q];exact⟨rfl,trivial⟩
 rw[Ai (by omega)];refine AL.os (s.Set,(n:Int)) [2,3,4,5] ⟨⟨by simp only;omega,by simp only;omega⟩,hk⟩ (λj=>VJ _ _ j) rfl rfl ?_ ?_
 .simp(maxSteps:=9^9)(disch:=omega)only[ZZ,simprocAttr,Ab,GC,Ax,prfC.ca,AF.c,bglC.ca,Ch,bglC.H0,Cq,B5,EF,GQ,BD]
  try exact⟨rfl,rfl⟩
 simp(maxSteps:=9^9)(disch:=omega)only[ZZ,simprocAttr,Ab,GC,Ax,prfC.ca,AF.c,bglC.H1,B1,sub,EF,GQ,Bj];intro _;have hm: ∀i,i<=s.Set.Tiles.length->i*(n*n)<=160:=λi hi=>CD (HC _ hi) c5
 refine AY.ren ⟨{i:Nat//i<=s.Set.Tiles.length},λi=>⟨[(64,.im (.int .i64 i.1)),(63,.im (.int .i64 s.Set.Tiles.length)),(7,.ptr 123 0),(6,.ptr 22 0),(4,.ptr 1 0),(2,.ptr 0 0),(1,.im (.int .i64 n))],[(2,(true,.cells 76 [.own 144,.own 300,.mp 5])),(300,(true,.arrA 98 2 (HG s.Set n (λq=>301+q) (i.1*(n*n))))),(144,(true,.arr 108 2 ((Dg s.Set n).map Ad.c))),(5,(true,.map ⟨false,[.str]⟩ (BX (Dg s.Set n)))),(123,(true,.cells 38 [.own 26])),(26,(true,.arr 89 3 ((Dw (Bp n s.Seed.Tiles)).map Al.c))),(22,(true,.cells 64 [.ptr 2 0,.im (.sl false 2 (s.Set.Glues.map Ad.c)),.im (.sl false 2 (s.Set.Tiles.map Tile.c)),.im (.int .i64 n)])),(1,(true,.cells 40 [.im (.sl true 0 []),.im (.sl true 0 []),.im (.sl true 0 []),.im (.int .i64 0)])),(0,(true,.cells 40 [.im (.sl false 2 (s.Set.Glues.map Ad.c)),.im (.sl false 2 (s.Set.Tiles.map Tile.c)),.im (.sl false 3 (s.Seed.Tiles.map Al.c)),.im (.int .i64 s.Temperature)]))]++AG 301 (i.1*(n*n)) (Vs s.Set n),500⟩,λi=>s.Set.Tiles.length - i.1,λi=>⟨by have:=hm i.1 i.2;exact mJ (by simp[Cp,AV.bel]) (by simp only[Av,bL (s:=s.Set) (n:=n) (m:=i.1*(n*n)) (G:=λq=>301+q) (N:=500) (λq hq=>by omega)];simp[AD,AV.bel]) (by simp[BB]) (λq=>by simp[Av,Vs]) (by omega),by simp⟩,⟨⟨0,Cz _⟩,[(300,some 4)],?_⟩,λi=> ?_⟩
 .simp only[Ar,J5,AG,HG,Vk,BD,D6];simp(maxSteps:=9^9)(disch:=omega)only[ZZ,simprocAttr,Ab,GC,Ax,prfC.ca,AF.c,AS,AR]
  try simp
 obtain⟨i,hi⟩:=i;have aw:=hm i hi;have aq:IntKind.i64.wrap ((i:Int)+1)=((i+1:Nat):Int):=by rw[AA (by omega) (by omega)];omega
 simp only[BG,Dj];simp(maxSteps:=9^9)(disch:=omega)only[ZZ,simprocAttr,Ab,GC,Ax,prfC.ca,AF.c,sub,AO,Bq];refine⟨λab=>⟨hk,?_⟩,λab=> ?_⟩
 .rw[Iz];intro _;have aj:=hm (i+1) ab;rw[Du,EH] at aj;refine AY.ren ⟨{c:Nat//c<=n*n},λc=>⟨[(70,.im (.int .i64 c.1)),(69,.im (.int .i64 ((n*n:Nat):Int))),(68,.im (.sl false 2 ((DO n (n*n)).map A7.c))),(11,.im (.int .i64 i)),(64,.im (.int .i64 i)),(63,.im (.int .i64 s.Set.Tiles.length)),(7,.ptr 123 0),(6,.ptr 22 0),(4,.ptr 1 0),(2,.ptr 0 0),(1,.im (.int .i64 n))],[(2,(true,.cells 76 [.own 144,.own 600,.mp 5])),(600,(true,.arrA 98 2 (HG s.Set n (λq=>601+q) (i*(n*n)+c.1)))),(144,(true,.arr 108 2 ((Dg s.Set n).map Ad.c))),(5,(true,.map ⟨false,[.str]⟩ (BX (Dg s.Set n)))),(123,(true,.cells 38 [.own 26])),(26,(true,.arr 89 3 ((Dw (Bp n s.Seed.Tiles)).map Al.c))),(22,(true,.cells 64 [.ptr 2 0,.im (.sl false 2 (s.Set.Glues.map Ad.c)),.im (.sl false 2 (s.Set.Tiles.map Tile.c)),.im (.int .i64 n)])),(1,(true,.cells 40 [.im (.sl true 0 []),.im (.sl true 0 []),.im (.sl true 0 []),.im (.int .i64 0)])),(0,(true,.cells 40 [.im (.sl false 2 (s.Set.Glues.map Ad.c)),.im (.sl false 2 (s.Set.Tiles.map Tile.c)),.im (.sl false 3 (s.Seed.Tiles.map Al.c)),.im (.int .i64 s.Temperature)]))]++AG 601 (i*(n*n)+c.1) (Vs s.Set n),800⟩,λc=>n*n - c.1,λc=>⟨by have:=c.2;exact mJ (by simp[Cp,AV.bel]) (by simp only[Av,bL (s:=s.Set) (n:=n) (m:=i*(n*n)+c.1) (G:=λq=>601+q) (N:=800) (λq hq=>by omega)];simp[AD,AV.bel]) (by simp[BB]) (λq=>by simp[Av,Vs]) (by omega),by simp⟩,⟨⟨0,Cz _⟩,(600,some 300)::fO 601 (i*(n*n)) (λq=>301+q),?_⟩,λc=> ?_⟩
  .simp only[FO];obtain⟨π,hπ⟩: ∃π,π=(600,some 300)::fO 601 (i*(n*n)) (λq=>301+q):=⟨_,rfl⟩;rw[<-hπ];have hp: ∀x,x<300->pm π x=some x:=λx hx=>by rw[hπ];simp only[pm];rw[Af (by omega),VM,Af (by omega)]
   have O:pm π 600=some 300:=by rw[hπ];simp[pm]
   have hf: ∀q,q<i*(n*n)->pm π (601+q)=some (301+q):=λq hq=>by
    rw[hπ];simp only[pm];rw[Af (by omega),VM,Ai (by omega)];congr 2;omega
   have Z:HO 500 π:=by rw[hπ];exact⟨by omega,LD (by omega)⟩
   refine Ny (A:=[_,_,_,_,_,_,_,_,_]) (λq=>301+q) Z (by simp[Es,hp 0 (by omega),hp 1 (by omega),hp 2 (by omega),hp 5 (by omega),hp 22 (by omega),hp 26 (by omega),hp 123 (by omega),hp 144 (by omega),O,Cr]) hf (λa b ha hb h=>by omega) (λm hm q hq=>by simp[Es,hp 0 (by omega),hp 1 (by omega),hp 2 (by omega),hp 5 (by omega),hp 22 (by omega),hp 26 (by omega),hp 123 (by omega),hp 144 (by omega),O] at hm;omega) ?_ ?_ (λq hq=> ?_)
   .simp only[H4];simp(maxSteps:=9^9)(disch:=omega)only[ZZ,simprocAttr,Ab,GC,Ax,prfC.ca,AF.c,AS,AR,O,hp 0 (by omega),hp 1 (by omega),hp 2 (by omega),hp 5 (by omega),hp 22 (by omega),hp 26 (by omega),hp 123 (by omega),hp 144 (by omega)]
    try simp
   .simp only[ES];simp(maxSteps:=9^9)(disch:=omega)only[ZZ,simprocAttr,Ab,GC,Ax,prfC.ca,AF.c,AS,AR,O,hp 0 (by omega),hp 1 (by omega),hp 2 (by omega),hp 5 (by omega),hp 22 (by omega),hp 26 (by omega),hp 123 (by omega),hp 144 (by omega)];exact bK hf
   .simp only[CE,hget,AC _ _ (show 2≠301+q by omega),AC _ _ (show 300≠301+q by omega),AC _ _ (show 144≠301+q by omega),AC _ _ (show 5≠301+q by omega),AC _ _ (show 123≠301+q by omega),AC _ _ (show 26≠301+q by omega),AC _ _ (show 22≠301+q by omega),AC _ _ (show 1≠301+q by omega),AC _ _ (show 0≠301+q by omega),Bs];rw[DY _ _ _ _ hq];exact⟨rfl,rfl⟩
  obtain⟨c,hc⟩:=c;have an:IntKind.i64.wrap ((c:Int)+1)=((c+1:Nat):Int):=by rw[AA (by omega) (by omega)];omega
  have hcl:=Iz n (n*n);simp only[BG,Dj];simp(maxSteps:=9^9)(disch:=omega)only[ZZ,simprocAttr,Ab,GC,Ax,prfC.ca,AF.c,sub,AO,Bq];refine⟨λah=>⟨by omega,λp hp=> ?_⟩,λah=> ?_⟩
  .obtain rfl:=VL (by omega) hp;simp only[DQ];have ao:Ba (AG 601 (i*(n*n)+c) (Vs s.Set n)) [2,600]=AG 601 (i*(n*n)+c) (Vs s.Set n):=Iw _ _ _ _ (λz hz=>by simp at hz;omega);have ad:Ba (AG 601 (i*(n*n)+c) (Vs s.Set n)) [800]=AG 601 (i*(n*n)+c) (Vs s.Set n):=JQ (by omega);have d2:=Zm c (show n>0 by omega);have d1:c/n<n:=by rcases (by omega:n=1\/n=2\/n=3\/n=4) with rfl|rfl|rfl|rfl<;>omega
   have hT:=Re (s:=s.Set) (i:=i) hn ah;rw[ad];refine WJ (g:=Dg s.Set n) (t:=HI s.Set n (i*(n*n)+c)) (s:=s.Set) (n:=n) (i:=i) (c:=c) (M:=2) (Gn:=144) (Tn:=600) (Pn:=5) (F:=601) (by rw[JU];omega) ⟨w3,⟨by simp only;omega,by simp only;omega⟩,hn,ab,by simp only;omega⟩ (by decide) (by decide) (by rw[JU];omega) rfl rfl (by rw[VU];rfl) rfl (λq hq=> ?_) ?_
   .rw[JU] at hq;rw[Kp hq];simp only[hget,AC _ _ (show 800≠601+q by omega),AC _ _ (show 2≠601+q by omega),AC _ _ (show 600≠601+q by omega),AC _ _ (show 144≠601+q by omega),AC _ _ (show 5≠601+q by omega),AC _ _ (show 123≠601+q by omega),AC _ _ (show 26≠601+q by omega),AC _ _ (show 22≠601+q by omega),AC _ _ (show 1≠601+q by omega),AC _ _ (show 0≠601+q by omega),Bs];exact DY _ _ _ _ hq
   .have au:(jV ⟨((Dg s.Set n,HI s.Set n (i*(n*n)+c)),(s.Set,n),i,c),by rw[JU];omega⟩).map (E3 (Dg s.Set n))=(Kq s.Set n (i*(n*n)+c)).Sides:=by
     simp only[jV];rw[Rf w3 hn ab d2 d1,hT]
    rw[au];simp(maxSteps:=9^9)(disch:=omega)only[ZZ,simprocAttr,Ab,GC,Ax,prfC.ca,AF.c,sub,ao,ad,VU,an];have ag:HG s.Set n (λq=>601+q) (i*(n*n)+c)++[[AV.im (D.str (Cg ⟨#[112]⟩ (i:Nat) ((c % n:Nat):Int) ((c/n:Nat):Int))),AV.own 805]]=HG s.Set n (λq=>if q<i*(n*n)+c then 601+q else 805) (i*(n*n)+(c+1)):=by
     rw[<-FA,Rd,Af (by omega),hT];rw[Rc (G:=λq=>if q<i*(n*n)+c then 601+q else 805) (H:=λq=>601+q) λq hq=>Ai hq]
    refine⟨?_,⟨c+1,by omega⟩,[(600,some 807),(601+(i*(n*n)+c),some 805)],by simp only;omega,?_⟩
    .rw[QL,bL (λq hq=>by omega)];simp[AD,AV.bel]
    simp only[Bq];obtain⟨π,hπ⟩: ∃π,π=[(600,some 807),(601+(i*(n*n)+c),some 805)]:=⟨_,rfl⟩;rw[<-hπ];have hp: ∀x,x<300->pm π x=some x:=λx hx=>by rw[hπ];simp only[pm];rw[Af (by omega),Af (by omega)]
    have O:pm π 600=some 807:=by rw[hπ];simp[pm]
    have hf: ∀q,q<i*(n*n)+(c+1)->pm π (601+q)=some (if q<i*(n*n)+c then 601+q else 805):=λq hq=>by
     rw[hπ];simp only[pm];by_cases c9:q<i*(n*n)+c
     .rw[Af (by omega),Af (by omega),Ai c9]
     .obtain rfl:q=i*(n*n)+c:=by omega
      rw[Af (by omega),Ai rfl,Af c9]
    have Z:HO 500 π:=by rw[hπ];exact⟨by omega,by omega,trivial⟩
    refine Ny (A:=[_,_,_,_,_,_,_,_,_]) (λq=>if q<i*(n*n)+c then 601+q else 805) Z (by simp[Es,hp 0 (by omega),hp 1 (by omega),hp 2 (by omega),hp 5 (by omega),hp 22 (by omega),hp 26 (by omega),hp 123 (by omega),hp 144 (by omega),O,Cr]) hf (λa b ha hb h=>(by split at h<;>split at h<;>omega)) (λm hm q hq=>by simp[Es,hp 0 (by omega),hp 1 (by omega),hp 2 (by omega),hp 5 (by omega),hp 22 (by omega),hp 26 (by omega),hp 123 (by omega),hp 144 (by omega),O] at hm;split<;>omega) ?_ ?_ (λq hq=> ?_)
    .simp only[H4];simp(maxSteps:=9^9)(disch:=omega)only[ZZ,simprocAttr,Ab,GC,Ax,prfC.ca,AF.c,AS,AR,O,hp 0 (by omega),hp 1 (by omega),hp 2 (by omega),hp 5 (by omega),hp 22 (by omega),hp 26 (by omega),hp 123 (by omega),hp 144 (by omega),ag]
     try simp
    .simp only[ES];simp(maxSteps:=9^9)(disch:=omega)only[ZZ,simprocAttr,Ab,GC,Ax,prfC.ca,AF.c,AS,AR,O,hp 0 (by omega),hp 1 (by omega),hp 2 (by omega),hp 5 (by omega),hp 22 (by omega),hp 26 (by omega),hp 123 (by omega),hp 144 (by omega),ag];exact bK hf
    .by_cases c9:q<i*(n*n)+c
     .rw[Ai c9];simp only[CE,hget,AC _ _ (show 2≠601+q by omega),AC _ _ (show 807≠601+q by omega),AC _ _ (show 805≠601+q by omega),AC _ _ (show 800≠601+q by omega),AC _ _ (show 144≠601+q by omega),AC _ _ (show 5≠601+q by omega),AC _ _ (show 123≠601+q by omega),AC _ _ (show 26≠601+q by omega),AC _ _ (show 22≠601+q by omega),AC _ _ (show 1≠601+q by omega),AC _ _ (show 0≠601+q by omega),Bs];rw[DY _ _ _ _ c9];exact⟨rfl,rfl⟩
     .obtain rfl:q=i*(n*n)+c:=by omega
      rw[Af c9];exact⟨rfl,rfl⟩
  .obtain rfl:c=n*n:=by omega
   have hj:i*(n*n)+n*n=(i+1)*(n*n):=by rw[Du i 1,EH]
   refine⟨⟨i+1,by omega⟩,(300,some 600)::fO 301 ((i+1)*(n*n)) (λq=>601+q),by simp only;omega,?_⟩;simp only[hj,aq];obtain⟨π,hπ⟩: ∃π,π=(300,some 600)::fO 301 ((i+1)*(n*n)) (λq=>601+q):=⟨_,rfl⟩;rw[<-hπ];have hp: ∀x,x<300->pm π x=some x:=λx hx=>by rw[hπ];simp only[pm];rw[Af (by omega),VM,Af (by omega)]
   have O:pm π 300=some 600:=by rw[hπ];simp[pm]
   have hf: ∀q,q<(i+1)*(n*n)->pm π (301+q)=some (601+q):=λq hq=>by
    rw[hπ];simp only[pm];rw[Af (by omega),VM,Ai (by omega)];congr 2;omega
   have Z:HO 244 π:=by rw[hπ];exact⟨by omega,LD (by omega)⟩
   refine Ny (A:=[_,_,_,_,_,_,_,_,_]) (λq=>601+q) Z (by simp[Es,hp 0 (by omega),hp 1 (by omega),hp 2 (by omega),hp 5 (by omega),hp 22 (by omega),hp 26 (by omega),hp 123 (by omega),hp 144 (by omega),O,Cr]) hf (λa b ha hb h=>by omega) (λm hm q hq=>by simp[Es,hp 0 (by omega),hp 1 (by omega),hp 2 (by omega),hp 5 (by omega),hp 22 (by omega),hp 26 (by omega),hp 123 (by omega),hp 144 (by omega),O] at hm;omega) ?_ ?_ (λq hq=> ?_)
   .simp only[H4];simp(maxSteps:=9^9)(disch:=omega)only[ZZ,simprocAttr,Ab,GC,Ax,prfC.ca,AF.c,AS,AR,O,hp 0 (by omega),hp 1 (by omega),hp 2 (by omega),hp 5 (by omega),hp 22 (by omega),hp 26 (by omega),hp 123 (by omega),hp 144 (by omega)]
    try simp
   .simp only[ES];simp(maxSteps:=9^9)(disch:=omega)only[ZZ,simprocAttr,Ab,GC,Ax,prfC.ca,AF.c,AS,AR,O,hp 0 (by omega),hp 1 (by omega),hp 2 (by omega),hp 5 (by omega),hp 22 (by omega),hp 26 (by omega),hp 123 (by omega),hp 144 (by omega)];exact bK hf
   .simp only[CE,hget,AC _ _ (show 2≠601+q by omega),AC _ _ (show 600≠601+q by omega),AC _ _ (show 144≠601+q by omega),AC _ _ (show 5≠601+q by omega),AC _ _ (show 123≠601+q by omega),AC _ _ (show 26≠601+q by omega),AC _ _ (show 22≠601+q by omega),AC _ _ (show 1≠601+q by omega),AC _ _ (show 0≠601+q by omega),Bs];rw[DY _ _ _ _ hq];exact⟨rfl,rfl⟩
 .obtain rfl:i=s.Set.Tiles.length:=by omega
  have aa:KE s.Set n=HI s.Set n (s.Set.Tiles.length*(n*n)):=rfl;have av: ∀h,C5 h 144 300 26 301 ⟨⟨Dg s.Set n,KE s.Set n⟩,⟨Dw (Bp n s.Seed.Tiles)⟩,s.Temperature⟩->BR h [AV.agg [.own 144,.own 300,.own 26,.im (.int .i64 s.Temperature)]]=some [.val (.agg (AF.c ⟨⟨Dg s.Set n,KE s.Set n⟩,⟨Dw (Bp n s.Seed.Tiles)⟩,s.Temperature⟩))]:=λh S=>by
   have:=S.pk
   simp only at this;simp only[BR,this,FT]
  rw[JQ (by omega)];refine vF.call [.val (.agg (AF.c ⟨⟨Dg s.Set n,KE s.Set n⟩,⟨Dw (Bp n s.Seed.Tiles)⟩,s.Temperature⟩))] (av _ ⟨rfl,?_,rfl,λq hq=> ?_⟩) _ (JR _) (OF hn (by omega) (by omega)) ?_
  .simp only;rw[aa,VU];rfl
  .simp only[aa,JU] at hq⊢;rw[Kp hq];simp only[hget,AC _ _ (show 500≠301+q by omega),AC _ _ (show 2≠301+q by omega),AC _ _ (show 300≠301+q by omega),AC _ _ (show 144≠301+q by omega),AC _ _ (show 5≠301+q by omega),AC _ _ (show 123≠301+q by omega),AC _ _ (show 26≠301+q by omega),AC _ _ (show 22≠301+q by omega),AC _ _ (show 1≠301+q by omega),AC _ _ (show 0≠301+q by omega),Bs];exact DY _ _ _ _ hq
  simp(maxSteps:=9^9)(disch:=omega)only[ZZ,simprocAttr,Ab,GC,Ax,prfC.ca,AF.c,sub,validI_.fv];rw[lQ,c3];have am:(CF s.Seed n).1=⟨Dw (Bp n s.Seed.Tiles)⟩:=by
   by_cases c8:s.Seed.Tiles.length*n*n<=500/\(Bp n s.Seed.Tiles).all Fi=true
   .simp only[CF];rw[Ai c8]
   .simp only[CF] at c6;rw[Af c8] at c6;cases c6
  have ai:Cv s.Set n<=200/\s.Set.Tiles.length*(n*n)<=160/\(CF s.Seed n).2=true:=⟨c4,c5,c6⟩;by_cases c7:Ih ⟨⟨Dg s.Set n,KE s.Set n⟩,⟨Dw (Bp n s.Seed.Tiles)⟩,2⟩=true
  case neg=>
   obtain⟨q1,Q⟩:=N3 (s:=s) (k:=n) (c:=5) (by simp only[Bm];rw[Ai c1,Ai c2,Ai c3,Bj,Ai ai,am,Af c7]) (by decide);rw[Ai (by simpa using c7),q1,Q];exact⟨rfl,trivial⟩
  rw[Af (by simp[c7])];have hP:Bm s (n:Int)=(⟨⟨Dg s.Set n,KE s.Set n⟩,⟨Dw (Bp n s.Seed.Tiles)⟩,2⟩,0):=by
   simp only[Bm];rw[Ai c1,Ai c2,Ai c3,Bj,Ai ai,am,Ai c7]
  have ak:min (KE s.Set n).length 1048576=s.Set.Tiles.length*(n*n):=by rw[XG];omega
  simp only[prfC.r0,prfC.H1,hP,B5,ak,Bq];rw[JQ (by omega)];simp only[E5];refine⟨trivial,⟨rfl,rfl⟩,⟨rfl,?_⟩,⟨rfl,rfl⟩,JL _ _ _ _ _ (λq hq=> ?_) (λq hq=>rfl)⟩
  .rw[aa,<-VU];simp only[Cd];rw[Qj (λq hq=>by rw[JU] at hq;exact K2 (by omega) (by omega))];rfl
  .rw[aa,Kp hq];simp only[hget,AC _ _ (show 1≠301+q by omega),AC _ _ (show 500≠301+q by omega),AC _ _ (show 2≠301+q by omega),AC _ _ (show 300≠301+q by omega),AC _ _ (show 144≠301+q by omega),AC _ _ (show 5≠301+q by omega),AC _ _ (show 123≠301+q by omega),AC _ _ (show 26≠301+q by omega),AC _ _ (show 22≠301+q by omega),AC _ _ (show 0≠301+q by omega),Bs];exact DY _ _ _ _ hq
end Go.Ae
namespace Go.Ae
open Go.Proofs
def totI(M:List (List Int)):Nat:=(M.map List.length).sum
def mZ(x:List Int)(k:Int):EW x k=k+x.length\/EW x k= -1:=by
 simp only[EW];split
 .exact .inl rfl
 .exact .inr rfl
def mkSS.pre(a:List (List Int)×Int):Prop:=a.1.length<=1048576/\0<=a.2/\a.2+totI a.1<=1099511627776
structure Qb(h:Nat->Option Am)(o b:Nat)(M:List (List Int)):Prop where
 r:h o=some (true,.arrA 95 1 (Dc b M.length))
 f: ∀i,i<M.length->h (b+i)=some (true,.arr 2 1 ((M[i]?.getD []).map Ak))
def Qb.mono{h h':Nat->Option Am}{o b:Nat}{M:List (List Int)}(hs:Qb h o b M)(z: ∀m,(m=o\/(b<=m/\m<b+M.length))->h' m=h m):Qb h' o b M:=
 ⟨by rw[z o (.inl rfl)];exact hs.r,λi G=>by rw[z _ (.inr ⟨by omega,by omega⟩)];exact hs.f i G⟩
def Qb.pk{h:Nat->Option Am}{o b:Nat}{M:List (List Int)}(hs:Qb h o b M):DN h (.own o)=some (.val (.sl false 1 (M.map CK))):=by
 have e:Aq (Aq (bk h 8)) (Dc b M.length)=some (M.map CK):=by
  have G:M.map CK=(List.range M.length).map λi=>CK (M[i]?.getD []):=by
   apply QI;intro i;rw[Dt,Dt];by_cases z:i<M.length
   .rw[FN z,B2 z];simp[z]
   .rw[HB (by omega),HB (by simp;omega)];rfl
  rw[G];refine Vb _ λi z=> ?_
  have z:=Bk.1 z;simp only[Aq,bk,hs.f i z,ND,CK]
 simp only[DN,bk,hs.r,ND,e,D7,DU]
def aL{A:Type}(f:Nat->A)(n:Nat):(Ft f n).length=n:=by simp[Ft]
def mL{A:Type}(f:Nat->A)(n:Nat):Ft f (n+1)=Ft f n++[f n]:=by simp[Ft,dS]
def Na{A:Type}{f:Nat->A}{n i:Nat}(h:i<n):(Ft f n)[i]? =some (f i):=by simp only[Ft,Dt];rw[FN h];rfl
def totO(M:List (List D4)):Nat:=(M.map List.length).sum
def mkOO.pre(a:List (List D4)×Int):Prop:=a.1.length<=1048576/\0<=a.2/\a.2+3*totO a.1<=1099511627776
def EC(l:List Al)(k:Int):Int:=if l=Ft (pF k) l.length then k+3*l.length else -1
def Sa(k:Int)(n:Nat):EC (Ft (pF k) n) k=k+3*n:=by
 simp only[EC,aL,B5]
def heldP_.fv(a:(List Al)×Int):Int:=(EC) (a.1) (a.2)
def heldP_.row:AE:=CG (b2 (qS Al.d_le Al.c_n) qI) rI (λa=>0<=a.2/\a.2+3*a.1.length<=1099511627776) heldP_.fv
def heldP_.q:=CH (R:=heldP_.row) rfl
def heldP_.ok:AI 69 heldP_.row:=by
 refine Gy tN Tryz.func69 ?_;intro a z;simp only[Tryz.f69,Option.getD];simp only[ZZ,simprocAttr,Ab,heldP_.fv,BS,D.sc,D.scs,BJ,AQ];obtain⟨l,k⟩:=a;simp only at z⊢;obtain⟨h1,h2⟩:=z;refine AY.old ⟨{i:Nat//i<=l.length/\l.take i=Ft (pF k) i},λi=>⟨[(5,.im (.int .i64 i.1)),(4,.im (.int .i64 0)),(1,.im (.int .i64 (k+3*i.1))),(0,.im (.sl false 3 (l.map Al.c)))],[],0⟩,λi=>l.length - i.1,λi=>⟨by simp[ZG],by simp⟩,⟨⟨0,by simp[Ft]⟩,by simp only[ZZ,simprocAttr,Ab,heldP_.fv,BS,D.sc,D.scs,BJ,AQ,sub];simp⟩,λi=> ?_⟩;obtain⟨i,ab,G⟩:=i;simp only[ZZ,simprocAttr,Ab,heldP_.fv,BS,D.sc,D.scs,BJ,AQ,sub,AO];intro _;refine⟨λQ=>⟨Q,λx Z=> ?_⟩,λQ=> ?_⟩
 .have w1:IntKind.i64.wrap (k+3*(i:Int)+1)=k+3*(i:Int)+1:=AA (by omega) (by omega);have w2:IntKind.i64.wrap (k+3*(i:Int)+1+1)=k+3*(i:Int)+2:=(AA (by omega) (by omega)).trans (by omega);have w3:IntKind.i64.wrap (k+3*(i:Int)+2+1)=k+3*((i+1:Nat):Int):=(AA (by omega) (by omega)).trans (by omega);simp only[w1,w2,w3];have O:x≠pF k i-> -1=EC l k:=λc=>by
   simp only[EC];rw[Af λh=> ?_];rw[h,Na Q] at Z;exact c (AB Z).symm
  refine⟨λc=>O λh=>c (by rw[h];rfl),λc1=>⟨Q,λy hy=> ?_⟩⟩;obtain rfl:x=y:=AB (Z.symm.trans hy);refine⟨λc=>O λh=>c (by rw[h];rfl),λc2=>⟨Q,λy hy=> ?_⟩⟩;obtain rfl:x=y:=AB (Z.symm.trans hy);refine⟨λc=>O λh=>c (by rw[h];rfl),λc3=>⟨⟨i+1,by omega,?_⟩,by simp only;omega,by rw[AA (by omega) (by omega)];simp only;omega,rfl⟩⟩;have e:x=pF k i:=by
   obtain⟨⟨u,v⟩,t⟩:=x;simp only[Gg] at c1 c2 c3;simp only[pF,c1,c2,c3]
  rw[qH Z,G,mL,e]
 .have aa:i=l.length:=by omega
  subst aa;rw[IB] at G;simp only[EC];rw[Ai G]
def Ox(x:List Al)(k:Int):EC x k=k+3*x.length\/EC x k= -1:=by
 simp only[EC];split
 .exact .inl rfl
 .exact .inr rfl
def heldA_.fv(a:A9×Int):Int:=(λa k=>EC a.Tiles k) (a.1) (a.2)
def heldA_.row:AE:=CG (b2 (qR A9.d_le) qI) rI (λa=>0<=a.2/\a.2+3*a.1.Tiles.length<=1099511627776) heldA_.fv
def heldA_.q:=CH (R:=heldA_.row) rfl
def heldA_.ok:AI 32 heldA_.row:=by
 refine Gy (tC heldP_.ok tN) Tryz.func32 ?_;intro a z;simp only[Tryz.f32,Option.getD];simp only[ZZ,simprocAttr,Ab,heldA_.fv,heldP_.q,heldP_.fv,BS,D.sc,D.scs,BJ,AQ];obtain⟨⟨x⟩,k⟩:=a;obtain⟨G,O⟩:=z;simp only at G O⊢;refine⟨⟨G,O⟩,?_⟩;rcases Ox x k with h|h
 .rw[Af (by omega)];trivial
 .rw[Ai (by omega)];exact h.symm
def VF{H:Ao}{n m:Nat}(h:n≠m):hget (Ba H [n]) m=hget H m:=Jv _ _ _ h
def pg{H H':Ao}{k m:Nat}{e:Am}{x:Option Am}(z:(k,e)::Ba H [k]=H')(h:k≠m)(g:hget H m=x):hget H' m=x:=by subst z;exact (JP _ _ _ h).trans g
section
variable {A B:Type}{k:AK A}{r:RK B}{pre:A->Prop}{f:A->B}{args:List AV}{tm:List (Nat×AV)}{h:Ao}{nx:Nat}{dst:Option Nat}
def vK.call{Q:Az->Prop}(ps:List PK)(O:Io (hget h) args=some (ps,[]))(a:A)(Z:k.r ps=some a)(z:pre a)(G:Q ((⟨tm,h,nx⟩:Az).put dst (.im (r.e (f a))))):vK k r pre f args (hget h) nx (Ez Q ⟨tm,h,nx⟩ dst):=vN.call ps O a Z z G
def CG.call{Q:Az->Prop}(ps:List PK)(O:BR (hget h) args=some ps)(a:A)(Z:k.r ps=some a)(z:pre a)(G:Q ((⟨tm,h,nx⟩:Az).put dst (.im (r.e (f a))))):CG k r pre f args (hget h) nx (Ez Q ⟨tm,h,nx⟩ dst):=vF.call ps O a Z z G
def vK.callA{Q:UO}{cl:List (List Nat)}{i:Nat}{acc:List Fp}(ps:List PK)(O:Io (hget h) args=some (ps,[]))(a:A)(Z:k.r ps=some a)(z:pre a)(hq:JN acc=true)(G: ∀u,Q (⟨i,u,[],nx,0⟩::acc) ((⟨tm,h,nx⟩:Az).put dst (.im (r.e (f a))))):vK k r pre f args (hget h) nx (Nz cl i acc Q ⟨tm,h,nx⟩ dst):=vN.callA ps O a Z z hq G
def CG.callA{Q:UO}{cl:List (List Nat)}{i:Nat}{acc:List Fp}(ps:List PK)(O:BR (hget h) args=some ps)(a:A)(Z:k.r ps=some a)(z:pre a)(hq:JN acc=true)(G: ∀u,Q (⟨i,u,[],nx,0⟩::acc) ((⟨tm,h,nx⟩:Az).put dst (.im (r.e (f a))))):CG k r pre f args (hget h) nx (Nz cl i acc Q ⟨tm,h,nx⟩ dst):=vF.callA ps O a Z z hq G
end
end Go.Ae
namespace Go.Ae
open Go.Proofs Go.Lib
def sP(k:Int)(i:Nat):Ad:=⟨FG (k+2*i),k+2*i+1⟩
def Eu(l:List Ad)(k:Int):Int:=if l=Ft (sP k) l.length then k+2*l.length else -1
def heldG_.fv(a:(List Ad)×Int):Int:=(Eu) (a.1) (a.2)
def heldG_.row:AE:=CG (b2 (qS Ad.d_le Ad.c_n) qI) rI (λa=>0<=a.2/\a.2+2*a.1.length<=1099511627776) heldG_.fv
def heldG_.q:=CH (R:=heldG_.row) rfl
def YaO:=J @heldG_.fv.eq_1 (J @mkText.q @mkText.fv.eq_1)
def heldG_.ok:AI 67 heldG_.row:=by
 refine Gy (tC mkText.ok tN) Tryz.func67 ?_;intro a z;simp only[Tryz.f67,Option.getD];simp(maxSteps:=9^9)(disch:=omega)only[ZZ,simprocAttr,Ab,YaO,BS,D.sc,D.scs,BJ,AQ];obtain⟨l,k⟩:=a;simp only at z⊢;obtain⟨h1,h2⟩:=z;refine AY.old ⟨{i:Nat//i<=l.length/\l.take i=Ft (sP k) i},λi=>⟨[(5,.im (.int .i64 i.1)),(4,.im (.int .i64 0)),(1,.im (.int .i64 (k+2*i.1))),(0,.im (.sl false 2 (l.map Ad.c)))],[],0⟩,λi=>l.length - i.1,λi=>⟨by simp[ZG],by simp⟩,⟨⟨0,by simp[Ft]⟩,by simp(maxSteps:=9^9)(disch:=omega)only[ZZ,simprocAttr,Ab,YaO,BS,D.sc,D.scs,BJ,AQ,sub];simp⟩,λi=> ?_⟩;obtain⟨i,ab,G⟩:=i;simp(maxSteps:=9^9)(disch:=omega)only[ZZ,simprocAttr,Ab,YaO,BS,D.sc,D.scs,BJ,AQ,sub,AO];intro _;refine⟨λQ=>⟨Q,λx Z=> ?_⟩,λQ=> ?_⟩
 .have w1:IntKind.i64.wrap (k+2*(i:Int)+1)=k+2*(i:Int)+1:=AA (by omega) (by omega);have w2:IntKind.i64.wrap (k+2*(i:Int)+1+1)=k+2*((i+1:Nat):Int):=(AA (by omega) (by omega)).trans (by omega);simp only[w1,w2];have O:x≠sP k i-> -1=Eu l k:=λc=>by
   simp only[Eu];rw[Af λh=> ?_];rw[h,Na Q] at Z;exact c (AB Z).symm
  refine⟨by omega,λc=>O λh=>c (by rw[h];rfl),λc1=>⟨Q,λy hy=> ?_⟩⟩;obtain rfl:x=y:=AB (Z.symm.trans hy);refine⟨λc=>O λh=>c (by rw[h];rfl),λc2=>⟨⟨i+1,by omega,?_⟩,by simp only;omega,by rw[AA (by omega) (by omega)];simp only;omega,rfl⟩⟩;have e:x=sP k i:=by
   obtain⟨u,v⟩:=x;simp only[Gg] at c1 c2;simp only[sP,c1,c2]
  rw[qH Z,G,mL,e]
 .have aa:i=l.length:=by omega
  subst aa;rw[IB] at G;simp only[Eu];rw[Ai G]
def nB(l:List Ad)(k:Int):Eu l k=k+2*l.length\/Eu l k= -1:=by
 simp only[Eu];split
 .exact .inl rfl
 .exact .inr rfl
def DP:List Tile->Int->Int
 |[],k=>k
 |x::r,k=>if x.Name=FG k then (if EW x.Sides (k+1)<0 then -1 else DP r (EW x.Sides (k+1))) else -1
def DJ:List Tile->Int
 |[]=>0
 |x::r=>1+x.Sides.length+DJ r
def Qo: ∀l:List Tile,0<=DJ l
 |[]=>by simp[DJ]
 |x::r=>by have:=Qo r;simp only[DJ];omega
def heldT_.fv(a:(List Tile)×Int):Int:=(DP) (a.1) (a.2)
def heldT_.row:AE:=CG (b2 (qS Tile.d_le Tile.c_n) qI) rI (λa=>0<=a.2/\a.2+DJ a.1<=1099511627776) heldT_.fv
def heldT_.q:=CH (R:=heldT_.row) rfl
def YaP:=J @heldT_.fv.eq_1<|J @mkText.q<|J @mkText.fv.eq_1<|J @heldIS.q @heldIS.fv.eq_1
def heldT_.ok:AI 68 heldT_.row:=by
 refine Gy (tC mkText.ok (tC heldIS.ok tN)) Tryz.func68 ?_;intro a G;simp only[Tryz.f68,Option.getD];simp(maxSteps:=9^9)(disch:=omega)only[ZZ,simprocAttr,Ab,YaP,BS,D.sc,D.scs,BJ,AQ];obtain⟨M,k⟩:=a;simp only at G⊢;obtain⟨h1,h2⟩:=G;refine AY.old ⟨{i:Nat×Int//i.1<=M.length/\DP M k=DP (M.drop i.1) i.2/\0<=i.2/\i.2+DJ (M.drop i.1)<=1099511627776},λi=>⟨[(5,.im (.int .i64 i.1.1)),(4,.im (.int .i64 0)),(1,.im (.int .i64 i.1.2)),(0,.im (.sl false 2 (M.map Tile.c)))],[],0⟩,λi=>M.length - i.1.1,λi=>⟨by simp[ZG],by simp⟩,⟨⟨(0,k),Cz _,by simp only[Gf],h1,by simp only[Gf];exact h2⟩,by simp(maxSteps:=9^9)(disch:=omega)only[ZZ,simprocAttr,Ab,YaP,BS,D.sc,D.scs,BJ,AQ,sub]⟩,λi=> ?_⟩;obtain⟨⟨i,q⟩,Z,z,aa,O⟩:=i;simp only at Z z aa O;simp(maxSteps:=9^9)(disch:=omega)only[ZZ,simprocAttr,Ab,YaP,BS,D.sc,D.scs,BJ,AQ,sub,AO];intro _;refine⟨λQ=>⟨Q,λx hx=> ?_⟩,λQ=> ?_⟩
 .rw[Hf hx] at z O;have ht:DJ (x::M.drop (i+1))=1+x.Sides.length+DJ (M.drop (i+1)):=rfl;have ab:=Qo (M.drop (i+1));rw[ht] at O;have w1:IntKind.i64.wrap (q+1)=q+1:=AA (by omega) (by omega);simp only[w1];refine⟨by omega,λc=> ?_,λc1=>⟨Q,λy hy=> ?_⟩⟩
  .rw[z,DP,Af c]
  obtain rfl:x=y:=AB (hx.symm.trans hy);have c1:=Gg.1 c1;refine⟨⟨by omega,by omega⟩,λc=> ?_,λc=>⟨⟨(i+1,EW x.Sides (q+1)),?_⟩,by simp only;omega,by rw[AA (by omega) (by omega)];simp only;omega,rfl⟩⟩
  .rw[z,DP,Ai c1,Ai c]
  .rcases mZ x.Sides (q+1) with e|e
   .simp only;refine⟨by omega,?_,by omega,by omega⟩;rw[z,DP,Ai c1,Af c]
   .omega
 .rw[DB (by omega),DP] at z;exact z.symm
def Ga(s:Au)(k:Int):Int:=if Eu s.Glues k<0 then -1 else if DP s.Tiles (Eu s.Glues k)<0 then -1 else DP s.Tiles (Eu s.Glues k)
def heldTS_.fv(a:Au×Int):Int:=(Ga) (a.1) (a.2)
def heldTS_.row:AE:=CG (b2 (qR Au.d_le) qI) rI (λa=>0<=a.2/\a.2+2*a.1.Glues.length+DJ a.1.Tiles<=1099511627776) heldTS_.fv
def heldTS_.q:=CH (R:=heldTS_.row) rfl
def heldTS_.ok:AI 31 heldTS_.row:=by
 refine Gy (tC heldG_.ok (tC heldT_.ok tN)) Tryz.func31 ?_;intro a z;simp only[Tryz.f31,Option.getD];simp(maxSteps:=9^9)(disch:=omega)only[ZZ,simprocAttr,Ab,heldTS_.fv,heldG_.q,heldG_.fv,heldT_.q,heldT_.fv,BS,D.sc,D.scs,BJ,AQ];obtain⟨s,k⟩:=a;obtain⟨O,Q⟩:=z;simp only at O Q⊢;have Z:=Qo s.Tiles;simp only[Ga];refine⟨⟨O,by omega⟩,?_⟩;by_cases c:Eu s.Glues k<0
 .rw[Ai c,Ai c]
 .have hg:=nB s.Glues k;rw[Af c,Af c];refine⟨⟨by omega,by omega⟩,?_⟩;by_cases G:DP s.Tiles (Eu s.Glues k)<0
  .rw[Ai G,Ai G]
  .rw[Af G,Af G]
def VR(s:AF)(k:Int):Int:=if Ga s.Set k<0 then -1 else if EC s.Seed.Tiles (Ga s.Set k)<0 then -1 else EC s.Seed.Tiles (Ga s.Set k)
def mV: ∀(l:List Tile) (k:Int),0<=k->DP l k<=k+DJ l
 |[],k,_=>by simp[DP,DJ]
 |x::r,k,h=>by
  have hn:=Qo r;simp only[DP,DJ];split
  .split
   .omega
   .rename_i c
    have:=mV r (EW x.Sides (k+1)) (by omega)
    rcases mZ x.Sides (k+1) with e|e<;>omega
  .omega
def Oy{s:Au}{k:Int}(h:0<=k):Ga s k<=k+2*s.Glues.length+DJ s.Tiles:=by
 have hn:=Qo s.Tiles;simp only[Ga];split
 .omega
 .rename_i c;split
  .omega
  .have:=mV s.Tiles (Eu s.Glues k) (by omega)
   rcases nB s.Glues k with e|e<;>omega
def heldSys_.fv(a:AF×Int):Int:=(VR) (a.1) (a.2)
def heldSys_.row:AE:=CG (b2 (qR AF.d_le) qI) rI (λa=>0<=a.2/\a.2+2*a.1.Set.Glues.length+DJ a.1.Set.Tiles+3*a.1.Seed.Tiles.length<=1099511627776) heldSys_.fv
def heldSys_.ok:AI 10 heldSys_.row:=by
 refine Gy (tC heldTS_.ok (tC heldA_.ok tN)) Tryz.func10 ?_;intro a z;simp only[Tryz.f10,Option.getD];simp(maxSteps:=9^9)(disch:=omega)only[ZZ,simprocAttr,Ab,heldSys_.fv,heldTS_.q,heldTS_.fv,heldA_.q,heldA_.fv,BS,D.sc,D.scs,BJ,AQ];obtain⟨s,k⟩:=a;obtain⟨O,Q⟩:=z;simp only at O Q⊢;have Z:=Oy (s:=s.Set) O;simp only[VR];refine⟨⟨O,by omega⟩,?_⟩;by_cases c:Ga s.Set k<0
 .rw[Ai c,Ai c]
 .rw[Af c,Af c];refine⟨⟨by omega,by omega⟩,?_⟩;by_cases G:EC s.Seed.Tiles (Ga s.Set k)<0
  .rw[Ai G,Ai G]
  .rw[Af G,Af G]
end Go.Ae
namespace Go.Ae
open Go.Proofs
def O1:List Tile->Int->List Tile
 |[],_=>[]
 |x::r,k=>⟨FG k,Hm (k+1) x.Sides.length⟩::O1 r (k+1+x.Sides.length)
def bG: ∀(a:List Tile) (k:Int),(O1 a k).length=a.length
 |[],_=>rfl
 |x::r,k=>by simp only[O1,Dd,bG r]
def bI: ∀(a:List Tile) (k:Int) (i:Nat),i<a.length->(O1 a k)[i]? =some ⟨FG (Eb a k i),Hm (Eb a k i+1) (fU a i).length⟩
 |[],_,i,h=>by simp at h
 |x::r,k,0,_=>by simp[O1,Eb,fU]
 |x::r,k,i+1,h=>by
  rw[O1,PG,bI r _ i (by simpa using h),aG];simp[fU]
def Me: ∀(a:List Tile) (k:Int),DJ (O1 a k)=a.length+D9 a
 |[],_=>by simp[O1,DJ,D9]
 |x::r,k=>by
  simp only[O1,DJ,Me r,Qg,D9,Bb,Kl,Dd];omega
def nA: ∀(a:List Tile) (k:Int),0<=k->DP (O1 a k) k=k+a.length+D9 a
 |[],k,_=>by simp[O1,DP,D9]
 |x::r,k,h=>by
  have e:EW (Hm (k+1) x.Sides.length) (k+1)=k+1+x.Sides.length:=RZ _ _;simp only[O1,DP,e];rw[Ai trivial,Af (by omega),nA r _ (by omega)];simp only[D9,Bb,Kl,Dd];omega
def RY(k:Int)(n:Nat):Eu (Ft (gF k) n) k=k+2*n:=by
 simp only[Eu,aL];exact Ai rfl
def Hl(s:AF)(k:Int):AF:=⟨⟨Ft (gF k) s.Set.Glues.length,O1 s.Set.Tiles (DK (s.Set,k))⟩,⟨Ft (pF (syK (s,k))) s.Seed.Tiles.length⟩,s.Temperature⟩
def Qax6(s:AF){k:Int}(h:0<=k):VR (Hl s k) k=syK (s,k)+3*s.Seed.Tiles.length:=by
 have e:Ga (Hl s k).Set k=syK (s,k):=by
  simp only[Ga,Hl,RY,DK];rw[Af (by omega),nA _ _ (by omega)];rw[Af (by omega)];simp only[syK,VS,DK]
 have hp:EC (Hl s k).Seed.Tiles (syK (s,k))=syK (s,k)+3*s.Seed.Tiles.length:=Sa _ _;have hn:0<=syK (s,k):=by simp only[syK,VS,DK];omega
 simp only[VR,e,hp];rw[Af (by omega),Af (by omega)]
def Md{s:AF}(z:Ff s):(0:Int)<=1/\(1:Int)+2*(Hl s 1).Set.Glues.length+DJ (Hl s 1).Set.Tiles+3*(Hl s 1).Seed.Tiles.length<=1099511627776:=by
 have:=z.g;have:=z.t;have:=z.d;have:=z.p
 simp only[Hl,aL,Me];omega
def aY{g t p f nx:Nat}{tm:List (Nat×AV)}{h:Ao}{dst:Option Nat}{go:Az->Prop}{s:AF}{k:Int}(hB:Ff s)(hk:0<=k)(ac:k<=1048576)(hS:C5 (hget h) g t p f s)
 (ad:g≠t)(af:g≠p)(ag:t≠p)(hf:(g<f\/f+1048576<=g)/\(t<f\/f+1048576<=t)/\(p<f\/f+1048576<=p))(ah:g<nx/\t<nx/\p<nx/\f+1048576<=nx)
 (ab: ∀O:Ao,C5 (hget O) g t p f (Hl s k)->(∀m,m≠g->m≠t->m≠p->(m<f\/f+1048576<=m)->hget O m=hget h m)->go ((⟨tm,O,nx⟩:Az).put dst (.im (.int .i64 (syK (s,k)+3*s.Seed.Tiles.length))))):
 mkSy.row [.agg [.own g,.own t,.own p,.im (.int .i64 s.Temperature)],.im (.int .i64 k)] (hget h) nx (Ez go ⟨tm,h,nx⟩ dst):=by
 have ht:=hB.t;have Z:nT s.Set.Tiles=s.Set.Tiles.length:=by simp only[nT];omega
 obtain⟨τ,hτ⟩: ∃τ:Nat->Nat,τ=λj=>if j=2000000 then p else if j=0 then g else if j=1 then t else f+(j - 2):=⟨_,rfl⟩
 have t0:τ 0=g:=by rw[hτ];rfl
 have t1:τ 1=t:=by rw[hτ];rfl
 have t2: ∀j,j<1048576->τ (2+j)=f+j:=λj z=>by rw[hτ];simp only;rw[Af (by omega),Af (by omega),Af (by omega)];omega
 have tp:τ 2000000=p:=by rw[hτ];exact Ai rfl
 have hσ: ∀j,j<2000001->B0 τ 2000001 nx j=τ j:=λj z=>Ai z
 have d0: ∀j,Aj (mkSy.H0 (s,k)) j=true->j=2000000\/j<2+nT s.Set.Tiles:=λj z=>(mkSy.dom0 _ _).1 z
 have tv: ∀j,(j=2000000/\τ j=p)\/(j=0/\τ j=g)\/(j=1/\τ j=t)\/(j≠2000000/\2<=j/\τ j=f+(j - 2)):=λj=>by
  rw[hτ];simp only;split
  .exact .inl ⟨by assumption,rfl⟩
  split
  .exact .inr (.inl ⟨by assumption,rfl⟩)
  split
  .exact .inr (.inr (.inl ⟨by assumption,rfl⟩))
  .exact .inr (.inr (.inr ⟨by assumption,by omega,rfl⟩))
 have rg: ∀j,Aj (mkSy.H0 (s,k)) j=true->τ j=g\/τ j=t\/τ j=p\/(f<=τ j/\τ j<f+1048576):=λj z=>by
  have h1:=d0 j z;have h2:=tv j;omega
 have rows: ∀(i:Nat) (nm:Nat->ByteArray),(∀j,j<nT s.Set.Tiles->Fq s.Set.Tiles (DK (s.Set,k)) i j=[.im (.str (nm j)),.own (2+j)])->(CZ s.Set.Tiles (DK (s.Set,k)) i).map (AH (B0 τ 2000001 nx))=(List.range s.Set.Tiles.length).map λj=>[.im (.str (nm j)),.own (f+j)]:=λi nm hnm=>by
  simp only[CZ,Z,Km];refine Ii λj z=> ?_
  have z:=Bk.1 z;simp only[Function.comp,hnm j (by omega),AH,AV.ren];rw[hσ _ (by omega),t2 j (by omega)]
 refine AL.tau (s,k) τ (hB.mkp hk ac) (λ_ _=>rfl) (λj z=> ?_) (λi j G z h=> ?_) (mkSy.hcl _) ⟨?_,?_⟩ (by simp[mkSy.r0,AV.nms]) (λO hH1 aa=> ?_)
 .have h1:=d0 j z;have h2:=rg j z;omega
 .have h1:=d0 i G;have h2:=d0 j z;have v1:=tv i;have v2:=tv j;rcases v1 with ⟨a1,b1⟩|⟨a1,b1⟩|⟨a1,b1⟩|⟨a1,a3,b1⟩<;>rcases v2 with ⟨a2,b2⟩|⟨a2,b2⟩|⟨a2,b2⟩|⟨a2,a4,b2⟩<;>rw[b1,b2] at h<;>omega
 .simp only[mkSy.ca,AH,AV.ren,hσ 0 (by omega),hσ 1 (by omega),hσ 2000000 (by omega),t0,t1,tp]
 .simp only[mkSy.H0,mkTS.H0,Ho,D5,hσ 0 (by omega),hσ 1 (by omega),hσ 2000000 (by omega),t0,t1,tp,Ac.ren];refine⟨hS.p,hS.g,?_,Nw λi G=> ?_⟩
  .rw[hS.t,rows 0 (λj=>(s.Set.Tiles[j]?.map Tile.Name).getD ByteArray.empty) λj _=>rfl];rfl
  .rw[Z] at G;rw[hσ _ (by omega),t2 i (by omega),hS.f i G];rfl
 have Q:(Hl s k).Set.Tiles.length=s.Set.Tiles.length:=bG _ _;refine ab O ⟨?_,?_,?_,λi G=> ?_⟩ λm m1 m2 m3 m4=>aa m λj z e=>by have:=rg j z;omega
 .have:=hH1 0 _ rfl
  rwa [t0] at this
 .have:=hH1 1 _ rfl
  rw[t1] at this;rw[this];simp only[Ac.ren];rw[rows _ (λj=>FG (Eb s.Set.Tiles (DK (s.Set,k)) j)) λj z=>Ai z];simp only[C4,Q];congr 3;refine Ii λj z=> ?_
  have z:=Bk.1 z;simp only[Hl,bI _ _ _ z,D7,AT]
 .have:=hH1 2000000 _ rfl
  rwa [tp] at this
 .rw[Q] at G;have e:hget (mkSy.H1 (s,k)) (2+i)=some (Fs s.Set.Tiles (DK (s.Set,k)) (nT s.Set.Tiles) i):=by
   simp only[mkSy.H1,hget,AC _ _ (show 2000000≠2+i by omega),Bs];exact mM i (show i<nT s.Set.Tiles by omega)
  have:=hH1 _ _ e
  rw[t2 i (by omega)] at this;rw[this];simp only[Fs,Ca,Hl,bI _ _ _ G,Ac.ren,D7,AT];rw[Ai (by omega)]
def CV:AF:=⟨⟨[],[]⟩,⟨[]⟩,0⟩
def mkG0.fv(a:(List Ad)×Int):Int:=(λ_ k=>k) (a.1) (a.2)
def mkG0.row:AE:=vK (b2 (qS Ad.d_le Ad.c_n) qI) rI (λa=>a.1=[]) mkG0.fv
def mkG0.q:=Bg (R:=mkG0.row) rfl
def mkG0.ok:AI 64 mkG0.row:=by
 refine vw tN Tryz.func64 ?_;intro a z;simp only[Tryz.f64,Option.getD];simp(maxSteps:=9^9)(disch:=omega)only[ZZ,simprocAttr,Ab,mkG0.fv];obtain⟨l,k⟩:=a;simp only at z⊢;subst z;refine AY.old ⟨Unit,λ_=>⟨[(5,.im (.int .i64 0)),(4,.im (.int .i64 0)),(1,.im (.int .i64 k)),(0,.im (.sl false 2 []))],[],0⟩,λ_=>0,λ_=>⟨by simp[ZG],by simp⟩,⟨(),by simp(maxSteps:=9^9)(disch:=omega)only[ZZ,simprocAttr,Ab,mkG0.fv,sub,BD]⟩,λ_=> ?_⟩;simp(maxSteps:=9^9)(disch:=omega)only[ZZ,simprocAttr,Ab,mkG0.fv,sub,BD]
 try simp
def mkL0.fv(a:(List Tile)×Int):Int:=(λ_ k=>k) (a.1) (a.2)
def mkL0.row:AE:=vK (b2 (qS Tile.d_le Tile.c_n) qI) rI (λa=>a.1=[]) mkL0.fv
def mkL0.q:=Bg (R:=mkL0.row) rfl
def mkL0.ok:AI 65 mkL0.row:=by
 refine vw tN Tryz.func65 ?_;intro a z;simp only[Tryz.f65,Option.getD];simp(maxSteps:=9^9)(disch:=omega)only[ZZ,simprocAttr,Ab,mkL0.fv];obtain⟨l,k⟩:=a;simp only at z⊢;subst z;refine AY.old ⟨Unit,λ_=>⟨[(5,.im (.int .i64 0)),(4,.im (.int .i64 0)),(1,.im (.int .i64 k)),(0,.im (.sl false 2 []))],[],0⟩,λ_=>0,λ_=>⟨by simp[ZG],by simp⟩,⟨(),by simp(maxSteps:=9^9)(disch:=omega)only[ZZ,simprocAttr,Ab,mkL0.fv,sub,BD]⟩,λ_=> ?_⟩;simp(maxSteps:=9^9)(disch:=omega)only[ZZ,simprocAttr,Ab,mkL0.fv,sub,BD]
 try simp
def mkPl0.fv(a:(List Al)×Int):Int:=(λ_ k=>k) (a.1) (a.2)
def mkPl0.row:AE:=vK (b2 (qS Al.d_le Al.c_n) qI) rI (λa=>a.1=[]) mkPl0.fv
def mkPl0.q:=Bg (R:=mkPl0.row) rfl
def mkPl0.ok:AI 66 mkPl0.row:=by
 refine vw tN Tryz.func66 ?_;intro a z;simp only[Tryz.f66,Option.getD];simp(maxSteps:=9^9)(disch:=omega)only[ZZ,simprocAttr,Ab,mkPl0.fv];obtain⟨l,k⟩:=a;simp only at z⊢;subst z;refine AY.old ⟨Unit,λ_=>⟨[(5,.im (.int .i64 0)),(4,.im (.int .i64 0)),(1,.im (.int .i64 k)),(0,.im (.sl false 3 []))],[],0⟩,λ_=>0,λ_=>⟨by simp[ZG],by simp⟩,⟨(),by simp(maxSteps:=9^9)(disch:=omega)only[ZZ,simprocAttr,Ab,mkPl0.fv,sub,BD]⟩,λ_=> ?_⟩;simp(maxSteps:=9^9)(disch:=omega)only[ZZ,simprocAttr,Ab,mkPl0.fv,sub,BD]
 try simp
def mkTS0.fv(a:Au×Int):Int:=(λ_ k=>k) (a.1) (a.2)
def mkTS0.row:AE:=vK (b2 (qR Au.d_le) qI) rI (λa=>a.1.Glues=[]/\a.1.Tiles=[]) mkTS0.fv
def mkTS0.q:=Bg (R:=mkTS0.row) rfl
def mkTS0.ok:AI 29 mkTS0.row:=by
 refine vw (tC mkG0.ok (tC mkL0.ok tN)) Tryz.func29 ?_;intro a z;simp only[Tryz.f29,Option.getD];simp(maxSteps:=9^9)(disch:=omega)only[ZZ,simprocAttr,Ab,mkTS0.fv,mkG0.q,mkG0.fv,mkL0.q,mkL0.fv];exact z
def mkA0.fv(a:A9×Int):Int:=(λ_ k=>k) (a.1) (a.2)
def mkA0.row:AE:=vK (b2 (qR A9.d_le) qI) rI (λa=>a.1.Tiles=[]) mkA0.fv
def mkA0.q:=Bg (R:=mkA0.row) rfl
def mkA0.ok:AI 30 mkA0.row:=by
 refine vw (tC mkPl0.ok tN) Tryz.func30 ?_;intro a z;simp only[Tryz.f30,Option.getD];simp(maxSteps:=9^9)(disch:=omega)only[ZZ,simprocAttr,Ab,mkA0.fv,mkPl0.q,mkPl0.fv];exact z
def mkSy0.fv(a:AF×Int):Int:=(λ_ k=>k) (a.1) (a.2)
def mkSy0.row:AE:=vK (b2 (qR AF.d_le) qI) rI (λa=>(a.1.Set.Glues=[]/\a.1.Set.Tiles=[])/\a.1.Seed.Tiles=[]) mkSy0.fv
def mkSy0.ok:AI 9 mkSy0.row:=by
 refine vw (tC mkTS0.ok (tC mkA0.ok tN)) Tryz.func9 ?_;intro a z;simp only[Tryz.f9,Option.getD];simp(maxSteps:=9^9)(disch:=omega)only[ZZ,simprocAttr,Ab,mkSy0.fv,mkTS0.q,mkTS0.fv,mkA0.q,mkA0.fv];exact z
def mkSyR.row:AE:=orR mkSy0.row mkSy.row
def mkSyR.ok:AI 9 mkSyR.row:=SX mkSy0.ok mkSy.ok
def Tk{s:AF}{k:Int}(h:(Bm s k).2≠0):(Bm s k).1=CV:=by
 simp only[Bm] at h⊢;split
 .rename_i c1;rw[Ai c1] at h;split
  .rename_i z;rw[Ai z] at h;split
   .rename_i G;rw[Ai G] at h;split
    .rename_i O;rw[Ai O] at h;split
     .rename_i Q;rw[Ai Q] at h;exact absurd rfl h
     .rfl
    .rfl
   .rfl
  .rfl
 .rfl
def Ua{a:List Tile}{m:Nat}(h: ∀x∈a,x.Sides.length<=m):D9 a<=a.length*m:=by
 induction a with
 |nil=>simp[D9]
 |cons y r ih=>
  have O:=h y (BQ ..);have z:=ih λx G=>h x (BK _ G)
  simp only[D9,Bb,Kl,Dd,rO] at z⊢;omega
def Yo{s:AF}(h:Ih s=true):Ff s:=by
 obtain⟨w1,w2⟩:El s.Set=true/\Hw s.Set s.Seed=true:=by
  simp only[Ih,AW] at h;exact⟨h.1,h.2.1⟩
 have G:=nL w1;have O:=Qws w1;have Q:s.Set.Glues.length<=200:=by simp only[El,AW,Cy] at w1;exact w1.1.1
 have Z:CS none s.Seed.Tiles=true/\s.Seed.Tiles.length<=500:=by simp only[Hw,AW,Cy] at w2;exact w2.1
 have w7:=Ua (a:=s.Set.Tiles) (m:=4) λx z=>by rw[(G.2.1 x z).1];exact AP _
 exact⟨by omega,by omega,by omega,by omega⟩
def bE{s:AF}{k:Int}(h:(Bm s k).2=0):Ff (Bm s k).1/\(Bm s k).1.Temperature=2:=by
 simp only[Bm] at h⊢;split
 .rename_i c1;rw[Ai c1] at h;split
  .rename_i z;rw[Ai z] at h;split
   .rename_i G;rw[Ai G] at h;split
    .rename_i O;rw[Ai O] at h;split
     .rename_i Q;exact⟨Yo Q,rfl⟩
     .rename_i Q;rw[Af Q] at h;cases h
    .rename_i O;rw[Af O] at h;cases h
   .rename_i G;rw[Af G] at h;cases h
  .rename_i z;rw[Af z] at h;cases h
 .rename_i c1;rw[Af c1] at h;cases h
def VT(a:AF×Int):Hn (prfC.r0 a)=true/\ ∀m∈(prfC.r0 a).nms,m<2000013:=by
 simp only[prfC.r0];split
 .exact⟨rfl,by simp[AV.nms,Aw]⟩
 .exact⟨by simp[Hn,D.scd,OU,DX,D.sc],by simp[AV.nms]⟩
def JW(a:AF×Int): ∀p∈prfC.H1 a,p.1<2000013/\p.2.1=true/\HU p.2.2=true/\ ∀m∈p.2.2.nms,m<2000013:=by
 intro p hp;have z:min (Bm a.1 a.2).1.Set.Tiles.length 1048576<=1048576:=Zh _ _;simp only[prfC.H1] at hp;split at hp
 .rename_i c;have Q:=(bE c).1.t;simp only[Bt,AG,Bn,Bk] at hp;rcases hp with rfl|rfl|rfl|⟨i,Z,rfl⟩
  .exact⟨by omega,rfl,by simp[HU,Ad.c,D.sc],by simp[Ac.nms]⟩
  .refine⟨by omega,rfl,?_,λm z=> ?_⟩
   .simp only[HU,C4,CM];intro r G;obtain⟨j,_,rfl⟩:=Bn.1 G;simp[Ej,Hn,D.sc]
   .simp only[Ac.nms] at z;obtain⟨r,G,z⟩:=EU.1 z;obtain⟨j,O,rfl⟩:=Bn.1 G
    have:=Bk.1 O
    simp[Aw,AV.nms] at z;omega
  .exact⟨by omega,rfl,by simp[HU,Al.c,D.sc],by simp[Ac.nms]⟩
  .exact⟨by simp only;omega,rfl,by simp[HU,Ca,Ak,D.sc],by simp[Ca,Ac.nms]⟩
 .cases hp
def prfV.ar:List PK->Option (AF×Int):=a2 (kR AF.d) kI
def prfV.row:AE:=EV prfV.ar (λa=>bV a.1.Set) prfC.r0 prfC.H1 2000013
def prfV.ok:AI 7 prfV.row:=
 mK (A:=AF×Int) (ca:=λ(a:AF×Int)=>[D.agg (AF.c a.1),D.int .i64 a.2]) (by kernel_rfl) prfC.ok (λ_=>rfl) (QN (LR AF.d_le) Zy) VT JW
def Uw(s:AF)(k:Int):prfV.ar [.val (.agg (AF.c s)),.val (.int .i64 k)]=some (s,k):=by simp only[prfV.ar,a2,kR,kI,AF.d_c,GE]
def Tm{s:AF}{k:Int}(h:(Bm s k).2=0){nx:Nat}{G:Ao}(z: ∀j e,hget (prfC.H1 (s,k)) j=some e->hget G (nx+j)=some (e.1,e.2.ren λj=>nx+j)):C5 (hget G) (nx+144) (nx+300) (nx+26) (nx+301) (Bm s k).1:=by
 have Z:=(bE h).1.t;have Q:min (Bm s k).1.Set.Tiles.length 1048576=(Bm s k).1.Set.Tiles.length:=by omega
 have hH:prfC.H1 (s,k)=(144,(true,.arr 108 2 ((Bm s k).1.Set.Glues.map Ad.c)))::(300,(true,.arrA 98 2 (C4 301 (Bm s k).1.Set.Tiles)))::(26,(true,.arr 89 3 ((Bm s k).1.Seed.Tiles.map Al.c)))::AG 301 (Bm s k).1.Set.Tiles.length (Ca (Bm s k).1.Set.Tiles):=by
  simp only[prfC.H1];rw[Ai h,Q]
 rw[hH] at z;refine⟨z 144 _ rfl,?_,z 26 _ rfl,λi O=> ?_⟩
 .rw[z 300 _ rfl];simp only[Ac.ren];congr 3;simp only[C4,Km];refine Ii λi O=> ?_
  simp only[Function.comp,AH,AV.ren];rw[FA]
 .have e:hget ((144,(true,Ac.arr 108 2 ((Bm s k).1.Set.Glues.map Ad.c)))::(300,(true,.arrA 98 2 (C4 301 (Bm s k).1.Set.Tiles)))::(26,(true,.arr 89 3 ((Bm s k).1.Seed.Tiles.map Al.c)))::AG 301 (Bm s k).1.Set.Tiles.length (Ca (Bm s k).1.Set.Tiles):Ao) (301+i)=some (Ca (Bm s k).1.Set.Tiles i):=by
   simp only[hget,AC _ _ (show 144≠301+i by omega),AC _ _ (show 300≠301+i by omega),AC _ _ (show 26≠301+i by omega),Bs];exact DY _ _ _ _ O
  rw[FA,z _ _ e];rfl
def SH:kR AF.d (.val DX)=some CV:=by
 simp only[kR,DX,AF.d,AU,GE];rfl
def K9(t:AF):a2 (kR AF.d) (kR AF.d) [.val DX,.val (.agg (AF.c t))]=some (CV,t):=by
 rw[a2,SH];simp only[kR,AF.d_c,GE]
def SG(k:Int):a2 (kR AF.d) kI [.val DX,.val (.int .i64 k)]=some (CV,k):=by simp only[a2,SH,kI,GE]
def ZE(s:AF)(k:Int):a2 (kR AF.d) kI [.val (.agg (AF.c s)),.val (.int .i64 k)]=some (s,k):=by simp only[a2,kR,kI,AF.d_c,GE]
def lawPS.rc:D->Option (Bool):=V2
def lawPS.re:Bool->D:=D.bool
def lawPS.rle: ∀d b,lawPS.rc d=some b->Le d (lawPS.re b):=mN
def lawPS.ar:List PK->Option (AF×Int):=a2 (kR AF.d) kI
def lawPS.fv(a:AF×Int):Bool:=(λ_ _=>true) (a.1) (a.2)
def lawPS.row:AE:=vK (b2 (qR AF.d_le) qI) (RK.mk lawPS.rc lawPS.re lawPS.rle) (λa=>O4 a.1.Set) lawPS.fv
def lawPS.q:=Bg (R:=lawPS.row) rfl
def Fg:=J @lawPS.fv.eq_1<|J @lawPS.rc.eq_1<|J @szSystem.q<|J @szSystem.fv.eq_1<|J @prfS_.q<|J @prfS_.fv.eq_1<|J @toSystem.fv.eq_1 @eqSystemF.fv.eq_1
def lawPS.ok:AI 3 lawPS.row:=by
 refine vw (tC szSystem.ok (tC toYR.ok (tC prfS_.ok (tC prfV.ok (tC eqSystemF.ok (tC mkSyR.ok (tC heldSys_.ok tN))))))) Tryz.func3 ?_;intro a aa;simp only[Tryz.f3,Option.getD];simp(maxSteps:=9^9)(disch:=omega)only[ZZ,simprocAttr,Ab,Fg];obtain⟨s,k⟩:=a;simp only at aa⊢;refine⟨aa,?_⟩;split
 .trivial
 rename_i c0;have hB:=Yp (s:=s) (l:=1048576) (by decide) (by decide) (by omega);have h1:=Uy (s:=s) (l:=1048576) (by decide) (by decide) (by omega);have hb:=Yq s 1048576 (by decide);refine .inl (vK.call [.val (.agg (AF.c s))] rfl s (JR s) h1 ?_);simp(maxSteps:=9^9)(disch:=omega)only[ZZ,simprocAttr,Ab,Fg,sub,Bq];obtain⟨w,hw⟩: ∃w,w=Bm s k:=⟨_,rfl⟩;obtain⟨O,w1⟩:=w;simp only[<-hw];refine .inr (AL.nw s hB.yx rfl rfl (tY hB) (by simp[toYX.r0,AV.nms,Aw]) λHH hH1 z=> ?_);have S0:C5 (hget HH) 9 11 2000014 12 s:=tX hB hH1;have G:hget HH 0=some (true,.cells 30 [AV.im (D.sl false 2 (List.map Ad.c s.Set.Glues)),AV.im (D.sl false 2 (List.map Tile.c s.Set.Tiles)),AV.im (D.sl false 3 (List.map Al.c s.Seed.Tiles)),AV.im (D.int IntKind.i64 s.Temperature)]):=z 0 (by omega);have k1:hget HH 1=some (true,.cells 40 [AV.im (D.sl false 2 (List.map Ad.c O.Set.Glues)),AV.im (D.sl false 2 (List.map Tile.c O.Set.Tiles)),AV.im (D.sl false 3 (List.map Al.c O.Seed.Tiles)),AV.im (D.int IntKind.i64 O.Temperature)]):=z 1 (by omega);clear hH1 z;simp only[toYX.r0,AV.ren,AH];simp(maxSteps:=9^9)(disch:=omega)only[ZZ,simprocAttr,Ab,Fg,sub,Bq,G,k1];generalize hG:((2000015,(true,Ac.cells 40 [AV.own 9,AV.own 11,AV.own 2000014,AV.im (D.int IntKind.i64 s.Temperature)]))::Ba HH [2000015]:Ao)=H1;have G:=pg hG (by omega) G;have k1:=pg hG (by omega) k1;have x0:hget H1 2000015=some (true,.cells 40 [AV.own 9,AV.own 11,AV.own 2000014,AV.im (D.int IntKind.i64 s.Temperature)]):=by rw[<-hG];rfl
 have S1:C5 (hget H1) 9 11 2000014 12 s:=S0.mono λm hm=>by rw[<-hG];exact JP _ _ _ (by have:=hB.t;omega)
 clear hG S0;refine EV.nw [.val (.agg (AF.c s)),.val (.int .i64 k)] (Z7 S1.pk rfl) (s,k) (Uw s k) aa (λp hp=>⟨(JW _ p hp).1,(JW _ p hp).2.2.2⟩) (VT _).2 λab hH1 z=> ?_
 have G:hget ab 0=_:=(z 0 (by omega)).trans G;have k1:hget ab 1=_:=(z 1 (by omega)).trans k1;have x0:hget ab 2000015=_:=(z _ (by omega)).trans x0;have S2:C5 (hget ab) 9 11 2000014 12 s:=S1.mono λm hm=>z m (by have:=hB.t;omega)
 clear S1;by_cases hc:(Bm s k).2=0
 .have af:w1=0:=by rw[<-hc,<-hw]
  have ac:O=(Bm s k).1:=by rw[<-hw]
  obtain⟨G0,hT⟩:=(bE hc);have G2:C5 (hget ab) 2000160 2000316 2000042 2000317 O:=by rw[ac];exact Tm hc hH1
  have er:(prfC.r0 (s,k)).ren (λj=>2000016+j)= .tup [.agg [.own 2000160,.own 2000316,.own 2000042,.im (.int .i64 O.Temperature)],.im (.int .i64 0)]:=by
   rw[ac,hT];simp only[prfC.r0];rw[Ai hc];simp only[AV.ren,AH]
  clear hH1 z;rw[er];rw[<-ac] at G0;subst af;have e1:=(VF (show 4000029≠1 by decide)).trans k1;simp(maxSteps:=9^9)(disch:=omega)only[ZZ,simprocAttr,Ab,Fg,sub,Bq,G,k1,x0,e1];clear e1;generalize hG:((4000029,(true,Ac.cells 40 [AV.own 2000160,AV.own 2000316,AV.own 2000042,AV.im (D.int IntKind.i64 O.Temperature)]))::Ba ab [4000029]:Ao)=H3;have G:=pg hG (by omega) G;have k1:=pg hG (by omega) k1;have x0:=pg hG (by omega) x0;have S3:C5 (hget H3) 9 11 2000014 12 s:=S2.mono λm hm=>by rw[<-hG];exact JP _ _ _ (by have:=hB.t;omega)
  have G3:C5 (hget H3) 2000160 2000316 2000042 2000317 O:=G2.mono λm hm=>by rw[<-hG];exact JP _ _ _ (by have:=G0.t;omega)
  have g0:hget H3 4000029=some (true,.cells 40 [AV.own 2000160,AV.own 2000316,AV.own 2000042,AV.im (D.int IntKind.i64 O.Temperature)]):=by rw[<-hG];rfl
  clear hG S2 G2;refine CG.call [_,_] (Z7 G3.pk rfl) (O,O) (Jm _ _) trivial ?_;simp(maxSteps:=9^9)(disch:=omega)only[ZZ,simprocAttr,Ab,Fg,sub,Bq,G,k1,x0,g0,QM];refine .inl (vK.callA [.val (.agg (AF.c s))] rfl s (JR s) h1 rfl λu=> ?_);simp(maxSteps:=9^9)(disch:=omega)only[ZZ,simprocAttr,Ab,Fg,sub,Bq,G,k1,x0,g0];refine CG.callA [_,_] (Z7 S3.pk rfl) (s,s) (Jm _ _) trivial rfl λu2=> ?_
  simp(maxSteps:=9^9)(disch:=omega)only[ZZ,simprocAttr,Ab,Fg,sub,Bq,G,k1,x0,g0,QM];refine .inr (aY hB (by decide) (by decide) S3 (by decide) (by decide) (by decide) (by omega) (by omega) λZ _ hk=> ?_);have G:hget Z 0=_:=(hk 0 (by omega) (by omega) (by omega) (by omega)).trans G;have k1:hget Z 1=_:=(hk 1 (by omega) (by omega) (by omega) (by omega)).trans k1;have g0:hget Z 4000029=_:=(hk _ (by omega) (by omega) (by omega) (by omega)).trans g0;have G4:C5 (hget Z) 2000160 2000316 2000042 2000317 O:=G3.mono λm hm=>by have:=G0.t;exact hk m (by omega) (by omega) (by omega) (by omega)
  clear hk x0 S3 G3;obtain⟨y1,y2⟩:=hB.syK (k:=1) (by decide) (by decide);obtain⟨m1,hm1⟩: ∃m1,m1=syK (s,1)+3*s.Seed.Tiles.length:=⟨_,rfl⟩;rw[<-hm1] at y2;have y3:0<=m1:=by omega
  simp only[<-hm1];clear y1 hm1;simp(maxSteps:=9^9)(disch:=omega)only[ZZ,simprocAttr,Ab,Fg,sub,Bq,G,k1,g0];rw[Ai (by omega)];refine CG.call [_,_] (Z7 G4.pk rfl) (O,O) (Jm _ _) trivial ?_;simp(maxSteps:=9^9)(disch:=omega)only[ZZ,simprocAttr,Ab,Fg,sub,Bq,G,k1,g0,QM];refine .inr (aY G0 (by decide) (by decide) G4 (by decide) (by decide) (by decide) (by omega) (by omega) λad G5 hk=> ?_);have G:hget ad 0=_:=(hk 0 (by omega) (by omega) (by omega) (by omega)).trans G;have k1:hget ad 1=_:=(hk 1 (by omega) (by omega) (by omega) (by omega)).trans k1;have g0:hget ad 4000029=_:=(hk _ (by omega) (by omega) (by omega) (by omega)).trans g0;clear hk G4;obtain⟨z1,z2⟩:=G0.syK (k:=1) (by decide) (by decide);have z4:=Qax6 O (k:=1) (by decide);obtain⟨m2,hm2⟩: ∃m2,m2=syK (O,1)+3*O.Seed.Tiles.length:=⟨_,rfl⟩;rw[<-hm2] at z2 z4;have z3:0<=m2:=by omega
  simp only[<-hm2];clear z1 hm2;have z5:heldSys_.fv (Hl O 1,1)=m2:=z4;simp(maxSteps:=9^9)(disch:=omega)only[ZZ,simprocAttr,Ab,Fg,sub,Bq,G,k1,g0];refine CG.call [_,_] (Z7 (G5.pk (s:=Hl O 1)) rfl) (Hl O 1,1) (ZE _ _) (Md G0) ?_;simp only[z5];simp(maxSteps:=9^9)(disch:=omega)only[ZZ,simprocAttr,Ab,Fg,sub,Bq,G,k1,g0];rw[Af (by omega)];refine .inl (vK.call [.val (.agg (AF.c s))] rfl s (JR s) h1 ?_);simp(maxSteps:=9^9)(disch:=omega)only[ZZ,simprocAttr,Ab,Fg,sub,Bq,G,k1,g0];refine EV.nw [.val (.agg (AF.c s)),.val (.int .i64 k)] rfl (s,k) (Uw s k) aa (λp hp=>⟨(JW _ p hp).1,(JW _ p hp).2.2.2⟩) (VT _).2 λQ hH1 z=> ?_
  have G:hget Q 0=_:=(z 0 (by omega)).trans G;have k1:hget Q 1=_:=(z 1 (by omega)).trans k1;have g0:hget Q 4000029=_:=(z _ (by omega)).trans g0;have ag:(Hl O 1).Set.Tiles.length=O.Set.Tiles.length:=bG _ _;have G6:C5 (hget Q) 2000160 2000316 2000042 2000317 (Hl O 1):=G5.mono λm hm=>z m (by have:=G0.t;omega)
  have E6:C5 (hget Q) 4000174 4000330 4000056 4000331 O:=by rw[ac];exact Tm hc hH1
  have er:(prfC.r0 (s,k)).ren (λj=>4000030+j)= .tup [.agg [.own 4000174,.own 4000330,.own 4000056,.im (.int .i64 O.Temperature)],.im (.int .i64 0)]:=by
   rw[ac,hT];simp only[prfC.r0];rw[Ai hc];simp only[AV.ren,AH]
  clear hH1 z G5;rw[er];have e1:=(VF (show 6000043≠1 by decide)).trans k1;simp(maxSteps:=9^9)(disch:=omega)only[ZZ,simprocAttr,Ab,Fg,sub,Bq,G,k1,g0,e1];clear e1;generalize hG:((6000043,(true,Ac.cells 40 [AV.own 4000174,AV.own 4000330,AV.own 4000056,AV.im (D.int IntKind.i64 O.Temperature)]))::Ba Q [6000043]:Ao)=H7;have g0:=pg hG (by omega) g0;have G7:C5 (hget H7) 2000160 2000316 2000042 2000317 (Hl O 1):=G6.mono λm hm=>by rw[<-hG];exact JP _ _ _ (by have:=G0.t;omega)
  have E7:C5 (hget H7) 4000174 4000330 4000056 4000331 O:=E6.mono λm hm=>by rw[<-hG];exact JP _ _ _ (by have:=G0.t;omega)
  clear hG G6 E6;refine CG.call [_,_] (Z7 E7.pk rfl) (O,O) (Jm _ _) trivial ?_;simp(maxSteps:=9^9)(disch:=omega)only[ZZ,simprocAttr,Ab,Fg,sub,Bq,g0,QM];refine CG.call [_,_] (Z7 (G7.pk (s:=Hl O 1)) rfl) (Hl O 1,1) (ZE _ _) (Md G0) ?_;simp only[z5];simp(maxSteps:=9^9)(disch:=omega)only[ZZ,simprocAttr,Ab,Fg,sub,Bq,g0];rw[Af (by omega)];trivial
 .have af:w1≠0:=by
   have:w1=(Bm s k).2:=by rw[<-hw]
   rw[this];exact hc
  have ac:O=CV:=by
   have:O=(Bm s k).1:=by rw[<-hw]
   rw[this];exact Tk hc
  have er: ∀n,(prfC.r0 (s,k)).ren (λj=>n+j)= .im (.tup [DX,.int .i64 w1]):=λn=>by
   simp only[prfC.r0];rw[Af hc,<-hw];rfl
  clear hH1 z;rw[er];subst ac;have e1:=(VF (show 4000029≠1 by decide)).trans k1;simp(maxSteps:=9^9)(disch:=omega)only[ZZ,simprocAttr,Ab,Fg,sub,Bq,G,k1,x0,e1,DX];clear e1;generalize hG:((4000029,(true,Ac.cells 40 [AV.im (D.sl true 0 []),AV.im (D.sl true 0 []),AV.im (D.sl true 0 []),AV.im (D.int IntKind.i64 0)]))::Ba ab [4000029]:Ao)=H3;have G:=pg hG (by omega) G;have k1:=pg hG (by omega) k1;have x0:=pg hG (by omega) x0;have S3:C5 (hget H3) 9 11 2000014 12 s:=S2.mono λm hm=>by rw[<-hG];exact JP _ _ _ (by have:=hB.t;omega)
  have g0:hget H3 4000029=some (true,.cells 40 [AV.im (D.sl true 0 []),AV.im (D.sl true 0 []),AV.im (D.sl true 0 []),AV.im (D.int IntKind.i64 0)]):=by rw[<-hG];rfl
  clear hG S2;have n5:heldSys_.fv (CV,1)=1:=rfl;refine CG.call [.val DX,.val (.agg (AF.c CV))] rfl (CV,CV) (K9 CV) trivial ?_;simp(maxSteps:=9^9)(disch:=omega)only[ZZ,simprocAttr,Ab,Fg,sub,Bq,G,k1,x0,g0,QM];refine .inl (vK.callA [.val (.agg (AF.c s))] rfl s (JR s) h1 rfl λu=> ?_);simp(maxSteps:=9^9)(disch:=omega)only[ZZ,simprocAttr,Ab,Fg,sub,Bq,G,k1,x0,g0];refine CG.callA [_,_] (Z7 S3.pk rfl) (s,s) (Jm _ _) trivial rfl λu2=> ?_
  simp(maxSteps:=9^9)(disch:=omega)only[ZZ,simprocAttr,Ab,Fg,sub,Bq,G,k1,x0,g0,QM];refine .inr (aY hB (by decide) (by decide) S3 (by decide) (by decide) (by decide) (by omega) (by omega) λZ _ hk=> ?_);have G:hget Z 0=_:=(hk 0 (by omega) (by omega) (by omega) (by omega)).trans G;have k1:hget Z 1=_:=(hk 1 (by omega) (by omega) (by omega) (by omega)).trans k1;have g0:hget Z 4000029=_:=(hk _ (by omega) (by omega) (by omega) (by omega)).trans g0;clear hk x0 S3;obtain⟨y1,y2⟩:=hB.syK (k:=1) (by decide) (by decide);obtain⟨m1,hm1⟩: ∃m1,m1=syK (s,1)+3*s.Seed.Tiles.length:=⟨_,rfl⟩;rw[<-hm1] at y2;have y3:0<=m1:=by omega
  simp only[<-hm1];clear y1 hm1;simp(maxSteps:=9^9)(disch:=omega)only[ZZ,simprocAttr,Ab,Fg,sub,Bq,G,k1,g0];rw[Ai (by omega)];refine CG.call [.val DX,.val (.agg (AF.c CV))] rfl (CV,CV) (K9 CV) trivial ?_;simp(maxSteps:=9^9)(disch:=omega)only[ZZ,simprocAttr,Ab,Fg,sub,Bq,G,k1,g0,QM];refine .inl (vK.call [.val DX,.val (.int .i64 1)] rfl (CV,1) (SG _) ⟨⟨rfl,rfl⟩,rfl⟩ ?_);simp(maxSteps:=9^9)(disch:=omega)only[ZZ,simprocAttr,Ab,Fg,sub,Bq,G,k1,g0,mkSy0.fv];refine CG.call [.val DX,.val (.int .i64 1)] rfl (CV,1) (SG _) (by decide) ?_;simp only[n5];simp(maxSteps:=9^9)(disch:=omega)only[ZZ,simprocAttr,Ab,Fg,sub,Bq,G,k1,g0];refine .inl (vK.call [.val (.agg (AF.c s))] rfl s (JR s) h1 ?_);simp(maxSteps:=9^9)(disch:=omega)only[ZZ,simprocAttr,Ab,Fg,sub,Bq,G,k1,g0];refine EV.nw [.val (.agg (AF.c s)),.val (.int .i64 k)] rfl (s,k) (Uw s k) aa (λp hp=>⟨(JW _ p hp).1,(JW _ p hp).2.2.2⟩) (VT _).2 λQ _ z=> ?_
  have k1:hget Q 1=_:=(z 1 (by omega)).trans k1;have g0:hget Q 4000029=_:=(z _ (by omega)).trans g0;clear z;rw[er];have e1:=(VF (show 6000043≠1 by decide)).trans k1;simp(maxSteps:=9^9)(disch:=omega)only[ZZ,simprocAttr,Ab,Fg,sub,Bq,k1,g0,e1,DX];clear e1;generalize hG:((6000043,(true,Ac.cells 40 [AV.im (D.sl true 0 []),AV.im (D.sl true 0 []),AV.im (D.sl true 0 []),AV.im (D.int IntKind.i64 0)]))::Ba Q [6000043]:Ao)=H7;have g0:=pg hG (by omega) g0;clear hG;refine CG.call [.val DX,.val (.agg (AF.c CV))] rfl (CV,CV) (K9 CV) trivial ?_;simp(maxSteps:=9^9)(disch:=omega)only[ZZ,simprocAttr,Ab,Fg,sub,Bq,g0,QM];refine CG.call [.val DX,.val (.int .i64 1)] rfl (CV,1) (SG _) (by decide) ?_;simp only[n5];simp(maxSteps:=9^9)(disch:=omega)only[ZZ,simprocAttr,Ab,Fg,sub,Bq,g0]
end Go.Ae
