/- Lemmas. Conditions: none. -/
import Derived.Test.YtelbgmfdnnljoabGreatDoorP13
set_option linter.all false
set_option maxHeartbeats 8000000
set_option maxRecDepth 100000
namespace Go.Ae
open Go.Proofs Go.Lib
def BR(g:List Ad)(t:List Tile):An:=(0,(true,.cells 99 [.own 1,.own 2,.mp 3]))::(1,(true,.arr 128 2 (g.map Ad.c)))::(2,(true,.arrA 126 2 (BK 10 t)))::(3,(true,.map ⟨false,[.str]⟩ (Ck g)))::A8 10 t.length (Bv t)
def Ox(g:List Ad)(t:List Tile)(j:Nat):Aj (BR g t) j=true↔j<4\/(10<=j/\j<10+t.length):=by
 simp only[Aj,BR,hget];rcases (by omega:j=0\/j=1\/j=2\/j=3\/4<=j) with rfl|rfl|rfl|rfl|h
 .simp
 .simp
 .simp
 .simp
 rw[Ar _ _ (show 0≠j by omega),Ar _ _ (show 1≠j by omega),Ar _ _ (show 2≠j by omega),Ar _ _ (show 3≠j by omega)];simp only[Bk];by_cases c:10<=j/\j<10+t.length
 .obtain⟨i,rfl⟩: ∃i,j=10+i:=⟨j - 10,by omega⟩;rw[Dp _ _ _ _ (by omega)];simp;omega
 .rw[zW _ _ _ _ (by omega)];simp;omega
def qH(g:List Ad)(t:List Tile){H0:An}(h: ∀j,Aj (BR g t) j=true->Aj H0 j=true):BT H0 (BR g t):=by
 have hd: ∀j,(j<4\/(10<=j/\j<10+t.length))->Aj H0 j=true:=λj Q=>h j ((Ox g t j).2 Q)
 simp only[BR,BT];refine⟨λm z=> ?_,λm z=>by simp[Ac.nms] at z,λm z=> ?_,λm z=>by simp[Ac.nms] at z,dD λi O m z=>by simp[Bv,Ac.nms] at z⟩
 .simp[Ac.nms,Au,AV.nms] at z;exact hd m (by omega)
 .simp only[Ac.nms] at z;obtain⟨r,Z,z⟩:=Ek.1 z;obtain⟨i,O,rfl⟩:=Bl.1 Z
  have:=Bc.1 O
  simp[Au,AV.nms] at z;exact hd m (by omega)
def eE(g:List Ad)(t:List Tile){N:Nat}(h:10+t.length<=N):Aw N (BR g t)=true:=by
 simp only[BR,Aw];rw[O5 _ _ _ (λi=>by simp[Aw,Bv]),Rm _ _ _ h];simp[AA,AV.bel];omega
def dZ(g:List Ad)(t:List Tile){N:Nat}(h:10+t.length<=N):B6 N (BR g t)=true:=by
 simp only[BR,B6];rw[O2 _ _ _ _ h];simp;omega
abbrev ZN:={a:Mk×ByteArray×List ByteArray//a.1.2.length<=1000/\a.2.2.length<=100}
def mfC.ca(a:ZN):List AV:=[.ptr 0 0,.im (.str a.1.2.1),.own 4]
def mfC.H0(a:ZN):An:=(4,(true,.arr 9 1 (a.1.2.2.map ID)))::BR a.1.1.1 a.1.1.2
def mfC.H1(a:ZN):An:=[(0,(true,.cells 99 [.own 1,.own 2003,.mp 3])),(2003,(true,.arrA 126 2 (BK 10 a.1.1.2++[[.im (.str a.1.2.1),.own 2001]]))),(2001,(true,.arr 2 1 ((a.1.2.2.map (EW a.1.1.1)).map Ak)))]
def mfC.row:AF:=AD mfC.ca mfC.H0 2000 (λ_=>True) J4 (λa=> .im (.int .i64 a.1.1.2.length)) mfC.H1 20
def WX(a:ZN)(j:Nat):Aj (mfC.H0 a) j=true↔j<5\/(10<=j/\j<10+a.1.1.2.length):=by
 have h:=Ox a.1.1.1 a.1.1.2 j;simp only[Aj,mfC.H0,hget] at h⊢;by_cases z:j=4
 .subst z;simp
 .rw[Ar _ _ (show 4≠j by omega)];simp only[Bk];rw[h];omega
def mfC.hbel(a:ZN):AA 2000 (mfC.ca a)=true:=by simp[mfC.ca,AA,AV.bel]
def mfC.hbH(a:ZN):Aw 2000 (mfC.H0 a)=true:=by
 simp only[mfC.H0,Aw];exact eE _ _ (by have:=a.2.1;omega)
def mfC.hkH(a:ZN):B6 2000 (mfC.H0 a)=true:=by
 simp only[mfC.H0,B6];rw[dZ _ _ (by have:=a.2.1;omega)];rfl
def mfC.hnm(a:ZN):BT (mfC.H0 a) (mfC.H0 a):=by
 conv=>arg 2;unfold mfC.H0
 simp only[BT];refine⟨λm O=>by simp[Ac.nms] at O,qH _ _ λj z=> ?_⟩;rw[WX]
 have:=(Ox _ _ j).1 z
 omega
def eA{f:List AV->Option (List AV)}: ∀{a b a' b':List (List AV)},Ax f a=some a'->Ax f b=some b'->Ax f (a++b)=some (a'++b')
 |[],b,a',b',z,O=>by
  simp only[Ax,AN] at z;subst z;exact O
 |x::r,b,a',b',z,O=>by
  simp only[Ax] at z;cases hx:f x with
  |none=>rw[hx] at z;simp at z
  |some y=>
   rw[hx] at z;cases hr:Ax f r with
   |none=>rw[hr] at z;simp at z
   |some Q=>
    rw[hr] at z;simp only[AN] at z;subst z
    have:=eA hr O
    simp only[BO,Ax,hx,this]
def eJ{π:List (Nat×Option Nat)}{b:Nat}{t:List Tile}(h: ∀i,i<t.length->pm π (b+i)=some (b+i)):FF π (BK b t) (BK b t):=by
 rw[Wa];refine⟨rfl,λi Z r2 z Q=> ?_⟩;obtain rfl:=AJ (z.symm.trans Q);have O:i<t.length:=by
  have:=(C6.1 z).1
  simpa[BK] using this
 rw[BK,D3,Ga O] at z;obtain rfl:=AJ z;simp only[Dz,mt,h i O,EV,QL]
def mfC.ok:AL 86 mfC.row:=by
 refine ow tN Tryz.func86 (exB:=λj=>Nat.ble 2000 j) (R:=λa r=>r= .im (.int .i64 a.1.1.2.length)) (λ_=>rfl)
  (λa=>⟨mfC.hbel a,mfC.hbH a,mfC.hkH a,mfC.hnm a⟩) (λa p hp=> ?_) (λa r h=>by subst h;exact CN.refl _) ?_
 rotate_left
 intro a ag;simp only[Tryz.f86,Option.getD,mfC.ca,mfC.H0,BR,FU,F2,FV,EZ,LQ,HP];simp(maxSteps:=9^9)(disch:=omega)only[ZZ,simprocAttr,Ab,Aq,mfC.ca,mfC.H0,BR,FU,F2,FV,EZ,LQ,HP];rotate_left
 .simp only[mfC.H1,Br,OI,LV] at hp;rcases hp with rfl|rfl|rfl
  .exact .inl ⟨by simp only;omega,rfl,(WX _ _).2 (.inl (by simp only;omega))⟩
  .exact .inr ⟨by simp only;omega,by simp only;omega,rfl,rfl⟩
  .exact .inr ⟨by simp only;omega,by simp only;omega,rfl,rfl⟩
 obtain⟨⟨⟨g,t⟩,x,l⟩,p1,p2⟩:=a;simp only at p1 p2⊢;intro _;have Q:AW (A8 10 t.length (Bv t)) [2000]=A8 10 t.length (Bv t):=Fz (by omega);have O:AW (A8 10 t.length (Bv t)) [2001]=A8 10 t.length (Bv t):=Fz (by omega);have aa:AW (A8 10 t.length (Bv t)) [0]=A8 10 t.length (Bv t):=Fz (by omega);have af:AW (A8 10 t.length (Bv t)) [2]=A8 10 t.length (Bv t):=Fz (by omega);refine Ba.ren ⟨{k:Nat//k<=l.length},λk=>⟨[(14,.im (.int .i64 k.1)),(13,.im (.int .i64 l.length)),(12,.own 4),(7,.ptr 2000 0),(0,.ptr 0 0),(6,.im (.int .i64 0))],(2000,(true,.cells 126 [.im (.str x),.own 2001]))::(2001,(true,.arr 2 1 (((l.take k.1).map (EW g)).map Ak)))::(4,(true,.arr 9 1 (l.map ID)))::BR g t,2002⟩,λk=>l.length - k.1,λk=>⟨?_,by simp⟩,⟨⟨0,C5 _⟩,[(2001,none)],?_⟩,λk=> ?_⟩
 .simp only[ZG,eE g t (show 10+t.length<=2002 by omega),dZ g t (show 10+t.length<=2002 by omega)];simp
 .simp only[E5,BF,Bp,Q];refine Hk (A:=[_,_,_,_,_,_,_]) (λi=>10+i) (by simp[GU]) (by simp[DC,pm,Cj]) (λi z=>by simp only[pm];rw[Af (by omega)]) (λi j _ _ h=>by omega) (λm hm i z=>by simp[DC,pm] at hm;omega) ?_ ?_ (λi z=> ?_)
  .simp only[GH];simp(maxSteps:=9^9)(disch:=omega)only[ZZ,simprocAttr,Ab,Aq,mfC.ca,mfC.H0,BR,FU,F2,FV,EZ,LQ,HP,AS,AR]
  .simp only[EJ];simp(maxSteps:=9^9)(disch:=omega)only[ZZ,simprocAttr,Ab,Aq,mfC.ca,mfC.H0,BR,FU,F2,FV,EZ,LQ,HP,AS,AR];exact eJ λi z=>by simp only[pm];rw[Af (by omega)]
  .simp only[Cx,hget,Ar _ _ (show 2000≠10+i by omega),Ar _ _ (show 4≠10+i by omega),Ar _ _ (show 0≠10+i by omega),Ar _ _ (show 1≠10+i by omega),Ar _ _ (show 2≠10+i by omega),Ar _ _ (show 3≠10+i by omega),Bk];rw[Dp _ _ _ _ z];exact⟨rfl,rfl⟩
 obtain⟨k,hk⟩:=k;have hw:IntKind.i64.wrap ((k:Int)+1)=((k+1:Nat):Int):=by rw[AG (by omega) (by omega)];omega
 simp only[BR];simp(maxSteps:=9^9)(disch:=omega)only[ZZ,simprocAttr,Ab,Aq,mfC.ca,mfC.H0,BR,FU,F2,FV,EZ,LQ,HP,sub,AP,FU,F2,FV,EZ,LQ,HP];refine⟨λZ=>⟨Z,Z,λv hv=> ?_⟩,λZ=> ?_⟩
 .have hr:((l.take k).map (EW g)).map Ak++[[D.int .i64 (EW g v)]]=((l.take (k+1)).map (EW g)).map Ak:=by
   rw[mI hv,DX,DX];rfl
  have ah:(l.take k).length<=100:=by rw[Cu];omega
  have ai: ∀e,EW g v=e->True:=λ_ _=>trivial
  refine Tz g v _ _ ?_ λhz=> ?_
  .simp(maxSteps:=9^9)(disch:=omega)only[ZZ,simprocAttr,Ab,Aq,mfC.ca,mfC.H0,BR,FU,F2,FV,EZ,LQ,HP,sub,AP,hr,hw,Bp,Q,O];refine⟨by omega,⟨k+1,by omega⟩,[(2001,some 2003)],by simp only;omega,?_⟩;refine Hk (A:=[_,_,_,_,_,_,_]) (λi=>10+i) (by simp[GU]) (by simp[DC,pm,Cj]) (λi z=>by simp only[pm];rw[Af (by omega)]) (λi j _ _ h=>by omega) (λm hm i z=>by simp[DC,pm] at hm;omega) ?_ ?_ (λi z=> ?_)
   .simp only[GH];simp(maxSteps:=9^9)(disch:=omega)only[ZZ,simprocAttr,Ab,Aq,mfC.ca,mfC.H0,BR,FU,F2,FV,EZ,LQ,HP,AS,AR]
   .simp only[EJ];simp(maxSteps:=9^9)(disch:=omega)only[ZZ,simprocAttr,Ab,Aq,mfC.ca,mfC.H0,BR,FU,F2,FV,EZ,LQ,HP,AS,AR];exact eJ λi z=>by simp only[pm];rw[Af (by omega)]
   .simp only[Cx,hget,Ar _ _ (show 2000≠10+i by omega),Ar _ _ (show 2003≠10+i by omega),Ar _ _ (show 2002≠10+i by omega),Ar _ _ (show 4≠10+i by omega),Ar _ _ (show 0≠10+i by omega),Ar _ _ (show 1≠10+i by omega),Ar _ _ (show 2≠10+i by omega),Ar _ _ (show 3≠10+i by omega),Bk];rw[Dp _ _ _ _ z];exact⟨rfl,rfl⟩
  .rw[hz] at hr;simp(maxSteps:=9^9)(disch:=omega)only[ZZ,simprocAttr,Ab,Aq,mfC.ca,mfC.H0,BR,FU,F2,FV,EZ,LQ,HP,sub,AP,hr,hw,Bp,Q,O];refine⟨by omega,⟨k+1,by omega⟩,[(2001,some 2003)],by simp only;omega,?_⟩;refine Hk (A:=[_,_,_,_,_,_,_]) (λi=>10+i) (by simp[GU]) (by simp[DC,pm,Cj]) (λi z=>by simp only[pm];rw[Af (by omega)]) (λi j _ _ h=>by omega) (λm hm i z=>by simp[DC,pm] at hm;omega) ?_ ?_ (λi z=> ?_)
   .simp only[GH];simp(maxSteps:=9^9)(disch:=omega)only[ZZ,simprocAttr,Ab,Aq,mfC.ca,mfC.H0,BR,FU,F2,FV,EZ,LQ,HP,AS,AR]
   .simp only[EJ];simp(maxSteps:=9^9)(disch:=omega)only[ZZ,simprocAttr,Ab,Aq,mfC.ca,mfC.H0,BR,FU,F2,FV,EZ,LQ,HP,AS,AR];exact eJ λi z=>by simp only[pm];rw[Af (by omega)]
   .simp only[Cx,hget,Ar _ _ (show 2000≠10+i by omega),Ar _ _ (show 2003≠10+i by omega),Ar _ _ (show 2002≠10+i by omega),Ar _ _ (show 4≠10+i by omega),Ar _ _ (show 0≠10+i by omega),Ar _ _ (show 1≠10+i by omega),Ar _ _ (show 2≠10+i by omega),Ar _ _ (show 3≠10+i by omega),Bk];rw[Dp _ _ _ _ z];exact⟨rfl,rfl⟩
 .obtain rfl:k=l.length:=by omega
  rw[IM];have ad:(BK 10 t).length=t.length:=by simp[BK]
  have ab:AW (A8 10 t.length (Bv t)) [2,2002]=A8 10 t.length (Bv t):=HU _ _ _ _ (λy hy=>by simp at hy;omega);refine⟨by omega,?_,by rw[sP];rfl,λ_=> ?_⟩
  .rw[QM,Rm _ _ _ (by omega)];simp[AA,AV.bel]
  simp only[Bp,aa,ab];have ac: ∀i,i<t.length->hget ((0,(true,Ac.cells 99 [AV.own 1,AV.own 2003,AV.mp 3]))::(2003,(true,Ac.arrA 126 2 (BK 10 t++[[AV.im (D.str x),AV.own 2001]])))::(2000,(true,Ac.cells 126 [AV.im (D.str x),AV.own 2001]))::(2001,(true,Ac.arr 2 1 (List.map Ak (List.map (EW g) l))))::(4,(true,Ac.arr 9 1 (List.map ID l)))::(1,(true,Ac.arr 128 2 (List.map Ad.c g)))::(3,(true,Ac.map ⟨false,[.str]⟩ (Ck g)))::A8 10 t.length (Bv t)) (10+i)=some (Bv t i):=λi z=>by
   simp only[hget,Ar _ _ (show 0≠10+i by omega),Ar _ _ (show 2003≠10+i by omega),Ar _ _ (show 2000≠10+i by omega),Ar _ _ (show 2001≠10+i by omega),Ar _ _ (show 4≠10+i by omega),Ar _ _ (show 1≠10+i by omega),Ar _ _ (show 3≠10+i by omega),Bk];exact Dp _ _ _ _ z
  refine⟨⟨by simp,by simp[J4],by simp,by simp[J4],by simp,uR _ _ _ _ _ λi z=> .inr (ac i z)⟩,by rw[Ez,ad];simp only[ZeX];rw[AG (by omega) (by omega)];omega,?_⟩;have hk: ∀m,(m<5\/(10<=m/\m<10+t.length)\/(2000<=m/\m<2020))->Hx ((4,(true,Ac.arr 9 1 (List.map ID l)))::(0,(true,Ac.cells 99 [AV.own 1,AV.own 2,AV.mp 3]))::(1,(true,Ac.arr 128 2 (List.map Ad.c g)))::(2,(true,Ac.arrA 126 2 (BK 10 t)))::(3,(true,Ac.map ⟨false,[.str]⟩ (Ck g)))::A8 10 t.length (Bv t)) 2000 20 (λj=>decide (2000<=j)) m=some m:=λm hm=>by
   have hd:=WX ⟨((g,t),x,l),p1,p2⟩ m;simp only[mfC.H0,BR] at hd;simp only[Hx];by_cases c:m<5\/(10<=m/\m<10+t.length)
   .rw[hd.2 c];rfl
   .have hb:(decide (2000<=m) && (Nat.ble 2000 m && Nat.blt m (2000+20)))=true:=by
     simp only[AY,CF,FA,Ei];omega
    rw[hb,bJ];rfl
  simp only[mfC.H1,Er];refine⟨⟨rfl,?_⟩,⟨rfl,?_⟩,⟨rfl,rfl⟩,trivial⟩
  .simp only[BZ,Ax,Bf,hk 1 (by omega),hk 2003 (by omega),hk 3 (by omega),kp];rfl
  .simp only[BZ];rw[eA (HZ (b:=10) (λi z=>hk (10+i) (by omega))) (b':=[[.im (.str x),.own 2001]]) (by simp only[Ax,Bf,hk 2001 (by omega),kp])];rfl
def NG{σ:Nat->Nat}{b:Nat}{t:List Tile}(h: ∀i,i<t.length->σ (b+i)=b+i):(BK b t).map (AI σ)=BK b t:=by
 simp only[BK,Hu];refine Gb λi z=> ?_
 simp only[Function.comp,AI,AV.ren,h i (Bc.1 z)]
def iI(t:List Tile):List Nat:=[0,1,2,3,2002]++(List.range t.length).map (10+ ·)
def Y4{g:List Ad}{t:List Tile}{nm:ByteArray}{l:List ByteArray}{h:Nat->Option Am}{K:Ah}(p1:t.length<=1000)(p2:l.length<=100)
 (h0:h 0=some (true,.cells 99 [.own 1,.own 2,.mp 3]))(Z:h 1=some (true,.arr 128 2 (g.map Ad.c)))(h2:h 2=some (true,.arrA 126 2 (BK 10 t)))(h3:h 3=some (true,.map ⟨false,[.str]⟩ (Ck g)))(h4:h 2002=some (true,.arr 9 1 (l.map ID)))
 (hf: ∀i,i<t.length->h (10+i)=some (Bv t i))
 (hK:K (.im (.int .i64 t.length)) {use:=iI t,kill:=[0,2],new:=[(0,(true,.cells 99 [.own 1,.own 2006,.mp 3])),(2006,(true,.arrA 126 2 (BK 10 t++[[.im (.str nm),.own 2004]]))),(2004,(true,.arr 2 1 ((l.map (EW g)).map Ak)))],cnt:=20}):
 mfC.row [.ptr 0 0,.im (.str nm),.own 2002] h 2003 K:=by
 have s0: ∀j,j<2000->j≠4->Bw (λj=>if j=4 then 2002 else j) 2000 2003 j=j:=λj Z h2=>by simp only[Bw];rw[Ai Z,Af h2]
 have s4:Bw (λj=>if j=4 then 2002 else j) 2000 2003 4=2002:=rfl;have sa:Bw (λj=>if j=4 then 2002 else j) 2000 2003 2003=2006:=rfl;have sb:Bw (λj=>if j=4 then 2002 else j) 2000 2003 2001=2004:=rfl;have z:=WX ⟨((g,t),nm,l),p1,p2⟩;refine⟨⟨((g,t),nm,l),p1,p2⟩,λj=>if j=4 then 2002 else j,iI t,[0,2],trivial,?_,?_,⟨?_,?_,?_,?_,?_⟩,?_⟩
 .simp only[mfC.ca,AI,AV.ren,s4,s0 0 (by omega) (by omega)]
 .simp only[mfC.H0,BR,Db,Ac.ren,AI,AV.ren,s4,s0 0 (by omega) (by omega),s0 1 (by omega) (by omega),s0 2 (by omega) (by omega),s0 3 (by omega) (by omega)];rw[NG (λi Q=>s0 (10+i) (by omega) (by omega))];refine⟨h4,h0,Z,h2,h3,IZ λi Q=> ?_⟩;rw[s0 (10+i) (by omega) (by omega),hf i Q];rfl
 .intro i j Q O e;have Q:=(z i).1 Q;have O:=(z j).1 O;simp only at Q O e;split at e<;>split at e<;>omega
 .intro j O;have O:=(z j).1 O;simp only at O⊢
  split<;>omega
 .intro j O;have O:=(z j).1 O;simp only[iI] at O⊢;rw[B7];rcases O with O|O
  .left;rcases (by omega:j=0\/j=1\/j=2\/j=3\/j=4) with rfl|rfl|rfl|rfl|rfl<;>simp
  .right;rw[Af (by omega)];exact Bl.2 ⟨j - 10,Bc.2 (by omega),by omega⟩
 .intro m hm;simp only[Br,OI,LV] at hm;rcases hm with rfl|rfl
  .exact⟨0,(z 0).2 (.inl (by omega)),rfl,rfl⟩
  .exact⟨2,(z 2).2 (.inl (by omega)),rfl,rfl⟩
 .intro j O hk;simp only[J4,HN,OH] at hk;rcases hk with rfl|rfl<;>simp
 .have e:AQ (Bw (λj=>if j=4 then 2002 else j) 2000 2003) (mfC.H1 ⟨((g,t),nm,l),p1,p2⟩)=[(0,(true,.cells 99 [.own 1,.own 2006,.mp 3])),(2006,(true,.arrA 126 2 (BK 10 t++[[.im (.str nm),.own 2004]]))),(2004,(true,.arr 2 1 ((l.map (EW g)).map Ak)))]:=by
   simp only[mfC.H1,AQ,Ac.ren,AI,AV.ren,sa,sb,s0 0 (by omega) (by omega),s0 1 (by omega) (by omega),s0 3 (by omega) (by omega),DX,Be,BF];rw[NG (λi Q=>s0 (10+i) (by omega) (by omega))]
  rw[e];exact hK
abbrev Wy:={a:Mk×(Ap×Nat)×Nat×Nat//a.1.2.length<=900}
def nI(a:Wy):List ByteArray:=[OW a.1.2.1.1 a.1.2.1.2 a.1.2.2.1 (a.1.2.2.2 % a.1.2.1.2) (a.1.2.2.2/a.1.2.1.2),OX a.1.2.1.1 a.1.2.1.2 a.1.2.2.1 (a.1.2.2.2 % a.1.2.1.2) (a.1.2.2.2/a.1.2.1.2),OY a.1.2.1.1 a.1.2.2.1 (a.1.2.2.2 % a.1.2.1.2) (a.1.2.2.2/a.1.2.1.2),OZ a.1.2.1.1 a.1.2.2.1 (a.1.2.2.2 % a.1.2.1.2) (a.1.2.2.2/a.1.2.1.2)]
def clC.ca(a:Wy):List AV:=[Cs a.1.2.1.1 a.1.2.1.2,.im (.int .i64 a.1.2.2.1),.im (.agg [.int .i64 ((a.1.2.2.2 % a.1.2.1.2:Nat):Int),.int .i64 ((a.1.2.2.2/a.1.2.1.2:Nat):Int)])]
def clC.H0(a:Wy):An:=BR a.1.1.1 a.1.1.2
def clC.H1(a:Wy):An:=[(0,(true,.cells 99 [.own 1,.own 2006,.mp 3])),(2006,(true,.arrA 126 2 (BK 10 a.1.1.2++[[.im (.str (Cr ⟨#[112]⟩ (a.1.2.2.1:Nat) ((a.1.2.2.2 % a.1.2.1.2:Nat):Int) ((a.1.2.2.2/a.1.2.1.2:Nat):Int))),.own 2004]]))),(2004,(true,.arr 2 1 (((nI a).map (EW a.1.1.1)).map Ak)))]
def clC.pre(a:Wy):Prop:=Dt a.1.2.1.1/\(a.1.2.1.1.Glues.length<=1000/\a.1.2.1.1.Tiles.length<=1000)/\(1<=a.1.2.1.2/\a.1.2.1.2<=4)/\a.1.2.2.1<a.1.2.1.1.Tiles.length/\a.1.2.2.2<a.1.2.1.2*a.1.2.1.2
def clC.row:AF:=AD clC.ca clC.H0 2000 clC.pre J4 (λ_=> .im (.tup [])) clC.H1 200
def clC.hbel(a:Wy):AA 2000 (clC.ca a)=true:=by simp[clC.ca,Cs,AA,AV.bel]
def clC.hbH(a:Wy):Aw 2000 (clC.H0 a)=true:=eE _ _ (by have:=a.2;omega)
def clC.hkH(a:Wy):B6 2000 (clC.H0 a)=true:=dZ _ _ (by have:=a.2;omega)
def clC.hnm(a:Wy):BT (clC.H0 a) (clC.H0 a):=qH _ _ λ_ h=>h
def mK:=J @bkn_.q @bkn_.fv.eq_1
def clC.ok:AL 48 clC.row:=by
 refine ow (tC bkn_.ok (tC botC.ok (tC mfC.ok tN))) Tryz.func48 (exB:=λj=>Nat.ble 2000 j) (R:=λa r=>r= .im (.tup [])) (λ_=>rfl)
  (λa=>⟨clC.hbel a,clC.hbH a,clC.hkH a,clC.hnm a⟩) (λa p hp=> ?_) (λa r h=>by subst h;exact CN.refl _) ?_
 rotate_left
 intro a ab;simp only[Tryz.f48,Option.getD,clC.ca,clC.H0,BR,Cs,Bp];simp(maxSteps:=9^9)(disch:=omega)only[ZZ,simprocAttr,Ab,mK,Aq,clC.ca,clC.H0,BR,Cs,Bp];rotate_left
 .simp only[clC.H1,Br,OI,LV] at hp;rcases hp with rfl|rfl|rfl
  .exact .inl ⟨by simp only;omega,rfl,(Ox _ _ _).2 (.inl (by simp only;omega))⟩
  .exact .inr ⟨by simp only;omega,by simp only;omega,rfl,rfl⟩
  .exact .inr ⟨by simp only;omega,by simp only;omega,rfl,rfl⟩
 obtain⟨⟨⟨g,t⟩,⟨s,n⟩,i,c⟩,p1⟩:=a;obtain⟨h1,⟨h2,h3⟩,hn,h5,h6⟩:=ab;simp only at p1 h1 h2 h3 hn h5 h6⊢;have d2:=bH c (show n>0 by omega);have d1:c/n<n:=by rcases (by omega:n=1\/n=2\/n=3\/n=4) with rfl|rfl|rfl|rfl<;>omega
 simp only[clC.H1,nI];generalize c % n=x at*;generalize c/n=y at*;have O:IntKind.i64.wrap ((n:Int) - 1)=((n - 1:Nat):Int):=by rw[AG (by omega) (by omega)];omega
 have Q:IntKind.i64.wrap ((x:Int) - 1)=(x:Int) - 1:=AG (by omega) (by omega);have Z:IntKind.i64.wrap ((y:Int) - 1)=(y:Int) - 1:=AG (by omega) (by omega);have ac:(⟨#[104]⟩:ByteArray).size=1:=rfl;have ad:(⟨#[118]⟩:ByteArray).size=1:=rfl;have af:(⟨#[112]⟩:ByteArray).size=1:=rfl;simp only[O,Q,Z];refine⟨⟨by omega,by omega,by omega,by omega⟩,⟨by omega,by omega,by omega,by omega⟩,⟨by omega,by omega,by omega,by omega⟩,⟨by omega,by omega,by omega,by omega⟩,?_⟩;by_cases c0:y=n - 1<;>by_cases c1:y=0<;>by_cases c2:x=n - 1<;>by_cases c3:x=0
 any_goals (exfalso;omega)
 all_goals first
  |(rw[Ai (by omega)]
    refine AD.o0 ((s,(n:Int)),(i:Int),0,(x:Int)) (λ_=>0) ⟨h1,h2,⟨by simp only;omega,by simp only;omega⟩,⟨by simp only;omega,by simp only;omega⟩,by simp only;omega,by simp only;omega⟩ rfl (by simp[botC.ca,Cs,AI,AV.ren,Bw]) ?_;simp(maxSteps:=9^9)(disch:=omega)only[ZZ,simprocAttr,Ab,mK,Aq,clC.ca,clC.H0,BR,Cs,Bp,sub,Bq,O,Q,Z])
  |rw[Af (by omega)]
 all_goals first
  |(rw[Ai (by omega)]
    refine AD.o0 ((s,(n:Int)),(i:Int),2,(x:Int)) (λ_=>0) ⟨h1,h2,⟨by simp only;omega,by simp only;omega⟩,⟨by simp only;omega,by simp only;omega⟩,by simp only;omega,by simp only;omega⟩ rfl (by simp[botC.ca,Cs,AI,AV.ren,Bw]) ?_;simp(maxSteps:=9^9)(disch:=omega)only[ZZ,simprocAttr,Ab,mK,Aq,clC.ca,clC.H0,BR,Cs,Bp,sub,Bq,O,Q,Z])
  |rw[Af (by omega)]
 all_goals first
  |(rw[Ai (by omega)]
    refine AD.o0 ((s,(n:Int)),(i:Int),1,(y:Int)) (λ_=>0) ⟨h1,h2,⟨by simp only;omega,by simp only;omega⟩,⟨by simp only;omega,by simp only;omega⟩,by simp only;omega,by simp only;omega⟩ rfl (by simp[botC.ca,Cs,AI,AV.ren,Bw]) ?_;simp(maxSteps:=9^9)(disch:=omega)only[ZZ,simprocAttr,Ab,mK,Aq,clC.ca,clC.H0,BR,Cs,Bp,sub,Bq,O,Q,Z])
  |rw[Af (by omega)]
 all_goals first
  |(rw[Ai (by omega)]
    refine AD.o0 ((s,(n:Int)),(i:Int),3,(y:Int)) (λ_=>0) ⟨h1,h2,⟨by simp only;omega,by simp only;omega⟩,⟨by simp only;omega,by simp only;omega⟩,by simp only;omega,by simp only;omega⟩ rfl (by simp[botC.ca,Cs,AI,AV.ren,Bw]) ?_;simp(maxSteps:=9^9)(disch:=omega)only[ZZ,simprocAttr,Ab,mK,Aq,clC.ca,clC.H0,BR,Cs,Bp,sub,Bq,O,Q,Z])
  |rw[Af (by omega)]
 all_goals
  refine⟨⟨by omega,by omega,by omega,by omega⟩,?_⟩;refine Y4 (g:=g) (t:=t) (l:=[OW s n i x y,OX s n i x y,OY s i x y,OZ s i x y]) (by omega) (by simp) rfl rfl rfl rfl ?_ (λq hq=> ?_) ?_
  .simp only[Be,BF,ID,OW,OX,OY,OZ]
   first|rw[Ai c0]|rw[Af c0]
   first|rw[Ai c1]|rw[Af c1,show ((y - 1:Nat):Int)=(y:Int) - 1 by omega]
   first|rw[Ai c2]|rw[Af c2]
   first|rw[Ai c3]|rw[Af c3,show ((x - 1:Nat):Int)=(x:Int) - 1 by omega]
   rfl
  .simp only[hget,Ar _ _ (show 2002≠10+q by omega),Ar _ _ (show 2001≠10+q by omega),Ar _ _ (show 2000≠10+q by omega),Ar _ _ (show 0≠10+q by omega),Ar _ _ (show 1≠10+q by omega),Ar _ _ (show 2≠10+q by omega),Ar _ _ (show 3≠10+q by omega),Bk];exact Dp _ _ _ _ hq
  .have aa:AW (A8 10 t.length (Bv t)) [0,2]=A8 10 t.length (Bv t):=HU _ _ _ _ (λz hz=>by simp at hz;omega);simp(maxSteps:=9^9)(disch:=omega)only[ZZ,simprocAttr,Ab,mK,Aq,clC.ca,clC.H0,BR,Cs,Bp,sub,aa];have hk: ∀m,(m<4\/(10<=m/\m<10+t.length)\/(2000<=m/\m<2200))->Hx ((0,(true,Ac.cells 99 [AV.own 1,AV.own 2,AV.mp 3]))::(1,(true,Ac.arr 128 2 (List.map Ad.c g)))::(2,(true,Ac.arrA 126 2 (BK 10 t)))::(3,(true,Ac.map ⟨false,[.str]⟩ (Ck g)))::A8 10 t.length (Bv t)) 2000 200 (λj=>decide (2000<=j)) m=some m:=λm hm=>by
    have hd:=Ox g t m;simp only[BR] at hd;simp only[Hx];by_cases c:m<4\/(10<=m/\m<10+t.length)
    .rw[hd.2 c];rfl
    .have hb:(decide (2000<=m) && (Nat.ble 2000 m && Nat.blt m (2000+200)))=true:=by
      simp only[AY,CF,FA,Ei];omega
     rw[hb,bJ];rfl
   refine⟨?_,⟨by simp only[HP],by simp only[HP]⟩,⟨by simp[J4],by simp,by simp[J4],by simp,uR _ _ _ _ _ λq hq=> .inr ?_⟩,?_⟩
   .rw[QM,Rm _ _ _ (by omega)];simp[AA,AV.bel]
   .simp only[hget,Ar _ _ (show 0≠10+q by omega),Ar _ _ (show 2006≠10+q by omega),Ar _ _ (show 2004≠10+q by omega),Ar _ _ (show 2002≠10+q by omega),Ar _ _ (show 2001≠10+q by omega),Ar _ _ (show 2000≠10+q by omega),Ar _ _ (show 1≠10+q by omega),Ar _ _ (show 3≠10+q by omega),Bk];exact Dp _ _ _ _ hq
   .rw[eA (HZ (b:=10) (λq hq=>hk (10+q) (by omega))) (b':=[[.im (.str (Cr ⟨#[112]⟩ (i:Nat) (x:Nat) (y:Nat))),.own 2004]]) (by simp only[Ax,Bf,hk 2004 (by omega),kp])];rfl
def qK{σ:Nat->Nat}{b F:Nat}{t:List Tile}(h: ∀i,i<t.length->σ (b+i)=F+i):(BK b t).map (AI σ)=BK F t:=by
 simp only[BK,Hu];refine Gb λi z=> ?_
 simp only[Function.comp,AI,AV.ren,h i (Bc.1 z)]
def Kh(M Gn Tn Pn F:Nat)(j:Nat):Nat:=if j=0 then M else if j=1 then Gn else if j=2 then Tn else if j=3 then Pn else F+(j - 10)
def clU(M Gn Tn Pn F:Nat)(t:List Tile):List Nat:=[M,Gn,Tn,Pn]++(List.range t.length).map (F+ ·)
def XO{g:List Ad}{t:List Tile}{s:Ap}{n i c M Gn Tn Pn F nx:Nat}{h:Nat->Option Am}{K:Ah}(p1:t.length<=900)(Z:clC.pre ⟨((g,t),(s,n),i,c),p1⟩)
 (hd:M≠Gn/\M≠Tn/\M≠Pn/\Gn≠Tn/\Gn≠Pn/\Tn≠Pn)(ab:M<F/\Gn<F/\Tn<F/\Pn<F)(ac:F+t.length<=nx)
 (h0:h M=some (true,.cells 99 [.own Gn,.own Tn,.mp Pn]))(h1:h Gn=some (true,.arr 128 2 (g.map Ad.c)))(h2:h Tn=some (true,.arrA 126 2 (BK F t)))(h3:h Pn=some (true,.map ⟨false,[.str]⟩ (Ck g)))
 (hf: ∀i,i<t.length->h (F+i)=some (Bv t i))
 (hK:K (.im (.tup [])) {use:=clU M Gn Tn Pn F t,kill:=[M,Tn],new:=[(M,(true,.cells 99 [.own Gn,.own (nx+6),.mp Pn])),(nx+6,(true,.arrA 126 2 (BK F t++[[.im (.str (Cr ⟨#[112]⟩ (i:Nat) ((c % n:Nat):Int) ((c/n:Nat):Int))),.own (nx+4)]]))),(nx+4,(true,.arr 2 1 (((nI ⟨((g,t),(s,n),i,c),p1⟩).map (EW g)).map Ak)))],cnt:=200}):
 clC.row [.agg [.ptr M 0,.im (.sl false 2 (s.Glues.map Ad.c)),.im (.sl false 2 (s.Tiles.map Tile.c)),.im (.int .i64 n)],.im (.int .i64 i),.im (.agg [.int .i64 ((c % n:Nat):Int),.int .i64 ((c/n:Nat):Int)])] h nx K:=by
 have s0:Bw (Kh M Gn Tn Pn F) 2000 nx 0=M:=rfl;have s1:Bw (Kh M Gn Tn Pn F) 2000 nx 1=Gn:=rfl;have s2:Bw (Kh M Gn Tn Pn F) 2000 nx 2=Tn:=rfl;have s3:Bw (Kh M Gn Tn Pn F) 2000 nx 3=Pn:=rfl;have sf: ∀q,q<t.length->Bw (Kh M Gn Tn Pn F) 2000 nx (10+q)=F+q:=λq hq=>by
  simp only[Bw,Kh];rw[Ai (by omega),Af (by omega),Af (by omega),Af (by omega),Af (by omega)];omega
 have sa:Bw (Kh M Gn Tn Pn F) 2000 nx 2006=nx+6:=rfl;have sb:Bw (Kh M Gn Tn Pn F) 2000 nx 2004=nx+4:=rfl;have z: ∀j,Aj (clC.H0 ⟨((g,t),(s,n),i,c),p1⟩) j=true↔j<4\/(10<=j/\j<10+t.length):=λj=>Ox g t j
 have hT: ∀j,(j<4\/(10<=j/\j<10+t.length))->Kh M Gn Tn Pn F j=M/\j=0\/Kh M Gn Tn Pn F j=Gn/\j=1\/Kh M Gn Tn Pn F j=Tn/\j=2\/Kh M Gn Tn Pn F j=Pn/\j=3\/10<=j/\Kh M Gn Tn Pn F j=F+(j - 10):=λj O=>by
  rcases (by omega:j=0\/j=1\/j=2\/j=3\/10<=j) with rfl|rfl|rfl|rfl|aa
  .exact .inl ⟨rfl,rfl⟩
  .exact .inr (.inl ⟨rfl,rfl⟩)
  .exact .inr (.inr (.inl ⟨rfl,rfl⟩))
  .exact .inr (.inr (.inr (.inl ⟨rfl,rfl⟩)))
  .refine .inr (.inr (.inr (.inr ⟨aa,?_⟩)));simp only[Kh];rw[Af (by omega),Af (by omega),Af (by omega),Af (by omega)]
 refine⟨⟨((g,t),(s,n),i,c),p1⟩,Kh M Gn Tn Pn F,clU M Gn Tn Pn F t,[M,Tn],Z,?_,?_,⟨?_,?_,?_,?_,?_⟩,?_⟩
 .simp only[clC.ca,Cs,AI,AV.ren,s0]
 .simp only[clC.H0,BR,Db,Ac.ren,AI,AV.ren,s0,s1,s2,s3];rw[qK sf];refine⟨h0,h1,h2,h3,IZ λq hq=> ?_⟩;rw[sf q hq,hf q hq];rfl
 .intro a b ha hb e;have ha:=hT a ((z a).1 ha);have hb:=hT b ((z b).1 hb);omega
 .intro j O;have Q:=(z j).1 O;have O:=hT j Q;omega
 .intro j O;have Q:=(z j).1 O;have O:=hT j Q;simp only[clU];rw[B7];rcases O with O|O|O|O|O
  .left;rw[O.1];simp
  .left;rw[O.1];simp
  .left;rw[O.1];simp
  .left;rw[O.1];simp
  .right;exact Bl.2 ⟨j - 10,Bc.2 (by omega),by rw[O.2]⟩
 .intro m hm;simp only[Br,OI,LV] at hm;rcases hm with rfl|rfl
  .exact⟨0,(z 0).2 (.inl (by omega)),rfl,rfl⟩
  .exact⟨2,(z 2).2 (.inl (by omega)),rfl,rfl⟩
 .intro j O hk;simp only[J4,HN,OH] at hk;rcases hk with rfl|rfl
  .show M∈[M,Tn];simp
  .show Tn∈[M,Tn];simp
 .have e:AQ (Bw (Kh M Gn Tn Pn F) 2000 nx) (clC.H1 ⟨((g,t),(s,n),i,c),p1⟩)=[(M,(true,.cells 99 [.own Gn,.own (nx+6),.mp Pn])),(nx+6,(true,.arrA 126 2 (BK F t++[[.im (.str (Cr ⟨#[112]⟩ (i:Nat) ((c % n:Nat):Int) ((c/n:Nat):Int))),.own (nx+4)]]))),(nx+4,(true,.arr 2 1 (((nI ⟨((g,t),(s,n),i,c),p1⟩).map (EW g)).map Ak)))]:=by
   simp only[clC.H1,AQ,Ac.ren,AI,AV.ren,sa,sb,s0,s1,s3,DX,Be,BF];rw[qK sf]
  rw[e];exact hK
def Ix(s:Ap)(n m:Nat):List Tile:=(List.range m).map (KX s n)
def Wt(s:Ap)(n i:Nat):Am:=(true,.arr 2 1 ((KX s n i).Sides.map Ak))
def Iw(s:Ap)(n:Nat)(G:Nat->Nat)(m:Nat):List (List AV):=(List.range m).map λi=>[.im (.str (KX s n i).Name),.own (G i)]
def K7(s:Ap)(n m:Nat):(Ix s n m).length=m:=by simp[Ix]
def Mc{s:Ap}{n m i:Nat}(h:i<m):(Ix s n m)[i]? =some (KX s n i):=by
 rw[Ix,D3,Ga h];rfl
def KW{s:Ap}{n m i:Nat}(h:i<m):Bv (Ix s n m) i=Wt s n i:=by
 simp only[Bv,Mc h,Wt,Dh,AX]
def WZ(s:Ap)(n F m:Nat):BK F (Ix s n m)=Iw s n (λi=>F+i) m:=by
 simp only[BK,Iw,K7];refine Gb λi z=> ?_
 rw[Mc (Bc.1 z)];rfl
def Sd(s:Ap)(n m:Nat)(G:Nat->Nat):Iw s n G (m+1)=Iw s n G m++[[.im (.str (KX s n m).Name),.own (G m)]]:=Fg _ _
def Sc{s:Ap}{n m:Nat}{G H:Nat->Nat}(h: ∀i,i<m->G i=H i):Iw s n G m=Iw s n H m:=by
 simp only[Iw];exact Gb λi z=>by rw[h i (Bc.1 z)]
def Sb{s:Ap}{n m i:Nat}{G:Nat->Nat}{r:List AV}(h:(Iw s n G m)[i]? =some r):i<m/\r=[.im (.str (KX s n i).Name),.own (G i)]:=by
 have z:i<m:=by
  have:=(C6.1 h).1
  simpa[Iw] using this
 rw[Iw,D3,Ga z] at h;exact⟨z,(AJ h).symm⟩
def eM{s:Ap}{n m N:Nat}{G:Nat->Nat}(h: ∀i,i<m->G i<N):(Iw s n G m).all (AA N)=true:=by
 rw[CR];intro r O;obtain⟨i,z,rfl⟩:=Bl.1 O;simp[AA,AV.bel,h i (Bc.1 z)]
def eL{π:List (Nat×Option Nat)}{s:Ap}{n m F:Nat}{G:Nat->Nat}(h: ∀i,i<m->pm π (F+i)=some (G i)):FF π (Iw s n (λi=>F+i) m) (Iw s n G m):=by
 rw[Wa];refine⟨by simp[Iw],λi Z r2 z O=> ?_⟩;obtain⟨Q,rfl⟩:=Sb z;obtain⟨_,rfl⟩:=Sb O;simp only[Dz,mt,h i Q,EV,QL]
def YT(F m:Nat)(G:Nat->Nat):List (Nat×Option Nat):=(List.range m).map λi=>(F+i,some (G i))
def Oz(F m:Nat)(G:Nat->Nat)(x:Nat):pm (YT F m G) x=if F<=x/\x<F+m then some (G (x - F)) else some x:=by
 have Q: ∀l:List Nat,pm (l.map λi=>(F+i,some (G i))) x=if F<=x/\x - F∈l then some (G (x - F)) else some x:=by
  intro l;induction l with
  |nil=>simp[pm]
  |cons a r ih=>
   simp only[Be,pm];by_cases c:F+a=x
   .subst c;rw[Ai rfl,Ai ⟨by omega,by simp⟩];rw[show F+a - F=a by omega]
   .rw[Af c,ih];by_cases O:F<=x/\x - F∈r
    .rw[Ai O,Ai ⟨O.1,BQ _ O.2⟩]
    .rw[Af O,Af];rintro⟨Z,z⟩;rcases Br.1 z with z|z
     .omega
     .exact O ⟨Z,z⟩
 rw[YT,Q];by_cases c:F<=x/\x<F+m
 .rw[Ai c,Ai ⟨c.1,Bc.2 (by omega)⟩]
 .rw[Af c,Af];rintro⟨Z,z⟩
  have:=Bc.1 z
  omega
def eO{lo F m:Nat}{G:Nat->Nat}(h:lo<=F):GU lo (YT F m G):=by
 have z: ∀l:List Nat,GU lo (l.map λi=>(F+i,some (G i))):=by
  intro l;induction l with
  |nil=>trivial
  |cons a r ih=>exact⟨by omega,ih⟩
 exact z _
def PC{s:Ap}{n:Nat}(hn:1<=n/\n<=4)(h1:s.Glues.length<=1000)(h2:s.Tiles.length<=1000):Xl ⟨D1 s n,Lx s n⟩:=by
 have z1:(⟨#[103]⟩:ByteArray).size=1:=rfl;have z2:(⟨#[104]⟩:ByteArray).size=1:=rfl;have z3:(⟨#[118]⟩:ByteArray).size=1:=rfl;have z4:(⟨#[112]⟩:ByteArray).size=1:=rfl;refine⟨λg Q=> ?_,λt ht=> ?_⟩
 .simp only[D1,Bl,Bc] at Q;obtain⟨j,Z,rfl⟩:=Q;rcases WY hn Z with ⟨i,c,q1,z,rfl⟩|⟨i,x,y,q1,z,O,rfl⟩|⟨i,x,y,q1,z,O,rfl⟩
  .rw[G9 hn q1 z]
   have:=eD (w:=⟨#[103]⟩) (a:=((i+1:Nat):Int)) (b:=(c:Nat)) (by omega) (by omega) (by omega) (by omega)
   simp only;omega
  .rw[GA hn z O]
   have:=eN (w:=⟨#[104]⟩) (a:=(i:Nat)) (b:=(x:Nat)) (c:=(y:Nat)) (by omega) (by omega) (by omega)
   simp only;omega
  .rw[GB hn z O]
   have:=eN (w:=⟨#[118]⟩) (a:=(i:Nat)) (b:=(x:Nat)) (c:=(y:Nat)) (by omega) (by omega) (by omega)
   simp only;omega
 .simp only[Lx,Bl,Bc] at ht;obtain⟨j,Z,rfl⟩:=ht;have aa:j<16000:=by
   rcases (by omega:n=1\/n=2\/n=3\/n=4) with rfl|rfl|rfl|rfl<;>omega
  have b1:=bF j (n*n);have b2:=Nat.mod_le j (n*n);have b3:=Nat.mod_le (j % (n*n)) n;have b4:=bF (j % (n*n)) n;simp only[KX];generalize j/(n*n)=u at*;generalize j % (n*n)=v at*;generalize v % n=p at*;generalize v/n=r at*
  have:=eN (w:=⟨#[112]⟩) (a:=(u:Nat)) (b:=(p:Nat)) (c:=(r:Nat)) (by omega) (by omega) (by omega)
  omega
def VN:D:= .agg [.sl true 0 [],.sl true 0 [],.sl true 0 [],.int .i64 0]
def prfC.ca(a:A9×Int):List AV:=[.im (.agg (A9.c a.1)),.im (.int .i64 a.2)]
def prfC.r0(a:A9×Int):AV:=if (AH a.1 a.2).2=0 then .tup [.agg [.own 144,.own 300,.own 26,.im (.int .i64 2)],.im (.int .i64 0)] else .im (.tup [VN,.int .i64 (AH a.1 a.2).2])
def prfC.H1(a:A9×Int):An:=if (AH a.1 a.2).2=0 then (144,(true,.arr 128 2 ((AH a.1 a.2).1.Set.Glues.map Ad.c)))::(300,(true,.arrA 126 2 (BK 301 (AH a.1 a.2).1.Set.Tiles)))::(26,(true,.arr 119 3 ((AH a.1 a.2).1.Seed.Tiles.map Al.c)))::A8 301 (min (AH a.1 a.2).1.Set.Tiles.length 1048576) (Bv (AH a.1 a.2).1.Set.Tiles) else []
def Oy{s:A9}{k:Int}{c:Int}(h:AH s k=(⟨⟨[],[]⟩,⟨[]⟩,0⟩,c))(z:c≠0):prfC.r0 (s,k)= .im (.tup [VN,.int .i64 c])/\prfC.H1 (s,k)=[]:=by
 simp only[prfC.r0,prfC.H1,h];rw[Af z,Af z];exact⟨rfl,rfl⟩
def prfC.row:AF:=AD prfC.ca (λ_=>[]) 0 (λa=>Xl a.1.Set) (λ_=>false) prfC.r0 prfC.H1 2000013
def Hi:=J @blockSizeOk.q<|J @blockSizeOk.fv.eq_1<|J @cls_.q @cls_.fv.eq_1
def prfC.ok:AL 19 prfC.row:=by
 refine ow (tC validI_.ok (tC blockSizeOk.ok (tC nmC.ok (tC scuC.ok (tC bszC.ok (tC bglC.ok (tC cls_.ok (tC clC.ok tN)))))))) Tryz.func19 (exB:=λj=>Nat.ble 1 j) (R:=λa r=>r=prfC.r0 a) (λ_=>rfl)
  (λa=>by simp[prfC.ca,A9.c,AA,AV.bel,Aw,B6,BT,Ac.nms,Au,AV.nms,Aj,hget]) (λa p hp=> ?_) (λa r h=>by subst h;exact CN.refl _) ?_
 rotate_left
 intro a af;simp only[Tryz.f19,Option.getD,prfC.ca,A9.c];simp(maxSteps:=9^9)(disch:=omega)only[ZZ,simprocAttr,Ab,Hi,Aq,prfC.ca,A9.c];rotate_left
 .simp only[prfC.H1] at hp;split at hp
  .simp only[Br,A8,Bl,Bc] at hp;rcases hp with rfl|rfl|rfl|⟨i,hi,rfl⟩
   .exact .inr ⟨by omega,by simp only;omega,rfl,rfl⟩
   .exact .inr ⟨by omega,by simp only;omega,rfl,rfl⟩
   .exact .inr ⟨by omega,by simp only;omega,rfl,rfl⟩
   .exact .inr ⟨by simp only;omega,by simp only;omega,by simp only[FA];omega,rfl⟩
  .cases hp
 obtain⟨s,k⟩:=a;simp only at af⊢;unfold validI_.row CH;refine vF.call [.val (.agg (A9.c s))] rfl s (K3 s) af ?_;simp(maxSteps:=9^9)(disch:=omega)only[ZZ,simprocAttr,Ab,Hi,Aq,prfC.ca,A9.c,sub,validI_.fv];rw[oZ];by_cases c1:Ht s=true
 case neg=>
  obtain⟨q1,Q⟩:=Oy (s:=s) (k:=k) (c:=1) (by simp only[AH];rw[Af c1]) (by decide);rw[Ai (by simpa using c1),q1,Q];exact⟨rfl,trivial⟩
 rw[Af (by simp[c1])];by_cases c2:Bz k 1 4=true
 case neg=>
  obtain⟨q1,Q⟩:=Oy (s:=s) (k:=k) (c:=2) (by simp only[AH];rw[Ai c1,Af c2]) (by decide);rw[Ai (by simpa using c2),q1,Q];exact⟨rfl,trivial⟩
 rw[Af (by simp[c2])];by_cases c3:s.Temperature=2
 case neg=>
  obtain⟨q1,Q⟩:=Oy (s:=s) (k:=k) (c:=5) (by simp only[AH];rw[Ai c1,Ai c2,Af c3]) (by decide);rw[Ai c3,q1,Q];exact⟨rfl,trivial⟩
 rw[Af (by simpa using c3)];have hk:1<=k/\k<=4:=by simpa[Bz] using c2
 obtain⟨n,rfl⟩: ∃n:Nat,k=n:=⟨k.toNat,by omega⟩;have hn:1<=n/\n<=4:=by omega
 obtain⟨w1,w2⟩:EH s.Set=true/\Ih s.Set s.Seed=true:=by
  simp only[Ht,AY] at c1;exact⟨c1.1,c1.2.1⟩
 have w3:=rR w1;have w4:=Qws w1;have w5:s.Set.Glues.length<=200:=by simp only[EH,AY,CF] at w1;exact w1.1.1
 have w6:Dm none s.Seed.Tiles=true/\s.Seed.Tiles.length<=500:=by simp only[Ih,AY,CF] at w2;exact w2.1
 refine AD.os () [] trivial (λj=>by simp[Aj,hget]) rfl rfl ?_ ?_
 .simp(maxSteps:=9^9)(disch:=omega)only[ZZ,simprocAttr,Ab,Hi,Aq,prfC.ca,A9.c,nmC.ca,Db]
  try exact⟨rfl,rfl⟩
 simp(maxSteps:=9^9)(disch:=omega)only[ZZ,simprocAttr,Ab,Hi,Aq,prfC.ca,A9.c,C7,sub,EK,Gv];refine AD.os (s.Seed,(n:Int)) [] ⟨w6,hk⟩ (λj=>by simp[Aj,hget]) rfl rfl ?_ ?_
 .simp(maxSteps:=9^9)(disch:=omega)only[ZZ,simprocAttr,Ab,Hi,Aq,prfC.ca,A9.c,scuC.ca,AB.c,Db]
  try exact⟨rfl,rfl⟩
 by_cases c6:(CU s.Seed n).2=true
 case neg=>
  simp only[scuC.r0,scuC.H1,Bq,Af c6];simp(maxSteps:=9^9)(disch:=omega)only[ZZ,simprocAttr,Ab,Hi,Aq,prfC.ca,A9.c,sub,EK,Gv];obtain⟨q1,Q⟩:=Oy (s:=s) (k:=n) (c:=4) (by simp only[AH];rw[Ai c1,Ai c2,Ai c3,Bq,Af (λh=>c6 h.2.2)]) (by decide);refine AD.o0 (s.Set,(n:Int)) (λ_=>2) ⟨⟨by simp only;omega,by simp only;omega⟩,hk⟩ rfl (by simp[bszC.ca,Cs,AI,AV.ren,Bw]) ?_;simp(maxSteps:=9^9)(disch:=omega)only[ZZ,simprocAttr,Ab,Hi,Aq,prfC.ca,A9.c,sub,Bq];rw[q1,Q]
  repeat' split
  all_goals exact⟨rfl,trivial⟩
 simp only[scuC.r0,scuC.H1,Bq,Ai c6];simp(maxSteps:=9^9)(disch:=omega)only[ZZ,simprocAttr,Ab,Hi,Aq,prfC.ca,A9.c,sub,EK,Gv];refine AD.o0 (s.Set,(n:Int)) (λ_=>2) ⟨⟨by simp only;omega,by simp only;omega⟩,hk⟩ rfl (by simp[bszC.ca,Cs,AI,AV.ren,Bw]) ?_;simp(maxSteps:=9^9)(disch:=omega)only[ZZ,simprocAttr,Ab,Hi,Aq,prfC.ca,A9.c,sub,Bq];have ac: ¬(CC s.Set n<=200/\s.Set.Tiles.length*(n*n)<=160)->prfC.r0 (s,(n:Int))= .im (.tup [VN,.int .i64 4])/\prfC.H1 (s,(n:Int))=[]:=λh=>
  Oy (by simp only[AH];rw[Ai c1,Ai c2,Ai c3,Bq,Af (λh2=>h ⟨h2.1,h2.2.1⟩)]) (by decide)
 by_cases c4:CC s.Set n<=200
 case neg=>
  obtain⟨q1,Q⟩:=ac λh=>c4 h.1
  rw[Af (by omega),q1,Q];exact⟨rfl,trivial⟩
 rw[Ai (by omega)];by_cases c5:s.Set.Tiles.length*(n*n)<=160
 case neg=>
  obtain⟨q1,Q⟩:=ac λh=>c5 h.2
  rw[Af (by omega),q1,Q];exact⟨rfl,trivial⟩
 rw[Ai (by omega)];refine AD.os (s.Set,(n:Int)) [2,3,4,5] ⟨⟨by simp only;omega,by simp only;omega⟩,hk⟩ (λj=>WS _ _ j) rfl rfl ?_ ?_
 .simp(maxSteps:=9^9)(disch:=omega)only[ZZ,simprocAttr,Ab,Hi,Aq,prfC.ca,A9.c,bglC.ca,Cs,bglC.H0,C7,BD,EK,Gv,BF]
  try exact⟨rfl,rfl⟩
 simp(maxSteps:=9^9)(disch:=omega)only[ZZ,simprocAttr,Ab,Hi,Aq,prfC.ca,A9.c,bglC.H1,B9,sub,EK,Gv,Bq];intro _;have hm: ∀i,i<=s.Set.Tiles.length->i*(n*n)<=160:=λi hi=>CS (Iu _ hi) c5
 refine Ba.ren ⟨{i:Nat//i<=s.Set.Tiles.length},λi=>⟨[(64,.im (.int .i64 i.1)),(63,.im (.int .i64 s.Set.Tiles.length)),(7,.ptr 123 0),(6,.ptr 22 0),(4,.ptr 1 0),(2,.ptr 0 0),(1,.im (.int .i64 n))],[(2,(true,.cells 99 [.own 144,.own 300,.mp 5])),(300,(true,.arrA 126 2 (Iw s.Set n (λq=>301+q) (i.1*(n*n))))),(144,(true,.arr 128 2 ((D1 s.Set n).map Ad.c))),(5,(true,.map ⟨false,[.str]⟩ (Ck (D1 s.Set n)))),(123,(true,.cells 38 [.own 26])),(26,(true,.arr 119 3 ((DI (Bu n s.Seed.Tiles)).map Al.c))),(22,(true,.cells 87 [.ptr 2 0,.im (.sl false 2 (s.Set.Glues.map Ad.c)),.im (.sl false 2 (s.Set.Tiles.map Tile.c)),.im (.int .i64 n)])),(1,(true,.cells 40 [.im (.sl true 0 []),.im (.sl true 0 []),.im (.sl true 0 []),.im (.int .i64 0)])),(0,(true,.cells 40 [.im (.sl false 2 (s.Set.Glues.map Ad.c)),.im (.sl false 2 (s.Set.Tiles.map Tile.c)),.im (.sl false 3 (s.Seed.Tiles.map Al.c)),.im (.int .i64 s.Temperature)]))]++A8 301 (i.1*(n*n)) (Wt s.Set n),500⟩,λi=>s.Set.Tiles.length - i.1,λi=>⟨by have:=hm i.1 i.2;exact WK (by simp[Cv,AV.bel]) (by simp only[Aw,eM (s:=s.Set) (n:=n) (m:=i.1*(n*n)) (G:=λq=>301+q) (N:=500) (λq hq=>by omega)];simp[AA,AV.bel]) (by simp[B6]) (λq=>by simp[Aw,Wt]) (by omega),by simp⟩,⟨⟨0,C5 _⟩,[(300,some 4)],?_⟩,λi=> ?_⟩
 .simp only[Av,Kf,A8,Iw,ES,BF,DJ];simp(maxSteps:=9^9)(disch:=omega)only[ZZ,simprocAttr,Ab,Hi,Aq,prfC.ca,A9.c,AS,AR]
  try simp
 obtain⟨i,hi⟩:=i;have aw:=hm i hi;have aq:IntKind.i64.wrap ((i:Int)+1)=((i+1:Nat):Int):=by rw[AG (by omega) (by omega)];omega
 simp only[BO,Dg];simp(maxSteps:=9^9)(disch:=omega)only[ZZ,simprocAttr,Ab,Hi,Aq,prfC.ca,A9.c,sub,AP,Bp];refine⟨λab=>⟨hk,?_⟩,λab=> ?_⟩
 .rw[Jc];intro _;have aj:=hm (i+1) ab;rw[DB,Fk] at aj;refine Ba.ren ⟨{c:Nat//c<=n*n},λc=>⟨[(70,.im (.int .i64 c.1)),(69,.im (.int .i64 ((n*n:Nat):Int))),(68,.im (.sl false 2 ((Em n (n*n)).map AC.c))),(11,.im (.int .i64 i)),(64,.im (.int .i64 i)),(63,.im (.int .i64 s.Set.Tiles.length)),(7,.ptr 123 0),(6,.ptr 22 0),(4,.ptr 1 0),(2,.ptr 0 0),(1,.im (.int .i64 n))],[(2,(true,.cells 99 [.own 144,.own 600,.mp 5])),(600,(true,.arrA 126 2 (Iw s.Set n (λq=>601+q) (i*(n*n)+c.1)))),(144,(true,.arr 128 2 ((D1 s.Set n).map Ad.c))),(5,(true,.map ⟨false,[.str]⟩ (Ck (D1 s.Set n)))),(123,(true,.cells 38 [.own 26])),(26,(true,.arr 119 3 ((DI (Bu n s.Seed.Tiles)).map Al.c))),(22,(true,.cells 87 [.ptr 2 0,.im (.sl false 2 (s.Set.Glues.map Ad.c)),.im (.sl false 2 (s.Set.Tiles.map Tile.c)),.im (.int .i64 n)])),(1,(true,.cells 40 [.im (.sl true 0 []),.im (.sl true 0 []),.im (.sl true 0 []),.im (.int .i64 0)])),(0,(true,.cells 40 [.im (.sl false 2 (s.Set.Glues.map Ad.c)),.im (.sl false 2 (s.Set.Tiles.map Tile.c)),.im (.sl false 3 (s.Seed.Tiles.map Al.c)),.im (.int .i64 s.Temperature)]))]++A8 601 (i*(n*n)+c.1) (Wt s.Set n),800⟩,λc=>n*n - c.1,λc=>⟨by have:=c.2;exact WK (by simp[Cv,AV.bel]) (by simp only[Aw,eM (s:=s.Set) (n:=n) (m:=i*(n*n)+c.1) (G:=λq=>601+q) (N:=800) (λq hq=>by omega)];simp[AA,AV.bel]) (by simp[B6]) (λq=>by simp[Aw,Wt]) (by omega),by simp⟩,⟨⟨0,C5 _⟩,(600,some 300)::YT 601 (i*(n*n)) (λq=>301+q),?_⟩,λc=> ?_⟩
  .simp only[Gc];obtain⟨π,hπ⟩: ∃π,π=(600,some 300)::YT 601 (i*(n*n)) (λq=>301+q):=⟨_,rfl⟩;rw[<-hπ];have hp: ∀x,x<300->pm π x=some x:=λx hx=>by rw[hπ];simp only[pm];rw[Af (by omega),Oz,Af (by omega)]
   have O:pm π 600=some 300:=by rw[hπ];simp[pm]
   have hf: ∀q,q<i*(n*n)->pm π (601+q)=some (301+q):=λq hq=>by
    rw[hπ];simp only[pm];rw[Af (by omega),Oz,Ai (by omega)];congr 2;omega
   have Z:GU 500 π:=by rw[hπ];exact⟨by omega,eO (by omega)⟩
   refine Hk (A:=[_,_,_,_,_,_,_,_,_]) (λq=>301+q) Z (by simp[DC,hp 0 (by omega),hp 1 (by omega),hp 2 (by omega),hp 5 (by omega),hp 22 (by omega),hp 26 (by omega),hp 123 (by omega),hp 144 (by omega),O,Cj]) hf (λa b ha hb h=>by omega) (λm hm q hq=>by simp[DC,hp 0 (by omega),hp 1 (by omega),hp 2 (by omega),hp 5 (by omega),hp 22 (by omega),hp 26 (by omega),hp 123 (by omega),hp 144 (by omega),O] at hm;omega) ?_ ?_ (λq hq=> ?_)
   .simp only[GH];simp(maxSteps:=9^9)(disch:=omega)only[ZZ,simprocAttr,Ab,Hi,Aq,prfC.ca,A9.c,AS,AR,O,hp 0 (by omega),hp 1 (by omega),hp 2 (by omega),hp 5 (by omega),hp 22 (by omega),hp 26 (by omega),hp 123 (by omega),hp 144 (by omega)]
    try simp
   .simp only[EJ];simp(maxSteps:=9^9)(disch:=omega)only[ZZ,simprocAttr,Ab,Hi,Aq,prfC.ca,A9.c,AS,AR,O,hp 0 (by omega),hp 1 (by omega),hp 2 (by omega),hp 5 (by omega),hp 22 (by omega),hp 26 (by omega),hp 123 (by omega),hp 144 (by omega)];exact eL hf
   .simp only[Cx,hget,Ar _ _ (show 2≠301+q by omega),Ar _ _ (show 300≠301+q by omega),Ar _ _ (show 144≠301+q by omega),Ar _ _ (show 5≠301+q by omega),Ar _ _ (show 123≠301+q by omega),Ar _ _ (show 26≠301+q by omega),Ar _ _ (show 22≠301+q by omega),Ar _ _ (show 1≠301+q by omega),Ar _ _ (show 0≠301+q by omega),Bk];rw[Dp _ _ _ _ hq];exact⟨rfl,rfl⟩
  obtain⟨c,hc⟩:=c;have an:IntKind.i64.wrap ((c:Int)+1)=((c+1:Nat):Int):=by rw[AG (by omega) (by omega)];omega
  have hcl:=Jc n (n*n);simp only[BO,Dg];simp(maxSteps:=9^9)(disch:=omega)only[ZZ,simprocAttr,Ab,Hi,Aq,prfC.ca,A9.c,sub,AP,Bp];refine⟨λah=>⟨by omega,λp hp=> ?_⟩,λah=> ?_⟩
  .obtain rfl:=WU (by omega) hp;simp only[Eo];have ao:AW (A8 601 (i*(n*n)+c) (Wt s.Set n)) [2,600]=A8 601 (i*(n*n)+c) (Wt s.Set n):=HU _ _ _ _ (λz hz=>by simp at hz;omega);have ad:AW (A8 601 (i*(n*n)+c) (Wt s.Set n)) [800]=A8 601 (i*(n*n)+c) (Wt s.Set n):=Fz (by omega);have d2:=bH c (show n>0 by omega);have d1:c/n<n:=by rcases (by omega:n=1\/n=2\/n=3\/n=4) with rfl|rfl|rfl|rfl<;>omega
   have hT:=Se (s:=s.Set) (i:=i) hn ah;rw[ad];refine XO (g:=D1 s.Set n) (t:=Ix s.Set n (i*(n*n)+c)) (s:=s.Set) (n:=n) (i:=i) (c:=c) (M:=2) (Gn:=144) (Tn:=600) (Pn:=5) (F:=601) (by rw[K7];omega) ⟨w3,⟨by simp only;omega,by simp only;omega⟩,hn,ab,by simp only;omega⟩ (by decide) (by decide) (by rw[K7];omega) rfl rfl (by rw[WZ];rfl) rfl (λq hq=> ?_) ?_
   .rw[K7] at hq;rw[KW hq];simp only[hget,Ar _ _ (show 800≠601+q by omega),Ar _ _ (show 2≠601+q by omega),Ar _ _ (show 600≠601+q by omega),Ar _ _ (show 144≠601+q by omega),Ar _ _ (show 5≠601+q by omega),Ar _ _ (show 123≠601+q by omega),Ar _ _ (show 26≠601+q by omega),Ar _ _ (show 22≠601+q by omega),Ar _ _ (show 1≠601+q by omega),Ar _ _ (show 0≠601+q by omega),Bk];exact Dp _ _ _ _ hq
   .have au:(nI ⟨((D1 s.Set n,Ix s.Set n (i*(n*n)+c)),(s.Set,n),i,c),by rw[K7];omega⟩).map (EW (D1 s.Set n))=(KX s.Set n (i*(n*n)+c)).Sides:=by
     simp only[nI];rw[Sf w3 hn ab d2 d1,hT]
    rw[au];simp(maxSteps:=9^9)(disch:=omega)only[ZZ,simprocAttr,Ab,Hi,Aq,prfC.ca,A9.c,sub,ao,ad,WZ,an];have ag:Iw s.Set n (λq=>601+q) (i*(n*n)+c)++[[AV.im (D.str (Cr ⟨#[112]⟩ (i:Nat) ((c % n:Nat):Int) ((c/n:Nat):Int))),AV.own 805]]=Iw s.Set n (λq=>if q<i*(n*n)+c then 601+q else 805) (i*(n*n)+(c+1)):=by
     rw[<-Fa,Sd,Af (by omega),hT];rw[Sc (G:=λq=>if q<i*(n*n)+c then 601+q else 805) (H:=λq=>601+q) λq hq=>Ai hq]
    refine⟨?_,⟨c+1,by omega⟩,[(600,some 807),(601+(i*(n*n)+c),some 805)],by simp only;omega,?_⟩
    .rw[QM,eM (λq hq=>by omega)];simp[AA,AV.bel]
    simp only[Bp];obtain⟨π,hπ⟩: ∃π,π=[(600,some 807),(601+(i*(n*n)+c),some 805)]:=⟨_,rfl⟩;rw[<-hπ];have hp: ∀x,x<300->pm π x=some x:=λx hx=>by rw[hπ];simp only[pm];rw[Af (by omega),Af (by omega)]
    have O:pm π 600=some 807:=by rw[hπ];simp[pm]
    have hf: ∀q,q<i*(n*n)+(c+1)->pm π (601+q)=some (if q<i*(n*n)+c then 601+q else 805):=λq hq=>by
     rw[hπ];simp only[pm];by_cases c9:q<i*(n*n)+c
     .rw[Af (by omega),Af (by omega),Ai c9]
     .obtain rfl:q=i*(n*n)+c:=by omega
      rw[Af (by omega),Ai rfl,Af c9]
    have Z:GU 500 π:=by rw[hπ];exact⟨by omega,by omega,trivial⟩
    refine Hk (A:=[_,_,_,_,_,_,_,_,_]) (λq=>if q<i*(n*n)+c then 601+q else 805) Z (by simp[DC,hp 0 (by omega),hp 1 (by omega),hp 2 (by omega),hp 5 (by omega),hp 22 (by omega),hp 26 (by omega),hp 123 (by omega),hp 144 (by omega),O,Cj]) hf (λa b ha hb h=>(by split at h<;>split at h<;>omega)) (λm hm q hq=>by simp[DC,hp 0 (by omega),hp 1 (by omega),hp 2 (by omega),hp 5 (by omega),hp 22 (by omega),hp 26 (by omega),hp 123 (by omega),hp 144 (by omega),O] at hm;split<;>omega) ?_ ?_ (λq hq=> ?_)
    .simp only[GH];simp(maxSteps:=9^9)(disch:=omega)only[ZZ,simprocAttr,Ab,Hi,Aq,prfC.ca,A9.c,AS,AR,O,hp 0 (by omega),hp 1 (by omega),hp 2 (by omega),hp 5 (by omega),hp 22 (by omega),hp 26 (by omega),hp 123 (by omega),hp 144 (by omega),ag]
     try simp
    .simp only[EJ];simp(maxSteps:=9^9)(disch:=omega)only[ZZ,simprocAttr,Ab,Hi,Aq,prfC.ca,A9.c,AS,AR,O,hp 0 (by omega),hp 1 (by omega),hp 2 (by omega),hp 5 (by omega),hp 22 (by omega),hp 26 (by omega),hp 123 (by omega),hp 144 (by omega),ag];exact eL hf
    .by_cases c9:q<i*(n*n)+c
     .rw[Ai c9];simp only[Cx,hget,Ar _ _ (show 2≠601+q by omega),Ar _ _ (show 807≠601+q by omega),Ar _ _ (show 805≠601+q by omega),Ar _ _ (show 800≠601+q by omega),Ar _ _ (show 144≠601+q by omega),Ar _ _ (show 5≠601+q by omega),Ar _ _ (show 123≠601+q by omega),Ar _ _ (show 26≠601+q by omega),Ar _ _ (show 22≠601+q by omega),Ar _ _ (show 1≠601+q by omega),Ar _ _ (show 0≠601+q by omega),Bk];rw[Dp _ _ _ _ c9];exact⟨rfl,rfl⟩
     .obtain rfl:q=i*(n*n)+c:=by omega
      rw[Af c9];exact⟨rfl,rfl⟩
  .obtain rfl:c=n*n:=by omega
   have hj:i*(n*n)+n*n=(i+1)*(n*n):=by rw[DB i 1,Fk]
   refine⟨⟨i+1,by omega⟩,(300,some 600)::YT 301 ((i+1)*(n*n)) (λq=>601+q),by simp only;omega,?_⟩;simp only[hj,aq];obtain⟨π,hπ⟩: ∃π,π=(300,some 600)::YT 301 ((i+1)*(n*n)) (λq=>601+q):=⟨_,rfl⟩;rw[<-hπ];have hp: ∀x,x<300->pm π x=some x:=λx hx=>by rw[hπ];simp only[pm];rw[Af (by omega),Oz,Af (by omega)]
   have O:pm π 300=some 600:=by rw[hπ];simp[pm]
   have hf: ∀q,q<(i+1)*(n*n)->pm π (301+q)=some (601+q):=λq hq=>by
    rw[hπ];simp only[pm];rw[Af (by omega),Oz,Ai (by omega)];congr 2;omega
   have Z:GU 244 π:=by rw[hπ];exact⟨by omega,eO (by omega)⟩
   refine Hk (A:=[_,_,_,_,_,_,_,_,_]) (λq=>601+q) Z (by simp[DC,hp 0 (by omega),hp 1 (by omega),hp 2 (by omega),hp 5 (by omega),hp 22 (by omega),hp 26 (by omega),hp 123 (by omega),hp 144 (by omega),O,Cj]) hf (λa b ha hb h=>by omega) (λm hm q hq=>by simp[DC,hp 0 (by omega),hp 1 (by omega),hp 2 (by omega),hp 5 (by omega),hp 22 (by omega),hp 26 (by omega),hp 123 (by omega),hp 144 (by omega),O] at hm;omega) ?_ ?_ (λq hq=> ?_)
   .simp only[GH];simp(maxSteps:=9^9)(disch:=omega)only[ZZ,simprocAttr,Ab,Hi,Aq,prfC.ca,A9.c,AS,AR,O,hp 0 (by omega),hp 1 (by omega),hp 2 (by omega),hp 5 (by omega),hp 22 (by omega),hp 26 (by omega),hp 123 (by omega),hp 144 (by omega)]
    try simp
   .simp only[EJ];simp(maxSteps:=9^9)(disch:=omega)only[ZZ,simprocAttr,Ab,Hi,Aq,prfC.ca,A9.c,AS,AR,O,hp 0 (by omega),hp 1 (by omega),hp 2 (by omega),hp 5 (by omega),hp 22 (by omega),hp 26 (by omega),hp 123 (by omega),hp 144 (by omega)];exact eL hf
   .simp only[Cx,hget,Ar _ _ (show 2≠601+q by omega),Ar _ _ (show 600≠601+q by omega),Ar _ _ (show 144≠601+q by omega),Ar _ _ (show 5≠601+q by omega),Ar _ _ (show 123≠601+q by omega),Ar _ _ (show 26≠601+q by omega),Ar _ _ (show 22≠601+q by omega),Ar _ _ (show 1≠601+q by omega),Ar _ _ (show 0≠601+q by omega),Bk];rw[Dp _ _ _ _ hq];exact⟨rfl,rfl⟩
 .obtain rfl:i=s.Set.Tiles.length:=by omega
  have aa:Lx s.Set n=Ix s.Set n (s.Set.Tiles.length*(n*n)):=rfl;have av: ∀h,Ci h 144 300 26 301 ⟨⟨D1 s.Set n,Lx s.Set n⟩,⟨DI (Bu n s.Seed.Tiles)⟩,s.Temperature⟩->Ce h [AV.agg [.own 144,.own 300,.own 26,.im (.int .i64 s.Temperature)]]=some [.val (.agg (A9.c ⟨⟨D1 s.Set n,Lx s.Set n⟩,⟨DI (Bu n s.Seed.Tiles)⟩,s.Temperature⟩))]:=λh S=>by
   have:=S.pk
   simp only at this;simp only[Ce,this,Gz]
  rw[Fz (by omega)];refine vF.call [.val (.agg (A9.c ⟨⟨D1 s.Set n,Lx s.Set n⟩,⟨DI (Bu n s.Seed.Tiles)⟩,s.Temperature⟩))] (av _ ⟨rfl,?_,rfl,λq hq=> ?_⟩) _ (K3 _) (PC hn (by omega) (by omega)) ?_
  .simp only;rw[aa,WZ];rfl
  .simp only[aa,K7] at hq⊢;rw[KW hq];simp only[hget,Ar _ _ (show 500≠301+q by omega),Ar _ _ (show 2≠301+q by omega),Ar _ _ (show 300≠301+q by omega),Ar _ _ (show 144≠301+q by omega),Ar _ _ (show 5≠301+q by omega),Ar _ _ (show 123≠301+q by omega),Ar _ _ (show 26≠301+q by omega),Ar _ _ (show 22≠301+q by omega),Ar _ _ (show 1≠301+q by omega),Ar _ _ (show 0≠301+q by omega),Bk];exact Dp _ _ _ _ hq
  simp(maxSteps:=9^9)(disch:=omega)only[ZZ,simprocAttr,Ab,Hi,Aq,prfC.ca,A9.c,sub,validI_.fv];rw[oZ,c3];have am:(CU s.Seed n).1=⟨DI (Bu n s.Seed.Tiles)⟩:=by
   by_cases c8:s.Seed.Tiles.length*n*n<=500/\(Bu n s.Seed.Tiles).all FC=true
   .simp only[CU];rw[Ai c8]
   .simp only[CU] at c6;rw[Af c8] at c6;cases c6
  have ai:CC s.Set n<=200/\s.Set.Tiles.length*(n*n)<=160/\(CU s.Seed n).2=true:=⟨c4,c5,c6⟩;by_cases c7:Ht ⟨⟨D1 s.Set n,Lx s.Set n⟩,⟨DI (Bu n s.Seed.Tiles)⟩,2⟩=true
  case neg=>
   obtain⟨q1,Q⟩:=Oy (s:=s) (k:=n) (c:=5) (by simp only[AH];rw[Ai c1,Ai c2,Ai c3,Bq,Ai ai,am,Af c7]) (by decide);rw[Ai (by simpa using c7),q1,Q];exact⟨rfl,trivial⟩
  rw[Af (by simp[c7])];have hP:AH s (n:Int)=(⟨⟨D1 s.Set n,Lx s.Set n⟩,⟨DI (Bu n s.Seed.Tiles)⟩,2⟩,0):=by
   simp only[AH];rw[Ai c1,Ai c2,Ai c3,Bq,Ai ai,am,Ai c7]
  have ak:min (Lx s.Set n).length 1048576=s.Set.Tiles.length*(n*n):=by rw[YK];omega
  simp only[prfC.r0,prfC.H1,hP,BD,ak,Bp];rw[Fz (by omega)];simp only[Er];refine⟨trivial,⟨rfl,rfl⟩,⟨rfl,?_⟩,⟨rfl,rfl⟩,G1 _ _ _ _ _ (λq hq=> ?_) (λq hq=>rfl)⟩
  .rw[aa,<-WZ];simp only[BZ];rw[HZ (λq hq=>by rw[K7] at hq;exact K2 (by omega) (by omega))];rfl
  .rw[aa,KW hq];simp only[hget,Ar _ _ (show 1≠301+q by omega),Ar _ _ (show 500≠301+q by omega),Ar _ _ (show 2≠301+q by omega),Ar _ _ (show 300≠301+q by omega),Ar _ _ (show 144≠301+q by omega),Ar _ _ (show 5≠301+q by omega),Ar _ _ (show 123≠301+q by omega),Ar _ _ (show 26≠301+q by omega),Ar _ _ (show 22≠301+q by omega),Ar _ _ (show 0≠301+q by omega),Bk];exact Dp _ _ _ _ hq
end Go.Ae
namespace Go.Ae
open Go.Proofs
def totI(M:List (List Int)):Nat:=(M.map List.length).sum
def qO(x:List Int)(k:Int):El x k=k+x.length\/El x k= -1:=by
 simp only[El];split
 .exact .inl rfl
 .exact .inr rfl
def roI(M:List (List Int))(i:Nat):List Int:=M[i]?.getD []
def ssK(M:List (List Int))(k:Int):Nat->Int
 |0=>k
 |i+1=>ssK M k i+(roI M i).length
def BL(M:List (List Int))(k:Int):List (List Int):=(List.range M.length).map λi=>Gi (ssK M k i) (roI M i).length
def mkSS.pre(a:List (List Int)×Int):Prop:=a.1.length<=1048576/\0<=a.2/\a.2+totI a.1<=1099511627776
structure Ra(h:Nat->Option Am)(o b:Nat)(M:List (List Int)):Prop where
 r:h o=some (true,.arrA 41 1 (Dw b M.length))
 f: ∀i,i<M.length->h (b+i)=some (true,.arr 2 1 ((M[i]?.getD []).map Ak))
def Ra.mono{h h':Nat->Option Am}{o b:Nat}{M:List (List Int)}(hs:Ra h o b M)(z: ∀m,(m=o\/(b<=m/\m<b+M.length))->h' m=h m):Ra h' o b M:=
 ⟨by rw[z o (.inl rfl)];exact hs.r,λi O=>by rw[z _ (.inr ⟨by omega,by omega⟩)];exact hs.f i O⟩
def Ra.pk{h:Nat->Option Am}{o b:Nat}{M:List (List Int)}(hs:Ra h o b M):DE h (.own o)=some (.val (.sl false 1 (M.map CZ))):=by
 have e:Ax (Ax (bk h 8)) (Dw b M.length)=some (M.map CZ):=by
  have O:M.map CZ=(List.range M.length).map λi=>CZ (M[i]?.getD []):=by
   apply RH;intro i;rw[D3,D3];by_cases z:i<M.length
   .rw[Ga z,BA z];simp[z]
   .rw[Ir (by omega),Ir (by simp;omega)];rfl
  rw[O];refine R8 _ λi z=> ?_
  have z:=Bc.1 z;simp only[Ax,bk,hs.f i z,KM,CZ]
 simp only[DE,bk,hs.r,KM,e,Dh,DR]
def dP{A:Type}(f:Nat->A)(n:Nat):(Eg f n).length=n:=by simp[Eg]
def pW{A:Type}(f:Nat->A)(n:Nat):Eg f (n+1)=Eg f n++[f n]:=by simp[Eg,gV]
def NT{A:Type}{f:Nat->A}{n i:Nat}(h:i<n):(Eg f n)[i]? =some (f i):=by simp only[Eg,D3];rw[Ga h];rfl
def totO(M:List (List DS)):Nat:=(M.map List.length).sum
def mkOO.pre(a:List (List DS)×Int):Prop:=a.1.length<=1048576/\0<=a.2/\a.2+3*totO a.1<=1099511627776
def Ff(l:List Al)(k:Int):Int:=if l=Eg (pF k) l.length then k+3*l.length else -1
def Tf(k:Int)(n:Nat):Ff (Eg (pF k) n) k=k+3*n:=by
 simp only[Ff,dP,BD]
def heldP_.fv(a:(List Al)×Int):Int:=(Ff) (a.1) (a.2)
def heldP_.row:AF:=CH (b2 (qS Al.d_le Al.c_n) qI) rI (λa=>0<=a.2/\a.2+3*a.1.length<=1099511627776) heldP_.fv
def heldP_.q:=C9 (R:=heldP_.row) rfl
def heldP_.ok:AL 96 heldP_.row:=by
 refine FR tN Tryz.func96 ?_;intro a z;simp only[Tryz.f96,Option.getD];simp only[ZZ,simprocAttr,Ab,heldP_.fv,BX,D.sc,D.scs,BM,AT];obtain⟨l,k⟩:=a;simp only at z⊢;obtain⟨h1,h2⟩:=z;refine Ba.old ⟨{i:Nat//i<=l.length/\l.take i=Eg (pF k) i},λi=>⟨[(5,.im (.int .i64 i.1)),(4,.im (.int .i64 0)),(1,.im (.int .i64 (k+3*i.1))),(0,.im (.sl false 3 (l.map Al.c)))],[],0⟩,λi=>l.length - i.1,λi=>⟨by simp[ZG],by simp⟩,⟨⟨0,by simp[Eg]⟩,by simp only[ZZ,simprocAttr,Ab,heldP_.fv,BX,D.sc,D.scs,BM,AT,sub];simp⟩,λi=> ?_⟩;obtain⟨i,ab,O⟩:=i;simp only[ZZ,simprocAttr,Ab,heldP_.fv,BX,D.sc,D.scs,BM,AT,sub,AP];intro _;refine⟨λZ=>⟨Z,λx hx=> ?_⟩,λZ=> ?_⟩
 .have w1:IntKind.i64.wrap (k+3*(i:Int)+1)=k+3*(i:Int)+1:=AG (by omega) (by omega);have w2:IntKind.i64.wrap (k+3*(i:Int)+1+1)=k+3*(i:Int)+2:=(AG (by omega) (by omega)).trans (by omega);have w3:IntKind.i64.wrap (k+3*(i:Int)+2+1)=k+3*((i+1:Nat):Int):=(AG (by omega) (by omega)).trans (by omega);simp only[w1,w2,w3];have Q:x≠pF k i-> -1=Ff l k:=λc=>by
   simp only[Ff];rw[Af λh=> ?_];rw[h,NT Z] at hx;exact c (AJ hx).symm
  refine⟨λc=>Q λh=>c (by rw[h];rfl),λc1=>⟨Z,λy hy=> ?_⟩⟩;obtain rfl:x=y:=AJ (hx.symm.trans hy);refine⟨λc=>Q λh=>c (by rw[h];rfl),λc2=>⟨Z,λy hy=> ?_⟩⟩;obtain rfl:x=y:=AJ (hx.symm.trans hy);refine⟨λc=>Q λh=>c (by rw[h];rfl),λc3=>⟨⟨i+1,by omega,?_⟩,by simp only;omega,by rw[AG (by omega) (by omega)];simp only;omega,rfl⟩⟩;have e:x=pF k i:=by
   obtain⟨⟨u,v⟩,t⟩:=x;simp only[GK] at c1 c2 c3;simp only[pF,c1,c2,c3]
  rw[mI hx,O,pW,e]
 .have aa:i=l.length:=by omega
  subst aa;rw[IM] at O;simp only[Ff];rw[Ai O]
def rC(x:List Al)(k:Int):Ff x k=k+3*x.length\/Ff x k= -1:=by
 simp only[Ff];split
 .exact .inl rfl
 .exact .inr rfl
def heldA_.fv(a:AB×Int):Int:=(λa k=>Ff a.Tiles k) (a.1) (a.2)
def heldA_.row:AF:=CH (b2 (qR AB.d_le) qI) rI (λa=>0<=a.2/\a.2+3*a.1.Tiles.length<=1099511627776) heldA_.fv
def heldA_.q:=C9 (R:=heldA_.row) rfl
def heldA_.ok:AL 58 heldA_.row:=by
 refine FR (tC heldP_.ok tN) Tryz.func58 ?_;intro a z;simp only[Tryz.f58,Option.getD];simp only[ZZ,simprocAttr,Ab,heldA_.fv,heldP_.q,heldP_.fv,BX,D.sc,D.scs,BM,AT];obtain⟨⟨x⟩,k⟩:=a;obtain⟨O,Q⟩:=z;simp only at O Q⊢;refine⟨⟨O,Q⟩,?_⟩;rcases rC x k with h|h
 .rw[Af (by omega)];trivial
 .rw[Ai (by omega)];exact h.symm
def pT(cl:List (List Nat))(j:Nat)(use touch z:List Nat): ∀acc:List Fp,(acc.all λf=>Ed cl f.i j)=true->FT cl j use touch z acc=true
 |[],_=>rfl
 |f::r,h=>by
  rw[EZ,AY] at h;simp only[FT,bO,h.1,pT cl j use touch z r h.2,Et];cases (Gs (use++touch) f.touch && (Gs touch f.use && EU f.nx f.cnt z))<;>rfl
def HY{H:An}{n m:Nat}(h:n≠m):hget (AW H [n]) m=hget H m:=JW _ _ _ h
def pg{H H':An}{k m:Nat}{e:Am}{x:Option Am}(z:(k,e)::AW H [k]=H')(h:k≠m)(g:hget H m=x):hget H' m=x:=by subst z;exact (G8 _ _ _ h).trans g
section
variable {A B:Type}{k:AK A}{r:RK B}{pre:A->Prop}{f:A->B}{args:List AV}{tm:List (Nat×AV)}{h:An}{nx:Nat}{dst:Option Nat}
def vK.call{Z:Az->Prop}(ps:List PK)(Q:IT (hget h) args=some (ps,[]))(a:A)(ha:k.r ps=some a)(z:pre a)(O:Z ((⟨tm,h,nx⟩:Az).put dst (.im (r.e (f a))))):vK k r pre f args (hget h) nx (D6 Z ⟨tm,h,nx⟩ dst):=vN.call ps Q a ha z O
def CH.call{Z:Az->Prop}(ps:List PK)(Q:Ce (hget h) args=some ps)(a:A)(ha:k.r ps=some a)(z:pre a)(O:Z ((⟨tm,h,nx⟩:Az).put dst (.im (r.e (f a))))):CH k r pre f args (hget h) nx (D6 Z ⟨tm,h,nx⟩ dst):=vF.call ps Q a ha z O
def vK.callA{Z:Q3}{cl:List (List Nat)}{i:Nat}{acc:List Fp}(ps:List PK)(Q:IT (hget h) args=some (ps,[]))(a:A)(ha:k.r ps=some a)(z:pre a)(hq:K0 acc=true)(O: ∀u,Z (⟨i,u,[],nx,0⟩::acc) ((⟨tm,h,nx⟩:Az).put dst (.im (r.e (f a))))):vK k r pre f args (hget h) nx (Ja cl i acc Z ⟨tm,h,nx⟩ dst):=vN.callA ps Q a ha z hq O
def CH.callA{Z:Q3}{cl:List (List Nat)}{i:Nat}{acc:List Fp}(ps:List PK)(Q:Ce (hget h) args=some ps)(a:A)(ha:k.r ps=some a)(z:pre a)(hq:K0 acc=true)(O: ∀u,Z (⟨i,u,[],nx,0⟩::acc) ((⟨tm,h,nx⟩:Az).put dst (.im (r.e (f a))))):CH k r pre f args (hget h) nx (Ja cl i acc Z ⟨tm,h,nx⟩ dst):=vF.callA ps Q a ha z hq O
end
end Go.Ae
namespace Go.Ae
open Go.Proofs Go.Lib
def wP(k:Int)(i:Nat):Ad:=⟨Eb (k+2*i),k+2*i+1⟩
def EP(l:List Ad)(k:Int):Int:=if l=Eg (wP k) l.length then k+2*l.length else -1
def heldG_.fv(a:(List Ad)×Int):Int:=(EP) (a.1) (a.2)
def heldG_.row:AF:=CH (b2 (qS Ad.d_le Ad.c_n) qI) rI (λa=>0<=a.2/\a.2+2*a.1.length<=1099511627776) heldG_.fv
def heldG_.q:=C9 (R:=heldG_.row) rfl
def YaO:=J @heldG_.fv.eq_1 (J @mkText.q @mkText.fv.eq_1)
def heldG_.ok:AL 94 heldG_.row:=by
 refine FR (tC mkText.ok tN) Tryz.func94 ?_;intro a z;simp only[Tryz.f94,Option.getD];simp(maxSteps:=9^9)(disch:=omega)only[ZZ,simprocAttr,Ab,YaO,BX,D.sc,D.scs,BM,AT];obtain⟨l,k⟩:=a;simp only at z⊢;obtain⟨h1,h2⟩:=z;refine Ba.old ⟨{i:Nat//i<=l.length/\l.take i=Eg (wP k) i},λi=>⟨[(5,.im (.int .i64 i.1)),(4,.im (.int .i64 0)),(1,.im (.int .i64 (k+2*i.1))),(0,.im (.sl false 2 (l.map Ad.c)))],[],0⟩,λi=>l.length - i.1,λi=>⟨by simp[ZG],by simp⟩,⟨⟨0,by simp[Eg]⟩,by simp(maxSteps:=9^9)(disch:=omega)only[ZZ,simprocAttr,Ab,YaO,BX,D.sc,D.scs,BM,AT,sub];simp⟩,λi=> ?_⟩;obtain⟨i,ab,O⟩:=i;simp(maxSteps:=9^9)(disch:=omega)only[ZZ,simprocAttr,Ab,YaO,BX,D.sc,D.scs,BM,AT,sub,AP];intro _;refine⟨λZ=>⟨Z,λx hx=> ?_⟩,λZ=> ?_⟩
 .have w1:IntKind.i64.wrap (k+2*(i:Int)+1)=k+2*(i:Int)+1:=AG (by omega) (by omega);have w2:IntKind.i64.wrap (k+2*(i:Int)+1+1)=k+2*((i+1:Nat):Int):=(AG (by omega) (by omega)).trans (by omega);simp only[w1,w2];have Q:x≠wP k i-> -1=EP l k:=λc=>by
   simp only[EP];rw[Af λh=> ?_];rw[h,NT Z] at hx;exact c (AJ hx).symm
  refine⟨by omega,λc=>Q λh=>c (by rw[h];rfl),λc1=>⟨Z,λy hy=> ?_⟩⟩;obtain rfl:x=y:=AJ (hx.symm.trans hy);refine⟨λc=>Q λh=>c (by rw[h];rfl),λc2=>⟨⟨i+1,by omega,?_⟩,by simp only;omega,by rw[AG (by omega) (by omega)];simp only;omega,rfl⟩⟩;have e:x=wP k i:=by
   obtain⟨u,v⟩:=x;simp only[GK] at c1 c2;simp only[wP,c1,c2]
  rw[mI hx,O,pW,e]
 .have aa:i=l.length:=by omega
  subst aa;rw[IM] at O;simp only[EP];rw[Ai O]
def qV(l:List Ad)(k:Int):EP l k=k+2*l.length\/EP l k= -1:=by
 simp only[EP];split
 .exact .inl rfl
 .exact .inr rfl
def En:List Tile->Int->Int
 |[],k=>k
 |x::r,k=>if x.Name=Eb k then (if El x.Sides (k+1)<0 then -1 else En r (El x.Sides (k+1))) else -1
def Du:List Tile->Int
 |[]=>0
 |x::r=>1+x.Sides.length+Du r
def K6: ∀l:List Tile,0<=Du l
 |[]=>by simp[Du]
 |x::r=>by have:=K6 r;simp only[Du];omega
def heldT_.fv(a:(List Tile)×Int):Int:=(En) (a.1) (a.2)
def heldT_.row:AF:=CH (b2 (qS Tile.d_le Tile.c_n) qI) rI (λa=>0<=a.2/\a.2+Du a.1<=1099511627776) heldT_.fv
def heldT_.q:=C9 (R:=heldT_.row) rfl
def YaP:=J @heldT_.fv.eq_1<|J @mkText.q<|J @mkText.fv.eq_1<|J @heldIS.q @heldIS.fv.eq_1
def heldT_.ok:AL 95 heldT_.row:=by
 refine FR (tC mkText.ok (tC heldIS.ok tN)) Tryz.func95 ?_;intro a O;simp only[Tryz.f95,Option.getD];simp(maxSteps:=9^9)(disch:=omega)only[ZZ,simprocAttr,Ab,YaP,BX,D.sc,D.scs,BM,AT];obtain⟨M,k⟩:=a;simp only at O⊢;obtain⟨h1,h2⟩:=O;refine Ba.old ⟨{i:Nat×Int//i.1<=M.length/\En M k=En (M.drop i.1) i.2/\0<=i.2/\i.2+Du (M.drop i.1)<=1099511627776},λi=>⟨[(5,.im (.int .i64 i.1.1)),(4,.im (.int .i64 0)),(1,.im (.int .i64 i.1.2)),(0,.im (.sl false 2 (M.map Tile.c)))],[],0⟩,λi=>M.length - i.1.1,λi=>⟨by simp[ZG],by simp⟩,⟨⟨(0,k),C5 _,by simp only[GJ],h1,by simp only[GJ];exact h2⟩,by simp(maxSteps:=9^9)(disch:=omega)only[ZZ,simprocAttr,Ab,YaP,BX,D.sc,D.scs,BM,AT,sub]⟩,λi=> ?_⟩;obtain⟨⟨i,q⟩,aa,z,ab,Q⟩:=i;simp only at aa z ab Q;simp(maxSteps:=9^9)(disch:=omega)only[ZZ,simprocAttr,Ab,YaP,BX,D.sc,D.scs,BM,AT,sub,AP];intro _;refine⟨λZ=>⟨Z,λx hx=> ?_⟩,λZ=> ?_⟩
 .rw[HI hx] at z Q;have ht:Du (x::M.drop (i+1))=1+x.Sides.length+Du (M.drop (i+1)):=rfl;have ac:=K6 (M.drop (i+1));rw[ht] at Q;have w1:IntKind.i64.wrap (q+1)=q+1:=AG (by omega) (by omega);simp only[w1];refine⟨by omega,λc=> ?_,λc1=>⟨Z,λy hy=> ?_⟩⟩
  .rw[z,En,Af c]
  obtain rfl:x=y:=AJ (hx.symm.trans hy);have c1:=GK.1 c1;refine⟨⟨by omega,by omega⟩,λc=> ?_,λc=>⟨⟨(i+1,El x.Sides (q+1)),?_⟩,by simp only;omega,by rw[AG (by omega) (by omega)];simp only;omega,rfl⟩⟩
  .rw[z,En,Ai c1,Ai c]
  .rcases qO x.Sides (q+1) with e|e
   .simp only;refine⟨by omega,?_,by omega,by omega⟩;rw[z,En,Ai c1,Af c]
   .omega
 .rw[DY (by omega),En] at z;exact z.symm
def FW(s:Ap)(k:Int):Int:=if EP s.Glues k<0 then -1 else if En s.Tiles (EP s.Glues k)<0 then -1 else En s.Tiles (EP s.Glues k)
def heldTS_.fv(a:Ap×Int):Int:=(FW) (a.1) (a.2)
def heldTS_.row:AF:=CH (b2 (qR Ap.d_le) qI) rI (λa=>0<=a.2/\a.2+2*a.1.Glues.length+Du a.1.Tiles<=1099511627776) heldTS_.fv
def heldTS_.q:=C9 (R:=heldTS_.row) rfl
def heldTS_.ok:AL 57 heldTS_.row:=by
 refine FR (tC heldG_.ok (tC heldT_.ok tN)) Tryz.func57 ?_;intro a z;simp only[Tryz.f57,Option.getD];simp(maxSteps:=9^9)(disch:=omega)only[ZZ,simprocAttr,Ab,heldTS_.fv,heldG_.q,heldG_.fv,heldT_.q,heldT_.fv,BX,D.sc,D.scs,BM,AT];obtain⟨s,k⟩:=a;obtain⟨Q,Z⟩:=z;simp only at Q Z⊢;have aa:=K6 s.Tiles;simp only[FW];refine⟨⟨Q,by omega⟩,?_⟩;by_cases c:EP s.Glues k<0
 .rw[Ai c,Ai c]
 .have hg:=qV s.Glues k;rw[Af c,Af c];refine⟨⟨by omega,by omega⟩,?_⟩;by_cases O:En s.Tiles (EP s.Glues k)<0
  .rw[Ai O,Ai O]
  .rw[Af O,Af O]
def Dl(s:A9)(k:Int):Int:=if FW s.Set k<0 then -1 else if Ff s.Seed.Tiles (FW s.Set k)<0 then -1 else Ff s.Seed.Tiles (FW s.Set k)
def qJ: ∀(l:List Tile) (k:Int),0<=k->En l k<=k+Du l
 |[],k,_=>by simp[En,Du]
 |x::r,k,h=>by
  have hn:=K6 r;simp only[En,Du];split
  .split
   .omega
   .rename_i c
    have:=qJ r (El x.Sides (k+1)) (by omega)
    rcases qO x.Sides (k+1) with e|e<;>omega
  .omega
def rD{s:Ap}{k:Int}(h:0<=k):FW s k<=k+2*s.Glues.length+Du s.Tiles:=by
 have hn:=K6 s.Tiles;simp only[FW];split
 .omega
 .rename_i c;split
  .omega
  .have:=qJ s.Tiles (EP s.Glues k) (by omega)
   rcases qV s.Glues k with e|e<;>omega
def heldSys_.fv(a:A9×Int):Int:=(Dl) (a.1) (a.2)
def heldSys_.row:AF:=CH (b2 (qR A9.d_le) qI) rI (λa=>0<=a.2/\a.2+2*a.1.Set.Glues.length+Du a.1.Set.Tiles+3*a.1.Seed.Tiles.length<=1099511627776) heldSys_.fv
def heldSys_.q:=C9 (R:=heldSys_.row) rfl
def heldSys_.ok:AL 27 heldSys_.row:=by
 refine FR (tC heldTS_.ok (tC heldA_.ok tN)) Tryz.func27 ?_;intro a z;simp only[Tryz.f27,Option.getD];simp(maxSteps:=9^9)(disch:=omega)only[ZZ,simprocAttr,Ab,heldSys_.fv,heldTS_.q,heldTS_.fv,heldA_.q,heldA_.fv,BX,D.sc,D.scs,BM,AT];obtain⟨s,k⟩:=a;obtain⟨Q,Z⟩:=z;simp only at Q Z⊢;have aa:=rD (s:=s.Set) Q;simp only[Dl];refine⟨⟨Q,by omega⟩,?_⟩;by_cases c:FW s.Set k<0
 .rw[Ai c,Ai c]
 .rw[Af c,Af c];refine⟨⟨by omega,by omega⟩,?_⟩;by_cases O:Ff s.Seed.Tiles (FW s.Set k)<0
  .rw[Ai O,Ai O]
  .rw[Af O,Af O]
end Go.Ae
namespace Go.Ae
open Go.Proofs
def Pv:List Tile->Int->List Tile
 |[],_=>[]
 |x::r,k=>⟨Eb k,Gi (k+1) x.Sides.length⟩::Pv r (k+1+x.Sides.length)
def Rp: ∀(a:List Tile) (k:Int),(Pv a k).length=a.length
 |[],_=>rfl
 |x::r,k=>by simp only[Pv,Dx,Rp r]
def Rq: ∀(a:List Tile) (k:Int) (i:Nat),i<a.length->(Pv a k)[i]? =some ⟨Eb (DF a k i),Gi (DF a k i+1) (jX a i).length⟩
 |[],_,i,h=>by simp at h
 |x::r,k,0,_=>by simp[Pv,DF,jX]
 |x::r,k,i+1,h=>by
  rw[Pv,QH,Rq r _ i (by simpa using h),dK];simp[jX]
def MN: ∀(a:List Tile) (k:Int),Du (Pv a k)=a.length+DG a
 |[],_=>by simp[Pv,Du,DG]
 |x::r,k=>by
  simp only[Pv,Du,MN r,Oq,DG,Be,KU,Dx];omega
def qQ: ∀(a:List Tile) (k:Int),0<=k->En (Pv a k) k=k+a.length+DG a
 |[],k,_=>by simp[Pv,En,DG]
 |x::r,k,h=>by
  have e:El (Gi (k+1) x.Sides.length) (k+1)=k+1+x.Sides.length:=pR _ _;simp only[Pv,En,e];rw[Ai trivial,Af (by omega),qQ r _ (by omega)];simp only[DG,Be,KU,Dx];omega
def Td(k:Int)(n:Nat):EP (Eg (gF k) n) k=k+2*n:=by
 simp only[EP,dP];exact Ai rfl
def Lm(s:A9)(k:Int):A9:=⟨⟨Eg (gF k) s.Set.Glues.length,Pv s.Set.Tiles (CB (s.Set,k))⟩,⟨Eg (pF (syK (s,k))) s.Seed.Tiles.length⟩,s.Temperature⟩
def qL(s:A9){k:Int}(h:0<=k):Dl (Lm s k) k=syK (s,k)+3*s.Seed.Tiles.length:=by
 have e:FW (Lm s k).Set k=syK (s,k):=by
  simp only[FW,Lm,Td,CB];rw[Af (by omega),qQ _ _ (by omega)];rw[Af (by omega)];simp only[syK,Ro,CB]
 have hp:Ff (Lm s k).Seed.Tiles (syK (s,k))=syK (s,k)+3*s.Seed.Tiles.length:=Tf _ _;have hn:0<=syK (s,k):=by simp only[syK,Ro,CB];omega
 simp only[Dl,e,hp];rw[Af (by omega),Af (by omega)]
def qG{g t p f nx:Nat}{tm:List (Nat×AV)}{h:An}{dst:Option Nat}{go:Az->Prop}{s:A9}{k:Int}(hB:ER s)(hk:0<=k)(ad:k<=1048576)(hS:Ci (hget h) g t p f s)
 (af:g≠t)(ag:g≠p)(ah:t≠p)(hf:(g<f\/f+1048576<=g)/\(t<f\/f+1048576<=t)/\(p<f\/f+1048576<=p))(ai:g<nx/\t<nx/\p<nx/\f+1048576<=nx)
 (ac: ∀Q:An,Ci (hget Q) g t p f (Lm s k)->(∀m,m≠g->m≠t->m≠p->(m<f\/f+1048576<=m)->hget Q m=hget h m)->go ((⟨tm,Q,nx⟩:Az).put dst (.im (.int .i64 (syK (s,k)+3*s.Seed.Tiles.length))))):
 mkSy.row [.agg [.own g,.own t,.own p,.im (.int .i64 s.Temperature)],.im (.int .i64 k)] (hget h) nx (D6 go ⟨tm,h,nx⟩ dst):=by
 have ht:=hB.t;have aa:nT s.Set.Tiles=s.Set.Tiles.length:=by simp only[nT];omega
 obtain⟨τ,hτ⟩: ∃τ:Nat->Nat,τ=λj=>if j=2000000 then p else if j=0 then g else if j=1 then t else f+(j - 2):=⟨_,rfl⟩
 have t0:τ 0=g:=by rw[hτ];rfl
 have t1:τ 1=t:=by rw[hτ];rfl
 have t2: ∀j,j<1048576->τ (2+j)=f+j:=λj z=>by rw[hτ];simp only;rw[Af (by omega),Af (by omega),Af (by omega)];omega
 have tp:τ 2000000=p:=by rw[hτ];exact Ai rfl
 have hσ: ∀j,j<2000001->Bw τ 2000001 nx j=τ j:=λj z=>Ai z
 have d0: ∀j,Aj (mkSy.H0 (s,k)) j=true->j=2000000\/j<2+nT s.Set.Tiles:=λj z=>(mkSy.dom0 _ _).1 z
 have tv: ∀j,(j=2000000/\τ j=p)\/(j=0/\τ j=g)\/(j=1/\τ j=t)\/(j≠2000000/\2<=j/\τ j=f+(j - 2)):=λj=>by
  rw[hτ];simp only;split
  .exact .inl ⟨by assumption,rfl⟩
  split
  .exact .inr (.inl ⟨by assumption,rfl⟩)
  split
  .exact .inr (.inr (.inl ⟨by assumption,rfl⟩))
  .exact .inr (.inr (.inr ⟨by assumption,by omega,rfl⟩))
 have rg: ∀j,Aj (mkSy.H0 (s,k)) j=true->τ j=g\/τ j=t\/τ j=p\/(f<=τ j/\τ j<f+1048576):=λj z=>by
  have h1:=d0 j z;have h2:=tv j;omega
 have rows: ∀(i:Nat) (nm:Nat->ByteArray),(∀j,j<nT s.Set.Tiles->Fx s.Set.Tiles (CB (s.Set,k)) i j=[.im (.str (nm j)),.own (2+j)])->(CV s.Set.Tiles (CB (s.Set,k)) i).map (AI (Bw τ 2000001 nx))=(List.range s.Set.Tiles.length).map λj=>[.im (.str (nm j)),.own (f+j)]:=λi nm hnm=>by
  simp only[CV,aa,Hu];refine Gb λj z=> ?_
  have z:=Bc.1 z;simp only[Function.comp,hnm j (by omega),AI,AV.ren];rw[hσ _ (by omega),t2 j (by omega)]
 refine AD.tau (s,k) τ (hB.mkp hk ad) (λ_ _=>rfl) (λj z=> ?_) (λi j O z h=> ?_) (mkSy.hcl _) ⟨?_,?_⟩ (by simp[mkSy.r0,AV.nms]) (λQ hH1 ab=> ?_)
 .have h1:=d0 j z;have h2:=rg j z;omega
 .have h1:=d0 i O;have h2:=d0 j z;have v1:=tv i;have v2:=tv j;rcases v1 with ⟨a1,b1⟩|⟨a1,b1⟩|⟨a1,b1⟩|⟨a1,a3,b1⟩<;>rcases v2 with ⟨a2,b2⟩|⟨a2,b2⟩|⟨a2,b2⟩|⟨a2,a4,b2⟩<;>rw[b1,b2] at h<;>omega
 .simp only[mkSy.ca,AI,AV.ren,hσ 0 (by omega),hσ 1 (by omega),hσ 2000000 (by omega),t0,t1,tp]
 .simp only[mkSy.H0,mkTS.H0,HA,Db,hσ 0 (by omega),hσ 1 (by omega),hσ 2000000 (by omega),t0,t1,tp,Ac.ren];refine⟨hS.p,hS.g,?_,IZ λi O=> ?_⟩
  .rw[hS.t,rows 0 (λj=>(s.Set.Tiles[j]?.map Tile.Name).getD ByteArray.empty) λj _=>rfl];rfl
  .rw[aa] at O;rw[hσ _ (by omega),t2 i (by omega),hS.f i O];rfl
 have Z:(Lm s k).Set.Tiles.length=s.Set.Tiles.length:=Rp _ _;refine ac Q ⟨?_,?_,?_,λi O=> ?_⟩ λm m1 m2 m3 m4=>ab m λj z e=>by have:=rg j z;omega
 .have:=hH1 0 _ rfl
  rwa [t0] at this
 .have:=hH1 1 _ rfl
  rw[t1] at this;rw[this];simp only[Ac.ren];rw[rows _ (λj=>Eb (DF s.Set.Tiles (CB (s.Set,k)) j)) λj z=>Ai z];simp only[BK,Z];congr 3;refine Gb λj z=> ?_
  have z:=Bc.1 z;simp only[Lm,Rq _ _ _ z,Dh,AX]
 .have:=hH1 2000000 _ rfl
  rwa [tp] at this
 .rw[Z] at O;have e:hget (mkSy.H1 (s,k)) (2+i)=some (E3 s.Set.Tiles (CB (s.Set,k)) (nT s.Set.Tiles) i):=by
   simp only[mkSy.H1,hget,Ar _ _ (show 2000000≠2+i by omega),Bk];exact dQ i (show i<nT s.Set.Tiles by omega)
  have:=hH1 _ _ e
  rw[t2 i (by omega)] at this;rw[this];simp only[E3,Bv,Lm,Rq _ _ _ O,Ac.ren,Dh,AX];rw[Ai (by omega)]
def mkG0.fv(a:(List Ad)×Int):Int:=(λ_ k=>k) (a.1) (a.2)
def mkG0.row:AF:=vK (b2 (qS Ad.d_le Ad.c_n) qI) rI (λa=>a.1=[]) mkG0.fv
def mkG0.q:=Bd (R:=mkG0.row) rfl
def mkG0.ok:AL 54 mkG0.row:=by
 refine vw tN Tryz.func54 ?_;intro a z;simp only[Tryz.f54,Option.getD];simp(maxSteps:=9^9)(disch:=omega)only[ZZ,simprocAttr,Ab,mkG0.fv];obtain⟨l,k⟩:=a;simp only at z⊢;subst z;refine Ba.old ⟨Unit,λ_=>⟨[(5,.im (.int .i64 0)),(4,.im (.int .i64 0)),(1,.im (.int .i64 k)),(0,.im (.sl false 2 []))],[],0⟩,λ_=>0,λ_=>⟨by simp[ZG],by simp⟩,⟨(),by simp(maxSteps:=9^9)(disch:=omega)only[ZZ,simprocAttr,Ab,mkG0.fv,sub,BF]⟩,λ_=> ?_⟩;simp(maxSteps:=9^9)(disch:=omega)only[ZZ,simprocAttr,Ab,mkG0.fv,sub,BF]
 try simp
def mkL0.fv(a:(List Tile)×Int):Int:=(λ_ k=>k) (a.1) (a.2)
def mkL0.row:AF:=vK (b2 (qS Tile.d_le Tile.c_n) qI) rI (λa=>a.1=[]) mkL0.fv
def mkL0.q:=Bd (R:=mkL0.row) rfl
def mkL0.ok:AL 55 mkL0.row:=by
 refine vw tN Tryz.func55 ?_;intro a z;simp only[Tryz.f55,Option.getD];simp(maxSteps:=9^9)(disch:=omega)only[ZZ,simprocAttr,Ab,mkL0.fv];obtain⟨l,k⟩:=a;simp only at z⊢;subst z;refine Ba.old ⟨Unit,λ_=>⟨[(5,.im (.int .i64 0)),(4,.im (.int .i64 0)),(1,.im (.int .i64 k)),(0,.im (.sl false 2 []))],[],0⟩,λ_=>0,λ_=>⟨by simp[ZG],by simp⟩,⟨(),by simp(maxSteps:=9^9)(disch:=omega)only[ZZ,simprocAttr,Ab,mkL0.fv,sub,BF]⟩,λ_=> ?_⟩;simp(maxSteps:=9^9)(disch:=omega)only[ZZ,simprocAttr,Ab,mkL0.fv,sub,BF]
 try simp
def mkPl0.fv(a:(List Al)×Int):Int:=(λ_ k=>k) (a.1) (a.2)
def mkPl0.row:AF:=vK (b2 (qS Al.d_le Al.c_n) qI) rI (λa=>a.1=[]) mkPl0.fv
def mkPl0.q:=Bd (R:=mkPl0.row) rfl
def mkPl0.ok:AL 56 mkPl0.row:=by
 refine vw tN Tryz.func56 ?_;intro a z;simp only[Tryz.f56,Option.getD];simp(maxSteps:=9^9)(disch:=omega)only[ZZ,simprocAttr,Ab,mkPl0.fv];obtain⟨l,k⟩:=a;simp only at z⊢;subst z;refine Ba.old ⟨Unit,λ_=>⟨[(5,.im (.int .i64 0)),(4,.im (.int .i64 0)),(1,.im (.int .i64 k)),(0,.im (.sl false 3 []))],[],0⟩,λ_=>0,λ_=>⟨by simp[ZG],by simp⟩,⟨(),by simp(maxSteps:=9^9)(disch:=omega)only[ZZ,simprocAttr,Ab,mkPl0.fv,sub,BF]⟩,λ_=> ?_⟩;simp(maxSteps:=9^9)(disch:=omega)only[ZZ,simprocAttr,Ab,mkPl0.fv,sub,BF]
 try simp
def mkTS0.fv(a:Ap×Int):Int:=(λ_ k=>k) (a.1) (a.2)
def mkTS0.row:AF:=vK (b2 (qR Ap.d_le) qI) rI (λa=>a.1.Glues=[]/\a.1.Tiles=[]) mkTS0.fv
def mkTS0.q:=Bd (R:=mkTS0.row) rfl
def mkTS0.ok:AL 24 mkTS0.row:=by
 refine vw (tC mkG0.ok (tC mkL0.ok tN)) Tryz.func24 ?_;intro a z;simp only[Tryz.f24,Option.getD];simp(maxSteps:=9^9)(disch:=omega)only[ZZ,simprocAttr,Ab,mkTS0.fv,mkG0.q,mkG0.fv,mkL0.q,mkL0.fv];exact z
def mkA0.fv(a:AB×Int):Int:=(λ_ k=>k) (a.1) (a.2)
def mkA0.row:AF:=vK (b2 (qR AB.d_le) qI) rI (λa=>a.1.Tiles=[]) mkA0.fv
def mkA0.q:=Bd (R:=mkA0.row) rfl
def mkA0.ok:AL 25 mkA0.row:=by
 refine vw (tC mkPl0.ok tN) Tryz.func25 ?_;intro a z;simp only[Tryz.f25,Option.getD];simp(maxSteps:=9^9)(disch:=omega)only[ZZ,simprocAttr,Ab,mkA0.fv,mkPl0.q,mkPl0.fv];exact z
def mkSy0.fv(a:A9×Int):Int:=(λ_ k=>k) (a.1) (a.2)
def mkSy0.row:AF:=vK (b2 (qR A9.d_le) qI) rI (λa=>(a.1.Set.Glues=[]/\a.1.Set.Tiles=[])/\a.1.Seed.Tiles=[]) mkSy0.fv
def mkSy0.q:=Bd (R:=mkSy0.row) rfl
def mkSy0.ok:AL 10 mkSy0.row:=by
 refine vw (tC mkTS0.ok (tC mkA0.ok tN)) Tryz.func10 ?_;intro a z;simp only[Tryz.f10,Option.getD];simp(maxSteps:=9^9)(disch:=omega)only[ZZ,simprocAttr,Ab,mkSy0.fv,mkTS0.q,mkTS0.fv,mkA0.q,mkA0.fv];exact z
def eqSimF.fv(a:Bt×Bt):Bool:=(λa b=>decide (a=b)) (a.1) (a.2)
def eqSimF.row:AF:=CH (b2 (qR Bt.d_le) (qR Bt.d_le)) rB (λa=>True) eqSimF.fv
def eqSimF.ok:AL 8 eqSimF.row:=by
 refine FR (tC eqSystemF.ok (tC eqInt64SF.ok tN)) Tryz.func8 ?_;intro a O;simp only[Tryz.f8,Option.getD];simp only[ZZ,simprocAttr,Ab,eqSimF.fv,eqSystemF.q,eqSystemF.fv,eqInt64SF.q,eqInt64SF.fv,BX,D.sc,D.scs,BM,AT];obtain⟨⟨⟨⟨x,x1⟩,⟨y⟩,u⟩,⟨⟨x2,x3⟩,⟨y1⟩,Q⟩,n,m⟩,⟨⟨⟨z,z1⟩,⟨w⟩,v⟩,⟨⟨z2,z3⟩,⟨w2⟩,Z⟩,p,q⟩⟩:=a;simp only[Bt.mk.injEq,A9.mk.injEq,Ap.mk.injEq,AB.mk.injEq]
 grind
structure OB(m:Bt):Prop where
 a:ER m.Big
 b:ER m.Small
 l:m.Labels.length<=1048576
def cL(b n:Nat)(nm:Nat->ByteArray):List (List AV):=(List.range n).map λj=>[.im (.str (nm j)),.own (b+j)]
def EE(o:Nat)(G:List Ad)(P:List Al)(n:Nat)(nm:Nat->ByteArray)(f:Nat->Am):An:=(o+7,(true,.arr 128 2 (G.map Ad.c)))::(o+9,(true,.arrA 126 2 (cL (o+10) n nm)))::(o+2000012,(true,.arr 119 3 (P.map Al.c)))::A8 (o+10) n f
structure KP(h:Nat->Option Am)(o:Nat)(G:List Ad)(P:List Al)(n:Nat)(nm:Nat->ByteArray)(f:Nat->Am):Prop where
 g:h (o+7)=some (true,.arr 128 2 (G.map Ad.c))
 t:h (o+9)=some (true,.arrA 126 2 (cL (o+10) n nm))
 p:h (o+2000012)=some (true,.arr 119 3 (P.map Al.c))
 f: ∀i,i<n->h (o+10+i)=some (f i)
def Cn(o n j:Nat):Prop:=j=o+7\/j=o+9\/j=o+2000012\/(o+10<=j/\j<o+10+n)
section
variable {o n:Nat}{G:List Ad}{P:List Al}{nm:Nat->ByteArray}{f:Nat->Am}
def Ou(hn:n<=1048576)(j:Nat):Aj (EE o G P n nm f) j=true↔Cn o n j:=by
 simp only[Aj,EE,hget,fT,Cn];by_cases z:j=o+7
 .subst z;simp
 by_cases O:j=o+9
 .subst O;rw[Ar _ _ (show o+7≠o+9 by omega)];simp
 by_cases Q:j=o+2000012
 .subst Q;rw[Ar _ _ (show o+7≠o+2000012 by omega),Ar _ _ (show o+9≠o+2000012 by omega)];simp
 rw[Ar _ _ (λh=>z h.symm),Ar _ _ (λh=>O h.symm),Ar _ _ (λh=>Q h.symm)];simp only[Bk];split
 .rename_i h;simp;omega
 .rename_i h;simp;omega
def WP(hf: ∀i,(f i).2.nms=[]){p:Nat×Am}(hp:p∈EE o G P n nm f):Cn o n p.1/\ ∀m∈p.2.2.nms,Cn o n m:=by
 simp only[EE,Br,A8,Bl,Bc] at hp;rcases hp with rfl|rfl|rfl|⟨i,Z,rfl⟩
 .exact⟨.inl rfl,by simp[Ac.nms]⟩
 .refine⟨.inr (.inl rfl),λm z=> ?_⟩;simp only[Ac.nms] at z;obtain⟨r,Q,z⟩:=Ek.1 z;obtain⟨j,O,rfl⟩:=Bl.1 Q
  have:=Bc.1 O
  simp[Au,AV.nms] at z;exact .inr (.inr (.inr ⟨by omega,by omega⟩))
 .exact⟨.inr (.inr (.inl rfl)),by simp[Ac.nms]⟩
 .exact⟨.inr (.inr (.inr ⟨by simp only;omega,by simp only;omega⟩)),λm z=>by rw[hf] at z;cases z⟩
def YZ{h:Nat->Option Am}{kx:Nat->Option Nat}{m b:Nat}(O: ∀i,i<n->kx (b+i)=some (b+i)):Ax (Ax (Bf h kx (m+1))) (cL b n nm)=some (cL b n nm):=by
 refine R8 _ λi z=> ?_
 have z:=Bc.1 z;simp only[Ax,Bf,O i z,kp]
def pX{h:Nat->Option Am}{kx:Nat->Option Nat}{m:Nat}(z:KP h o G P n nm f)(hf: ∀i,BZ (Bf h kx (m+1)) (f i).2=some (f i).2)(O: ∀i,i<n->kx (o+10+i)=some (o+10+i)):Er h (Bf h kx (m+1)) (EE o G P n nm f):=by
 simp only[EE,Er];refine⟨?_,?_,?_,G1 _ _ _ _ _ z.f (λi _=>hf i)⟩
 .rw[z.g];exact⟨rfl,rfl⟩
 .rw[z.t];exact⟨rfl,by simp only[BZ];rw[YZ O];rfl⟩
 .rw[z.p];exact⟨rfl,rfl⟩
def KP.mono{h h':Nat->Option Am}(hs:KP h o G P n nm f)(z: ∀m,Cn o n m->h' m=h m):KP h' o G P n nm f:=
 ⟨by rw[z _ (.inl rfl)];exact hs.g,by rw[z _ (.inr (.inl rfl))];exact hs.t,by rw[z _ (.inr (.inr (.inl rfl)))];exact hs.p,λi O=>by rw[z _ (.inr (.inr (.inr ⟨by omega,by omega⟩)))];exact hs.f i O⟩
def WR{h:Nat->Option Am}(hn:n<=1048576)(z: ∀j,Cn o n j->h j=hget (EE o G P n nm f) j):KP h o G P n nm f:=by
 refine⟨by rw[z _ (.inl rfl)];simp[EE,hget],by rw[z _ (.inr (.inl rfl))];simp only[EE,hget,Ar _ _ (show o+7≠o+9 by omega)];simp,by rw[z _ (.inr (.inr (.inl rfl)))];simp only[EE,hget,Ar _ _ (show o+7≠o+2000012 by omega),Ar _ _ (show o+9≠o+2000012 by omega)];simp,λi O=> ?_⟩;rw[z _ (.inr (.inr (.inr ⟨by omega,by omega⟩)))];simp only[EE,hget,Ar _ _ (show o+7≠o+10+i by omega),Ar _ _ (show o+9≠o+10+i by omega),Ar _ _ (show o+2000012≠o+10+i by omega),Bk];exact Dp _ _ _ _ O
end
def pV{N:Nat}: ∀{H:An},(∀p∈H,p.1<N)->B6 N H=true
 |[],_=>rfl
 |(j,e)::r,h=>by
  simp only[B6,AY,Ei];exact⟨h _ (BU ..),pV λp hp=>h p (BQ _ hp)⟩
def cQ(a:List Tile)(j:Nat):ByteArray:=(a[j]?.map Tile.Name).getD ByteArray.empty
def nP(h:Nat->Option Am)(o:Nat)(s:A9):Prop:=KP h o s.Set.Glues s.Seed.Tiles (nT s.Set.Tiles) (cQ s.Set.Tiles) (Bv s.Set.Tiles)
def kK(h:Nat->Option Am)(o:Nat)(s:A9)(k:Int):Prop:=KP h o (Eg (gF k) s.Set.Glues.length) (Eg (pF (syK (s,k))) s.Seed.Tiles.length) (nT s.Set.Tiles) (λj=>Eb (DF s.Set.Tiles (CB (s.Set,k)) j)) (E3 s.Set.Tiles (CB (s.Set,k)) (nT s.Set.Tiles))
def L8(o:Nat)(s:A9):An:=EE o s.Set.Glues s.Seed.Tiles (nT s.Set.Tiles) (cQ s.Set.Tiles) (Bv s.Set.Tiles)
def Zy(o:Nat)(s:A9)(k:Int):An:=EE o (Eg (gF k) s.Set.Glues.length) (Eg (pF (syK (s,k))) s.Seed.Tiles.length) (nT s.Set.Tiles) (λj=>Eb (DF s.Set.Tiles (CB (s.Set,k)) j)) (E3 s.Set.Tiles (CB (s.Set,k)) (nT s.Set.Tiles))
def pU{N nx:Nat}{tm:List (Nat×AV)}{h:An}{dst:Option Nat}{go:Az->Prop}{s:A9}{k:Int}(hp:mkSy.pre (s,k))(Z:nP (hget h) N s)(ac:N+2000013<=nx)
 (ab: ∀O:An,kK (hget O) N s k->(∀m,¬Cn N (nT s.Set.Tiles) m->hget O m=hget h m)->go ((⟨tm,O,nx⟩:Az).put dst (.im (.int .i64 (syK (s,k)+3*s.Seed.Tiles.length))))):
 mkSy.row [.agg [.own (N+7),.own (N+9),.own (N+2000012),.im (.int .i64 s.Temperature)],.im (.int .i64 k)] (hget h) nx (D6 go ⟨tm,h,nx⟩ dst):=by
 have hn:=CW s.Set.Tiles;obtain⟨τ,hτ⟩: ∃τ:Nat->Nat,τ=λj=>if j=2000000 then N+2000012 else if j=0 then N+7 else N+8+j:=⟨_,rfl⟩
 have t0:τ 0=N+7:=by rw[hτ];rfl
 have t1:τ 1=N+9:=by rw[hτ];rfl
 have t2: ∀j,j<1048576->τ (2+j)=N+10+j:=λj z=>by rw[hτ];simp only;rw[Af (by omega),Af (by omega)];omega
 have tp:τ 2000000=N+2000012:=by rw[hτ];exact Ai rfl
 have hσ: ∀j,j<2000001->Bw τ 2000001 nx j=τ j:=λj z=>Ai z
 have d0: ∀j,Aj (mkSy.H0 (s,k)) j=true->j=2000000\/j<2+nT s.Set.Tiles:=λj z=>(mkSy.dom0 _ _).1 z
 have tv: ∀j,(j=2000000/\τ j=N+2000012)\/(j=0/\τ j=N+7)\/(j≠2000000/\j≠0/\τ j=N+8+j):=λj=>by
  rw[hτ];simp only;split
  .exact .inl ⟨by assumption,rfl⟩
  split
  .exact .inr (.inl ⟨by assumption,rfl⟩)
  .exact .inr (.inr ⟨by assumption,by assumption,rfl⟩)
 have rg: ∀j,Aj (mkSy.H0 (s,k)) j=true->Cn N (nT s.Set.Tiles) (τ j):=λj z=>by
  have h1:=d0 j z;have h2:=tv j;simp only[Cn];omega
 have rows: ∀(i:Nat) (nm:Nat->ByteArray),(∀j,j<nT s.Set.Tiles->Fx s.Set.Tiles (CB (s.Set,k)) i j=[.im (.str (nm j)),.own (2+j)])->(CV s.Set.Tiles (CB (s.Set,k)) i).map (AI (Bw τ 2000001 nx))=cL (N+10) (nT s.Set.Tiles) nm:=λi nm hnm=>by
  simp only[CV,cL,Hu];refine Gb λj z=> ?_
  have z:=Bc.1 z;simp only[Function.comp,hnm j z,AI,AV.ren];rw[hσ _ (by omega),t2 j (by omega)]
 refine AD.tau (s,k) τ hp (λ_ _=>rfl) (λj z=> ?_) (λi j Q z h=> ?_) (mkSy.hcl _) ⟨?_,?_⟩ (by simp[mkSy.r0,AV.nms]) (λO hH1 aa=> ?_)
 .have h1:=d0 j z;have h2:=rg j z;simp only[Cn] at h2;omega
 .have h1:=d0 i Q;have h2:=d0 j z;have v1:=tv i;have v2:=tv j;omega
 .simp only[mkSy.ca,AI,AV.ren,hσ 0 (by omega),hσ 1 (by omega),hσ 2000000 (by omega),t0,t1,tp]
 .simp only[mkSy.H0,mkTS.H0,HA,Db,hσ 0 (by omega),hσ 1 (by omega),hσ 2000000 (by omega),t0,t1,tp,Ac.ren];refine⟨Z.p,Z.g,?_,IZ λi Q=> ?_⟩
  .rw[Z.t,rows 0 (cQ s.Set.Tiles) λj _=>rfl]
  .rw[hσ _ (by omega),t2 i (by omega),Z.f i Q];rfl
 refine ab O ⟨?_,?_,?_,λi Q=> ?_⟩ λm hm=>aa m λj z e=>hm (e▸rg j z)
 .have:=hH1 0 _ rfl
  rwa [t0] at this
 .have:=hH1 1 _ rfl
  rw[t1] at this;rw[this];simp only[Ac.ren];rw[rows _ (λj=>Eb (DF s.Set.Tiles (CB (s.Set,k)) j)) λj z=>Ai z]
 .have:=hH1 2000000 _ rfl
  rwa [tp] at this
 .have e:hget (mkSy.H1 (s,k)) (2+i)=some (E3 s.Set.Tiles (CB (s.Set,k)) (nT s.Set.Tiles) i):=by
   simp only[mkSy.H1,hget,Ar _ _ (show 2000000≠2+i by omega),Bk];exact dQ i Q
  have:=hH1 _ _ e
  rw[t2 i (by omega)] at this;rw[this];rfl
def ER.sk{s:A9}(h:ER s){k:Int}(z:0<=k)(O:k<=1073741824):mkSy.pre (s,k)/\0<=Go.Ae.syK (s,k)/\Go.Ae.syK (s,k)+3*s.Seed.Tiles.length<=k+8388608:=by
 have e:Go.Ae.syK (s,k)=k+2*s.Set.Glues.length+s.Set.Tiles.length+DG s.Set.Tiles:=by simp only[Go.Ae.syK,Ro,CB]
 have:=h.g;have:=h.t;have:=h.d;have:=h.p
 refine⟨⟨z,h.t,?_⟩,?_,?_⟩<;>simp only[e]<;>omega
def Kq(a:Bt×Int):Int:=syK (a.1.Big,a.2)+3*a.1.Big.Seed.Tiles.length
def L3(a:Bt×Int):Int:=syK (a.1.Small,Kq a)+3*a.1.Small.Seed.Tiles.length
def BL.ca(a:Bt×Int):List AV:=[.agg [.own 7,.own 9,.own 2000012,.im (.int .i64 a.1.Big.Temperature),.own 2000020,.own 2000022,.own 4000025,.im (.int .i64 a.1.Small.Temperature),.im (.int .i64 a.1.Scale),.own 4000027],.im (.int .i64 a.2)]
def BL.H0(a:Bt×Int):An:=(4000027,(true,.arr 2 1 (a.1.Labels.map Ak)))::(L8 0 a.1.Big++L8 2000013 a.1.Small)
def BL.H1(a:Bt×Int):An:=(4000027,(true,.arr 2 1 ((Gi (L3 a) a.1.Labels.length).map Ak)))::(Zy 0 a.1.Big a.2++Zy 2000013 a.1.Small (Kq a))
def BL.pre(a:Bt×Int):Prop:=OB a.1/\0<=a.2/\a.2<=1048576
def BL.r0(a:Bt×Int):AV:= .im (.int .i64 (L3 a+a.1.Labels.length))
def BL.row:AF:=AD BL.ca BL.H0 4000028 BL.pre (λ_=>true) BL.r0 BL.H1 0
def GZ(a:Bt×Int)(j:Nat):Prop:=j=4000027\/Cn 0 (nT a.1.Big.Set.Tiles) j\/Cn 2000013 (nT a.1.Small.Set.Tiles) j
def BL.dom0(a:Bt×Int)(j:Nat):Aj (BL.H0 a) j=true↔GZ a j:=by
 have z:=Ou (o:=0) (G:=a.1.Big.Set.Glues) (P:=a.1.Big.Seed.Tiles) (nm:=cQ a.1.Big.Set.Tiles) (f:=Bv a.1.Big.Set.Tiles) (CW a.1.Big.Set.Tiles) j;have O:=Ou (o:=2000013) (G:=a.1.Small.Set.Glues) (P:=a.1.Small.Seed.Tiles) (nm:=cQ a.1.Small.Set.Tiles) (f:=Bv a.1.Small.Set.Tiles) (CW a.1.Small.Set.Tiles) j;simp only[GZ,<-z,<-O,Aj,BL.H0,hget,Jm,L8];by_cases h:j=4000027
 .subst h;simp
 .rw[Ar _ _ (λq=>h q.symm)];simp[h]
def BL.in0(a:Bt×Int): ∀p∈BL.H0 a,GZ a p.1/\ ∀m∈p.2.2.nms,GZ a m:=by
 intro p hp;rcases Br.1 hp with rfl|hp
 .exact⟨.inl rfl,by simp[Ac.nms]⟩
 rcases B7.1 hp with hp|hp
 .obtain⟨z,O⟩:=WP (λi=>rfl) hp;exact⟨.inr (.inl z),λm Q=> .inr (.inl (O m Q))⟩
 .obtain⟨z,O⟩:=WP (λi=>rfl) hp;exact⟨.inr (.inr z),λm Q=> .inr (.inr (O m Q))⟩
def BL.hcl(a:Bt×Int): ∀p∈BL.H1 a,Aj (BL.H0 a) p.1=true/\ ∀m∈p.2.2.nms,Aj (BL.H0 a) m=true:=by
 intro p hp;simp only[BL.dom0];rcases Br.1 hp with rfl|hp
 .exact⟨.inl rfl,by simp[Ac.nms]⟩
 rcases B7.1 hp with hp|hp
 .obtain⟨z,O⟩:=WP (λi=>rfl) hp;exact⟨.inr (.inl z),λm Q=> .inr (.inl (O m Q))⟩
 .obtain⟨z,O⟩:=WP (λi=>rfl) hp;exact⟨.inr (.inr z),λm Q=> .inr (.inr (O m Q))⟩
def WQ{a:Bt×Int}{j:Nat}(h:GZ a j):j<4000028:=by
 have:=CW a.1.Big.Set.Tiles
 have:=CW a.1.Small.Set.Tiles
 simp only[GZ,Cn] at h;omega
def BL.hbel(a:Bt×Int):AA 4000028 (BL.ca a)=true:=by simp[BL.ca,AA,AV.bel]
def BL.hbH(a:Bt×Int):Aw 4000028 (BL.H0 a)=true:=cZ _ λp hp m z=>WQ ((BL.in0 a p hp).2 m z)
def BL.hkH(a:Bt×Int):B6 4000028 (BL.H0 a)=true:=pV λp hp=>WQ (BL.in0 a p hp).1
def BL.hnm(a:Bt×Int):BT (BL.H0 a) (BL.H0 a):=WG λp hp m z=>(BL.dom0 _ _).2 ((BL.in0 a p hp).2 m z)
def BL.at0(a:Bt×Int):nP (hget (BL.H0 a)) 0 a.1.Big/\nP (hget (BL.H0 a)) 2000013 a.1.Small/\hget (BL.H0 a) 4000027=some (true,.arr 2 1 (a.1.Labels.map Ak)):=by
 have Q:=CW a.1.Big.Set.Tiles;have l2:=CW a.1.Small.Set.Tiles;refine⟨WR Q λj O=> ?_,WR l2 λj O=> ?_,rfl⟩
 .have z:=(Ou (o:=0) (G:=a.1.Big.Set.Glues) (P:=a.1.Big.Seed.Tiles) (nm:=cQ a.1.Big.Set.Tiles) (f:=Bv a.1.Big.Set.Tiles) Q j).2 O;simp only[Cn] at O;simp only[BL.H0,hget,Ar _ _ (show 4000027≠j by omega),Bk,Jm,L8];simp only[Aj,Zdh] at z;obtain⟨e,Z⟩:=z;rw[Z];rfl
 .have z:=Ou (o:=0) (G:=a.1.Big.Set.Glues) (P:=a.1.Big.Seed.Tiles) (nm:=cQ a.1.Big.Set.Tiles) (f:=Bv a.1.Big.Set.Tiles) Q j;simp only[Cn] at O z;simp only[BL.H0,hget,Ar _ _ (show 4000027≠j by omega),Bk,Jm,L8]
  have:hget (EE 0 a.1.Big.Set.Glues a.1.Big.Seed.Tiles (nT a.1.Big.Set.Tiles) (cQ a.1.Big.Set.Tiles) (Bv a.1.Big.Set.Tiles)) j=none:=by
   rw[<-Zef];intro h
   have:=z.1 h
   omega
  rw[this];rfl
def BL.ok:AL 11 BL.row:=by
 refine ow (tC mkSy.ok (tC mkIC.ok tN)) Tryz.func11 (exB:=λ_=>false) (R:=λa r=>r=BL.r0 a) (λ_=>rfl)
  (λa=>⟨BL.hbel a,BL.hbH a,BL.hkH a,BL.hnm a⟩) (λa p hp=> ?_) (λa r h=>by subst h;exact CN.refl _) ?_
 rotate_left
 intro a Z;simp only[Tryz.f11,Option.getD,BL.ca];simp only[ZZ,simprocAttr,Ab,Aq,BL.ca];obtain⟨S,k⟩:=a;obtain⟨hB,h2,h3⟩:=Z;simp only at hB h2 h3;obtain⟨A0,B0,I0⟩:=BL.at0 (S,k);obtain⟨p1,p2,p3⟩:=hB.a.sk h2 (by omega);have q1:Kq (S,k)=syK (S.Big,k)+3*S.Big.Seed.Tiles.length:=rfl;obtain⟨p4,p5,p6⟩:=hB.b.sk (k:=Kq (S,k)) (by omega) (by omega);have q2:L3 (S,k)=syK (S.Small,Kq (S,k))+3*S.Small.Seed.Tiles.length:=rfl;have l1:=CW S.Big.Set.Tiles;have l2:=CW S.Small.Set.Tiles;simp only[Bp];have dm:=λj=>(BL.dom0 (S,k) j).2
 generalize BL.H0 (S,k)=H at A0 B0 I0 dm⊢;generalize hG:((4000028,(true,Ac.cells 43 _))::_:An)=H';have gt: ∀m,m≠4000028->hget H' m=hget H m:=λm z=>by rw[<-hG];simp only[hget,Ar _ _ (λh=>z h.symm),Bk]
 have A1:nP (hget H') 0 S.Big:=A0.mono λm z=>gt m (by simp only[Cn] at z;omega)
 have B1:nP (hget H') 2000013 S.Small:=B0.mono λm z=>gt m (by simp only[Cn] at z;omega)
 have I1:=(gt 4000027 (by decide)).trans I0;have c1:hget H' 4000028=some (true,.cells 43 [.own 7,.own 9,.own 2000012,.im (.int .i64 S.Big.Temperature),.own 2000020,.own 2000022,.own 4000025,.im (.int .i64 S.Small.Temperature),.im (.int .i64 S.Scale),.own 4000027]):=by rw[<-hG];rfl
 clear gt A0 B0 I0 hG;refine pU (N:=0) p1 A1 (by omega) λH2 Z2 O=> ?_
 have B2:nP (hget H2) 2000013 S.Small:=B1.mono λm z=>O m (by simp only[Cn] at z⊢;omega)
 have I2:=(O 4000027 (by simp only[Cn];omega)).trans I1;have c2:=(O 4000028 (by simp only[Cn];omega)).trans c1;clear O A1 B1 I1 c1;simp only[<-q1];simp only[ZZ,simprocAttr,Ab,Aq,BL.ca,sub,Bp,c2];refine pU (N:=2000013) p4 B2 (by omega) λH3 Z3 Q=> ?_
 have Z4:kK (hget H3) 0 S.Big k:=Z2.mono λm z=>Q m (by simp only[Cn] at z⊢;omega)
 have I3:=(Q 4000027 (by simp only[Cn];omega)).trans I2;have c3:=(Q 4000028 (by simp only[Cn];omega)).trans c2;clear Q B2 I2 c2 Z2;simp only[<-q2];simp only[ZZ,simprocAttr,Ab,Aq,BL.ca,sub,Bp,c3];refine Pw (l:=S.Labels) (by omega) (by have:=hB.l;omega) I3 (by omega) λH4 hj hk=> ?_
 have Z5:kK (hget H4) 0 S.Big k:=Z4.mono λm z=>hk m (by simp only[Cn] at z;omega)
 have Z6:kK (hget H4) 2000013 S.Small (Kq (S,k)):=Z3.mono λm z=>hk m (by simp only[Cn] at z;omega)
 have I4:hget H4 4000027=some (true,.arr 2 1 ((Gi (L3 (S,k)) S.Labels.length).map Ak)):=hj 0 _ rfl;clear hj hk Z3 Z4 I3 c3;simp only[ZZ,simprocAttr,Ab,Aq,BL.ca,sub,Bp];refine⟨WE _ _,rfl,?_⟩;simp only[BL.H1,Er];exact⟨by rw[I4];exact⟨rfl,rfl⟩,(Quc ..).2 ⟨pX Z5 (λi=>rfl) λi hi=>WL (dm _ (.inr (.inl (.inr (.inr (.inr ⟨by omega,by simp only;omega⟩)))))),pX Z6 (λi=>rfl) λi hi=>WL (dm _ (.inr (.inr (.inr (.inr (.inr ⟨by omega,by simp only;omega⟩))))))⟩⟩;obtain⟨q1,_⟩:=BL.hcl _ p hp
 have:=WQ ((BL.dom0 _ _).1 q1)
 exact .inl ⟨by omega,rfl,q1⟩
structure Jn(h:Nat->Option Am)(N:Nat)(m:Bt):Prop where
 a:Ci h (N+7) (N+9) (N+2000012) (N+10) m.Big
 b:Ci h (N+2000020) (N+2000022) (N+4000025) (N+2000023) m.Small
 l:h (N+4000027)=some (true,.arr 2 1 (m.Labels.map Ak))
def kC(N:Nat)(m:Bt):List AV:=[.own (N+7),.own (N+9),.own (N+2000012),.im (.int .i64 m.Big.Temperature),.own (N+2000020),.own (N+2000022),.own (N+4000025),.im (.int .i64 m.Small.Temperature),.im (.int .i64 m.Scale),.own (N+4000027)]
def Jn.mono{h h':Nat->Option Am}{N:Nat}{m:Bt}(O:OB m)(hs:Jn h N m)(z: ∀j,N+7<=j->j<N+4000028->h' j=h j):Jn h' N m:=by
 have Z:=O.a.t;have h2:=O.b.t;exact⟨hs.a.mono λj Q=>z j (by omega) (by omega),hs.b.mono λj Q=>z j (by omega) (by omega),by rw[z _ (by omega) (by omega)];exact hs.l⟩
def Jn.pk{h:Nat->Option Am}{N:Nat}{m:Bt}(hs:Jn h N m):DE h (.agg (kC N m))=some (.val (.agg (Bt.c m))):=by
 have:bk h (6+3) (.agg (kC N m))=some (.agg (Bt.c m)):=by
  simp only[kC,bk,Ax,hs.a.g,hs.a.t,hs.a.p,hs.b.g,hs.b.t,hs.b.p,hs.l,KM,Rh hs.a.f,Rh hs.b.f,Dh,Bt.c]
 simp only[DE,this,DR,Dh]
def qZ{s:A9}{k:Int}(h:0<=k):Dl s k<=k+2*s.Set.Glues.length+Du s.Set.Tiles+3*s.Seed.Tiles.length:=by
 have hn:=K6 s.Set.Tiles;have z:=rD (s:=s.Set) h;simp only[Dl];split
 .omega
 .split
  .omega
  .rcases rC s.Seed.Tiles (FW s.Set k) with e|e<;>omega
def IE(s:A9):Int:=2*s.Set.Glues.length+Du s.Set.Tiles+3*s.Seed.Tiles.length
def ND(s:A9):0<=IE s:=by have:=K6 s.Set.Tiles;simp only[IE];omega
def M2(m:Bt)(k:Int):Int:=if Dl m.Big k<0 then -1 else if Dl m.Small (Dl m.Big k)<0 then -1 else if El m.Labels (Dl m.Small (Dl m.Big k))<0 then -1 else El m.Labels (Dl m.Small (Dl m.Big k))
def heldM_.fv(a:Bt×Int):Int:=(M2) (a.1) (a.2)
def heldM_.row:AF:=CH (b2 (qR Bt.d_le) qI) rI (λa=>0<=a.2/\a.2+IE a.1.Big+IE a.1.Small+a.1.Labels.length<=1099511627776) heldM_.fv
def heldM_.ok:AL 12 heldM_.row:=by
 refine FR (tC heldSys_.ok (tC heldIS.ok tN)) Tryz.func12 ?_;intro a z;simp only[Tryz.f12,Option.getD];simp(maxSteps:=9^9)(disch:=omega)only[ZZ,simprocAttr,Ab,heldM_.fv,heldSys_.q,heldSys_.fv,heldIS.q,heldIS.fv,BX,D.sc,D.scs,BM,AT];obtain⟨m,k⟩:=a;obtain⟨Z,h2⟩:=z;simp only at Z h2⊢;have n1:=ND m.Big;have n2:=ND m.Small;have l1:=qZ (s:=m.Big) Z;have e1:IE m.Big=2*m.Big.Set.Glues.length+Du m.Big.Set.Tiles+3*m.Big.Seed.Tiles.length:=rfl;have e2:IE m.Small=2*m.Small.Set.Glues.length+Du m.Small.Set.Tiles+3*m.Small.Seed.Tiles.length:=rfl;simp only[M2];refine⟨⟨Z,by omega⟩,?_⟩;by_cases c:Dl m.Big k<0
 .rw[Ai c,Ai c]
 .have l2:=qZ (s:=m.Small) (k:=Dl m.Big k) (by omega);rw[Af c,Af c];refine⟨⟨by omega,by omega⟩,?_⟩;by_cases O:Dl m.Small (Dl m.Big k)<0
  .rw[Ai O,Ai O]
  .rw[Af O,Af O];refine⟨⟨by omega,by omega⟩,?_⟩;by_cases Q:El m.Labels (Dl m.Small (Dl m.Big k))<0
   .rw[Ai Q,Ai Q]
   .rw[Af Q,Af Q]
def IR(m:Bt)(k:Int):Bt:=⟨Lm m.Big k,Lm m.Small (Kq (m,k)),m.Scale,Gi (L3 (m,k)) m.Labels.length⟩
def Te{m:Bt}(z:OB m){k:Int}(h:0<=k)(h2:k<=1048576):M2 (IR m k) k=L3 (m,k)+m.Labels.length:=by
 obtain⟨p1,p2,p3⟩:=z.a.sk h (by omega);have q1:Kq (m,k)=syK (m.Big,k)+3*m.Big.Seed.Tiles.length:=rfl;obtain⟨p4,p5,p6⟩:=z.b.sk (k:=Kq (m,k)) (by omega) (by omega);have q2:L3 (m,k)=syK (m.Small,Kq (m,k))+3*m.Small.Seed.Tiles.length:=rfl;have O:Dl (IR m k).Big k=Kq (m,k):=(qL m.Big h).trans q1.symm;have Q:Dl (IR m k).Small (Kq (m,k))=L3 (m,k):=(qL m.Small (by omega)).trans q2.symm;have Z:El (IR m k).Labels (L3 (m,k))=L3 (m,k)+m.Labels.length:=pR _ _;simp only[M2,O,Q,Z];rw[Af (by omega),Af (by omega),Af (by omega)]
def MM{m:Bt}(z:OB m):(0:Int)<=1/\(1:Int)+IE (IR m 1).Big+IE (IR m 1).Small+(IR m 1).Labels.length<=1099511627776:=by
 have:=z.a.g;have:=z.a.t;have:=z.a.d;have:=z.a.p
 have:=z.b.g;have:=z.b.t;have:=z.b.d;have:=z.b.p
 have:=z.l
 simp only[IR,IE,Lm,dP,MN,Oq];omega
structure EQ(h:Nat->Option Am)(g t p f g2 t2 p2 f2 l:Nat)(m:Bt):Prop where
 a:Ci h g t p f m.Big
 b:Ci h g2 t2 p2 f2 m.Small
 l:h l=some (true,.arr 2 1 (m.Labels.map Ak))
abbrev xS(g t p g2 t2 p2 l:Nat)(x y z:Int):AV:= .agg [.own g,.own t,.own p,.im (.int .i64 x),.own g2,.own t2,.own p2,.im (.int .i64 y),.im (.int .i64 z),.own l]
def EQ.pk{h:Nat->Option Am}{g t p f g2 t2 p2 f2 l:Nat}{m:Bt}(hs:EQ h g t p f g2 t2 p2 f2 l m):DE h (xS g t p g2 t2 p2 l m.Big.Temperature m.Small.Temperature m.Scale)=some (.val (.agg (Bt.c m))):=by
 simp only[DE,Go.Ae.bk,Ax,hs.a.g,hs.a.t,hs.a.p,hs.b.g,hs.b.t,hs.b.p,hs.l,KM,Rh hs.a.f,Rh hs.b.f,Dh,DR,Bt.c]
def EQ.mono{h h':Nat->Option Am}{g t p f g2 t2 p2 f2 l:Nat}{m:Bt}(hs:EQ h g t p f g2 t2 p2 f2 l m)(z: ∀q,(q=g\/q=t\/q=p\/(f<=q/\q<f+m.Big.Set.Tiles.length))\/(q=g2\/q=t2\/q=p2\/(f2<=q/\q<f2+m.Small.Set.Tiles.length))\/q=l->h' q=h q):EQ h' g t p f g2 t2 p2 f2 l m:=
 ⟨hs.a.mono λq hq=>z q (.inl hq),hs.b.mono λq hq=>z q (.inr (.inl hq)),by rw[z l (.inr (.inr rfl))];exact hs.l⟩
def qW{h:Nat->Option Am}{σ:Nat->Nat}{o g t p f:Nat}{s:A9}(O:Ci h g t p f s)(ht:s.Set.Tiles.length<=1048576)(e1:σ (o+7)=g)(e2:σ (o+9)=t)(e3:σ (o+2000012)=p)(Z: ∀i,i<s.Set.Tiles.length->σ (o+10+i)=f+i):Db h σ (L8 o s):=by
 have Q:nT s.Set.Tiles=s.Set.Tiles.length:=by simp only[nT];omega
 simp only[L8,EE,Db,Ac.ren,e1,e2,e3,Q];refine⟨O.g,?_,O.p,IZ λi z=> ?_⟩
 .rw[O.t];congr 3;simp only[cL,BK,Hu];refine Gb λi z=> ?_
  have z:=Bc.1 z;simp only[Function.comp,AI,AV.ren];rw[Z i z];rfl
 .rw[Z i z,O.f i z];rfl
def NC{h:Nat->Option Am}{σ τ:Nat->Nat}{H:An}{o g t p f:Nat}{s:A9}{k:Int}(ht:s.Set.Tiles.length<=1048576)(Q: ∀j e,hget H j=some e->h (τ j)=some (e.1,e.2.ren σ))(O:kK (hget H) o s k)(e1:τ (o+7)=g)(e2:τ (o+9)=t)(e3:τ (o+2000012)=p)(e4: ∀i,i<s.Set.Tiles.length->τ (o+10+i)=f+i)(e5: ∀i,i<s.Set.Tiles.length->σ (o+10+i)=f+i):Ci h g t p f (Lm s k):=by
 have aa:nT s.Set.Tiles=s.Set.Tiles.length:=by simp only[nT];omega
 have z:(Lm s k).Set.Tiles.length=s.Set.Tiles.length:=Rp _ _;refine⟨?_,?_,?_,λi hi=> ?_⟩
 .have:=Q _ _ O.g
  rw[e1] at this;exact this
 .have:=Q _ _ O.t
  rw[e2] at this;rw[this];simp only[Ac.ren,cL,BK,z,aa,Hu];congr 3;refine Gb λj Z=> ?_
  have Z:=Bc.1 Z;simp only[Function.comp,AI,AV.ren,e5 j Z,Lm,Rq _ _ _ Z,Dh,AX]
 .have:=Q _ _ O.p
  rw[e3] at this;exact this
 .rw[z] at hi
  have:=Q _ _ (O.f i (by omega))
  rw[e4 i hi] at this;rw[this];simp only[E3,Bv,Lm,Rq _ _ _ hi,Ac.ren,Dh,AX];rw[Ai (by omega)]
def BL.at1(a:Bt×Int):kK (hget (BL.H1 a)) 0 a.1.Big a.2/\kK (hget (BL.H1 a)) 2000013 a.1.Small (Kq a)/\hget (BL.H1 a) 4000027=some (true,.arr 2 1 ((Gi (L3 a) a.1.Labels.length).map Ak)):=by
 have Q:=CW a.1.Big.Set.Tiles;have l2:=CW a.1.Small.Set.Tiles;refine⟨WR Q λj O=> ?_,WR l2 λj O=> ?_,rfl⟩
 .have z:=(Ou (o:=0) (G:=Eg (gF a.2) a.1.Big.Set.Glues.length) (P:=Eg (pF (syK (a.1.Big,a.2))) a.1.Big.Seed.Tiles.length) (nm:=λj=>Eb (DF a.1.Big.Set.Tiles (CB (a.1.Big.Set,a.2)) j)) (f:=E3 a.1.Big.Set.Tiles (CB (a.1.Big.Set,a.2)) (nT a.1.Big.Set.Tiles)) Q j).2 O;simp only[Cn] at O;simp only[BL.H1,hget,Ar _ _ (show 4000027≠j by omega),Bk,Jm,Zy];simp only[Aj,Zdh] at z;obtain⟨e,Z⟩:=z;rw[Z];rfl
 .have z:=Ou (o:=0) (G:=Eg (gF a.2) a.1.Big.Set.Glues.length) (P:=Eg (pF (syK (a.1.Big,a.2))) a.1.Big.Seed.Tiles.length) (nm:=λj=>Eb (DF a.1.Big.Set.Tiles (CB (a.1.Big.Set,a.2)) j)) (f:=E3 a.1.Big.Set.Tiles (CB (a.1.Big.Set,a.2)) (nT a.1.Big.Set.Tiles)) Q j;simp only[Cn] at O z;simp only[BL.H1,hget,Ar _ _ (show 4000027≠j by omega),Bk,Jm,Zy]
  have:hget (EE 0 (Eg (gF a.2) a.1.Big.Set.Glues.length) (Eg (pF (syK (a.1.Big,a.2))) a.1.Big.Seed.Tiles.length) (nT a.1.Big.Set.Tiles) (λj=>Eb (DF a.1.Big.Set.Tiles (CB (a.1.Big.Set,a.2)) j)) (E3 a.1.Big.Set.Tiles (CB (a.1.Big.Set,a.2)) (nT a.1.Big.Set.Tiles))) j=none:=by
   rw[<-Zef];intro h
   have:=z.1 h
   omega
  rw[this];rfl
def Px{g t p f g2 t2 p2 f2 l nx:Nat}{tm:List (Nat×AV)}{h:An}{dst:Option Nat}{go:Az->Prop}{m:Bt}{k:Int}(hB:OB m)(hk:0<=k)(af:k<=1048576)(hS:EQ (hget h) g t p f g2 t2 p2 f2 l m)
 (ah:g<t/\t<p/\p<g2/\g2<t2/\t2<p2/\p2<l/\l<f)(ag:f+m.Big.Set.Tiles.length<=f2)(ai:f2+m.Small.Set.Tiles.length<=nx)
 (aa: ∀HH:An,EQ (hget HH) g t p f g2 t2 p2 f2 l (IR m k)->(∀q,q≠g->q≠t->q≠p->q≠g2->q≠t2->q≠p2->q≠l-> ¬(f<=q/\q<f+m.Big.Set.Tiles.length)-> ¬(f2<=q/\q<f2+m.Small.Set.Tiles.length)->hget HH q=hget h q)->go ((⟨tm,HH,nx⟩:Az).put dst (.im (.int .i64 (L3 (m,k)+m.Labels.length))))):
 BL.row [xS g t p g2 t2 p2 l m.Big.Temperature m.Small.Temperature m.Scale,.im (.int .i64 k)] (hget h) nx (D6 go ⟨tm,h,nx⟩ dst):=by
 have b1:=hB.a.t;have b2:=hB.b.t;have ab:nT m.Big.Set.Tiles=m.Big.Set.Tiles.length:=by simp only[nT];omega
 have ac:nT m.Small.Set.Tiles=m.Small.Set.Tiles.length:=by simp only[nT];omega
 obtain⟨τ,hτ⟩: ∃τ:Nat->Nat,τ=λj=>if j=7 then g else if j=9 then t else if j=2000012 then p else if j=2000020 then g2 else if j=2000022 then t2 else if j=4000025 then p2 else if j=4000027 then l else if j<2000012 then f+(j - 10) else f2+(j - 2000023):=⟨_,rfl⟩
 have Z: ∀j,GZ (m,k) j->(j=7/\τ j=g)\/(j=9/\τ j=t)\/(j=2000012/\τ j=p)\/(j=2000020/\τ j=g2)\/(j=2000022/\τ j=t2)\/(j=4000025/\τ j=p2)\/(j=4000027/\τ j=l)\/((10<=j/\j<10+m.Big.Set.Tiles.length)/\τ j=f+(j - 10))\/((2000023<=j/\j<2000023+m.Small.Set.Tiles.length)/\τ j=f2+(j - 2000023)):=λj z=>by
  simp only[GZ,Cn,ab,ac,FN] at z;rw[hτ];simp only;by_cases c1:j=7
  .rw[Ai c1];exact .inl ⟨c1,rfl⟩
  rw[Af c1];by_cases c2:j=9
  .rw[Ai c2];exact .inr (.inl ⟨c2,rfl⟩)
  rw[Af c2];by_cases c3:j=2000012
  .rw[Ai c3];exact .inr (.inr (.inl ⟨c3,rfl⟩))
  rw[Af c3];by_cases c4:j=2000020
  .rw[Ai c4];exact .inr (.inr (.inr (.inl ⟨c4,rfl⟩)))
  rw[Af c4];by_cases c5:j=2000022
  .rw[Ai c5];exact .inr (.inr (.inr (.inr (.inl ⟨c5,rfl⟩))))
  rw[Af c5];by_cases c6:j=4000025
  .rw[Ai c6];exact .inr (.inr (.inr (.inr (.inr (.inl ⟨c6,rfl⟩)))))
  rw[Af c6];by_cases c7:j=4000027
  .rw[Ai c7];exact .inr (.inr (.inr (.inr (.inr (.inr (.inl ⟨c7,rfl⟩))))))
  rw[Af c7];by_cases c8:j<2000012
  .rw[Ai c8];exact .inr (.inr (.inr (.inr (.inr (.inr (.inr (.inl ⟨by omega,rfl⟩)))))))
  .rw[Af c8];exact .inr (.inr (.inr (.inr (.inr (.inr (.inr (.inr ⟨by omega,rfl⟩)))))))
 have dm: ∀j,Aj (BL.H0 (m,k)) j=true->GZ (m,k) j:=λj z=>(BL.dom0 _ _).1 z
 have hσ: ∀j,j<4000028->Bw τ 4000028 nx j=τ j:=λj z=>Ai z
 have t1:τ (0+7)=g:=by rw[hτ];rfl
 have Q:τ (0+9)=t:=by rw[hτ];rfl
 have t3:τ (0+2000012)=p:=by rw[hτ];rfl
 have t4:τ (2000013+7)=g2:=by rw[hτ];rfl
 have t5:τ (2000013+9)=t2:=by rw[hτ];rfl
 have t6:τ (2000013+2000012)=p2:=by rw[hτ];rfl
 have t7:τ 4000027=l:=by rw[hτ];rfl
 have t8: ∀i,i<m.Big.Set.Tiles.length->τ (0+10+i)=f+i:=λi O=>by
  have:=Z (0+10+i) (by simp only[GZ,Cn];omega)
  omega
 have t9: ∀i,i<m.Small.Set.Tiles.length->τ (2000013+10+i)=f2+i:=λi O=>by
  have:=Z (2000013+10+i) (by simp only[GZ,Cn];omega)
  omega
 refine AD.tau (m,k) τ ⟨hB,hk,af⟩ (λ_ _=>rfl) (λj z=> ?_) (λi j O z h=> ?_) (BL.hcl _) ⟨?_,?_⟩ (by simp[BL.r0,AV.nms]) (λHH hH1 ad=> ?_)
 .have:=WQ (dm j z)
  have:=Z j (dm j z)
  omega
 .have v1:=Z i (dm i O);have v2:=Z j (dm j z);clear aa hS hB;rcases v1 with ⟨a1,b1⟩|⟨a1,b1⟩|⟨a1,b1⟩|⟨a1,b1⟩|⟨a1,b1⟩|⟨a1,b1⟩|⟨a1,b1⟩|⟨a1,b1⟩|⟨a1,b1⟩<;>rcases v2 with ⟨a2,c1⟩|⟨a2,c1⟩|⟨a2,c1⟩|⟨a2,c1⟩|⟨a2,c1⟩|⟨a2,c1⟩|⟨a2,c1⟩|⟨a2,c1⟩|⟨a2,c1⟩<;>rw[b1,c1] at h<;>omega
 .have e1:=hσ 7 (by omega);have e2:=hσ 9 (by omega);have e3:=hσ 2000012 (by omega);have e4:=hσ 2000020 (by omega);have e5:=hσ 2000022 (by omega);have e6:=hσ 4000025 (by omega);have e7:=hσ 4000027 (by omega);simp only[BL.ca,AI,AV.ren,e1,e2,e3,e4,e5,e6,e7];rw[show τ 7=g from t1,show τ 9=t from Q,show τ 2000012=p from t3,show τ 2000020=g2 from t4,show τ 2000022=t2 from t5,show τ 4000025=p2 from t6,t7]
 .simp only[BL.H0,Db];refine⟨by rw[hσ _ (by omega),t7];exact hS.l,(Qwi ..).2 ⟨qW hS.a b1 ?_ ?_ ?_ (λi O=> ?_),qW hS.b b2 ?_ ?_ ?_ (λi O=> ?_)⟩⟩
  .rw[hσ _ (by omega)];exact t1
  .rw[hσ _ (by omega)];exact Q
  .rw[hσ _ (by omega)];exact t3
  .rw[hσ _ (by omega)];exact t8 i O
  .rw[hσ _ (by omega)];exact t4
  .rw[hσ _ (by omega)];exact t5
  .rw[hσ _ (by omega)];exact t6
  .rw[hσ _ (by omega)];exact t9 i O
 obtain⟨z1,z2,z3⟩:=BL.at1 (m,k);refine aa HH ⟨NC b1 hH1 z1 t1 Q t3 t8 (λi O=>by rw[hσ _ (by omega)];exact t8 i O),NC b2 hH1 z2 t4 t5 t6 t9 (λi O=>by rw[hσ _ (by omega)];exact t9 i O),?_⟩ λq q1 q2 q3 q4 q5 q6 q7 q8 q9=>ad q λj z e=> ?_
 .have:=hH1 _ _ z3
  rw[t7] at this;rw[this];rfl
 .have:=Z j (dm j z)
  omega
def mkIe.fv(a:(List Int)×Int):Int:=(λ_ k=>k) (a.1) (a.2)
def mkIe.row:AF:=vK (b2 (qS F3 DU) qI) rI (λa=>a.1=[]) mkIe.fv
def mkIe.q:=Bd (R:=mkIe.row) rfl
def mkIe.ok:AL 26 mkIe.row:=by
 refine vw tN Tryz.func26 ?_;intro a z;simp only[Tryz.f26,Option.getD];simp(maxSteps:=9^9)(disch:=omega)only[ZZ,simprocAttr,Ab,mkIe.fv];obtain⟨l,k⟩:=a;simp only at z⊢;subst z;refine Ba.old ⟨Unit,λ_=>⟨[(5,.im (.int .i64 0)),(4,.im (.int .i64 0)),(1,.im (.int .i64 k)),(0,.im (.sl false 1 []))],[],0⟩,λ_=>0,λ_=>⟨by simp[ZG],by simp⟩,⟨(),by simp(maxSteps:=9^9)(disch:=omega)only[ZZ,simprocAttr,Ab,mkIe.fv,sub,BF]⟩,λ_=> ?_⟩;simp(maxSteps:=9^9)(disch:=omega)only[ZZ,simprocAttr,Ab,mkIe.fv,sub,BF]
 try simp
def mkM0.fv(a:Bt×Int):Int:=(λ_ k=>k) (a.1) (a.2)
def mkM0.row:AF:=vK (b2 (qR Bt.d_le) qI) rI (λa=>((a.1.Big.Set.Glues=[]/\a.1.Big.Set.Tiles=[])/\a.1.Big.Seed.Tiles=[])/\((a.1.Small.Set.Glues=[]/\a.1.Small.Set.Tiles=[])/\a.1.Small.Seed.Tiles=[])/\a.1.Labels=[]) mkM0.fv
def mkM0.ok:AL 11 mkM0.row:=by
 refine vw (tC mkSy0.ok (tC mkIe.ok tN)) Tryz.func11 ?_;intro a z;simp only[Tryz.f11,Option.getD];simp(maxSteps:=9^9)(disch:=omega)only[ZZ,simprocAttr,Ab,mkM0.fv,mkSy0.q,mkSy0.fv,mkIe.q,mkIe.fv];exact z
def mkMR.row:AF:=orR mkM0.row BL.row
def mkMR.ok:AL 11 mkMR.row:=Ug mkM0.ok BL.ok
end Go.Ae
namespace Go.Ae
open Go.Proofs Go.Lib
def Gk(nm:Nat->ByteArray)(G:Nat->Nat)(m:Nat):List (List AV):=(List.range m).map λi=>[.im (.str (nm i)),.own (G i)]
def TS(nm:Nat->ByteArray)(m:Nat)(G:Nat->Nat):Gk nm G (m+1)=Gk nm G m++[[.im (.str (nm m)),.own (G m)]]:=Fg _ _
def TR{nm:Nat->ByteArray}{m:Nat}{G H:Nat->Nat}(h: ∀i,i<m->G i=H i):Gk nm G m=Gk nm H m:=by
 simp only[Gk];exact Gb λi z=>by rw[h i (Bc.1 z)]
def TQ{nm:Nat->ByteArray}{m i:Nat}{G:Nat->Nat}{r:List AV}(h:(Gk nm G m)[i]? =some r):i<m/\r=[.im (.str (nm i)),.own (G i)]:=by
 have z:i<m:=by
  have:=(C6.1 h).1
  simpa[Gk] using this
 rw[Gk,D3,Ga z] at h;exact⟨z,(AJ h).symm⟩
def Xc{nm:Nat->ByteArray}{m N:Nat}{G:Nat->Nat}(h: ∀i,i<m->G i<N):(Gk nm G m).all (AA N)=true:=by
 rw[CR];intro r O;obtain⟨i,z,rfl⟩:=Bl.1 O;simp[AA,AV.bel,h i (Bc.1 z)]
def K9{π:List (Nat×Option Nat)}{nm:Nat->ByteArray}{m F:Nat}{G:Nat->Nat}(h: ∀i,i<m->pm π (F+i)=some (G i)):FF π (Gk nm (λi=>F+i) m) (Gk nm G m):=by
 rw[Wa];refine⟨by simp[Gk],λi Z r2 z O=> ?_⟩;obtain⟨Q,rfl⟩:=TQ z;obtain⟨_,rfl⟩:=TQ O;simp only[Dz,mt,h i Q,EV,QL]
def HS(a:List Tile)(i:Nat):ByteArray:=(a[i]?.map Tile.Name).getD ByteArray.empty
def Rr(a:List Tile)(F:Nat):Gk (HS a) (λi=>F+i) a.length=BK F a:=rfl
def cloJ.ca(a:List Int):List AV:=[.im (.sl false 1 (a.map Ak))]
def cloJ.H1(a:List Int):An:=[(0,(true,.arr 2 1 (a.map Ak)))]
def cloJ.row:AF:=AD cloJ.ca (λ_=>[]) 0 (λa=>a.length<=4194304) (λ_=>false) (λ_=> .own 0) cloJ.H1 20
def cloJ.ok:AL 88 cloJ.row:=by
 refine P6 tN Tryz.func88 (exB:=λj=>j==0) (R:=λ_ r=>r= .own 0) (λ_=>rfl)
  (λa=>by simp[cloJ.ca,cloJ.H1,AA,AV.bel,Aw,B6,BT,Ac.nms,Au,AV.nms,Aj,hget]) (λa p hp=> ?_) (λa r h=>by subst h;exact CN.refl _) ?_
 rotate_left
 intro a z;simp only[Tryz.f88,Option.getD,cloJ.ca,cloJ.H1];simp(maxSteps:=9^9)(disch:=omega)only[ZZ,simprocAttr,Ab,Bs,Aq,cloJ.ca,cloJ.H1];intro b O;split
 .rename_i h;have h0:=O h;refine⟨[],[(0,some 1)],⟨[(2,.own 0)],cloJ.H1 a,1⟩,?_,by simp[cloJ.H1,ZG],by simp,?_⟩
  .simp only[Av,cloJ.H1,h0];simp(maxSteps:=9^9)(disch:=omega)only[ZZ,simprocAttr,Ab,Bs,Aq,cloJ.ca,cloJ.H1,AS,AR]
  .simp(maxSteps:=9^9)(disch:=omega)only[ZZ,simprocAttr,Ab,Bs,Aq,cloJ.ca,cloJ.H1]
 .refine⟨by omega,[],[(0,some 2)],⟨[(2,.own 0)],cloJ.H1 a,1⟩,?_,by simp[cloJ.H1,ZG],by simp,?_⟩
  .simp only[Av,cloJ.H1];simp(maxSteps:=9^9)(disch:=omega)only[ZZ,simprocAttr,Ab,Bs,Aq,cloJ.ca,cloJ.H1,AS,AR]
  .simp(maxSteps:=9^9)(disch:=omega)only[ZZ,simprocAttr,Ab,Bs,Aq,cloJ.ca,cloJ.H1]
 simp[cloJ.H1] at hp;subst hp;exact .inr ⟨by omega,by omega,rfl,rfl⟩
def cloG.ca(a:List Ad):List AV:=[.im (.sl false 2 (a.map Ad.c))]
def cloG.H1(a:List Ad):An:=[(0,(true,.arr 128 2 (a.map Ad.c)))]
def cloG.row:AF:=AD cloG.ca (λ_=>[]) 0 (λa=>a.length<=1000000) (λ_=>false) (λ_=> .own 0) cloG.H1 20
def cloG.ok:AL 87 cloG.row:=by
 refine P6 tN Tryz.func87 (exB:=λj=>j==0) (R:=λ_ r=>r= .own 0) (λ_=>rfl)
  (λa=>by simp[cloG.ca,cloG.H1,AA,AV.bel,Aw,B6,BT,Ac.nms,Au,AV.nms,Aj,hget]) (λa p hp=> ?_) (λa r h=>by subst h;exact CN.refl _) ?_
 rotate_left
 intro a z;simp only[Tryz.f87,Option.getD,cloG.ca,cloG.H1];simp(maxSteps:=9^9)(disch:=omega)only[ZZ,simprocAttr,Ab,Bs,Aq,cloG.ca,cloG.H1];intro b O;split
 .rename_i h;have h0:=O h;refine⟨[],[(0,some 1)],⟨[(2,.own 0)],cloG.H1 a,1⟩,?_,by simp[cloG.H1,ZG],by simp,?_⟩
  .simp only[Av,cloG.H1,h0];simp(maxSteps:=9^9)(disch:=omega)only[ZZ,simprocAttr,Ab,Bs,Aq,cloG.ca,cloG.H1,AS,AR]
  .simp(maxSteps:=9^9)(disch:=omega)only[ZZ,simprocAttr,Ab,Bs,Aq,cloG.ca,cloG.H1]
 .refine⟨by omega,[],[(0,some 2)],⟨[(2,.own 0)],cloG.H1 a,1⟩,?_,by simp[cloG.H1,ZG],by simp,?_⟩
  .simp only[Av,cloG.H1];simp(maxSteps:=9^9)(disch:=omega)only[ZZ,simprocAttr,Ab,Bs,Aq,cloG.ca,cloG.H1,AS,AR]
  .simp(maxSteps:=9^9)(disch:=omega)only[ZZ,simprocAttr,Ab,Bs,Aq,cloG.ca,cloG.H1]
 simp[cloG.H1] at hp;subst hp;exact .inr ⟨by omega,by omega,rfl,rfl⟩
def tcC.ca(a:Ap):List AV:=[.im (.agg (Ap.c a))]
def tcC.r0(_:Ap):AV:= .agg [.own 2,.own 300]
def tcC.H1(a:Ap):An:=(2,(true,.arr 128 2 (a.Glues.map Ad.c)))::(300,(true,.arrA 126 2 (BK 301 a.Tiles)))::A8 301 (min a.Tiles.length 1000) (Bv a.Tiles)
def tcC.row:AF:=AD tcC.ca (λ_=>[]) 0 (λa=>a.Glues.length<=1000/\a.Tiles.length<=1000/\ ∀x∈a.Tiles,x.Sides.length<=1000) (λ_=>false) tcC.r0 tcC.H1 3000
def tcC.ok:AL 49 tcC.row:=by
 refine ow (tC cloG.ok (tC cloJ.ok tN)) Tryz.func49 (exB:=λj=>Nat.ble 2 j) (R:=λa r=>r=tcC.r0 a) (λ_=>rfl)
  (λa=>by simp[tcC.ca,Ap.c,AA,AV.bel,Aw,B6,BT,Ac.nms,Au,AV.nms,Aj,hget]) (λa p hp=> ?_) (λa r h=>by subst h;exact CN.refl _) ?_
 rotate_left
 intro a ab;simp only[Tryz.f49,Option.getD,tcC.ca,Ap.c];simp(maxSteps:=9^9)(disch:=omega)only[ZZ,simprocAttr,Ab,Aq,tcC.ca,Ap.c];rotate_left
 .simp only[tcC.H1] at hp;simp only[Br,A8,Bl,Bc] at hp;rcases hp with rfl|rfl|⟨i,hi,rfl⟩
  .exact .inr ⟨by omega,by simp only;omega,rfl,rfl⟩
  .exact .inr ⟨by omega,by simp only;omega,rfl,rfl⟩
  .exact .inr ⟨by simp only;omega,by simp only;omega,by simp only[FA];omega,rfl⟩
 obtain⟨G,T⟩:=a;obtain⟨h1,h2,h3⟩:=ab;simp only at h1 h2 h3⊢;refine AD.os G [] (by omega) (λj=>by simp[Aj,hget]) rfl rfl ?_ ?_
 .simp(maxSteps:=9^9)(disch:=omega)only[ZZ,simprocAttr,Ab,Aq,tcC.ca,Ap.c,cloG.ca,Db]
  try exact⟨rfl,rfl⟩
 simp(maxSteps:=9^9)(disch:=omega)only[ZZ,simprocAttr,Ab,Aq,tcC.ca,Ap.c,cloG.H1,sub,EK,Gv];intro _;refine Ba.ren ⟨{i:Nat//i<=T.length},λi=>⟨[(13,.im (.int .i64 i.1)),(12,.im (.int .i64 T.length)),(11,.im (.sl false 2 (T.map Tile.c))),(3,.ptr 22 0),(2,.ptr 1 0),(1,.ptr 0 0)],[(22,(true,.cells 35 [.own 2,.own 300])),(300,(true,.arrA 126 2 (Gk (HS T) (λq=>301+q) i.1))),(2,(true,.arr 128 2 (G.map Ad.c))),(1,(true,.cells 35 [.im (.sl true 0 []),.im (.sl true 0 [])])),(0,(true,.cells 35 [.im (.sl false 2 (G.map Ad.c)),.im (.sl false 2 (T.map Tile.c))]))]++A8 301 i.1 (Bv T),3000⟩,λi=>T.length - i.1,λi=>⟨by have:=i.2;exact WK (by simp[Cv,AV.bel]) (by simp only[Aw,Xc (nm:=HS T) (m:=i.1) (G:=λq=>301+q) (N:=3000) (λq hq=>by omega)];simp[AA,AV.bel]) (by simp[B6]) (λq=>by simp[Aw,Bv]) (by omega),by simp⟩,⟨⟨0,C5 _⟩,[(300,none)],?_⟩,λi=> ?_⟩
 .simp only[Av,A8,Gk,ES,BF,DJ];simp(maxSteps:=9^9)(disch:=omega)only[ZZ,simprocAttr,Ab,Aq,tcC.ca,Ap.c,AS,AR]
  try simp
 obtain⟨i,hi⟩:=i;have ai:IntKind.i64.wrap ((i:Int)+1)=((i+1:Nat):Int):=by rw[AG (by omega) (by omega)];omega
 simp only[BO,Dg];simp(maxSteps:=9^9)(disch:=omega)only[ZZ,simprocAttr,Ab,Aq,tcC.ca,Ap.c,sub,AP,Bp];refine⟨λah=>⟨by omega,λx hx=> ?_⟩,λah=> ?_⟩
 .have ad:AW (A8 301 i (Bv T)) [3000]=A8 301 i (Bv T):=Fz (by omega);rw[ad];refine AD.os x.Sides [] (by have:=h3 x (Bg hx);omega) (λj=>by simp[Aj,hget]) rfl rfl ?_ ?_
  .simp(maxSteps:=9^9)(disch:=omega)only[ZZ,simprocAttr,Ab,Aq,tcC.ca,Ap.c,cloJ.ca,Db]
   try exact⟨rfl,rfl⟩
  simp(maxSteps:=9^9)(disch:=omega)only[ZZ,simprocAttr,Ab,Aq,tcC.ca,Ap.c,cloJ.H1,sub,EK,Gv];have hnm:HS T i=x.Name:=by simp[HS,hx]
  have O:Gk (HS T) (λq=>301+q) i++[[AV.im (D.str x.Name),AV.own 3001]]=Gk (HS T) (λq=>if q<i then 301+q else 3001) (i+1):=by
   rw[TS,Af (by omega),hnm];rw[TR (G:=λq=>if q<i then 301+q else 3001) (H:=λq=>301+q) λq hq=>Ai hq]
  have Z:(Gk (HS T) (λq=>301+q) i).length=i:=by simp[Gk]
  have af:AW (A8 301 i (Bv T)) [300,3021]=A8 301 i (Bv T):=HU _ _ _ _ (λz hz=>by simp at hz;omega);have ac:AW (A8 301 i (Bv T)) [22]=A8 301 i (Bv T):=Fz (by omega);refine⟨by simp[AA,AV.bel],by rw[Z];omega,?_,by simp,⟨i+1,by omega⟩,[(300,some 3022),(301+i,some 3001)],by simp only;omega,?_⟩
  .rw[QM,Xc (λq hq=>by omega)];simp[AA,AV.bel]
  simp only[Bp,af,ac,ai];obtain⟨π,hπ⟩: ∃π,π=[(300,some 3022),(301+i,some 3001)]:=⟨_,rfl⟩;rw[<-hπ];have hp: ∀x,x<300->pm π x=some x:=λx hx=>by rw[hπ];simp only[pm];rw[Af (by omega),Af (by omega)]
  have h6:pm π 300=some 3022:=by rw[hπ];simp[pm]
  have hf: ∀q,q<i+1->pm π (301+q)=some (if q<i then 301+q else 3001):=λq hq=>by
   rw[hπ];simp only[pm];by_cases Q:q<i
   .rw[Af (by omega),Af (by omega),Ai Q]
   .obtain rfl:q=i:=by omega
    rw[Af (by omega),Ai rfl,Af Q]
  have ag:GU 23 π:=by rw[hπ];exact⟨by omega,by omega,trivial⟩
  refine Hk (A:=[_,_,_,_,_]) (λq=>if q<i then 301+q else 3001) ag (by simp[DC,hp 0 (by omega),hp 1 (by omega),hp 2 (by omega),hp 22 (by omega),h6,Cj]) hf (λa b ha hb h=>(by split at h<;>split at h<;>omega)) (λm hm q hq=>by simp[DC,hp 0 (by omega),hp 1 (by omega),hp 2 (by omega),hp 22 (by omega),h6] at hm;split<;>omega) ?_ ?_ (λq hq=> ?_)
  .simp only[GH];simp(maxSteps:=9^9)(disch:=omega)only[ZZ,simprocAttr,Ab,Aq,tcC.ca,Ap.c,AS,AR,h6,hp 0 (by omega),hp 1 (by omega),hp 2 (by omega),hp 22 (by omega),O]
   try simp
  .simp only[EJ];simp(maxSteps:=9^9)(disch:=omega)only[ZZ,simprocAttr,Ab,Aq,tcC.ca,Ap.c,AS,AR,h6,hp 0 (by omega),hp 1 (by omega),hp 2 (by omega),hp 22 (by omega),O];exact K9 hf
  .by_cases Q:q<i
   .rw[Ai Q];simp only[Cx,hget,Ar _ _ (show 22≠301+q by omega),Ar _ _ (show 3022≠301+q by omega),Ar _ _ (show 3001≠301+q by omega),Ar _ _ (show 3000≠301+q by omega),Ar _ _ (show 2≠301+q by omega),Ar _ _ (show 1≠301+q by omega),Ar _ _ (show 0≠301+q by omega),Bk];rw[Dp _ _ _ _ Q];exact⟨rfl,rfl⟩
   .obtain rfl:q=i:=by omega
    rw[Af Q];refine⟨rfl,?_⟩;simp only[Bv,hx,Dh,AX];trivial
 .obtain rfl:i=T.length:=by omega
  have aa:min T.length 1000=T.length:=by omega
  rw[Fz (by omega)];simp only[tcC.H1,tcC.r0,aa,Er];refine⟨trivial,⟨rfl,rfl⟩,⟨rfl,?_⟩,G1 _ _ _ _ _ (λq hq=> ?_) (λq hq=>rfl)⟩
  .simp only[BZ,Rr];rw[HZ (λq hq=>K2 (by omega) (by omega))];rfl
  .simp only[hget,Ar _ _ (show 1≠301+q by omega),Ar _ _ (show 22≠301+q by omega),Ar _ _ (show 300≠301+q by omega),Ar _ _ (show 2≠301+q by omega),Ar _ _ (show 0≠301+q by omega),Bk];exact Dp _ _ _ _ hq
def xU(a:Ap):H8 (tcC.r0 a)=true/\ ∀m∈(tcC.r0 a).nms,m<3000:=⟨rfl,by simp[tcC.r0,AV.nms,Au]⟩
def tcCl(a:Ap):Prop:=a.Glues.length<=1000/\a.Tiles.length<=1000/\ ∀x∈a.Tiles,x.Sides.length<=1000
def xT{a:Ap}(h:a.Tiles.length<=1000): ∀p∈tcC.H1 a,p.1<3000/\ ∀m∈p.2.2.nms,m<3000:=by
 intro p hp;have z:min a.Tiles.length 1000<=1000:=LS _ _;simp only[tcC.H1,Br,A8,Bl,Bc] at hp;rcases hp with rfl|rfl|⟨i,Z,rfl⟩
 .exact⟨by omega,by simp[Ac.nms]⟩
 .refine⟨by omega,λm z=> ?_⟩;simp only[Ac.nms] at z;obtain⟨r,Q,z⟩:=Ek.1 z;obtain⟨j,O,rfl⟩:=Bl.1 Q
  have:=Bc.1 O
  simp[Au,AV.nms] at z;omega
 .exact⟨by simp only;omega,by simp[Bv,Ac.nms]⟩
def AD.nwA{A:Type}{ca:A->List AV}{H0:A->An}{pre:A->Prop}{klB:Nat->Bool}{r0:A->AV}{H1:A->An}{cnt:Nat}{args:List AV}{tm:List (Nat×AV)}{h:An}{nx:Nat}{dst:Option Nat}{Z:Q3}{cl:List (List Nat)}{i:Nat}{acc:List Fp}(a:A)(Q:pre a)(h0:H0 a=[])
 (hx:args=AI (λj=>nx+j) (ca a))(O:(acc.all λf=>Ed cl f.i i)=true)(hcl: ∀p∈H1 a,p.1<cnt/\ ∀m∈p.2.2.nms,m<cnt)(hb: ∀m∈(r0 a).nms,m<cnt)
 (aa: ∀(z:An) (NN:List Nat),(∀m,m<nx->NN.contains m=false)->(∀j e,hget (H1 a) j=some e->hget z (nx+j)=some (e.1,e.2.ren λj=>nx+j))->(∀m,m<nx->hget z m=hget h m)->Z (⟨i,[],NN,nx,cnt⟩::acc) ((⟨tm,z,nx+cnt⟩:Az).put dst ((r0 a).ren λj=>nx+j))):
 AD ca H0 0 pre klB r0 H1 cnt args (hget h) nx (Ja cl i acc Z ⟨tm,h,nx⟩ dst):=by
 have e:Bw (I9 []) 0 nx=λj=>nx+j:=funext λj=>by simp[Bw]
 refine AD.os a [] Q (λj=>by rw[h0];simp[Aj,hget]) rfl rfl ⟨by rw[e];exact hx,by rw[h0];trivial⟩ ?_;rw[e];have hN: ∀m,m<nx->(Gp (AQ (λj=>nx+j) (H1 a))).contains m=false:=by
  have ac: ∀H:An,∀m,m<nx->(Gp (AQ (λj=>nx+j) H)).contains m=false:=by
   intro H;induction H with
   |nil=>intro m _;rfl
   |cons p r ih=>
    obtain⟨n,q⟩:=p;intro m hm;have ab:m≠nx+n:=by omega
    have:=ih m hm
    simp only[AQ,Gp,bA];rw[this,OJ];exact HO.2 ab
  exact ac _
 have hk:D6 (λs=>Z (⟨i,[],Gp (AQ (λj=>nx+j) (H1 a)),nx,cnt⟩::acc) s) ⟨tm,h,nx⟩ dst ((r0 a).ren λj=>nx+j) {use:=[],kill:=[],new:=AQ (λj=>nx+j) (H1 a),cnt:=cnt}:=WI (λ_=>rfl) rfl hcl hb (λz h1 h2=>aa z _ hN h1 h2);obtain⟨k1,k2⟩:=hk;exact⟨k1,pT _ _ _ _ _ _ O,k2⟩
def qX: ∀l:List Nat,Gs l []=true
 |[]=>rfl
 |x::r=>by simp[Gs,qX r]
def Uj(n:Nat): ∀l:List Nat,EU n 0 l=true
 |[]=>rfl
 |x::r=>by
  simp only[EU,Uj n r,Et,Gc];by_cases h:x<n
  .rw[Ei.mpr h];rfl
  .rw[show Nat.ble n x=true from FA.mpr (by omega),bJ]
def rF{n:Nat}{u:List Nat}(z:u.all (λx=>Nat.blt x n)=true): ∀l:List Nat,(∀x∈l,n<=x)->Gs l u=true
 |[],_=>rfl
 |x::r,h=>by
  have h1:=h x (BU ..);have O:u.contains x=false:=by
   rw[LR];intro Q
   have:=CR.1 z x (by simpa using Q)
   have:=Ei.mp this
   omega
  simp only[Gs,O,Wm,EL];exact rF z r λy Z=>h y (BQ _ Z)
def quB(cl:List (List Nat))(i nx:Nat)(f:Fp):Bool:=Ed cl f.i i||(f.touch.isEmpty && (f.cnt==0) && f.use.all λx=>Nat.blt x nx)
def rG(cl:List (List Nat))(j nx:Nat)(touch z:List Nat)(Q: ∀x∈touch,nx<=x): ∀acc:List Fp,(acc.all (quB cl j nx))=true->FT cl j [] touch z acc=true
 |[],_=>rfl
 |f::r,h=>by
  rw[EZ,AY] at h;simp only[FT,rG cl j nx touch z Q r h.2,Et];have O:=h.1;simp only[quB,HN,AY,List.isEmpty_iff,OH] at O;simp only[bO,Dg];rcases O with O|⟨⟨O,Z⟩,h3⟩
  .rw[O];cases (Gs touch f.touch && (Gs touch f.use && EU f.nx f.cnt z))<;>rfl
  .rw[O,Z,qX,rF h3 _ Q,Uj];rfl
def AD.nwB{A:Type}{ca:A->List AV}{H0:A->An}{pre:A->Prop}{klB:Nat->Bool}{r0:A->AV}{H1:A->An}{cnt:Nat}{args:List AV}{tm:List (Nat×AV)}{h:An}{nx:Nat}{dst:Option Nat}{go:Q3}{cl:List (List Nat)}{i:Nat}{acc:List Fp}(a:A)(Z:pre a)(h0:H0 a=[])
 (z:args=AI (λj=>nx+j) (ca a))(Q:(acc.all (quB cl i nx))=true)(hcl: ∀p∈H1 a,p.1<cnt/\ ∀m∈p.2.2.nms,m<cnt)(hb: ∀m∈(r0 a).nms,m<cnt)
 (aa: ∀(O:An) (NN:List Nat),(∀m,m<nx\/nx+cnt<=m->NN.contains m=false)->(∀j e,hget (H1 a) j=some e->hget O (nx+j)=some (e.1,e.2.ren λj=>nx+j))->(∀m,m<nx->hget O m=hget h m)->go (⟨i,[],NN,nx,cnt⟩::acc) ((⟨tm,O,nx+cnt⟩:Az).put dst ((r0 a).ren λj=>nx+j))):
 AD ca H0 0 pre klB r0 H1 cnt args (hget h) nx (Ja cl i acc go ⟨tm,h,nx⟩ dst):=by
 have e:Bw (I9 []) 0 nx=λj=>nx+j:=funext λj=>by simp[Bw]
 refine AD.os a [] Z (λj=>by rw[h0];simp[Aj,hget]) rfl rfl ⟨by rw[e];exact z,by rw[h0];trivial⟩ ?_;rw[e];have hG: ∀H:An,∀x∈Gp (AQ (λj=>nx+j) H),nx<=x:=by
  intro H;induction H with
  |nil=>intro x z;cases z
  |cons p r ih=>
   obtain⟨n,q⟩:=p;intro x z;simp only[AQ,Gp,Br] at z;rcases z with rfl|z
   .omega
   .exact ih x z
 have hU: ∀H:An,(∀p∈H,p.1<cnt)-> ∀x∈Gp (AQ (λj=>nx+j) H),x<nx+cnt:=by
  intro H;induction H with
  |nil=>intro _ x z;cases z
  |cons p r ih=>
   obtain⟨n,q⟩:=p;intro hp x z;simp only[AQ,Gp,Br] at z;rcases z with rfl|z
   .have:=hp _ (BU ..);simp only at this;omega
   .exact ih (λp h=>hp p (BQ _ h)) x z
 have hN: ∀m,m<nx\/nx+cnt<=m->(Gp (AQ (λj=>nx+j) (H1 a))).contains m=false:=λm hm=>by
  rw[LR];intro hc
  have:=hG _ m (by simpa using hc)
  have:=hU _ (λp hp=>(hcl p hp).1) m (by simpa using hc)
  omega
 have hk:D6 (λs=>go (⟨i,[],Gp (AQ (λj=>nx+j) (H1 a)),nx,cnt⟩::acc) s) ⟨tm,h,nx⟩ dst ((r0 a).ren λj=>nx+j) {use:=[],kill:=[],new:=AQ (λj=>nx+j) (H1 a),cnt:=cnt}:=WI (λ_=>rfl) rfl hcl hb (λO h1 h2=>aa O _ hN h1 h2);obtain⟨k1,k2⟩:=hk;exact⟨k1,rG _ _ nx _ _ (hG _) _ Q,k2⟩
def caC.ca(a:AB):List AV:=[.im (.agg (AB.c a))]
def caC.H1(a:AB):An:=[(2,(true,.arr 119 3 (a.Tiles.map Al.c)))]
def caC.row:AF:=AD caC.ca (λ_=>[]) 0 (λa=>a.Tiles.length<=1000000) (λ_=>false) (λ_=> .agg [.own 2]) caC.H1 30
def caC.ok:AL 50 caC.row:=by
 refine ow (tC clonC.ok tN) Tryz.func50 (exB:=λj=>j==2) (R:=λ_ r=>r= .agg [.own 2]) (λ_=>rfl)
  (λa=>by simp[caC.ca,caC.H1,AB.c,AA,AV.bel,Aw,B6,BT,Ac.nms,Au,AV.nms,Aj,hget]) (λa p hp=> ?_) (λa r h=>by subst h;exact CN.refl _) ?_
 rotate_left
 intro a z;simp only[Tryz.f50,Option.getD,caC.ca,caC.H1,AB.c];simp(maxSteps:=9^9)(disch:=omega)only[ZZ,simprocAttr,Ab,Aq,caC.ca,caC.H1,AB.c];rotate_left
 .simp[caC.H1] at hp;subst hp;exact .inr ⟨by omega,by omega,rfl,rfl⟩
 refine AD.os a.Tiles [] z (λj=>by simp[Aj,hget]) rfl rfl ?_ ?_
 .simp(maxSteps:=9^9)(disch:=omega)only[ZZ,simprocAttr,Ab,Aq,caC.ca,caC.H1,AB.c,clonC.ca,Db]
  try exact⟨rfl,rfl⟩
 simp(maxSteps:=9^9)(disch:=omega)only[ZZ,simprocAttr,Ab,Aq,caC.ca,caC.H1,AB.c,clonC.H1,sub,EK,Gv]
 try exact⟨rfl,rfl⟩
def csC.ca(a:A9):List AV:=[.im (.agg (A9.c a))]
def csC.r0(a:A9):AV:= .agg [.own 4,.own 302,.own 3004,.im (.int .i64 a.Temperature)]
def csC.H1(a:A9):An:=(4,(true,.arr 128 2 (a.Set.Glues.map Ad.c)))::(302,(true,.arrA 126 2 (BK 303 a.Set.Tiles)))::(3004,(true,.arr 119 3 (a.Seed.Tiles.map Al.c)))::A8 303 (min a.Set.Tiles.length 1000) (Bv a.Set.Tiles)
def csC.row:AF:=AD csC.ca (λ_=>[]) 0 (λa=>tcCl a.Set/\a.Seed.Tiles.length<=1000000) (λ_=>false) csC.r0 csC.H1 4000
def csC.ok:AL 20 csC.row:=by
 refine ow (tC tcC.ok (tC caC.ok tN)) Tryz.func20 (exB:=λj=>Nat.ble 2 j) (R:=λa r=>r=csC.r0 a) (λ_=>rfl)
  (λa=>by simp[csC.ca,A9.c,AA,AV.bel,Aw,B6,BT,Ac.nms,Au,AV.nms,Aj,hget]) (λa p hp=> ?_) (λa r h=>by subst h;exact CN.refl _) ?_
 rotate_left
 intro a aa;simp only[Tryz.f20,Option.getD,csC.ca,A9.c];simp(maxSteps:=9^9)(disch:=omega)only[ZZ,simprocAttr,Ab,Aq,csC.ca,A9.c];rotate_left
 .simp only[csC.H1,Br,A8,Bl,Bc] at hp;rcases hp with rfl|rfl|rfl|⟨i,hi,rfl⟩
  .exact .inr ⟨by omega,by simp only;omega,rfl,rfl⟩
  .exact .inr ⟨by omega,by simp only;omega,rfl,rfl⟩
  .exact .inr ⟨by omega,by simp only;omega,rfl,rfl⟩
  .exact .inr ⟨by simp only;omega,by simp only;omega,by simp only[FA];omega,rfl⟩
 obtain⟨⟨G,T⟩,⟨P⟩,t⟩:=a;obtain⟨hT,hP⟩:=aa;simp only at hT hP⊢;refine AD.nwA (⟨G,T⟩:Ap) hT rfl rfl rfl (xT hT.2.1) (xU _).2 λH1 NN hN hH1 z=> ?_
 have N0:=hN 0 (by omega);have N1:=hN 1 (by omega);have k0:hget H1 0=some (true,.cells 40 [.im (.sl false 2 (G.map Ad.c)),.im (.sl false 2 (T.map Tile.c)),.im (.sl false 3 (P.map Al.c)),.im (.int .i64 t)]):=z 0 (by omega);have k1:hget H1 1=some (true,.cells 40 [.im (.sl true 0 []),.im (.sl true 0 []),.im (.sl true 0 []),.im (.int .i64 0)]):=z 1 (by omega);simp only[tcC.r0,AV.ren,AI];simp(maxSteps:=9^9)(disch:=omega)only[ZZ,simprocAttr,Ab,Aq,csC.ca,A9.c,sub,Bp,k0,k1,N0,N1];have ac:T.length<=1000:=hT.2.1;have Q:min T.length 1000=T.length:=by omega
 have g4:hget H1 4=some (true,.arr 128 2 (G.map Ad.c)):=hH1 2 _ rfl;have g5:hget H1 302=some (true,.arrA 126 2 (BK 303 T)):=by
  have:=hH1 300 _ rfl
  rw[this];simp only[Ac.ren];congr 3;simp only[BK,Hu];refine Gb λi hi=> ?_
  simp only[Function.comp,AI,AV.ren];rw[show 2+(301+i)=303+i by omega]
 have g6: ∀q,q<T.length->hget H1 (303+q)=some (Bv T q):=λq hq=>by
  have e:hget (tcC.H1 ⟨G,T⟩) (301+q)=some (Bv T q):=by
   simp only[tcC.H1,hget,Ar _ _ (show 2≠301+q by omega),Ar _ _ (show 300≠301+q by omega),Bk,Q];exact Dp _ _ _ _ hq
  have:=hH1 _ _ e
  rw[show 2+(301+q)=303+q by omega] at this;rw[this];rfl
 clear hH1 z;refine AD.nwA (⟨P⟩:AB) hP rfl rfl rfl (λp hp=>by simp only[caC.H1,BS] at hp;subst hp;exact⟨by omega,by simp[Ac.nms]⟩) (by simp[AV.nms,Au]) λO ab Z hH1 z=> ?_
 have M0:=Z 0 (by omega);have M1:=Z 1 (by omega);have k0:hget O 0=_:=(z 0 (by omega)).trans k0;have k1:hget O 1=_:=(z 1 (by omega)).trans k1;have g4:hget O 4=_:=(z 4 (by omega)).trans g4;have g5:hget O 302=_:=(z 302 (by omega)).trans g5;have g6: ∀q,q<T.length->hget O (303+q)=some (Bv T q):=λq hq=>(z _ (by omega)).trans (g6 q hq)
 have g7:hget O 3004=some (true,.arr 119 3 (P.map Al.c)):=hH1 2 _ rfl;clear hH1 z;simp only[AV.ren,AI];simp(maxSteps:=9^9)(disch:=omega)only[ZZ,simprocAttr,Ab,Aq,csC.ca,A9.c,sub,Bp,k0,k1,N0,N1,M0,M1];have gt: ∀m,m≠1->hget ((1,(true,Ac.cells 40 [.own 4,.own 302,.own 3004,.im (.int .i64 t)]))::AW O [1]:An) m=hget O m:=λm hm=>G8 _ _ _ (λh=>hm h.symm)
 generalize hG:((1,(true,Ac.cells 40 [.own 4,.own 302,.own 3004,.im (.int .i64 t)]))::AW O [1]:An)=H3 at gt⊢;simp only[csC.H1,csC.r0,Q,Er];refine⟨trivial,⟨(gt 4 (by omega)).trans g4▸⟨rfl,rfl⟩,⟨?_,⟨?_,G1 _ _ _ _ _ (λq hq=>(gt _ (by omega)).trans (g6 q hq)) (λq hq=>rfl)⟩⟩⟩⟩
 .rw[(gt 302 (by omega)).trans g5];refine⟨rfl,?_⟩;simp only[BZ];rw[HZ (λq hq=>K2 (by omega) (by omega))];rfl
 .rw[(gt 3004 (by omega)).trans g7];exact⟨rfl,rfl⟩
def lOw_.fv(a:(List Int)):List Int:=(λl=>l) a
def lOw_.row:AF:=vK (b1 (qS F3 DU)) (rS F3 DU) (λa=>a.length<=1000000) lOw_.fv
def lOw_.q:=Bd (R:=lOw_.row) rfl
def lOw_.ok:AL 71 lOw_.row:=by
 refine vw tN Tryz.func71 ?_;intro a z;simp only[Tryz.f71,Option.getD];simp(maxSteps:=9^9)(disch:=omega)only[ZZ,simprocAttr,Ab,lOw_.fv];exact⟨by simp[Bj,Bm,D.one,Ak],by omega⟩
def tsO_.fv(a:Ap):Ap:=(λa=>a) a
def tsO_.row:AF:=vK (b1 (qP 2 Ap.d_le)) (rA Ap.d_le) (λa=>a.Glues.length<=1000000/\a.Tiles.length<=1000000/\ ∀x∈a.Tiles,x.Sides.length<=1000000) tsO_.fv
def tsO_.q:=Bd (R:=tsO_.row) rfl
def YaQ:=J @tsO_.fv.eq_1 (J @lOw_.q @lOw_.fv.eq_1)
def tsO_.ok:AL 36 tsO_.row:=by
 refine vw (tC lOw_.ok tN) Tryz.func36 ?_;intro a O;simp only[Tryz.f36,Option.getD];simp(maxSteps:=9^9)(disch:=omega)only[ZZ,simprocAttr,Ab,YaQ];obtain⟨h1,h2,h3⟩:=O;refine⟨by simp[Bj,Bm,D.one,Ad.c],by omega,?_⟩;refine Ba.ren ⟨{i:Nat//i<=a.Tiles.length},λi=>⟨[(4,.im (.int .i64 i.1)),(3,.ptr 4 0),(2,.ptr 1 0),(0,.ptr 0 0)],[(4,(true,.cells 35 [.own 3,.own 5])),(5,(true,.arr 126 2 ((a.Tiles.take i.1).map Tile.c))),(3,(true,.arr 128 2 (a.Glues.map Ad.c))),(1,(true,.cells 35 [.im (.sl true 0 []),.im (.sl true 0 [])])),(0,(false,.view [.sl false 2 (a.Glues.map Ad.c),.sl false 2 (a.Tiles.map Tile.c)]))],6⟩,λi=>a.Tiles.length - i.1,λi=>⟨by simp[ZG],by simp⟩,⟨⟨0,C5 _⟩,[(5,none)],?_⟩,λi=> ?_⟩
 .simp only[Av,E5,BF];simp(maxSteps:=9^9)(disch:=omega)only[ZZ,simprocAttr,Ab,YaQ,AS,AR]
 obtain⟨i,hi⟩:=i;have Q:IntKind.i64.wrap ((i:Int)+1)=((i+1:Nat):Int):=by rw[AG (by omega) (by omega)];omega
 simp(maxSteps:=9^9)(disch:=omega)only[ZZ,simprocAttr,Ab,YaQ,sub,AP];intro _;refine⟨λz=>⟨z,λx Z=>⟨z,λy hy=> ?_⟩⟩,λz=> ?_⟩
 .obtain rfl:x=y:=AJ (Z.symm.trans hy);have hr:List.map Tile.c (a.Tiles.take i)++[[D.str x.Name,D.sl false 1 (x.Sides.map Ak)]]=(a.Tiles.take (i+1)).map Tile.c:=by
   rw[mI Z,DX];rfl
  refine⟨h3 x (Bg Z),by simp[Bj,Bm,D.one],by rw[Cu];omega,⟨i+1,by omega⟩,[(5,some 7)],by simp only;omega,?_⟩;simp only[Av];simp(maxSteps:=9^9)(disch:=omega)only[ZZ,simprocAttr,Ab,YaQ,AS,AR,Q,hr]
 .obtain rfl:i=a.Tiles.length:=by omega
  rw[IM]
def asO_.fv(a:AB):AB:=(λa=>a) a
def asO_.row:AF:=vK (b1 (qP 1 AB.d_le)) (rA AB.d_le) (λa=>a.Tiles.length<=1000000) asO_.fv
def asO_.q:=Bd (R:=asO_.row) rfl
def asO_.ok:AL 37 asO_.row:=by
 refine vw tN Tryz.func37 ?_;intro a z;simp only[Tryz.f37,Option.getD];simp(maxSteps:=9^9)(disch:=omega)only[ZZ,simprocAttr,Ab,asO_.fv];exact⟨by simp[Bj,Bm,D.one,Al.c],by omega⟩
def syO_.fv(a:A9):A9:=(λa=>a) a
def syO_.row:AF:=vK (b1 (qP 4 A9.d_le)) (rA A9.d_le) (λa=>(a.Set.Glues.length<=1000000/\a.Set.Tiles.length<=1000000/\ ∀x∈a.Set.Tiles,x.Sides.length<=1000000)/\a.Seed.Tiles.length<=1000000) syO_.fv
def syO_.q:=Bd (R:=syO_.row) rfl
def syO_.ok:AL 16 syO_.row:=by
 refine vw (tC tsO_.ok (tC asO_.ok tN)) Tryz.func16 ?_;intro a z;simp only[Tryz.f16,Option.getD];simp(maxSteps:=9^9)(disch:=omega)only[ZZ,simprocAttr,Ab,syO_.fv,tsO_.q,tsO_.fv,asO_.q,asO_.fv];exact z
def CL(n m:Nat):List Int:=(List.range m).map λi=>if i % (n*n)=0 then ((i/(n*n):Nat):Int) else -1
def CT:Bt:=⟨⟨⟨[],[]⟩,⟨[]⟩,0⟩,⟨⟨[],[]⟩,⟨[]⟩,0⟩,0,[]⟩
def HR(s:A9)(k:Int):Bt×Int:=if (AH s k).2=0 then (⟨(AH s k).1,s,k,CL k.toNat (AH s k).1.Set.Tiles.length⟩,0) else (CT,(AH s k).2)
def Jd{s:A9}{k:Int}(h:(AH s k).2=0):Ht s=true/\(1<=k/\k<=4)/\Ht (AH s k).1=true:=by
 simp only[AH] at h⊢;split
 .rename_i c1;rw[Ai c1] at h;split
  .rename_i z;rw[Ai z] at h;split
   .rename_i O;rw[Ai O] at h;split
    .rename_i Q;rw[Ai Q] at h;split
     .rename_i Z;exact⟨c1,by simpa[Bz] using z,Z⟩
     .rename_i Z;rw[Af Z] at h;cases h
    .rename_i Q;rw[Af Q] at h;cases h
   .rename_i O;rw[Af O] at h;cases h
  .rename_i z;rw[Af z] at h;cases h
 .rename_i c1;rw[Af c1] at h;cases h
def GE{s:A9}(h:Ht s=true):s.Set.Glues.length<=200/\s.Set.Tiles.length<=160/\s.Seed.Tiles.length<=500/\ ∀x∈s.Set.Tiles,x.Sides.length=4:=by
 obtain⟨w1,w2⟩:EH s.Set=true/\Ih s.Set s.Seed=true:=by
  simp only[Ht,AY] at h;exact⟨h.1,h.2.1⟩
 have O:=rR w1;have Q:=Qws w1;have Z:s.Set.Glues.length<=200:=by simp only[EH,AY,CF] at w1;exact w1.1.1
 have w6:Dm none s.Seed.Tiles=true/\s.Seed.Tiles.length<=500:=by simp only[Ih,AY,CF] at w2;exact w2.1
 exact⟨Z,Q,w6.2,λx z=>(O.2.1 x z).1⟩
def Xa(n m:Nat):CL n (m+1)=CL n m++[if m % (n*n)=0 then ((m/(n*n):Nat):Int) else -1]:=Fg _ _
def Rn(n m:Nat):(CL n m).length=m:=by simp[CL]
def psS_.fv(a:A9×Int):Bt×Int:=(HR) (a.1) (a.2)
def psS_.row:AF:=vK (b2 (qR A9.d_le) qI) (r2 (rA Bt.d_le) rI) (λa=>Xl a.1.Set) psS_.fv
def psS_.q:=Bd (R:=psS_.row) rfl
def uW:=J @psS_.fv.eq_1<|J @prfS_.q<|J @prfS_.fv.eq_1<|J @syO_.q @syO_.fv.eq_1
def psS_.ok:AL 5 psS_.row:=by
 refine vw (tC prfS_.ok (tC syO_.ok tN)) Tryz.func5 ?_;intro a O;simp only[Tryz.f5,Option.getD];simp(maxSteps:=9^9)(disch:=omega)only[ZZ,simprocAttr,Ab,uW];obtain⟨s,k⟩:=a;simp only;by_cases c:(AH s k).2=0
 case neg=>
  rw[Ai c];simp only[HR];rw[Af c];rfl
 rw[Af (by simpa using c)];obtain⟨o1,hk,o2⟩:=Jd c;obtain⟨a1,a2,a3,a4⟩:=GE o1;obtain⟨b1,b2,b3,b4⟩:=GE o2;have Q:HR s k=(⟨(AH s k).1,s,k,CL k.toNat (AH s k).1.Set.Tiles.length⟩,0):=Ai c;rw[Q];simp only[c];generalize (AH s k).1=w at*;obtain⟨n,rfl⟩: ∃n:Nat,k=n:=⟨k.toNat,by omega⟩;have hn:1<=n/\n<=4:=by omega
 rw[Bq];clear Q O;refine Ba.ren ⟨{i:Nat//i<=w.Set.Tiles.length},λi=>⟨[(9,.im (.int .i64 i.1)),(8,.own 4),(6,.ptr 2 0),(5,.im (.int .i64 0)),(4,.ptr 1 0),(2,.ptr 0 0),(1,.im (.int .i64 n))],[(4,(true,.arr 2 1 ((CL n i.1).map Ak))),(2,(true,.cells 40 [.im (.sl false 2 (w.Set.Glues.map Ad.c)),.im (.sl false 2 (w.Set.Tiles.map Tile.c)),.im (.sl false 3 (w.Seed.Tiles.map Al.c)),.im (.int .i64 w.Temperature)])),(1,(true,.cells 43 [.im (.sl true 0 []),.im (.sl true 0 []),.im (.sl true 0 []),.im (.int .i64 0),.im (.sl true 0 []),.im (.sl true 0 []),.im (.sl true 0 []),.im (.int .i64 0),.im (.int .i64 0),.im (.sl true 0 [])])),(0,(true,.cells 40 [.im (.sl false 2 (s.Set.Glues.map Ad.c)),.im (.sl false 2 (s.Set.Tiles.map Tile.c)),.im (.sl false 3 (s.Seed.Tiles.map Al.c)),.im (.int .i64 s.Temperature)]))],5⟩,λi=>w.Set.Tiles.length - i.1,λi=>⟨by simp[ZG],by simp⟩,⟨⟨0,C5 _⟩,[(4,some 3)],?_⟩,λi=> ?_⟩
 .simp only[Av,CL,ES,BF];simp(maxSteps:=9^9)(disch:=omega)only[ZZ,simprocAttr,Ab,uW,AS,AR]
 obtain⟨i,hi⟩:=i;have z:IntKind.i64.wrap ((i:Int)+1)=((i+1:Nat):Int):=by rw[AG (by omega) (by omega)];omega
 simp(maxSteps:=9^9)(disch:=omega)only[ZZ,simprocAttr,Ab,uW,sub,AP,NS hn,NJ,NE,NR (show i<=1000000 by omega)];have hz: ¬((n*n:Nat):Int)=0:=by rcases (by omega:n=1\/n=2\/n=3\/n=4) with rfl|rfl|rfl|rfl<;>decide
 have r1:i % (n*n)=0->(CL n i).map Ak++[[D.int .i64 ((i/(n*n):Nat):Int)]]=(CL n (i+1)).map Ak:=λh=>by
  rw[Xa,Ai h,DX];rfl
 have r2: ¬i % (n*n)=0->(CL n i).map Ak++[[D.int .i64 (-1)]]=(CL n (i+1)).map Ak:=λh=>by
  rw[Xa,Af h,DX];rfl
 intro _;refine⟨λZ=>⟨hz,λh0=>⟨hz,by simp[Bj,Bm,D.one],by rw[Rn];omega,⟨i+1,by omega⟩,[(4,some 6)],by simp only;omega,?_⟩,λh0=>⟨by simp[Bj,Bm,D.one],by rw[Rn];omega,⟨i+1,by omega⟩,[(4,some 6)],by simp only;omega,?_⟩⟩,λZ=> ?_⟩
 .have r:=r1 (by omega);simp only[Av];simp(maxSteps:=9^9)(disch:=omega)only[ZZ,simprocAttr,Ab,uW,AS,AR,z,r]
 .have r:=r2 (by omega);simp only[Av];simp(maxSteps:=9^9)(disch:=omega)only[ZZ,simprocAttr,Ab,uW,AS,AR,z,r]
 .obtain rfl:i=w.Set.Tiles.length:=by omega
  exact⟨⟨⟨by omega,by omega,λx hx=>by rw[a4 x hx];omega⟩,by omega⟩,rfl⟩
def EG:D:= .agg [.sl true 0 [],.sl true 0 [],.sl true 0 [],.int .i64 0,.sl true 0 [],.sl true 0 [],.sl true 0 [],.int .i64 0,.int .i64 0,.sl true 0 []]
def Kp(z q:Nat)(A B:List Tile):Am:=if q<z then Bv A q else Bv B (q - z)
def psC.ca(a:A9×Int):List AV:=[.im (.agg (A9.c a.1)),.im (.int .i64 a.2)]
def psC.r0(a:A9×Int):AV:=if (AH a.1 a.2).2=0 then .tup [.agg [.own 2005001,.own 2005002,.own 2005003,.im (.int .i64 2),.own 2005004,.own 2005005,.own 2005006,.im (.int .i64 a.1.Temperature),.im (.int .i64 a.2),.own 2005007],.im (.int .i64 0)] else .im (.tup [EG,.int .i64 (AH a.1 a.2).2])
def YO(a:A9×Int):Nat:=min (AH a.1 a.2).1.Set.Tiles.length 1000
def jL(a:A9×Int):Nat:=min a.1.Set.Tiles.length 1000
def psC.H1(a:A9×Int):An:=if (AH a.1 a.2).2=0 then
 (2005001,(true,.arr 128 2 ((AH a.1 a.2).1.Set.Glues.map Ad.c)))::(2005002,(true,.arrA 126 2 (BK 2006000 (AH a.1 a.2).1.Set.Tiles)))::(2005003,(true,.arr 119 3 ((AH a.1 a.2).1.Seed.Tiles.map Al.c)))::
 (2005004,(true,.arr 128 2 (a.1.Set.Glues.map Ad.c)))::(2005005,(true,.arrA 126 2 (BK (2006000+YO a) a.1.Set.Tiles)))::(2005006,(true,.arr 119 3 (a.1.Seed.Tiles.map Al.c)))::
 (2005007,(true,.arr 2 1 ((CL a.2.toNat (AH a.1 a.2).1.Set.Tiles.length).map Ak)))::A8 2006000 (YO a+jL a) (λq=>Kp (YO a) q (AH a.1 a.2).1.Set.Tiles a.1.Set.Tiles) else []
def YN{a:A9×Int}(h:(AH a.1 a.2).1.Set.Tiles.length<=1000): ∀p∈prfC.H1 a,p.1<2000013/\ ∀m∈p.2.2.nms,m<2000013:=by
 intro p hp;have z:min (AH a.1 a.2).1.Set.Tiles.length 1048576<=1048576:=LS _ _;simp only[prfC.H1] at hp;split at hp
 .simp only[Br,A8,Bl,Bc] at hp;rcases hp with rfl|rfl|rfl|⟨i,Z,rfl⟩
  .exact⟨by omega,by simp[Ac.nms]⟩
  .refine⟨by omega,λm z=> ?_⟩;simp only[Ac.nms] at z;obtain⟨r,Q,z⟩:=Ek.1 z;obtain⟨j,O,rfl⟩:=Bl.1 Q
   have:=Bc.1 O
   simp[Au,AV.nms] at z;omega
  .exact⟨by omega,by simp[Ac.nms]⟩
  .exact⟨by simp only;omega,by simp[Bv,Ac.nms]⟩
 .cases hp
def jJ(a:A9×Int): ∀m∈(prfC.r0 a).nms,m<2000013:=by
 simp only[prfC.r0];split
 .simp[AV.nms,Au]
 .simp[AV.nms]
def Uv{s:A9}{k:Int}(h: ¬(AH s k).2=0):(AH s k).1.Set.Tiles.length<=1000:=by
 simp only[AH] at h⊢;split
 .rename_i c1;rw[Ai c1] at h;split
  .rename_i z;rw[Ai z] at h;split
   .rename_i O;rw[Ai O] at h;split
    .rename_i Q;rw[Ai Q] at h;split
     .rename_i Z;rw[Ai Z] at h;exact absurd rfl h
     .simp
    .simp
   .simp
  .simp
 .simp
def Xb(s:A9)(k:Int):(AH s k).1.Set.Tiles.length<=1000:=by
 by_cases c:(AH s k).2=0
 .have:=(GE (Jd c).2.2).2.1;omega
 .exact Uv c
def YM{s:A9}{k:Int}(h:(AH s k).2=0){nx:Nat}{O:An}(z: ∀j e,hget (prfC.H1 (s,k)) j=some e->hget O (nx+j)=some (e.1,e.2.ren λj=>nx+j)):Ci (hget O) (nx+144) (nx+300) (nx+26) (nx+301) (AH s k).1:=by
 have ht:=Xb s k;have Z:min (AH s k).1.Set.Tiles.length 1048576=(AH s k).1.Set.Tiles.length:=by omega
 have hH:prfC.H1 (s,k)=(144,(true,.arr 128 2 ((AH s k).1.Set.Glues.map Ad.c)))::(300,(true,.arrA 126 2 (BK 301 (AH s k).1.Set.Tiles)))::(26,(true,.arr 119 3 ((AH s k).1.Seed.Tiles.map Al.c)))::A8 301 (AH s k).1.Set.Tiles.length (Bv (AH s k).1.Set.Tiles):=by
  simp only[prfC.H1];rw[Ai h,Z]
 rw[hH] at z;refine⟨z 144 _ rfl,?_,z 26 _ rfl,λi Q=> ?_⟩
 .rw[z 300 _ rfl];simp only[Ac.ren];congr 3;simp only[BK,Hu];refine Gb λi Q=> ?_
  simp only[Function.comp,AI,AV.ren];rw[Fa]
 .have e:hget ((144,(true,Ac.arr 128 2 ((AH s k).1.Set.Glues.map Ad.c)))::(300,(true,.arrA 126 2 (BK 301 (AH s k).1.Set.Tiles)))::(26,(true,.arr 119 3 ((AH s k).1.Seed.Tiles.map Al.c)))::A8 301 (AH s k).1.Set.Tiles.length (Bv (AH s k).1.Set.Tiles):An) (301+i)=some (Bv (AH s k).1.Set.Tiles i):=by
   simp only[hget,Ar _ _ (show 144≠301+i by omega),Ar _ _ (show 300≠301+i by omega),Ar _ _ (show 26≠301+i by omega),Bk];exact Dp _ _ _ _ Q
  rw[Fa,z _ _ e];rfl
def wF{s:A9}(ht:s.Set.Tiles.length<=1000){nx:Nat}{O:An}(z: ∀j e,hget (csC.H1 s) j=some e->hget O (nx+j)=some (e.1,e.2.ren λj=>nx+j)):Ci (hget O) (nx+4) (nx+302) (nx+3004) (nx+303) s:=by
 have Z:min s.Set.Tiles.length 1000=s.Set.Tiles.length:=by omega
 simp only[csC.H1,Z] at z;refine⟨z 4 _ rfl,?_,z 3004 _ rfl,λi Q=> ?_⟩
 .rw[z 302 _ rfl];simp only[Ac.ren];congr 3;simp only[BK,Hu];refine Gb λi Q=> ?_
  simp only[Function.comp,AI,AV.ren];rw[Fa]
 .have e:hget ((4,(true,Ac.arr 128 2 (s.Set.Glues.map Ad.c)))::(302,(true,.arrA 126 2 (BK 303 s.Set.Tiles)))::(3004,(true,.arr 119 3 (s.Seed.Tiles.map Al.c)))::A8 303 s.Set.Tiles.length (Bv s.Set.Tiles):An) (303+i)=some (Bv s.Set.Tiles i):=by
   simp only[hget,Ar _ _ (show 4≠303+i by omega),Ar _ _ (show 302≠303+i by omega),Ar _ _ (show 3004≠303+i by omega),Bk];exact Dp _ _ _ _ Q
  rw[Fa,z _ _ e];rfl
def wG{a:A9}(h:a.Set.Tiles.length<=1000): ∀p∈csC.H1 a,p.1<4000/\ ∀m∈p.2.2.nms,m<4000:=by
 intro p hp;have z:min a.Set.Tiles.length 1000<=1000:=LS _ _;simp only[csC.H1,Br,A8,Bl,Bc] at hp;rcases hp with rfl|rfl|rfl|⟨i,Z,rfl⟩
 .exact⟨by omega,by simp[Ac.nms]⟩
 .refine⟨by omega,λm z=> ?_⟩;simp only[Ac.nms] at z;obtain⟨r,Q,z⟩:=Ek.1 z;obtain⟨j,O,rfl⟩:=Bl.1 Q
  have:=Bc.1 O
  simp[Au,AV.nms] at z;omega
 .exact⟨by omega,by simp[Ac.nms]⟩
 .exact⟨by simp only;omega,by simp[Bv,Ac.nms]⟩
def jM{s:A9}{k:Int}(z: ¬(AH s k).2=0):psC.r0 (s,k)= .im (.tup [EG,.int .i64 (AH s k).2])/\psC.H1 (s,k)=[]:=by
 simp only[psC.r0,psC.H1];rw[Af z,Af z];exact⟨rfl,rfl⟩
def psC.row:AF:=AD psC.ca (λ_=>[]) 0 (λa=>Xl a.1.Set) (λ_=>false) psC.r0 psC.H1 2010000
def psC.ok:AL 7 psC.row:=by
 refine ow (tC prfC.ok (tC csC.ok tN)) Tryz.func7 (exB:=λj=>Nat.ble 2 j) (R:=λa r=>r=psC.r0 a) (λ_=>rfl)
  (λa=>by simp[psC.ca,A9.c,AA,AV.bel,Aw,B6,BT,Ac.nms,Au,AV.nms,Aj,hget]) (λa p hp=> ?_) (λa r h=>by subst h;exact CN.refl _) ?_
 rotate_left
 intro a ac;simp only[Tryz.f7,Option.getD,psC.ca,A9.c];simp(maxSteps:=9^9)(disch:=omega)only[ZZ,simprocAttr,Ab,Aq,psC.ca,A9.c];rotate_left
 .have m1:YO a<=1000:=LS _ _;have m2:jL a<=1000:=LS _ _;simp only[psC.H1] at hp;split at hp
  .simp only[Br,A8,Bl,Bc] at hp;rcases hp with rfl|rfl|rfl|rfl|rfl|rfl|rfl|⟨i,hi,rfl⟩
   .exact .inr ⟨by omega,by simp only;omega,rfl,rfl⟩
   .exact .inr ⟨by omega,by simp only;omega,rfl,rfl⟩
   .exact .inr ⟨by omega,by simp only;omega,rfl,rfl⟩
   .exact .inr ⟨by omega,by simp only;omega,rfl,rfl⟩
   .exact .inr ⟨by omega,by simp only;omega,rfl,rfl⟩
   .exact .inr ⟨by omega,by simp only;omega,rfl,rfl⟩
   .exact .inr ⟨by omega,by simp only;omega,rfl,rfl⟩
   .exact .inr ⟨by simp only;omega,by simp only;omega,by simp only[FA];omega,by simp only[Kp];split<;>rfl⟩
  .cases hp
 obtain⟨s,k⟩:=a;simp only at ac⊢;refine AD.nw (s,k) ac rfl rfl (YN (Xb s k)) (jJ _) λH1 hH1 O=> ?_
 have k0:hget H1 0=some (true,.cells 40 [.im (.sl false 2 (s.Set.Glues.map Ad.c)),.im (.sl false 2 (s.Set.Tiles.map Tile.c)),.im (.sl false 3 (s.Seed.Tiles.map Al.c)),.im (.int .i64 s.Temperature)]):=O 0 (by omega);have k1:hget H1 1=some (true,.cells 43 [.im (.sl true 0 []),.im (.sl true 0 []),.im (.sl true 0 []),.im (.int .i64 0),.im (.sl true 0 []),.im (.sl true 0 []),.im (.sl true 0 []),.im (.int .i64 0),.im (.int .i64 0),.im (.sl true 0 [])]):=O 1 (by omega);by_cases c:(AH s k).2=0
 case neg=>
  obtain⟨q1,q2⟩:=jM c;have er:(prfC.r0 (s,k)).ren (λj=>2+j)= .im (.tup [VN,.int .i64 (AH s k).2]):=by
   simp only[prfC.r0];rw[Af c];rfl
  have e1:=(HY (show 2000015≠1 by decide)).trans k1;rw[er,q1,q2];simp(maxSteps:=9^9)(disch:=omega)only[ZZ,simprocAttr,Ab,Aq,psC.ca,A9.c,sub,Bp,k0,k1,VN,e1];rw[Ai c];trivial
 obtain⟨o1,hk,o2⟩:=Jd c;obtain⟨a1,a2,a3,a4⟩:=GE o1;obtain⟨b1,b2,b3,b4⟩:=GE o2;have er:(prfC.r0 (s,k)).ren (λj=>2+j)= .tup [.agg [.own 146,.own 302,.own 28,.im (.int .i64 2)],.im (.int .i64 0)]:=by
  simp only[prfC.r0];rw[Ai c];rfl
 have A1:Ci (hget H1) 146 302 28 303 (AH s k).1:=YM c hH1;obtain⟨n,rfl⟩: ∃n:Nat,k=n:=⟨k.toNat,by omega⟩;have hn:1<=n/\n<=4:=by omega
 have ah:psC.r0 (s,(n:Int))= .tup [.agg [.own 2005001,.own 2005002,.own 2005003,.im (.int .i64 2),.own 2005004,.own 2005005,.own 2005006,.im (.int .i64 s.Temperature),.im (.int .i64 n),.own 2005007],.im (.int .i64 0)]:=by
  simp only[psC.r0];rw[Ai c]
 have hH:psC.H1 (s,(n:Int))=(2005001,(true,.arr 128 2 ((AH s n).1.Set.Glues.map Ad.c)))::(2005002,(true,.arrA 126 2 (BK 2006000 (AH s n).1.Set.Tiles)))::(2005003,(true,.arr 119 3 ((AH s n).1.Seed.Tiles.map Al.c)))::
  (2005004,(true,.arr 128 2 (s.Set.Glues.map Ad.c)))::(2005005,(true,.arrA 126 2 (BK (2006000+(AH s n).1.Set.Tiles.length) s.Set.Tiles)))::(2005006,(true,.arr 119 3 (s.Seed.Tiles.map Al.c)))::
  (2005007,(true,.arr 2 1 ((CL n (AH s n).1.Set.Tiles.length).map Ak)))::A8 2006000 ((AH s n).1.Set.Tiles.length+s.Set.Tiles.length) (λq=>Kp (AH s n).1.Set.Tiles.length q (AH s n).1.Set.Tiles s.Set.Tiles):=by
  have e1:YO (s,(n:Int))=(AH s n).1.Set.Tiles.length:=by simp only[YO];omega
  have e2:jL (s,(n:Int))=s.Set.Tiles.length:=by simp only[jL];omega
  simp only[psC.H1,e1,e2,Bq];rw[Ai c]
 rw[er,ah,hH];generalize (AH s (n:Int)).1=w at*;clear ah hH er hH1 O c;have e0:=(HY (show 2000015≠0 by decide)).trans k0;have e1:=(HY (show 2000015≠1 by decide)).trans k1;simp(maxSteps:=9^9)(disch:=omega)only[ZZ,simprocAttr,Ab,Aq,psC.ca,A9.c,sub,Bp,k0,k1,e0,e1];generalize hG:((2000015,(true,Ac.cells 40 [.own 146,.own 302,.own 28,.im (.int .i64 2)]))::AW H1 [2000015]:An)=H2;have k0:=pg hG (by omega) k0;have k1:=pg hG (by omega) k1;have k6:hget H2 2000015=some (true,.cells 40 [.own 146,.own 302,.own 28,.im (.int .i64 2)]):=by rw[<-hG];rfl
 have A2:Ci (hget H2) 146 302 28 303 w:=A1.mono λm hm=>by rw[<-hG];exact G8 _ _ _ (by omega)
 clear hG A1 e0 e1;refine AD.nwB s ⟨⟨by omega,by omega,λx hx=>by rw[a4 x hx];omega⟩,by omega⟩ rfl rfl rfl (wG (by omega)) (by simp[csC.r0,AV.nms,Au]) λH3 NN hN hH1 O=> ?_
 have N0:=hN 2000015 (by omega);have z:=hN 0 (by omega);have Q:=hN 2004016 (by omega);have k1:hget H3 1=_:=(O 1 (by omega)).trans k1;have k6:hget H3 2000015=_:=(O _ (by omega)).trans k6;have A3:Ci (hget H3) 146 302 28 303 w:=A2.mono λm hm=>O m (by omega)
 have B3:Ci (hget H3) 2000020 2000318 2003020 2000319 s:=wF (by omega) hH1;clear hH1 O A2 k0;simp only[csC.r0,AV.ren,AI];have e6:=(HY (show 2004016≠2000015 by decide)).trans k6;have ad:=(HY (show 2004016≠302 by decide)).trans A3.t;simp(maxSteps:=9^9)(disch:=omega)only[ZZ,simprocAttr,Ab,Aq,psC.ca,A9.c,sub,Bp,k1,k6,N0,z,Q,e6,ad];generalize hG:((2004016,(true,Ac.cells 43 [.own 146,.own 302,.own 28,.im (.int .i64 2),.own 2000020,.own 2000318,.own 2003020,.im (.int .i64 s.Temperature),.im (.int .i64 n),.im (.sl true 0 [])]))::AW H3 [2004016]:An)=H4;have k1:=pg hG (by omega) k1;have k8:hget H4 2004016=some (true,.cells 43 [.own 146,.own 302,.own 28,.im (.int .i64 2),.own 2000020,.own 2000318,.own 2003020,.im (.int .i64 s.Temperature),.im (.int .i64 n),.im (.sl true 0 [])]):=by rw[<-hG];rfl
 have A4:Ci (hget H4) 146 302 28 303 w:=A3.mono λm hm=>by rw[<-hG];exact G8 _ _ _ (by omega)
 have B4:Ci (hget H4) 2000020 2000318 2003020 2000319 s:=B3.mono λm hm=>by rw[<-hG];exact G8 _ _ _ (by omega)
 clear hG A3 B3 e6 k6 N0 z Q hN;have aj:(BK 303 w.Set.Tiles).length=w.Set.Tiles.length:=by simp[BK]
 rw[aj];generalize hN1:w.Set.Tiles.length=z at*;generalize hN2:s.Set.Tiles.length=Q at*;intro _;have hz: ¬((n*n:Nat):Int)=0:=by rcases (by omega:n=1\/n=2\/n=3\/n=4) with rfl|rfl|rfl|rfl<;>decide
 refine Ba.ren ⟨{i:Nat//i<=z},λi=>⟨[(30,.im (.int .i64 i.1)),(29,.im (.int .i64 z)),(8,.ptr 2004016 0),(4,.ptr 1 0),(1,.im (.int .i64 n))],
  [(2004016,(true,.cells 43 [.own 2005001,.own 2005002,.own 2005003,.im (.int .i64 2),.own 2005004,.own 2005005,.own 2005006,.im (.int .i64 s.Temperature),.im (.int .i64 n),.own 2005007])),(2005007,(true,.arr 2 1 ((CL n i.1).map Ak))),
  (2005001,(true,.arr 128 2 (w.Set.Glues.map Ad.c))),(2005002,(true,.arrA 126 2 (Gk (HS w.Set.Tiles) (λq=>2006000+q) z))),(2005003,(true,.arr 119 3 (w.Seed.Tiles.map Al.c))),
  (2005004,(true,.arr 128 2 (s.Set.Glues.map Ad.c))),(2005005,(true,.arrA 126 2 (Gk (HS s.Set.Tiles) (λq=>2006000+z+q) Q))),(2005006,(true,.arr 119 3 (s.Seed.Tiles.map Al.c))),
  (1,(true,.cells 43 [.im (.sl true 0 []),.im (.sl true 0 []),.im (.sl true 0 []),.im (.int .i64 0),.im (.sl true 0 []),.im (.sl true 0 []),.im (.sl true 0 []),.im (.int .i64 0),.im (.int .i64 0),.im (.sl true 0 [])]))]++A8 2006000 (z+Q) (λq=>Kp z q w.Set.Tiles s.Set.Tiles),2007000⟩,λi=>z - i.1,λi=>⟨?_,by simp⟩,⟨⟨0,C5 _⟩,(2005001,some 146)::(2005002,some 302)::(2005003,some 28)::(2005004,some 2000020)::(2005005,some 2000318)::(2005006,some 2003020)::(2005007,none)::YT 2006000 (z+Q) (λq=>if q<z then 303+q else 2000319+(q - z)),?_⟩,λi=> ?_⟩
 .exact WK (by simp[Cv,AV.bel]) (by simp only[Aw,Xc (nm:=HS w.Set.Tiles) (m:=z) (G:=λq=>2006000+q) (N:=2007000) (λq hq=>by omega),Xc (nm:=HS s.Set.Tiles) (m:=Q) (G:=λq=>2006000+z+q) (N:=2007000) (λq hq=>by omega)];simp[AA,AV.bel]) (by simp[B6]) (λq=>by simp only[Kp];split<;>simp[Aw,Bv]) (by omega)
 .simp only[CL,ES,BF];obtain⟨π,hπ⟩: ∃π,π=(2005001,some 146)::(2005002,some 302)::(2005003,some 28)::(2005004,some 2000020)::(2005005,some 2000318)::(2005006,some 2003020)::(2005007,none)::YT 2006000 (z+Q) (λq=>if q<z then 303+q else 2000319+(q - z)):=⟨_,rfl⟩;rw[<-hπ];have hp: ∀x,x<2005001->pm π x=some x:=λx hx=>by
   rw[hπ];simp only[pm];rw[Af (by omega),Af (by omega),Af (by omega),Af (by omega),Af (by omega),Af (by omega),Af (by omega),Oz,Af (by omega)]
  have p1:pm π 2005001=some 146:=by rw[hπ];simp[pm]
  have p2:pm π 2005002=some 302:=by rw[hπ];simp[pm]
  have p3:pm π 2005003=some 28:=by rw[hπ];simp[pm]
  have p4:pm π 2005004=some 2000020:=by rw[hπ];simp[pm]
  have p5:pm π 2005005=some 2000318:=by rw[hπ];simp[pm]
  have p6:pm π 2005006=some 2003020:=by rw[hπ];simp[pm]
  have Z:pm π 2005007=none:=by rw[hπ];simp[pm]
  have hf: ∀q,q<z+Q->pm π (2006000+q)=some (if q<z then 303+q else 2000319+(q - z)):=λq hq=>by
   rw[hπ];simp only[pm];rw[Af (by omega),Af (by omega),Af (by omega),Af (by omega),Af (by omega),Af (by omega),Af (by omega),Oz,Ai (by omega)];rw[show 2006000+q - 2006000=q by omega]
  have aa:GU 2004017 π:=by rw[hπ];exact⟨by omega,by omega,by omega,by omega,by omega,by omega,by omega,eO (by omega)⟩
  have r1:FF π (Gk (HS w.Set.Tiles) (λq=>2006000+q) z) (BK 303 w.Set.Tiles):=by
   rw[<-Rr,hN1];exact K9 λi hi=>by rw[hf i (by omega),Ai hi]
  have r2:FF π (Gk (HS s.Set.Tiles) (λq=>2006000+z+q) Q) (BK 2000319 s.Set.Tiles):=by
   rw[<-Rr,hN2];exact K9 λi hi=>by rw[Fa,hf (z+i) (by omega),Af (by omega)];congr 2;omega
  refine Hk (A:=[_,_,_,_,_,_,_,_,_]) (λq=>if q<z then 303+q else 2000319+(q - z)) aa (by simp[DC,hp 1 (by omega),hp 2004016 (by omega),p1,p2,p3,p4,p5,p6,Z,Cj]) hf (λa b ha hb h=>(by split at h<;>split at h<;>omega)) (λm hm q hq=>by simp[DC,hp 1 (by omega),hp 2004016 (by omega),p1,p2,p3,p4,p5,p6,Z] at hm;split<;>omega) ?_ ?_ (λq hq=> ?_)
  .simp only[GH];simp(maxSteps:=9^9)(disch:=omega)only[ZZ,simprocAttr,Ab,Aq,psC.ca,A9.c,AS,AR,hp 1 (by omega),hp 2004016 (by omega),p1,p2,p3,p4,p5,p6,Z]
   try simp
  .simp only[EJ];simp(maxSteps:=9^9)(disch:=omega)only[ZZ,simprocAttr,Ab,Aq,psC.ca,A9.c,AS,AR,hp 1 (by omega),hp 2004016 (by omega),p1,p2,p3,p4,p5,p6,Z,k1,k8,A4.g,A4.t,A4.p,B4.g,B4.t,B4.p];exact⟨r1,r2⟩
  .by_cases c9:q<z
   .rw[Ai c9];simp only[Cx,Kp];rw[Ai c9,A4.f q (by omega)];exact⟨rfl,rfl⟩
   .rw[Af c9];simp only[Cx,Kp];rw[Af c9,B4.f (q - z) (by omega)];exact⟨rfl,rfl⟩
 obtain⟨i,hi⟩:=i;have ag:IntKind.i64.wrap ((i:Int)+1)=((i+1:Nat):Int):=by rw[AG (by omega) (by omega)];omega
 simp only[BO,Dg];simp(maxSteps:=9^9)(disch:=omega)only[ZZ,simprocAttr,Ab,Aq,psC.ca,A9.c,sub,AP,Bp,NS hn,NJ,NE,NR (show i<=1000000 by omega)];have af:AW (AW (A8 2006000 (z+Q) λq=>Kp z q w.Set.Tiles s.Set.Tiles) [2005007]) [2004016]=A8 2006000 (z+Q) λq=>Kp z q w.Set.Tiles s.Set.Tiles:=by rw[Fz (by omega),Fz (by omega)]
 refine⟨λai=>⟨hz,λh0=>⟨hz,by rw[Rn];omega,⟨i+1,by omega⟩,[(2005007,some 2007001)],by simp only;omega,?_⟩,λh0=>⟨by rw[Rn];omega,⟨i+1,by omega⟩,[(2005007,some 2007001)],by simp only;omega,?_⟩⟩,λai=> ?_⟩
 .have ab:(CL n i).map Ak++[[D.int .i64 ((i/(n*n):Nat):Int)]]=(CL n (i+1)).map Ak:=by
   rw[Xa,Ai (by omega),DX];rfl
  simp only[af,ag,ab];obtain⟨π,hπ⟩: ∃π,π=[(2005007,some 2007001)]:=⟨_,rfl⟩;rw[<-hπ];have hp: ∀x,x≠2005007->pm π x=some x:=λx hx=>by rw[hπ];simp only[pm];rw[Af (λh=>hx h.symm)]
  have Z:pm π 2005007=some 2007001:=by rw[hπ];simp[pm]
  have aa:GU 2004017 π:=by rw[hπ];exact⟨by omega,trivial⟩
  have q1:=K9 (π:=π) (nm:=HS w.Set.Tiles) (m:=z) (F:=2006000) (G:=λq=>2006000+q) λj hj=>hp _ (by omega)
  have q2:=K9 (π:=π) (nm:=HS s.Set.Tiles) (m:=Q) (F:=2006000+z) (G:=λq=>2006000+z+q) λj hj=>hp _ (by omega)
  refine Hk (A:=[_,_,_,_,_,_,_,_,_]) (λq=>2006000+q) aa (by simp[DC,hp 1 (by omega),hp 2004016 (by omega),hp 2005001 (by omega),hp 2005002 (by omega),hp 2005003 (by omega),hp 2005004 (by omega),hp 2005005 (by omega),hp 2005006 (by omega),Z,Cj]) (λq hq=>hp _ (by omega)) (λa b ha hb h=>by omega) (λm hm q hq=>by simp[DC,hp 1 (by omega),hp 2004016 (by omega),hp 2005001 (by omega),hp 2005002 (by omega),hp 2005003 (by omega),hp 2005004 (by omega),hp 2005005 (by omega),hp 2005006 (by omega),Z] at hm;omega) ?_ ?_ (λq hq=> ?_)
  .simp only[GH];simp(maxSteps:=9^9)(disch:=omega)only[ZZ,simprocAttr,Ab,Aq,psC.ca,A9.c,AS,AR,hp 1 (by omega),hp 2004016 (by omega),Z]
   try simp
  .simp only[EJ];simp(maxSteps:=9^9)(disch:=omega)only[ZZ,simprocAttr,Ab,Aq,psC.ca,A9.c,AS,AR,hp 1 (by omega),hp 2004016 (by omega),hp 2005001 (by omega),hp 2005002 (by omega),hp 2005003 (by omega),hp 2005004 (by omega),hp 2005005 (by omega),hp 2005006 (by omega),Z];exact⟨q1,q2⟩
  .simp only[Cx,hget,Ar _ _ (show 2004016≠2006000+q by omega),Ar _ _ (show 2007001≠2006000+q by omega),Ar _ _ (show 2007000≠2006000+q by omega),Ar _ _ (show 2005001≠2006000+q by omega),Ar _ _ (show 2005002≠2006000+q by omega),Ar _ _ (show 2005003≠2006000+q by omega),Ar _ _ (show 2005004≠2006000+q by omega),Ar _ _ (show 2005005≠2006000+q by omega),Ar _ _ (show 2005006≠2006000+q by omega),Ar _ _ (show 1≠2006000+q by omega),Bk];rw[Dp _ _ _ _ hq];simp only[Kp]
   split<;>exact⟨rfl,rfl⟩
 .have ab:(CL n i).map Ak++[[D.int .i64 (-1)]]=(CL n (i+1)).map Ak:=by
   rw[Xa,Af (by omega),DX];rfl
  simp only[af,ag,ab];obtain⟨π,hπ⟩: ∃π,π=[(2005007,some 2007001)]:=⟨_,rfl⟩;rw[<-hπ];have hp: ∀x,x≠2005007->pm π x=some x:=λx hx=>by rw[hπ];simp only[pm];rw[Af (λh=>hx h.symm)]
  have Z:pm π 2005007=some 2007001:=by rw[hπ];simp[pm]
  have aa:GU 2004017 π:=by rw[hπ];exact⟨by omega,trivial⟩
  have q1:=K9 (π:=π) (nm:=HS w.Set.Tiles) (m:=z) (F:=2006000) (G:=λq=>2006000+q) λj hj=>hp _ (by omega)
  have q2:=K9 (π:=π) (nm:=HS s.Set.Tiles) (m:=Q) (F:=2006000+z) (G:=λq=>2006000+z+q) λj hj=>hp _ (by omega)
  refine Hk (A:=[_,_,_,_,_,_,_,_,_]) (λq=>2006000+q) aa (by simp[DC,hp 1 (by omega),hp 2004016 (by omega),hp 2005001 (by omega),hp 2005002 (by omega),hp 2005003 (by omega),hp 2005004 (by omega),hp 2005005 (by omega),hp 2005006 (by omega),Z,Cj]) (λq hq=>hp _ (by omega)) (λa b ha hb h=>by omega) (λm hm q hq=>by simp[DC,hp 1 (by omega),hp 2004016 (by omega),hp 2005001 (by omega),hp 2005002 (by omega),hp 2005003 (by omega),hp 2005004 (by omega),hp 2005005 (by omega),hp 2005006 (by omega),Z] at hm;omega) ?_ ?_ (λq hq=> ?_)
  .simp only[GH];simp(maxSteps:=9^9)(disch:=omega)only[ZZ,simprocAttr,Ab,Aq,psC.ca,A9.c,AS,AR,hp 1 (by omega),hp 2004016 (by omega),Z]
   try simp
  .simp only[EJ];simp(maxSteps:=9^9)(disch:=omega)only[ZZ,simprocAttr,Ab,Aq,psC.ca,A9.c,AS,AR,hp 1 (by omega),hp 2004016 (by omega),hp 2005001 (by omega),hp 2005002 (by omega),hp 2005003 (by omega),hp 2005004 (by omega),hp 2005005 (by omega),hp 2005006 (by omega),Z];exact⟨q1,q2⟩
  .simp only[Cx,hget,Ar _ _ (show 2004016≠2006000+q by omega),Ar _ _ (show 2007001≠2006000+q by omega),Ar _ _ (show 2007000≠2006000+q by omega),Ar _ _ (show 2005001≠2006000+q by omega),Ar _ _ (show 2005002≠2006000+q by omega),Ar _ _ (show 2005003≠2006000+q by omega),Ar _ _ (show 2005004≠2006000+q by omega),Ar _ _ (show 2005005≠2006000+q by omega),Ar _ _ (show 2005006≠2006000+q by omega),Ar _ _ (show 1≠2006000+q by omega),Bk];rw[Dp _ _ _ _ hq];simp only[Kp]
   split<;>exact⟨rfl,rfl⟩
 .obtain rfl:i=z:=by omega
  have e1:Gk (HS w.Set.Tiles) (λq=>2006000+q) i=BK 2006000 w.Set.Tiles:=by rw[<-Rr,hN1]
  have e2:Gk (HS s.Set.Tiles) (λq=>2006000+i+q) Q=BK (2006000+i) s.Set.Tiles:=by rw[<-Rr,hN2]
  simp only[e1,e2];rw[Fz (by omega)];refine⟨?_,?_,trivial,G1 _ _ _ _ _ (λq hq=> ?_) (λq hq=> ?_)⟩
  .rw[HZ (λq hq=>K2 (by omega) (by omega))];rfl
  .rw[HZ (λq hq=>K2 (by omega) (by omega))];rfl
  .simp only[hget,Ar _ _ (show 2004016≠2006000+q by omega),Ar _ _ (show 2005007≠2006000+q by omega),Ar _ _ (show 2005001≠2006000+q by omega),Ar _ _ (show 2005002≠2006000+q by omega),Ar _ _ (show 2005003≠2006000+q by omega),Ar _ _ (show 2005004≠2006000+q by omega),Ar _ _ (show 2005005≠2006000+q by omega),Ar _ _ (show 2005006≠2006000+q by omega),Ar _ _ (show 1≠2006000+q by omega),Bk];exact Dp _ _ _ _ hq
  .simp only[Kp];split<;>rfl
end Go.Ae
namespace Go.Ae
open Go.Proofs
def PT{a:List Tile}{m:Nat}(h: ∀x∈a,x.Sides.length=m):DG a<=a.length*m:=by
 induction a with
 |nil=>simp[DG]
 |cons y r ih=>
  have Q:=h y (BU ..);have z:=ih λx O=>h x (BQ _ O)
  simp only[DG,Be,KU,Dx,vO] at z⊢;omega
def rH{s:A9}(h:Ht s=true):ER s:=by
 obtain⟨a1,a2,a3,a4⟩:=GE h;have z:=PT a4;exact⟨by omega,by omega,by omega,by omega⟩
def jI{s:A9}{k:Int}(h:(AH s k).2=0):(AH s k).1.Temperature=2:=by
 simp only[AH] at h⊢;split
 .rename_i c1;rw[Ai c1] at h;split
  .rename_i z;rw[Ai z] at h;split
   .rename_i O;rw[Ai O] at h;split
    .rename_i Q;rw[Ai Q] at h;split
     .rfl
     .rename_i Z;rw[Af Z] at h;cases h
    .rename_i Q;rw[Af Q] at h;cases h
   .rename_i O;rw[Af O] at h;cases h
  .rename_i z;rw[Af z] at h;cases h
 .rename_i c1;rw[Af c1] at h;cases h
def cH{s:A9}{k:Int}(h:(HR s k).2=0):(AH s k).2=0/\OB (HR s k).1/\(HR s k).1=⟨(AH s k).1,s,k,CL k.toNat (AH s k).1.Set.Tiles.length⟩:=by
 by_cases c:(AH s k).2=0
 .have e:HR s k=(⟨(AH s k).1,s,k,CL k.toNat (AH s k).1.Set.Tiles.length⟩,0):=Ai c;obtain⟨O,_,z⟩:=Jd c;have b:=GE z;rw[e];exact⟨c,⟨rH z,rH O,by rw[Rn];omega⟩,rfl⟩
 .have e:HR s k=(CT,(AH s k).2):=Af c;rw[e] at h;exact absurd h c
def YP{s:A9}{k:Int}(h: ¬(HR s k).2=0): ¬(AH s k).2=0/\HR s k=(CT,(AH s k).2):=by
 by_cases c:(AH s k).2=0
 .have e:HR s k=(⟨(AH s k).1,s,k,CL k.toNat (AH s k).1.Set.Tiles.length⟩,0):=Ai c;rw[e] at h;exact absurd rfl h
 .exact⟨c,Af c⟩
def Nf(a:A9×Int):H8 (psC.r0 a)=true/\ ∀m∈(psC.r0 a).nms,m<2010000:=by
 simp only[psC.r0];split
 .exact⟨rfl,by simp[AV.nms,Au]⟩
 .exact⟨by simp[H8,D.scd,PS,EG,D.sc],by simp[AV.nms]⟩
def V1{F:Nat}{a:List Tile}:GY (.arrA 126 2 (BK F a))=true:=by
 simp only[GY,BK,CR];intro r z;obtain⟨j,_,rfl⟩:=Bl.1 z;simp[ED,H8,D.sc]
def V0{F N:Nat}{a:List Tile}(h:F+a.length<=N): ∀m∈(Ac.arrA 126 2 (BK F a)).nms,m<N:=by
 intro m z;simp only[Ac.nms] at z;obtain⟨r,Q,z⟩:=Ek.1 z;obtain⟨j,O,rfl⟩:=Bl.1 Q
 have:=Bc.1 O
 simp[Au,AV.nms] at z;omega
def KA(a:A9×Int): ∀p∈psC.H1 a,p.1<2010000/\p.2.1=true/\GY p.2.2=true/\ ∀m∈p.2.2.nms,m<2010000:=by
 intro p hp;have m1:YO a<=1000:=LS _ _;have O:jL a<=1000:=LS _ _;have Q:=Xb a.1 a.2;simp only[psC.H1] at hp;split at hp
 .rename_i c;have Z:=(GE (Jd c).1).2.1;simp only[Br,A8,Bl,Bc] at hp;rcases hp with rfl|rfl|rfl|rfl|rfl|rfl|rfl|⟨i,z,rfl⟩
  .exact⟨by omega,rfl,by simp[GY,Ad.c,D.sc],by simp[Ac.nms]⟩
  .exact⟨by omega,rfl,V1,V0 (by omega)⟩
  .exact⟨by omega,rfl,by simp[GY,Al.c,D.sc],by simp[Ac.nms]⟩
  .exact⟨by omega,rfl,by simp[GY,Ad.c,D.sc],by simp[Ac.nms]⟩
  .exact⟨by omega,rfl,V1,V0 (by omega)⟩
  .exact⟨by omega,rfl,by simp[GY,Al.c,D.sc],by simp[Ac.nms]⟩
  .exact⟨by omega,rfl,by simp[GY,Ak,D.sc],by simp[Ac.nms]⟩
  .refine⟨by simp only;omega,?_⟩;simp only[Kp]
   split<;>exact⟨rfl,by simp[GY,Bv,Ak,D.sc],by simp[Bv,Ac.nms]⟩
 .cases hp
def psV.ar:List PK->Option (A9×Int):=a2 (kR A9.d) kI
def psV.row:AF:=Fy psV.ar (λa=>Xl a.1.Set) psC.r0 psC.H1 2010000
def psV.ok:AL 7 psV.row:=
 pS (A:=A9×Int) (ca:=λ(a:A9×Int)=>[D.agg (A9.c a.1),D.int .i64 a.2]) (by kernel_rfl) psC.ok (λ_=>rfl) (RL (MC A9.d_le) bV) Nf KA
def jK(s:A9)(k:Int):psV.ar [.val (.agg (A9.c s)),.val (.int .i64 k)]=some (s,k):=by simp only[psV.ar,a2,kR,kI,A9.d_c,Gw]
def rE{nx F:Nat}{a:List Tile}:(Ac.arrA 126 2 (BK F a)).ren (λj=>nx+j)= .arrA 126 2 (BK (nx+F) a):=by
 simp only[Ac.ren];congr 1;simp only[BK,Hu];refine Gb λi z=> ?_
 simp only[Function.comp,AI,AV.ren];rw[Fa]
def cI{s:A9}{k:Int}(h:(HR s k).2=0){nx:Nat}{Q:An}(Z: ∀j e,hget (psC.H1 (s,k)) j=some e->hget Q (nx+j)=some (e.1,e.2.ren λj=>nx+j)):EQ (hget Q) (nx+2005001) (nx+2005002) (nx+2005003) (nx+2006000) (nx+2005004) (nx+2005005) (nx+2005006) (nx+(2006000+(HR s k).1.Big.Set.Tiles.length)) (nx+2005007) (HR s k).1:=by
 obtain⟨c,_,e⟩:=cH h;rw[e];have m3:=Xb s k;have m4:=(GE (Jd c).1).2.1;have e1:YO (s,k)=(AH s k).1.Set.Tiles.length:=by simp only[YO];omega
 have e2:jL (s,k)=s.Set.Tiles.length:=by simp only[jL];omega
 have hf: ∀q,q<(AH s k).1.Set.Tiles.length+s.Set.Tiles.length->hget (psC.H1 (s,k)) (2006000+q)=some (Kp (AH s k).1.Set.Tiles.length q (AH s k).1.Set.Tiles s.Set.Tiles):=λq hq=>by
  simp only[psC.H1,e1,e2];rw[Ai c];simp only[hget,Ar _ _ (show 2005001≠2006000+q by omega),Ar _ _ (show 2005002≠2006000+q by omega),Ar _ _ (show 2005003≠2006000+q by omega),Ar _ _ (show 2005004≠2006000+q by omega),Ar _ _ (show 2005005≠2006000+q by omega),Ar _ _ (show 2005006≠2006000+q by omega),Ar _ _ (show 2005007≠2006000+q by omega),Bk];exact Dp _ _ _ _ hq
 have g: ∀j e,(if (AH s k).2=0 then hget ([(2005001,(true,.arr 128 2 ((AH s k).1.Set.Glues.map Ad.c))),(2005002,(true,.arrA 126 2 (BK 2006000 (AH s k).1.Set.Tiles))),(2005003,(true,.arr 119 3 ((AH s k).1.Seed.Tiles.map Al.c))),(2005004,(true,.arr 128 2 (s.Set.Glues.map Ad.c))),(2005005,(true,.arrA 126 2 (BK (2006000+(AH s k).1.Set.Tiles.length) s.Set.Tiles))),(2005006,(true,.arr 119 3 (s.Seed.Tiles.map Al.c))),(2005007,(true,.arr 2 1 ((CL k.toNat (AH s k).1.Set.Tiles.length).map Ak)))]:An) j else none)=some e->hget Q (nx+j)=some (e.1,e.2.ren λj=>nx+j):=λj e z=>by
  refine Z j e ?_;rw[Ai c] at z;simp only[psC.H1,e1];rw[Ai c];simp only[hget] at z⊢;by_cases d1:2005001=j
  .subst d1;simpa using z
  rw[Ar _ _ d1] at z⊢;by_cases d2:2005002=j
  .subst d2;simpa using z
  rw[Ar _ _ d2] at z⊢;by_cases d3:2005003=j
  .subst d3;simpa using z
  rw[Ar _ _ d3] at z⊢;by_cases d4:2005004=j
  .subst d4;simpa using z
  rw[Ar _ _ d4] at z⊢;by_cases d5:2005005=j
  .subst d5;simpa using z
  rw[Ar _ _ d5] at z⊢;by_cases d6:2005006=j
  .subst d6;simpa using z
  rw[Ar _ _ d6] at z⊢;by_cases d7:2005007=j
  .subst d7;simpa using z
  rw[Ar _ _ d7] at z;simp at z
 simp only[Ai c] at g;refine⟨⟨g 2005001 _ rfl,?_,g 2005003 _ rfl,λi O=> ?_⟩,⟨g 2005004 _ rfl,?_,g 2005006 _ rfl,λi O=> ?_⟩,g 2005007 _ rfl⟩
 .rw[g 2005002 _ rfl,rE]
 .have:=Z _ _ (hf i (by simp only at O;omega))
  simp only at O;simp only[Kp] at this;rw[Ai O] at this;rw[Fa,this];rfl
 .rw[g 2005005 _ rfl,rE]
 .simp only at O
  have:=Z _ _ (hf ((AH s k).1.Set.Tiles.length+i) (by omega))
  simp only[Kp] at this;rw[Af (by omega),show (AH s k).1.Set.Tiles.length+i - (AH s k).1.Set.Tiles.length=i by omega] at this;rw[show nx+(2006000+(AH s k).1.Set.Tiles.length)+i=nx+(2006000+((AH s k).1.Set.Tiles.length+i)) by omega,this];rfl
def TP:kR Bt.d (.val EG)=some CT:=by
 simp only[kR,EG,Bt.d,AZ,Gw];rfl
def Lr(t:Bt):a2 (kR Bt.d) (kR Bt.d) [.val EG,.val (.agg (Bt.c t))]=some (CT,t):=by
 rw[a2,TP];simp only[kR,Bt.d_c,Gw]
def TO(k:Int):a2 (kR Bt.d) kI [.val EG,.val (.int .i64 k)]=some (CT,k):=by simp only[a2,TP,kI,Gw]
def cM(s:Bt)(k:Int):a2 (kR Bt.d) kI [.val (.agg (Bt.c s)),.val (.int .i64 k)]=some (s,k):=by simp only[a2,kR,kI,Bt.d_c,Gw]
def L2(s t:Bt):a2 (kR Bt.d) (kR Bt.d) [.val (.agg (Bt.c s)),.val (.agg (Bt.c t))]=some (s,t):=by simp only[a2,kR,Bt.d_c,Gw]
def lawPM.rc:D->Option (Bool):=W4
def lawPM.re:Bool->D:=D.bool
def lawPM.rle: ∀d b,lawPM.rc d=some b->Le d (lawPM.re b):=pY
def lawPM.ar:List PK->Option (A9×Int):=a2 (kR A9.d) kI
def lawPM.fv(a:A9×Int):Bool:=(λ_ _=>true) (a.1) (a.2)
def lawPM.row:AF:=vK (b2 (qR A9.d_le) qI) (RK.mk lawPM.rc lawPM.re lawPM.rle) (λa=>P0 a.1.Set) lawPM.fv
def lawPM.q:=Bd (R:=lawPM.row) rfl
def F8:=J @lawPM.fv.eq_1<|J @lawPM.rc.eq_1<|J @szSystem.q<|J @szSystem.fv.eq_1<|J @psS_.q<|J @psS_.fv.eq_1<|J @toSystem.fv.eq_1<|J @eqSimF.fv.eq_1 @eqSystemF.fv.eq_1
def lawPM.ok:AL 3 lawPM.row:=by
 refine vw (tC szSystem.ok (tC toYR.ok (tC psS_.ok (tC psV.ok (tC eqSimF.ok (tC eqSystemF.ok (tC mkSy.ok (tC mkMR.ok (tC heldM_.ok tN))))))))) Tryz.func3 ?_;intro a aa;simp only[Tryz.f3,Option.getD];simp(maxSteps:=9^9)(disch:=omega)only[ZZ,simprocAttr,Ab,F8];obtain⟨s,k⟩:=a;simp only at aa⊢;refine⟨aa,?_⟩;split
 .trivial
 rename_i c0;have hB:=Zz (s:=s) (l:=1048576) (by decide) (by decide) (by omega);have h1:=Vy (s:=s) (l:=1048576) (by decide) (by decide) (by omega);have hb:=Z0 s 1048576 (by decide);refine .inl (vK.call [.val (.agg (A9.c s))] rfl s (K3 s) h1 ?_);simp(maxSteps:=9^9)(disch:=omega)only[ZZ,simprocAttr,Ab,F8,sub,Bp];refine⟨aa,?_⟩;obtain⟨w,hw⟩: ∃w,w=HR s k:=⟨_,rfl⟩;obtain⟨z,w1⟩:=w;simp only[<-hw];refine .inr (AD.nw s hB.yx rfl rfl (xY hB) (by simp[toYX.r0,AV.nms,Au]) λHH hH1 O=> ?_);have S0:Ci (hget HH) 9 11 2000014 12 s:=xX hB hH1;have Q:hget HH 0=some (true,.cells 30 [AV.im (D.sl false 2 (List.map Ad.c s.Set.Glues)),AV.im (D.sl false 2 (List.map Tile.c s.Set.Tiles)),AV.im (D.sl false 3 (List.map Al.c s.Seed.Tiles)),AV.im (D.int IntKind.i64 s.Temperature)]):=O 0 (by omega);have k1:hget HH 1=some (true,.cells 43 [AV.im (D.sl false 2 (List.map Ad.c z.Big.Set.Glues)),AV.im (D.sl false 2 (List.map Tile.c z.Big.Set.Tiles)),AV.im (D.sl false 3 (List.map Al.c z.Big.Seed.Tiles)),AV.im (D.int IntKind.i64 z.Big.Temperature),AV.im (D.sl false 2 (List.map Ad.c z.Small.Set.Glues)),AV.im (D.sl false 2 (List.map Tile.c z.Small.Set.Tiles)),AV.im (D.sl false 3 (List.map Al.c z.Small.Seed.Tiles)),AV.im (D.int IntKind.i64 z.Small.Temperature),AV.im (D.int IntKind.i64 z.Scale),AV.im (D.sl false 1 (List.map Ak z.Labels))]):=O 1 (by omega);clear hH1 O;simp only[toYX.r0,AV.ren,AI];simp(maxSteps:=9^9)(disch:=omega)only[ZZ,simprocAttr,Ab,F8,sub,Bp,Q,k1];generalize hG:((2000015,(true,Ac.cells 40 [AV.own 9,AV.own 11,AV.own 2000014,AV.im (D.int IntKind.i64 s.Temperature)]))::AW HH [2000015]:An)=H1;have Q:=pg hG (by omega) Q;have k1:=pg hG (by omega) k1;have x0:hget H1 2000015=some (true,.cells 40 [AV.own 9,AV.own 11,AV.own 2000014,AV.im (D.int IntKind.i64 s.Temperature)]):=by rw[<-hG];rfl
 have S1:Ci (hget H1) 9 11 2000014 12 s:=S0.mono λm hm=>by rw[<-hG];exact G8 _ _ _ (by have:=hB.t;omega)
 clear hG S0;refine Fy.nw [.val (.agg (A9.c s)),.val (.int .i64 k)] (cE S1.pk rfl) (s,k) (jK s k) aa (λp hp=>⟨(KA _ p hp).1,(KA _ p hp).2.2.2⟩) (Nf _).2 λad hH1 O=> ?_
 have Q:hget ad 0=_:=(O 0 (by omega)).trans Q;have k1:hget ad 1=_:=(O 1 (by omega)).trans k1;have x0:hget ad 2000015=_:=(O _ (by omega)).trans x0;have S2:Ci (hget ad) 9 11 2000014 12 s:=S1.mono λm hm=>O m (by have:=hB.t;omega)
 clear S1;by_cases hc:(HR s k).2=0
 .have ai:w1=0:=by rw[<-hc,<-hw]
  have ac:z=(HR s k).1:=by rw[<-hw]
  obtain⟨ag,G0,af⟩:=cH hc;have hT:=jI ag;have G2:EQ (hget ad) 4005017 4005018 4005019 4006016 4005020 4005021 4005022 (4006016+z.Big.Set.Tiles.length) 4005023 z:=by
   have q:=cI hc hH1;rw[<-ac,show 2000016+(2006000+z.Big.Set.Tiles.length)=4006016+z.Big.Set.Tiles.length by omega] at q;exact q
  have er: ∀n,(psC.r0 (s,k)).ren (λj=>n+j)= .tup [.agg [.own (n+2005001),.own (n+2005002),.own (n+2005003),.im (.int .i64 z.Big.Temperature),.own (n+2005004),.own (n+2005005),.own (n+2005006),.im (.int .i64 z.Small.Temperature),.im (.int .i64 z.Scale),.own (n+2005007)],.im (.int .i64 0)]:=λn=>by
   rw[ac,af];simp only[psC.r0];rw[Ai ag];simp only[AV.ren,AI,hT]
  clear hH1 O;have t1:z.Big.Set.Tiles.length<=160:=by rw[ac,af];exact (GE (Jd ag).2.2).2.1
  have t2:z.Small.Set.Tiles.length<=160:=by rw[ac,af];exact (GE (Jd ag).1).2.1
  rw[er];rw[<-ac] at G0;subst ai;have e1:=(HY (show 4010016≠1 by decide)).trans k1;simp(maxSteps:=9^9)(disch:=omega)only[ZZ,simprocAttr,Ab,F8,sub,Bp,Q,k1,x0,e1];clear e1;generalize hG:((4010016,(true,Ac.cells 43 [AV.own 4005017,AV.own 4005018,AV.own 4005019,AV.im (D.int IntKind.i64 z.Big.Temperature),AV.own 4005020,AV.own 4005021,AV.own 4005022,AV.im (D.int IntKind.i64 z.Small.Temperature),AV.im (D.int IntKind.i64 z.Scale),AV.own 4005023]))::AW ad [4010016]:An)=H3;have Q:=pg hG (by omega) Q;have k1:=pg hG (by omega) k1;have x0:=pg hG (by omega) x0;have S3:Ci (hget H3) 9 11 2000014 12 s:=S2.mono λm hm=>by rw[<-hG];exact G8 _ _ _ (by have:=hB.t;omega)
  have G3:EQ (hget H3) 4005017 4005018 4005019 4006016 4005020 4005021 4005022 (4006016+z.Big.Set.Tiles.length) 4005023 z:=G2.mono λm hm=>by rw[<-hG];exact G8 _ _ _ (by omega)
  have g0:hget H3 4010016=some (true,.cells 43 [AV.own 4005017,AV.own 4005018,AV.own 4005019,AV.im (D.int IntKind.i64 z.Big.Temperature),AV.own 4005020,AV.own 4005021,AV.own 4005022,AV.im (D.int IntKind.i64 z.Small.Temperature),AV.im (D.int IntKind.i64 z.Scale),AV.own 4005023]):=by rw[<-hG];rfl
  clear hG S2 G2;refine CH.call [_,_] (cE G3.pk rfl) (z,z) (L2 _ _) trivial ?_;simp(maxSteps:=9^9)(disch:=omega)only[ZZ,simprocAttr,Ab,F8,sub,Bp,Q,k1,x0,g0,RJ];refine .inl (vK.callA [.val (.agg (A9.c s))] rfl s (K3 s) h1 rfl λu=> ?_);simp(maxSteps:=9^9)(disch:=omega)only[ZZ,simprocAttr,Ab,F8,sub,Bp,Q,k1,x0,g0];refine CH.callA [_,_] (cE S3.pk rfl) (s,s) (cO _ _) trivial rfl λu2=> ?_
  simp(maxSteps:=9^9)(disch:=omega)only[ZZ,simprocAttr,Ab,F8,sub,Bp,Q,k1,x0,g0,RJ];refine qG hB (by decide) (by decide) S3 (by decide) (by decide) (by decide) (by omega) (by omega) λab _ hk=> ?_
  have Q:hget ab 0=_:=(hk 0 (by omega) (by omega) (by omega) (by omega)).trans Q;have k1:hget ab 1=_:=(hk 1 (by omega) (by omega) (by omega) (by omega)).trans k1;have g0:hget ab 4010016=_:=(hk _ (by omega) (by omega) (by omega) (by omega)).trans g0;have G4:EQ (hget ab) 4005017 4005018 4005019 4006016 4005020 4005021 4005022 (4006016+z.Big.Set.Tiles.length) 4005023 z:=G3.mono λm hm=>hk m (by omega) (by omega) (by omega) (by omega)
  clear hk x0 S3 G3;obtain⟨y1,y2⟩:=hB.syK (k:=1) (by decide) (by decide);obtain⟨m1,hm1⟩: ∃m1,m1=syK (s,1)+3*s.Seed.Tiles.length:=⟨_,rfl⟩;rw[<-hm1] at y2;have y3:0<=m1:=by omega
  simp only[<-hm1];clear y1 hm1;simp(maxSteps:=9^9)(disch:=omega)only[ZZ,simprocAttr,Ab,F8,sub,Bp,Q,k1,g0];rw[Ai (by omega)];refine CH.call [_,_] (cE G4.pk rfl) (z,z) (L2 _ _) trivial ?_;simp(maxSteps:=9^9)(disch:=omega)only[ZZ,simprocAttr,Ab,F8,sub,Bp,Q,k1,g0,RJ];refine .inr (Px G0 (by decide) (by decide) G4 (by omega) (by omega) (by omega) λah G5 hk=> ?_);have Q:hget ah 0=_:=(hk 0 (by omega) (by omega) (by omega) (by omega) (by omega) (by omega) (by omega) (by omega) (by omega)).trans Q;have k1:hget ah 1=_:=(hk 1 (by omega) (by omega) (by omega) (by omega) (by omega) (by omega) (by omega) (by omega) (by omega)).trans k1;have g0:hget ah 4010016=_:=(hk _ (by omega) (by omega) (by omega) (by omega) (by omega) (by omega) (by omega) (by omega) (by omega)).trans g0;clear hk G4;have z0:0<=L3 (z,1):=by
   have p1:=(G0.a.sk (k:=1) (by decide) (by decide)).2;have p2:=(G0.b.sk (k:=Kq (z,1)) (by simp only[Kq];omega) (by simp only[Kq];omega)).2;simp only[L3];omega
  have z4:=Te G0 (k:=1) (by decide) (by decide);obtain⟨m2,hm2⟩: ∃m2,m2=L3 (z,1)+z.Labels.length:=⟨_,rfl⟩;rw[<-hm2] at z4;have z3:0<=m2:=by omega
  simp only[<-hm2];clear z0 hm2;have z5:heldM_.fv (IR z 1,1)=m2:=z4;have ak:(IR z 1).Big.Set.Tiles.length=z.Big.Set.Tiles.length:=Rp _ _;have am:(IR z 1).Small.Set.Tiles.length=z.Small.Set.Tiles.length:=Rp _ _;simp(maxSteps:=9^9)(disch:=omega)only[ZZ,simprocAttr,Ab,F8,sub,Bp,Q,k1,g0];refine CH.call [_,_] (cE (G5.pk (m:=IR z 1)) rfl) (IR z 1,1) (cM _ _) (MM G0) ?_;simp only[z5];simp(maxSteps:=9^9)(disch:=omega)only[ZZ,simprocAttr,Ab,F8,sub,Bp,Q,k1,g0];rw[Af (by omega)];refine .inl (vK.call [.val (.agg (A9.c s))] rfl s (K3 s) h1 ?_);simp(maxSteps:=9^9)(disch:=omega)only[ZZ,simprocAttr,Ab,F8,sub,Bp,Q,k1,g0];refine Fy.nw [.val (.agg (A9.c s)),.val (.int .i64 k)] rfl (s,k) (jK s k) aa (λp hp=>⟨(KA _ p hp).1,(KA _ p hp).2.2.2⟩) (Nf _).2 λZ hH1 O=> ?_
  have Q:hget Z 0=_:=(O 0 (by omega)).trans Q;have k1:hget Z 1=_:=(O 1 (by omega)).trans k1;have g0:hget Z 4010016=_:=(O _ (by omega)).trans g0;have G6:EQ (hget Z) 4005017 4005018 4005019 4006016 4005020 4005021 4005022 (4006016+z.Big.Set.Tiles.length) 4005023 (IR z 1):=G5.mono λm hm=>O m (by omega)
  have E6:EQ (hget Z) 6015018 6015019 6015020 6016017 6015021 6015022 6015023 (6016017+z.Big.Set.Tiles.length) 6015024 z:=by
   have q:=cI hc hH1;rw[<-ac,show 4010017+(2006000+z.Big.Set.Tiles.length)=6016017+z.Big.Set.Tiles.length by omega] at q;exact q
  clear hH1 O G5;rw[er];have e1:=(HY (show 6020017≠1 by decide)).trans k1;simp(maxSteps:=9^9)(disch:=omega)only[ZZ,simprocAttr,Ab,F8,sub,Bp,Q,k1,g0,e1];clear e1;generalize hG:((6020017,(true,Ac.cells 43 [AV.own 6015018,AV.own 6015019,AV.own 6015020,AV.im (D.int IntKind.i64 z.Big.Temperature),AV.own 6015021,AV.own 6015022,AV.own 6015023,AV.im (D.int IntKind.i64 z.Small.Temperature),AV.im (D.int IntKind.i64 z.Scale),AV.own 6015024]))::AW Z [6020017]:An)=H7;have g0:=pg hG (by omega) g0;have G7:EQ (hget H7) 4005017 4005018 4005019 4006016 4005020 4005021 4005022 (4006016+z.Big.Set.Tiles.length) 4005023 (IR z 1):=G6.mono λm hm=>by rw[<-hG];exact G8 _ _ _ (by omega)
  have E7:EQ (hget H7) 6015018 6015019 6015020 6016017 6015021 6015022 6015023 (6016017+z.Big.Set.Tiles.length) 6015024 z:=E6.mono λm hm=>by rw[<-hG];exact G8 _ _ _ (by omega)
  clear hG G6 E6;refine CH.call [_,_] (cE E7.pk rfl) (z,z) (L2 _ _) trivial ?_;simp(maxSteps:=9^9)(disch:=omega)only[ZZ,simprocAttr,Ab,F8,sub,Bp,g0,RJ];refine CH.call [_,_] (cE (G7.pk (m:=IR z 1)) rfl) (IR z 1,1) (cM _ _) (MM G0) ?_;simp only[z5];simp(maxSteps:=9^9)(disch:=omega)only[ZZ,simprocAttr,Ab,F8,sub,Bp,g0];rw[Af (by omega)];trivial
 .obtain⟨ag,af⟩:=YP hc;have ai:w1≠0:=by
   have:w1=(HR s k).2:=by rw[<-hw]
   rw[this];exact hc
  have aj:w1=(AH s k).2:=by
   have:w1=(HR s k).2:=by rw[<-hw]
   rw[this,af]
  have ac:z=CT:=by
   have:z=(HR s k).1:=by rw[<-hw]
   rw[this,af]
  have er: ∀n,(psC.r0 (s,k)).ren (λj=>n+j)= .im (.tup [EG,.int .i64 w1]):=λn=>by
   simp only[psC.r0];rw[Af ag,aj];rfl
  clear hH1 O aj af ag;rw[er];subst ac;have e1:=(HY (show 4010016≠1 by decide)).trans k1;simp(maxSteps:=9^9)(disch:=omega)only[ZZ,simprocAttr,Ab,F8,sub,Bp,Q,k1,x0,e1,EG];clear e1;generalize hG:((4010016,(true,Ac.cells 43 [AV.im (D.sl true 0 []),AV.im (D.sl true 0 []),AV.im (D.sl true 0 []),AV.im (D.int IntKind.i64 0),AV.im (D.sl true 0 []),AV.im (D.sl true 0 []),AV.im (D.sl true 0 []),AV.im (D.int IntKind.i64 0),AV.im (D.int IntKind.i64 0),AV.im (D.sl true 0 [])]))::AW ad [4010016]:An)=H3;have Q:=pg hG (by omega) Q;have k1:=pg hG (by omega) k1;have x0:=pg hG (by omega) x0;have S3:Ci (hget H3) 9 11 2000014 12 s:=S2.mono λm hm=>by rw[<-hG];exact G8 _ _ _ (by have:=hB.t;omega)
  have g0:hget H3 4010016=some (true,.cells 43 [AV.im (D.sl true 0 []),AV.im (D.sl true 0 []),AV.im (D.sl true 0 []),AV.im (D.int IntKind.i64 0),AV.im (D.sl true 0 []),AV.im (D.sl true 0 []),AV.im (D.sl true 0 []),AV.im (D.int IntKind.i64 0),AV.im (D.int IntKind.i64 0),AV.im (D.sl true 0 [])]):=by rw[<-hG];rfl
  clear hG S2;have n5:heldM_.fv (CT,1)=1:=rfl;refine CH.call [.val EG,.val (.agg (Bt.c CT))] rfl (CT,CT) (Lr CT) trivial ?_;simp(maxSteps:=9^9)(disch:=omega)only[ZZ,simprocAttr,Ab,F8,sub,Bp,Q,k1,x0,g0,RJ];refine .inl (vK.callA [.val (.agg (A9.c s))] rfl s (K3 s) h1 rfl λu=> ?_);simp(maxSteps:=9^9)(disch:=omega)only[ZZ,simprocAttr,Ab,F8,sub,Bp,Q,k1,x0,g0];refine CH.callA [_,_] (cE S3.pk rfl) (s,s) (cO _ _) trivial rfl λu2=> ?_
  simp(maxSteps:=9^9)(disch:=omega)only[ZZ,simprocAttr,Ab,F8,sub,Bp,Q,k1,x0,g0,RJ];refine qG hB (by decide) (by decide) S3 (by decide) (by decide) (by decide) (by omega) (by omega) λab _ hk=> ?_
  have Q:hget ab 0=_:=(hk 0 (by omega) (by omega) (by omega) (by omega)).trans Q;have k1:hget ab 1=_:=(hk 1 (by omega) (by omega) (by omega) (by omega)).trans k1;have g0:hget ab 4010016=_:=(hk _ (by omega) (by omega) (by omega) (by omega)).trans g0;clear hk x0 S3;obtain⟨y1,y2⟩:=hB.syK (k:=1) (by decide) (by decide);obtain⟨m1,hm1⟩: ∃m1,m1=syK (s,1)+3*s.Seed.Tiles.length:=⟨_,rfl⟩;rw[<-hm1] at y2;have y3:0<=m1:=by omega
  simp only[<-hm1];clear y1 hm1;simp(maxSteps:=9^9)(disch:=omega)only[ZZ,simprocAttr,Ab,F8,sub,Bp,Q,k1,g0];rw[Ai (by omega)];refine CH.call [.val EG,.val (.agg (Bt.c CT))] rfl (CT,CT) (Lr CT) trivial ?_;simp(maxSteps:=9^9)(disch:=omega)only[ZZ,simprocAttr,Ab,F8,sub,Bp,Q,k1,g0,RJ];refine .inl (vK.call [.val EG,.val (.int .i64 1)] rfl (CT,1) (TO _) ⟨⟨⟨rfl,rfl⟩,rfl⟩,⟨⟨rfl,rfl⟩,rfl⟩,rfl⟩ ?_);simp(maxSteps:=9^9)(disch:=omega)only[ZZ,simprocAttr,Ab,F8,sub,Bp,Q,k1,g0,mkM0.fv];refine CH.call [.val EG,.val (.int .i64 1)] rfl (CT,1) (TO _) (by decide) ?_;simp only[n5];simp(maxSteps:=9^9)(disch:=omega)only[ZZ,simprocAttr,Ab,F8,sub,Bp,Q,k1,g0];refine .inl (vK.call [.val (.agg (A9.c s))] rfl s (K3 s) h1 ?_);simp(maxSteps:=9^9)(disch:=omega)only[ZZ,simprocAttr,Ab,F8,sub,Bp,Q,k1,g0];refine Fy.nw [.val (.agg (A9.c s)),.val (.int .i64 k)] rfl (s,k) (jK s k) aa (λp hp=>⟨(KA _ p hp).1,(KA _ p hp).2.2.2⟩) (Nf _).2 λZ _ O=> ?_
  have k1:hget Z 1=_:=(O 1 (by omega)).trans k1;have g0:hget Z 4010016=_:=(O _ (by omega)).trans g0;clear O;rw[er];have e1:=(HY (show 6020017≠1 by decide)).trans k1;simp(maxSteps:=9^9)(disch:=omega)only[ZZ,simprocAttr,Ab,F8,sub,Bp,k1,g0,e1,EG];clear e1;generalize hG:((6020017,(true,Ac.cells 43 [AV.im (D.sl true 0 []),AV.im (D.sl true 0 []),AV.im (D.sl true 0 []),AV.im (D.int IntKind.i64 0),AV.im (D.sl true 0 []),AV.im (D.sl true 0 []),AV.im (D.sl true 0 []),AV.im (D.int IntKind.i64 0),AV.im (D.int IntKind.i64 0),AV.im (D.sl true 0 [])]))::AW Z [6020017]:An)=H7;have g0:=pg hG (by omega) g0;clear hG;refine CH.call [.val EG,.val (.agg (Bt.c CT))] rfl (CT,CT) (Lr CT) trivial ?_;simp(maxSteps:=9^9)(disch:=omega)only[ZZ,simprocAttr,Ab,F8,sub,Bp,g0,RJ];refine CH.call [.val EG,.val (.int .i64 1)] rfl (CT,1) (TO _) (by decide) ?_;simp only[n5];simp(maxSteps:=9^9)(disch:=omega)only[ZZ,simprocAttr,Ab,F8,sub,Bp,g0]
end Go.Ae
