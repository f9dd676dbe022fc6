/- Lemmas. Conditions: none. -/
import Derived.Test.YtpdpgenppceapaaGreatP08
set_option linter.all false
set_option maxHeartbeats 8000000
set_option maxRecDepth 100000
namespace Go.Ae
open Go.Proofs
def Ii(q n:Nat)(b:Bool)(i:Nat)(T:Tile):List AV:=[.im (.str T.Name),if i=0 then .own 4 else if b=true/\i+1=n then .own q else .im (.sl false 1 (T.Sides.map Af))]
def Eg(q:Nat)(l:List Tile)(b:Bool):List (List AV):=l.mapIdx (Ii q l.length b)
def Iq(q:Nat)(l:List Tile)(b:Bool):(Eg q l b).length=l.length:=by simp[Eg]
def NW{q:Nat}{l:List Tile}{b:Bool}{i:Nat}{T:Tile}(h:l[i]? =some T):(Eg q l b)[i]? =some (Ii q l.length b i T):=by
 rw[Eg,Xt,h];rfl
def KY(q:Nat)(l:List Tile)(b:Bool)(n:Nat)(h:5<=n)(O:q<n):(Eg q l b).all (AL n)=true:=by
 rw[HN];intro r G;obtain⟨i,z⟩:=EK.1 G;rw[Eg,Xt] at z;obtain⟨T,Q,rfl⟩:=DN.1 z;simp only[Ii];split
 .simp[AL,AV.bel];omega
 .split
  .simp[AL,AV.bel];omega
  .simp[AL,AV.bel]
def Yn(F:List Nat)(H:Au): ∀rows:List (List AV),CL F H rows=rows.map (CF F H)
 |[]=>rfl
 |r::z=>by rw[CL,Yn F H z];rfl
def Sl{q:Nat}(hq:q≠4){H:Au}{l:List Tile}{b:Bool}{L:List Int}{U:TypeId}(G:b=true->hget H q=some (true,.arr U 1 (L.map Af))/\ ∀T,l[l.length - 1]? =some T->T.Sides=L):CL [q] H (Eg q l b)=Eg q l false:=by
 rw[Yn];apply Ja;intro i;rw[DX,Eg,Eg,Xt,Xt];cases hT:l[i]? with
 |none=>rfl
 |some T=>
  simp only[CR,Ii];by_cases c:i=0
  .simp[c,CF,AV.fzA,hq,Fi hq]
  .by_cases z:b=true/\i+1=l.length
   .obtain⟨g1,g2⟩:=G z.1
    have:=g2 T (by rw[show l.length - 1=i by omega];exact hT)
    simp[c,z,CF,AV.fzA,HS,g1,FU,this]
   .simp[c,z,CF,AV.fzA]
def iT{q:Nat}{l:List Tile}(T:Tile)(h:l≠[]):Eg q (l++[T]) true=Eg q l false++[[.im (.str T.Name),.own q]]:=by
 have z:0<l.length:=eM.2 h;apply Ja;intro i;rw[Eg,Xt];rcases Ff i l.length with c|c
 .rw[Eh c,Eh (by rw[Iq];exact c),Eg,Xt];congr 1;funext T';simp only[Ii,CS,SN]
  have: ¬i=l.length:=by omega
  simp[this]
 .rw[Fe c,Fe (by rw[Iq];exact c),Iq];cases hi:i - l.length with
  |zero=>
   have:i=l.length:=by omega
   subst this;simp[Ii,h]
  |succ j=>simp
def Sp{q:Nat}{π:List (Nat×Option Nat)}(O:pm π 4=some 4)(l:List Tile):Fu π (Eg q l false) (Eg q l false):=by
 rw[YI];refine⟨rfl,λi x y z G=> ?_⟩;rw[z] at G;obtain rfl:=A8 G;rw[Eg,Xt] at z;obtain⟨T,Q,rfl⟩:=DN.1 z;simp only[Ii];split
 .simp[DB,mt,O,ET,Hw]
 .simp[DB,mt]
def OW(l:List Tile)(i d:Nat)(v:Int):(Fa l i d v).length=l.length:=by simp[Fa]
def KW(l:List Tile)(i d:Nat)(v:Int)(j:Nat):(Fa l i d v)[j]? =l[j]?.map λT=>if i=j then {T with Sides:=T.Sides.set d v} else T:=by
 rw[Fa,List.getElem?_modify]
 split<;>simp
def Ys{l:List Tile}{i d:Nat}{v:Int}(h: ∀T∈l,T.Sides.length=4): ∀T∈Fa l i d v,T.Sides.length=4:=by
 intro T G;obtain⟨j,z⟩:=EK.1 G;rw[KW] at z;obtain⟨U,O,rfl⟩:=DN.1 z
 have:=h U (Bd O)
 split
 .simpa using this
 .exact this
def NX{q:Nat}{l:List Tile}{b:Bool}{i d:Nat}{v:Int}(h:i=0\/(b=true/\i+1=l.length)):Eg q (Fa l i d v) b=Eg q l b:=by
 apply Ja;intro j;rw[Eg,Eg,Xt,Xt,KW,OW];cases hT:l[j]? with
 |none=>rfl
 |some T=>
  simp only[CR,Ii];by_cases c:i=j
  .subst c;rw[Ak rfl];by_cases z:i=0
   .simp[z]
   .have:b=true/\i+1=l.length:=h.resolve_left z
    simp[this]
  .rw[Ad c]
def Ls{m:Int}{x:Dc}(h:EY m x): ∀k:Nat,EY (m+k) (D9 k x).2/\(D9 k x).1.1.length=k+2/\(D9 k x).1.2.length=k+1/\ ∀T∈(D9 k x).1.2,T.Sides.length=4
 |0=>⟨by simpa[D9] using h,rfl,rfl,by simp[D9]⟩
 |k+1=>by
  obtain⟨G,O,Q,Z⟩:=Ls h k
  have:=DK G 2
  refine⟨this.mono (by omega),by simp[D9,O],by simp[D9,OW,Q],λT z=> ?_⟩;simp only[D9,B5,BN] at z;rcases z with z|rfl
  .exact Ys Z T z
  .rfl
def Lv{m:Int}{w:Nat}{s:(List AG×List Tile)×Dc}(h:EY m s.2)(G:s.1.1.length=w+2)(O:s.1.2.length=w+1)(Q: ∀T∈s.1.2,T.Sides.length=4): ∀k:Nat,EY (m+k) (DY w s k).2/\(DY w s k).1.1.length=w+k+2/\(DY w s k).1.2.length=w+k+1/\ ∀T∈(DY w s k).1.2,T.Sides.length=4
 |0=>⟨by simpa[DY] using h,by simpa[DY] using G,by simpa[DY] using O,by simpa[DY] using Q⟩
 |k+1=>by
  obtain⟨h1,g2,Z,g4⟩:=Lv h G O Q k
  have:=DK h1 2
  refine⟨this.mono (by omega),by simp[DY,g2];omega,by simp[DY,OW,Z];omega,λT z=> ?_⟩;simp only[DY,B5,BN] at z;rcases z with z|rfl
  .exact Ys g4 T z
  .rfl
def Lw{m:Int}{s:List Tile×Dc}(h:EY m s.2): ∀k:Nat,EY (m+2*k) (Gj s k).2/\(Gj s k).1.length=s.1.length+k
 |0=>⟨by simpa[Gj] using h,by simp[Gj]⟩
 |k+1=>by
  obtain⟨z,g2⟩:=Lw h k
  have:=DK (DK z 2) 2
  exact⟨this.mono (by omega),by simp[Gj,g2];omega⟩
def CE(l:List Tile)(b:Bool):List Int:=if b=true then ((l[l.length - 1]?).map Tile.Sides).getD [] else []
def Cu(l:List Tile):List Int:=((l[0]?).map Tile.Sides).getD []
def wS{l:List Tile}{d:Nat}{v:Int}:Cu (Fa l 0 d v)=(Cu l).set d v:=by
 rw[Cu,Cu,KW];cases l[0]? <;>simp
def wL{l:List Tile}{i d:Nat}{v:Int}(h:i≠0):Cu (Fa l i d v)=Cu l:=by
 rw[Cu,Cu,KW];cases l[0]? <;>simp[h]
def wT{l:List Tile}{i d:Nat}{v:Int}{b:Bool}(h:b=true->i+1=l.length):CE (Fa l i d v) b=(CE l b).set d v:=by
 rw[CE,CE,KW,OW];cases b with
 |false=>rfl
 |true=>
  have:i=l.length - 1:=by have:=h rfl;omega
  subst this;cases l[l.length - 1]? <;>simp
def wK{l:List Tile}(h: ∀T∈l,T.Sides.length=4)(z:l≠[]):(Cu l).length=4:=by
 cases l with
 |nil=>exact (z rfl).elim
 |cons T r=>exact h T (Ct ..)
def wH{l:List Tile}(h: ∀T∈l,T.Sides.length=4)(z:l≠[]):(CE l true).length=4:=by
 have hp:=eM.2 z;have e:l[l.length - 1]? =some l[l.length - 1]:=Bk (by omega);simp only[CE,Bt,e,CR,AJ];exact h _ (RF _)
def iS{l:List Tile}{T:Tile}(z:l≠[]):Cu (l++[T])=Cu l:=by
 cases l with
 |nil=>exact (z rfl).elim
 |cons U r=>rfl
def wP{l:List Tile}{T:Tile}:CE (l++[T]) true=T.Sides:=by
 simp[CE]
def Yt{l:List Tile}: ∀T,l[l.length - 1]? =some T->T.Sides=CE l true:=by
 intro T z;simp[CE,z]
def Wj(q q':Nat)(l:List Tile):Eg q l false=Eg q' l false:=by
 have:Ii q l.length false=Ii q' l.length false:=by funext i T;simp[Ii]
 rw[Eg,Eg,this]
def Ir(k j:Nat):Nat:=if j=0 then 0 else k+j
def QD{q q':Nat}{H:Au}{l:List Tile}{nm:ByteArray}{S:List Int}{U:TypeId}(G:q'≠4)(hq:hget H q'=some (true,.arr U 1 (S.map Af)))(h:l≠[]):CL [q'] H (Eg q l false++[[.im (.str nm),.own q']])=Eg q (l++[⟨nm,S⟩]) false:=by
 rw[Wj q q' l,Wj q q' (l++_),<-iT ⟨nm,S⟩ h];exact Sl G (λ_=>⟨hq,λT z=>by simp at z;rw[<-z]⟩)
def wJ{F:List Nat}{q:Nat}{H:Au}{l:List Tile}{U:TypeId}(h:F.contains 4=true)(z:hget H 4=some (true,.arr U 1 ((Cu l).map Af))):CL F H (Eg q l false)=Bo (l.map Tile.c):=by
 rw[Yn];apply Ja;intro i;rw[DX,Eg,Xt,Bo,DX,DX];cases hT:l[i]? with
 |none=>rfl
 |some T=>
  simp only[CR,Ii];by_cases c:i=0
  .subst c;have e:Cu l=T.Sides:=by simp[Cu,hT]
   rw[e] at z;simp only[ZdM,BA] at h;simp[CF,AV.fzA,h,HS,z,FU,Tile.c]
  .simp[c,CF,AV.fzA,Tile.c]
def M2{s:List Tile×Dc}(h:s.1≠[]): ∀k:Nat,Cu (Gj s k).1=Cu s.1
 |0=>rfl
 |k+1=>by
  have z:(Gj s k).1≠[]:=by
   cases k with
   |zero=>exact h
   |succ k=>simp[Gj]
  simp only[Gj];rw[iS z,M2 h k]
def cor_.H1(x:Dc):Au:=(0,(true,.cells 125 (Am (EP x).2)))::Bf (EP x).1
def cor_.row:AO:=AM wld_.ca Ay 1 (λx=>EY 900 x) B3 (λx=>Bg (EP x).1) cor_.H1 80
def E3:=J @dec_.q @dec_.fv.eq_1
def cor_.ok:AS 107 cor_.row:=by
 refine VA (tC pck_.ok (tC one_.ok (tC dec_.ok tN))) Tryz.func107 (exB:=λj=>Nat.ble 1 j) (R:=λx r=>r=Bg (EP x).1) (λ_=>rfl)
  (λa=>by simp[wld_.ca,Ay,Am,cor_.H1,Bf,Bg,B3,AL,AV.bel,AH,Cz,Df,Ah.nms,AE,AV.nms,Av,hget]) (λa p hp=> ?_) (λa r h=>by subst h;exact ED.refl _) ?_
 rotate_left
 intro a az;simp only[Tryz.f107,Option.getD,wld_.ca,Ay,Am,cor_.H1,Bf,Bg,B3];simp(disch:=omega)only[ZZ,simprocAttr,Ab,E3,AR,Az,wld_.ca,Ay,Am,cor_.H1,Bf,Bg,B3]
 .obtain⟨x,rfl⟩: ∃x,x=a:=⟨_,rfl⟩;refine AM.os (x,4) [0] ⟨az.mono (by omega),by simp only;omega⟩ (λj=>E6 _ j) rfl rfl ?_ ?_
  .simp(disch:=omega)only[ZZ,simprocAttr,Ab,E3,AR,Az,wld_.ca,Ay,Am,cor_.H1,Bf,Bg,B3,pck_.ca,pck_.H0,Ay,Am,Bt,Cl]
   try exact⟨rfl,rfl⟩
  have hb:=GV x 4;have b8:=hb.2 (by decide);have ba:=DK az 4;have hw:IntKind.i64.wrap (1+(AD x 4).1)=1+(AD x 4).1:=AF (by omega) (by omega);simp(disch:=omega)only[ZZ,simprocAttr,Ab,E3,AR,Az,wld_.ca,Ay,Am,cor_.H1,Bf,Bg,B3,pck_.H1,Ay,Am,B3,sub,Cl,hw];obtain⟨y,hy⟩: ∃y,y=(AD x 4).2:=⟨_,rfl⟩;obtain⟨w,hwd⟩: ∃w,w=1+(AD x 4).1:=⟨_,rfl⟩;rw[<-hy] at ba;simp only[<-hy,<-hwd];refine AM.os (y,4) [0] ⟨ba.mono (by omega),by simp only;omega⟩ (λj=>E6 _ j) rfl rfl ?_ ?_
  .simp(disch:=omega)only[ZZ,simprocAttr,Ab,E3,AR,Az,wld_.ca,Ay,Am,cor_.H1,Bf,Bg,B3,pck_.ca,pck_.H0,Ay,Am,Bt,Cl]
   try exact⟨rfl,rfl⟩
  have bj:=(GV y 4);have b9:=bj.2 (by decide);have ax:=DK ba 4;have bw:IntKind.i64.wrap (1+(AD y 4).1)=1+(AD y 4).1:=AF (by omega) (by omega);simp(disch:=omega)only[ZZ,simprocAttr,Ab,E3,AR,Az,wld_.ca,Ay,Am,cor_.H1,Bf,Bg,B3,pck_.H1,Ay,Am,B3,sub,Cl,bw];obtain⟨z,hz⟩: ∃z,z=(AD y 4).2:=⟨_,rfl⟩;obtain⟨g,hg⟩: ∃g,g=1+(AD y 4).1:=⟨_,rfl⟩;rw[<-hz] at ax;simp only[<-hz,<-hg];refine⟨by simp[AL,AV.bel],?_⟩;have e0:CE (D9 0 z).1.2 false=[]:=rfl;have e4:(Cu (D9 0 z).1.2).map Af=[[.int .i64 0],[.int .i64 0],[.int .i64 0],[.int .i64 0]]:=rfl;have eg:(D9 0 z).1.1.map AG.c=[[.str ⟨#[122,101,114,111]⟩,.int .i64 1],[.str ⟨#[111,110,101]⟩,.int .i64 1]]:=rfl;have et:Eg 7 (D9 0 z).1.2 false=[[.im (.str ⟨#[115,101,101,100]⟩),.own 4]]:=rfl;refine Bc.frr ⟨{k:Nat//k<=w.toNat},λk=>⟨[(8,.im (.int .i64 k.1)),(7,.im (.int .i64 k.1)),(5,.ptr 2 0),(4,.im (.int .i64 g)),(3,.im (.int .i64 w)),(2,.ptr 1 0),(0,.ptr 0 0)],[(0,(true,.cells 125 (Am (D9 k.1 z).2))),(2,(true,.cells 27 [.own 8,.own 9])),(1,(true,.cells 32 [.im (.sl true 0 []),.im (.sl true 0 []),.im (.sl true 0 []),.im (.int .i64 0)])),(4,(true,.arr 2 1 ((Cu (D9 k.1 z).1.2).map Af))),(7,(true,.arr 2 1 ((CE (D9 k.1 z).1.2 (decide (0<k.1))).map Af))),(8,(true,.arr 133 2 ((D9 k.1 z).1.1.map AG.c))),(9,(true,.arrA 135 2 (Eg 7 (D9 k.1 z).1.2 (decide (0<k.1)))))],10⟩,λk=>w.toNat - k.1,λk=>⟨by simp[ZG,Am,KY],by simp⟩,⟨⟨0,Cx _⟩,[],[(7,none),(8,some 3),(9,some 6)],?_⟩,λk=> ?_⟩
  .simp only[Ao,Zep,sF,e0,e4,eg,et];simp(disch:=omega)only[ZZ,simprocAttr,Ab,E3,AR,Az,wld_.ca,Ay,Am,cor_.H1,Bf,Bg,B3,Am,AU,AT];exact⟨rfl,rfl,rfl⟩
  obtain⟨k,hk⟩:=k;obtain⟨G,Q,O,Z⟩:=Ls ax k;have au:=Iq 7 (D9 k z).1.2 (decide (0<k));simp only[Am];simp(disch:=omega)only[ZZ,simprocAttr,Ab,E3,AR,Az,wld_.ca,Ay,Am,cor_.H1,Bf,Bg,B3,sub,AQ];refine⟨λbr=>⟨by omega,?_,by omega,by omega,by omega,?_⟩,λbr=> ?_⟩
  .show 1+1<=9223372036854775807;omega
  .obtain⟨l,hl⟩: ∃l,l=(D9 k z).1.2:=⟨_,rfl⟩;obtain⟨gl,hgl⟩: ∃gl,gl=(D9 k z).1.1:=⟨_,rfl⟩;obtain⟨r,hr⟩: ∃r,r=(D9 k z).2:=⟨_,rfl⟩;rw[<-hl] at O Z au;rw[<-hgl] at Q;rw[<-hr] at G;simp only[<-hl,<-hgl,<-hr];obtain⟨T,hT⟩: ∃T,l[k]? =some T:=⟨_,Bk (by omega)⟩;have aj:l≠[]:=λh=>by rw[h] at O;simp at O
   have bi:=wK Z aj;have ai:((gl.map AG.c++[[D.str (⟨#[120]⟩++Ly (k:Int)),D.int .i64 2]]).length:Int)=(k:Int)+3:=by simp[Q];omega
   obtain⟨l',hl'⟩: ∃l',l'=Fa l k 1 ((k:Int)+3):=⟨_,rfl⟩;have ab:l'.length=k+1:=by rw[hl',OW,O]
   have bd: ∀T∈l',T.Sides.length=4:=by rw[hl'];exact Ys Z
   have af:l'≠[]:=λh=>by rw[h] at ab;simp at ab
   have aq:Eg 7 l (decide (0<k))=Eg 7 l' (decide (0<k)):=by
    rw[hl',NX];by_cases c:k=0
    .exact .inl c
    .exact .inr ⟨by simp;omega,O.symm⟩
   have ah:=Iq 7 l' (decide (0<k));refine dL (NW hT) ?_;by_cases c:k=0
   case' pos=>
    have e1:Ii 7 l.length (decide (0<k)) k T=[.im (.str T.Name),.own 4]:=by simp[Ii,c]
    have eF:(Cu l).set 1 ((k:Int)+3)=Cu l':=by rw[hl',c,wS]
    have eB:CE l (decide (0<k))=CE l' (decide (0<k)):=by rw[c];rfl
    rw[e1];simp(disch:=omega)only[ZZ,simprocAttr,Ab,E3,AR,Az,wld_.ca,Ay,Am,cor_.H1,Bf,Bg,B3,sub,AQ,Yo,Q,ai,eF,eB,aq];refine⟨by omega,by omega,λ_ _=>⟨by omega,by show 1+1<=9223372036854775807;omega,?_⟩⟩
   case' neg=>
    have cd:decide (0<k)=true:=by simp;omega
    have e1:Ii 7 l.length (decide (0<k)) k T=[.im (.str T.Name),.own 7]:=by simp[Ii,c];omega
    have eF:Cu l=Cu l':=by rw[hl',wL c]
    have eB:(CE l (decide (0<k))).set 1 ((k:Int)+3)=CE l' (decide (0<k)):=by rw[hl',wT (λ_=>O.symm)]
    have bh:(CE l (decide (0<k))).length=4:=by rw[cd];exact wH Z aj
    rw[e1];simp(disch:=omega)only[ZZ,simprocAttr,Ab,E3,AR,Az,wld_.ca,Ay,Am,cor_.H1,Bf,Bg,B3,sub,AQ,Yo,Q,ai,eF,eB,aq];refine⟨by omega,by omega,λ_ _=>⟨by omega,by show 1+1<=9223372036854775807;omega,?_⟩⟩
   all_goals
    refine AM.os (r,2) [0] ⟨G.mono (by omega),by simp only;omega⟩ (λj=>E6 _ j) rfl rfl ?_ ?_
    .simp(disch:=omega)only[ZZ,simprocAttr,Ab,E3,AR,Az,wld_.ca,Ay,Am,cor_.H1,Bf,Bg,B3,pck_.ca,pck_.H0,Ay,Am,Bt,Cl]
     try exact⟨rfl,rfl⟩
    have ak:=GV r 2;have bc:=ak.2 (by decide);have ag:=DK G 2;have av:IntKind.i64.wrap (1+(AD r 2).1)=1+(AD r 2).1:=AF (by omega) (by omega);simp(disch:=omega)only[ZZ,simprocAttr,Ab,E3,AR,Az,wld_.ca,Ay,Am,cor_.H1,Bf,Bg,B3,pck_.H1,Ay,Am,B3,sub,Cl,av,ah,ai];have am:(((Eg 7 l' (decide (0<k))++[[AV.im (D.str (⟨#[101]⟩++Ly (k:Int))),AV.own 12]]).length:Nat):Int)=(k:Int)+2:=by simp[ah,ab];omega
    refine⟨by simp[AL,AV.bel],by omega,by rw[Mp,KY _ _ _ _ (by omega) (by omega)];simp[AL,AV.bel],by simp,λ_=> ?_⟩;simp only[am];refine⟨⟨k+1,by omega⟩,[7],[(7,some 12),(8,some 11),(9,some 14)],by simp only;omega,?_⟩;have eD:decide (0<k+1)=true:=by simp
    have eN:(D9 (k+1) z).1.2=l'++[⟨Jh 101 k,[1+(AD r 2).1,0,0,(k:Int)+3]⟩]:=by rw[hl',hl,hr];rfl
    have eG:(D9 (k+1) z).1.1=gl++[⟨Jh 120 k,2⟩]:=by rw[hgl];rfl
    have eR:(D9 (k+1) z).2=(AD r 2).2:=by rw[hr];rfl
    simp only[Ao,Am,eD,eN,eG,eR,iT _ af,wP,iS af];simp(disch:=omega)only[ZZ,simprocAttr,Ab,E3,AR,Az,wld_.ca,Ay,Am,cor_.H1,Bf,Bg,B3,AU,AT,Xl];refine⟨⟨by rw[AF (by omega) (by omega)];omega,by rw[AF (by omega) (by omega)];omega⟩,by simp[AG.c,Jh],?_⟩;rw[Sl (by decide) (L:=CE l' (decide (0<k))) (U:=2) (λhb=>⟨rfl,by rw[hb];exact Yt⟩)];exact Yv (Sp rfl _) ⟨rfl,rfl,trivial⟩
  .obtain⟨l,hl⟩: ∃l,l=(D9 k z).1.2:=⟨_,rfl⟩;obtain⟨gl,hgl⟩: ∃gl,gl=(D9 k z).1.1:=⟨_,rfl⟩;obtain⟨r,hr⟩: ∃r,r=(D9 k z).2:=⟨_,rfl⟩;have bt:k=w.toNat:=by omega
   have cd:decide (0<k)=true:=by simp;omega
   rw[<-hl] at O Z au;rw[<-hgl] at Q;rw[<-hr] at G;simp only[<-hl,<-hgl,<-hr,cd];obtain⟨s0,hs0⟩: ∃s0,s0=((gl,l),r):=⟨_,rfl⟩;refine Bc.frr ⟨{j:Nat//j<=g.toNat},λj=>⟨[(9,.im (.int .i64 j.1)),(7,.im (.int .i64 (Ir k j.1:Nat))),(5,.ptr 2 0),(4,.im (.int .i64 g)),(3,.im (.int .i64 w)),(2,.ptr 1 0),(0,.ptr 0 0)],[(0,(true,.cells 125 (Am (DY k s0 j.1).2))),(2,(true,.cells 27 [.own 11,.own 12])),(1,(true,.cells 32 [.im (.sl true 0 []),.im (.sl true 0 []),.im (.sl true 0 []),.im (.int .i64 0)])),(4,(true,.arr 2 1 ((Cu (DY k s0 j.1).1.2).map Af))),(10,(true,.arr 2 1 ((CE (DY k s0 j.1).1.2 (decide (0<j.1))).map Af))),(11,(true,.arr 133 2 ((DY k s0 j.1).1.1.map AG.c))),(12,(true,.arrA 135 2 (Eg 10 (DY k s0 j.1).1.2 (decide (0<j.1)))))],13⟩,λj=>g.toNat - j.1,λj=>⟨by simp[ZG,Am,KY],by simp⟩,⟨⟨0,Cx _⟩,[7],[(10,none),(11,some 8),(12,some 9)],?_⟩,λj=> ?_⟩
   .have a9:DY k s0 0=((gl,l),r):=hs0;have eb:CE l false=[]:=rfl;simp only[Ao,Zep,sF,a9,eb,Am];simp(disch:=omega)only[ZZ,simprocAttr,Ab,E3,AR,Az,wld_.ca,Ay,Am,cor_.H1,Bf,Bg,B3,Am,AU,AT];rw[Sl (by decide) (L:=CE l true) (U:=2) (λ_=>⟨rfl,Yt⟩),Wj 7 10];refine⟨by simp[Ir],Sp ?_ _⟩;rfl
   obtain⟨j,hj⟩:=j;obtain⟨G,Q,O,Z⟩:=Lv (s:=s0) (m:=900+1+1+k) (w:=k) (by rw[hs0];exact G) (by rw[hs0];exact Q) (by rw[hs0];exact O) (by rw[hs0];exact Z) j;have au:=Iq 10 (DY k s0 j).1.2 (decide (0<j));simp only[Am];simp(disch:=omega)only[ZZ,simprocAttr,Ab,E3,AR,Az,wld_.ca,Ay,Am,cor_.H1,Bf,Bg,B3,sub,AQ];have hp:Ir k j<k+j+1/\(j=0/\Ir k j=0\/0<j/\Ir k j=k+j):=by unfold Ir;split<;>omega
   refine⟨λbp=>⟨by omega,?_,?_⟩,λbp=> ?_⟩
   .show 1+1<=9223372036854775807;omega
   .refine⟨by omega,by omega,by omega,?_⟩;obtain⟨l2,hlq⟩: ∃l2,l2=(DY k s0 j).1.2:=⟨_,rfl⟩;obtain⟨aa,hgl2⟩: ∃aa,aa=(DY k s0 j).1.1:=⟨_,rfl⟩;obtain⟨r2,hr2⟩: ∃r2,r2=(DY k s0 j).2:=⟨_,rfl⟩;rw[<-hlq] at O Z au;rw[<-hgl2] at Q;rw[<-hr2] at G;simp only[<-hlq,<-hgl2,<-hr2];obtain⟨p,hpd⟩: ∃p,p=Ir k j:=⟨_,rfl⟩;have bv:(if j=0 then 0 else k+j)=p:=hpd.symm;rw[<-hpd] at hp;simp only[<-hpd];obtain⟨T,hT⟩: ∃T,l2[p]? =some T:=⟨_,Bk (by omega)⟩;have aj:l2≠[]:=λh=>by rw[h] at O;simp at O
    have bi:=wK Z aj;have ai:((aa.map AG.c++[[D.str (⟨#[121]⟩++Ly (j:Int)),D.int .i64 2]]).length:Int)=(k:Int)+j+3:=by simp[Q];omega
    obtain⟨l',hl'⟩: ∃l',l'=Fa l2 p 0 ((k:Int)+j+3):=⟨_,rfl⟩;have ab:l'.length=k+j+1:=by rw[hl',OW,O]
    have bd: ∀T∈l',T.Sides.length=4:=by rw[hl'];exact Ys Z
    have af:l'≠[]:=λh=>by rw[h] at ab;simp at ab
    have aq:Eg 10 l2 (decide (0<j))=Eg 10 l' (decide (0<j)):=by
     rw[hl',NX];by_cases c:j=0
     .exact .inl (by omega)
     .exact .inr ⟨by simp;omega,by omega⟩
    have ah:=Iq 10 l' (decide (0<j));refine dL (NW hT) ?_;by_cases c:j=0
    case' pos=>
     have ao:p=0:=by omega
     have e1:Ii 10 l2.length (decide (0<j)) p T=[.im (.str T.Name),.own 4]:=by simp[Ii,ao]
     have eF:(Cu l2).set 0 ((k:Int)+j+3)=Cu l':=by rw[hl',ao,wS]
     have eB:CE l2 (decide (0<j))=CE l' (decide (0<j)):=by rw[c];rfl
     rw[e1];simp(disch:=omega)only[ZZ,simprocAttr,Ab,E3,AR,Az,wld_.ca,Ay,Am,cor_.H1,Bf,Bg,B3,sub,AQ,Yo,Q,ai,eF,eB,aq];refine⟨by omega,by omega,λ_ _=>⟨by omega,by show 1+1<=9223372036854775807;omega,?_⟩⟩
    case' neg=>
     have cd:decide (0<j)=true:=by simp;omega
     have ao:p≠0:=by omega
     have e1:Ii 10 l2.length (decide (0<j)) p T=[.im (.str T.Name),.own 10]:=by simp[Ii,ao,cd];omega
     have eF:Cu l2=Cu l':=by rw[hl',wL ao]
     have eB:(CE l2 (decide (0<j))).set 0 ((k:Int)+j+3)=CE l' (decide (0<j)):=by rw[hl',wT (λ_=>by omega)]
     have bh:(CE l2 (decide (0<j))).length=4:=by rw[cd];exact wH Z aj
     rw[e1];simp(disch:=omega)only[ZZ,simprocAttr,Ab,E3,AR,Az,wld_.ca,Ay,Am,cor_.H1,Bf,Bg,B3,sub,AQ,Yo,Q,ai,eF,eB,aq];refine⟨by omega,by omega,λ_ _=>⟨by omega,by show 1+1<=9223372036854775807;omega,?_⟩⟩
    all_goals
     refine AM.os (r2,2) [0] ⟨G.mono (by omega),by simp only;omega⟩ (λj=>E6 _ j) rfl rfl ?_ ?_
     .simp(disch:=omega)only[ZZ,simprocAttr,Ab,E3,AR,Az,wld_.ca,Ay,Am,cor_.H1,Bf,Bg,B3,pck_.ca,pck_.H0,Ay,Am,Bt,Cl]
      try exact⟨rfl,rfl⟩
     have ak:=GV r2 2;have bc:=ak.2 (by decide);have ag:=DK G 2;have av:IntKind.i64.wrap (1+(AD r2 2).1)=1+(AD r2 2).1:=AF (by omega) (by omega);simp(disch:=omega)only[ZZ,simprocAttr,Ab,E3,AR,Az,wld_.ca,Ay,Am,cor_.H1,Bf,Bg,B3,pck_.H1,Ay,Am,B3,sub,Cl,av,ah,ai];have am:(((Eg 10 l' (decide (0<j))++[[AV.im (D.str (⟨#[110]⟩++Ly (j:Int))),AV.own 15]]).length:Nat):Int)=(k:Int)+j+2:=by simp[ah,ab];omega
     refine⟨by simp[AL,AV.bel],by omega,by rw[Mp,KY _ _ _ _ (by omega) (by omega)];simp[AL,AV.bel],by simp,λ_=> ?_⟩;simp only[am];refine⟨⟨j+1,by omega⟩,[10],[(10,some 15),(11,some 14),(12,some 17)],by simp only;omega,?_⟩;have eD:decide (0<j+1)=true:=by simp
     have eL:Ir k (j+1)=k+j+1:=by simp[Ir];omega
     have eN:(DY k s0 (j+1)).1.2=l'++[⟨Jh 110 j,[0,1+(AD r2 2).1,(k:Int)+j+3,0]⟩]:=by rw[hl',<-bv,hr2];simp only[DY];rw[<-hlq]
     have eG:(DY k s0 (j+1)).1.1=aa++[⟨Jh 121 j,2⟩]:=by rw[hgl2];rfl
     have eR:(DY k s0 (j+1)).2=(AD r2 2).2:=by rw[hr2];rfl
     simp only[Ao,Am,eD,eL,eN,eG,eR,iT _ af,wP,iS af];simp(disch:=omega)only[ZZ,simprocAttr,Ab,E3,AR,Az,wld_.ca,Ay,Am,cor_.H1,Bf,Bg,B3,AU,AT,Xl];refine⟨⟨by rw[AF (by omega) (by omega)];omega,by rw[AF (by omega) (by omega)];omega⟩,by simp[AG.c,Jh],?_⟩;rw[Sl (by decide) (L:=CE l' (decide (0<j))) (U:=2) (λhb=>⟨rfl,by rw[hb];exact Yt⟩)];exact Yv (Sp rfl _) ⟨rfl,rfl,trivial⟩
   .obtain⟨l2,hlq⟩: ∃l2,l2=(DY k s0 j).1.2:=⟨_,rfl⟩;obtain⟨aa,hgl2⟩: ∃aa,aa=(DY k s0 j).1.1:=⟨_,rfl⟩;obtain⟨r2,hr2⟩: ∃r2,r2=(DY k s0 j).2:=⟨_,rfl⟩;have bq:j=g.toNat:=by omega
    have cj:decide (0<j)=true:=by simp;omega
    rw[<-hlq] at O Z au;rw[<-hgl2] at Q;rw[<-hr2] at G;simp only[<-hlq,<-hgl2,<-hr2,cj];have aj:l2≠[]:=λh=>by rw[h] at O;simp at O
    have bf:EY 920 r2:=G.mono (by omega);obtain⟨s1,hs1⟩: ∃s1,s1=(l2,r2):=⟨_,rfl⟩;refine Bc.frr ⟨{i:Nat//i<=4},λi=>⟨[(10,.im (.int .i64 i.1)),(5,.ptr 2 0),(2,.ptr 1 0),(0,.ptr 0 0)],[(0,(true,.cells 125 (Am (Gj s1 i.1).2))),(2,(true,.cells 27 [.own 11,.own 13])),(1,(true,.cells 32 [.im (.sl true 0 []),.im (.sl true 0 []),.im (.sl true 0 []),.im (.int .i64 0)])),(4,(true,.arr 2 1 ((Cu l2).map Af))),(11,(true,.arr 133 2 (aa.map AG.c))),(13,(true,.arrA 135 2 (Eg 10 (Gj s1 i.1).1 false)))],14⟩,λi=>4 - i.1,λi=>⟨by simp[ZG,Am,KY],by simp⟩,⟨⟨0,Cx _⟩,[10],[(13,some 12)],?_⟩,λi=> ?_⟩
    .have a9:Gj s1 0=(l2,r2):=hs1;simp only[Ao,a9,Am];simp(disch:=omega)only[ZZ,simprocAttr,Ab,E3,AR,Az,wld_.ca,Ay,Am,cor_.H1,Bf,Bg,B3,Am,AU,AT];rw[Sl (by decide) (L:=CE l2 true) (U:=2) (λ_=>⟨rfl,Yt⟩)];refine Sp ?_ _;rfl
    obtain⟨i,hi⟩:=i;obtain⟨ad,am⟩:=Lw (s:=s1) (m:=920) (by rw[hs1];exact bf) i;have aw:(Gj s1 i).1.length=k+j+1+i:=by rw[am,hs1];simp only;omega
    simp only[Am];simp(disch:=omega)only[ZZ,simprocAttr,Ab,E3,AR,Az,wld_.ca,Ay,Am,cor_.H1,Bf,Bg,B3,sub,AQ];refine⟨λbo=> ?_,λbo=> ?_⟩
    .obtain⟨l3,hl3d⟩: ∃l3,l3=(Gj s1 i).1:=⟨_,rfl⟩;obtain⟨r3,hr3⟩: ∃r3,r3=(Gj s1 i).2:=⟨_,rfl⟩;rw[<-hl3d] at aw;rw[<-hr3] at ad;simp only[<-hl3d,<-hr3];have be:l3≠[]:=λh=>by rw[h] at aw;simp only[Hx] at aw;omega
     have a0:=Iq 10 l3 false;refine AM.os (r3,2) [0] ⟨ad.mono (by omega),by simp only;omega⟩ (λj=>E6 _ j) rfl rfl ?_ ?_
     .simp(disch:=omega)only[ZZ,simprocAttr,Ab,E3,AR,Az,wld_.ca,Ay,Am,cor_.H1,Bf,Bg,B3,pck_.ca,pck_.H0,Ay,Am,Bt,Cl]
      try exact⟨rfl,rfl⟩
     have ak:=GV r3 2;have bc:=ak.2 (by decide);have ag:=DK ad 2;have av:IntKind.i64.wrap (1+(AD r3 2).1)=1+(AD r3 2).1:=AF (by omega) (by omega);simp(disch:=omega)only[ZZ,simprocAttr,Ab,E3,AR,Az,wld_.ca,Ay,Am,cor_.H1,Bf,Bg,B3,pck_.H1,Ay,Am,B3,sub,Cl,av,a0];refine⟨by omega,by show 1+1<=9223372036854775807;omega,?_⟩;obtain⟨r4,hr4⟩: ∃r4,r4=(AD r3 2).2:=⟨_,rfl⟩;rw[<-hr4] at ag;simp only[<-hr4];refine AM.os (r4,2) [0] ⟨ag.mono (by omega),by simp only;omega⟩ (λj=>E6 _ j) rfl rfl ?_ ?_
     .simp(disch:=omega)only[ZZ,simprocAttr,Ab,E3,AR,Az,wld_.ca,Ay,Am,cor_.H1,Bf,Bg,B3,pck_.ca,pck_.H0,Ay,Am,Bt,Cl]
      try exact⟨rfl,rfl⟩
     have bb:=GV r4 2;have b0:=bb.2 (by decide);have bu:=DK ag 2;have bg:IntKind.i64.wrap (1+(AD r4 2).1)=1+(AD r4 2).1:=AF (by omega) (by omega);simp(disch:=omega)only[ZZ,simprocAttr,Ab,E3,AR,Az,wld_.ca,Ay,Am,cor_.H1,Bf,Bg,B3,pck_.H1,Ay,Am,B3,sub,Cl,bg,a0];have hm:IntKind.i64.wrap (1+(i:Int).tmod 2)=1+(i:Int) % 2:=by
      rw[eT (by omega)];exact AF (by omega) (by omega)
     have hd:IntKind.i64.wrap (1+IntKind.i64.wrap ((i:Int).tdiv 2))=1+(i:Int)/2:=by
      rw[Zdl (by omega),AF (x:=(i:Int)/2) (by omega) (by omega)];exact AF (by omega) (by omega)
     simp only[hm,hd];refine⟨by simp[AL,AV.bel],by omega,by rw[Mp,KY _ _ _ _ (by omega) (by omega)];simp[AL,AV.bel],by simp,?_⟩;refine⟨⟨i+1,by omega⟩,[14],[(13,some 16)],by simp only;omega,?_⟩;have eN:(Gj s1 (i+1)).1=l3++[⟨Jh 114 i,[1+(AD r3 2).1,1+(AD r4 2).1,1+(i:Int) % 2,1+(i:Int)/2]⟩]:=by rw[hl3d,hr4,hr3];rfl
     have eR:(Gj s1 (i+1)).2=(AD r4 2).2:=by rw[hr4,hr3];rfl
     simp only[Ao,Am,eN,eR];simp(disch:=omega)only[ZZ,simprocAttr,Ab,E3,AR,Az,wld_.ca,Ay,Am,cor_.H1,Bf,Bg,B3,AU,AT];refine⟨by rw[AF (by omega) (by omega)];omega,?_⟩;refine (BW (Fu _ _) (QD (S:=[1+(AD r3 2).1,1+(AD r4 2).1,1+(i:Int) % 2,1+(i:Int)/2]) (U:=2) (by decide) rfl be)).mpr (Sp ?_ _);rfl
    .obtain rfl:i=4:=by omega
     obtain⟨l4,hl4d⟩: ∃l4,l4=(Gj s1 4).1:=⟨_,rfl⟩;obtain⟨r4,hr4⟩: ∃r4,r4=(Gj s1 4).2:=⟨_,rfl⟩;have bn:Cu l2=Cu l4:=by rw[hl4d,M2 (by rw[hs1];exact aj),hs1]
     rw[<-hl4d] at aw;rw[<-hr4] at ad;simp only[<-hl4d,<-hr4,bn];have a8:=Iq 10 l4 false;have ac:EP x=(⟨⟨aa,if (AD r4 3).1=0 then l4++[⟨⟨#[114,52]⟩,[1,2,1+(AD (AD r4 3).2 2).1,1+(AD (AD (AD r4 3).2 2).2 2).1]⟩] else l4⟩,⟨[⟨⟨0,0⟩,0⟩]⟩,2⟩,if (AD r4 3).1=0 then (AD (AD (AD r4 3).2 2).2 2).2 else (AD r4 3).2):=by
      have e0:D9 k z=s0:=by rw[hs0,hl,hgl,hr]
      simp only[EP,<-hy,<-hwd,<-hz,<-hg,<-bt,<-bq,e0,<-hlq,<-hgl2,<-hr2,<-hs1,<-hl4d,<-hr4]
     refine AM.os (r4,3) [0] ⟨ad.mono (by omega),by simp only;omega⟩ (λj=>E6 _ j) rfl rfl ?_ ?_
     .simp(disch:=omega)only[ZZ,simprocAttr,Ab,E3,AR,Az,wld_.ca,Ay,Am,cor_.H1,Bf,Bg,B3,pck_.ca,pck_.H0,Ay,Am,Bt,Cl]
      try exact⟨rfl,rfl⟩
     simp(disch:=omega)only[ZZ,simprocAttr,Ab,E3,AR,Az,wld_.ca,Ay,Am,cor_.H1,Bf,Bg,B3,one_.H1,Ay,Am,B3,sub,Cl];have an:=DK ad 3;by_cases c:(AD r4 3).1=0
     .rw[Ak c];simp only[Ak c] at ac;obtain⟨r5,hr5⟩: ∃r5,r5=(AD r4 3).2:=⟨_,rfl⟩;rw[<-hr5] at an;simp only[<-hr5] at ac⊢;refine AM.os (r5,2) [0] ⟨an.mono (by omega),by simp only;omega⟩ (λj=>E6 _ j) rfl rfl ?_ ?_
      .simp(disch:=omega)only[ZZ,simprocAttr,Ab,E3,AR,Az,wld_.ca,Ay,Am,cor_.H1,Bf,Bg,B3,pck_.ca,pck_.H0,Ay,Am,Bt,Cl]
       try exact⟨rfl,rfl⟩
      have bl:=GV r5 2;have cb:=bl.2 (by decide);have ay:=DK an 2;have bx:IntKind.i64.wrap (1+(AD r5 2).1)=1+(AD r5 2).1:=AF (by omega) (by omega);simp(disch:=omega)only[ZZ,simprocAttr,Ab,E3,AR,Az,wld_.ca,Ay,Am,cor_.H1,Bf,Bg,B3,pck_.H1,Ay,Am,B3,sub,Cl,bx,a8];obtain⟨r6,hr6⟩: ∃r6,r6=(AD r5 2).2:=⟨_,rfl⟩;rw[<-hr6] at ay;simp only[<-hr6] at ac⊢;refine AM.os (r6,2) [0] ⟨ay.mono (by omega),by simp only;omega⟩ (λj=>E6 _ j) rfl rfl ?_ ?_
      .simp(disch:=omega)only[ZZ,simprocAttr,Ab,E3,AR,Az,wld_.ca,Ay,Am,cor_.H1,Bf,Bg,B3,pck_.ca,pck_.H0,Ay,Am,Bt,Cl]
       try exact⟨rfl,rfl⟩
      have bm:=GV r6 2;have cc:=bm.2 (by decide);have bz:IntKind.i64.wrap (1+(AD r6 2).1)=1+(AD r6 2).1:=AF (by omega) (by omega);simp(disch:=omega)only[ZZ,simprocAttr,Ab,E3,AR,Az,wld_.ca,Ay,Am,cor_.H1,Bf,Bg,B3,pck_.H1,Ay,Am,B3,sub,Cl,bz,a8];refine⟨by simp[AL,AV.bel],by omega,by rw[Mp,KY _ _ _ _ (by omega) (by omega)];simp[AL,AV.bel],by simp,?_⟩;refine⟨[4,14],[(1,some 11),(2,some 16),(3,some 17),(4,some 1)],⟨[(2,.ptr 4 0),(0,.ptr 0 0)],[(4,(true,.cells 32 [.own 1,.own 2,.own 3,.im (.int .i64 2)])),(0,(true,.cells 125 (Am (AD r6 2).2))),(1,(true,.arr 133 2 (aa.map AG.c))),(2,(true,.arrA 135 2 (Bo ((l4++[(⟨⟨#[114,52]⟩,[1,2,1+(AD r5 2).1,1+(AD r6 2).1]⟩:Tile)]).map Tile.c)))),(3,(true,.arr 136 3 [[.int .i64 0,.int .i64 0,.int .i64 0]]))],5⟩,?_,by simp[ZG,Am,Jz],by simp,?_⟩
      .simp only[Ao,Am];simp(disch:=omega)only[ZZ,simprocAttr,Ab,E3,AR,Az,wld_.ca,Ay,Am,cor_.H1,Bf,Bg,B3,AU,AT,Xl];rw[wJ (by rfl) (U:=2) (by rfl)];refine (BW (Fu _ _) ?_).mpr (SF _ (List.map Tile.c (l4++[(⟨⟨#[114,52]⟩,[1,2,1+(AD r5 2).1,1+(AD r6 2).1]⟩:Tile)])));simp[Bo,Tile.c,Af]
      .simp only[ac,Am];simp(disch:=omega)only[ZZ,simprocAttr,Ab,E3,AR,Az,wld_.ca,Ay,Am,cor_.H1,Bf,Bg,B3,Am,Yr]
     .rw[Ad c];simp only[Ad c] at ac;refine⟨[4],[(1,some 11),(2,some 13),(3,some 14),(4,some 1)],⟨[(2,.ptr 4 0),(0,.ptr 0 0)],[(4,(true,.cells 32 [.own 1,.own 2,.own 3,.im (.int .i64 2)])),(0,(true,.cells 125 (Am (AD r4 3).2))),(1,(true,.arr 133 2 (aa.map AG.c))),(2,(true,.arrA 135 2 (Bo (l4.map Tile.c)))),(3,(true,.arr 136 3 [[.int .i64 0,.int .i64 0,.int .i64 0]]))],5⟩,?_,by simp[ZG,Am,Jz],by simp,?_⟩
      .simp only[Ao,Am];simp(disch:=omega)only[ZZ,simprocAttr,Ab,E3,AR,Az,wld_.ca,Ay,Am,cor_.H1,Bf,Bg,B3,AU,AT,Xl];rw[wJ (by rfl) (U:=2) (by rfl)];exact SF _ _
      .simp only[ac,Am];simp(disch:=omega)only[ZZ,simprocAttr,Ab,E3,AR,Az,wld_.ca,Ay,Am,cor_.H1,Bf,Bg,B3,Am,Yr]
 simp only[cor_.H1,Bf,BO,Za,eW] at hp;rcases hp with rfl|rfl|rfl|rfl
 .exact .inl ⟨by omega,rfl,rfl⟩
 .exact .inr ⟨by omega,by omega,rfl,rfl⟩
 .exact .inr ⟨by omega,by omega,rfl,rfl⟩
 .exact .inr ⟨by omega,by omega,rfl,rfl⟩
def AN(f:Nat->Int):Nat->Int
 |0=>0
 |n+1=>AN f n+f n
def FZ{f g:Nat->Int}: ∀{n:Nat},(∀i,i<n->f i=g i)->AN f n=AN g n
 |0,_=>rfl
 |n+1,h=>by simp only[AN];rw[FZ (λi z=>h i (by omega)),h n (by omega)]
def Sw(f g:Nat->Int): ∀n,AN (λi=>f i+g i) n=AN f n+AN g n
 |0=>rfl
 |n+1=>by simp only[AN];rw[Sw f g n];omega
def yD(f:Nat->Int): ∀n,AN (λi=> - f i) n= - AN f n
 |0=>rfl
 |n+1=>by simp only[AN];rw[yD f n];omega
def Su: ∀n,AN (λ_=>0) n=0
 |0=>rfl
 |n+1=>by simp only[AN];rw[Su n];rfl
def Qxf{f g:Nat->Int}: ∀{n:Nat},(∀i,i<n->f i<=g i)->AN f n<=AN g n
 |0,_=>Gy _
 |n+1,h=>by
  have z:=Qxf (f:=f) (g:=g) (n:=n) (λi O=>h i (by omega));have G:=h n (by omega);simp only[AN];omega
def Qt3(f:Nat->Nat->Int)(m:Nat): ∀n,AN (λi=>AN (λj=>f i j) m) n=AN (λj=>AN (λi=>f i j) n) m
 |0=>by simp only[AN];exact (Su m).symm
 |n+1=>by simp only[AN];rw[Qt3 f m n,<-Sw]
def Y6(k:Nat)(c:Int): ∀n,AN (λi=>if i=k then c else 0) n=if k<n then c else 0
 |0=>rfl
 |n+1=>by
  simp only[AN];rw[Y6 k c n];by_cases z:n=k
  .subst z;rw[Ad (by omega),Ak rfl,Ak (by omega)];omega
  .rw[Ad z];by_cases G:k<n
   .rw[Ak G,Ak (by omega)];omega
   .rw[Ad G,Ad (by omega)];omega
def Rf(a:Nat->Nat->Int)(n:Nat)(h: ∀u w,u<n->w<n->a u w= - a w u):AN (λu=>AN (λw=>a u w) n) n=0:=by
 have O:AN (λu=>AN (λw=>a u w) n) n= - AN (λu=>AN (λw=>a u w) n) n:=by
  rw[<-yD]
  conv=>lhs;rw[Qt3]
  refine FZ λu z=> ?_
  rw[<-yD];exact FZ λw G=>h w u G z
 omega
structure S4(rm fl:Nat->Nat->Int)(n p q:Nat)(v:Int):Prop where
 anti: ∀u w,u<n->w<n->fl u w= - fl w u
 cap: ∀u w,u<n->w<n->fl u w<=rm u w
 cons: ∀u,u<n->u≠p->u≠q->AN (fl u) n=0
 val:AN (fl p) n=v
def EQ(rm:Nat->Nat->Int)(n:Nat)(S:Nat->Bool):Int:=AN (λu=>AN (λw=>if S u=true/\S w=false then rm u w else 0) n) n
def tD{rm fl:Nat->Nat->Int}{n p q:Nat}{v:Int}(h:S4 rm fl n p q v)(hp:p<n){S:Nat->Bool}(Z:S p=true)(hT:S q=false):EQ fl n S=v:=by
 have h1:AN (λu=>AN (λw=>if S u=true then fl u w else 0) n) n=v:=by
  have:AN (λu=>AN (λw=>if S u=true then fl u w else 0) n) n=AN (λu=>if u=p then v else 0) n:=by
   refine FZ λu O=> ?_
   by_cases z:u=p
   .subst z;rw[Ak rfl,<-h.val];exact FZ λw _=>Ak Z
   .rw[Ad z];cases hSu:S u with
    |false=>exact (FZ λw _=>Ad (by simp)).trans (Su n)
    |true=>
     have Q:u≠q:=λhe=>by rw[he,hT] at hSu;cases hSu
     exact (FZ λw _=>Ak rfl).trans (h.cons u O z Q)
  rw[this,Y6,Ak hp]
 have h2:AN (λu=>AN (λw=>if S u=true/\S w=true then fl u w else 0) n) n=0:=by
  refine Rf _ n λu w O hw=> ?_
  by_cases G:S u=true/\S w=true
  .rw[Ak G,Ak ⟨G.2,G.1⟩];exact h.anti u w O hw
  .rw[Ad G,Ad (λh=>G ⟨h.2,h.1⟩)];rfl
 have h3:AN (λu=>AN (λw=>if S u=true then fl u w else 0) n) n=AN (λu=>AN (λw=>if S u=true/\S w=true then fl u w else 0) n) n+EQ fl n S:=by
  rw[EQ,<-Sw];refine FZ λu _=> ?_
  rw[<-Sw];refine FZ λw _=> ?_
  cases S u<;>cases S w<;>simp
 omega
def Qw8{rm fl:Nat->Nat->Int}{n p q:Nat}{v:Int}(h:S4 rm fl n p q v)(hp:p<n){S:Nat->Bool}(z:S p=true)(G:S q=false):v<=EQ rm n S:=by
 rw[<-tD h hp z G];refine Qxf λu O=>Qxf λw Q=> ?_
 split
 .exact h.cap u w O Q
 .exact Gy _
def Qxp{rm fl:Nat->Nat->Int}{n p q:Nat}{v:Int}(h:S4 rm fl n p q v)(hp:p<n){S:Nat->Bool}(Z:S p=true)(hT:S q=false)(z: ∀u w,u<n->w<n->S u=true->S w=false->rm u w<=fl u w):v=EQ rm n S:=by
 rw[<-tD h hp Z hT];refine FZ λu O=>FZ λw Q=> ?_
 split
 .rename_i G;have h1:=h.cap u w O Q;have h2:=z u w O Q G.1 G.2;omega
 .rfl
def HW(L:Nat->Nat)(a b j:Nat):Int:=if L j=a/\L (j+1)=b then 1 else 0
def xG(L:Nat->Nat)(a b:Nat): ∀i,0<=AN (HW L a b) i
 |0=>Gy _
 |i+1=>by
  have:=xG L a b i
  simp only[AN,HW]
  split<;>omega
def Qr1{L:Nat->Nat}{m:Nat}(z: ∀i j,i<=m->j<=m->L i=L j->i=j)(a b:Nat): ∀i,i<=m->AN (HW L a b) i<=1/\(0<AN (HW L a b) i-> ∃j,j<i/\L j=a/\L (j+1)=b)
 |0,_=>⟨by simp[AN],λh=>by simp[AN] at h⟩
 |i+1,hi=>by
  obtain⟨h1,Z⟩:=Qr1 z a b i (by omega);have h0:=xG L a b i;simp only[AN];by_cases O:L i=a/\L (i+1)=b
  .have hz: ¬0<AN (HW L a b) i:=by
    intro G;obtain⟨j,hj,Q,_⟩:=Z G
    have:=z j i (by omega) (by omega) (Q.trans O.1.symm)
    omega
   simp only[HW] at hz h0⊢;rw[Ak O];exact⟨by omega,λ_=>⟨i,by omega,O⟩⟩
  .have e:HW L a b i=0:=Ad O;rw[e];refine⟨by omega,λG=> ?_⟩;obtain⟨j,hj,Q⟩:=Z (by omega);exact⟨j,by omega,Q⟩
def tH{L:Nat->Nat}{n m:Nat}(z: ∀i,i<=m->L i<n)(a:Nat): ∀i,i<=m->AN (λb=>AN (HW L a b) i - AN (HW L b a) i) n=(if L 0=a then 1 else 0) - (if L i=a then 1 else 0)
 |0,_=>by simp only[AN,Int.sub_self];exact Su n
 |i+1,Z=>by
  have ih:=tH z a i (by omega);have e:AN (λb=>AN (HW L a b) (i+1) - AN (HW L b a) (i+1)) n=AN (λb=>AN (HW L a b) i - AN (HW L b a) i) n+(AN (λb=>if b=L (i+1) then (if L i=a then 1 else 0) else 0) n+ - AN (λb=>if b=L i then (if L (i+1)=a then 1 else 0) else 0) n):=by
   rw[<-yD,<-Sw,<-Sw];refine FZ λb _=> ?_
   simp only[AN,HW];by_cases c1:L i=a<;>by_cases G:L (i+1)=a<;>by_cases O:b=L i<;>by_cases Q:b=L (i+1)<;>simp[c1,G,O,Q,eq_comm]<;>omega
  rw[e,ih,Y6,Y6,Ak (z _ Z),Ak (z _ (by omega))];omega
def PQ{rm fl Q:Nat->Nat->Int}{n p q:Nat}{v:Int}(h:S4 rm fl n p q v){L:Nat->Nat}{m:Nat}(aa: ∀i j,i<=m->j<=m->L i=L j->i=j)(hr: ∀i,i<=m->L i<n)
 (h0:L 0=p)(hm:L m=q)(ac:p≠q)(hp:p<n)(Z: ∀i,i<m->fl (L i) (L (i+1))<rm (L i) (L (i+1)))
 (z: ∀a b,a<n->b<n->Q a b=fl a b+(AN (HW L a b) m - AN (HW L b a) m)):S4 rm Q n p q (v+1):=by
 have O: ∀a,a<n->AN (Q a) n=AN (fl a) n+((if L 0=a then 1 else 0) - (if L m=a then 1 else 0)):=by
  intro a ha;rw[<-tH hr a m (AW _),<-Sw];exact FZ λb hb=>z a b ha hb
 refine⟨λu w G hw=> ?_,λu w G hw=> ?_,λu G h1 h2=> ?_,?_⟩
 .rw[z u w G hw,z w u hw G]
  have:=h.anti u w G hw
  omega
 .rw[z u w G hw];obtain⟨e1,e2⟩:=Qr1 aa u w m (AW _);have e3:=xG L w u m;have e4:=h.cap u w G hw;by_cases ab:0<AN (HW L u w) m
  .obtain⟨j,hj,g1,g2⟩:=e2 ab
   have:=Z j hj
   rw[g1,g2] at this;omega
  .omega
 .rw[O u G,h.cons u G h1 h2,h0,hm,Ad (Fi h1),Ad (Fi h2)];rfl
 .rw[O p hp,h.val,h0,hm,Ak rfl,Ad (Fi ac)];omega
def Mj(l:List (List Int))(u v:Int)(d:Int):List (List Int):=l.set u.toNat ((l[u.toNat]?.getD []).set v.toNat ((l[u.toNat]?.getD [])[v.toNat]?.getD 0+d))
def HF(l:List (List Int))(a b:Nat):Int:=(l[a]?.getD [])[b]?.getD 0
def cX(l:List (List Int))(u v d:Int):(Mj l u v d).length=l.length:=by simp[Mj]
def cR{l:List (List Int)}{n:Nat}(h: ∀r∈l,r.length=n)(u v d:Int)(G:u.toNat<l.length): ∀r∈Mj l u v d,r.length=n:=by
 intro r z;rcases Zc z with z|z
 .exact h r z
 .subst z;rw[I4,Bk G,AJ];exact h _ (RF G)
def jM{l:List (List Int)}{n:Nat}(Q:l.length=n)(h: ∀r∈l,r.length=n){u v:Nat}(d:Int)(Z:u<n)(hv:v<n)(a b:Nat):HF (Mj l u v d) a b=HF l a b+if a=u/\b=v then d else 0:=by
 simp only[HF,Mj,B1];by_cases z:u=a
 .subst z;rw[EE (by omega),AJ];have O:(l[u]?.getD []).length=n:=by
   rw[Bk (by omega),AJ];exact h _ (RF (by omega))
  by_cases G:v=b
  .subst G;rw[EE (by omega),AJ,Ak ⟨rfl,rfl⟩]
  .rw[Ep G,Ad (λh=>G h.2.symm)];omega
 .rw[Ep z,Ad (λh=>z h.1.symm)];omega
def O9(x:Bq)(u v:Int):Bq:=⟨x.Room,Mj (Mj x.Flow u v 1) v u (-1)⟩
def HX(x:Bq)(L:List Int):Nat->Bq
 |0=>x
 |i+1=>O9 (HX x L i) (L[i]?.getD 0) (L[i+1]?.getD 0)
def Ql3(x:Bq)(L:List Int): ∀i,(HX x L i).Room=x.Room
 |0=>rfl
 |i+1=>Ql3 x L i
def PP(x:Bq)(u v:Int):Qzr x u v=HF x.Flow u.toNat v.toNat:=rfl
def Q8(x:Bq)(u v:Int):Qyw x u v=HF x.Room u.toNat v.toNat:=rfl
def VF{x:Bq}{n:Nat}(h:Lj x n){u v:Int}(z:u.toNat<n)(G:v.toNat<n):Lj (O9 x u v) n:=by
 refine⟨h.r,by simp only[O9,cX];exact h.f,h.rr,?_⟩;exact cR (cR h.ff u v 1 (by rw[h.f];exact z)) v u (-1) (by rw[cX,h.f];exact G)
def Qm6{x:Bq}{n:Nat}(h:Lj x n){L:List Int}(z: ∀y∈L,0<=y/\y<n): ∀i,i<L.length->Lj (HX x L i) n
 |0,_=>h
 |i+1,G=>by
  have ih:=Qm6 h z i (by omega);refine VF ih ?_ ?_
  .rw[Bk (by omega),AJ]
   have:=z _ (RF (show i<L.length by omega))
   omega
  .rw[Bk G,AJ]
   have:=z _ (RF G)
   omega
def Lf(L:List Int)(i:Nat):Nat:=(L[i]?.getD 0).toNat
def Qso{x:Bq}{n:Nat}(h:Lj x n){L:List Int}(G: ∀y∈L,0<=y/\y<n)(a b:Nat): ∀i,i<L.length->HF (HX x L i).Flow a b=HF x.Flow a b+(AN (HW (Lf L) a b) i - AN (HW (Lf L) b a) i)
 |0,_=>by simp[HX,AN]
 |i+1,hi=>by
  have ih:=Qso h G a b i (by omega);have z:=Qm6 h G i (by omega);obtain⟨u,hu⟩: ∃u,L[i]? =some u:=⟨_,Bk (by omega)⟩;obtain⟨v,hv⟩: ∃v,L[i+1]? =some v:=⟨_,Bk hi⟩;have aa:=G u (Bd hu);have ab:=G v (Bd hv);obtain⟨u',rfl⟩: ∃u':Nat,u=u':=⟨u.toNat,by omega⟩;obtain⟨v',rfl⟩: ∃v':Nat,v=v':=⟨v.toNat,by omega⟩;simp only[HX,O9,hu,hv,AJ];rw[jM (n:=n) (by rw[cX];exact z.f) (cR z.ff _ _ _ (by rw[z.f];simp;omega)) _ (by omega) (by omega),
   jM z.f z.ff _ (by omega) (by omega),ih]
  have e1:Lf L i=u':=by simp[Lf,hu]
  have e2:Lf L (i+1)=v':=by simp[Lf,hv]
  simp only[AN,HW,e1,e2];by_cases c1:a=u'<;>by_cases O:b=v'<;>by_cases Q:a=v'<;>by_cases Z:b=u'<;>simp[c1,O,Q,Z,eq_comm]<;>omega
structure U7(x:Bq)(n:Nat)(p q:Int)(L:List Int):Prop where
 pos:0<L.length
 inb: ∀y∈L,0<=y/\y<n
 hd:L[0]? =some p
 lst:L[L.length - 1]? =some q
 nd: ∀i j,i<L.length->j<L.length->Lf L i=Lf L j->i=j
 free: ∀i,i+1<L.length->Xh x (L[i]?.getD 0) (L[i+1]?.getD 0)=true
def WR{x:Bq}{n:Nat}{p q:Int}(an:0<=p)(ao:p<n)(a8:0<=q)(a9:q<n)(am:CN x n p q≠[]):U7 x n p q (CN x n p q):=by
 have Z:Hq x n p (BC x n p):=SA an ao n;have ax:=Z.len;obtain⟨y,hy⟩: ∃y,(BC x n p).1[q.toNat]? =some y:=⟨_,Bk (by omega)⟩;have av: ¬y<0:=by
  intro h;apply am;simp only[CN,hy,AJ];rw[Ak h]
 have aq:q∈(BC x n p).2:=by
  have:=(Z.mem q.toNat y hy).1 (by omega)
  rwa [show (q.toNat:Int)=q by omega] at this
 obtain⟨i,hi⟩:=EK.1 aq;obtain⟨d,ay,ah,ab⟩:=Qq3 Z hi;have az:=(B9.1 hi).1;have a0:=Qr3 Z;have au:zN (BC x n p).1 p q n=d:=Qqr (by omega) ah ab;have hW:CN x n p q=(IX (BC x n p).1 q d).reverse:=by
  simp only[CN,hy,AJ];rw[Ad av,au]
 rw[hW];have O:(IX (BC x n p).1 q d).length=d+1:=by simp[IX]
 have hget: ∀k,k<=d->(IX (BC x n p).1 q d).reverse[k]? =some (DW (BC x n p).1 q (d - k)):=by
  intro k G;rw[Zff (by rw[O];omega),O,show d+1 - 1 - k=d - k by omega,IX,DX,Lm (by omega)];rfl
 have ac: ∀k,k<=d-> ∃j,j+k<=i/\(BC x n p).2[j]? =some (DW (BC x n p).1 q k):=λk G=>yG Z hi k (λj hj=>ab j (by omega))
 have Q: ∀k,k<=d->0<=DW (BC x n p).1 q k/\DW (BC x n p).1 q k<n:=by
  intro k G;obtain⟨j,_,h2⟩:=ac k G;exact Z.q _ (Bd h2)
 have af: ∀k,k<=d-> ∀e,e<=k-> ∀j j',(BC x n p).2[j]? =some (DW (BC x n p).1 q k)->(BC x n p).2[j']? =some (DW (BC x n p).1 q e)->j+(k - e)<=j':=by
  intro k G e he j j' hj aj;have aw: ∀m,e+m<=d-> ∃j2,j2+m<=j'/\(BC x n p).2[j2]? =some (DW (BC x n p).1 q (e+m)):=by
   intro m;induction m with
   |zero=>intro _;exact⟨j',by omega,aj⟩
   |succ m ih=>
    intro hm;obtain⟨j2,g1,g2⟩:=ih (by omega);have h0:0<j2:=by
     rcases sD j2 with h0|h0
     .subst h0;rw[Z.hd] at g2;exact absurd (A8 g2).symm (ab _ (by omega))
     .exact h0
    obtain⟨j3,u,q1,q2,q3,q4⟩:=Z.prev j2 _ g2 h0;refine⟨j3,by omega,?_⟩;rw[show e+(m+1)=e+m+1 by omega,DW,q3,AJ];exact q2
  obtain⟨j2,g1,g2⟩:=aw (k - e) (by omega);rw[show e+(k - e)=k by omega] at g2
  have:=(List.getElem?_inj (B9.1 hj).1 Z.nd).1 (hj.trans g2.symm)
  omega
 have ad: ∀k e,k<=d->e<k->DW (BC x n p).1 q k≠DW (BC x n p).1 q e:=by
  intro k e G he ai;obtain⟨j,_,h2⟩:=ac k G
  have:=af k G e (by omega) j j h2 (ai▸h2)
  omega
 have aa: ∀k,k<=d->(IX (BC x n p).1 q d).reverse[k]?.getD 0=DW (BC x n p).1 q (d - k):=λk G=>by rw[hget k G,AJ]
 refine⟨by rw[rX,O];omega,λz hz=> ?_,?_,?_,λk e G he hL=> ?_,λk G=> ?_⟩
 .obtain⟨k,G⟩:=EK.1 hz;have ak:=(B9.1 G).1;rw[rX,O] at ak;rw[hget k (by omega)] at G;obtain rfl:=A8 G;exact Q _ (by omega)
 .rw[hget 0 (by omega),mD,ah]
 .rw[rX,O,hget (d+1 - 1) (by omega),show d - (d+1 - 1)=0 by omega];rfl
 .rw[rX,O] at G he;simp only[Lf] at hL;rw[aa k (by omega),aa e (by omega)] at hL;have b1:=Q (d - k) (by omega);have b2:=Q (d - e) (by omega);have ag:DW (BC x n p).1 q (d - k)=DW (BC x n p).1 q (d - e):=by omega
  rcases sE (d - k) (d - e) with h|h|h
  .exact absurd ag.symm (ad _ _ (by omega) h)
  .omega
  .exact absurd ag (ad _ _ (by omega) h)
 .rw[rX,O] at G;rw[aa k (by omega),aa (k+1) (by omega),show d - k=d - (k+1)+1 by omega];exact (P7 Z hi (λj hj=>ab j (by omega))).1
def G9(n:Nat)(p q:Int):Nat->Bq->Int
 |0,_=>0
 |m+1,x=>if CN x n p q=[] then 0 else G9 n p q m (HX x (CN x n p q) ((CN x n p q).length - 1))+1
def Ey(x:Bq)(a b:Nat):Int:=HF x.Room a b
def K9(x:Bq)(a b:Nat):Int:=HF x.Flow a b
def Qun{x:Bq}{n:Nat}(h:Lj x n){p q:Int}(Z:0<=p)(aa:p<n)(ab:p≠q)(ac:0<=q){v:Int}(hf:S4 (Ey x) (K9 x) n p.toNat q.toNat v){L:List Int}(z:U7 x n p q L):
 Lj (HX x L (L.length - 1)) n/\S4 (Ey x) (K9 (HX x L (L.length - 1))) n p.toNat q.toNat (v+1):=by
 have Q:=z.pos;have O: ∀i,i<L.length->(L[i]?.getD 0).toNat=Lf L i/\Lf L i<n:=by
  intro i G;refine⟨rfl,?_⟩;simp only[Lf];rw[Bk G,AJ]
  have:=z.inb _ (RF G)
  omega
 refine⟨Qm6 h z.inb _ (by omega),PQ (m:=L.length - 1) (L:=Lf L) hf (λi j G hj=>z.nd i j (by omega) (by omega)) (λi G=>(O i (by omega)).2) ?_ ?_ (by omega) (by omega) (λi G=> ?_) (λa b _ _=>Qso h z.inb a b _ (by omega))⟩
 .simp only[Lf,z.hd,AJ]
 .simp only[Lf,z.lst,AJ]
 .exact of_decide_eq_true (z.free i (by omega))
def tA{n:Nat}{p q:Int}(G:0<=p)(O:p<n)(ad:p≠q)(ab:0<=q)(af:q<n): ∀(m:Nat) (x:Bq) (v:Int),Lj x n->S4 (Ey x) (K9 x) n p.toNat q.toNat v->
 (G9 n p q m x=m/\ ∀S:Nat->Bool,S p.toNat=true->S q.toNat=false->v+m<=EQ (Ey x) n S)\/(G9 n p q m x<m/\ ∃S:Nat->Bool,S p.toNat=true/\S q.toNat=false/\EQ (Ey x) n S=v+G9 n p q m x)
 |0,x,v,h,hf=> .inl ⟨rfl,λS h1 Z=>by have:=Qw8 hf (by omega) h1 Z;simpa using this⟩
 |m+1,x,v,h,hf=>by
  by_cases Q:CN x n p q=[]
  .refine .inr ?_;have e:G9 n p q (m+1) x=0:=by simp only[G9];rw[Ak Q]
   rw[e];refine⟨by omega,λu=>decide (0<=(BC x n p).1[u]?.getD (-1)),?_,?_,?_⟩
   .have:=(SA (x:=x) G O n).pp
    simp only[BC,this,AJ,BA];exact G
   .have aa:=(SA (x:=x) G O n).len;obtain⟨y,hy⟩: ∃y,(BC x n p).1[q.toNat]? =some y:=⟨_,Bk (by simp only[BC];omega)⟩;simp only[hy,AJ,HZ];intro h0;simp only[CN,hy,AJ] at Q;rw[Ad (by omega)] at Q;simp[IX] at Q
   .have:=Qxp (S:=λu=>decide (0<=(BC x n p).1[u]?.getD (-1))) hf (by omega) ?_ ?_ ?_
    .omega
    .have:=(SA (x:=x) G O n).pp
     simp only[BC,this,AJ,BA];exact G
    .have aa:=(SA (x:=x) G O n).len;obtain⟨y,hy⟩: ∃y,(BC x n p).1[q.toNat]? =some y:=⟨_,Bk (by simp only[BC];omega)⟩;simp only[hy,AJ,HZ];intro h0;simp only[CN,hy,AJ] at Q;rw[Ad (by omega)] at Q;simp[IX] at Q
    .intro u w hu ah h1 Z;simp only[BA,HZ] at h1 Z;have aa:=(SA (x:=x) G O n).len;obtain⟨y,hy⟩: ∃y,(BC x n p).1[u]? =some y:=⟨_,Bk (by simp only[BC];omega)⟩;rw[hy,AJ] at h1;by_cases ac:Xh x u w=true
     .obtain⟨z,g1,g2⟩:=Qww x G O hy h1 ah ac;rw[g1,AJ] at Z;omega
     .have h3: ¬(Qzr x u w<Qyw x u w):=λh=>ac (ZeN h)
      rw[PP,Q8,B1,B1] at h3;simp only[Ey,K9];omega
  .have hW:=WR G O ab af Q;obtain⟨g1,g2⟩:=Qun h G O ad ab hf hW;have ag:Ey (HX x (CN x n p q) ((CN x n p q).length - 1))=Ey x:=by funext a b;simp only[Ey,Ql3]
   rw[<-ag] at g2;have ih:=tA G O ad ab af m _ _ g1 g2;rw[ag] at ih;have e:G9 n p q (m+1) x=G9 n p q m (HX x (CN x n p q) ((CN x n p q).length - 1))+1:=by simp only[G9];rw[Ad Q]
   rw[e];rcases ih with ⟨h1,Z⟩|⟨h1,S,Z,h3,h4⟩
   .exact .inl ⟨by omega,λS hS hT=>by have:=Z S hS hT;omega⟩
   .exact .inr ⟨by omega,S,Z,h3,by omega⟩
def LJ(n:Nat):Bq:=⟨List.replicate n (List.replicate n 0),List.replicate n (List.replicate n 0)⟩
def Lo(x:Bq)(b:Ag):Bq:=⟨Mj (Mj x.Room b.A b.B b.Strength) b.B b.A b.Strength,x.Flow⟩
def Cn(n:Nat)(bs:List Ag):Nat->Bq
 |0=>LJ n
 |k+1=>match bs[k]? with
  |some b=>Lo (Cn n bs k) b
  |none=>Cn n bs k
def Ee(n:Nat)(bs:List Ag):Bq:=Cn n bs bs.length
def YA{n:Nat}{bs:List Ag}(Q:Mh n bs): ∀k,Lj (Cn n bs k) n/\(Cn n bs k).Flow=List.replicate n (List.replicate n 0)
 |0=>⟨⟨by simp[Cn,LJ],by simp[Cn,LJ],λl O=>by rw[Pt O];simp,λl O=>by rw[Pt O];simp⟩,rfl⟩
 |k+1=>by
  obtain⟨ih,z⟩:=YA Q k;simp only[Cn];split
  .rename_i b G;obtain⟨b1,b2,b3,b4⟩:=Q b (Bd G);refine⟨⟨by simp only[Lo,cX];exact ih.r,ih.f,?_,ih.ff⟩,z⟩;exact cR (cR ih.rr _ _ _ (by rw[ih.r];omega)) _ _ _ (by rw[cX,ih.r];omega)
  .exact⟨ih,z⟩
def Di(S:Nat->Bool):List Ag->Int
 |[]=>0
 |b::r=>(if S b.A.toNat=S b.B.toNat then 0 else b.Strength)+Di S r
def tS(S:Nat->Bool): ∀(a b:List Ag),Di S (a++b)=Di S a+Di S b
 |[],b=>by simp[Di]
 |x::r,b=>by simp only[CP,Di,tS S r b];omega
def cF(n u v:Nat)(Z:u<n)(hv:v<n)(c:Int)(g:Nat->Nat->Bool):AN (λa=>AN (λb=>if g a b=true then (if a=u/\b=v then c else 0) else 0) n) n=if g u v=true then c else 0:=by
 have O:AN (λa=>AN (λb=>if g a b=true then (if a=u/\b=v then c else 0) else 0) n) n=AN (λa=>if a=u then (if g u v=true then c else 0) else 0) n:=by
  refine FZ λa _=> ?_
  by_cases z:a=u
  .subst z;rw[Ak rfl];have Q:AN (λb=>if g a b=true then (if a=a/\b=v then c else 0) else 0) n=AN (λb=>if b=v then (if g a v=true then c else 0) else 0) n:=by
    refine FZ λb _=> ?_
    by_cases G:b=v
    .subst G;simp
    .simp[G]
   rw[Q,Y6,Ak hv]
  .rw[Ad z];refine (FZ λb _=> ?_).trans (Su n);simp[z]
 rw[O,Y6,Ak Z]
def Qnz{l:List (List Int)}{n:Nat}(Z:l.length=n)(h: ∀r∈l,r.length=n){u v:Nat}(d:Int)(G:u<n)(O:v<n)(S:Nat->Bool):
 EQ (λa b=>HF (Mj l u v d) a b) n S=EQ (λa b=>HF l a b) n S+if S u=true/\S v=false then d else 0:=by
 have z:AN (λa=>AN (λb=>if (S a && !S b)=true then (if a=u/\b=v then d else 0) else 0) n) n=if (S u && !S v)=true then d else 0:=cF n u v G O d (λa b=>S a && !S b)
 have Q:(if (S u && !S v)=true then d else 0)=if S u=true/\S v=false then d else 0:=by
  cases S u<;>cases S v<;>simp
 rw[Q] at z;rw[<-z,EQ,EQ,<-Sw];refine FZ λa _=> ?_
 rw[<-Sw];refine FZ λb _=> ?_
 rw[jM Z h d G O a b];cases S a<;>cases S b<;>simp
def M6{n:Nat}{bs:List Ag}(G:Mh n bs)(S:Nat->Bool): ∀k,k<=bs.length->EQ (Ey (Cn n bs k)) n S=Di S (bs.take k)
 |0,_=>by
  simp only[Fh,Di,EQ];refine (FZ λu Z=> ?_).trans (Su n);refine (FZ λw hw=> ?_).trans (Su n)
  have:Ey (Cn n bs 0) u w=0:=by
   simp only[Ey,Cn,LJ,HF];rw[Pu,Ak Z,AJ,Pu,Ak hw,AJ]
  rw[this];split<;>rfl
 |k+1,Q=>by
  obtain⟨b,hbk⟩: ∃b,bs[k]? =some b:=⟨_,Bk Q⟩;have ih:=M6 G S k (by omega);obtain⟨z,_⟩:=YA G k;obtain⟨b1,b2,b3,b4⟩:=G b (Bd hbk);have e:bs.take (k+1)=bs.take k++[b]:=by rw[K6,hbk];rfl
  rw[e,tS,<-ih];have O:Ey (Cn n bs (k+1))=λx y=>HF (Mj (Mj (Cn n bs k).Room (b.A.toNat:Int) (b.B.toNat:Int) b.Strength) (b.B.toNat:Int) (b.A.toNat:Int) b.Strength) x y:=by
   funext x y;simp only[Ey,Cn,hbk,Lo];rw[show ((b.A.toNat:Nat):Int)=b.A by omega,show ((b.B.toNat:Nat):Int)=b.B by omega]
  rw[O,Qnz (by rw[cX];exact z.r) (cR z.rr _ _ _ (by rw[z.r];simp;omega)) _ (by omega) (by omega),Qnz z.r z.rr _ (by omega) (by omega)];simp only[Di]
  have:EQ (λa b=>HF (Cn n bs k).Room a b) n S=EQ (Ey (Cn n bs k)) n S:=rfl
  rw[this];cases S b.A.toNat<;>cases S b.B.toNat<;>simp<;>omega
def TB{n:Nat}{bs:List Ag}(z:Mh n bs)(S:Nat->Bool):EQ (Ey (Ee n bs)) n S=Di S bs:=by
 rw[Ee,M6 z S _ (AW _),EW]
def Qpz{n:Nat}{bs:List Ag}(G:Mh n bs)(hs:R3 bs)(a b:Nat): ∀k,0<=Ey (Cn n bs k) a b
 |0=>by
  simp only[Ey,Cn,LJ,HF,Pu];split
  .rw[AJ,Pu];split<;>simp
  .simp
 |k+1=>by
  have ih:=Qpz G hs a b k;obtain⟨z,_⟩:=YA G k;simp only[Ey,Cn] at ih⊢;split
  .rename_i x O;obtain⟨b1,b2,b3,b4⟩:=G x (Bd O);have h0:=(hs x (Bd O)).1;simp only[Lo];rw[show x.A=(x.A.toNat:Int) by omega,show x.B=(x.B.toNat:Int) by omega];rw[jM (n:=n) (by rw[cX];exact z.r) (cR z.rr _ _ _ (by rw[z.r];simp;omega)) _ (by omega) (by omega),jM z.r z.rr _ (by omega) (by omega)]
   split<;>split<;>omega
  .exact ih
def tF{n:Nat}{bs:List Ag}(G:Mh n bs)(hs:R3 bs)(p q:Nat):S4 (Ey (Ee n bs)) (K9 (Ee n bs)) n p q 0:=by
 have z: ∀a b,K9 (Ee n bs) a b=0:=by
  intro a b;simp only[K9,Ee,(YA G bs.length).2,HF,Pu];split
  .rw[AJ,Pu];split<;>simp
  .simp
 refine⟨λu w _ _=>by rw[z,z];rfl,λu w _ _=> ?_,λu _ _ _=>(FZ λi _=>z u i).trans (Su n),(FZ λi _=>z p i).trans (Su n)⟩;rw[z];exact Qpz G hs u w bs.length
def YF(n:Nat)(bs:List Ag)(t:Int)(k:Nat):Prop:= ∀S:Nat->Bool,S 0=true->(∃y,0<y/\y<=k/\y<n/\S y=false)->t<=Di S bs
def S8(n:Nat)(bs:List Ag)(t:Int):Nat->Bool
 |0=>true
 |k+1=>S8 n bs t k && decide (t<=G9 n 0 ((k:Int)+1) t.toNat (Ee n bs))
def Qtt{n:Nat}{bs:List Ag}(O:Mh n bs)(hs:R3 bs){t:Int}(ht:0<=t): ∀k,k<n->(S8 n bs t k=true↔YF n bs t k)
 |0,_=>by
  simp only[S8,true_iff];rintro S _ ⟨y,h1,z,_⟩;omega
 |k+1,hk=>by
  have ih:=Qtt O hs ht k (by omega);have hl:=tA (n:=n) (p:=0) (q:=(k:Int)+1) (by omega) (by omega) (by omega) (by omega) (by omega) t.toNat (Ee n bs) 0 (YA O bs.length).1 (tF O hs _ _);simp only[Zfp,show ((k:Int)+1).toNat=k+1 by omega,Int.zero_add,TB O] at hl;simp only[S8,AZ,BA,ih];rcases hl with ⟨h1,z⟩|⟨h1,S,z,h3,h4⟩
  .constructor
   .rintro⟨g1,g2⟩ S G ⟨y,Z,y2,y3,Q⟩;by_cases hy:y<=k
    .exact g1 S G ⟨y,Z,hy,y3,Q⟩
    .have:=z S G (by rw[show k+1=y by omega];exact Q)
     omega
   .intro h;exact⟨λS G ⟨y,Z,y2,y3,Q⟩=>h S G ⟨y,Z,by omega,y3,Q⟩,by omega⟩
  .constructor
   .rintro⟨_,g2⟩;omega
   .intro h
    have:=h S z ⟨k+1,by omega,by omega,hk,h3⟩
    omega
def Qt7{n:Bp}(hn:DL n)(hc:Ju n){q:Int}{st qu:List Int}(G:st.length=n.Cnt.toNat)(hP:Gz n q (st,qu)){p:Int}(O:0<=p)(Q:p<n.Cnt){d:Nat}(hd:st[p.toNat]? =some (d:Int))(w:Int):
 ∀k,k<=d->DC (Cj n st p k).1 w=DC n w+(if p=w then 1 else 0) - (if (Cj n st p k).2=w then 1 else 0)
 |0,_=>by simp only[Cj];omega
 |k+1,hk=>by
  have ih:=Qt7 hn hc G hP O Q hd w k (by omega);have hI:=qC hn hc G hP O Q hd k (by omega);obtain⟨m,r,hm,hr,hg,Z,ad⟩:=Qk0 hn G hP (by omega) hI;have ac:(Cj n st p k).1.At[m]? =some r:=by rw[hI.at_];exact hr
  have e:(Cj n st p (k+1)).1=IV (Cj n st p k).1 m (HG (Cj n st p k).1 st m).2:=by simp only[Cj,hm]
  have e2:(Cj n st p (k+1)).2=(HG (Cj n st p k).1 st m).1:=by simp only[Cj,hm]
  rw[e,e2,Qzc hI.ok ac hg.1,hg.2.2.1,ih,hm];have aa:=hg.2.2.2.1;rw[B1,Z,AJ] at aa;have ab:(m:Int)≠(HG (Cj n st p k).1 st m).1:=by
   intro he;rw[<-he,B1,Z,AJ] at aa;omega
  obtain⟨z,hz⟩: ∃z,z=(HG (Cj n st p k).1 st m).1:=⟨_,rfl⟩;rw[<-hz] at ab⊢;by_cases c1:p=w<;>by_cases c2:(m:Int)=w<;>by_cases c3:z=w<;>simp only[c1,c2,c3,Bt,CY]<;>omega
def OE(n:Bp)(p q:Int):Prop:= ∀w,w≠p->w≠q->DC n w=0
def PX{n:Bp}(hn:DL n)(hc:Ju n){p q:Int}(G:0<=p)(O:p<n.Cnt)(Q:0<=q)(Z:q<n.Cnt)(hg:(FK n p q).2=true)(aa:OE n p q):OE (FK n p q).1 p q:=by
 have z:=xK hn Q Z;have hP:Gz n q (FJ n q,(CV n q n.Cnt.toNat).2):=OG hn Q Z n.Cnt.toNat;obtain⟨x,hx⟩: ∃x,(FJ n q)[p.toNat]? =some x:=⟨_,Bk (by omega)⟩;intro w h1 h2;simp only[FK,hx,AJ] at hg⊢;by_cases h:x<0
 .rw[Ak h] at hg;simp at hg
 .obtain⟨d,rfl⟩: ∃d:Nat,x=d:=⟨x.toNat,by omega⟩;rw[Ad h,B1];have hI:=qC hn hc z hP G O hx d (AW _);obtain⟨m,hm,ac,ab⟩:=hI.v;have ad:m=q.toNat:=hP.uniq m (by rw[ab];congr 1;omega);have ho:=Qt7 hn hc z hP G O hx w d (AW _);rw[Ad (Fi h1),hm,Ad (by omega),aa w h1 h2] at ho;simpa using ho
def Que{p q:Int}(z:0<=p)(G:0<=q)(aa:p≠q): ∀(m:Nat) (n:Bp),DL n->Ju n->p<n.Cnt->q<n.Cnt->OE n p q->DL (Hv p q m n).1/\Ju (Hv p q m n).1/\(Hv p q m n).1.Cnt=n.Cnt/\(Hv p q m n).1.Bonds=n.Bonds/\
 (Hv p q m n).1.At=n.At/\OE (Hv p q m n).1 p q/\DC (Hv p q m n).1 p=DC n p+(Hv p q m n).2/\0<=(Hv p q m n).2/\((Hv p q m n).2=m\/(FK (Hv p q m n).1 p q).2=false)
 |0,n,O,Q,_,_,h5=>⟨O,Q,rfl,rfl,rfl,h5,by simp[Hv],by simp[Hv],.inl (by simp[Hv])⟩
 |m+1,n,O,Q,h3,h4,h5=>by
  simp only[Hv];by_cases Z:(FK n p q).2=true
  .rw[Ak Z];obtain⟨g1,g2,g3,g4,g5,g6⟩:=MQ O Q z h3 G h4 aa Z;have g7:=PX O Q z h3 G h4 Z h5;obtain⟨k1,k2,k3,k4,k5,k6,k7,k8,k9⟩:=Que z G aa m _ g1 g2 (by omega) (by omega) g7;refine⟨k1,k2,k3.trans g3,k4.trans g4,k5.trans g5,k6,by simp only;omega,by simp only;omega,?_⟩;rcases k9 with h|h
   .exact .inl (by simp only;omega)
   .exact .inr h
  .rw[Ad Z];exact⟨O,Q,rfl,rfl,rfl,h5,by simp,by simp,.inr (by simpa using Z)⟩
def Qu0{n:Int}{bs:List Ag}(h:dK (n,bs))(hs:R3 bs){p q:Int}(z:0<=p)(Q:0<=q)(G:p<n)(Z:q<n)(O:p≠q):DL (E7 n bs p q).1/\Ju (E7 n bs p q).1/\(E7 n bs p q).1.Cnt=n/\(E7 n bs p q).1.Bonds=bs/\
 (E7 n bs p q).1.At=(D4 n bs).At/\OE (E7 n bs p q).1 p q/\DC (E7 n bs p q).1 p=(E7 n bs p q).2/\0<=(E7 n bs p q).2/\(FK (E7 n bs p q).1 p q).2=false:=by
 obtain⟨h1,h2⟩:=N1 h hs;obtain⟨k1,k2,k3,k4,k5,k6,k7,k8,k9⟩:=Que z Q O ((bs.map Ag.Strength).sum.toNat+1) (D4 n bs) h1 h2 G Z (λw _ _=>Qtg w);rw[Qtg,Int.zero_add] at k7;refine⟨k1,k2,k3,k4,k5,k6,k7,k8,?_⟩;rcases k9 with h9|h9
 .exfalso;have h4:(Hv p q ((bs.map Ag.Strength).sum.toNat+1) (D4 n bs)).1.Bonds=bs:=k4
  have:=V9 k1 k2 p
  rw[h4] at this;omega
 .exact h9
def tT{n:Bp}(hn:DL n){v:Nat}{r:List Int}(hr:n.At[v]? =some r){y:Int}(Q:0<=y): ∀(l:List Int) (s:List Int×List Int),(∀i∈l,i∈r)->YG n s->s.1[v]? =some y-> ∀i∈l,0<(DF n (DV n v i) i).1-> ∃z,(l.foldl (BG n v) s).1[(DV n v i).toNat]? =some z/\0<=z
 |[],s,_,_,_,i,G,_=>by cases G
 |j::l,s,hl,hs,hv,i,G,O=>by
  have Z:=hl j (Ct ..);rcases BO.1 G with rfl|G
  .obtain⟨_,_,o1,o2⟩:=kG hn hr Z;obtain⟨z,hz⟩: ∃z,s.1[(DV n v i).toNat]? =some z:=⟨_,Bk (by rw[hs.len];omega)⟩;have aa: ∃z,(BG n v s i).1[(DV n v i).toNat]? =some z/\0<=z:=by
    by_cases h0:0<=z
    .exact⟨z,xM n v s i _ z hz h0,h0⟩
    .refine⟨y+1,?_,by omega⟩;simp only[BG];rw[Ak ⟨by rw[hz,AJ];omega,O⟩,B1,hv,AJ];exact EE (by rw[hs.len];omega)
   obtain⟨z',g1,g2⟩:=aa;exact⟨z',Qor n v _ z' g2 l _ g1,g2⟩
  .exact tT hn hr Q l _ (λj Z=>hl j (Cs _ Z)) (Qtm hn hr Z hs) (xM n v s j v y hv Q) i G O
def Qzj(n:Bp)(v:Int): ∀(l:List Int) (s:List Int×List Int),∃e,(l.foldl (BG n v) s).2=s.2++e
 |[],s=>⟨[],by simp⟩
 |i::l,s=>by
  obtain⟨e,z⟩:=Qzj n v l (BG n v s i);simp only[mH,z];simp only[BG];split
  .exact⟨[DV n v i]++e,by simp⟩
  .exact⟨e,rfl⟩
def Zi(n:Bp)(q:Int)(k:Nat): ∃e,(CV n q (k+1)).2=(CV n q k).2++e:=by
 rw[CV];split
 .exact⟨[],by simp⟩
 .exact Qzj n _ _ _
def PA(n:Bp)(q:Int)(u:Nat)(y:Int)(h0:0<=y)(k:Nat)(h:(CV n q k).1[u]? =some y):(CV n q (k+1)).1[u]? =some y:=by
 rw[CV];split
 .exact h
 .exact Qor n _ u y h0 _ _ h
def Qzn{n:Bp}(hn:DL n){q:Int}(h0:0<=q)(Z:q<n.Cnt): ∀(k j:Nat) (v:Int),j<k->(CV n q k).2[j]? =some v-> ∀(r:List Int),n.At[v.toNat]? =some r-> ∀i∈r,0<(DF n (DV n v i) i).1-> ∃z,(CV n q k).1[(DV n v i).toNat]? =some z/\0<=z
 |0,j,v,hj,_,_,_,_,_,_=>by omega
 |k+1,j,v,hj,G,r,Q,i,hi,O=>by
  obtain⟨e,he⟩:=Zi n q k;by_cases ac:j<(CV n q k).2.length
  .rw[he,Eh ac] at G;by_cases ab:j<k
   .obtain⟨z,g1,g2⟩:=Qzn hn h0 Z k j v ab G r Q i hi O;exact⟨z,PA n q _ z g2 k g1,g2⟩
   .have:j=k:=by omega
    subst this;have hI:=Y8 hn h0 Z j;have aa:=OG hn h0 Z j;have af:=hI.q v (Bd G);obtain⟨m,rfl⟩: ∃m:Nat,v=m:=⟨v.toNat,by omega⟩;obtain⟨y,hy,ad⟩:=aa.qs _ (Bd G);rw[B1] at hy Q;rw[CV,G];simp only[B1,Q,AJ];exact tT hn Q ad r _ (λ_ h=>h) hI hy i hi O
  .have e1:CV n q (k+1)=CV n q k:=by rw[CV,Hy (by omega)]
   rw[e1] at G
   have:=(B9.1 G).1
   omega
def Th{n:Bp}(hn:DL n){q:Int}(h0:0<=q)(h1:q<n.Cnt): ∀(k u:Nat) (y:Int),(CV n q k).1[u]? =some y->0<=y->(u:Int)∈(CV n q k).2
 |0,u,y,z,G=>by
  have hq:q.toNat<n.Cnt.toNat:=by omega
  simp only[CV] at z⊢;by_cases h:q.toNat=u
  .rw[BN];omega
  .rw[Ep h] at z
   have:=Pt (Bd z)
   omega
 |k+1,u,y,z,G=>by
  have ih:=Th hn h0 h1 k;have hI:=Y8 hn h0 h1 k;have O: ∀(v:Int) (l:List Int) (s:List Int×List Int),(∀i∈l,0<=DV n v i)->(∀(u:Nat) (y:Int),s.1[u]? =some y->0<=y->(u:Int)∈s.2)-> ∀(u:Nat) (y:Int),(l.foldl (BG n v) s).1[u]? =some y->0<=y->(u:Int)∈(l.foldl (BG n v) s).2:=by
   intro v l;induction l with
   |nil=>intro s _ Q;exact Q
   |cons i l aa=>
    intro s hl Q;refine aa _ (λj hj=>hl j (Cs _ hj)) ?_;intro u y z G;have ho:=hl i (Ct ..);simp only[BG] at z⊢;split at z
    .rename_i Z;rw[Ak Z];simp only[B5,BN] at z⊢;by_cases he:(DV n v i).toNat=u
     .right;omega
     .rw[Ep he] at z;exact .inl (Q u y z G)
    .rename_i Z;rw[Ad Z];exact Q u y z G
  rw[CV] at z⊢;split at z
  .exact ih u y z G
  .rename_i v hv;have ab:=hI.q v (Bd hv);obtain⟨m,rfl⟩: ∃m:Nat,v=m:=⟨v.toNat,by omega⟩;obtain⟨r,hr⟩: ∃r,n.At[m]? =some r:=⟨_,Bk (by have:=hn.al;omega)⟩;simp only[B1,hr,AJ] at z⊢;exact O m r _ (λi hi=>(kG hn hr hi).2.2.1) ih u y z G
def Qmo{n:Bp}(hn:DL n){q:Int}(h0:0<=q)(G:q<n.Cnt){v:Nat}{y:Int}(hv:(FJ n q)[v]? =some y)(hy:0<=y){r:List Int}(hr:n.At[v]? =some r){i:Int}(Z:i∈r)(O:0<(DF n (DV n v i) i).1):
 ∃z,(FJ n q)[(DV n v i).toNat]? =some z/\0<=z:=by
 have hm:=Th hn h0 G n.Cnt.toNat v y hv hy;obtain⟨j,Q⟩:=EK.1 hm;have aa:=(B9.1 Q).1;have ab:=Qkx hn.c0 (Y8 hn h0 G n.Cnt.toNat);exact Qzn hn h0 G n.Cnt.toNat j v (by omega) Q r (by rwa [B1]) i Z O
def aU(n:Bp)(S:Nat->Bool):Int:=(List.zipWith (λb f=>(if S b.A.toNat=true then f else 0) - (if S b.B.toNat=true then f else 0)) n.Bonds n.Flow).sum
def tX(S:Nat->Bool)(m:Nat): ∀(bs:List Ag) (z:List Int),(∀b∈bs,0<=b.A/\b.A<m/\0<=b.B/\b.B<m/\b.A≠b.B)->
 AN (λv=>if S v=true then (List.zipWith (K7 (v:Int)) bs z).sum else 0) m=(List.zipWith (λb f=>(if S b.A.toNat=true then f else 0) - (if S b.B.toNat=true then f else 0)) bs z).sum
 |[],z,_=>by
  simp only[List.zipWith_nil_left,Zfh];refine (FZ λi _=> ?_).trans (Su m)
  split<;>rfl
 |b::bs,[],_=>by
  simp only[Zec,Zfh];refine (FZ λi _=> ?_).trans (Su m)
  split<;>rfl
 |b::bs,f::z,h=>by
  have ih:=tX S m bs z (λx O=>h x (Cs _ O));obtain⟨b1,b2,b3,b4,b5⟩:=h b (Ct ..);simp only[mA,SM];rw[<-ih];have e:AN (λv=>if S v=true then K7 (v:Int) b f+(List.zipWith (K7 (v:Int)) bs z).sum else 0) m=
   (AN (λv=>if v=b.A.toNat then (if S b.A.toNat=true then f else 0) else 0) m+ - AN (λv=>if v=b.B.toNat then (if S b.B.toNat=true then f else 0) else 0) m)+AN (λv=>if S v=true then (List.zipWith (K7 (v:Int)) bs z).sum else 0) m:=by
   rw[<-yD,<-Sw,<-Sw];refine FZ λv _=> ?_
   simp only[K7];by_cases c1:v=b.A.toNat
   .have G: ¬v=b.B.toNat:=by omega
    rw[Ak (show b.A=(v:Int) by omega),Ak c1,Ad G,<-c1];cases S v<;>simp
   .rw[Ad (show ¬b.A=(v:Int) by omega),Ad c1];by_cases G:v=b.B.toNat
    .rw[Ak (show b.B=(v:Int) by omega),Ak G,<-G];cases S v<;>simp
    .rw[Ad (show ¬b.B=(v:Int) by omega),Ad G];cases S v<;>simp
  rw[e,Y6,Y6,Ak (show b.A.toNat<m by omega),Ak (show b.B.toNat<m by omega)];omega
def NC{n:Bp}(hn:DL n){p q:Int}(aa:0<=p)(ab:p<n.Cnt)(G:OE n p q){S:Nat->Bool}(hS:S p.toNat=true)(hT:S q.toNat=false)(ac:0<=q):aU n S=DC n p:=by
 have Q:=tX S n.Cnt.toNat n.Bonds n.Flow (λb O=>by
  have:=hn.bs b O
  have:=hn.ne b O
  omega)
 rw[aU,<-Q];have Z:AN (λv=>if S v=true then (List.zipWith (K7 (v:Int)) n.Bonds n.Flow).sum else 0) n.Cnt.toNat=AN (λv=>if v=p.toNat then DC n p else 0) n.Cnt.toNat:=by
  refine FZ λv hv=> ?_
  by_cases z:v=p.toNat
  .subst z;rw[Ak rfl,Ak hS,show ((p.toNat:Nat):Int)=p by omega];rfl
  .rw[Ad z];cases hSv:S v with
   |false=>rw[Ad (by simp)]
   |true=>
    rw[Ak rfl];have ad:v≠q.toNat:=λhe=>by rw[he,hT] at hSv;cases hSv
    exact G v (by omega) (by omega)
 rw[Z,Y6,Ak (by omega)]
def Qw5(S:Nat->Bool): ∀(bs:List Ag) (O:List Int),(∀(i:Nat) b f,bs[i]? =some b->O[i]? =some f-> -b.Strength<=f/\f<=b.Strength)->(∀b∈bs,0<=b.Strength)->(List.zipWith (λb f=>(if S b.A.toNat=true then f else 0) - (if S b.B.toNat=true then f else 0)) bs O).sum<=Di S bs
 |[],_,_,_=>by simp[Di]
 |x::r,[],_,z=>by
  have Q:=Qw5 S r [] (λi b f _ h=>by simp at h) (λb G=>z b (Cs _ G));have h2:=z x (Ct ..);simp only[Zec,Zfh,Di] at Q⊢
  split<;>omega
 |x::r,y::s,Z,z=>by
  have Q:=Qw5 S r s (λi b f h h'=>Z (i+1) b f (by simpa using h) (by simpa using h')) (λb G=>z b (Cs _ G));have h3:=Z 0 x y rfl rfl;simp only[mA,SM,Di];cases S x.A.toNat<;>cases S x.B.toNat<;>simp<;>omega
def NB(S:Nat->Bool): ∀(bs:List Ag) (z:List Int),z.length=bs.length->(∀(i:Nat) b f,bs[i]? =some b->z[i]? =some f->(S b.A.toNat=true->S b.B.toNat=false->f=b.Strength)/\(S b.A.toNat=false->S b.B.toNat=true->f= -b.Strength))->(List.zipWith (λb f=>(if S b.A.toNat=true then f else 0) - (if S b.B.toNat=true then f else 0)) bs z).sum=Di S bs
 |[],_,_,_=>by simp[Di]
 |x::r,[],h,_=>by simp at h
 |x::r,y::s,h,G=>by
  have O:=NB S r s (by simpa using h) (λi b f h h'=>G (i+1) b f (by simpa using h) (by simpa using h'));obtain⟨Q,Z⟩:=G 0 x y rfl rfl;simp only[mA,SM,Di,O];cases hA:S x.A.toNat<;>cases hB:S x.B.toNat<;>simp
  .have:=Z hA hB;omega
  .exact Q hA hB
def Ud{n:Int}{bs:List Ag}(h:dK (n,bs))(hs:R3 bs){p q:Int}(Z:0<=p)(G:0<=q)(ad:p<n)(ag:q<n)(af:p≠q):
 0<=(E7 n bs p q).2/\(∀S:Nat->Bool,S p.toNat=true->S q.toNat=false->(E7 n bs p q).2<=Di S bs)/\ ∃S:Nat->Bool,S p.toNat=true/\S q.toNat=false/\Di S bs=(E7 n bs p q).2:=by
 obtain⟨k1,k2,k3,k4,k5,k6,k7,k8,k9⟩:=Qu0 h hs Z G ad ag af;obtain⟨N,hN⟩: ∃N,N=(E7 n bs p q).1:=⟨_,rfl⟩;obtain⟨val,hval⟩: ∃val,val=(E7 n bs p q).2:=⟨_,rfl⟩;simp only[<-hN,<-hval] at k1 k2 k3 k4 k5 k6 k7 k8 k9⊢;refine⟨k8,λS hS hT=> ?_,?_⟩
 .have h1:=NC k1 Z (by omega) k6 hS hT G;have h2:=Qw5 S N.Bonds N.Flow k2 (λb O=>(k1.st b O).1);rw[k4] at h2;simp only[aU,k4] at h1;omega
 .have ai:=xK k1 G (by omega);obtain⟨x,hx⟩: ∃x,(FJ N q)[p.toNat]? =some x:=⟨_,Bk (by omega)⟩;have ab:x<0:=by
   simp only[FK,hx,AJ] at k9;by_cases h0:x<0
   .exact h0
   .rw[Ad h0] at k9;simp at k9
  have Q:=(OG k1 G (show q<N.Cnt by omega) N.Cnt.toNat).zero;have Q:(FJ N q)[q.toNat]? =some 0:=Q;refine⟨λv=>decide ((FJ N q)[v]?.getD 0<0),by simp only[hx,AJ,BA];exact ab,by simp[Q],?_⟩;have hS:decide ((FJ N q)[p.toNat]?.getD 0<0)=true:=by simp only[hx,AJ,BA];exact ab
  have hT:decide ((FJ N q)[q.toNat]?.getD 0<0)=false:=by simp[Q]
  have h1:=NC (S:=λv=>decide ((FJ N q)[v]?.getD 0<0)) k1 Z (by omega) k6 hS hT G;have h2:=NB (λv=>decide ((FJ N q)[v]?.getD 0<0)) N.Bonds N.Flow k1.fl ?_
  .simp only[aU,k4] at h1;rw[k4] at h2;omega
  .intro i b f O hf;have aj:=k1.bs b (Bd O);have ac:=k1.ne b (Bd O);obtain⟨⟨rA,a1,a2⟩,⟨rB,c1,c2⟩⟩:=k1.all i b O;have ah:=k2 i b f O hf;obtain⟨yA,hA⟩: ∃y,(FJ N q)[b.A.toNat]? =some y:=⟨_,Bk (by omega)⟩;obtain⟨yB,hB⟩: ∃y,(FJ N q)[b.B.toNat]? =some y:=⟨_,Bk (by omega)⟩;simp only[hA,hB,AJ,BA,HZ];refine⟨λe1 e2=> ?_,λe1 e2=> ?_⟩
   ·
    have ho:DV N b.B i=b.A:=by simp only[DV,B1,O];omega
    have hr:(DF N b.A i).1=b.Strength - f:=by simp only[DF,B1,O,hf,AJ,Bt]
    by_cases aa:0<b.Strength - f
    .have:=Qmo k1 G (by omega) (v:=b.B.toNat) hB (by omega) c1 c2 (by rw[show ((b.B.toNat:Nat):Int)=b.B by omega,ho,hr];exact aa)
     rw[show ((b.B.toNat:Nat):Int)=b.B by omega,ho,hA] at this;obtain⟨z,g1,g2⟩:=this
     have:=A8 g1
     omega
    .omega
   .have ho:DV N b.A i=b.B:=by simp only[DV,B1,O];omega
    have hr:(DF N b.B i).1=b.Strength+f:=by simp only[DF,B1,O,hf,AJ];rw[Ad ac]
    by_cases aa:0<b.Strength+f
    .have:=Qmo k1 G (by omega) (v:=b.A.toNat) hA (by omega) a1 a2 (by rw[show ((b.A.toNat:Nat):Int)=b.A by omega,ho,hr];exact aa)
     rw[show ((b.A.toNat:Nat):Int)=b.A by omega,ho,hB] at this;obtain⟨z,g1,g2⟩:=this
     have:=A8 g1
     omega
    .omega
def Gu(n:Int)(bs:List Ag):Nat->Int×List Int
 |0=>(-1,[])
 |k+1=>if (Gu n bs k).1<0\/Hg (E7 n bs 0 (k+1)).2 (lJ (E7 n bs 0 (k+1)).1 (k+1)) (Gu n bs k).1 (Gu n bs k).2=true then ((E7 n bs 0 (k+1)).2,lJ (E7 n bs 0 (k+1)).1 (k+1)) else Gu n bs k
def weakC.fv(a:Int×(List Ag)):Int×(List Int):=(λn bs=>Gu n bs (n - 1).toNat) (a.1) (a.2)
def weakC.row:AO:=vK (b2 qI (qS Ag.d_le Ag.c_n)) (r2 rI (rS Ez Dy)) (λa=>dK (a.1,a.2)/\R3 a.2/\1<=a.1) weakC.fv
def weakC.q:=B2 (R:=weakC.row) rfl
def eK:=J @weakC.fv.eq_1<|J @l07Before.q<|J @l07Before.fv.eq_1<|J @sideC.q @sideC.fv.eq_1
def weakC.ok:AS 138 weakC.row:=by
 refine vw (tC l07Before.ok (tC flC.ok (tC sideC.ok tN))) Tryz.func138 ?_;intro a Q;simp only[Tryz.f138,Option.getD];simp only[ZZ,simprocAttr,Ab,eK];obtain⟨O,Z,ac⟩:=Q;have aa:=O.2.1;simp only at aa;obtain⟨n,hn⟩: ∃n:Nat,a.1=n+1:=⟨(a.1 - 1).toNat,by omega⟩;rw[show (a.1 - 1).toNat=n by omega];refine Bc.frr ⟨{k:Nat//k<=n},λk=>⟨[(8,.im (.int .i64 ((k.1:Int)+1))),(7,.im (.sl false 1 ((Gu a.1 a.2 k.1).2.map Af))),(6,.im (.int .i64 (Gu a.1 a.2 k.1).1)),(0,.im (.int .i64 a.1)),(1,.im (.sl false 3 (a.2.map Ag.c)))],[],2⟩,λk=>n - k.1,λk=>⟨by simp[ZG],by simp⟩,⟨⟨0,by simp⟩,[1],[],?_⟩,λk=> ?_⟩
 .simp only[Ao];simp only[ZZ,simprocAttr,Ab,eK,AU,AT,Gu,BY]
  try simp
 obtain⟨k,ab⟩:=k;simp only[ZZ,simprocAttr,Ab,eK,sub,AQ];refine⟨λhk=> ?_,λhk=> ?_⟩
 .refine AM.os (a.1,a.2,0,(k:Int)+1) [] ⟨O,Z,by simp,by simp only;omega,by simp only;omega,by simp only;omega,by simp only;omega⟩ (λj=>by simp[Av,hget]) rfl rfl ?_ ?_
  .simp only[ZZ,simprocAttr,Ab,eK,flC.ca,Bt]
  .simp only[ZZ,simprocAttr,Ab,eK,flC.H1,flC.r0,sub,AQ];obtain⟨k1,k2,k3,k4,k5,_⟩:=Qu0 (p:=0) (q:=(k:Int)+1) O Z (by omega) (by omega) (by omega) (by omega) (by omega);have G:({Cnt:=a.1,Bonds:=a.2,At:=(D4 a.1 a.2).At,Flow:=(flC.net (a.1,a.2,0,(k:Int)+1)).Flow}:Bp)=(E7 a.1 a.2 0 ((k:Int)+1)).1:=by
    rw[<-k5];simp only[flC.net]
    conv=>rhs;rw[show (E7 a.1 a.2 0 ((k:Int)+1)).1=⟨(E7 a.1 a.2 0 ((k:Int)+1)).1.Cnt,(E7 a.1 a.2 0 ((k:Int)+1)).1.Bonds,(E7 a.1 a.2 0 ((k:Int)+1)).1.At,(E7 a.1 a.2 0 ((k:Int)+1)).1.Flow⟩ from rfl]
    rw[k3,k4]
   rw[G];have hw:IntKind.i64.wrap ((k:Int)+1+1)=(k:Int)+1+1:=AF (by omega) (by omega);have z:Gu a.1 a.2 (k+1)=if (Gu a.1 a.2 k).1<0\/Hg (E7 a.1 a.2 0 ((k:Int)+1)).2 (lJ (E7 a.1 a.2 0 ((k:Int)+1)).1 ((k:Int)+1)) (Gu a.1 a.2 k).1 (Gu a.1 a.2 k).2=true then ((E7 a.1 a.2 0 ((k:Int)+1)).2,lJ (E7 a.1 a.2 0 ((k:Int)+1)).1 ((k:Int)+1)) else Gu a.1 a.2 k:=rfl
   refine⟨⟨k1,by omega,by omega⟩,λh0=>⟨λh1=>⟨⟨k+1,by omega⟩,[],[],by simp only;omega,?_⟩,λh1=>⟨⟨k+1,by omega⟩,[],[],by simp only;omega,?_⟩⟩,λh0=>⟨⟨k+1,by omega⟩,[],[],by simp only;omega,?_⟩⟩
   .rw[Ak (.inr h1)] at z;simp only[Ao];simp only[ZZ,simprocAttr,Ab,eK,AU,AT,z,hw];omega
   .rw[Ad (λh=>h.elim h0 h1)] at z;simp only[Ao];simp only[ZZ,simprocAttr,Ab,eK,AU,AT,z,hw];omega
   .rw[Ak (.inl (I3.1 h0))] at z;simp only[Ao];simp only[ZZ,simprocAttr,Ab,eK,AU,AT,z,hw];omega
 .have:k=n:=by omega
  rw[this]
def Qzk{n:Int}{bs:List Ag}(h:dK (n,bs))(hs:R3 bs){t:Int}(ht:0<=t): ∀k:Nat,(k:Int)<n->(0<k->0<=(Gu n bs k).1/\(t<=(Gu n bs k).1↔YF n.toNat bs t k))
 |0,_=>λh0=>by omega
 |k+1,hk=>λ_=>by
  obtain⟨f1,f2,S,f3,f4,f5⟩:=Ud h hs (p:=0) (q:=(k:Int)+1) (by omega) (by omega) (by omega) (by omega) (by omega);simp only[Zfp,show ((k:Int)+1).toNat=k+1 by omega] at f2 f3 f4;obtain⟨v,hv⟩: ∃v,v=(E7 n bs 0 ((k:Int)+1)).2:=⟨_,rfl⟩;obtain⟨sd,hsd⟩: ∃sd,sd=lJ (E7 n bs 0 ((k:Int)+1)).1 ((k:Int)+1):=⟨_,rfl⟩;have aa:t<=v↔ ∀S:Nat->Bool,S 0=true->S (k+1)=false->t<=Di S bs:=by
   constructor
   .intro z S O hT
    have:=f2 S O hT
    omega
   .intro z
    have:=z S f3 f4
    omega
  have Z:YF n.toNat bs t (k+1)↔YF n.toNat bs t k/\t<=v:=by
   rw[aa];constructor
   .intro z;exact⟨λS O ⟨y,y1,y2,y3,y4⟩=>z S O ⟨y,y1,by omega,y3,y4⟩,λS O hT=>z S O ⟨k+1,by omega,by omega,by omega,hT⟩⟩
   .rintro⟨z,h2⟩ S O ⟨y,y1,y2,y3,y4⟩;by_cases hy:y<=k
    .exact z S O ⟨y,y1,hy,y3,y4⟩
    .exact h2 S O (by rw[show k+1=y by omega];exact y4)
  rw[Z];simp only[Gu,<-hv,<-hsd];by_cases ab:k=0
  .subst ab;rw[Ak (.inl (by simp[Gu]))];refine⟨by simp only;omega,?_⟩;simp only;constructor
   .intro z;exact⟨λS _ ⟨y,y1,y2,_,_⟩=>by omega,z⟩
   .exact λz=>z.2
  .obtain⟨i1,i2⟩:=Qzk h hs ht k (by omega) (by omega);rw[<-i2];by_cases G:(Gu n bs k).1<0\/Hg v sd (Gu n bs k).1 (Gu n bs k).2=true
   .rw[Ak G];have ac:v<=(Gu n bs k).1:=by
     rcases G with G|G
     .omega
     .simp only[Hg] at G;split at G
      .omega
      .simp only[BA] at G;omega
    simp only;exact⟨by omega,by omega,by omega⟩
   .rw[Ad G];have ac:(Gu n bs k).1<=v:=by
     have Q: ¬Hg v sd (Gu n bs k).1 (Gu n bs k).2=true:=λh=>G (.inr h)
     simp only[Hg] at Q;split at Q
     .omega
     .simp only[BA] at Q;omega
    exact⟨i1,by omega,by omega⟩
def Hu(t:Int)(bs:List Ag):List Ag:=bs.filter λb=>decide (t<=b.Strength)
def R4(g:Int)(r:List Int)(l:List Int):Nat->List Int
 |0=>l
 |k+1=>(R4 g r l k).set (r[k]?.getD 0).toNat g
def Lh(gs:List (List Int))(l:List Int):Nat->List Int
 |0=>l
 |i+1=>R4 i (gs[i]?.getD []) (Lh gs l i) (gs[i]?.getD []).length
def Qkb(g:Int)(r l:List Int): ∀k,(R4 g r l k).length=l.length
 |0=>rfl
 |k+1=>by simp only[R4,I4,Qkb g r l k]
def xX(gs:List (List Int))(l:List Int): ∀i,(Lh gs l i).length=l.length
 |0=>rfl
 |i+1=>by simp only[Lh,Qkb,xX gs l i]
def SB(n:Nat)(gs:List (List Int)):List Int:=Lh gs (List.replicate n 0) gs.length
def Ch(nm:List Int)(v:Int):Int:=nm[v.toNat]?.getD 0
def Ix(nm:List Int):List Ag->List Ag
 |[]=>[]
 |b::r=>if Ch nm b.A=Ch nm b.B then Ix nm r else ⟨FA (Ch nm b.A) (Ch nm b.B),Et (Ch nm b.A) (Ch nm b.B),b.Strength⟩::Ix nm r
def Qp2(nm:List Int): ∀(a b:List Ag),Ix nm (a++b)=Ix nm a++Ix nm b
 |[],b=>rfl
 |x::r,b=>by simp only[CP,Ix,Qp2 nm r b];split<;>rfl
def Qjq(nm:List Int): ∀(a:List Ag),(Ix nm a).length<=a.length
 |[]=>AW _
 |x::r=>by have:=Qjq nm r;simp only[Ix];split<;>simp only[Dp]<;>omega
def Qln(t:Int)(bs:List Ag):(Hu t bs).length<=bs.length:=Zdp _ _
def Qjs(t:Int){bs:List Ag}{k:Nat}{b:Ag}(h:bs[k]? =some b):Hu t (bs.take (k+1))=Hu t (bs.take k)++if t<=b.Strength then [b] else []:=by
 rw[K6,h];simp only[Hu,sA,Zea,mG,rQ,BA]
def tL(own:List Int)(i:Nat): ∀k,∀v∈DA own i k,(i:Int)<=v/\v<i+k
 |0,v,h=>by simp[DA] at h
 |k+1,v,h=>by
  simp only[DA,B5] at h;rcases h with h|h
  .have:=tL own i k v h;omega
  .split at h
   .rw[BN] at h;omega
   .simp at h
def Qvq(own:List Int)(n:Nat): ∀k,k<=n-> ∀r∈BM own n k,∀v∈r,0<=v/\v<n
 |0,_,r,h,_,_=>by simp[BM] at h
 |k+1,G,r,h,v,z=>by
  simp only[BM,B5] at h;rcases h with h|h
  .exact Qvq own n k (by omega) r h v z
  .split at h
   .rw[BN] at h;subst h
    have:=tL own k (n - k) v z
    omega
   .simp at h
def Qps(n:Nat)(bs:List Ag): ∀r∈Xb (n:Int) bs,∀v∈r,0<=v/\v<n:=by
 intro r z v G
 have:=Qvq (C6 n bs bs.length) n n (AW _) r (by simpa[Xb] using z) v G
 omega
def Qvc(nm:List Int){bs:List Ag}{k:Nat}{b:Ag}(h:bs[k]? =some b):Ix nm (bs.take (k+1))=Ix nm (bs.take k)++if Ch nm b.A=Ch nm b.B then [] else [⟨FA (Ch nm b.A) (Ch nm b.B),Et (Ch nm b.A) (Ch nm b.B),b.Strength⟩]:=by
 rw[K6,h];simp only[Zea,Qp2,Ix]
def Pe(n:Int)(bs:List Ag)(t:Int):List (List Int):=Xb n (Hu t bs)
def C7(n:Int)(bs:List Ag)(t:Int):Int×List Ag:=((Pe n bs t).length,Ix (SB n.toNat (Pe n bs t)) bs)
def shrunk.fv(a:Int×(List Ag)×Int):Int×(List Ag):=(C7) (a.1) (a.2.1) (a.2.2)
def shrunk.row:AO:=vK (b3 qI (qS Ag.d_le Ag.c_n) qI) (r2 rI (rS Ag.d_le Ag.c_n)) (λa=>0<=a.1/\a.1<=1000000/\Mh a.1 a.2.1/\a.2.1.length<=1000000) shrunk.fv
def shrunk.q:=B2 (R:=shrunk.row) rfl
def Pq:=J @shrunk.fv.eq_1<|J @l06Groups.q<|J @l06Groups.fv.eq_1<|J @l00Min.q<|J @l00Min.fv.eq_1<|J @l00Max.q @l00Max.fv.eq_1
def shrunk.ok:AS 136 shrunk.row:=by
 refine vw (tC l06Groups.ok (tC l00Min.ok (tC l00Max.ok tN))) Tryz.func136 ?_;intro a ah;simp only[Tryz.f136,Option.getD];simp only[ZZ,simprocAttr,Ab,Pq];obtain⟨h0,h1,aa,ai⟩:=ah;obtain⟨n,hn⟩: ∃n:Nat,a.1=n:=⟨a.1.toNat,by omega⟩;obtain⟨bs,hbsd⟩: ∃bs,bs=a.2.1:=⟨_,rfl⟩;obtain⟨t,ht⟩: ∃t,t=a.2.2:=⟨_,rfl⟩;simp only[hn,<-hbsd,<-ht] at h0 h1 aa ai⊢;refine Bc.ren ⟨{k:Nat//k<=bs.length},λk=>⟨[(9,.im (.int .i64 k.1)),(8,.own 2),(0,.im (.int .i64 n)),(1,.im (.sl false 3 (bs.map Ag.c))),(2,.im (.int .i64 t))],[(2,(true,.arr 215 3 ((Hu t (bs.take k.1)).map Ag.c)))],3⟩,λk=>bs.length - k.1,λk=>⟨by simp[ZG],by simp⟩,⟨⟨0,by simp⟩,[(2,some 1)],?_⟩,λk=> ?_⟩
 .simp only[Ao];simp only[ZZ,simprocAttr,Ab,Pq,AU,AT];rfl
 obtain⟨k,ab⟩:=k;have Z:=Qln t (bs.take k);rw[Cp] at Z;simp only[ZZ,simprocAttr,Ab,Pq,sub,AQ,OO,OI,OL,B8,D.one,Er,EN,I7];intro _;refine⟨λO=>⟨O,λb Q=>⟨λhs=>⟨O,λb' z=>⟨by omega,⟨k+1,by omega⟩,[(2,some 4)],by simp only;omega,?_⟩⟩,λhs=>⟨⟨k+1,by omega⟩,[(2,some 2)],by simp only;omega,?_⟩⟩⟩,λO=> ?_⟩
 .rw[Q] at z;obtain rfl:=A8 z;simp only[Ao];simp only[ZZ,simprocAttr,Ab,Pq,AU,AT,Qjs t Q];rw[AF (by omega) (by omega),Ak hs];simp[Ag.c]
 .simp only[Ao];simp only[ZZ,simprocAttr,Ab,Pq,AU,AT,Qjs t Q];rw[AF (by omega) (by omega),Ad hs,CQ];simp
 have am:k=bs.length:=by omega
 subst am;rw[EW];refine⟨⟨h1,λb Q=>aa b (SP.1 Q).1⟩,by omega,?_⟩;obtain⟨G,hgs⟩: ∃G,G=Xb (n:Int) (Hu t bs):=⟨_,rfl⟩;have aj: ∀r∈G,∀v∈r,0<=v/\v<n:=by rw[hgs];exact Qps n _
 simp only[<-hgs];clear O Z ab;refine Bc.old ⟨{i:Nat//i<=G.length},λi=>⟨[(12,.im (.int .i64 i.1)),(11,.own 3),(10,.im (.sl false 1 (G.map C9))),(0,.im (.int .i64 n)),(1,.im (.sl false 3 (bs.map Ag.c))),(2,.im (.int .i64 t))],[(3,(true,.arr 2 1 ((Lh G (List.replicate n 0) i.1).map Af)))],4⟩,λi=>G.length - i.1,λi=>⟨by simp[ZG],by simp⟩,⟨⟨0,by simp⟩,?_⟩,λi=> ?_⟩
 .simp only[ZZ,simprocAttr,Ab,Pq,sub,Lh,zF]
 obtain⟨i,aq⟩:=i;simp only[ZZ,simprocAttr,Ab,Pq,sub,AQ];intro ao;refine⟨λhi=> ?_,λhi=> ?_⟩
 .obtain⟨r,hr⟩: ∃r,G[i]? =some r:=⟨_,Bk hi⟩;have an:=aj r (Bd hr);obtain⟨l,hl⟩: ∃l,l=Lh G (List.replicate n 0) i:=⟨_,rfl⟩;have au:l.length=n:=by rw[hl,xX,Mn]
  simp only[<-hl];refine Bc.old ⟨{k:Nat//k<=r.length},λk=>⟨[(13,.im (.int .i64 k.1)),(12,.im (.int .i64 i)),(11,.own 3),(10,.im (.sl false 1 (G.map C9))),(0,.im (.int .i64 n)),(1,.im (.sl false 3 (bs.map Ag.c))),(2,.im (.int .i64 t))],[(3,(true,.arr 2 1 ((R4 i r l k.1).map Af)))],4⟩,λk=>r.length - k.1,λk=>⟨by simp[ZG],by simp⟩,⟨⟨0,by simp⟩,?_⟩,λk=> ?_⟩
  .simp only[ZZ,simprocAttr,Ab,Pq,sub,R4]
  obtain⟨k,ab⟩:=k;have ag:=Qkb (i:Int) r l k;simp only[ZZ,simprocAttr,Ab,Pq,sub,AQ,hr,ag,cV];refine⟨hi,λr' ac av=> ?_⟩;subst ac;refine⟨λO=>⟨hi,λr' ac=> ?_⟩,λO=>⟨⟨i+1,by omega⟩,by simp only;omega,by rw[AF (by omega) (by omega)];simp only;omega,?_⟩⟩
  .subst ac;refine⟨O,λv hv=> ?_⟩;obtain⟨v1,v2⟩:=an v (Bd hv);refine⟨v1,by omega,by omega,λ_ _=>⟨⟨k+1,by omega⟩,by simp only;omega,by rw[AF (by omega) (by omega)];simp only;omega,?_⟩⟩;simp only[R4,hv,AJ]
  .have:k=r.length:=by omega
   simp only[Lh,hr,AJ,<-hl,this]
 .have ak:i=G.length:=by omega
  subst ak;obtain⟨nm,hnm⟩: ∃nm,nm=Lh G (List.replicate n 0) G.length:=⟨_,rfl⟩;have ag:nm.length=n:=by rw[hnm,xX,Mn]
  simp only[<-hnm];refine Bc.ren ⟨{k:Nat//k<=bs.length},λk=>⟨[(15,.im (.int .i64 k.1)),(14,.own 5),(11,.own 3),(10,.im (.sl false 1 (G.map C9))),(0,.im (.int .i64 n)),(1,.im (.sl false 3 (bs.map Ag.c))),(2,.im (.int .i64 t))],[(5,(true,.arr 215 3 ((Ix nm (bs.take k.1)).map Ag.c))),(3,(true,.arr 2 1 (nm.map Af)))],6⟩,λk=>bs.length - k.1,λk=>⟨by simp[ZG],by simp⟩,⟨⟨0,by simp⟩,[(5,some 4)],?_⟩,λk=> ?_⟩
  .simp only[Ao];simp only[ZZ,simprocAttr,Ab,Pq,AU,AT];rfl
  obtain⟨k,ab⟩:=k;have Z:=Qjq nm (bs.take k);rw[Cp] at Z;simp only[ZZ,simprocAttr,Ab,Pq,sub,AQ,OO,OI,OL,B8,D.one,Er,EN,I7];intro _;refine⟨λO=>⟨O,λb Q=> ?_⟩,λO=> ?_⟩
  .obtain⟨b1,b2,b3,b4⟩:=aa b (Bd Q);refine⟨b1,by omega,by omega,λx hx=>⟨O,λb' z=> ?_⟩⟩;rw[Q] at z;obtain rfl:=A8 z;refine⟨b3,by omega,by omega,λy hy=> ?_⟩;have e1:Ch nm b.A=x:=by simp only[Ch,hx,AJ]
   have e2:Ch nm b.B=y:=by simp only[Ch,hy,AJ]
   have ad:=Qvc nm Q;rw[e1,e2] at ad;refine⟨λaf=>⟨O,λb' z=>⟨by omega,⟨k+1,by omega⟩,[(5,some 7)],by simp only;omega,?_⟩⟩,λaf=>⟨⟨k+1,by omega⟩,[(5,some 5)],by simp only;omega,?_⟩⟩
   .rw[Q] at z;obtain rfl:=A8 z;simp only[Ao];simp only[ZZ,simprocAttr,Ab,Pq,AU,AT,ad];rw[AF (by omega) (by omega),Ad af];simp[Ag.c]
   .simp only[Ao];simp only[ZZ,simprocAttr,Ab,Pq,AU,AT,ad];rw[AF (by omega) (by omega),Ak (I3.1 af),CQ];simp
  .have:k=bs.length:=by omega
   subst this;rw[EW];intro _;simp only[C7,Pe,SB,B1,<-hgs,<-hnm]
def Qk5(s:AI): ∀(l:List AG) (i:Nat),Md s i l=true-> ∀g∈l,1<=g.Strength/\g.Strength<=4
 |[],_,_,_,h=>by cases h
 |x::r,i,h,g,z=>by
  simp only[Md,AZ,Bz,BA] at h;rcases BO.1 z with rfl|z
  .exact⟨h.1.2.1.1,h.1.2.1.2⟩
  .exact Qk5 s r _ h.2 g z
def Qlf(s:AI): ∀(l:List Tile) (i:Nat),Kv s i l=true-> ∀t∈l,t.Sides.length=4/\ ∀g∈t.Sides,0<=g/\g<=s.Glues.length
 |[],_,_,_,h=>by cases h
 |x::r,i,h,t,z=>by
  simp only[Kv,AZ,BA,HN,Bz] at h;rcases BO.1 z with rfl|z
  .exact⟨h.1.2.1,λg G=>⟨(h.1.2.2.2 g G).1,(h.1.2.2.2 g G).2⟩⟩
  .exact Qlf s r _ h.2 t z
def Qge{s:AI}(h:Gb s=true):BK s:=by
 simp only[Gb,AZ,BA] at h;exact⟨by omega,Qlf s _ _ h.2.2,Qk5 s _ _ h.2.1⟩
def WV{s:AI}{a:Al}(h:La s a=true):CA s a/\a.Tiles.length<=500:=by
 simp only[La,AZ,BA,HN,Bz] at h;exact⟨⟨h.1.1,λx z=>⟨(h.2 x z).1,by have:=(h.2 x z).2;omega⟩⟩,h.1.2⟩
def cD(p:Ac)(d:Int):Bv p d≠p:=by
 intro h;have G:(Bv p d).X=p.X:=by rw[h]
 have z:(Bv p d).Y=p.Y:=by rw[h]
 simp only[Bv] at G z;split at G
 .rename_i h0;rw[Ak h0] at z;simp only at z;omega
 .rename_i h0;rw[Ad h0] at z;split at G
  .simp only at G;omega
  .rename_i O;rw[Ad O] at z;split at G
   .rename_i Q;rw[Ak Q] at z;simp only at z;omega
   .simp only at G;omega
def nX(a:Al)(i:Nat)(d:Int)(Z:i<a.Tiles.length):HR a i d≠i:=by
 intro h;rcases Xa (λx=>decide (x.At=Bv ((a.Tiles[(i:Int).toNat]?.map Ar.At).getD ⟨0,0⟩) d)) a.Tiles 0 with ⟨_,z⟩|⟨j,x,O,z,Q⟩
 .simp only[HR,z] at h;omega
 .simp only[HR,z,FM] at h;have G:j=i:=by omega
  subst G
  have:=Xr O
  simp only[BA,B1,Q,CR,AJ] at this;exact cD _ _ this.symm
def Lq(n:Int)(b:Ag):Prop:=(0<=b.A/\b.A<n/\0<=b.B/\b.B<n)/\b.A≠b.B/\0<b.Strength/\b.Strength<=4
def Zn{s:AI}(hs:BK s)(a:Al)(i:Nat)(hi:i<a.Tiles.length)(d:Int): ∀b∈YN s a i d,Lq a.Tiles.length b:=by
 intro b z;simp only[YN] at z;split at z
 .rename_i h0;split at z
  .rename_i G;rw[BN] at z;subst z;have O:=LI a i d;have Q:=nX a i d hi;have Z:Gd s (Hs a i) d (Hs a (HR a i d))<=4:=by
    simp only[Gd];split
    .exact (Qp1 hs _).2
    .omega
   exact⟨⟨by simp only;omega,by simp only;omega,h0,O⟩,λh=>Q h.symm,G,Z⟩
  .simp at z
 .simp at z
def Qzz{s:AI}(hs:BK s)(a:Al)(i:Nat)(z:i<a.Tiles.length): ∀k,∀b∈Lc s a i k,Lq a.Tiles.length b
 |0,b,h=>by simp[Lc] at h
 |k+1,b,h=>by
  simp only[Lc,B5] at h;rcases h with h|h
  .exact Qzz hs a i z k b h
  .exact Zn hs a i z _ b h
def Qro{s:AI}(hs:BK s)(a:Al): ∀k,k<=a.Tiles.length-> ∀b∈Gs s a k,Lq a.Tiles.length b
 |0,_,b,h=>by simp[Gs] at h
 |k+1,z,b,h=>by
  simp only[Gs,B5] at h;rcases h with h|h
  .exact Qro hs a k (by omega) b h
  .exact Qzz hs a k (by omega) _ b h
def N3(g:Int)(r:List Int)(m:Int)(h0:0<=g)(O:g<m)(l:List Int)(G: ∀x∈l,0<=x/\x<m): ∀k,∀x∈R4 g r l k,0<=x/\x<m
 |0=>G
 |k+1=>by
  intro x z;simp only[R4] at z;rcases Zc z with z|z
  .exact N3 g r m h0 O l G k x z
  .omega
def N2(gs:List (List Int))(l:List Int)(z: ∀x∈l,0<=x/\x<(gs.length:Int)): ∀i,i<=gs.length-> ∀x∈Lh gs l i,0<=x/\x<(gs.length:Int)
 |0,_=>z
 |i+1,G=>N3 _ _ _ (by omega) (by omega) _ (N2 gs l z i (by omega)) _
def Qy8{n:Nat}{gs:List (List Int)}(G:0<gs.length)(v:Int):0<=Ch (SB n gs) v/\Ch (SB n gs) v<(gs.length:Int):=by
 simp only[Ch];cases h:(SB n gs)[v.toNat]? with
 |none=>simp;omega
 |some x=>
  rw[AJ];exact N2 gs _ (λx z=>by have:=Pt z;omega) _ (AW _) x (Bd h)
def Qvw{n:Nat}{gs:List (List Int)}(z:0<gs.length): ∀(bs:List Ag),(∀b∈bs,0<b.Strength/\b.Strength<=4)-> ∀b∈Ix (SB n gs) bs,Lq gs.length b
 |[],_,b,h=>by simp[Ix] at h
 |x::r,O,b,h=>by
  simp only[Ix] at h;have ih:=Qvw (n:=n) z r (λy Z=>O y (Cs _ Z)) b;split at h
  .exact ih h
  .rename_i Q;rcases BO.1 h with rfl|h
   .have h1:=Qy8 (n:=n) z x.A;have h2:=Qy8 (n:=n) z x.B;have G:=O x (Ct ..);refine⟨?_,?_,G.1,G.2⟩
    .simp only[FA,Et]
     split<;>split<;>omega
    .simp only[FA,Et]
     split<;>split<;>omega
   .exact ih h
def Oc{n:Int}{bs:List Ag}{t:Int}(O: ∀b∈bs,Lq n b)(hl:bs.length<=1000000)(h0:0<(C7 n bs t).1)(Z:(C7 n bs t).1<=64):dK (C7 n bs t)/\R3 (C7 n bs t).2:=by
 have G:=Qvw (n:=n.toNat) (gs:=Pe n bs t) (by simp only[C7] at h0;omega) bs (λb z=>⟨(O b z).2.2.1,(O b z).2.2.2⟩);have Q:=Qjq (SB n.toNat (Pe n bs t)) bs;refine⟨⟨by omega,by omega,by simp only[C7];omega,λb z=>(G b z).1,λb z=>(G b z).2.1⟩,λb z=> ?_⟩
 have:=(G b z).2.2
 omega
def lK(s:AI)(a:Al)(t:Int):Bool×Int:=
 if 64<(C7 a.Tiles.length (Gs s a a.Tiles.length) t).1 then (false,4)
 else if (C7 a.Tiles.length (Gs s a a.Tiles.length) t).1<2 then (true,0)
 else (decide (t<=(Gu (C7 a.Tiles.length (Gs s a a.Tiles.length) t).1 (C7 a.Tiles.length (Gs s a a.Tiles.length) t).2 ((C7 a.Tiles.length (Gs s a a.Tiles.length) t).1 - 1).toNat).1),0)
def l07Stable.fv(a:AI×Al×Int):Bool×Int:=(lK) (a.1) (a.2.1) (a.2.2)
def l07Stable.row:AO:=vK (b3 (qP 2 AI.d_le) (qP 1 Al.d_le) qI) (r2 rB rI) (λa=>BK a.1/\CA a.1 a.2.1/\a.2.1.Tiles.length<=500) l07Stable.fv
def l07Stable.q:=B2 (R:=l07Stable.row) rfl
def l07Stable.ok:AS 84 l07Stable.row:=by
 refine vw (tC l06Bonds.ok (tC shrunk.ok (tC weakC.ok tN))) Tryz.func84 ?_;intro a z;simp only[Tryz.f84,Option.getD];simp only[ZZ,simprocAttr,Ab,l07Stable.fv,l06Bonds.q,l06Bonds.fv,shrunk.q,shrunk.fv,weakC.q,weakC.fv];obtain⟨G,Q,h3⟩:=z;have O:=Qro G a.2.1 _ (AW _);have hl:=xN a.1 a.2.1 a.2.1.Tiles.length;refine⟨⟨G,Q,by omega⟩,⟨by omega,λb Z=>(O b Z).1,by omega⟩,?_⟩;simp only[lK];split
 .rfl
 .rename_i c1;split
  .rfl
  .rename_i c2;obtain⟨p1,p2⟩:=Oc (t:=a.2.2) O (by omega) (by omega) (by omega);exact⟨⟨p1,p2,by omega⟩,rfl⟩
def WG(s:AI)(a:Al)(t:Int):Bool:=(lK s a t).1 && decide ((lK s a t).2=0)
def FL(y:An):Bool:=Gb y.Set && (La y.Set y.Seed && (!y.Seed.Tiles.isEmpty && (Bz y.Temperature 1 16 && WG y.Set y.Seed y.Temperature)))
def l08Ok.fv(a:An):Bool:=(FL) a
def l08Ok.row:AO:=vK (b1 (qP 4 An.d_le)) rB (λa=>True) l08Ok.fv
def l08Ok.q:=B2 (R:=l08Ok.row) rfl
def l08Ok.ok:AS 29 l08Ok.row:=by
 refine vw (tC l02Ok.ok (tC l03Ok.ok (tC l07Temperature.ok (tC l07Stable.ok tN)))) Tryz.func29 ?_;intro a aa;simp only[Tryz.f29,Option.getD];simp only[ZZ,simprocAttr,Ab,l08Ok.fv,l02Ok.q,l02Ok.fv,l03Ok.q,l03Ok.fv,l07Temperature.q,l07Temperature.fv,l07Stable.q,l07Stable.fv]
 split<;>rename_i c1
 .split<;>rename_i c2
  .have z:La a.Set a.Seed=true:=by
    simp only[La,AZ,BA];exact c2
   split<;>rename_i G
   .have O:a.Seed.Tiles.isEmpty=false:=by
     rw[ZeM];intro h;rw[h] at G;simp at G
    split<;>rename_i Q
    .simp only[FL,Q,Gx,rR]
    .refine⟨⟨Qge c1,(WV z).1,(WV z).2⟩,?_⟩;rw[Gi] at Q;simp only[FL,c1,z,O,Q,EL,Xs,WG]
     split<;>rename_i Z
     .rw[Z,EL]
     .rw[RE] at Z;rw[Z,Gx]
   .have O:a.Seed.Tiles=[]:=by
     have:=I3.1 G
     exact ZcB (by omega)
    simp[FL,O]
  .have z:La a.Set a.Seed=false:=by
    rw[RC];intro h;simp only[La,AZ,BA] at h;exact c2 h
   simp[FL,z]
 .rw[RE] at c1;simp[FL,c1]
def C3(b n:Nat):List (List AV):=(List.range n).map λi=>[AV.own (b+i)]
def BI(b n:Nat)(M:List (List Int)):Au:=B4 b n (λi=>(true,.arr 2 1 ((M[i]?.getD []).map Af)))
def G0(j:Nat):Bool:=Nat.blt j 3||((Nat.ble 100 j && Nat.blt j 164)||(Nat.ble 200 j && Nat.blt j 264))
def Dg(x:Bq)(n:Nat):Au:=(0,(true,.cells 295 [.own 1,.own 2]))::(1,(true,.arrA 37 1 (C3 100 n)))::(2,(true,.arrA 37 1 (C3 200 n)))::(BI 100 n x.Room++BI 200 n x.Flow)
def nwC.ca(a:Int×List Ag):List AV:=[.im (.int .i64 a.1),.im (.sl false 3 (a.2.map Ag.c))]
def nwC.H1(a:Int×List Ag):Au:=Dg (Ee a.1.toNat a.2) (min a.1.toNat 64)
def N6(a:Int×List Ag):Prop:=0<=a.1/\a.1<=64/\a.2.length<=1000000/\Mh a.1 a.2/\R3 a.2/\ ∀b∈a.2,b.A≠b.B
def nwC.row:AO:=AM nwC.ca (λ_=>[]) 0 N6 (λ_=>false) (λ_=> .ptr 0 0) nwC.H1 320
def qE(m:Nat): ∀(a b:Au),AH m (a++b)=(AH m a && AH m b)
 |[],b=>by simp[AH]
 |(i,(z,e))::r,b=>by
  have ih:=qE m r b;cases e<;>simp only[CP,AH,ih,ZeJ]
def Qmd(m:Nat): ∀(a b:Au),Cz m (a++b)=(Cz m a && Cz m b)
 |[],b=>by simp[Cz]
 |(i,(z,e))::r,b=>by simp only[CP,Cz,Qmd m r b,ZeJ]
def Ry(b n N:Nat)(h:b+n<=N):(C3 b n).all (AL N)=true:=by
 rw[HN];intro r G;obtain⟨i,z,rfl⟩:=BZ.1 G
 have:=CX.1 z
 simp[AL,AV.bel];omega
def kQ(nx:Nat): ∀(l:List Nat),Hl nx 0 l=true
 |[]=>rfl
 |x::r=>by
  have:(Nat.blt x nx||Nat.ble (nx+0) x)=true:=by
   rw[J3,FG,Ln];omega
  simp only[Hl,this,kQ nx r,rV]
def Ga(b n:Nat):(C3 b n).length=n:=by simp[C3]
def yX(b n i:Nat)(h:i<n):(C3 b n)[i]? =some [.own (b+i)]:=by simp[C3,Lm h]
def Qpf(a b:Au):Iz (a++b)=Iz a++Iz b:=by
 induction a with
 |nil=>rfl
 |cons x r ih=>obtain⟨i,e⟩:=x;simp only[CP,Iz,ih]
def lB(m:Nat): ∀(a b:Au),hget (a++b) m=(hget a m).or (hget b m)
 |[],b=>by simp[hget]
 |(i,e)::r,b=>by
  have ih:=lB m r b;simp only[CP,hget];cases i==m<;>simp[ih]
def Qpw(b n:Nat)(M:List (List Int))(i:Nat)(h:i<n):hget (BI b n M) (b+i)=some (true,.arr 2 1 ((M[i]?.getD []).map Af)):=Kx _ _ _ _ h
def Qwa(b n:Nat)(M:List (List Int))(m:Nat)(h:m<b\/b+n<=m):hget (BI b n M) m=none:=Qmh _ _ _ _ h
def jP(k:Nat)(M N:List (List Int))(i:Nat)(h:i<k):hget (BI 100 k M++BI 200 k N) (100+i)=some (true,.arr 2 1 ((M[i]?.getD []).map Af)):=by
 rw[lB,Qpw _ _ _ _ h];rfl
def jT(k:Nat)(M N:List (List Int))(i:Nat)(z:k<=100)(h:i<k):hget (BI 100 k M++BI 200 k N) (200+i)=some (true,.arr 2 1 ((N[i]?.getD []).map Af)):=by
 rw[lB,Qwa _ _ _ _ (by omega),Qpw _ _ _ _ h];rfl
def Qxa(b n i:Nat)(K:List AV->Prop)(h:i<n):Ky (C3 b n) i K=K [.own (b+i)]:=by
 apply propext;unfold Ky;rw[yX b n i h];exact⟨λh=>h _ rfl,λh row z=>by obtain rfl:=A8 z;exact h⟩
def jW(s:A9): ∀(a b:Au),De s (a++b)=(De s a/\De s b)
 |[],b=>by simp[De]
 |(i,e)::r,b=>by simp only[CP,De,jW s r b,mI]
def yL(s:A9)(b n:Nat)(M:List (List Int)):De s (BI b n M)= ∀i,i<n->hget s.h (b+i)=some (true,.arr 2 1 ((M[i]?.getD []).map Af)):=by
 have: ∀(f:Nat->Aq) (l:List Nat),De s (l.map λi=>(b+i,f i))↔ ∀i∈l,hget s.h (b+i)=some (f i):=by
  intro f l;induction l with
  |nil=>simp[De]
  |cons i r ih=>simp only[Bm,De,ih,BO,ZeY]
 apply propext;rw[BI,B4,this];simp only[CX]
def Qrm{n:Nat}{bs:List Ag}(G:Mh n bs)(hs:R3 bs)(a b:Nat): ∀k,0<=Ey (Cn n bs k) a b/\Ey (Cn n bs k) a b<=2000000*(k:Int)
 |0=>by
  simp only[Ey,Cn,LJ,HF,Pu];split
  .rw[AJ,Pu];split<;>simp
  .simp
 |k+1=>by
  have ih:=Qrm G hs a b k;obtain⟨z,_⟩:=YA G k;simp only[Ey,Cn] at ih⊢;split
  .rename_i x O;obtain⟨b1,b2,b3,b4⟩:=G x (Bd O);have h0:=hs x (Bd O);simp only[Lo];rw[show x.A=(x.A.toNat:Int) by omega,show x.B=(x.B.toNat:Int) by omega];rw[jM (n:=n) (by rw[cX];exact z.r) (cR z.rr _ _ _ (by rw[z.r];simp;omega)) _ (by omega) (by omega),jM z.r z.rr _ (by omega) (by omega)]
   split<;>split<;>omega
  .omega
def Vx(k:Nat)(O:k<=64):([0,1,2]++((List.range k).map (100+ ·)++(List.range k).map (200+ ·))).Nodup:=by
 rw[<-HY];refine pM _ 200 k (pM _ 100 k (by simp) (by simp)) ?_;intro x z;rcases B5.1 z with z|z
 .simp at z;omega
 .obtain⟨i,G,rfl⟩:=BZ.1 z
  have:=CX.1 G
  show 100+i<200;omega
def Vw(k:Nat)(O:k<=64): ∀x∈([0,1,2]++((List.range k).map (100+ ·)++(List.range k).map (200+ ·))),x<300:=by
 intro x z;rcases B5.1 z with z|z
 .simp at z;omega
 .rcases B5.1 z with z|z<;>obtain⟨i,G,rfl⟩:=BZ.1 z<;>have:=CX.1 G
  .show 100+i<300;omega
  .show 200+i<300;omega
def Qyn{π:List (Nat×Option Nat)}{b:Nat}{g:Nat->Nat}{n:Nat}(h: ∀i,i<n->pm π (b+i)=some (g i)){R:List (List AV)}(hR:R=(List.range n).map λi=>[AV.own (g i)]):Fu π (C3 b n) R:=by
 subst hR;rw[YI];refine⟨by simp[C3],λi x y G O=> ?_⟩;have z:i<n:=by have:=(B9.1 G).1;rwa [Ga] at this
 rw[yX _ _ _ z] at G;rw[DX,Lm z] at O;obtain rfl:=A8 G;obtain rfl:=A8 O;simp only[DB,mt,h i z,ET,EN]
def Ql0(b k c:Nat):C3 b k++[[.own c]]=(List.range (k+1)).map λi=>[AV.own (if i<k then b+i else c)]:=by
 rw[Zev,Fg,C3];congr 1
 .exact SO λi z=>by rw[Ak (CX.1 z)]
 .simp
def zG(k:Nat)(M N:List (List Int))(G:k<=64)(tm:List (Nat×AV))(z:C4 300 tm=true):A9.good ⟨tm,(0,(true,.cells 295 [.own 1,.own 2]))::(1,(true,.arrA 37 1 (C3 100 k)))::(2,(true,.arrA 37 1 (C3 200 k)))::(BI 100 k M++BI 200 k N),300⟩=true:=by
 simp only[A9.good,AH,Cz,z,EL,qE,Qmd,BI];rw[kJ _ _ _ (λi=>rfl),kJ _ _ _ (λi=>rfl),cU _ _ _ _ (by omega),cU _ _ _ _ (by omega),Ry _ _ _ (by omega),Ry _ _ _ (by omega)];rfl
def L4(o:Nat)(h:G0 o=true):o<264:=by
 simp only[G0,J3,AZ,FG,Ln] at h;omega
def fC(i:Nat)(h:i<64):G0 (100+i)=true:=by
 simp only[G0,J3,AZ,FG,Ln];omega
def fD(i:Nat)(h:i<64):G0 (200+i)=true:=by
 simp only[G0,J3,AZ,FG,Ln];omega
def Quc(h:Nat->Option Aq)(f:AV->Option AV): ∀(a b:Au),GB h f (a++b)↔GB h f a/\GB h f b
 |[],b=>by simp[GB]
 |(i,e)::r,b=>by simp only[CP,GB,Quc h f r b,mI]
def Qoq(h:Nat->Option Aq)(f:AV->Option AV)(b n:Nat)(M:List (List Int))(H: ∀i,i<n->h (b+i)=some (true,.arr 2 1 ((M[i]?.getD []).map Af))):GB h f (BI b n M):=by
 have: ∀(l:List Nat),(∀i∈l,i<n)->GB h f (l.map λi=>(b+i,(true,Ah.arr 2 1 ((M[i]?.getD []).map Af)))):=by
  intro l;induction l with
  |nil=>intro _;simp[GB]
  |cons i r ih=>
   intro z;simp only[Bm,GB];refine⟨?_,ih (λj O=>z j (Cs _ O))⟩;rw[H i (z i (Ct ..))];exact⟨rfl,rfl⟩
 exact this _ (λi G=>CX.1 G)
def Quf{h:Nat->Option Aq}{kx:Nat->Option Nat}{m b n:Nat}(G: ∀i,i<n->kx (b+i)=some (b+i)):AA (AA (Bx h kx (m+1))) (C3 b n)=some (C3 b n):=by
 refine Qnl (g:=λi=>[AV.own (b+i)]) (k:=λi=>[AV.own (b+i)]) _ λi z=> ?_
 simp only[AA,Bx,G i (CX.1 z),kp]
def V8{x:Bq}{n:Nat}(hn:n<=64){kx:Nat->Option Nat}(G: ∀o,G0 o=true->kx o=some o):GB (hget (Dg x n)) (Bx (hget (Dg x n)) kx 9) (Dg x n):=by
 have k1:kx 1=some 1:=G 1 rfl;have k2:kx 2=some 2:=G 2 rfl;obtain⟨H,hH⟩: ∃H,H=hget (Dg x n):=⟨_,rfl⟩;have g0:H 0=some (true,.cells 295 [.own 1,.own 2]):=by rw[hH];rfl
 have g1:H 1=some (true,.arrA 37 1 (C3 100 n)):=by rw[hH];rfl
 have g2:H 2=some (true,.arrA 37 1 (C3 200 n)):=by rw[hH];rfl
 have ga: ∀i,i<n->H (100+i)=some (true,.arr 2 1 ((x.Room[i]?.getD []).map Af)):=by
  intro i z;rw[hH];simp only[Dg,hget,BF _ _ (show 0≠100+i by omega),BF _ _ (show 1≠100+i by omega),BF _ _ (show 2≠100+i by omega),Co];exact jP _ _ _ _ z
 have gb: ∀i,i<n->H (200+i)=some (true,.arr 2 1 ((x.Flow[i]?.getD []).map Af)):=by
  intro i z;rw[hH];simp only[Dg,hget,BF _ _ (show 0≠200+i by omega),BF _ _ (show 1≠200+i by omega),BF _ _ (show 2≠200+i by omega),Co];exact jT _ _ _ _ (by omega) z
 rw[<-hH];simp only[Dg,GB,Quc];refine⟨?_,?_,?_,Qoq _ _ _ _ _ ga,Qoq _ _ _ _ _ gb⟩
 .rw[g0];exact⟨rfl,by simp only[DQ,AA,Bx,k1,k2,kp];rfl⟩
 .rw[g1];exact⟨rfl,by simp only[DQ];rw[Quf (λi z=>G _ (fC i (by omega)))];rfl⟩
 .rw[g2];exact⟨rfl,by simp only[DQ];rw[Quf (λi z=>G _ (fD i (by omega)))];rfl⟩
def N5{x:Bq}{n:Nat}(hn:n<=64){p:Nat×Aq}(hp:p∈Dg x n):G0 p.1=true/\p.2.1=true:=by
 simp only[Dg,BO,B5,BI,B4,BZ,CX] at hp;rcases hp with rfl|rfl|rfl|⟨i,z,rfl⟩|⟨i,z,rfl⟩
 .exact⟨rfl,rfl⟩
 .exact⟨rfl,rfl⟩
 .exact⟨rfl,rfl⟩
 .exact⟨fC i (by omega),rfl⟩
 .exact⟨fD i (by omega),rfl⟩
def oI{a:Int×List Ag}{p:Nat×Aq}(hp:p∈nwC.H1 a):G0 p.1=true/\p.2.1=true:=N5 (Zb _ _) hp
def nwC.ok:AS 226 nwC.row:=by
 refine ow tN Tryz.func226 (exB:=G0) (R:=λ_ r=>r= .ptr 0 0) (λ_=>rfl)
  (λa=>by simp[nwC.ca,G0,AL,AV.bel,AH,Cz,Df,Ah.nms,AE,AV.nms,Av,hget]) (λa p hp=> ?_) (λa r h=>by subst h;exact ED.refl _) ?_
 rotate_left
 intro a ao;simp only[Tryz.f226,Option.getD,nwC.ca,G0];simp(disch:=omega)only[ZZ,simprocAttr,Ab,Az,nwC.ca,G0];obtain⟨h0,O,hl,Q,ag,an⟩:=ao;obtain⟨n,hn⟩: ∃n:Nat,a.1=n:=⟨a.1.toNat,by omega⟩;obtain⟨bs,hbsd⟩: ∃bs,bs=a.2:=⟨_,rfl⟩;simp only[<-hbsd] at hl Q ag an;rw[hn] at h0 O Q;have hH1:nwC.H1 a=Dg (Ee n bs) n:=by simp only[nwC.H1,hn,B1,hbsd];rw[Zey (by omega)]
 rw[hH1];clear hH1;simp only[hn,<-hbsd];refine Bc.ren ⟨{k:Nat//k<=n},λk=>⟨[(11,.im (.int .i64 k.1)),(10,.im (.int .i64 n)),(5,.ptr 0 0),(0,.im (.int .i64 n)),(1,.im (.sl false 3 (bs.map Ag.c)))],(0,(true,.cells 295 [.own 1,.own 2]))::(1,(true,.arrA 37 1 (C3 100 k.1)))::(2,(true,.arrA 37 1 (C3 200 k.1)))::(BI 100 k.1 (List.replicate n (List.replicate n 0))++BI 200 k.1 (List.replicate n (List.replicate n 0))),300⟩,λk=>n - k.1,λk=>⟨?_,by simp⟩,⟨⟨0,by simp⟩,[(1,none),(2,none)],?_⟩,λk=> ?_⟩
 .exact zG _ _ _ (by omega) _ (by simp[C4,AV.bel])
 .simp only[Ao,BI,B4,C3,ZdY,BY,CQ];simp(disch:=omega)only[ZZ,simprocAttr,Ab,Az,nwC.ca,G0,AU,AT]
 obtain⟨k,au⟩:=k;simp(disch:=omega)only[ZZ,simprocAttr,Ab,Az,nwC.ca,G0,sub,AQ,D0,kQ,Xy,Mp,RB,List.all_nil,Ry,Ga];refine⟨λhk=>⟨by omega,by omega,by omega,by omega,⟨k+1,by omega⟩,[(1,some 302),(2,some 305),(100+k,some 300),(200+k,some 303)],by simp only;omega,?_⟩,λhk=> ?_⟩
 .have hg: ∀i,i<n->(List.replicate n (List.replicate n (0:Int)))[i]?.getD []=List.replicate n 0:=by
   intro i z;rw[Pu,Ak z,AJ]
  have ad: ∀i,i<k->pm [(1,some 302),(2,some 305),(100+k,some 300),(200+k,some 303)] (100+i)=some (100+i):=by
   intro i z;simp only[pm];rw[Ad (by omega),Ad (by omega),Ad (by omega),Ad (by omega)]
  have af: ∀i,i<k->pm [(1,some 302),(2,some 305),(100+k,some 300),(200+k,some 303)] (200+i)=some (200+i):=by
   intro i z;simp only[pm];rw[Ad (by omega),Ad (by omega),Ad (by omega),Ad (by omega)]
  have ab:pm [(1,some 302),(2,some 305),(100+k,some 300),(200+k,some 303)] (100+k)=some 300:=by
   simp only[pm];rw[Ad (by omega),Ad (by omega),Ak trivial]
  have ac:pm [(1,some 302),(2,some 305),(100+k,some 300),(200+k,some 303)] (200+k)=some 303:=by
   simp only[pm];rw[Ad (by omega),Ad (by omega),Ad (by omega),Ak trivial]
  have q0:pm [(1,some 302),(2,some 305),(100+k,some 300),(200+k,some 303)] 0=some 0:=by
   simp only[pm];rw[Ad (by omega),Ad (by omega),Ad (by omega),Ad (by omega)]
  have q1:pm [(1,some 302),(2,some 305),(100+k,some 300),(200+k,some 303)] 1=some 302:=rfl;have q2:pm [(1,some 302),(2,some 305),(100+k,some 300),(200+k,some 303)] 2=some 305:=rfl;obtain⟨π,hπ⟩: ∃π,π=[(1,some 302),(2,some 305),(100+k,some 300),(200+k,some 303)]:=⟨_,rfl⟩;rw[<-hπ] at ad af ab ac q0 q1 q2⊢;refine⟨by rw[hπ];exact⟨by omega,by omega,by omega,by omega,trivial⟩,?_,?_,?_⟩
  .rw[kK,hπ];simp only[Iz,Qpf,BI,cY];refine kW _ _ (Vx (k+1) (by omega)) ?_;intro x hx y hy m ah ai;have a9:=Vw (k+1) (by omega) x hx;have ba:=Vw (k+1) (by omega) y hy;simp only[pm] at ah ai
   repeat' split at ah
   all_goals repeat' split at ai
   all_goals simp only[AP] at ah ai
   all_goals omega
  .simp only[Jw,AC];simp(disch:=omega)only[ZZ,simprocAttr,Ab,Az,nwC.ca,G0,q0];rw[AF (by omega) (by omega)];omega
  .simp only[Gf,Qns,BI,jY];refine⟨?_,?_,?_,λi z=> ?_,λi z=> ?_⟩
   .simp(disch:=omega)only[ZZ,simprocAttr,Ab,Az,nwC.ca,G0,q0,q1,q2]
   .simp(disch:=omega)only[ZZ,simprocAttr,Ab,Az,nwC.ca,G0,q0,q1,q2];refine Qyn (g:=λi=>if i<k then 100+i else 300) (λi z=> ?_) (Ql0 100 k 300);by_cases h:i<k
    .rw[Ak h,ad i h]
    .rw[Ad h,show i=k by omega,ab]
   .simp(disch:=omega)only[ZZ,simprocAttr,Ab,Az,nwC.ca,G0,q0,q1,q2];refine Qyn (g:=λi=>if i<k then 200+i else 303) (λi z=> ?_) (Ql0 200 k 303);by_cases h:i<k
    .rw[Ak h,af i h]
    .rw[Ad h,show i=k by omega,ac]
   .by_cases h:i<k
    .rw[ad i h,hg i (by omega)];simp only[Du,hget,BF _ _ (show 0≠100+i by omega),BF _ _ (show 305≠100+i by omega),BF _ _ (show 303≠100+i by omega),BF _ _ (show 302≠100+i by omega),BF _ _ (show 300≠100+i by omega),Co,dB];have h9:=jP k (List.replicate n (List.replicate n 0)) (List.replicate n (List.replicate n 0)) i h;simp only[BI] at h9;simp (disch:=omega) only[lW,eS,BF,SL,Dx,CY,h9,hg,Lz,Ft,EN]
    .rw[show i=k by omega,ab,hg k (by omega)];simp(disch:=omega)only[ZZ,simprocAttr,Ab,Az,nwC.ca,G0,zF]
   .by_cases h:i<k
    .rw[af i h,hg i (by omega)];simp only[Du,hget,BF _ _ (show 0≠200+i by omega),BF _ _ (show 305≠200+i by omega),BF _ _ (show 303≠200+i by omega),BF _ _ (show 302≠200+i by omega),BF _ _ (show 300≠200+i by omega),Co,dB];have h9:=jT k (List.replicate n (List.replicate n 0)) (List.replicate n (List.replicate n 0)) i (by omega) h;simp only[BI] at h9;simp (disch:=omega) only[lW,eS,BF,SL,Dx,CY,h9,hg,Lz,Ft,EN]
    .rw[show i=k by omega,ac,hg k (by omega)];simp(disch:=omega)only[ZZ,simprocAttr,Ab,Az,nwC.ca,G0,zF]
 .intro _;have av:k=n:=by omega
  subst av;clear hk au;refine Bc.old ⟨{j:Nat//j<=bs.length},λj=>⟨[(38,.im (.int .i64 j.1)),(37,.im (.int .i64 bs.length)),(36,.im (.sl false 3 (bs.map Ag.c))),(5,.ptr 0 0)],(0,(true,.cells 295 [.own 1,.own 2]))::(1,(true,.arrA 37 1 (C3 100 k)))::(2,(true,.arrA 37 1 (C3 200 k)))::(BI 100 k (Cn k bs j.1).Room++BI 200 k (Cn k bs j.1).Flow),300⟩,λj=>bs.length - j.1,λj=>⟨?_,by simp⟩,⟨⟨0,by simp⟩,?_⟩,λj=> ?_⟩
  .exact zG _ _ _ (by omega) _ (by simp[C4,AV.bel])
  .simp only[sub,Ho,De,AC,hget,jW];simp(disch:=omega)only[ZZ,simprocAttr,Ab,Az,nwC.ca,G0,sub,jW,yL,Cn,LJ];refine⟨λi z=> ?_,λi z=> ?_⟩
   .rw[Ad (by omega),Ad (by omega),Ad (by omega)];exact jP _ _ _ _ z
   .rw[Ad (by omega),Ad (by omega),Ad (by omega)];exact jT _ _ _ _ (by omega) z
  obtain⟨j,hj⟩:=j;obtain⟨aa,_⟩:=YA Q j;obtain⟨x,hx⟩: ∃x,x=Cn k bs j:=⟨_,rfl⟩;simp only[<-hx] at aa⊢;simp(disch:=omega)only[ZZ,simprocAttr,Ab,Az,nwC.ca,G0,sub,AQ,D0,Ga];refine⟨λam=>⟨am,λb hb=> ?_⟩,λam=> ?_⟩
  .obtain⟨b1,b2,b3,b4⟩:=Q b (Bd hb);have az:=an b (Bd hb);have a0:=ag b (Bd hb);obtain⟨u,hu⟩: ∃u:Nat,b.A=u:=⟨b.A.toNat,by omega⟩;obtain⟨v,hv⟩: ∃v:Nat,b.B=v:=⟨b.B.toNat,by omega⟩;have Z:u<k:=by omega
   have G:v<k:=by omega
   have ay:u≠v:=by omega
   simp only[hu,hv,B1];refine⟨by omega,by omega,by omega,?_⟩;have hr: ∀i,i<k->(x.Room[i]?.getD []).length=k:=by
    intro i z;rw[Bk (by rw[aa.r];exact z),AJ];exact aa.rr _ (RF _)
   have aw:=hr u Z;have ax:=hr v G;simp(disch:=omega)only[ZZ,simprocAttr,Ab,Az,nwC.ca,G0,sub,AQ,Ph,D0,Ga,BF,Pd,jP,hu,hv,B1,aw,ax,Qxa,cV,I4,Xy,jW,yL];have aj:=Qrm Q ag u v j;have ak:=Qrm Q ag v u j;rw[<-hx] at aj ak;refine⟨by omega,G,by omega,G,λx1 e1=>⟨G,by omega,G,λx2 _=>⟨.inr (by omega),G,G,by omega,Z,by omega,Z,λx3 e3=>⟨Z,by omega,Z,λx4 _=>⟨.inr (by omega),⟨j+1,by omega⟩,by simp only;omega,by rw[AF (by omega) (by omega)];simp only;omega,?_⟩⟩⟩⟩⟩;have r1:Ey x u v=x1:=by simp only[Ey,HF,e1,AJ]
   have r3:Ey x v u=x3:=by simp only[Ey,HF,e3,AJ]
   rw[r1] at aj;rw[r3] at ak;rw[AF (by omega) (by omega),AF (by omega) (by omega)];have hN:Cn k bs (j+1)=Lo x b:=by simp only[Cn,hb,<-hx]
   have hR: ∀i,i<k->(Cn k bs (j+1)).Room[i]?.getD []=if v=i then (x.Room[v]?.getD []).set u (x3+b.Strength) else if u=i then (x.Room[u]?.getD []).set v (x1+b.Strength) else x.Room[i]?.getD []:=by
    intro i z;rw[hN];simp only[Lo,Mj,hu,hv,B1];by_cases O:v=i
    .subst O;rw[Ak rfl,EE (by rw[I4,aa.r];exact G),AJ,Ep ay,e3,AJ]
    .rw[Ad O,Ep O];by_cases h2:u=i
     .subst h2;rw[Ak rfl,EE (by rw[aa.r];exact Z),AJ,e1,AJ]
     .rw[Ad h2,Ep h2]
   have hF:(Cn k bs (j+1)).Flow=x.Flow:=by rw[hN];rfl
   refine⟨λi z=> ?_,λi z=> ?_⟩
   .rw[hR i z];by_cases O:v=i
    .subst O;rw[Ak rfl,Ak rfl]
    .rw[Ad (by omega),Ad O];by_cases h2:u=i
     .subst h2;rw[Ak rfl,Ak rfl]
     .rw[Ad (by omega),Ad h2,Ad (by omega)];exact jP _ _ _ _ z
   .rw[Ad (by omega),hF];exact jT _ _ _ _ (by omega) z
  .have aq:j=bs.length:=by omega
   subst aq;rw[hx];exact V8 (x:=Ee k bs) (n:=k) (by omega) (λo ho=>by
    have O:(Av [] o||(G0 o && (Nat.ble 0 o && Nat.blt o (0+320))))=true:=by
     have h2:=L4 o ho;simp[ho];omega
    simp only[Qc,O,CJ])
 rcases oI hp with ⟨O,h2⟩
 have a8:=L4 p.1 O;exact .inr ⟨by omega,by omega,O,h2⟩
structure Vu(H:Nat->Option Aq)(x:Bq)(n:Nat):Prop where
 g0:H 0=some (true,.cells 295 [.own 1,.own 2])
 g1:H 1=some (true,.arrA 37 1 (C3 100 n))
 g2:H 2=some (true,.arrA 37 1 (C3 200 n))
 ga: ∀i,i<n->H (100+i)=some (true,.arr 2 1 ((x.Room[i]?.getD []).map Af))
 gb: ∀i,i<n->H (200+i)=some (true,.arr 2 1 ((x.Flow[i]?.getD []).map Af))
def Wi{M:List (List Int)}{n:Nat}(h:M.length=n):(List.range n).map (λi=>C9 (M[i]?.getD []))=M.map C9:=by
 apply Ja;intro i;rw[DX,DX];by_cases z:i<n
 .rw[Lm z,Bk (by omega:i<M.length)];simp only[CR,Bk (show i<M.length by omega),AJ]
 .rw[Hy (by simp;omega),Hy (by omega)];rfl
def N7{H:Nat->Option Aq}{m b o n:Nat}{M:List (List Int)}(Q:M.length=n)(z:H o=some (true,.arrA 37 1 (C3 b n)))(G: ∀i,i<n->H (b+i)=some (true,.arr 2 1 ((M[i]?.getD []).map Af))):
 bk H (m+2) (.own o)=some (.sl false 1 (M.map C9)):=by
 simp only[bk,z,eE];rw[C3,Qnl (f:=AA (bk H (m+1))) (g:=λi=>[AV.own (b+i)]) (k:=λi=>C9 (M[i]?.getD [])),Wi Q]
 .rfl
 .intro i O;simp only[AA,bk,G i (CX.1 O),eE];rfl
def aR{H:Nat->Option Aq}{x:Bq}{n:Nat}(h:Vu H x n)(z:Lj x n)(a b:D):DT H [.ptr 0 0,.im a,.im b]=some [.ptr (Bq.c x),Gk a,Gk b]:=by
 have G:=N7 (m:=6) z.r h.g1 h.ga;have O:=N7 (m:=6) z.f h.g2 h.gb;simp only[DT,Hm,h.g0,dW,Jc,AA,G,O,aW,CR,Jk];rfl
def WP{H:Nat->Option Aq}{x:Bq}{n nx:Nat}{K:Ai}(h:Vu H x n)(z:Lj x n)(hn:n<=1000){p q:Int}(G:0<=p)(aa:p<n)(O:0<=q)(ab:q<n)
 (hK: ∀U,K (.im (.sl true 1 ((CN x n p q).map Af))) {use:=U}):wayC.row [.ptr 0 0,.im (.int .i64 p),.im (.int .i64 q)] H nx K:=by
 have Q:=z.r;rw[wayC.q,aR h z];have e:Bq.d ((Bq.c x).take 2)=some x:=Bq.d_c x;simp only[Y4,b3,qP,qI,a3,kP,kI,Gk,e,GG,Fj];refine⟨⟨Q▸z,by omega,G,by omega,O,by omega⟩,?_⟩;have Z:wayC.re (wayC.fv (x,p,q))= .sl true 1 ((CN x n p q).map Af):=by simp only[wayC.re,wayC.fv,Q]
 rw[Z];exact hK _
def sndC.n(a:Bq×Int×Int×Int):Nat:=min a.1.Room.length 64
def SC(n:Nat)(p q:Int):Nat->Bq->Bq
 |0,x=>x
 |m+1,x=>if CN x n p q=[] then x else SC n p q m (HX x (CN x n p q) ((CN x n p q).length - 1))
def sndC.ca(a:Bq×Int×Int×Int):List AV:=[.ptr 0 0,.im (.int .i64 a.2.1),.im (.int .i64 a.2.2.1),.im (.int .i64 a.2.2.2)]
def sndC.H0(a:Bq×Int×Int×Int):Au:=Dg a.1 (sndC.n a)
def sndC.H1(a:Bq×Int×Int×Int):Au:=BI 200 (sndC.n a) (SC (sndC.n a) a.2.1 a.2.2.1 a.2.2.2.toNat a.1).Flow
def sndC.r0(a:Bq×Int×Int×Int):AV:= .im (.int .i64 (G9 (sndC.n a) a.2.1 a.2.2.1 a.2.2.2.toNat a.1))
structure Wz(a:Bq×Int×Int×Int):Prop where
 n:a.1.Room.length<=64
 ok:Lj a.1 a.1.Room.length
 p0:0<=a.2.1
 p1:a.2.1<a.1.Room.length
 q0:0<=a.2.2.1
 q1:a.2.2.1<a.1.Room.length
 pq:a.2.1≠a.2.2.1
 m0:0<=a.2.2.2
 m1:a.2.2.2<=1000000
 fl: ∃v,S4 (Ey a.1) (K9 a.1) a.1.Room.length a.2.1.toNat a.2.2.1.toNat v
 rm: ∀u v,Ey a.1 u v<=10000000000000
def UH(j:Nat):Bool:=Nat.ble 200 j && Nat.blt j 264
def sndC.row:AO:=AM sndC.ca sndC.H0 300 Wz UH sndC.r0 sndC.H1 10
def sndC.hbel(a:Bq×Int×Int×Int):AL 300 (sndC.ca a)=true:=rfl
def sndC.n_le(a:Bq×Int×Int×Int):sndC.n a<=64:=Zb _ _
def tM(x:Bq)(n:Nat)(hn:n<=64):AH 300 (Dg x n)=true/\Cz 300 (Dg x n)=true:=by
 have:=zG n x.Room x.Flow hn [] rfl
 simp only[A9.good,AZ] at this;exact this.2
def sndC.hbH(a:Bq×Int×Int×Int):AH 300 (sndC.H0 a)=true:=(tM _ _ (sndC.n_le a)).1
def sndC.hkH(a:Bq×Int×Int×Int):Cz 300 (sndC.H0 a)=true:=(tM _ _ (sndC.n_le a)).2
def Xg(x:Bq)(n:Nat)(hn:n<=64):Vu (hget (Dg x n)) x n:=by
 refine⟨rfl,rfl,rfl,λi z=> ?_,λi z=> ?_⟩
 .simp only[Dg,hget,BF _ _ (show 0≠100+i by omega),BF _ _ (show 1≠100+i by omega),BF _ _ (show 2≠100+i by omega),Co];exact jP _ _ _ _ z
 .simp only[Dg,hget,BF _ _ (show 0≠200+i by omega),BF _ _ (show 1≠200+i by omega),BF _ _ (show 2≠200+i by omega),Co];exact jT _ _ _ _ (by omega) z
def Qvt(H0:Au): ∀(a b:Au),Df H0 (a++b)↔Df H0 a/\Df H0 b
 |[],b=>by simp[Df]
 |(i,(z,e))::r,b=>by simp only[CP,Df,Qvt H0 r b,mI]
def Qud(H0:Au)(b n:Nat)(M:List (List Int)):Df H0 (BI b n M):=by
 have: ∀(l:List Nat),Df H0 (l.map λi=>(b+i,(true,Ah.arr 2 1 ((M[i]?.getD []).map Af)))):=by
  intro l;induction l with
  |nil=>simp[Df]
  |cons i r ih=>simp only[Bm,Df];exact⟨λm z=>by simp[Ah.nms] at z,ih⟩
 exact this _
def Qu6(b n:Nat): ∀m∈BJ (C3 b n),∃i,i<n/\m=b+i:=by
 have: ∀(l:List Nat),(∀i∈l,i<n)-> ∀m∈BJ (l.map λi=>[AV.own (b+i)]),∃i,i<n/\m=b+i:=by
  intro l;induction l with
  |nil=>intro _ m z;simp[BJ] at z
  |cons i r ih=>
   intro G m z;simp only[Bm,BJ,AE,AV.nms,CQ,B5,BN] at z;rcases z with rfl|z
   .exact⟨i,G i (Ct ..),rfl⟩
   .exact ih (λj Q=>G j (Cs _ Q)) m z
 exact this _ (λi O=>CX.1 O)
def aQ(x:Bq)(n:Nat)(hn:n<=64):Df (Dg x n) (Dg x n):=by
 have G:=Xg x n hn;have hd: ∀o e,hget (Dg x n) o=some e->Av (Dg x n) o=true:=λo e h=>by simp only[Av,h];rfl
 obtain⟨H,hH⟩: ∃H,H=Dg x n:=⟨_,rfl⟩;rw[<-hH] at G hd;rw[show Df (Dg x n) (Dg x n)=Df H (Dg x n) by rw[hH]];simp only[Dg,Df,Qvt];refine⟨λm z=> ?_,λm z=> ?_,λm z=> ?_,Qud _ _ _ _,Qud _ _ _ _⟩
 .simp only[Ah.nms,AE,AV.nms,CQ,B5,BN] at z;rcases z with rfl|rfl
  .exact hd _ _ G.g1
  .exact hd _ _ G.g2
 .obtain⟨i,O,rfl⟩:=Qu6 100 n m z;exact hd _ _ (G.ga i O)
 .obtain⟨i,O,rfl⟩:=Qu6 200 n m z;exact hd _ _ (G.gb i O)
def Oo{s:A9}{x:Bq}{n:Nat}(h:Vu (hget s.h) x n):De s (Dg x n):=by
 simp only[Dg,De,jW,yL];exact⟨h.g0,h.g1,h.g2,h.ga,h.gb⟩
def NU(h:Nat->Option Aq)(f:Nat->Bool): ∀(a b:Au),Ke h f (a++b)↔Ke h f a/\Ke h f b
 |[],b=>by simp[Ke]
 |(i,e)::r,b=>by simp only[CP,Ke,NU h f r b,mI]
def fH(i:Nat)(h:i<64):UH (200+i)=true:=by
 simp only[UH,AZ,Ln,FG];omega
def Qxi(h:Nat->Option Aq)(f:Nat->Bool)(b:Nat)(g:Nat->Aq)(n:Nat)(H: ∀i,i<n->f (b+i)=true\/h (b+i)=some (g i)):Ke h f (B4 b n g):=by
 have: ∀(l:List Nat),(∀i∈l,i<n)->Ke h f (l.map λi=>(b+i,g i)):=by
  intro l;induction l with
  |nil=>intro _;trivial
  |cons i r ih=>
   intro G;simp only[Bm,Ke];refine⟨?_,ih (λj Q=>G j (Cs _ Q))⟩;rcases H i (G i (Ct ..)) with z|z
   .rw[z];trivial
   .cases f (b+i)
    .exact z
    .trivial
 exact this _ (λi O=>CX.1 O)
def Wd{h:Nat->Option Aq}{n:Nat}(hn:n<=64){M:List (List Int)}(H: ∀i,i<n->h (100+i)=some (true,.arr 2 1 ((M[i]?.getD []).map Af))):Ke h UH (BI 100 n M):=Qxi _ _ _ _ _ (λi z=> .inr (H i z))
def Wg{h:Nat->Option Aq}{n:Nat}(hn:n<=64){M:List (List Int)}:Ke h UH (BI 200 n M):=Qxi _ _ _ _ _ (λi z=> .inl (fH i (by omega)))
def sndC.hnm(a:Bq×Int×Int×Int):Df (sndC.H0 a) (sndC.H0 a):=aQ _ _ (sndC.n_le a)
def sndC.ok:AS 227 sndC.row:=by
 refine ow (tC wayC.ok tN) Tryz.func227 (exB:=λ_=>false) (R:=λa r=>r=sndC.r0 a) (λ_=>rfl)
  (λa=>⟨sndC.hbel a,sndC.hbH a,sndC.hkH a,sndC.hnm a⟩) (λa p hp=> ?_) (λa r h=>by subst h;exact ED.refl _) ?_
 rotate_left
 intro a au;simp only[Tryz.f227,Option.getD,sndC.ca];simp(disch:=omega)only[ZZ,simprocAttr,Ab,Az,sndC.ca];obtain⟨x,p,q,mo⟩:=a;obtain⟨hn,ak,ac,Z,ad,af,aq,a9,ba,aj,am⟩:=au;simp only at hn ak ac Z ad af aq a9 ba aj am;obtain⟨n,hnn⟩: ∃n,n=x.Room.length:=⟨_,rfl⟩;obtain⟨M,hM⟩: ∃M:Nat,mo=M:=⟨mo.toNat,by omega⟩;subst hM;have bd: ∀y:Int×Int×Int,sndC.n (x,y)=n:=λy=>by simp only[sndC.n,<-hnn];omega
 simp only[sndC.H1,sndC.r0,sndC.H0,bd,B1,Dg,D0];rw[<-hnn] at hn ak Z af aj;refine Bc.old ⟨{s:Nat×Bq//s.1<=M/\Lj s.2 n/\s.2.Room=x.Room/\(∃v,S4 (Ey x) (K9 s.2) n p.toNat q.toNat v)/\G9 n p q M x=G9 n p q (M - s.1) s.2+s.1/\SC n p q M x=SC n p q (M - s.1) s.2},λs=>⟨[(9,.im (.int .i64 s.1.1)),(0,.ptr 0 0),(1,.im (.int .i64 p)),(2,.im (.int .i64 q)),(3,.im (.int .i64 M))],Dg s.1.2 n,300⟩,λs=>M - s.1.1,λs=>⟨?_,by simp⟩,⟨⟨(0,x),by simp only;omega,ak,rfl,aj,by simp,by simp⟩,?_⟩,λs=> ?_⟩
 .simp only[Dg];exact zG _ _ _ hn _ (by simp[C4,AV.bel])
 .simp only[sub,Ho,AC];refine⟨?_,?_⟩
  .simp(disch:=omega)only[ZZ,simprocAttr,Ab,Az,sndC.ca]
  .exact Oo (Xg x n hn)
 obtain⟨⟨k,y⟩,i1,i2,i3,i4,i5,i6⟩:=s;simp only at i1 i2 i3 i4 i5 i6;simp only[Dg];simp(disch:=omega)only[ZZ,simprocAttr,Ab,Az,sndC.ca,D0];refine WP (Xg y n hn) i2 (by omega) ac Z ad af (λU=> ?_);obtain⟨L,hL⟩: ∃L,L=CN y n p q:=⟨_,rfl⟩;rw[<-hL];simp(disch:=omega)only[ZZ,simprocAttr,Ab,Az,sndC.ca,D0,sub,AQ];have ah:(G9 n p q (M - k) y=0)->(SC n p q (M - k) y=y)->(((bif UH 0 then True else True)/\(bif UH 1 then True else True)/\(bif UH 2 then True else True)/\Ke (hget (Dg y n)) UH (BI 100 n x.Room++BI 200 n x.Flow))/\(k:Int)=G9 n p q M x/\ ∀kx,GB (hget (Dg y n)) (Bx (hget (Dg y n)) kx 9) (BI 200 n (SC n p q M x).Flow)):=by
  intro e1 e2;have hI:=Xg y n hn;refine⟨⟨trivial,trivial,trivial,(NU _ _ _ _).2 ⟨Wd hn (λi O=>by rw[hI.ga i O,i3]),Wg hn⟩⟩,by omega,λkx=> ?_⟩;rw[i6,e2];exact Qoq _ _ _ _ _ hI.gb
 have ax:(L.map Af).isEmpty=L.isEmpty:=by cases L<;>rfl
 rw[ax];refine⟨λc1=>⟨λc2=> ?_,λc2=> ?_⟩,λc1=> ?_⟩
 .obtain⟨g1,g2,g3⟩:=ah (by rw[show M - k=0 by omega];rfl) (by rw[show M - k=0 by omega];rfl);exact⟨g1,g2,g3 _⟩
 .have aa:L≠[]:=by intro h;rw[h] at c1;cases c1
  have hW:U7 y n p q L:=by rw[hL];exact WR ac Z ad af (by rw[<-hL];exact aa)
  have bh:=hW.pos;obtain⟨v,hv⟩:=i4;have an: ∀i,i<L.length-> ∃w:Nat,L[i]? =some (w:Int)/\w<n:=by
   intro i O
   have:=hW.inb _ (RF O)
   refine⟨(L[i]).toNat,by rw[Bk O];congr 1;omega,by omega⟩
  refine Bc.old ⟨{j:Nat//j+1<=L.length},λj=>⟨[(11,.im (.int .i64 ((j.1:Int)+1))),(10,.im (.sl true 1 (L.map Af))),(9,.im (.int .i64 k)),(0,.ptr 0 0),(1,.im (.int .i64 p)),(2,.im (.int .i64 q)),(3,.im (.int .i64 M))],Dg (HX y L j.1) n,300⟩,λj=>L.length - j.1,λj=>⟨?_,by simp⟩,⟨⟨0,by omega⟩,?_⟩,λj=> ?_⟩
  .simp only[Dg];exact zG _ _ _ hn _ (by simp[C4,AV.bel])
  .simp only[sub,Ho,AC];refine⟨?_,?_⟩
   .simp(disch:=omega)only[ZZ,simprocAttr,Ab,Az,sndC.ca]
   .exact Oo (Xg y n hn)
  obtain⟨j,hj⟩:=j;have G:=Qm6 i2 hW.inb j (by omega);obtain⟨z,hz⟩: ∃z,z=HX y L j:=⟨_,rfl⟩;simp only[<-hz] at G⊢;simp only[Dg];have ej:((j:Int)+1).toNat=j+1:=by omega
  simp(disch:=omega)only[ZZ,simprocAttr,Ab,Az,sndC.ca,D0,sub,AQ,Ga];intro bg;have ew:IntKind.i64.wrap ((j:Int)+1 - 1)=j:=by rw[AF (by omega) (by omega)];omega
  have av:IntKind.i64.wrap ((j:Int)+1+1)=(j:Int)+1+1:=AF (by omega) (by omega);simp only[ew,B1];refine⟨λa0=> ?_,λa0=> ?_⟩
  .obtain⟨u,ab,hu⟩:=an j (by omega);obtain⟨w,ai,Q⟩:=an (j+1) (by omega);have be:u≠w:=by
    intro h
    have:=hW.nd j (j+1) (by omega) (by omega) (by simp only[Lf,ab,ai,h])
    omega
   have hr: ∀i,i<n->(z.Flow[i]?.getD []).length=n:=by
    intro i O;rw[Bk (by rw[G.f];exact O),AJ];exact G.ff _ (RF _)
   have bb:=hr u hu;have bc:=hr w Q;simp only[ab,AP,forall_eq'];simp(disch:=omega)only[ZZ,simprocAttr,Ab,Az,sndC.ca,sub,AQ,Ph,D0,Ga,BF,Pd,jT,ew,av,ej,ab,ai,AP,forall_eq',bb,bc,Qxa,cV,I4,Xy,jW,yL];have hb: ∀a b,a<n->b<n-> -10000000000002<=K9 z a b/\K9 z a b<=10000000000002:=by
    intro a b ha hb;have h1:=Qso i2 hW.inb a b j (by omega);have h2:=Qr1 (L:=Lf L) (m:=L.length - 1) (λi j O hj=>hW.nd i j (by omega) (by omega)) a b j (by omega);have h3:=Qr1 (L:=Lf L) (m:=L.length - 1) (λi j O hj=>hW.nd i j (by omega) (by omega)) b a j (by omega);have h4:=xG (Lf L) a b j;have h5:=xG (Lf L) b a j;have h6:=hv.cap a b ha hb;have h7:=hv.cap b a hb ha;have h8:=hv.anti a b ha hb;have h9:=am a b;have bi:=am b a;rw[<-hz] at h1;simp only[K9] at*;omega
   have ay:=hb u w hu Q;have az:=hb w u Q hu;refine⟨by omega,hu,hu,by omega,by omega,by omega,Q,by omega,Q,λx1 e1=>⟨Q,by omega,Q,λ_ _=>⟨.inr (by omega),by omega,by omega,Q,Q,by omega,by omega,hu,by omega,hu,λx3 e3=>⟨hu,by omega,hu,λ_ _=>⟨.inr (by omega),⟨j+1,by omega⟩,by simp only;omega,by simp only;omega,?_⟩⟩⟩⟩⟩;have r1:K9 z u w=x1:=by simp only[K9,HF,e1,AJ]
   have r3:K9 z w u=x3:=by simp only[K9,HF,e3,AJ]
   rw[r1] at ay;rw[r3] at az;rw[AF (by omega) (by omega),AF (by omega) (by omega)];have hN:HX y L (j+1)=O9 z u w:=by simp only[HX,ab,ai,AJ,<-hz]
   have hR: ∀i,i<n->(HX y L (j+1)).Flow[i]?.getD []=if w=i then (z.Flow[w]?.getD []).set u (x3 - 1) else if u=i then (z.Flow[u]?.getD []).set w (x1+1) else z.Flow[i]?.getD []:=by
    intro i O;rw[hN];simp only[O9,Mj,B1];by_cases h1:w=i
    .subst h1;rw[Ak rfl,EE (by rw[I4,G.f];exact Q),AJ,Ep be,e3,AJ];rfl
    .rw[Ad h1,Ep h1];by_cases h2:u=i
     .subst h2;rw[Ak rfl,EE (by rw[G.f];exact hu),AJ,e1,AJ]
     .rw[Ad h2,Ep h2]
   have hF:(HX y L (j+1)).Room=z.Room:=by rw[hN];rfl
   refine⟨λi O=> ?_,λi O=> ?_⟩
   .rw[Ad (by omega),Ad (by omega)];show _=some (true,Ah.arr _ 1 (List.map Af ((HX y L (j+1)).Room[i]?.getD [])));rw[hF];exact jP _ _ _ _ O
   .show _=some (true,Ah.arr _ 1 (List.map Af ((HX y L (j+1)).Flow[i]?.getD [])));rw[hR i O];by_cases h1:w=i
    .subst h1;rw[Ak rfl,Ak rfl]
    .rw[Ad (by omega),Ad h1];by_cases h2:u=i
     .subst h2;rw[Ak rfl,Ak rfl]
     .rw[Ad (by omega),Ad h2];exact jT _ _ _ _ (by omega) O
  .have a8:j=L.length - 1:=by omega
   subst a8;obtain⟨m,hm⟩: ∃m,M - k=m+1:=⟨M - k - 1,by omega⟩;have ao: ¬CN y n p q=[]:=by rw[<-hL];exact aa
   have e5:G9 n p q (m+1) y=G9 n p q m z+1:=by simp only[G9];rw[Ad ao,<-hL,<-hz]
   have e6:SC n p q (m+1) y=SC n p q m z:=by simp only[SC];rw[Ad ao,<-hL,<-hz]
   rw[hm] at i5 i6;have ag:=(Qun i2 ac Z aq ad (v:=v) (by rw[show Ey y=Ey x by funext a b;simp only[Ey,i3]];exact hv) hW).2;have bf:z.Room=x.Room:=by rw[hz,Ql3,i3]
   rw[show Ey y=Ey x by funext a b;simp only[Ey,i3],<-hz] at ag;refine⟨⟨(k+1,z),by simp only;omega,G,bf,⟨_,ag⟩,by simp only;rw[show M - (k+1)=m by omega];omega,by simp only;rw[show M - (k+1)=m by omega,i6,e6]⟩,by simp only;omega,?_⟩;refine⟨by rw[AF (by omega) (by omega)];simp only;omega,?_⟩;simp only[jW,yL];exact⟨(Xg z n hn).ga,(Xg z n hn).gb⟩
 .have aa:L=[]:=by
   cases L with
   |nil=>rfl
   |cons a r=>exact absurd rfl c1
  have Q:CN y n p q=[]:=by rw[<-hL,aa]
  have z1: ∀m,G9 n p q m y=0:=by
   intro m;cases m with
   |zero=>rfl
   |succ m=>simp only[G9];rw[Ak Q]
  have z2: ∀m,SC n p q m y=y:=by
   intro m;cases m with
   |zero=>rfl
   |succ m=>simp only[SC];rw[Ak Q]
  obtain⟨g1,g2,g3⟩:=ah (z1 _) (z2 _);exact⟨g1,g2,g3 _⟩
 simp only[sndC.H1,BI,B4,BZ,CX] at hp;obtain⟨i,O,rfl⟩:=hp;have aw:=sndC.n_le a;refine .inl ⟨by omega,by simp only[UH,AZ,Ln,FG];omega,?_⟩;simp only[Av,sndC.H0];rw[(Xg a.1 (sndC.n a) aw).gb i O];rfl
def Qwi(h:Nat->Option Aq)(σ:Nat->Nat): ∀(a b:Au),EJ h σ (a++b)↔EJ h σ a/\EJ h σ b
 |[],b=>by simp[EJ]
 |(i,(z,e))::r,b=>by simp only[CP,EJ,Qwi h σ r b,mI]
def Qt1{h:Nat->Option Aq}{σ:Nat->Nat}{b n:Nat}{M:List (List Int)}(H: ∀i,i<n->h (σ (b+i))=some (true,.arr 2 1 ((M[i]?.getD []).map Af))):EJ h σ (BI b n M):=by
 have: ∀(l:List Nat),(∀i∈l,i<n)->EJ h σ (l.map λi=>(b+i,(true,Ah.arr 2 1 ((M[i]?.getD []).map Af)))):=by
  intro l;induction l with
  |nil=>intro _;trivial
  |cons i r ih=>
   intro z;simp only[Bm,EJ];exact⟨H i (z i (Ct ..)),ih (λj O=>z j (Cs _ O))⟩
 exact this _ (λi G=>CX.1 G)
def Qth{σ:Nat->Nat}{b n:Nat}{M:List (List Int)}(H: ∀i,i<n->σ (b+i)=b+i):Cd σ (BI b n M)=BI b n M:=by
 have: ∀(l:List Nat),(∀i∈l,i<n)->Cd σ (l.map λi=>(b+i,(true,Ah.arr 2 1 ((M[i]?.getD []).map Af))))=l.map λi=>(b+i,(true,Ah.arr 2 1 ((M[i]?.getD []).map Af))):=by
  intro l;induction l with
  |nil=>intro _;rfl
  |cons i r ih=>
   intro z;simp only[Bm,Cd];rw[H i (z i (Ct ..)),ih (λj O=>z j (Cs _ O))];rfl
 exact this _ (λi G=>CX.1 G)
def Qj9{σ:Nat->Nat}{b n:Nat}(H: ∀i,i<n->σ (b+i)=b+i):(C3 b n).map (Bn σ)=C3 b n:=by
 simp only[C3,Xw];refine SO λi z=> ?_
 simp only[Function.comp,Bn,AV.ren,H i (CX.1 z)]
def Qzq(σ:Nat->Nat): ∀(a b:Au),Cd σ (a++b)=Cd σ a++Cd σ b
 |[],b=>rfl
 |(i,(z,e))::r,b=>by simp only[CP,Cd,Qzq σ r b]
def bC{σ:Nat->Nat}{x:Bq}{n:Nat}(hn:n<=64)(H: ∀j,j<300->σ j=j):Cd σ (Dg x n)=Dg x n:=by
 simp only[Dg,Cd,Qzq,Ah.ren,Bn,AV.ren,H 0 (by omega),H 1 (by omega),H 2 (by omega),Qj9 (b:=100) (n:=n) (λi z=>H (100+i) (by omega)),Qj9 (b:=200) (n:=n) (λi z=>H (200+i) (by omega)),Qth (b:=100) (n:=n) (λi z=>H (100+i) (by omega)),Qth (b:=200) (n:=n) (λi z=>H (200+i) (by omega))]
def LK{x:Bq}{n:Nat}(hn:n<=64){j:Nat}(h:Av (Dg x n) j=true):j<264/\(200<=j-> ∃i,i<n/\j=200+i)/\j∈[0,1,2]++((List.range n).map (100+ ·)++(List.range n).map (200+ ·)):=by
 have z:j∈[0,1,2]++((List.range n).map (100+ ·)++(List.range n).map (200+ ·)):=by
  have: ∀(H:Au),Av H j=true->j∈Iz H:=by
   intro H;induction H with
   |nil=>intro h;simp[Av,hget] at h
   |cons e r ih=>
    obtain⟨i,e⟩:=e;intro h;simp only[Av,hget] at h;simp only[Iz,BO];by_cases O:i=j
    .exact .inl O.symm
    .have:(i==j)=false:=by simpa using O
     rw[this] at h;exact .inr (ih h)
  have Z:=this _ h;simp only[Dg,Iz,Qpf,BI,cY] at Z;simpa using Z
 refine⟨?_,λG=> ?_,z⟩
 .have:=Vw n hn j z
  rcases B5.1 z with z|z
  .simp at z;omega
  .rcases B5.1 z with z|z<;>obtain⟨i,Q,rfl⟩:=BZ.1 z<;>have:=CX.1 Q
   .show 100+i<264;omega
   .show 200+i<264;omega
 .rcases B5.1 z with z|z
  .simp at z;omega
  .rcases B5.1 z with z|z<;>obtain⟨i,Q,rfl⟩:=BZ.1 z<;>have:=CX.1 Q
   .have h3:200<=100+i:=G;omega
   .exact⟨i,this,rfl⟩
def Qi{kill:List Nat}{nx cnt b n:Nat}{M:List (List Int)}(H: ∀i,i<n->kill.contains (b+i)=true/\b+i<nx):Jx kill nx cnt (BI b n M)=true:=by
 have: ∀(l:List Nat),(∀i∈l,i<n)->Jx kill nx cnt (l.map λi=>(b+i,(true,Ah.arr 2 1 ((M[i]?.getD []).map Af))))=true:=by
  intro l;induction l with
  |nil=>intro _;rfl
  |cons i r ih=>
   intro z;simp only[Bm,Jx,OM,AZ,J3,Ln,FG];exact⟨.inr (H i (z i (Ct ..))),ih (λj O=>z j (Cs _ O))⟩
 exact this _ (λi G=>CX.1 G)
def W1{H:Nat->Option Aq}{x:Bq}{nx:Nat}{K:Ai}{p q O:Int}(hH:Vu H x x.Room.length)(Q:Wz (x,p,q,O))(aa:300<=nx)
 (hK: ∀E:BD,E.cnt=10->E.ok nx (.im (.int .i64 (G9 x.Room.length p q O.toNat x)))=true->K (.im (.int .i64 (G9 x.Room.length p q O.toNat x))) E):sndC.row [.ptr 0 0,.im (.int .i64 p),.im (.int .i64 q),.im (.int .i64 O)] H nx K:=by
 have hn:x.Room.length<=64:=Q.n;have G:sndC.n (x,p,q,O)=x.Room.length:=by simp only[sndC.n];omega
 have hσ: ∀j,j<300->FW (λj=>j) 300 nx j=j:=λj Z=>Ak Z
 refine⟨(x,p,q,O),λj=>j,[0,1,2]++((List.range x.Room.length).map (100+ ·)++(List.range x.Room.length).map (200+ ·)),(List.range x.Room.length).map (200+ ·),Q,?_,?_,?_,?_⟩
 .simp only[sndC.ca,Bn,AV.ren,hσ 0 (by omega)]
 .simp only[sndC.H0,G,Dg,EJ,Qwi,Ah.ren,Bn,AV.ren,hσ 0 (by omega),hσ 1 (by omega),hσ 2 (by omega),Qj9 (b:=100) (n:=x.Room.length) (λi z=>hσ (100+i) (by omega)),Qj9 (b:=200) (n:=x.Room.length) (λi z=>hσ (200+i) (by omega))];exact⟨hH.g0,hH.g1,hH.g2,Qt1 (λi z=>by rw[hσ _ (by omega)];exact hH.ga i z),Qt1 (λi z=>by rw[hσ _ (by omega)];exact hH.gb i z)⟩
 .have hd: ∀j,Av (sndC.H0 (x,p,q,O)) j=true->Av (Dg x x.Room.length) j=true:=λj h=>by simpa only[sndC.H0,G] using h
  refine⟨λi j _ _ h=>h,λj Z=> ?_,λj Z=>(LK hn (hd j Z)).2.2,λm hm=> ?_,λj Z hk=> ?_⟩
  .have:=(LK hn (hd j Z)).1
   omega
  .obtain⟨i,z,rfl⟩:=BZ.1 hm
   have:=CX.1 z
   refine⟨200+i,?_,fH i (by omega),rfl⟩;simp only[Av,sndC.H0,G];rw[(Xg x _ hn).gb i this];rfl
  .simp only[UH,AZ,Ln,FG] at hk;obtain⟨i,z,rfl⟩:=(LK hn (hd j Z)).2.1 hk.1;exact BZ.2 ⟨i,CX.2 z,rfl⟩
 .have e:(sndC.r0 (x,p,q,O)).ren (FW (λj=>j) 300 nx)= .im (.int .i64 (G9 x.Room.length p q O.toNat x)):=by simp only[sndC.r0,G,AV.ren]
  rw[e];refine hK _ rfl ?_;simp only[BD.ok,AV.bel,EL,sndC.H1,G];rw[Qth (λi z=>hσ _ (by omega)),AZ];refine⟨kJ _ _ _ (λi=>rfl) _,Qi λi z=>⟨?_,by omega⟩⟩;rw[J5];exact BZ.2 ⟨i,CX.2 z,rfl⟩
def Qu2(cnt:Nat): ∀(H:Au),(∀p∈H,p.1<cnt)->Jx [] 0 cnt H=true
 |[],_=>rfl
 |(i,e)::r,h=>by
  have z:=h (i,e) (Ct ..);simp only at z;simp only[Jx,OM,Qu2 cnt r (λp hp=>h p (Cs _ hp)),Er,J3,AZ,Ln,FG];exact .inl ⟨by omega,by omega⟩
def Vv{x:Bq}{n:Nat}(r:AV)(hn:n<=64)(z:r.bel 320=true){use:List Nat}:BD.ok {use:=use,kill:=[],new:=Dg x n,cnt:=320} 0 r=true:=by
 simp only[BD.ok,FM,z,EL,AZ];refine⟨?_,Qu2 _ _ λp hp=>by have:=L4 _ (N5 hn hp).1;omega⟩;simp only[Dg,AH,qE,BI];rw[kJ _ _ _ (λi=>rfl),kJ _ _ _ (λi=>rfl),Ry _ _ _ (by omega),Ry _ _ _ (by omega)];rfl
def Qt8(n:Nat)(bs:List Ag)(t:Int)(k:Nat)(h:S8 n bs t k=false): ∀m,S8 n bs t (k+m)=false
 |0=>h
 |m+1=>by rw[show k+(m+1)=k+m+1 by omega,S8,Qt8 n bs t k h m,Gx]
def zY(n:Int)(bs:List Ag)(t:Int):Bool:=S8 n.toNat bs t (n.toNat - 1)
def holds_.fv(a:Int×(List Ag)×Int):Bool:=(zY) (a.1) (a.2.1) (a.2.2)
def holds_.row:AO:=vK (b3 qI (qS Ag.d_le Ag.c_n) qI) rB (λa=>N6 (a.1,a.2.1)/\0<=a.2.2/\a.2.2<=1000000) holds_.fv
def holds_.q:=B2 (R:=holds_.row) rfl
def holds_.ok:AS 204 holds_.row:=by
 refine vw (tC nwC.ok (tC sndC.ok tN)) Tryz.func204 ?_;intro a ac;simp only[Tryz.f204,Option.getD];simp only[ZZ,simprocAttr,Ab,holds_.fv];obtain⟨hp,ad,af⟩:=ac;obtain⟨h0,h1,hl,z,G,O⟩:=hp;simp only at h0 h1 hl z G O;obtain⟨n,hn⟩: ∃n:Nat,a.1=n:=⟨a.1.toNat,by omega⟩;obtain⟨bs,hbsd⟩: ∃bs,bs=a.2.1:=⟨_,rfl⟩;obtain⟨t,ht⟩: ∃t,t=a.2.2:=⟨_,rfl⟩;simp only[hn,<-hbsd,<-ht,zY,B1] at h0 h1 hl z G O ad af⊢;have Q:N6 ((n:Int),bs):=⟨h0,h1,hl,z,G,O⟩;refine Bc.old ⟨{k:Nat//(k=0\/k+1<=n)/\S8 n bs t k=true},λk=>⟨[(7,.im (.int .i64 ((k.1:Int)+1))),(0,.im (.int .i64 n)),(1,.im (.sl false 3 (bs.map Ag.c))),(2,.im (.int .i64 t))],[],0⟩,λk=>n - k.1,λk=>⟨by simp[ZG],by simp⟩,⟨⟨0,.inl rfl,rfl⟩,by simp only[ZZ,simprocAttr,Ab,holds_.fv,sub]⟩,λk=> ?_⟩;obtain⟨k,aa,ab⟩:=k;simp only[ZZ,simprocAttr,Ab,holds_.fv,sub,AQ];refine⟨λhk=> ?_,λhk=> ?_⟩
 .refine AM.os ((n:Int),bs) [] Q (λj=>by simp[Av,hget]) rfl rfl ?_ ?_
  .simp only[ZZ,simprocAttr,Ab,holds_.fv,nwC.ca,Bt]
  .have e1:Cd (FW (Qs []) 0 0) (nwC.H1 ((n:Int),bs))=Dg (Ee n bs) n:=by
    simp only[nwC.H1,B1];rw[Zey (by omega)];exact bC (by omega) (λj _=>by simp[FW])
   rw[e1];refine⟨Vv _ (by omega) rfl,?_⟩;simp only[ZZ,simprocAttr,Ab,holds_.fv,sub,AQ,D0,CQ];have Z:(Ee n bs).Room.length=n:=(YA z bs.length).1.r;have hI:=Xg (Ee n bs) n (by omega);rw[show hget (Dg (Ee n bs) n)=hget (Dg (Ee n bs) n) from rfl];refine W1 (x:=Ee n bs) (by rw[Z];exact hI) ?_ (by omega) (λE ai ag=> ?_)
   .refine⟨by simp only;omega,by simp only[Z];exact (YA z bs.length).1,by simp,by simp only[Z];omega,by simp only;omega,by simp only[Z];omega,by simp only;omega,ad,af,⟨0,by simp only[Z];exact tF z G _ _⟩,λu v=> ?_⟩
    have:=(Qrm z G u v bs.length).2
    simp only[Ee];omega
   .refine⟨ag,?_⟩;rw[Z];obtain⟨sv,hsv⟩: ∃sv,sv=G9 n 0 ((k:Int)+1) t.toNat (Ee n bs):=⟨_,rfl⟩;rw[<-hsv];have hs:S8 n bs t (k+1)=(S8 n bs t k && decide (t<=sv)):=by rw[hsv];rfl
    rw[ab,EL] at hs;simp only[ZZ,simprocAttr,Ab,holds_.fv,A9.app,sub,AQ];refine⟨λah=> ?_,λah=>⟨⟨k+1,.inr (by omega),by rw[hs];exact ZeN (by omega)⟩,by simp only;omega,by rw[AF (by omega) (by omega)];simp only;omega⟩⟩;have h9:=Qt8 n bs t (k+1) (by rw[hs];exact Zeb (by omega)) (n - 1 - (k+1));rw[show k+1+(n - 1 - (k+1))=n - 1 by omega] at h9;exact h9.symm
 .rcases aa with rfl|aa
  .rw[show n - 1=0 by omega];rfl
  .rw[show n - 1=k by omega];exact ab.symm
def Li(t:Int)(b:Ag):Bool:=decide (b.Strength<t)
def CT1.fv(a:Ag×Int):Bool:=(λb t=>Li t b) (a.1) (a.2)
def CT1.row:AO:=H5 (b2 (qR Ag.d_le) (qP 1 Ez)) rB (λa=>True) CT1.fv
def CT1.q:=FE (R:=CT1.row) rfl
def CT1.ok:AS 224 CT1.row:=by
 refine LX tN Tryz.func224 ?_;intro a z;simp only[Tryz.f224,Option.getD];simp only[ZZ,simprocAttr,Ab,CT1.fv,C8,D.sc,D.scs,Cm,Be];rfl
def IdxB.ar:List PK->Option ((List Ag)×Int)
 |[.val (.sl _ _ G),.val (.fn 224 [] [.ref [.int .i64 z]])]=>(AX Ag.d G).bind λO=>some (O,z)
 |_=>none
def IdxB.ae(a:(List Ag)×Int):List PK:=[.val (.sl false 3 (a.1.map Ag.c)),.val (.fn 224 [] [.ref [.int .i64 a.2]])]
def IdxB.le: ∀z a,IdxB.ar z=some a->Cy z (IdxB.ae a):=by
 intro z a h;unfold IdxB.ar at h;split at h
 .simp only[F5,AP] at h;obtain⟨G,h0,rfl⟩:=h;exact⟨E0 (Ej Ag.d_le _ _ h0) (by simp only[BZ];rintro r ⟨y,_,rfl⟩;rfl),YL ⟨Le.refl _,trivial⟩,trivial⟩
 .cases h
def IdxB.fv(a:(List Ag)×Int):Int:=(λl t=>BB (Li t) 0 l) (a.1) (a.2)
def IdxB.row:AO:=Pg IdxB.ar (λa=>True) (λa=>(D.int .i64) (IdxB.fv a))
def IdxB.q:=vqF IdxB.row rfl
def IdxB.ok:AS 248 IdxB.row:=by
 refine Qbn DJ (tC CT1.ok tN) Tryz.func248 rfl (by kernel_rfl) (by kernel_rfl) (ar:=IdxB.ar) (ae:=IdxB.ae) IdxB.le (n:=2) (λ_=>rfl) (by decide) (rc:=(DU)) (re:=(D.int .i64)) (RZ) (f:=IdxB.fv) ?_;intro a O;simp only[Tryz.f248,Option.getD];simp only[ZZ,simprocAttr,Ab,IdxB.ae,IdxB.fv,CT1.q,CT1.fv,C8,D.sc,D.scs,Cm,Be];intro hn;refine Bc.old ⟨{k:Nat//k<=a.1.length/\BB (Li a.2) k (a.1.drop k)=BB (Li a.2) 0 a.1},λk=>⟨[(8,.im (.int .i64 k.1)),(7,.im (.int .i64 a.1.length)),(6,.im (.sl false 3 (a.1.map Ag.c))),(4,.im (.int .i64 0)),(0,.im (.sl false 3 (a.1.map Ag.c))),(1,.im (.fn 224 [] [.ref [.int .i64 a.2]]))],[],0⟩,λk=>a.1.length - k.1,λk=>⟨by simp[ZG],AW _⟩,⟨⟨0,by simp⟩,by simp only[ZZ,simprocAttr,Ab,IdxB.ae,IdxB.fv,CT1.q,CT1.fv,C8,D.sc,D.scs,Cm,Be,sub]⟩,λk=> ?_⟩;obtain⟨k,Q,z⟩:=k;simp only[ZZ,simprocAttr,Ab,IdxB.ae,IdxB.fv,CT1.q,CT1.fv,C8,D.sc,D.scs,Cm,Be,sub,AQ];refine⟨λG=>⟨G,λx Z=> ?_⟩,λG=> ?_⟩
 .rw[Gr Z,BB] at z;refine⟨λh=> ?_,λh=>Jo G hn ⟨by omega,by rw[<-z,Ad (by simpa using h)]⟩⟩;rw[Ak (by simpa using h)] at z;exact z
 .rw[Ei (by omega),BB] at z;exact z
def Qu3{t:Int}{l:List Ag}{i:Nat}{b:Ag}(Q:l.find? (Li t)=some b)(Z:BB (Li t) 0 l=(i:Int))(h3:l[i]? =some b):Hu t (l.take (i+1))=l.take i:=by
 have hw:Li t b=true:=Xr Q;have G: ∀(l:List Ag) (o i:Nat),BB (Li t) o l=((o+i:Nat):Int)-> ∀x∈l.take i,Li t x=false:=by
  intro l;induction l with
  |nil=>intro o i _ x z;simp at z
  |cons y r ih=>
   intro o i h x z;cases i with
   |zero=>simp at z
   |succ i=>
    simp only[BB] at h;split at h
    .omega
    .rename_i hy;rw[Ia] at z;rcases BO.1 z with rfl|z
     .simpa using hy
     .exact ih (o+1) i (by rw[h];congr 1;omega) x z
 rw[K6,h3,Zea,Hu,sA];have O:(l.take i).filter (λb=>decide (t<=b.Strength))=l.take i:=by
  rw[ZdQ];intro x z
  have:=G l 0 i (by rw[Z];simp) x z
  simp only[Li,HZ] at this;simp only[BA];omega
 simp only[Li,BA] at hw;rw[O,rH (by simp;omega),rQ,CQ]
def dlC.ca(a:List Ag×Int):List AV:=[.own 0,.im (.fn 224 [] [.ref [.int .i64 a.2]])]
def dlC.H0(a:List Ag×Int):Au:=[(0,(true,.arr 215 3 (a.1.map Ag.c)))]
def dlC.H1(a:List Ag×Int):Au:=[(1,(true,.arr 215 3 ((Hu a.2 a.1).map Ag.c)))]
def dlC.row:AO:=AM dlC.ca dlC.H0 1 (λa=>a.1.length<=1000000) (λj=>j==0) (λ_=> .own 1) dlC.H1 1000
def YY:=J @IdxB.q<|J @IdxB.fv.eq_1<|J @CT1.q @CT1.fv.eq_1
def dlC.ok:AS 222 dlC.row:=by
 refine VA (tC IdxB.ok (tC CT1.ok tN)) Tryz.func222 (exB:=λj=>j==1) (R:=λ_ r=>r= .own 1) (λ_=>rfl)
  (λa=>by simp[dlC.ca,dlC.H0,dlC.H1,AL,AV.bel,AH,Cz,Df,Ah.nms,AE,AV.nms,Av,hget]) (λa p hp=> ?_) (λa r h=>by subst h;exact ED.refl _) ?_
 rotate_left
 intro a Z;simp only[Tryz.f222,Option.getD,dlC.ca,dlC.H0,dlC.H1];simp only[ZZ,simprocAttr,Ab,YY,IdxB.ar,AR,Az,dlC.ca,dlC.H0,dlC.H1];rcases Xa (Li a.2) a.1 0 with ⟨e1,Q⟩|⟨i0,b0,e1,Q,e3⟩
 .rw[Q,Ak rfl];refine⟨[],[(1,some 0)],⟨[(4,.own 1)],[(1,(true,.arr 215 3 (a.1.map Ag.c)))],2⟩,?_,by simp[ZG],by simp,?_⟩
  .simp only[Ao];simp only[ZZ,simprocAttr,Ab,YY,IdxB.ar,AR,Az,dlC.ca,dlC.H0,dlC.H1,AU,AT]
  .simp only[ZZ,simprocAttr,Ab,YY,IdxB.ar,AR,Az,dlC.ca,dlC.H0,dlC.H1]
   have:Hu a.2 a.1=a.1:=by
    rw[Hu,ZdQ];intro b hb
    have:=lX.1 e1 b hb
    simp only[Li,BA] at this⊢;omega
   rw[this]
 .rw[FM] at Q;rw[Q,Ad (by omega)];have aa:=(B9.1 e3).1;rw[AF (by omega) (by omega)];obtain⟨l,hl⟩: ∃l,l=a.1:=⟨_,rfl⟩;obtain⟨t,ht⟩: ∃t,t=a.2:=⟨_,rfl⟩;simp only[<-hl,<-ht] at e1 Q e3 aa Z⊢;refine Bc.old ⟨{j:Nat//j<=l.length},λj=>⟨[(6,.im (.int .i64 j.1)),(5,.im (.int .i64 (Hu t (l.take j.1)).length)),(0,.own 0),(1,.im (.fn 224 [] [.ref [.int .i64 t]]))],[(0,(true,.arr 215 3 ((Hu t (l.take j.1)++l.drop (Hu t (l.take j.1)).length).map Ag.c)))],2⟩,λj=>l.length - j.1,λj=>⟨by simp[ZG],by simp⟩,⟨⟨i0+1,by omega⟩,?_⟩,λj=> ?_⟩
  .have h1:=Qu3 e1 Q e3;simp only[ZZ,simprocAttr,Ab,YY,IdxB.ar,AR,Az,dlC.ca,dlC.H0,dlC.H1,sub,h1,Cp];rw[show min i0 l.length=i0 by omega,Ze];exact⟨⟨by omega,rfl⟩,rfl⟩
  obtain⟨j,hj⟩:=j;obtain⟨kp,hkp⟩: ∃kp,kp=Hu t (l.take j):=⟨_,rfl⟩;have ac:kp.length<=j:=by
   have:=Qln t (l.take j)
   rw[Cp] at this;rw[hkp];omega
  have O:(kp++l.drop kp.length).length=l.length:=by simp;omega
  simp only[<-hkp];simp only[ZZ,simprocAttr,Ab,YY,IdxB.ar,AR,Az,dlC.ca,dlC.H0,dlC.H1,sub,AQ,O];intro _;refine⟨λG=>⟨G,G,λb hb=> ?_⟩,λG=> ?_⟩
  .have ad:l[j]? =some b:=by
    rw[Fe ac,Ib,show kp.length+(j - kp.length)=j by omega] at hb;exact hb
   have z:=Qjs t ad;rw[<-hkp] at z;refine⟨λhw=>⟨by omega,by omega,λc _=>⟨⟨j+1,by omega⟩,by simp only;omega,?_⟩⟩,λhw=>⟨⟨j+1,by omega⟩,by simp only;omega,?_⟩⟩
   .have hs:t<=b.Strength:=by
     simp only[Li,HZ] at hw;omega
    rw[Ak hs] at z;simp only[z,CS,Dp,Hx];refine⟨⟨by rw[AF (by omega) (by omega)];omega,by rw[AF (by omega) (by omega)];omega⟩,?_⟩;have h1:(kp++l.drop kp.length).set kp.length b=kp++[b]++l.drop (kp.length+1):=by
     obtain⟨c,hc⟩: ∃c,l[kp.length]? =some c:=⟨_,Bk (by omega)⟩;rw[Gr hc,Zei _ _ (AW _),I6,sC,HY];rfl
    rw[<-h1,SR];rfl
   .have hs: ¬t<=b.Strength:=by
     rw[Gi] at hw;simp only[Li,BA] at hw;omega
    rw[Ad hs,CQ] at z;simp only[z];exact⟨⟨by rw[AF (by omega) (by omega)];omega,trivial⟩,trivial⟩
  .refine⟨by omega,false,?_⟩;have ab:j=l.length:=by omega
   subst ab;rw[EW] at hkp;simp only[ZZ,simprocAttr,Ab,YY,IdxB.ar,AR,Az,dlC.ca,dlC.H0,dlC.H1,O];have hA:List.take kp.length ((kp++l.drop kp.length).map Ag.c)=kp.map Ag.c:=by
    rw[<-List.map_take,List.take_left]
   rw[hA];refine⟨by simp only[CS,FN];omega,true,?_⟩;simp only[ZZ,simprocAttr,Ab,YY,IdxB.ar,AR,Az,dlC.ca,dlC.H0,dlC.H1,O];refine⟨[],[(1,some 2)],⟨[(4,.own 1)],[(1,(true,.arr 215 3 (kp.map Ag.c)))],2⟩,?_,by simp[ZG],by simp,?_⟩
   .simp only[Ao];simp only[ZZ,simprocAttr,Ab,YY,IdxB.ar,AR,Az,dlC.ca,dlC.H0,dlC.H1,AU,AT];rw[show ((kp.length:Int) - 0).toNat=(kp.map Ag.c).length by simp,HY,List.take_left]
   .simp only[ZZ,simprocAttr,Ab,YY,IdxB.ar,AR,Az,dlC.ca,dlC.H0,dlC.H1,hkp]
 simp[dlC.H1] at hp;subst hp;exact .inr ⟨by omega,by omega,rfl,rfl⟩
def Nj(b i:Nat)(x:Int):AV:=if 0<=x/\x<i then .ptr (b+x.toNat) 0 else .im .nilp
def Ie(b:Nat)(L:List Int)(i:Nat):Aq:=(true,.cells 289 [Nj b i (L[i]?.getD (-1)),.im (.int .i64 i)])
def Fk(b:Nat)(L:List Int)(n:Nat):Au:=B4 b n (Ie b L)
def Hk(L:List Int):Prop:= ∀(i:Nat) (x:Int),L[i]? =some x->x<i
def Pk(L:List Int)(i:Nat):Nat->Nat
 |0=>i
 |m+1=>if L[i]?.getD (-1)<0 then i else Pk L (L[i]?.getD (-1)).toNat m
def EV(L:List Int)(i:Nat):Nat:=Pk L i i
def Qabj{L:List Int}(h:Hk L): ∀(i m m':Nat),i<=m->i<=m'->Pk L i m=Pk L i m':=by
 intro i;induction i using Nat.strongRecOn with
 |_ i ih=>
  intro m m' z G;cases hi:L[i]? with
  |none=>
   cases m<;>cases m'<;>simp[Pk,hi]
  |some x=>
   have O:=h i x hi;by_cases h0:x<0
   .cases m<;>cases m'<;>simp[Pk,hi,h0]
   .cases m with
    |zero=>omega
    |succ m=>
     cases m' with
     |zero=>omega
     |succ m'=>
      simp only[Pk,hi,AJ,Ad h0];exact ih x.toNat (by omega) m m' (by omega) (by omega)
def cW{L:List Int}(h:Hk L){i:Nat}{x:Int}(z:L[i]? =some x):EV L i=if x<0 then i else EV L x.toNat:=by
 have G:=h i x z;by_cases h0:x<0
 .rw[Ak h0,EV];cases i with
  |zero=>rfl
  |succ i=>simp only[Pk,z,AJ,Ak h0]
 .rw[Ad h0,EV];cases i with
  |zero=>omega
  |succ i=>
   simp only[Pk,z,AJ,Ad h0];exact Qabj h _ _ _ (by omega) (AW _)
def Qnj{L:List Int}(h:Hk L): ∀(i:Nat),EV L i<=i:=by
 intro i;induction i using Nat.strongRecOn with
 |_ i ih=>
  cases hi:L[i]? with
  |none=>rw[EV];cases i<;>simp[Pk,hi]
  |some x=>
   rw[cW h hi];have z:=h i x hi;split
   .exact AW _
   .have:=ih x.toNat (by omega);omega
def firC.n(a:List Int×Nat):Nat:=min a.1.length 512
def firC.ca(a:List Int×Nat):List AV:=[.ptr (min a.2 511) 0]
def firC.H0(a:List Int×Nat):Au:=Fk 0 a.1 (firC.n a)
def firC.r0(a:List Int×Nat):AV:= .ptr (EV a.1 a.2) 0
def firC.pre(a:List Int×Nat):Prop:=a.1.length<=512/\a.2<a.1.length/\Hk a.1
def firC.row:AO:=AM firC.ca firC.H0 600 firC.pre (λ_=>false) firC.r0 (λ_=>[]) 0
def firC.hbel(a:List Int×Nat):AL 600 (firC.ca a)=true:=by
 simp only[firC.ca,AL,AV.bel,Er,FG];omega
def Qt5(nx b:Nat)(f:Nat->Aq)(n:Nat)(hf: ∀i,i<n->AH nx [(b+i,f i)]=true):AH nx (B4 b n f)=true:=by
 have: ∀(l:List Nat),(∀i∈l,i<n)->AH nx (l.map λi=>(b+i,f i))=true:=by
  intro l;induction l with
  |nil=>intro _;rfl
  |cons i r ih=>
   intro z;rw[Bm,show (b+i,f i)::(r.map λi=>(b+i,f i))=[(b+i,f i)]++(r.map λi=>(b+i,f i)) from rfl,qE,hf i (z i (Ct ..)),ih (λj O=>z j (Cs _ O))];rfl
 exact this _ (λi G=>CX.1 G)
def aA(b i N:Nat)(x:Int)(h:b+i<=N):(Nj b i x).bel N=true:=by
 simp only[Nj];split
 .simp only[AV.bel,FG];omega
 .rfl
def yR(b n N:Nat)(L:List Int)(h:b+n<=N):AH N (Fk b L n)=true:=Qt5 _ _ _ _ λi z=>by
 simp only[Ie,AH,AL,aA b i N _ (by omega),AV.bel,rV]
def firC.n_le(a:List Int×Nat):firC.n a<=512:=Zb _ _
def firC.hbH(a:List Int×Nat):AH 600 (firC.H0 a)=true:=yR _ _ _ _ (by have:=firC.n_le a;omega)
def firC.hkH(a:List Int×Nat):Cz 600 (firC.H0 a)=true:=cU _ _ _ _ (by have:=firC.n_le a;omega)
def Lb(b n:Nat)(L:List Int)(i:Nat)(h:i<n):hget (Fk b L n) (b+i)=some (Ie b L i):=Kx _ _ _ _ h
def Qj{H0:Au}{b n:Nat}{f:Nat->Aq}(h: ∀i,i<n-> ∀m∈(f i).2.nms,Av H0 m=true):Df H0 (B4 b n f):=by
 have: ∀(l:List Nat),(∀i∈l,i<n)->Df H0 (l.map λi=>(b+i,f i)):=by
  intro l;induction l with
  |nil=>intro _;trivial
  |cons i r ih=>
   intro z;simp only[Bm];exact⟨h i (z i (Ct ..)),ih (λj O=>z j (Cs _ O))⟩
 exact this _ (λi G=>CX.1 G)
def firC.hnm(a:List Int×Nat):Df (firC.H0 a) (firC.H0 a):=by
 refine Qj λi G m z=> ?_
 simp only[Ie,Ah.nms,AE,Nj] at z;split at z
 .simp only[AV.nms,CQ,BN] at z;subst z;rename_i h;simp only[Av,firC.H0];rw[Lb 0 _ _ _ (by omega)];rfl
 .simp[AV.nms] at z
def Re(s:A9)(b n:Nat)(f:Nat->Aq):De s (B4 b n f)= ∀i,i<n->hget s.h (b+i)=some (f i):=by
 have: ∀(l:List Nat),De s (l.map λi=>(b+i,f i))↔ ∀i∈l,hget s.h (b+i)=some (f i):=by
  intro l;induction l with
  |nil=>simp[De]
  |cons i r ih=>simp only[Bm,De,ih,BO,ZeY]
 apply propext;rw[B4,this];simp only[CX]
def yW{s:A9}{b n:Nat}{L:List Int}(h: ∀i,i<n->hget s.h (b+i)=some (Ie b L i)):De s (Fk b L n):=by
 rw[Fk,Re];exact h
def firC.ok:AS 247 firC.row:=by
 refine ow tN Tryz.func247 (exB:=λ_=>false) (R:=λa r=>r=firC.r0 a) (λ_=>rfl)
  (λa=>⟨firC.hbel a,firC.hbH a,firC.hkH a,firC.hnm a⟩) (λa p hp=> ?_) (λa r h=>by subst h;exact ED.refl _) ?_
 rotate_left
 intro a Z;simp only[Tryz.f247,Option.getD,firC.ca];simp only[ZZ,simprocAttr,Ab,Az,firC.ca];obtain⟨L,i⟩:=a;obtain⟨h1,h2,h3⟩:=Z;simp only at h1 h2 h3;obtain⟨n,hn⟩: ∃n,n=L.length:=⟨_,rfl⟩;have ab:firC.n (L,i)=n:=by simp only[firC.n,<-hn];omega
 simp only[firC.H0,firC.r0,ab,D0];rw[<-hn] at h1 h2;rw[show min i 511=i by omega];refine Bc.old ⟨{g:Nat//g<n/\EV L g=EV L i},λg=>⟨[(0,.ptr g.1 0)],Fk 0 L n,600⟩,λg=>g.1,λg=>⟨?_,by simp⟩,⟨⟨i,h2,rfl⟩,?_⟩,λg=> ?_⟩
 .simp only[A9.good,C4,AV.bel,Er,AZ,FG];exact⟨by omega,yR _ _ _ _ (by omega),cU _ _ _ _ (by omega)⟩
 .simp only[sub,Ho,AC];refine⟨?_,yW (λi Q=>Lb 0 n L i Q)⟩;simp only[ZZ,simprocAttr,Ab,Az,firC.ca]
 obtain⟨g,hg,hr⟩:=g;obtain⟨x,hx⟩: ∃x,L[g]? =some x:=⟨_,Bk (by omega)⟩;have ac:=h3 g x hx;have z:=Lb 0 n L g hg;rw[FM] at z;simp only[Ie,hx,AJ] at z;have aa:=cW h3 hx;by_cases h0:x<0
 .have G:Nj 0 g x= .im .nilp:=Ad (by omega);rw[G] at z;simp only[ZZ,simprocAttr,Ab,Az,firC.ca,sub,AQ,z,D0];rw[Ak h0] at aa;exact⟨by omega,by omega,by omega,by omega,by omega,Qxi _ _ _ _ _ (λi Q=> .inr (Lb 0 n L i Q)),by omega⟩
 .have G:Nj 0 g x= .ptr x.toNat 0:=by simp only[Nj];rw[Ak ⟨by omega,ac⟩,FM]
  rw[G] at z;have O:=Lb 0 n L x.toNat (by omega);rw[FM] at O;simp only[ZZ,simprocAttr,Ab,Az,firC.ca,sub,AQ,z,O,D0];rw[Ad h0] at aa;exact⟨by omega,by omega,by omega,by omega,by omega,by omega,by omega,by omega,by omega,⟨x.toNat,by omega,by omega⟩,by simp only;omega,rfl,yW (λi Q=>Lb 0 n L i Q)⟩
 simp at hp
def Ld(b n k:Nat):List (List AV):=(List.range n).map λi=>if i<k then [AV.ptr (b+i) 0] else [.im .nilp]
def Ku(b n k:Nat):(Ld b n k).length=n:=by simp[Ld]
def Qj7(b n k i:Nat)(h:i<n):(Ld b n k)[i]? =some (if i<k then [.ptr (b+i) 0] else [.im .nilp]):=by simp[Ld,Lm h]
def Qtr(b n k i:Nat)(K:List AV->Prop)(h:i<n):Ky (Ld b n k) i K=K (if i<k then [.ptr (b+i) 0] else [.im .nilp]):=by
 apply propext;unfold Ky;rw[Qj7 b n k i h];exact⟨λh=>h _ rfl,λh row z=>by obtain rfl:=A8 z;exact h⟩
def Qlg(b n k N:Nat)(h:b+k<=N):(Ld b n k).all (AL N)=true:=by
 rw[HN];intro r z;obtain⟨i,G,rfl⟩:=BZ.1 z;split
 .simp[AL,AV.bel];omega
 .simp[AL,AV.bel]
def Qnw(b n N:Nat)(L:List Int)(h:b+n<=N):Cz N (Fk b L n)=true:=cU _ _ _ _ h
def QC(b n:Nat)(π:List (Nat×Option Nat)):Fu π (Ld b n 0) (Bo (List.replicate n [.nilp])):=by
 have e:Ld b n 0=Bo (List.replicate n [.nilp]):=by
  simp only[Ld,Bo,ZdZ,CY,List.map_replicate];rw[List.map_const',YZ];rfl
 rw[e];exact SF _ _
def aB{σ:Nat->Nat}{i:Nat}{x:Int}(h: ∀j,j<i->σ j=1000+j):(Nj 0 i x).ren σ=Nj 1000 i x:=by
 simp only[Nj];split
 .simp only[AV.ren,FM];rw[h _ (by omega)]
 .rfl
def PY{h:Nat->Option Aq}{σ:Nat->Nat}{b n:Nat}{f:Nat->Aq}(H: ∀i,i<n->h (σ (b+i))=some ((f i).1,(f i).2.ren σ)):EJ h σ (B4 b n f):=by
 have: ∀(l:List Nat),(∀i∈l,i<n)->EJ h σ (l.map λi=>(b+i,f i)):=by
  intro l;induction l with
  |nil=>intro _;trivial
  |cons i r ih=>
   intro z;simp only[Bm];exact⟨H i (z i (Ct ..)),ih (λj O=>z j (Cs _ O))⟩
 exact this _ (λi G=>CX.1 G)
def ZJ{n:Nat}{L:List Int}{j:Nat}(h:Av (Fk 0 L n) j=true):j<n:=by
 simp only[Av,Fk,Qm4] at h;split at h
 .omega
 .cases h
def Qtp{H:Nat->Option Aq}{L:List Int}{k nx u:Nat}{K:Ai}(Q:L.length=k)(hk:k<=512)(G:Hk L)(hu:u<k)(aa:2000<=nx)(hH: ∀i,i<k->H (1000+i)=some (Ie 1000 L i))
 (O: ∀U,K (.ptr (1000+EV L u) 0) {use:=U}):firC.row [.ptr (1000+u) 0] H nx K:=by
 have hσ: ∀j,j<600->FW (λj=>1000+j) 600 nx j=1000+j:=λj z=>Ak z
 have hn:firC.n (L,u)=k:=by simp only[firC.n,Q];omega
 have hr:=Qnj G u;refine⟨(L,u),λj=>1000+j,(List.range k).map (1000+ ·),[],⟨by simp only;omega,by simp only;omega,G⟩,?_,?_,?_,?_⟩
 .simp only[firC.ca,Bn,AV.ren];rw[show min u 511=u by omega,hσ u (by omega)]
 .simp only[firC.H0,hn,Fk];refine PY λi Z=> ?_
  rw[FM,hσ i (by omega),hH i Z];simp only[Ie,Ah.ren,Bn,AV.ren];rw[aB (λj z=>hσ j (by omega))]
 .have hd: ∀j,Av (firC.H0 (L,u)) j=true->j<k:=λj z=>by simp only[firC.H0,hn] at z;exact ZJ z
  refine⟨λi j _ _ h=> ?_,λj z=> ?_,λj z=> ?_,λm hm=>(by cases hm),λj _ z=>(by cases z)⟩
  .have h:1000+i=1000+j:=h;omega
  .have:=hd j z
   show 1000+j<nx;omega
  exact BZ.2 ⟨j,CX.2 (hd j z),rfl⟩
 .have e:(firC.r0 (L,u)).ren (FW (λj=>1000+j) 600 nx)= .ptr (1000+EV L u) 0:=by
   simp only[firC.r0,AV.ren];rw[hσ _ (by omega)]
  rw[e];exact O _
def Qug(k:Nat):Hk (List.replicate k (-1)):=by
 intro i x h
 have:=Pt (Bd h)
 omega
def Qj8: ∀(k i:Nat),i<k->(YP k)[i]? =some (i:Int)
 |0,i,h=>by omega
 |k+1,i,h=>by
  simp only[YP];by_cases z:i<k
  .rw[Eh (by rw[jU];exact z)];exact Qj8 k i z
  .have:i=k:=by omega
   subst this;rw[Fe (by rw[jU];exact AW _),jU,I6];rfl
def Qw{k i:Nat}{bs:List Ag}(h:i<k):(C6 k bs 0)[i]? =some ((EV (List.replicate k (-1)) i:Nat):Int):=by
 simp only[C6];rw[Qj8 k i h]
 have:=cW (Qug k) (i:=i) (x:= -1) (by rw[Pu,Ak h])
 rw[this,Ak (by omega)]
def Qls{L:List Int}(h:Hk L): ∀(i:Nat),EV L (EV L i)=EV L i:=by
 intro i;induction i using Nat.strongRecOn with
 |_ i ih=>
  cases hi:L[i]? with
  |none=>
   have:EV L i=i:=by rw[EV];cases i<;>simp[Pk,hi]
   rw[this,this]
  |some x=>
   have z:=h i x hi;rw[cW h hi];split
   .rename_i h0;rw[cW h hi,Ak h0]
   .exact ih x.toNat (by omega)
def Qsx{L:List Int}(h:Hk L){p q:Nat}(O:p<q):Hk (L.set q (p:Int)):=by
 intro i x z;by_cases hq:q=i
 .subst hq;have G:q<L.length:=by have:=(B9.1 z).1;simpa using this
  rw[EE G] at z;obtain rfl:=A8 z;omega
 .rw[Ep hq] at z;exact h i x z
def Qqx{L:List Int}(h:Hk L){p q:Nat}(hp:EV L p=p)(hq:EV L q=q)(G:p<q)(O:q<L.length): ∀(i:Nat),EV (L.set q (p:Int)) i=if EV L i=q then p else EV L i:=by
 have h':=Qsx h G;intro i;induction i using Nat.strongRecOn with
 |_ i ih=>
  by_cases z:q=i
  .subst z;have e:(L.set q (p:Int))[q]? =some (p:Int):=EE O;rw[cW h' e,Ad (by omega),B1,ih p G,hp,Ad (by omega),hq,Ak rfl]
  .have e:(L.set q (p:Int))[i]? =L[i]? :=Ep z;cases hi:L[i]? with
   |none=>
    have Q:EV L i=i:=by rw[EV];cases i<;>simp[Pk,hi]
    have r2:EV (L.set q (p:Int)) i=i:=by rw[EV];cases i<;>simp[Pk,e,hi]
    rw[Q,r2,Ad (Fi z)]
   |some x=>
    have Z:=h i x hi;rw[hi] at e;rw[cW h' e,cW h hi];by_cases h0:x<0
    .rw[Ak h0,Ak h0,Ad (Fi z)]
    .rw[Ad h0,Ad h0];exact ih x.toNat (by omega)
def Nc{x y:Nat}(h:x<y)(r:Nat):Kz (x:Int) (y:Int) (r:Int)=((if r=y then x else r:Nat):Int)/\Kz (y:Int) (x:Int) (r:Int)=((if r=y then x else r:Nat):Int):=by
 have m1:Et (x:Int) y=y:=Ad (by omega);have G:Et (y:Int) x=y:=Ak (by omega);have O:FA (x:Int) y=x:=Ak (by omega);have Q:FA (y:Int) x=x:=Ad (by omega);simp only[Kz,m1,G,O,Q];by_cases z:r=y
 .rw[Ak z,Ak (by omega)];exact⟨rfl,rfl⟩
 .rw[Ad z,Ad (by omega)];exact⟨rfl,rfl⟩
def ZV(x r:Nat):Kz (x:Int) (x:Int) (r:Int)=(r:Int):=by
 have m1:Et (x:Int) x=x:=Ad (by omega);have G:FA (x:Int) x=x:=Ad (by omega);simp only[Kz,m1,G];by_cases z:(r:Int)=x
 .rw[Ak z,z]
 .rw[Ad z]
def X2(p:Int×Int):D×D:=(.int .i64 p.1,.int .i64 p.2)
def Jg(M:List (Int×Int))(x:Int):Option Int:=(M.find? (λp=>p.1==x)).map (·.2)
def UR(x:Int): ∀(M:List (Int×Int)),lk (M.map X2) (.int .i64 x)=(Jg M x).map (D.int .i64)
 |[]=>rfl
 |(k,v)::r=>by
  have ih:=UR x r;simp only[Jg] at ih;by_cases h:k=x
  .subst h;simp[lk,X2,Jg,D.beq]
  .have z: ¬x=k:=λe=>h e.symm
   have G:(x==k)=false:=by simpa using z
   simp[lk,X2,Jg,D.beq,h,G,ih]
def aD(x:Int)(M:List (Int×Int))(Ks:D->Prop)(Kn:Prop):GL (M.map X2) (.int .i64 x) Ks Kn=((∀v,Jg M x=some v->Ks (.int .i64 v))/\(Jg M x=none->Kn)):=by
 apply propext;unfold GL;rw[UR];cases Jg M x<;>simp
def O0(x v:Int): ∀(M:List (Int×Int)),Jg M x=none->Hp (M.map X2) (.int .i64 x) (.int .i64 v)=(M++[(x,v)]).map X2
 |[],_=>rfl
 |(k,w)::r,h=>by
  by_cases z:k=x
  .subst z;simp[Jg] at h
  .have G: ¬x=k:=λe=>z e.symm
   have Q:Jg r x=none:=by simpa[Jg,z] using h
   have ih:=O0 x v r Q;simp only[Bm,CP,X2] at ih⊢;have O:(x==k)=false:=by simpa using G
   simp[Hp,D.beq,O,ih,X2]
def Np(M:List (Int×Int))(x v y:Int):Jg (M++[(x,v)]) y=(Jg M y).or (if x=y then some v else none):=by
 simp only[Jg,List.find?_append];cases h:M.find? (λp=>p.1==y) with
 |some p=>simp
 |none=>
  by_cases z:x=y
  .subst z;simp
  .simp[z]
def Qld{own:List Int}{i:Nat}(h:own[i]? =some (i:Int)): ∀k,∃z,DA own i (k+1)=(i:Int)::z
 |0=>⟨[],by simp[DA,h]⟩
 |k+1=>by
  obtain⟨z,G⟩:=Qld h k;rw[DA,G];exact⟨_,rfl⟩
def Qjv(own:List Int)(n:Nat): ∀k,k<=n-> ∀g∈BM own n k,∃(r:Nat) (rest:List Int),g=(r:Int)::rest/\r<k/\own[r]? =some (r:Int)
 |0,_,g,h=>by simp[BM] at h
 |k+1,hk,g,h=>by
  simp only[BM,B5] at h;rcases h with h|h
  .obtain⟨r,rest,O,Z,Q⟩:=Qjv own n k (by omega) g h;exact⟨r,rest,O,by omega,Q⟩
  .split at h
   .rename_i z;obtain rfl:=BN.1 h;obtain⟨rest,G⟩:=Qld z (n - k - 1);rw[show n - k - 1+1=n - k by omega] at G;exact⟨k,rest,G,by omega,z⟩
   .cases h
def Qo6(own:List Int)(n:Nat)(r:Nat)(O:own[r]? =some (r:Int)): ∀k,k<=n->r<k-> ∃z,((r:Int)::z)∈BM own n k
 |0,_,h=>by omega
 |k+1,Z,h=>by
  by_cases G:r=k
  .subst G;obtain⟨z,G⟩:=Qld O (n - r - 1);rw[show n - r - 1+1=n - r by omega] at G;exact⟨z,by simp[BM,O,G]⟩
  .obtain⟨z,Q⟩:=Qo6 own n r O k (by omega) (by omega);exact⟨z,by simp only[BM,B5];exact .inl Q⟩
def Qy0(own:List Int)(n:Nat): ∀k,∀g∈BM own n k,g.length<=n
 |0,g,h=>by simp[BM] at h
 |k+1,g,h=>by
  simp only[BM,B5] at h;rcases h with h|h
  .exact Qy0 own n k g h
  .split at h
   .obtain rfl:=BN.1 h
    have:=Qsd own k (n - k)
    omega
   .cases h
def PJ{h:Nat->Option Aq}{b m:Nat}{G:List (List Int)}(H: ∀q,q<G.length->h (b+q)=some (true,.arr 2 1 ((G[q]?.getD []).map Af))):
 AA (AA λx=>EO (Bx h (IG 0 []) (m+1) x)) (C3 b G.length)=some (G.map C9):=by
 have: ∀(l:List Nat),(∀q∈l,q<G.length)->AA (AA λx=>EO (Bx h (IG 0 []) (m+1) x)) (l.map λi=>[AV.own (b+i)])=some (l.map λq=>C9 (G[q]?.getD [])):=by
  intro l;induction l with
  |nil=>intro _;rfl
  |cons q r ih=>
   intro Q;have h0:IG 0 [] (b+q)=none:=rfl;have O:=ih (λx Z=>Q x (Cs _ Z));have e:AA (λx=>EO (Bx h (IG 0 []) (m+1) x)) [AV.own (b+q)]=some (C9 (G[q]?.getD [])):=by
    simp only[AA,Bx,h0,H q (Q q (Ct ..)),R2,kp,CR,EO,AV.asD];rfl
   rw[Bm,AA,e,O];rfl
 rw[C3,this _ (λq hq=>CX.1 hq)];congr 1;apply Ja;intro j;by_cases z:j<G.length
 .rw[DX,Lm z,DX,Bk z,CR,CR,Bk z,AJ]
 .rw[Hy (by simp;omega),Hy (by simp;omega)]
def JM(r:Int)(m:Nat)(g:List Int):List Int:=if g.head? =some r then g++[(m:Int)] else g
def Ql4(own:List Int)(m:Nat)(r:Int)(Q:own[m]? =some r): ∀k,k<=m->BM own (m+1) k=(BM own m k).map (JM r m)
 |0,_=>rfl
 |k+1,hk=>by
  rw[BM,BM,Fg,Ql4 own m r Q k (by omega)];congr 1;by_cases G:own[k]? =some (k:Int)
  .rw[Ak G,Ak G];obtain⟨Z,O⟩:=Qld G (m - k - 1);rw[show m - k - 1+1=m - k by omega] at O;have e:DA own k (m+1 - k)=DA own k (m - k)++(if own[m]? =some (k:Int) then [(m:Int)] else []):=by
    rw[show m+1 - k=(m - k)+1 by omega,DA,show k+(m - k)=m by omega]
   rw[e,Q];simp only[Bm,BY,JM,O,Zfg,AP];by_cases z:r=(k:Int)
   .rw[Ak z,Ak z.symm]
   .rw[Ad z,Ad (Fi z),CQ]
  .rw[Ad G,Ad G];rfl
structure zJ(out:List (List Int))(M:List (Int×Int)):Prop where
 a: ∀r v,Jg M r=some v-> ∃(g:Nat) (rest:List Int),v=g/\out[g]? =some (r::rest)
 b: ∀(g:Nat) (r:Int) (rest:List Int),out[g]? =some (r::rest)->Jg M r=some (g:Int)
def Uy{own:List Int}{i:Nat}{M:List (Int×Int)}{r:Nat}(hP:zJ (BM own i i) M)(ho:own[i]? =some (r:Int))(hr:r<=i)(ab:own[r]? =some (r:Int))(hn:Jg M r=none):
 r=i/\BM own (i+1) (i+1)=BM own i i++[[(i:Int)]]/\zJ (BM own (i+1) (i+1)) (M++[((i:Int),((BM own i i).length:Int))]):=by
 have aa:r=i:=by
  by_cases h:r<i
  .obtain⟨z,hm⟩:=Qo6 own i r ab i (by omega) h;obtain⟨g,G⟩:=EK.1 hm;rw[hP.b g _ _ G] at hn;cases hn
  .omega
 subst aa;have e:BM own (r+1) (r+1)=BM own r r++[[(r:Int)]]:=by
  rw[BM,Ql4 own r r ho r (AW _),Ak ho];congr 1
  .conv=>rhs;rw[<-List.map_id (BM own r r)]
   apply SO;intro g G;obtain⟨q,z,Q,Z,_⟩:=Qjv own r r (AW _) g G;simp only[JM,Q,Zfg,AP,id];rw[Ad (by omega)]
  .rw[show r+1 - r=0+1 by omega];simp[DA,ho]
 refine⟨rfl,e,?_⟩;rw[e];refine⟨λq v O=> ?_,λg q z G=> ?_⟩
 .rw[Np] at O;cases hq:Jg M q with
  |some w=>
   rw[hq] at O;obtain rfl:=A8 O;obtain⟨g,z,Q,Z⟩:=hP.a q _ hq;exact⟨g,z,Q,by rw[Eh (B9.1 Z).1];exact Z⟩
  |none=>
   rw[hq] at O;simp only[rU] at O;split at O
   .rename_i h;obtain rfl:=A8 O;exact⟨_,[],rfl,by rw[Fe (AW _),I6,<-h];rfl⟩
   .cases O
 .rw[Np];by_cases hl:g<(BM own r r).length
  .rw[Eh hl] at G;rw[hP.b g q z G];rfl
  .rw[Fe (by omega)] at G;have h0:g - (BM own r r).length=0:=by
    have:=(B9.1 G).1
    simpa using this
   rw[h0] at G;simp only[Gw,AP,eV] at G;rw[<-G.1,hn,Ak rfl,rU];congr 1;omega
def Uz{own:List Int}{i:Nat}{M:List (Int×Int)}{r:Int}{g:Nat}{rest:List Int}(hP:zJ (BM own i i) M)(ho:own[i]? =some r)(Q:(BM own i i)[g]? =some (r::rest)):
 BM own (i+1) (i+1)=(BM own i i).set g (r::rest++[(i:Int)])/\zJ (BM own (i+1) (i+1)) M:=by
 have ab:r≠i:=by
  obtain⟨q,rs,Z,G,_⟩:=Qjv own i i (AW _) _ (Bd Q)
  have:=(List.cons.inj Z).1
  omega
 have e:BM own (i+1) (i+1)=(BM own i i).set g (r::rest++[(i:Int)]):=by
  rw[BM,Ql4 own i r ho i (AW _),Ad (by rw[ho];simpa using ab),CQ];apply Ja;intro j;rw[DX];by_cases O:g=j
  .subst O;rw[EE (B9.1 Q).1,Q];simp[JM]
  .rw[Ep O];cases hx:(BM own i i)[j]? with
   |none=>rfl
   |some x=>
    simp only[CR,JM];rw[Ad];intro hh;cases x with
    |nil=>cases hh
    |cons q rs=>
     simp only[Zfg,AP] at hh;subst hh;have Z:=hP.b j _ _ hx;have G:=hP.b g _ _ Q;rw[Z] at G
     have:=A8 G
     omega
 refine⟨e,?_⟩;rw[e];have aa:=(B9.1 Q).1;refine⟨λq v hv=> ?_,λg' q rs z=> ?_⟩
 .obtain⟨j,rs,Z,G⟩:=hP.a q v hv;by_cases O:g=j
  .subst O;rw[Q] at G;simp only[AP,eV] at G;exact⟨g,rest++[(i:Int)],Z,by rw[EE aa,G.1];rfl⟩
  .exact⟨j,rs,Z,by rw[Ep O];exact G⟩
 .by_cases O:g=g'
  .subst O;rw[EE aa] at z;simp only[AP,CP,eV] at z;rw[<-z.1];exact hP.b g _ _ Q
  .rw[Ep O] at z;exact hP.b g' _ _ z
def F8(b:Nat)(G:List (List Int)):Au:=B4 b G.length (λi=>(true,.arr 2 1 ((G[i]?.getD []).map Af)))
def Uv(b N:Nat)(G:List (List Int))(h:b+G.length<=N):AH N (F8 b G)=true:=Qt5 _ _ _ _ λi z=>by simp[AH]
def Uw(b N:Nat)(G:List (List Int))(h:b+G.length<=N):Cz N (F8 b G)=true:=cU _ _ _ _ h
def mtR_P{π:List (Nat×Option Nat)}{b n k:Nat}(h: ∀i,i<k->pm π (b+i)=some (b+i)):Fu π (Ld b n k) (Ld b n k):=by
 rw[YI];refine⟨rfl,λi x y z Q=> ?_⟩;rw[z] at Q;obtain rfl:=A8 Q;have G:i<n:=by have:=(B9.1 z).1;rwa [Ku] at this
 rw[Qj7 _ _ _ _ G] at z;obtain rfl:=A8 z;split
 .rename_i O;simp only[DB,mt,h i O,Hw,EN]
 .simp only[DB,mt,EN]
def Qm(A:List Nat)(b n c m:Nat)(h:A.Nodup)(Z: ∀x∈A,(x<b\/b+n<=x)/\(x<c\/c+m<=x))(aa:b+n<=c):(A++((List.range n).map (b+ ·)++(List.range m).map (c+ ·))).Nodup:=by
 have Q: ∀b n,((List.range n).map (b+ ·)).Nodup:=λb n=>by have:=pM [] b n (by simp) (by simp);simpa using this
 rw[RD];refine⟨h,?_,λx O y z=> ?_⟩
 .rw[RD];refine⟨Q _ _,Q _ _,λx O y z=> ?_⟩;obtain⟨i,hi,rfl⟩:=BZ.1 O;obtain⟨j,G,rfl⟩:=BZ.1 z
  have:=CX.1 hi
  omega
 .have:=Z x O
  rcases B5.1 z with z|z
  .obtain⟨j,G,rfl⟩:=BZ.1 z
   have:=CX.1 G
   omega
  .obtain⟨j,G,rfl⟩:=BZ.1 z
   have:=CX.1 G
   omega
def Qyb(b:Nat)(G:List (List Int))(g:Nat)(h:g<G.length):hget (F8 b G) (b+g)=some (true,.arr 2 1 ((G[g]?.getD []).map Af)):=Kx _ _ _ _ h
def ZK(b k:Nat)(L:List Int)(m:Nat)(h:m<b\/b+k<=m):hget (Fk b L k) m=none:=Qmh _ _ _ _ h
def Qnb(k:Nat)(L:List Int)(G:List (List Int))(i:Nat)(h:i<k):hget (Fk 1000 L k++F8 3000 G) (1000+i)=some (Ie 1000 L i):=by
 rw[lB,Lb _ _ _ _ h];rfl
def Qne(k:Nat)(L:List Int)(G:List (List Int))(g:Nat)(z:k<=512)(h:g<G.length):hget (Fk 1000 L k++F8 3000 G) (3000+g)=some (true,.arr 2 1 ((G[g]?.getD []).map Af)):=by
 rw[lB,ZK _ _ _ _ (by omega),Qyb _ _ _ h];rfl
def UF(k:Nat)(L:List Int)(G:List (List Int)):Iz (Fk 1000 L k++F8 3000 G)=(List.range k).map (1000+ ·)++(List.range G.length).map (3000+ ·):=by
 rw[Qpf,Fk,F8,cY,cY]
def gI(k:Nat)(L:List Int)(i:Nat)(M:List (Int×Int))(G:List (List Int)):A9:=⟨[(81,.im (.int .i64 i)),(80,.im (.int .i64 k)),(79,.own 2),(12,.mp 2001),(11,.own 2100)],(2001,(true,.map {agg:=false,ks:=[KK.int .i64]} (M.map X2)))::(2100,(true,.arrA 37 1 (C3 3000 G.length)))::(2,(true,.arrA 287 1 (Ld 1000 k k)))::(Fk 1000 L k++F8 3000 G),4000⟩
def ZH{k:Nat}{L:List Int}{i:Nat}{M:List (Int×Int)}{G:List (List Int)}(O:k<=512)(z:G.length<=512):(gI k L i M G).good=true:=by
 simp only[gI,A9.good,AH,Cz,qE,Qmd,yR 1000 k 4000 _ (by omega),Qlg 1000 k k 4000 (by omega),Qnw 1000 k 4000 _ (by omega),Ry 3000 G.length 4000 (by omega),Uv 3000 4000 G (by omega),Uw 3000 4000 G (by omega)];simp[C4,AV.bel]
def Qxg{π:List (Nat×Option Nat)}{s:A9}{k:Nat}{L:List Int}{i:Nat}{M:List (Int×Int)}{G:List (List Int)}{O:Nat}{T:Nat->Nat}(hk:k<=512)(hG:G.length<=512)
 (ac:JL 2002 π)(p1:pm π 2001=some 2001)(p2:pm π 2=some 2)(p3: ∀j,j<k->pm π (1000+j)=some (1000+j))(p4:pm π 2100=some O)(p5: ∀q,q<G.length->pm π (3000+q)=some (T q))
 (t1:AC s.tm 81= .im (.int .i64 i))(t2:AC s.tm 80= .im (.int .i64 k))(t3:AC s.tm 79= .own 2)(t4:AC s.tm 12= .mp 2001)(t5:AC s.tm 11= .own O)
 (g1:hget s.h 2001=some (true,.map {agg:=false,ks:=[KK.int .i64]} (M.map X2)))(g2:hget s.h 2=some (true,.arrA 287 1 (Ld 1000 k k)))(g3: ∀j,j<k->hget s.h (1000+j)=some (Ie 1000 L j))
 (g4:(G.length=0/\hget s.h O=some (true,.arr 37 1 []))\/hget s.h O=some (true,.arrA 37 1 ((List.range G.length).map λq=>[.own (T q)])))
 (g5: ∀q,q<G.length->hget s.h (T q)=some (true,.arr 2 1 ((G[q]?.getD []).map Af)))
 (inj: ∀q q',q<G.length->q'<G.length->T q=T q'->q=q')(out: ∀q,q<G.length->T q≠O/\3000<=T q)(hO:2000<=O/\O≠2001):Ao 2002 π s (gI k L i M G):=by
 refine⟨ac,?_,?_,?_⟩
 .rw[kK];simp only[gI,Iz,UF];have ab: ∀x∈[2001,2100,2]++((List.range k).map (1000+ ·)++(List.range G.length).map (3000+ ·)),(x=2001/\pm π x=some 2001)\/(x=2/\pm π x=some 2)\/(x=2100/\pm π x=some O)\/(1000<=x/\x<1000+k/\pm π x=some x)\/(3000<=x/\x<3000+G.length/\pm π x=some (T (x - 3000))):=by
   intro x z;rcases B5.1 z with z|z
   .simp only[BO,Za,eW] at z;rcases z with rfl|rfl|rfl
    .exact .inl ⟨rfl,p1⟩
    .exact .inr (.inr (.inl ⟨rfl,p4⟩))
    .exact .inr (.inl ⟨rfl,p2⟩)
   .rcases B5.1 z with z|z
    .obtain⟨j,Q,rfl⟩:=BZ.1 z;have Q:=CX.1 Q;exact .inr (.inr (.inr (.inl ⟨by show 1000<=1000+j;omega,by show 1000+j<1000+k;omega,p3 j Q⟩)))
    .obtain⟨j,Q,rfl⟩:=BZ.1 z;have Q:=CX.1 Q;exact .inr (.inr (.inr (.inr ⟨by show 3000<=3000+j;omega,by show 3000+j<3000+G.length;omega,by show pm π (3000+j)=some (T (3000+j - 3000));rw[show 3000+j - 3000=j by omega];exact p5 j Q⟩)))
  refine kW _ _ (Qm [2001,2100,2] 1000 k 3000 G.length (by simp) (by simp;omega) (by omega)) ?_;intro x z y hy m Z aa;rcases ab x z with ⟨a1,a2⟩|⟨a1,a2⟩|⟨a1,a2⟩|⟨a0,a1,a2⟩|⟨a0,a1,a2⟩<;>rcases ab y hy with ⟨b1,b2⟩|⟨b1,b2⟩|⟨b1,b2⟩|⟨b0,b1,b2⟩|⟨b0,b1,b2⟩<;>
   rw[a2] at Z<;>rw[b2] at aa<;>have Z:=A8 Z<;>have aa:=A8 aa<;>first
   |omega
   |(have:=out (x - 3000) (by omega);omega)
   |(have:=out (y - 3000) (by omega);omega)
   |(have:=inj (x - 3000) (y - 3000) (by omega) (by omega) (Z.trans aa.symm);omega)
 .simp only[gI,Jw,t1,t2,t3,t4,t5,mt,p2,p1,p4,ET,Hw,EN]
 .simp only[gI,Gf,Qns,p1,p2,p4,Du,g1,g2];refine⟨⟨rfl,rfl⟩,?_,⟨rfl,rfl,rfl,mtR_P p3⟩,?_,?_⟩
  .rcases g4 with ⟨h0,h1⟩|h1
   .rw[h1,h0];exact⟨rfl,rfl,rfl,trivial⟩
   .rw[h1];exact⟨rfl,rfl,rfl,Qyn p5 rfl⟩
  .rw[Fk,jY];intro j Q;rw[p3 j Q,Du,g3 j Q];refine⟨rfl,?_⟩;simp only[Ie,Ft,DB,mt,EN,and_true,I7];simp only[Nj];split
   .simp only[mt,p3 _ (show (L[j]?.getD (-1)).toNat<k by omega),Hw]
   .rfl
  .rw[F8,jY];intro q hq;rw[p5 q hq,Du,g5 q hq];exact⟨rfl,rfl⟩
def Ux(a:Int×List Ag):Prop:=0<=a.1/\a.1<=512/\Mh a.1 a.2/\a.2.length<=1000000
def groupsBy_.fv(a:Int×(List Ag)):List (List Int):=(Xb) (a.1) (a.2)
def groupsBy_.row:AO:=vK (b2 qI (qS Ag.d_le Ag.c_n)) (rS Xe Sk) (λa=>Ux (a.1,a.2)) groupsBy_.fv
def groupsBy_.q:=B2 (R:=groupsBy_.row) rfl
def groupsBy_.ok:AS 221 groupsBy_.row:=by
 refine vw (tC firC.ok tN) Tryz.func221 ?_;intro a a8;simp only[Tryz.f221,Option.getD];simp(disch:=omega)only[ZZ,simprocAttr,Ab,groupsBy_.fv];obtain⟨h0,h1,aw,hl⟩:=a8;obtain⟨n,hn⟩: ∃n:Nat,a.1=n:=⟨a.1.toNat,by simp only at h0;omega⟩;obtain⟨bs,hbsd⟩: ∃bs,bs=a.2:=⟨_,rfl⟩;simp only[hn,<-hbsd,B1] at h0 h1 aw hl⊢;refine⟨h0,Gy _,by omega,λ_=> ?_⟩;rw[Mn];refine Bc.ren ⟨{k:Nat//k<=n},λk=>⟨[(21,.im (.int .i64 k.1)),(20,.im (.int .i64 n)),(19,.own 2),(5,.own 2),(0,.im (.int .i64 n)),(1,.im (.sl false 3 (bs.map Ag.c)))],(2,(true,.arrA 287 1 (Ld 1000 n k.1)))::Fk 1000 (List.replicate n (-1)) k.1,2000⟩,λk=>n - k.1,λk=>⟨?_,by simp⟩,⟨⟨0,by simp⟩,[(2,some 1)],?_⟩,λk=> ?_⟩
 .simp only[A9.good,AH,Cz,yR 1000 k.1 2000 _ (by omega),Qlg 1000 n k.1 2000 (by omega),Qnw 1000 k.1 2000 _ (by omega)];simp[C4,AV.bel]
 .simp only[Ao,Fk,B4,ZdY,BY];simp(disch:=omega)only[ZZ,simprocAttr,Ab,groupsBy_.fv,AU,AT];exact QC _ _ _
 obtain⟨k,bd⟩:=k;simp(disch:=omega)only[ZZ,simprocAttr,Ab,groupsBy_.fv,sub,AQ,D0,Ku];refine⟨λhk=>⟨hk,hk,?_⟩,λhk=> ?_⟩
 .simp(disch:=omega)only[ZZ,simprocAttr,Ab,groupsBy_.fv,sub,AQ,D0,Ku,Qtr,Zep,CY];refine⟨?_,⟨k+1,by omega⟩,[(1000+k,some 2000)],by simp only;omega,?_⟩
  .rw[HN];intro r hr;rcases Zc hr with hr|hr
   .exact HN.1 (Qlg 1000 n k 2001 (by omega)) r hr
   .subst hr;simp[AL,AV.bel]
  have qi: ∀i,i≠1000+k->pm [(1000+k,some 2000)] i=some i:=by intro i z;simp only[pm];rw[Ad (by omega)]
  have qk:pm [(1000+k,some 2000)] (1000+k)=some 2000:=by simp only[pm];rw[Ak trivial]
  obtain⟨π,hπ⟩: ∃π,π=[(1000+k,some 2000)]:=⟨_,rfl⟩;rw[<-hπ] at qi qk⊢;refine⟨by rw[hπ];exact⟨by omega,trivial⟩,?_,?_,?_⟩
  .rw[kK,hπ];simp only[Iz,Fk,cY];refine kW _ _ (pM [2] 1000 (k+1) (by simp) (by simp)) ?_;intro x hx y hy m aq ah;have bj:x<2000:=by
    rcases BO.1 hx with hx|hx
    .omega
    .obtain⟨i,z,rfl⟩:=BZ.1 hx
     have:=CX.1 z
     show 1000+i<2000;omega
   have bl:y<2000:=by
    rcases BO.1 hy with hy|hy
    .omega
    .obtain⟨i,z,rfl⟩:=BZ.1 hy
     have:=CX.1 z
     show 1000+i<2000;omega
   simp only[pm] at aq ah;split at aq<;>split at ah<;>simp only[AP] at aq ah<;>omega
  .simp only[Jw,AC];simp(disch:=omega)only[ZZ,simprocAttr,Ab,groupsBy_.fv,qi 2 (by omega)];rw[AF (by omega) (by omega)];omega
  .simp only[Gf,Fk,jY];refine⟨?_,λi z=> ?_⟩
   .simp(disch:=omega)only[ZZ,simprocAttr,Ab,groupsBy_.fv,qi 2 (by omega)];rw[YI];refine⟨by simp[Ku],λi x y hx hy=> ?_⟩;have ax:i<n:=by have:=(B9.1 hx).1;rwa [Ku] at this
    rw[Qj7 _ _ _ _ ax] at hx;obtain rfl:=A8 hx;by_cases ad:k=i
    .subst ad;rw[EE (by rw[Ku];exact hk)] at hy;obtain rfl:=A8 hy;rw[Ak (by omega)];simp only[DB,mt,qk,Hw,EN]
    .rw[Ep ad,Qj7 _ _ _ _ ax] at hy;obtain rfl:=A8 hy;by_cases az:i<k
     .rw[Ak (by omega),Ak az];simp only[DB,mt,qi (1000+i) (by omega),Hw,EN]
     .rw[Ad (by omega),Ad az];simp only[DB,mt,EN]
   .have hg: ∀i,i<n->(List.replicate n (-1:Int))[i]?.getD (-1)= -1:=by
     intro i z;rw[Pu,Ak z,AJ]
    have ay:Nj 1000 i (-1)= .im .nilp:=by simp only[Nj];rw[Ad (by omega)]
    simp only[Ie,hg i (by omega),ay];by_cases ad:i=k
    .subst ad;rw[qk];simp(disch:=omega)only[ZZ,simprocAttr,Ab,groupsBy_.fv]
    .rw[qi (1000+i) (by omega)];have h9:=Lb 1000 k (List.replicate n (-1)) i (by omega);simp only[Ie,hg i (by omega),ay,Fk] at h9;simp (disch:=omega) only[Du,hget,BF,Co,dB,lW,eS,SL,Dx,CY];rw[h9];simp only[Lz,Ft,DB,mt,EN]
 .intro _;have be:k=n:=by omega
  subst be;clear hk bd;refine Bc.old ⟨{s:Nat×List Int//s.1<=bs.length/\s.2.length=k/\Hk s.2/\ ∀i,i<k->(C6 k bs s.1)[i]? =some ((EV s.2 i:Nat):Int)},λs=>⟨[(33,.im (.int .i64 s.1.1)),(32,.im (.int .i64 bs.length)),(31,.im (.sl false 3 (bs.map Ag.c))),(5,.own 2),(0,.im (.int .i64 k))],(2,(true,.arrA 287 1 (Ld 1000 k k)))::Fk 1000 s.1.2 k,2000⟩,λs=>bs.length - s.1.1,λs=>⟨?_,by simp⟩,⟨⟨(0,List.replicate k (-1)),by simp only;omega,by simp,Qug k,λi z=>Qw z⟩,?_⟩,λs=> ?_⟩
  .simp only[A9.good,AH,Cz,yR 1000 k 2000 _ (by omega),Qlg 1000 k k 2000 (by omega),Qnw 1000 k 2000 _ (by omega)];simp[C4,AV.bel]
  .simp only[sub,Ho,AC];refine⟨?_,?_⟩
   .simp(disch:=omega)only[ZZ,simprocAttr,Ab,groupsBy_.fv]
   .simp only[De];refine⟨rfl,yW λi z=> ?_⟩;simp only[hget,BF _ _ (show 2≠1000+i by omega),Co];exact Lb _ _ _ _ z
  obtain⟨⟨j,L⟩,i1,i2,i3,i4⟩:=s;simp only at i1 i2 i3 i4;simp(disch:=omega)only[ZZ,simprocAttr,Ab,groupsBy_.fv,sub,AQ,D0,Ku];refine⟨λhj=>⟨hj,λb hb=> ?_⟩,λhj=> ?_⟩
  .obtain⟨b1,b2,b3,b4⟩:=aw b (Bd hb);obtain⟨u,hu⟩: ∃u:Nat,b.A=u:=⟨b.A.toNat,by omega⟩;obtain⟨w,hw⟩: ∃w:Nat,b.B=w:=⟨b.B.toNat,by omega⟩;have ai:u<k:=by omega
   have af:w<k:=by omega
   have bh:=Qnj i3 u;have bi:=Qnj i3 w;simp only[hu,hw,B1];refine⟨by omega,by omega,ai,?_⟩;simp(disch:=omega)only[ZZ,simprocAttr,Ab,groupsBy_.fv,sub,AQ,D0,Ku,Qtr,Ak ai,Ak af,hu,hw,B1,Xy];have hH: ∀(e Z:Aq) (i:Nat),i<k->hget ((2000,e)::(2,Z)::Cg (Fk 1000 L k) [2000]) (1000+i)=some (Ie 1000 L i):=by
    intro e Z i z;have h9:=Lb 1000 k L i z;simp (disch:=omega) only[hget,BF,Co,dB,lW,eS,SL,Dx,CY,h9]
   refine⟨by omega,Qtp (nx:=2001) i2 (by omega) i3 ai (by decide) (hH _ _) (λU=> ?_)⟩;simp(disch:=omega)only[ZZ,simprocAttr,Ab,groupsBy_.fv,sub,AQ,D0,Ku,Qtr,Ak ai,Ak af,hu,hw,B1,kQ,Xy];refine⟨by omega,af,af,by omega,Ak (.inl (by omega)),Qtp (nx:=2001) i2 (by omega) i3 af (by decide) (hH _ _) (λU2=> ?_)⟩;obtain⟨x,hx⟩: ∃x,x=EV L u:=⟨_,rfl⟩;obtain⟨y,hy⟩: ∃y,y=EV L w:=⟨_,rfl⟩;rw[<-hx] at bh⊢;rw[<-hy] at bi⊢;have gx:=Lb 1000 k L x (by omega);have gy:=Lb 1000 k L y (by omega);simp only[Ie] at gx gy;simp(disch:=omega)only[ZZ,simprocAttr,Ab,groupsBy_.fv,sub,AQ,D0,Ku,kQ,Xy,Ph,BF,Pd,gx,gy,Mr (show 1000+x<2001 by omega),Mr (show 1000+y<2001 by omega),Bt];have ba:EV L x=x:=by rw[hx];exact Qls i3 u
   have bb:EV L y=y:=by rw[hy];exact Qls i3 w
   have ou:=i4 u ai;have ow:=i4 w af;rw[<-hx] at ou;rw[<-hy] at ow;have hS:C6 k bs (j+1)=(C6 k bs j).map (Kz (x:Int) (y:Int)):=by
    simp only[C6,hb,yU,hu,hw,B1,ou,ow,AJ]
   have ac: ∀(p q:Nat),p<q->q<k-> ∀(i:Nat),i<k->Ie 1000 (L.set q (p:Int)) i=if i=q then (true,.cells 289 [.ptr (1000+p) 0,.im (.int .i64 q)]) else Ie 1000 L i:=by
    intro p q a0 hq i z;simp only[Ie];by_cases h:i=q
    .subst h;rw[Ak rfl,EE (by omega),AJ];simp only[Nj];rw[Ak ⟨by omega,by omega⟩,B1]
    .rw[Ad h,Ep (Fi h)]
   have ag: ∀(p q:Nat),p<q->q<k-> ∀(e Z:Aq) (tm:List (Nat×AV)),De ⟨tm,(1000+q,(true,.cells 289 [.ptr (1000+p) 0,.im (.int .i64 q)]))::(2000,e)::(2,Z)::Cg (Cg (Fk 1000 L k) [2000]) [1000+q],2001⟩ (Fk 1000 (L.set q (p:Int)) k):=by
    intro p q a0 hq e Z tm;refine yW λi z=> ?_
    rw[ac p q a0 hq i z];by_cases h:i=q
    .subst h;simp only[hget,ZeW,CJ,Bt]
    .rw[Ad h];have h9:=Lb 1000 k L i z;simp (disch:=omega) only[hget,BF,Co,Pd,h9]
   refine⟨λaj=>⟨⟨(j+1,L.set y (x:Int)),by simp only;omega,by simp only[I4];exact i2,Qsx i3 aj,λi z=> ?_⟩,by simp only;omega,by rw[AF (by omega) (by omega)];simp only;omega,ag x y aj (by omega) _ _ _⟩,λaj=>⟨λak=>⟨⟨(j+1,L.set x (y:Int)),by simp only;omega,by simp only[I4];exact i2,Qsx i3 ak,λi z=> ?_⟩,by simp only;omega,by rw[AF (by omega) (by omega)];simp only;omega,ag y x ak (by omega) _ _ _⟩,λak=>⟨⟨(j+1,L),by simp only;omega,i2,i3,λi z=> ?_⟩,by simp only;omega,by rw[AF (by omega) (by omega)];simp only;omega,?_⟩⟩⟩
   .rw[hS,DX,i4 i z,CR,Qqx i3 ba bb aj (by omega) i,(Nc aj _).1]
   .rw[hS,DX,i4 i z,CR,Qqx i3 bb ba ak (by omega) i,(Nc ak _).2]
   .rw[hS,DX,i4 i z,CR,show y=x by omega,ZV]
   .refine yW λi z=> ?_
    have h9:=Lb 1000 k L i z;simp (disch:=omega) only[hget,BF,Co,Pd,h9]
  .have bc:j=bs.length:=by omega
   subst bc;obtain⟨own,hown⟩: ∃own,own=C6 k bs bs.length:=⟨_,rfl⟩;rw[<-hown] at i4;intro _;refine Bc.ren ⟨{s:Nat×List (Int×Int)//s.1<=k/\zJ (BM own s.1 s.1) s.2},λs=>gI k L s.1.1 s.1.2 (BM own s.1.1 s.1.1),λs=>k - s.1.1,λs=>⟨?_,by simp[gI]⟩,⟨⟨(0,[]),by simp only;omega,?_⟩,[(2100,some 2000)],?_⟩,λs=> ?_⟩
   .have ab:=xU own s.1.1 s.1.1;have hs:=s.2.1;exact ZH (by omega) (by omega)
   .exact⟨λr v h=>(by cases h),λg r am h=>(by simp[BM] at h)⟩
   .refine Qxg (O:=2000) (T:=λq=>3000+q) (by omega) (by simp[BM]) ⟨by omega,trivial⟩ rfl rfl (λj hj=> ?_) rfl (λq hq=>(by simp[BM] at hq)) rfl rfl rfl rfl rfl rfl rfl (λj hj=> ?_) (.inl ⟨rfl,rfl⟩) (λq hq=>(by simp[BM] at hq)) (λq q' hq=>(by simp[BM] at hq)) (λq hq=>(by simp[BM] at hq)) (by omega)
    .simp only[pm];rw[Ad (by omega)]
    .have h9:=Lb 1000 k L j hj;simp (disch:=omega) only[hget,BF,Co,h9]
   obtain⟨⟨i,M⟩,q1,q2⟩:=s;simp only at q1 q2;simp only[gI];have an:=xU own i i;simp(disch:=omega)only[ZZ,simprocAttr,Ab,groupsBy_.fv,sub,AQ,D0,Ku];refine⟨λz=>⟨z,z,?_⟩,λz=> ?_⟩
   .simp(disch:=omega)only[ZZ,simprocAttr,Ab,groupsBy_.fv,sub,AQ,D0,Ku,Qtr,Ak z];have hH: ∀(e1 Z e3:Aq) (j:Nat),j<k->hget ((2001,e1)::(2100,Z)::(2,e3)::(Fk 1000 L k++F8 3000 (BM own i i))) (1000+j)=some (Ie 1000 L j):=by
     intro e1 Z e3 j hj;have h9:=Qnb k L (BM own i i) j hj;simp (disch:=omega) only[hget,BF,Co,h9]
    have ho:=i4 i z;obtain⟨r,hr⟩: ∃r,r=EV L i:=⟨_,rfl⟩;have bf:r<=i:=by rw[hr];exact Qnj i3 i
    have bg:own[r]? =some (r:Int):=by
     have:=i4 r (by omega)
     rwa [hr,Qls i3 i,<-hr] at this
    rw[<-hr] at ho;have gr:=Qnb k L (BM own i i) r (by omega);simp only[Ie] at gr;refine⟨by omega,by omega,by omega,Qtp (nx:=4000) i2 (by omega) i3 z (by omega) (hH _ _ _) (λU=> ?_)⟩;rw[<-hr];simp(disch:=omega)only[ZZ,simprocAttr,Ab,groupsBy_.fv,sub,AQ,Ph,D0,Ku,Ga,BF,gr,aD,Mr (show 1000+r<4000 by omega),Bt];refine⟨λv hv=> ?_,λhn=> ?_⟩
    .obtain⟨g,am,rfl,hg⟩:=q2.a _ v hv;have ab:=(B9.1 hg).1;have an:=xU own i i;have gg:=Qne k L (BM own i i) g (by omega) ab;rw[hg,AJ] at gg;simp(disch:=omega)only[ZZ,simprocAttr,Ab,groupsBy_.fv,sub,AQ,Ph,D0,Ku,Ga,BF,gg,B1,Qxa];obtain⟨e1,Z⟩:=Uz q2 ho hg;obtain⟨G,hG⟩: ∃G,G=BM own i i:=⟨_,rfl⟩;rw[<-hG] at hg ab an e1 gg⊢;have ac:(C3 3000 G.length).set g [AV.own 4001]=(List.range G.length).map λq=>[AV.own (if q=g then 4001 else 3000+q)]:=by
      apply Ja;intro j;rw[DX];by_cases hj:j<G.length
      .rw[Lm hj];by_cases h:g=j
       .subst h;rw[EE (by rw[Ga];exact ab)];simp
       .rw[Ep h,yX _ _ _ hj,CR,Ad (Fi h)]
      .rw[Hy (by simp[Ga];omega),Hy (by simp;omega)];rfl
     refine⟨ab,ab,by omega,?_,by omega,?_,ab,ab,?_,⟨(i+1,M),by simp only;omega,Z⟩,[(3000+g,some 4001)],by simp only;omega,?_⟩
     .intro row Q;obtain rfl:=BN.1 Q;rfl
     .have h6:(r::am:List Int).length<=1000:=DO (by rw[hG] at hg;exact Qy0 own i i _ (Bd hg)) (by omega);simp only[Dp] at h6;omega
     .rw[HN];intro row Q;rcases Zc Q with hr|hr
      .exact HN.1 (Ry 3000 G.length 4002 (by omega)) row hr
      .subst hr;simp[AL,AV.bel]
     have pn: ∀m,m≠3000+g->pm [(3000+g,some 4001)] m=some m:=by intro m hm;simp only[pm];rw[Ad (Fi hm)]
     simp only[e1];rw[AF (by omega) (by omega)];have hh: ∀(e1 Z e3 e4 e5:Aq) (m:Nat),hget ((2100,e1)::(4001,Z)::(4000,e3)::(2001,e4)::(2,e5)::Cg (Cg (Fk 1000 L k++F8 3000 G) [3000+g]) [2100]) m=if m=2100 then some e1 else if m=4001 then some Z else if m=4000 then some e3 else if m=2001 then some e4 else if m=2 then some e5 else if m=3000+g then none else hget (Fk 1000 L k++F8 3000 G) m:=by
      intro e1 Z e3 e4 e5 m;simp only[hget,dB,lW,eS,SL,SQ,ZeU];by_cases h1:m=2100
      .subst h1;simp
      by_cases h2:m=4001
      .subst h2;simp
      by_cases h3:m=4000
      .subst h3;simp
      by_cases h4:m=2001
      .subst h4;simp
      by_cases h5:m=2
      .subst h5;simp
      simp only[Ad h1,Ad h2,Ad h3,Ad h4,Ad h5,Ad (Fi h1),Ad (Fi h2),Ad (Fi h3),Ad (Fi h4),Ad (Fi h5)]
     refine Qxg (O:=2100) (T:=λq=>if q=g then 4001 else 3000+q) (by omega) (by rw[I4];omega) ⟨by omega,trivial⟩ (pn _ (by omega)) (pn _ (by omega)) (λj hj=>pn _ (by omega)) (pn _ (by omega)) (λq hq=> ?_) rfl rfl rfl rfl rfl ?_ ?_ (λj hj=> ?_) (.inr ?_) (λq hq=> ?_) (λq q' hq=> ?_) (λq hq=> ?_) (by omega)
     .by_cases h:q=g
      .subst h;simp[pm]
      .rw[pn _ (by omega),Ad h]
     .rw[hh];rfl
     .rw[hh];rfl
     .rw[hh,Ad (by omega),Ad (by omega),Ad (by omega),Ad (by omega),Ad (by omega),Ad (by omega)];exact Qnb _ _ _ _ hj
     .rw[hh,Ak rfl,ac,I4]
     .rw[I4] at hq;rw[hh];by_cases h:q=g
      .subst h;rw[Ak rfl,Ad (by omega),Ak rfl,EE ab,AJ];simp[Af]
      .rw[Ad h,Ad (by omega),Ad (by omega),Ad (by omega),Ad (by omega),Ad (by omega),Ad (by omega),Ep (Fi h)];exact Qne _ _ _ _ (by omega) hq
     .rw[I4] at hq;intro au he;rw[I4] at au;by_cases h:q=g<;>by_cases h2:q'=g<;>simp only[h,h2,Bt,CY] at he⊢ <;>omega
     .rw[I4] at hq;by_cases h:q=g<;>simp only[h,Bt,CY]<;>omega
    .obtain⟨a9,e1,Z⟩:=Uy q2 ho bf bg hn;have Q:(C3 3000 (BM own i i).length++[[AV.im (D.sl true 0 [])]])[(BM own i i).length]? =some [AV.im (D.sl true 0 [])]:=by
      rw[Fe (by rw[Ga];exact AW _),Ga,I6];rfl
     have av: ∀N,4000<=N->(C3 3000 (BM own i i).length++[[AV.im (D.sl true 0 [])]]).all (AL N)=true:=by
      intro N hN;rw[Mp,Ry _ _ _ (by omega)];rfl
     intro _;refine⟨?_,by omega,av _ (by omega),by simp[Ga],by simp[Ga],dL Q ?_⟩
     .intro row Q;obtain rfl:=BN.1 Q;rfl
     have ac:(C3 3000 (BM own i i).length++[[AV.im (D.sl true 0 [])]]).set (BM own i i).length [AV.own 4003]=C3 3000 (BM own i i).length++[[AV.own 4003]]:=by
      have: ∀(l:List (List AV)) n x y,l.length=n->(l++[x]).set n y=l++[y]:=by
       intro l n x y h;subst h;rw[Zei _ _ (AW _),I6];rfl
      exact this _ _ _ _ (Ga _ _)
     have ao: ∀N,4003<N->(C3 3000 (BM own i i).length++[[AV.own 4003]]).all (AL N)=true:=by
      intro N hN;rw[Mp,Ry _ _ _ (by omega)];simp[AL,AV.bel];omega
     simp(disch:=omega)only[ZZ,simprocAttr,Ab,groupsBy_.fv,sub,AQ,Ph,D0,Ku,Ga,BF];refine⟨?_,by simp[Ga],by simp[Ga],dL Q ?_⟩
     .intro row Q;obtain rfl:=BN.1 Q;rfl
     simp(disch:=omega)only[ZZ,simprocAttr,Ab,groupsBy_.fv,sub,AQ,Ph,D0,Ku,Ga,BF,ac];refine⟨ao _ (by omega),⟨(i+1,M++[((i:Int),((BM own i i).length:Int))]),by simp only;omega,by simp only;exact Z⟩,[(2100,some 4001),(3000+(BM own i i).length,some 4003)],by simp only;omega,?_⟩;simp only[e1];obtain⟨G,hG⟩: ∃G,G=BM own i i:=⟨_,rfl⟩;simp only[<-hG] at an⊢;rw[AF (by omega) (by omega)];have pn: ∀m,m≠2100->m≠3000+G.length->pm [(2100,some 4001),(3000+G.length,some 4003)] m=some m:=by intro m hm ah;simp only[pm];rw[Ad (Fi hm),Ad (Fi ah)]
     have hh: ∀(e1 Z e3 e4 e5 e6:Aq) (m:Nat),hget ((4001,e1)::(4003,Z)::(4002,e3)::(4000,e4)::(2001,e5)::(2,e6)::Cg (Cg (Cg (Fk 1000 L k++F8 3000 G) [2001]) [2100]) [4001]) m=if m=4001 then some e1 else if m=4003 then some Z else if m=4002 then some e3 else if m=4000 then some e4 else if m=2001 then some e5 else if m=2 then some e6 else if m=2100 then none else hget (Fk 1000 L k++F8 3000 G) m:=by
      intro e1 Z e3 e4 e5 e6 m;simp only[hget,dB,lW,eS,SL,SQ,ZeU];by_cases h1:m=4001
      .subst h1;simp
      by_cases h2:m=4003
      .subst h2;simp
      by_cases h3:m=4002
      .subst h3;simp
      by_cases h4:m=4000
      .subst h4;simp
      by_cases h5:m=2001
      .subst h5;simp
      by_cases h6:m=2
      .subst h6;simp
      simp only[Ad h1,Ad h2,Ad h3,Ad h4,Ad h5,Ad h6,Ad (Fi h1),Ad (Fi h2),Ad (Fi h3),Ad (Fi h4),Ad (Fi h5),Ad (Fi h6)]
     have aa:(G++[[(i:Int)]]).length=G.length+1:=by simp
     refine Qxg (O:=4001) (T:=λq=>if q<G.length then 3000+q else 4003) (by omega) (by rw[aa];omega) ⟨by omega,by omega,trivial⟩ (pn _ (by omega) (by omega)) (pn _ (by omega) (by omega)) (λj hj=>pn _ (by omega) (by omega)) (by simp[pm]) (λq hq=> ?_) rfl rfl rfl rfl rfl ?_ ?_ (λj hj=> ?_) (.inr ?_) (λq hq=> ?_) (λq q' hq=> ?_) (λq hq=> ?_) (by omega)
     .rw[aa] at hq;by_cases h:q<G.length
      .rw[pn _ (by omega) (by omega),Ak h]
      .obtain rfl:q=G.length:=by omega
       rw[Ad h];simp only[pm];rw[Ad (by omega),Ak trivial]
     .rw[hh,<-a9,<-O0 _ _ _ hn];rfl
     .rw[hh];rfl
     .rw[hh,Ad (by omega),Ad (by omega),Ad (by omega),Ad (by omega),Ad (by omega),Ad (by omega),Ad (by omega)];exact Qnb _ _ _ _ hj
     .rw[hh,Ak rfl,Ql0,aa]
     .rw[aa] at hq;rw[hh];by_cases h:q<G.length
      .rw[Ak h,Ad (by omega),Ad (by omega),Ad (by omega),Ad (by omega),Ad (by omega),Ad (by omega),Ad (by omega),Eh h];exact Qne _ _ _ _ (by omega) h
      .obtain rfl:q=G.length:=by omega
       rw[Ad h,Ad (by omega),Ak rfl,Fe (AW _),I6];rfl
     .rw[aa] at hq;intro au he;rw[aa] at au;by_cases h:q<G.length<;>by_cases h2:q'<G.length<;>simp only[h,h2,Bt,CY] at he⊢ <;>omega
     .by_cases h:q<G.length<;>simp only[h,Bt,CY]<;>omega
   .have ad:i=k:=by omega
    subst ad;rw[Xb,B1,<-hown];rw[PJ (m:=7) (G:=BM own i i)]
    .simp(disch:=omega)only[ZZ,simprocAttr,Ab,groupsBy_.fv]
    .intro q hq;have h9:=Qne i L (BM own i i) q (by omega) hq;simp (disch:=omega) only[hget,BF,Co,h9]
def HE(nm:List Int):List Ag->List Ag
 |[]=>[]
 |b::r=>if Ch nm b.A=Ch nm b.B then HE nm r else ⟨Ch nm b.A,Ch nm b.B,b.Strength⟩::HE nm r
def Qvj(nm:List Int): ∀(a b:List Ag),HE nm (a++b)=HE nm a++HE nm b
 |[],b=>rfl
 |x::r,b=>by simp only[CP,HE,Qvj nm r b];split<;>rfl
def Qpl(nm:List Int): ∀(a:List Ag),(HE nm a).length<=a.length
 |[]=>AW _
 |x::r=>by have:=Qpl nm r;simp only[HE];split<;>simp only[Dp]<;>omega
def Qab6(nm:List Int){bs:List Ag}{k:Nat}{b:Ag}(h:bs[k]? =some b):HE nm (bs.take (k+1))=HE nm (bs.take k)++if Ch nm b.A=Ch nm b.B then [] else [⟨Ch nm b.A,Ch nm b.B,b.Strength⟩]:=by
 rw[K6,h];simp only[Zea,Qvj,HE]
def DP(n:Int)(bs:List Ag)(t:Int):Int×List Ag:=((Pe n bs t).length,HE (SB n.toNat (Pe n bs t)) bs)
def dlC.H0_dom(a:List Ag×Int)(j:Nat):Av (dlC.H0 a) j=true↔j<1:=by
 simp only[Av,dlC.H0,hget];by_cases h0:j=0
 .subst h0;simp
 .have z:(0==j)=false:=by simp;omega
  simp[z];omega
def contr.fv(a:Int×(List Ag)×Int):Int×(List Ag):=(DP) (a.1) (a.2.1) (a.2.2)
def contr.row:AO:=vK (b3 qI (qS Ag.d_le Ag.c_n) qI) (r2 rI (rS Ag.d_le Ag.c_n)) (λa=>0<=a.1/\a.1<=512/\Mh a.1 a.2.1/\a.2.1.length<=1000000) contr.fv
def contr.q:=B2 (R:=contr.row) rfl
def Ps:=J @contr.fv.eq_1 (J @groupsBy_.q @groupsBy_.fv.eq_1)
def contr.ok:AS 202 contr.row:=by
 refine vw (tC clobC.ok (tC dlC.ok (tC groupsBy_.ok tN))) Tryz.func202 ?_;intro a ac;simp only[Tryz.f202,Option.getD];simp only[ZZ,simprocAttr,Ab,Ps];obtain⟨h0,h1,O,G⟩:=ac;obtain⟨n,hn⟩: ∃n:Nat,a.1=n:=⟨a.1.toNat,by omega⟩;obtain⟨bs,hbsd⟩: ∃bs,bs=a.2.1:=⟨_,rfl⟩;obtain⟨t,ht⟩: ∃t,t=a.2.2:=⟨_,rfl⟩;simp only[hn,<-hbsd,<-ht] at h0 h1 O G⊢;refine AM.os bs [] G (λj=>by simp[Av,hget]) rfl rfl ?_ ?_
 .simp only[ZZ,simprocAttr,Ab,Ps,clobC.ca,EJ]
 simp only[ZZ,simprocAttr,Ab,Ps,clobC.H1,sub];left;refine AM.os (bs,t) [2] G (λj=>dlC.H0_dom _ j) rfl rfl ?_ ?_
 .simp only[ZZ,simprocAttr,Ab,Ps,dlC.ca,dlC.H0,Bt,Cl]
 simp only[ZZ,simprocAttr,Ab,Ps,dlC.H1,sub];have Q:Ux ((n:Int),Hu t bs):=⟨by simp only;omega,by simp only;omega,λb hb=>O b (SP.1 hb).1,by have:=Qln t bs;simp only;omega⟩;refine⟨Q,by omega,?_⟩;obtain⟨z,hgs⟩: ∃z,z=Xb (n:Int) (Hu t bs):=⟨_,rfl⟩;have ag: ∀r∈z,∀v∈r,0<=v/\v<n:=by rw[hgs];exact Qps n _
 simp only[<-hgs];intro an;refine Bc.old ⟨{i:Nat//i<=z.length},λi=>⟨[(27,.im (.int .i64 i.1)),(26,.im (.int .i64 z.length)),(25,.im (.sl false 1 (z.map C9))),(9,.own 1022),(8,.im (.sl false 1 (z.map C9))),(1,.im (.sl false 3 (bs.map Ag.c)))],[(1022,(true,.arr 2 1 ((Lh z (List.replicate n 0) i.1).map Af)))],1023⟩,λi=>z.length - i.1,λi=>⟨by simp[ZG],by simp⟩,⟨⟨0,by simp⟩,?_⟩,λi=> ?_⟩
 .simp only[ZZ,simprocAttr,Ab,Ps,sub,Lh,zF]
 obtain⟨i,ao⟩:=i;simp only[ZZ,simprocAttr,Ab,Ps,sub,AQ];refine⟨λhi=>⟨hi,λr hr=> ?_⟩,λhi=> ?_⟩
 .have aj:=ag r (Bd hr);obtain⟨l,hl⟩: ∃l,l=Lh z (List.replicate n 0) i:=⟨_,rfl⟩;have aq:l.length=n:=by rw[hl,xX,Mn]
  simp only[<-hl];intro au;refine Bc.old ⟨{k:Nat//k<=r.length},λk=>⟨[(34,.im (.int .i64 k.1)),(33,.im (.int .i64 r.length)),(32,.im (.sl false 1 (r.map Af))),(10,.im (.int .i64 i)),(27,.im (.int .i64 i)),(26,.im (.int .i64 z.length)),(25,.im (.sl false 1 (z.map C9))),(9,.own 1022),(8,.im (.sl false 1 (z.map C9))),(1,.im (.sl false 3 (bs.map Ag.c)))],[(1022,(true,.arr 2 1 ((R4 i r l k.1).map Af)))],1023⟩,λk=>r.length - k.1,λk=>⟨by simp[ZG],by simp⟩,⟨⟨0,by simp⟩,?_⟩,λk=> ?_⟩
  .simp only[ZZ,simprocAttr,Ab,Ps,sub,R4]
  obtain⟨k,ai⟩:=k;have ab:=Qkb (i:Int) r l k;simp only[ZZ,simprocAttr,Ab,Ps,sub,AQ,hr,ab,cV];refine⟨λhk=>⟨hk,λv hv=> ?_⟩,λhk=> ?_⟩
  .obtain⟨v1,v2⟩:=aj v (Bd hv);refine⟨v1,by omega,by omega,λ_ _=>⟨⟨k+1,by omega⟩,by simp only;omega,by rw[AF (by omega) (by omega)];simp only;omega,?_⟩⟩;simp only[R4,hv,AJ]
  .have:k=r.length:=by omega
   refine⟨⟨i+1,by omega⟩,by simp only;omega,by rw[AF (by omega) (by omega)];simp only;omega,?_⟩;simp only[Lh,hr,AJ,<-hl,this]
 .have ah:i=z.length:=by omega
  subst ah;obtain⟨nm,hnm⟩: ∃nm,nm=Lh z (List.replicate n 0) z.length:=⟨_,rfl⟩;have ab:nm.length=n:=by rw[hnm,xX,Mn]
  simp only[<-hnm];intro am;refine Bc.ren ⟨{k:Nat//k<=bs.length},λk=>⟨[(46,.im (.int .i64 k.1)),(45,.im (.int .i64 bs.length)),(44,.im (.sl false 3 (bs.map Ag.c))),(14,.own 1024),(9,.own 1022),(8,.im (.sl false 1 (z.map C9)))],[(1024,(true,.arr 215 3 ((HE nm (bs.take k.1)).map Ag.c))),(1022,(true,.arr 2 1 (nm.map Af)))],1025⟩,λk=>bs.length - k.1,λk=>⟨by simp[ZG],by simp⟩,⟨⟨0,by simp⟩,[(1024,some 1023)],?_⟩,λk=> ?_⟩
  .simp only[Ao];simp only[ZZ,simprocAttr,Ab,Ps,AU,AT];rfl
  obtain⟨k,ai⟩:=k;have ak:=Qpl nm (bs.take k);rw[Cp] at ak;simp only[ZZ,simprocAttr,Ab,Ps,sub,AQ,OO,OI,OL,B8,D.one,Er,EN,I7];refine⟨λhk=>⟨hk,λb hb=> ?_⟩,λhk=> ?_⟩
  .obtain⟨b1,b2,b3,b4⟩:=O b (Bd hb);refine⟨b1,by omega,by omega,λx hx=>⟨b3,by omega,by omega,λy hy=> ?_⟩⟩;have e1:Ch nm b.A=x:=by simp only[Ch,hx,AJ]
   have e2:Ch nm b.B=y:=by simp only[Ch,hy,AJ]
   have Z:=Qab6 nm hb;rw[e1,e2] at Z;refine⟨λaa=>⟨b1,by omega,by omega,λx' ad=>⟨b3,by omega,by omega,λy' af=>⟨by omega,⟨k+1,by omega⟩,[(1024,some 1027)],by simp only;omega,?_⟩⟩⟩,λaa=>⟨⟨k+1,by omega⟩,[],by simp only;omega,?_⟩⟩
   .rw[hx] at ad;rw[hy] at af;obtain rfl:=A8 ad;obtain rfl:=A8 af;simp only[Ao];simp only[ZZ,simprocAttr,Ab,Ps,AU,AT,Z];rw[AF (by omega) (by omega),Ad aa];simp[Ag.c]
   .simp only[Ao];simp only[ZZ,simprocAttr,Ab,Ps,AU,AT,Z];rw[AF (by omega) (by omega),Ak (I3.1 aa),CQ];simp
  .have:k=bs.length:=by omega
   subst this;rw[EW];intro _;simp only[DP,Pe,SB,B1,<-hgs,<-hnm]
end Go.Ae
