/- Lemmas. Conditions: none. -/
import Derived.Test.YtpgdfagfkjbokaaGreatDoorP14
import Derived.Lib.ItoaLen
set_option linter.all false
set_option maxHeartbeats 8000000
set_option maxRecDepth 100000
namespace Go.Ae
open Go.Proofs Go.Lib
def Wy{s:UInt8}: ∀{a b r q:List UInt8},(∀c∈a,c≠s)->(∀c∈b,c≠s)->a++s::r=b++s::q->a=b/\r=q
 |[],[],r,q,_,_,h=>by simpa using h
 |[],y::b,r,q,_,O,h=>by
  simp only[Fq,CO,VG] at h;exact absurd h.1.symm (O y (BM ..))
 |x::a,[],r,q,z,_,h=>by
  simp only[Fq,CO,VG] at h;exact absurd h.1 (z x (BM ..))
 |x::a,y::b,r,q,z,O,h=>by
  simp only[CO,VG] at h;obtain⟨Z,h2⟩:=Wy (λc Q=>z c (BP _ Q)) (λc Q=>O c (BP _ Q)) h.2;exact⟨by rw[h.1,Z],h2⟩
def Zr(l:List UInt8):Nat:=l.foldl (λa c=>10*a+(c.toNat - 48)) 0
def sD{d:Nat}(h:d<10):(UInt8.ofNat (48+d)).toNat=48+d:=by
 rcases (by omega:d=0\/d=1\/d=2\/d=3\/d=4\/d=5\/d=6\/d=7\/d=8\/d=9) with rfl|rfl|rfl|rfl|rfl|rfl|rfl|rfl|rfl|rfl<;>rfl
def NO: ∀(n u:Nat),u<=n->Zr (decDigits u)=u/\(∀c∈decDigits u,48<=c.toNat/\c.toNat<=57)/\decDigits u≠[]
 |0,u,h=>by
  obtain rfl:u=0:=by omega
  rw[decDigits,dif_pos (by omega)];refine⟨by decide,λc z=> ?_,by simp⟩;rw[Bz] at z;subst z;decide
 |n+1,u,h=>by
  rw[decDigits];split
  .rename_i O
   have:=sD O
   refine⟨by simp only[Zr,Xj,nM,this];omega,λc z=> ?_,by simp⟩;rw[Bz] at z;subst z;omega
  .rename_i O;obtain⟨Q,Z,h3⟩:=NO n (u/10) (by omega)
   have:=sD (d:=u % 10) (by omega)
   refine⟨?_,λc z=> ?_,by simp⟩
   .simp only[Zr] at Q;simp only[Zr,ZeQ,Xj,nM,Q,this];omega
   .rcases Bn.1 z with z|z
    .exact Z c z
    .rw[Bz] at z;subst z;omega
def LH{u v:Nat}(h:decDigits u=decDigits v):u=v:=by
 have z:=(NO u u (AL _)).1;have O:=(NO v v (AL _)).1;rw[h] at z;omega
def dZ{m n:Int}(h:itoa m=itoa n):m=n:=by
 unfold itoa at h;have hd: ∀u,decDigits u=45::decDigits u->False:=λu O=>by
  have:=BV List.length O
  simp at this
 have z: ∀u v,¬(45::decDigits u=decDigits v):=λu v e=>by
  have:=(NO v v (AL _)).2.1 45 (by rw[<-e];exact BM ..)
  exact absurd this.1 (by decide)
 split at h<;>split at h
 .have:=LH (Zfw h).2
  omega
 .exact absurd h (z _ _)
 .exact absurd h.symm (z _ _)
 .have:=LH h
  omega
def NQ(n:Int){s:UInt8}(hs:s.toNat=44\/s.toNat=58\/s.toNat=59): ∀c∈itoa n,c≠s:=by
 intro c z e;subst e;unfold itoa at z;split at z
 .rcases Bh.1 z with rfl|z
  .rcases hs with h|h|h<;>exact absurd h (by decide)
  .have:=(NO _ _ (AL _)).2.1 c z
   omega
 .have:=(NO _ _ (AL _)).2.1 c z
  omega
def W4{n:Int}(h0: -9223372036854775808<=n)(z:n<=9223372036854775807):(itoa n).length<=21:=itoa_length_le n h0 z
def J4(x:Aj):List UInt8:=itoa x.At.X++44::(itoa x.At.Y++58::(itoa x.Tile++[59]))
def DK(l:List Aj):List UInt8:=l.flatMap J4
def Jh(a:Ad):ByteArray:=⟨(DK a.Tiles).toArray⟩
def sI: ∀{l m:List Aj},DK l=DK m->l=m
 |[],[],_=>rfl
 |[],y::m,h=>by
  simp only[DK,nQ,F3,J4] at h
  have:=BV List.length h
  simp at this
 |x::l,[],h=>by
  simp only[DK,nQ,F3,J4] at h
  have:=BV List.length h
  simp at this
 |x::l,y::m,h=>by
  simp only[DK,F3,J4,EK,CO] at h;obtain⟨z,h2⟩:=Wy (NQ _ (.inl rfl)) (NQ _ (.inl rfl)) h;obtain⟨O,h4⟩:=Wy (NQ _ (.inr (.inl rfl))) (NQ _ (.inr (.inl rfl))) h2;obtain⟨Q,Z⟩:=Wy (NQ _ (.inr (.inr rfl))) (NQ _ (.inr (.inr rfl))) h4;simp only[Fq] at Z;have ih:=sI (l:=l) (m:=m) Z
  cases x with|mk p t=>cases y with|mk q u=>cases p;cases q
                                            simp only at z O Q;rw[dZ z,dZ O,dZ Q,ih]
def SJ{a b:Ad}(h:Jh a=Jh b):a=b:=by
 have Q:=BV ByteArray.data h;have z:=BV Array.toList Q;simp only[Jh] at z;have O:=sI z;cases a;cases b;simp only at O;rw[O]
end Go.Ae
namespace Go.Ae
open Go.Proofs
def wsC.ca(a:(Bool×List UInt8)×ByteArray):List AV:=[.ptr 0 0,.im (.str a.2)]
def wsC.H0(a:(Bool×List UInt8)×ByteArray):Ap:=Cs a.1
def wsC.H1(a:(Bool×List UInt8)×ByteArray):Ap:=[(0,(true,.cells 176 [.ptr 0 0,.own 2])),(2,(true,.arr 5 1 (bR (a.1.2++a.2.data.toList))))]
def zM(j:Nat):Bool:=Nat.ble j 1
def wsC.r0(a:(Bool×List UInt8)×ByteArray):AV:= .im (.tup [.int .i64 a.2.size,.nili])
def wsC.row:A7:=AB wsC.ca wsC.H0 2 (λa=>a.1.2.length<=1000000/\a.2.size<=1000000) zM wsC.r0 wsC.H1 1
def K1(a:Bool×List UInt8):Aw 2 (Cs a)=true/\B9 2 (Cs a)=true/\BS (Cs a) (Cs a):=by
 obtain⟨u,l⟩:=a;cases u<;>simp[Cs,Dl,AF,AV.bel,Aw,B9,BS,Ab.nms,AA,AV.nms,Ak,hget]
def wsC.hbel(a:(Bool×List UInt8)×ByteArray):AF 2 (wsC.ca a)=true:=by simp[wsC.ca,AF,AV.bel]
def wsC.hbH(a:(Bool×List UInt8)×ByteArray):Aw 2 (wsC.H0 a)=true:=(K1 a.1).1
def wsC.hkH(a:(Bool×List UInt8)×ByteArray):B9 2 (wsC.H0 a)=true:=(K1 a.1).2.1
def wsC.hnm(a:(Bool×List UInt8)×ByteArray):BS (wsC.H0 a) (wsC.H0 a):=(K1 a.1).2.2
def wsC.ok:AC 109 wsC.row:=by
 refine ow (tC ccC.ok tN) Tryz.func109 (exB:=λj=>j==2) (R:=λa r=>r=wsC.r0 a) (λ_=>rfl)
  (λa=>⟨wsC.hbel a,wsC.hbH a,wsC.hkH a,wsC.hnm a⟩) (λa p hp=> ?_) (λa r h=>by subst h;exact CU.refl _) ?_
 rotate_left
 intro a O;simp only[Tryz.f109,wsC.ca,wsC.H0,Cs,wsC.H1];simp only[ZA,simprocAttr]
 .obtain⟨⟨u,l⟩,s⟩:=a;obtain⟨h1,h2⟩:=O;simp only at h1 h2;have Q:(FJ s).length=s.size:=by simp only[FJ,Fc,Dg];rfl
  have z:(bR l).length=l.length:=by simp[bR]
  cases u with
  |false=>
   refine AB.os (false,l) [0,1] trivial (λj=>QJ _ j) rfl rfl ?_ ?_
   .simp only[ZA,simprocAttr,Ec,Cs,ccC.ca,Cs,Dl,Ef,Ht]
    try exact⟨rfl,rfl⟩
   simp only[ZA,simprocAttr,Ec,zM,ccC.H1,ccK,Dl,Ef,Ht,Q,z];refine⟨λr Z=> ?_,by omega,rfl,by simp[bR,FJ]⟩;obtain⟨b,_,rfl⟩:=Bo.1 Z;rfl
  |true=>
   refine AB.os (true,l) [0,1] trivial (λj=>QJ _ j) rfl rfl ?_ ?_
   .simp only[ZA,simprocAttr,Ec,Cs,ccC.ca,Cs,Dl,Ef,Ht]
    try exact⟨rfl,rfl⟩
   simp only[ZA,simprocAttr,Ec,zM,ccC.H1,ccK,Dl,Ef,Ht,Q,z];refine⟨λr Z=> ?_,by omega,rfl,by simp[bR,FJ]⟩;obtain⟨b,_,rfl⟩:=Bo.1 Z;rfl
 simp only[wsC.H1,Bh,aO,VJ] at hp;rcases hp with rfl|rfl
 .exact .inl ⟨by omega,rfl,rfl⟩
 .exact .inr ⟨by omega,by omega,rfl,rfl⟩
def dcm_.fv(a:Int):ByteArray:=(Gn) a
def dcm_.row:A7:=Dy (b1 qI) rT (λa=> -9223372036854775808<=a/\a<=9223372036854775807) dcm_.fv
def dcm_.q:=CP (R:=dcm_.row) rfl
def dcm_.ok:AC 111 dcm_.row:=by
 refine Gz (tC fmt_.ok tN) Tryz.func111 ?_;intro a z;simp only[Tryz.f111];simp only[ZA,simprocAttr,C3,dcm_.fv,fmt_.q,fmt_.fv,D.sc,D.scs,BC];exact z
def QM{n:Int}(h0: -9223372036854775808<=n)(z:n<=9223372036854775807):(Gn n).size<=21:=W4 h0 z
def oG(p:Ac):ByteArray:=if DA p=true then Gn p.X++⟨#[44]⟩++Gn p.Y else ⟨#[]⟩
def ptx_.fv(a:Ac):ByteArray:=(oG) a
def ptx_.row:A7:=Dy (b1 (qR Ac.d_le)) rT (λa=>True) ptx_.fv
def ptx_.q:=CP (R:=ptx_.row) rfl
def ptx_.ok:AC 110 ptx_.row:=by
 refine Gz (tC ValidPoint.ok (tC dcm_.ok tN)) Tryz.func110 ?_;intro a O;simp only[Tryz.f110];simp only[ZA,simprocAttr,C3,ptx_.fv,ValidPoint.q,ValidPoint.fv,dcm_.q,dcm_.fv,D.sc,D.scs,BC];split
 .rename_i c;simp only[oG];rw[Af (by rw[c];decide)]
 .rename_i c;have z:DA a=true:=by simpa using c
  obtain⟨x1,x2,y1,y2⟩:=Qi z;have Z:=QM (n:=a.X) (by omega) (by omega);have sy:=QM (n:=a.Y) (by omega) (by omega);have Q:(⟨#[44]⟩:ByteArray).size=1:=rfl;refine⟨⟨by omega,by omega⟩,by rw[Q];omega,⟨by omega,by omega⟩,by rw[VH,Q];omega,?_⟩;simp only[oG];rw[Ai z]
def sL: ∀(l:List Aj),(∀x∈l,DA x.At=true/\0<=x.Tile/\x.Tile<=1000)->(DK l).length<=70*l.length
 |[],_=>by simp[DK]
 |x::l,h=>by
  have ih:=sL l λy z=>h y (BP _ z)
  obtain⟨O,Q,Z⟩:=h x (BM ..);obtain⟨x1,x2,y1,y2⟩:=Qi O;have sx:=W4 (n:=x.At.X) (by omega) (by omega);have sy:=W4 (n:=x.At.Y) (by omega) (by omega);have st:=W4 (n:=x.Tile) (by omega) (by omega);simp only[DK,F3,J4,C9,Cv,FA] at ih⊢;omega
def key_.fv(a:Ad):ByteArray:=(Jh) a
def key_.row:A7:=Dy (b1 (qR Ad.d_le)) rT (λa=>1<=a.Tiles.length/\a.Tiles.length<=1000/\ ∀x∈a.Tiles,DA x.At=true/\0<=x.Tile/\x.Tile<=1000) key_.fv
def key_.q:=CP (R:=key_.row) rfl
def key_.ok:AC 67 key_.row:=by
 refine Gz (tC ptx_.ok (tC dcm_.ok (tC wsC.ok (tC bsC.ok tN)))) Tryz.func67 ?_;intro a Q;simp only[Tryz.f67];simp only[ZA,simprocAttr,key_.fv];intro _;obtain⟨h1,h2,h3⟩:=Q;refine AT.ren ⟨{i:Nat//i<=a.Tiles.length},λi=>⟨[(9,.im (.int .i64 i.1)),(8,.im (.int .i64 a.Tiles.length)),(7,.im (.sl false 3 (a.Tiles.map Aj.c))),(3,.ptr 1 0)],[(1,(true,.cells 176 [if i.1=0 then .im .nilp else .ptr 1 0,.own 2])),(2,(true,.arr 5 1 (bR (DK (a.Tiles.take i.1)))))],3⟩,λi=>a.Tiles.length - i.1,λi=>⟨by rcases i with ⟨_|i,hi⟩<;>simp[ZG],by simp⟩,⟨⟨0,CC _⟩,[(2,none)],?_⟩,λi=> ?_⟩
 .simp only[Aq,Xo,DK,nQ,bR,F9];simp only[ZA,simprocAttr,wQ]
  try simp
 obtain⟨i,hi⟩:=i;simp only[ZA,simprocAttr,C3,ptx_.q,ptx_.fv,dcm_.q,dcm_.fv,AO];refine⟨λz=>⟨z,λx hx=> ?_⟩,λz=> ?_⟩
 .obtain⟨o1,o2,o3⟩:=h3 x (AZ hx);obtain⟨x1,x2,y1,y2⟩:=Qi o1;have sx:=QM (n:=x.At.X) (by omega) (by omega);have sy:=QM (n:=x.At.Y) (by omega) (by omega);have st:=QM (n:=x.Tile) (by omega) (by omega);have s1:(⟨#[44]⟩:ByteArray).size=1:=rfl;have s2:(⟨#[58]⟩:ByteArray).size=1:=rfl;have s3:(⟨#[59]⟩:ByteArray).size=1:=rfl;have Z:oG x.At=Gn x.At.X++⟨#[44]⟩++Gn x.At.Y:=Ai o1;have ag:(oG x.At).size<=43:=by rw[Z,VH,VH,s1];omega
  have af:=sL (a.Tiles.take i) λy hy=>h3 y (wP hy)
  have ah:(a.Tiles.take i).length=i:=by simp;omega
  refine⟨by rw[s2];omega,⟨by omega,by omega⟩,by rw[VH,s2];omega,by rw[VH,VH,s2,s3];omega,?_⟩;obtain⟨S,hS⟩: ∃S,S=oG x.At++⟨#[58]⟩++Gn x.Tile++⟨#[59]⟩:=⟨_,rfl⟩;have ad:S.size<=100:=by rw[hS,VH,VH,VH,s2,s3];omega
  have ab:S.data.toList=J4 x:=by
   rw[hS,Z];simp[J4,Gn]
  have O:DK (a.Tiles.take (i+1))=DK (a.Tiles.take i)++S.data.toList:=by
   rw[aI hx,ab];simp[DK]
  have aa:IntKind.i64.wrap ((i:Int)+1)=((i+1:Nat):Int):=by rw[AD (by omega) (by omega)];omega
  rw[<-hS];have hE:(if i=0 then AV.im D.nilp else AV.ptr 1 0)=(Dl (decide (i≠0))).ren (λj=>j+1):=by
   by_cases c:i=0
   .subst c;rfl
   .rw[Af c]
    have:decide (i≠0)=true:=by simpa using c
    rw[this];rfl
  rw[hE];obtain⟨u,hu⟩: ∃u,u=decide (i≠0):=⟨_,rfl⟩;rw[<-hu];cases u with
  |false=>
   refine AB.os ((false,DK (a.Tiles.take i)),S) [1,2] ⟨by simp only;omega,by simp only;omega⟩ (λj=>QJ _ j) rfl rfl ?_ ?_
   .simp only[ZA,simprocAttr,HW,wsC.ca,wsC.H0,Cs,Dl,Ef,Ht]
    try exact⟨rfl,rfl⟩
   simp only[ZA,simprocAttr,HW,wsC.H1,wsC.r0,zM,Dl,Ef,Ht];refine⟨⟨i+1,by omega⟩,[(2,some 4)],by simp only;omega,?_⟩;simp only[Aq,O];simp only[ZA,simprocAttr,Bs];simp only[aa]
  |true=>
   refine AB.os ((true,DK (a.Tiles.take i)),S) [1,2] ⟨by simp only;omega,by simp only;omega⟩ (λj=>QJ _ j) rfl rfl ?_ ?_
   .simp only[ZA,simprocAttr,HW,wsC.ca,wsC.H0,Cs,Dl,Ef,Ht]
    try exact⟨rfl,rfl⟩
   simp only[ZA,simprocAttr,HW,wsC.H1,wsC.r0,zM,Dl,Ef,Ht];refine⟨⟨i+1,by omega⟩,[(2,some 4)],by simp only;omega,?_⟩;simp only[Aq,O];simp only[ZA,simprocAttr,Bs];simp only[aa]
 .obtain rfl:i=a.Tiles.length:=by omega
  rw[Af (by omega),IS];have ac:DK a.Tiles≠[]:=by
   obtain⟨x,hx⟩: ∃x,a.Tiles[0]? =some x:=⟨_,Bi (by omega)⟩;cases hl:a.Tiles with
   |nil=>rw[hl] at h1;simp at h1
   |cons x r=>
    intro e
    have:=BV List.length e
    simp[DK,J4] at this
  refine AB.os (true,DK a.Tiles) [1,2] ac (λj=>QJ _ j) rfl rfl ?_ ?_
  .simp only[ZA,simprocAttr,HW,ccC.ca,Cs,Dl,Ef,Ht]
   try exact⟨rfl,rfl⟩
  simp only[ZA,simprocAttr,D.sc,D.scs,BC,bsC.r0,iC]
  try rfl
def Yd{ι:Type}{P:Program}{V:Dt}{N:Nat}{J:ι->(Nat->Prop)->World->Prop}{base:Nat}{ok0:Nat->Prop}{i j:ι}(HV:Hq P V)(Z:NY base J){ac:ι->List D->ι->Prop}{l:Nat}(hY: ∀i x j args Pr W,ac i x j->(∀ok hp,rdl ok hp x args.toList)->J i Pr W->YieldAt Fence.wide 0 P l args W λe W'=>e= .returned (.bool true)/\ ∃Pr',J j Pr' W'/\IA ok0 Pr W Pr' W')
 {id:Nat}{ops:Array Oper}(k1:Nat)(aq:List.range ops.size=List.range' 0 (ops.toList.take k1).length++(k1::(List.range' (k1+1) (ops.toList.drop (k1+1)).length++[])))(ad:JF N (ops.toList.take k1)=true)(af:JF N (ops.toList.drop (k1+1))=true)(z:WJ ops=true)
 {o:Oper}{c:Call}{f:Operand}{x:List D}(s1:Av){s s2:Av}{a:Act}{w:World}{Q:Exit->Act->World->Prop}(ho:ops[k1]? =some o)(an:o.op= .call c)(aa:c.callee= .value f)(ai:o.guard=none)
 (hf:Ax s1.tm f= .im (.fn (1000000000+l) [] []))(O:DP s1.tm c.args.toList=x.map .im)(ao:x.all D.scs=true)(hx:ac i x j)(am: ∀n e,hget s1.h n=some e->e.2.isView=false)(hd: ∀d,o.dst=some d->d<N)(ag:s1.good=true)(ah:s2.good=true)
 (h:It J base ok0 N i s a w)(aj:KS P V (Ga ops (ops.toList.take k1)) (λs=>sub s s1) s)(ak:KS P V (Ga ops (ops.toList.drop (k1+1))) (λs=>sub s s2) (s1.put o.dst (.im (.bool true))))
 (ab: ∀a w,It J base ok0 N j s2 a w->Q .normal a w):(Code.region id ops false).wpIn Fence.wide 0 P Q a w:=by
 refine wpIn_region ?_;rw[aq];refine Wu HV Z (seg:=ops.toList.take k1) (more:=ops.toList.drop k1) (by rw[F8,Iv]) ad z aj h (λs a w h1 h2=> ?_);have h3:=FL h2 h1 ag Z;have hw:Region.wanted o (yielded ops a.tmps)=true:=by simp[Region.wanted,ai]
 refine rR Z hY ho hw an aa hf O ao hx am hd h3 (λa w h4=> ?_);refine Wu HV Z (seg:=ops.toList.drop (k1+1)) (more:=[]) (by rw[D2]) af z ak h4 (λs a w h5 h6=> ?_);exact ab a w (FL h6 h5 ah Z)
abbrev FT:=List (Ac×List Int)
def XS(op:FT):oM:=⟨FT×List Ac,(op,[]),λi x j=> ∃(k:Nat) (p:Ac×List Int),i.1[k]? =some p/\x=[.agg (Ac.c p.1)]/\j=(i.1.eraseIdx k,i.2++[p.1]),λi=>i.1=[]⟩
def HQ(l:Nat)(left:FT)(z:Option (D×D)):Av:=⟨[(5,.it 0),(0,.im (.fn (1000000000+l) [] []))],[(0,(true,.iter z (left.map Ek)))],1⟩
def yJ(l:Nat)(left:FT)(p:Ac×List Int):Av:=⟨[(3,.ptr 1 0),(5,.it 0),(0,.im (.fn (1000000000+l) [] []))],[(0,(true,.iter (some (Ek p)) (left.map Ek))),(1,(true,.cells 56 [.im (.int .i64 p.1.X),.im (.int .i64 p.1.Y)]))],2⟩
def dN(l:Nat)(left:FT)(z:Option (D×D)):(HQ l left z).good=true:=by simp[HQ,ZG]
def SO(l:Nat)(left:FT)(p:Ac×List Int):(yJ l left p).good=true:=by simp[yJ,ZG]
def rU:JE Tryz.prog (Q4 []):=QC [] (by simp)
def OG(op:FT):Lg Tryz.prog 153 [.ref [.mp yI (op.map Ek)]] (XS op):=by
 refine SG Tryz.func153 rfl rfl (by simp) ?_;intro l J base ok0 z hY a w ab;have HV:=fU rU;obtain⟨R,hR⟩: ∃R,R=(λ(e:Exit) (a:Act) (w:World)=> ∃i,(XS op).fin i/\SF J base ok0 Tryz.f153.ntmps i (λe _=>e= .normal\/e= .ret) e a w):=⟨_,rfl⟩;rw[<-hR];simp only[Tryz.f153] at ab⊢;refine Lr Dd HV z (by decide) (by decide) ab (Qx:=BL (HQ l op none)) ?_ (λs a w O Z=> ?_) (λ_ _ _ _ h=>h.elim) (λ_ _ _ h=>h.elim)
 .simp only[ZA,simprocAttr,BL,HQ,entry,sub,yI]
 have h3:=FL Z O (dN _ _ _) z;clear O Z ab;refine wpIn_block (wpIn_loop_ghost (λm a w=> ∃(i:FT×List Ac) (Q:Option (D×D)),m=i.1.length/\It J base ok0 14 i (HQ l i.1 Q) a w) op.length ⟨(op,[]),none,rfl,h3⟩ ?_);clear h3;rintro m a w ⟨⟨left,aa⟩,Q,hm,h⟩;simp only at hm h;refine Lr Dd HV z (by decide) (by decide) h (Qx:=λe s=>match e with
  | .normal=>(left=[]/\sub s ⟨(7,.im (.bool false))::(HQ l left Q).tm,(HQ l left Q).h,1⟩)\/ ∃(k:Nat) (p:Ac×List Int),left[k]? =some p/\sub s ⟨(7,.im (.bool true))::(HQ l left Q).tm,(HQ l (left.eraseIdx k) (some (Ek p))).h,1⟩
  |_=>False) ?_ (λs a w O Z=> ?_) (λ_ _ _ _ h=>h.elim) (λ_ _ _ h=>h.elim)
 .simp only[ZA,simprocAttr,HQ,sub,Qwf];refine⟨λh=> .inl (by simpa using h),λi p hp=> ?_⟩;rw[CM] at hp;obtain⟨q,hq,rfl⟩:=CT.1 hp;exact .inr ⟨i,q,hq,rfl⟩
 simp only at O;rcases O with ⟨hl,hs⟩|⟨k,p,hk,hs⟩
 .have h3:=FL Z hs (by simp[HQ,ZG]) z;refine Lr Dd HV z (by decide) (by decide) h3 (Qx:=Jb (HQ l left Q) False True 0) ?_ (λs a w O Z=>O.1.elim) (λid s a w O Z=> ?_) (λ_ _ _ h=>h.elim)
  .simp only[ZA,simprocAttr,Jb,HQ,sub]
  .obtain⟨rfl,_,O⟩:=O;simp only[Exit.then,Exit.inBlock,BI,hR,SF];exact⟨(left,aa),hl,s,.inl trivial,Z⟩
 have h3:=FL Z hs (by simp[HQ,ZG]) z;clear Z h hs;refine Lr Dd HV z (by decide) (by decide) h3 (Qx:=Jb (HQ l (left.eraseIdx k) (some (Ek p))) True False 0) ?_ (λs a w O Z=> ?_) (λid s a w O Z=>O.2.1.elim) (λ_ _ _ h=>h.elim)
 .simp only[ZA,simprocAttr,Jb,HQ,sub]
 have h:=FL Z O.2 (dN _ _ _) z;clear O Z h3;refine wpIn_block ?_;refine Lr Dd HV z (by decide) (by decide) h (Qx:=BL (yJ l (left.eraseIdx k) p)) ?_ (λs a w O Z=> ?_) (λ_ _ _ _ h=>h.elim) (λ_ _ _ h=>h.elim)
 .simp only[ZA,simprocAttr,BL,HQ,yJ,sub,Ek,Ac.c]
  trace_state
 have h3:=FL Z O (SO _ _ _) z;clear O Z h;have ac:=(BW.1 hk).1;obtain⟨F,hF⟩: ∃F:AV,F= .im (.fn (1000000000+l) [] []):=⟨_,rfl⟩;obtain⟨E,hE⟩: ∃E:Ao,E=(true,.iter (some (Ek p)) ((left.eraseIdx k).map Ek)):=⟨_,rfl⟩;refine wpIn_seq (Yd HV z hY (i:=(left,aa)) (j:=(left.eraseIdx k,aa++[p.1])) (x:=[.agg (Ac.c p.1)]) 2 (by decide) (by decide) (by decide) (by decide)
  (⟨[(11,.im (.agg (Ac.c p.1))),(10,F),(5,.it 0),(0,F)],[(0,E)],2⟩:Av) (s2:=⟨[(13,.im (.bool false)),(5,.it 0),(0,F)],[(0,E)],2⟩) rfl rfl rfl rfl (by rw[hF];rfl) rfl (by rfl) ⟨k,p,hk,rfl,rfl⟩ ?_ (by decide) (by rw[hE,hF];simp[ZG]) (by rw[hE,hF];simp[ZG]) h3 ?_ ?_ (λa w h4=> ?_))
 .exact λn e he=>VU _ (by rw[hE];rfl) n e he
 .simp only[ZA,simprocAttr,yJ,sub,hE,hF,Ac.c,Ga,Xa,List.take]
 .simp only[ZA,simprocAttr,sub,hE,hF,Ac.c,Ga,Xa,List.drop]
 simp only[Exit.then];refine vI Dd HV z (by decide) (by decide) h4 (Qx:=BL (HQ l (left.eraseIdx k) (some (Ek p)))) ?_ (λs a w O Z=> ?_) (λ_ _ _ _ h=>h.elim) (λ_ _ _ h=>h.elim)
 .simp only[ZA,simprocAttr,BL,HQ,sub,hE,hF]
 simp only[Exit.inBlock,Exit.then];exact⟨(left.eraseIdx k).length,by rw[Zfo,Ai ac];omega,(left.eraseIdx k,aa++[p.1]),_,rfl,FL Z O (dN _ _ _) z⟩
end Go.Ae
namespace Go.Ae
open Go.Proofs Go.RowKit Go.Lib Go.Sort
def rM{A:Type}: ∀(l:List A) (k:Nat) (x:A),l[k]? =some x->l.Perm (x::l.eraseIdx k)
 |[],k,x,h=>by simp at h
 |y::r,0,x,h=>by
  simp only[G6,AI] at h;subst h;exact gX _
 |y::r,k+1,x,h=>by
  rw[Ir] at h;rw[wL];exact ((rM r k x h).cons y).trans (List.Perm.swap x y _)
def hZ(op:FT)(s:Av)(xs:List AV):Prop:= ∃l:List Ac,l.Perm (op.map Prod.fst)/\ ∃m,xs=[.own m]/\hget s.h m=some (true,.arr 56 2 (l.map Ac.c))
def iU(op:FT):D:= .fn 153 [] [.ref [.mp yI (op.map Ek)]]
def iA{op:FT}(hb:op.length<=1000000){C:AU}{S:Au}{vs:Array Value}{RR:Ending->World->Prop}(hW:Wf C S)(au:E7 S [.val (.sl true 0 []),.val (iU op)] vs.toList)
 (af: ∀(v:Value) (C0:AU) (S1:Au) (l:List Ac) (m:Nat),C0.w=S.w->C0.ok=S.ok->(∀b,¬C0.M b)->Wf C0 S1->l.Perm (op.map Prod.fst)->S1.h m=some (true,.arr 56 2 (l.map Ac.c))->Aa S1 (.own m) v->RR (.returned v) S1.w):
 Calls Tryz.prog 180 vs S.w RR:=by
 have HV:=fU rU;refine rD Tryz.func180 rfl (ps:=[.val (.sl true 0 []),.val (iU op)]) (show 2<=13 by decide) (Q:=hZ op) ?_ hW au ?_;rotate_left
 .rintro v C0 S1 s xs g1 g2 g3 g4 g5 ⟨l,hl,m,rfl,hm⟩ g7;exact af v C0 S1 l m g1 g2 g3 g4 hl ((g5 m).trans hm) g7
 intro C0 a w hw ag hc ao;have aq:C0.ds=[]:=by obtain⟨S0,_,h⟩:=hc;rw[<-h.defers];exact ao
 simp only[Tryz.f180] at hc⊢;refine vX Dd HV (by decide) (by decide) (s':=⟨[(2,.ptr 0 0),(1,.im (iU op))],[(0,(true,.cells 156 [.im (.sl true 0 [])]))],2⟩) hc ?_ ?_ (by rw[ag];exact CC _) (λa w hc=> ?_)
 .simp only[ZA,simprocAttr,BL,sub,CR,CQ,BK,entry]
 .simp[ZG]
 refine wpIn_seq ?_;refine vX Dd HV (by decide) (by decide) (s':=⟨[(6,.im (iU op)),(2,.ptr 0 0)],[(0,(true,.cells 156 [.im (.sl true 0 [])]))],2⟩) hc ?_ ?_ (by rw[ag];exact CC _) (λa w hc=> ?_)
 .simp only[ZA,simprocAttr,BL,sub]
 .simp[ZG]
 refine wpIn_block (wpIn_mono (rP Dd HV hc (gf:=153) (capt:=[.ref [.mp yI (op.map Ek)]]) (X:=XS op) (Lp (by kernel_rfl)) (OG op)
  (λ(i:FT×List Ac)=>(i.2++i.1.map Prod.fst).Perm (op.map Prod.fst)) (gX _) ?_ (by decide) (by decide) (by decide) (by decide) ?_ (by decide)
  (tm0:=[(6,.im (iU op)),(2,.ptr 0 0)]) (hs:=λ(i:FT×List Ac)=>[(0,(true,.cells 156 [.own 2])),(2,(true,.arr 56 2 (i.2.map Ac.c)))]) (nx:=3) ⟨[(2,none)],?_⟩ rfl (by simp) ?_ ?_ ?_ ?_) ?_)
 .rintro⟨left,Z⟩ x j O ⟨k,p,hk,rfl,rfl⟩;simp only at hk O⊢;have h1:(left.map Prod.fst).Perm (p.1::(left.eraseIdx k).map Prod.fst):=by
   exact (rM left k p hk).map Prod.fst
  refine List.Perm.trans ?_ O;rw[EK];exact (h1.append_left Z).symm
 .rintro⟨left,Z⟩ x j O ⟨k,p,hk,rfl,rfl⟩;rfl
 .simp only[Aq];simp only[ZA,simprocAttr,wQ];exact (trivial:Ts true (.arr 0 0 []))
 .simp[CF,AV.bel]
 .rintro⟨left,Z⟩ O;simp[ZG]
 .intro i o e he hv;rw[VU _ (by rfl) o e he] at hv;cases hv
 .rintro⟨left,Z⟩ x j O ⟨k,p,hk,rfl,rfl⟩;have av:Z.length<=op.length:=by
   have:=O.length_eq
   simp at this;omega
  simp only[ZA,simprocAttr,Oj,Uk,Fv];refine⟨λrow ac=>by rw[Bz] at ac;subst ac;rfl,by omega,[(2,some 5)],?_⟩;simp only[Aq];simp only[ZA,simprocAttr,Bs,ES]
 .rintro e a' w' ⟨⟨left,Z⟩,O,ad,hq⟩;simp only[XS] at ad;subst ad;simp only[F9,D2] at O;cases e<;>simp only[YB] at hq;obtain⟨C2,S2,Dk,rfl,hE,aa,ht,hd,ah,ai,aj,ak,am⟩:=hq;simp only[Exit.inBlock,Exit.then];have an:a.defers=[]:=by obtain⟨S0,_,h⟩:=hc;rw[h.defers];exact aq
  rw[an] at hd;have hm: ∀a'':Act,a''.defers=C2.ds->vH C0 C2 a''.defers:=λa'' h=> .inr ⟨Dk,by rw[h,<-hE.defers,hd],ah,ai,aj,ak,am⟩
  refine wpIn_mono (lR (ro:=none) Dd HV _ (by decide) (by decide) (Ug Tryz.prog [ResultVar.tmp 4] (hZ op)) _ a' S2.w ?_ ⟨S2,rfl,hE⟩) ?_
  .simp only[ZA,simprocAttr,Ug,Pk,hZ];exact⟨_,rfl,Z,O,2,rfl,rfl⟩
  .intro e a'' w'' hq;cases e<;>simp only[FQ] at hq<;>simp only[Pl]
   .obtain⟨s',ab,z⟩:=hq;exact⟨s',C2,ab,z,aa,hm a'' (by obtain⟨S0,_,h⟩:=z;exact h.defers)⟩
   .obtain⟨s',ab,z⟩:=hq;exact ab.elim
   .obtain⟨s',ab,z⟩:=hq;exact⟨s',C2,ab,z,aa,hm a'' (by obtain⟨S0,_,h⟩:=z;exact h.defers)⟩
def UP(a:List Ac)(j:Nat):Ak (srtQ.H0 a) j=true↔j<1:=by
 simp only[Ak,srtQ.H0,hget];by_cases z:j=0
 .subst z;simp
 .have:(0==j)=false:=by simpa using λh=>z h.symm
  rw[this];simp;omega
def oJ(op:FT)(S:Au)(v:Value)(w:World):Prop:= ∃(z:AU) (S1:Au) (l:List Ac) (m:Nat),S1.w=w/\z.w=S.w/\z.ok=S.ok/\(∀b,¬z.M b)/\Wf z S1/\l.Perm (op.map Prod.fst)/\S1.h m=some (true,.arr 56 2 (l.map Ac.c))/\Aa S1 (.own m) v
def X5{op:FT}(hb:op.length<=1000000){C:AU}{S:Au}{v1:Value}(hW:Wf C S)(hv:E7 S [.val (iU op)] [v1]):
 Calls Tryz.prog 151 #[v1] S.w (λe w=> ∃v,e= .returned v/\oJ op S v w):=by
 have z:Calls Tryz.prog 180 #[.slice none 0 0,v1] S.w (λe w=> ∃v,e= .returned v/\oJ op S v w):=by
  refine iA hb hW ⟨_,_,rfl,?_,hv⟩ (λv O S1 l m g1 g2 g3 Q Z g6 g7=>⟨v,rfl,O,S1,l,m,rfl,g1,g2,g3,Q,Z,g6,g7⟩);exact dP S (.slice none 0 0)
 go_enter Tryz.func151,Tryz.ntmps151
 go_wp2_with (go_at_call 180;refine z.mono ?_;rintro e w' ⟨v,rfl,h⟩)
 go_ret
 exact⟨v,rfl,h⟩
def PA{C0:AU}{S1:Au}{l:List Ac}{m:Nat}{v Z:Value}{R:Ending->World->Prop}(hW:Wf C0 S1)(hd:l.Nodup)(hm:S1.h m=some (true,.arr 56 2 (l.map Ac.c)))(hv:Aa S1 (.own m) v)(ab:Aa S1 (.im (.fn 106 [] [])) Z)
 (O: ∀u S',Wf C0 S'->S'.h m=some (true,.arr 56 2 ((Cd l).map Ac.c))->Aa S' (.own m) v->R (.returned u) S'.w):
 Calls Tryz.prog 152 #[v,Z] S1.w R:=by
 have Q:srtQ.row [.own m,.im (.fn 106 [] [])] S1.h (m+1) (λr E=>E={use:=[m],kill:=[m],new:=[(m,(true,.arr 56 2 ((Cd l).map Ac.c)))],cnt:=0}):=by
  refine AB.os l [m] hd (UP l) rfl (by simp[Xb]) ⟨rfl,?_⟩ ?_
  .simp only[srtQ.H0,CL,BE,I7];exact⟨hm,trivial⟩
  .rfl
 obtain⟨_,r,E,hT,rfl⟩:=srtQ.ok _ _ _ _ Q;have z: ∀n,¬Fr (m+1) 0 n:=λn h=>by have:=h.1;have:=h.2;omega
 refine hT C0 S1 #[v,Z] R hW (λn _=>rfl) (λn hn=>(z n hn).elim) (λn e _ k _ hk=>z k hk) ⟨v,[Z],rfl,hv,Z,[],rfl,ab,rfl⟩ ?_;intro u S' aa hh hp _;refine O u S' aa ?_ (HA hp _ _ (λo _ hf=>z o hf) hv);rw[hh];simp[Bk.appf,hget]
def sorF.ar:List PK->Option FT
 |[.val (.fn 153 [] [.ref [.mp ⟨true,[.int .i64,.int .i64]⟩ z]]),.val (.fn 106 [] [])]=>Gl (EH Ac.d) (Q6 Da) z
 |_=>none
def sorF.ae(op:FT):List PK:=[.val (iU op),.val (.fn 106 [] [])]
def sorF.le: ∀z a,sorF.ar z=some a->Ca z (sorF.ae a):=by
 intro z a h;unfold sorF.ar at h;split at h
 .exact⟨WV ⟨WK (CJ.leP ⟨SQ (Qxb Qwu (sS Fh (λ_=>rfl)) _ _ h),trivial⟩),trivial⟩,C7.refl _,trivial⟩
 .cases h
def sorF.fv(op:FT):List Ac:=Cd (op.map Prod.fst)
def sorF.row:A7:=NT sorF.ar (λop=>(op.map Prod.fst).Nodup/\op.length<=1000000) (λop=> .sl false 2 ((sorF.fv op).map Ac.c))
def sorF.q:=vqF sorF.row rfl
def sorF.ok:AC 113 sorF.row:=by
 refine Quy (by kernel_rfl) sorF.le (rc:=Q6 Ac.d) (re:=λb=> .sl false 2 (b.map Ac.c)) (sS Ac.d_le (λ_=>rfl)) (f:=sorF.fv) (λop Z C S vs RR hW aa Q=> ?_);obtain⟨af,hb⟩:=Z;simp only[sorF.ae,E7] at aa;obtain⟨v1,r1,hvs,ah,v2,r2,rfl,ai,rfl⟩:=aa;have ac:vs= #[v1,v2]:=by apply Ix;simpa using hvs
 subst ac;have O:=X5 hb hW (v1:=v1) ⟨v1,[],rfl,ah,rfl⟩
 go_enter Tryz.func113,Tryz.ntmps113
 have ab: ∀S1:Au,Aa S1 (.im (.fn 106 [] [])) v2:=λS1=>by simpa only[HY,Aa,rd,rdl] using ai
 have ag: ∀(z:AU) (S1:Au) (l:List Ac) (m:Nat) (v:Value),Wf z S1->l.Perm (op.map Prod.fst)->S1.h m=some (true,.arr 56 2 (l.map Ac.c))->Aa S1 (.own m) v->
  Calls Tryz.prog 152 #[v,v2] S1.w (λe w=> ∃u S',e= .returned u/\S'.w=w/\Wf z S'/\S'.h m=some (true,.arr 56 2 ((sorF.fv op).map Ac.c))/\Aa S' (.own m) v):=by
  intro z S1 l m v g4 g5 g6 g7;refine PA g4 (g5.nodup_iff.2 af) g6 g7 (ab S1) (λu S' h1 h2 h3=>⟨u,S',rfl,rfl,h1,?_,h3⟩)
  have:Cd l=Cd (op.map Prod.fst):=dL (NN _) (NN _) (λq=>by rw[Ki,Ki];exact g5.mem_iff)
  rw[h2,this];rfl
 go_wp2_with (first
  |(go_at_call 151;refine O.mono ?_;rintro e w' ⟨v,rfl,z,S1,l,m,rfl,g1,g2,g3,g4,g5,g6,g7⟩)
  |(go_at_call 152;refine (ag z S1 l m v g4 g5 g6 g7).mono ?_;rintro e w' ⟨u,S',rfl,rfl,h1,h2,h3⟩))
 show RR (.returned v) S'.w;obtain⟨d,rfl,ad⟩:=Qzf (K:=λd=>d= .sl false 2 ((sorF.fv op).map Ac.c)) g3 h1 (x:= .own m) (by
  simp only[OA,h2,iQ];exact⟨by intro row hr;obtain⟨p,_,rfl⟩:=Bo.1 hr;rfl,trivial⟩) h3
 exact Q v z S' _ g1 g2 g3 h1 (by simp only[BC,Q6,Ac.d_R]) ad
def Bp.ca(_:FT):List AV:=[.mp 0]
def Bp.H0(a:FT):Ap:=[(0,(true,.map yI (a.map Ek)))]
def Bp.H1(_:FT):Ap:=[(1,(true,.cells 126 [.mp 0]))]
def Bp.r0(_:FT):AV:= .clo 153 [] [.ptr 1 0]
def Bp.row:A7:=AB Bp.ca Bp.H0 1 (λ_=>True) (λ_=>false) Bp.r0 Bp.H1 1
def Bp.ok:AC 114 Bp.row:=by
 refine ow tN Tryz.func114 (exB:=λj=>j==1) (R:=λa r=>r=Bp.r0 a) (λ_=>rfl)
  (λa=>by simp[Bp.ca,Bp.H0,AF,AV.bel,Aw,B9,BS,Ab.nms,Ak,hget]) (λa p hp=> ?_) (λa r h=>by subst h;exact CU.refl _) ?_
 rotate_left
 intro a z;simp only[Tryz.f114,Bp.ca,Bp.H0,Bp.H1,Bp.r0];simp only[ZA,simprocAttr];simp[Bp.H1] at hp;subst hp;exact .inr ⟨by omega,by omega,rfl,rfl⟩
end Go.Ae
namespace Go.Ae
open Go.Proofs
def Mg{β:Type}{v:β}{p:Ac}: ∀{t:List (Ac×β)},Bx t p=some v->(p,v)∈t
 |(q,w)::r,h=>by
  simp only[Bx] at h;split at h
  .rename_i e;obtain rfl:=Ay h;rw[e];exact BM ..
  .exact BP _ (Mg h)
def rQ{β:Type}{p:Ac}: ∀{t:List (Ac×β)},Bx t p=none->p∉t.map Prod.fst
 |[],_=>by simp
 |(q,w)::r,h=>by
  simp only[Bx] at h;split at h
  .cases h
  .rename_i e;simp only[Bf,Bh,aS];exact⟨e,rQ h⟩
def SK(a:FT)(j:Nat):Ak (Bp.H0 a) j=true↔j<1:=by
 simp only[Ak,Bp.H0,hget];by_cases h0:j=0
 .subst h0;simp
 .have z:(0==j)=false:=by simp;omega
  simp[z];omega
def lisC.r0(a:Dz):AV:= .im (.sl false 3 ((GG a.Op).map A9.c))
def lisC.row:A7:=AB asmC.ca Hg 3 (λa=>(a.Op.map Prod.fst).Nodup/\a.Op.length<=1000000/\ ∀q∈a.Op,q.2.length<=1000) (λ_=>false) lisC.r0 (λ_=>[]) 20
def lisC.ok:AC 68 lisC.row:=by
 refine VO (tC Bp.ok (tC sorF.ok tN)) Tryz.func68 (exB:=λ_=>false) (R:=λa r=>r=lisC.r0 a) (λ_=>rfl)
  (λa=>by simp[asmC.ca,Hg,Fb,AF,AV.bel,Aw,B9,BS,Ab.nms,AA,AV.nms,Ak,hget]) (λa p hp=> ?_) (λa r h=>by subst h;exact CU.refl _) ?_
 rotate_left
 intro a ac;simp only[Tryz.f68,asmC.ca,Hg,Fb];simp only[ZA,simprocAttr];obtain⟨aa,ab,ag⟩:=ac;refine AB.os a.Op [2] trivial (λj=>SK _ j) rfl rfl ?_ ?_
 .simp only[ZA,simprocAttr,Ec,Bp.ca,Bp.H0,Ef];rfl
 simp only[ZA,simprocAttr,C3,sorF.q,sorF.ar,sorF.fv,Ec,Bp.H1,Bp.r0];obtain⟨L,hL⟩: ∃L,L=Cd (a.Op.map Prod.fst):=⟨_,rfl⟩;obtain⟨g,hg⟩: ∃g:Ac->List Int,g=λp=>(Bx a.Op p).getD []:=⟨_,rfl⟩
 have af:GG a.Op=C5 g L:=by rw[hg,hL];rfl
 refine⟨⟨aa,ab⟩,?_⟩;simp only[<-hL];intro ah;refine AT.ren ⟨{i:Nat//i<=L.length},λi=>⟨[(15,.im (.int .i64 i.1)),(14,.im (.int .i64 L.length)),(13,.im (.sl false 2 (L.map Ac.c))),(3,.own 6),(0,.ptr 0 0)],[(6,(true,.arr 58 3 ((Ep g L i.1).map A9.c))),(0,(true,.cells 128 (Fb a.Sys))),(1,(true,.map ⟨true,[.int .i64,.int .i64]⟩ (a.Tl.map GK))),(2,(true,.map ⟨true,[.int .i64,.int .i64]⟩ (a.Op.map Ek)))],7⟩,λi=>L.length - i.1,λi=>⟨by simp[ZG,Fb],by simp⟩,⟨⟨0,CC _⟩,[(6,some 4)],?_⟩,λi=> ?_⟩
 .simp only[Aq,Fb];simp only[ZA,simprocAttr,Bs,Ep,C5]
  try simp
 obtain⟨i,hi⟩:=i;simp only[Fb];simp only[ZA,simprocAttr,FK,AO,Yl];have z: ∀p,(g p).length<=1000:=λp=>by
  rw[hg];simp only;cases hq:Bx a.Op p with
  |none=>simp
  |some v=>exact ag _ (Mg hq)
 have ai:L.length<=1000000:=by rw[hL,(dO aa).length_eq,Fc];exact ab
 have aj:(Ep g L i).length<=1000000*1000:=by
  have:=Wp z (L.take i)
  have h9:(L.take i).length*1000<=1000000*1000:=HI _ (by simp;omega);simp only[Ep];omega
 refine⟨λQ=>⟨Q,λp hp=>⟨λv hv=> ?_,λhv=> ?_⟩⟩,λQ=> ?_⟩
 .have O:g p=v:=by rw[hg];simp only[hv,AP]
  have ad:=z p;rw[O] at ad;refine AT.ren ⟨{k:Nat//k<=v.length},λk=>⟨[(26,.im (.int .i64 k.1)),(25,.im (.int .i64 v.length)),(24,.im (.sl false 1 (v.map Al))),(5,.ptr 7 0),(15,.im (.int .i64 i)),(14,.im (.int .i64 L.length)),(13,.im (.sl false 2 (L.map Ac.c))),(3,.own 8),(0,.ptr 0 0)],[(8,(true,.arr 58 3 ((Ep g L i++(v.take k.1).map (OL p)).map A9.c))),(7,(true,.cells 56 ((Ac.c p).map .im))),(0,(true,.cells 128 (Fb a.Sys))),(1,(true,.map ⟨true,[.int .i64,.int .i64]⟩ (a.Tl.map GK))),(2,(true,.map ⟨true,[.int .i64,.int .i64]⟩ (a.Op.map Ek)))],9⟩,λk=>v.length - k.1,λk=>⟨by simp[ZG,Fb,Ac.c],by simp⟩,⟨⟨0,CC _⟩,[(8,some 6)],?_⟩,λk=> ?_⟩
  .simp only[Aq,Fb];simp only[ZA,simprocAttr,Bs]
   try simp
  obtain⟨k,hk⟩:=k;simp only[Fb];simp only[ZA,simprocAttr,Ec,AO,NK,NI,zO,BT,D.one,C9];refine⟨λZ=>⟨Z,λx hx=>⟨?_,⟨k+1,by omega⟩,[(8,some 10)],by simp only;omega,?_⟩⟩,λZ=>⟨⟨i+1,by omega⟩,[(6,some 8)],by simp only;omega,?_⟩⟩
  .have:(v.take k).length<=1000:=by simp;omega
   omega
  .simp only[Aq];simp only[ZA,simprocAttr,Bs];refine⟨by rw[AD (by omega) (by omega)];rfl,?_⟩;rw[aI hx];simp[OL,A9.c]
  .obtain rfl:k=v.length:=by omega
   simp only[Aq];simp only[ZA,simprocAttr,Bs];refine⟨by rw[AD (by omega) (by omega)];rfl,?_⟩;rw[rJ hp,IS,O]
 .exfalso
  have:p∈L:=AZ hp
  rw[hL,Ki] at this;exact rQ hv this
 .obtain rfl:i=L.length:=by omega
  have hA:Ep g L L.length=GG a.Op:=by rw[Ep,IS,af]
  rw[hA];refine⟨[6],[],⟨[(2,.im (.sl false 3 ((GG a.Op).map A9.c)))],[(0,(true,.cells 128 (Fb a.Sys))),(1,(true,.map ⟨true,[.int .i64,.int .i64]⟩ (a.Tl.map GK))),(2,(true,.map ⟨true,[.int .i64,.int .i64]⟩ (a.Op.map Ek)))],3⟩,?_,by simp[ZG,Fb],by simp,?_⟩
  .simp only[Aq,Fb];simp only[ZA,simprocAttr,Bs]
  .simp only[Fb];simp only[ZA,simprocAttr,lisC.r0]
 simp at hp
end Go.Ae
namespace Go.Proofs
open Go.Shelf Go.RowKit Go.Lib
def Tryz.pl101:(Tryz.prog.info? 115).map (λi=>(i.zero,i.size,i.bytes))=some (some (.agg #[.int .i64 0,.int .i64 0,.int .i64 0]),3,24):=by kernel_rfl
def zP{P:Program}(w:World)(dT sT ty O:TypeId)(k b o z Q:Nat)(a:Addr)(sLen sCap:Nat)(cs:List Value)
 (hu:P.underlying dT=some (.slice O))(hs:(P.info? O).map (·.size)=some k)(hn:cs.length=Nat.min sLen z*k)
 (Z: ∀j v,cs[j]? =some v->w.cell? (a.add j)=some v)(hc: ∀j,j<cs.length->(w.cell? ⟨b,o+j,none⟩).isSome=true)(hf: ∀j,j<cs.length->w.frozen? ⟨b,o+j,none⟩=false)(h1: ∀v∈cs,v.oneCell'=true):
 (Builtin.copy_ #[dT,sT] ty #[.slice (some ⟨b,o,none⟩) z Q,.slice (some a) sLen sCap]).run P w= .ok (goInt (Nat.min sLen z)) (w.setCells b o cs):=by
 have hl:=run_loadCells_list (P:=P) w a cs Z;have aa:=run_storeCells_cells (P:=P) b o cs 0 w (by simpa using hc) (by simpa using hf) h1;cases hq:P.info? O with
 |none=>simp[hq] at hs
 |some i=>
  have hi:i.size=k:=by simpa[hq] using hs
  simp[Builtin.copy_,run_underlying hu,Builtin.lenOf,Builtin.firstCells,sizeOf,typeInfo,hq,hi,<-hn,hl,aa]
def lH(b:Nat): ∀(vs:List Value) (o:Nat) (w:World) (cv:Array Value) (T:TypeId) (O:Nat×Nat),w.heap[b]? =some (.cells cv T O)->o+vs.length<=cv.size->
 (∃z,(w.setCells b o vs).heap[b]? =some (.cells z T O)/\z.toList=cv.toList.take o++vs++cv.toList.drop (o+vs.length))
 |[],o,w,cv,T,O,h,_=>⟨cv,h,by simp⟩
 |v::r,o,w,cv,T,O,h,hl=>by
  simp only[Cv] at hl;have Z:(w.setCell ⟨b,o,none⟩ v).heap[b]? =some (.cells (cv.setIfInBounds o v) T O):=by
   simp only[World.setCell,gN,BI,h];rfl
  obtain⟨z,g1,g2⟩:=lH b r (o+1) _ _ T O Z (by simp;omega);refine⟨z,g1,?_⟩;rw[g2,Zdi,List.take_set,List.drop_set];have Q:(cv.toList.take (o+1)).set o v=cv.toList.take o++[v]:=by
   rw[Ip,Bi (by simp;omega),wE,nE _ _ (by simp;omega)]
   have:o - (cv.toList.take o).length=0:=by simp;omega
   rw[this];rfl
  rw[Q,Ai (by omega)];simp only[EK,CO,Fq,Cv];rw[show o+1+r.length=o+(r.length+1) by omega]
def lF(b:Nat): ∀(vs:List Value) (o:Nat) (w:World) (x:Nat),x≠b->(w.setCells b o vs).heap[x]? =w.heap[x]?
 |[],_,_,_,_=>rfl
 |v::r,o,w,x,h=>by
  rw[World.setCells,lF b r _ _ x h];simp only[World.setCell,gN];rw[Af (λe=>h e.symm)]
def lG(b:Nat): ∀(vs:List Value) (o:Nat) (w:World),(w.setCells b o vs).heap.size=w.heap.size/\(w.setCells b o vs).os=w.os/\(w.setCells b o vs).tape=w.tape/\(w.setCells b o vs).output=w.output
 |[],_,_=>⟨rfl,rfl,rfl,rfl⟩
 |v::r,o,w=>by
  obtain⟨z,O,Q,Z⟩:=lG b r (o+1) (w.setCell ⟨b,o,none⟩ v);exact⟨by rw[World.setCells,z];simp[World.setCell],O,Q,Z⟩
structure WO(w w':World)(b n:Nat)(T:TypeId)(k:Nat)(cs:List Value)(b' off' c':Nat):Prop where
 cap:n<=c'
 wh:b'=b\/b'=w.heap.size
 size:w.heap.size<=w'.heap.size
 lt:b'<w'.heap.size
 os:w'.os=w.os
 tape:w'.tape=w.tape
 output:w'.output=w.output
 keep: ∀x,x<w.heap.size->x≠b->w'.heap[x]? =w.heap[x]?
 row: ∃cv,w'.heap[b']? =some (.cells cv T (0,0))/\off'+c'*k<=cv.size/\ ∃r,cv.toList.drop off'=cs++r
structure I9(w:World)(b off n c vb voff:Nat)(cs vs:List Value):Prop where
 hcl:cs.length=n*3
 hvl:vs.length=3
 hnc:n<=c
 hn:n<=100000
 hvb:vb≠b
 hcs: ∀j v,cs[j]? =some v->w.cell? ⟨b,off+j,none⟩=some v
 hsp: ∀j,j<c*3->(w.cell? ⟨b,off+j,none⟩).isSome=true
 hfz: ∀x j,x=b\/x=vb->w.frozen? ⟨x,j,none⟩=false
 hvs: ∀j v,vs[j]? =some v->w.cell? ⟨vb,voff+j,none⟩=some v
 h1c: ∀v∈cs,v.oneCell'=true
 h1v: ∀v∈vs,v.oneCell'=true
 sa: ∃tA kA,w.shape? vb=some (tA,kA)
 sb: ∃tB kB,w.shape? b=some (tB,kB)/\kB≠0
def Tryz.ins_shift{w:World}{b off n c vb voff:Nat}{cs vs:List Value}(H:I9 w b off n c vb voff cs vs)(i:Nat)(hi:i<n)(aj:n+1<=c)(vc:Nat):
 Calls Tryz.prog 73 #[.slice (some ⟨b,off,none⟩) n c,.int .i64 i,.slice (some ⟨vb,voff,none⟩) 1 vc] w λe w'=>
  e= .returned (.slice (some ⟨b,off,none⟩) (n+1) c)/\w'=(w.drew.setCells b (off+(i+1)*3) (cs.drop (i*3))).setCells b (off+i*3) vs:=by
 obtain⟨hcl,hvl,hnc,hn,hvb,hcs,hsp,hfz,hvs,h1c,h1v,⟨tA,kA,ak⟩,tB,kB,am,ah⟩:=H;have az: ¬((i:Int)=(n:Int)):=by omega
 have ad:(Tryz.prog.info? 115).map (·.size)=some 3:=by kernel_rfl
 have Z:Tryz.prog.underlying 47=some (.slice 115):=by kernel_rfl
 have ai: ∀lb cb,(callFunc 117 #[.slice (some ⟨vb,voff,none⟩) 1 vc,.slice (some ⟨b,off+(i+1)*3,none⟩) lb cb]).run Tryz.prog w= .ok (.value (.bool false)) w:=λlb cb=>by
  rw[run_callFunc_extern Tryz.func117 (by kernel_rfl) (by kernel_rfl) (by kernel_rfl) (e:=Extern.SlicesOverlaps.overlaps #[47,47] #[4]) (by kernel_rfl),
   Lib.run_overlaps_apart w 47 4 115 Z 3 Tryz.sizeOf115 ⟨vb,voff,none⟩ ⟨b,off+(i+1)*3,none⟩ 1 vc lb cb hvb tA tB kA kB ak am ah (hfz _ _ (.inr rfl)) (hfz _ _ (.inr rfl))]
  rfl
 have ag:(cs.drop (i*3)).length=n*3 - i*3:=by rw[Ce,hcl]
 have z: ∀ty Q sc,(Builtin.copy_ #[47,47] ty #[.slice (some ⟨b,off+(i+1)*3,none⟩) (n - i) Q,.slice (some ⟨b,off+i*3,none⟩) (n+1 - i) sc]).run Tryz.prog w.drew= .ok (goInt (Nat.min (n+1 - i) (n - i))) (w.drew.setCells b (off+(i+1)*3) (cs.drop (i*3))):=λty Q sc=>
  zP w.drew _ _ ty 115 3 b (off+(i+1)*3) (n - i) Q ⟨b,off+i*3,none⟩ (n+1 - i) sc (cs.drop (i*3)) Z ad (by rw[ag];simp only[Zft];split<;>omega)
   (λj v O=>by rw[Addr.add_lit,Gg];exact hcs (i*3+j) v (by rwa [EQ] at O))
   (λj O=>by rw[Gg];exact hsp _ (by omega)) (λj O=>hfz _ _ (.inl rfl)) (λv hv=>h1c v (ZdK hv))
 obtain⟨W1,hW1⟩: ∃W1,W1=w.drew.setCells b (off+(i+1)*3) (cs.drop (i*3)):=⟨_,rfl⟩;have ac: ∀k,k<c*3->(W1.cell? ⟨b,off+k,none⟩).isSome=true:=λk hk=>by
  rw[hW1];exact isSome_setCells b _ _ _ (λj O=>by rw[Gg];exact hsp _ (by omega)) _ (hsp k hk)
 have ab: ∀(W:World),(∀x,W.cell? x=W1.cell? x)->(∀x,W.frozen? x=W1.frozen? x)-> ∀ty Q,(Builtin.copy_ #[47,47] ty #[.slice (some ⟨b,off+i*3,none⟩) (n+1 - i) Q,.slice (some ⟨vb,voff,none⟩) 1 vc]).run Tryz.prog W= .ok (goInt (Nat.min 1 (n+1 - i))) (W.setCells b (off+i*3) vs):=λW aa af ty Q=>
  zP W _ _ ty 115 3 b (off+i*3) (n+1 - i) Q ⟨vb,voff,none⟩ 1 vc vs Z ad (by rw[hvl];simp only[Zft];split<;>omega)
   (λj v O=>by
    rw[Addr.add_lit,aa,hW1,World.cell?_setCells_out b _ _ _ _ (λh _=>absurd h hvb)];exact hvs j v O)
   (λj O=>by rw[aa,Gg];exact ac _ (by omega)) (λj O=>by rw[af,hW1,World.frozen?_setCells];exact hfz _ _ (.inl rfl)) h1v
 rw[<-hW1] at z;have ax:IntKind.i64.wrap ((i:Int)+1)=(i:Int)+1:=by rw[IntKind.wrap_i64];omega
 have ay:IntKind.i64.wrap ((n:Int)+1)=(n:Int)+1:=by rw[IntKind.wrap_i64];omega
 have an:(0:Int)<=(i:Int)+1:=by omega
 have av:i<=n:=by omega
 have aw:((i:Int)+1).toNat=i+1:=by omega
 have ao: ¬(c=i+1):=by omega
 have aq:(i:Int)<=(n:Int)+1:=by omega
 have au: ¬(c=i):=by omega
 have Dd:Tryz.prog.follows .mixedOrders=true:=by kernel_rfl
 go_enter Tryz.func73,Tryz.ntmps73
 go_wp2_with (simp only[ai])
 go_region_law_o (refine step_copy_runI rfl _ _ 47 47 rfl _ _ (by simp[Act.eval,Act.put]) (by simp[Act.eval,Act.put]) (z _ _ _) ?_)
 go_wp2_with (at_builtin;refine wpList_copy_runI _ rfl _ _ 47 47 rfl _ _ rfl rfl (ab _ (λ_=>rfl) (λ_=>rfl) _ _) ?_)
 go_ret
 first|exact⟨rfl,rfl⟩|exact⟨rfl,by rw[hW1]⟩
def Tryz.insSrc{w:World}{b off n c vb voff:Nat}{cs vs:List Value}(H:I9 w b off n c vb voff cs vs)(z:Nat):Src Tryz.prog 3 47 (.slice (some ⟨vb,voff,none⟩) 1 z) 1 vs w:=
 Src.ofSlice w (show Tryz.prog.underlying 47=some (.slice 115) by kernel_rfl) ⟨vb,voff,none⟩ 1 z vs (by rw[H.hvl]) (λj u O=>by rw[Addr.add_lit];exact H.hvs j u O) H.h1v
def Tryz.ins_end_room{w:World}{b off n c vb voff:Nat}{cs vs:List Value}(H:I9 w b off n c vb voff cs vs)(Q:n+1<=c)(vc:Nat):
 Calls Tryz.prog 73 #[.slice (some ⟨b,off,none⟩) n c,.int .i64 n,.slice (some ⟨vb,voff,none⟩) 1 vc] w λe w'=>
  e= .returned (.slice (some ⟨b,off,none⟩) (n+1) c)/\w'=w.setCells b (off+n*3) vs:=by
 obtain⟨i0,Z,ab,z,ac⟩:=info_parts Tryz.pl101;have ad:Tryz.prog.underlying 47=some (.slice 115):=by kernel_rfl
 have O:=Tryz.insSrc H vc;have hsp:=H.hsp;have hfz:=H.hfz;have hvl:=H.hvl;have aa: ∀ty,(Builtin.append_ #[47,47] ty #[.slice (some ⟨b,off,none⟩) n c,.slice (some ⟨vb,voff,none⟩) 1 vc]).run Tryz.prog w= .ok (.slice (some ⟨b,off,none⟩) (n+1) c) (w.setCells b (off+n*3) vs):=λty=>by
  have:=run_append_room_src w 47 47 ty 115 i0 ad Z b off n c (.slice (some ⟨vb,voff,none⟩) 1 vc) 1 vs (by rw[z];exact O) Q
   (λj hj=>by rw[z,Gg];exact hsp _ (by omega)) (λj hj=>hfz _ _ (.inl rfl))
  rwa [z] at this
 clear O Z ab z ac
 go_enter Tryz.func73,Tryz.ntmps73
 go_wp2_with (at_builtin;refine Lib.wpList_append_run _ rfl _ _ _ _ rfl _ _ rfl rfl _ _ (aa _) ?_)
 go_ret
 exact⟨rfl,rfl⟩
def Tryz.ins_end_grow{w:World}{base:Option Addr}{n c vb voff:Nat}{cs vs:List Value}(hcl:cs.length=n*3)(hvl:vs.length=3)(hnc:n<=c)(hn:n<=100000)(z:c<n+1)(O:base=none->n=0)
 (hcs: ∀a,base=some a-> ∀j v,cs[j]? =some v->w.cell? (a.add j)=some v)
 (hvs: ∀j v,vs[j]? =some v->w.cell? ⟨vb,voff+j,none⟩=some v)(h1v: ∀v∈vs,v.oneCell'=true)(vc:Nat):
 Calls Tryz.prog 73 #[.slice base n c,.int .i64 n,.slice (some ⟨vb,voff,none⟩) 1 vc] w λe w'=>
  e= .returned (.slice (some ⟨w.heap.size,0,none⟩) (n+1) (grownCap w (n+1) c 115))/\
  w'=w.drew.alloc (.cells ((cs++vs).toArray++Builtin.zeroCells #[.int .i64 0,.int .i64 0,.int .i64 0] (grownCap w (n+1) c 115 - (n+1))) 115):=by
 obtain⟨i0,ad,af,ac,ag⟩:=info_parts Tryz.pl101;have ah:Tryz.prog.underlying 47=some (.slice 115):=by kernel_rfl
 have aa:Src Tryz.prog 3 47 (.slice (some ⟨vb,voff,none⟩) 1 vc) 1 vs w:=
  Src.ofSlice w ah ⟨vb,voff,none⟩ 1 vc vs (by rw[hvl]) (λj u hj=>by rw[Addr.add_lit];exact hvs j u hj) h1v
 have Q:(Builtin.firstCells i0.size n (.slice base n c)).run Tryz.prog w.drew= .ok cs.toArray w.drew:=by
  rw[ac];cases base with
  |none=>
   have h0:=O rfl;subst h0;rw[Xl.1 (by omega:cs.length=0)];exact run_firstCells_none w.drew 3 0 0 c
  |some a=>exact run_firstCells_some w.drew 3 n a n c cs hcl (λj v hj=>hcs a rfl j v hj)
 have Z: ∀ty,(Builtin.append_ #[47,47] ty #[.slice base n c,.slice (some ⟨vb,voff,none⟩) 1 vc]).run Tryz.prog w= .ok (.slice (some ⟨w.heap.size,0,none⟩) (n+1) (grownCap w (n+1) c 115)) (w.drew.alloc (.cells ((cs++vs).toArray++Builtin.zeroCells #[.int .i64 0,.int .i64 0,.int .i64 0] (grownCap w (n+1) c 115 - (n+1))) 115)):=λty=>
  run_append_grow_src w 47 47 ty 115 i0 _ ah ad af base n c cs Q _ 1 vs (by rw[ac];exact aa) z (by omega) (by rw[ag];exact growslice_fits z (by omega))
 clear aa ad af ac ag Q
 go_enter Tryz.func73,Tryz.ntmps73
 cases base with
 |none=>
  have h0:=O rfl;subst h0
  go_wp2_with (at_builtin;refine Lib.wpList_append_run _ rfl _ _ _ _ rfl _ _ rfl rfl _ _ (Z _) ?_)
  go_ret
  exact⟨rfl,rfl⟩
 |some a=>
  obtain⟨ab,ao,ai⟩:=a
  go_wp2_with (at_builtin;refine Lib.wpList_append_run _ rfl _ _ _ _ rfl _ _ rfl rfl _ _ (Z _) ?_)
  all_goals (go_ret;exact⟨rfl,rfl⟩)
def z3:Array Value:= #[.int .i64 0,.int .i64 0,.int .i64 0]
def Tryz.ins_grow{w:World}{b off n c vb voff:Nat}{cs vs:List Value}(H:I9 w b off n c vb voff cs vs)(i:Nat)(hi:i<n)(ag:c<n+1)(vc:Nat):
 Calls Tryz.prog 73 #[.slice (some ⟨b,off,none⟩) n c,.int .i64 i,.slice (some ⟨vb,voff,none⟩) 1 vc] w λe w'=>
  e= .returned (.slice (some ⟨w.heap.size,0,none⟩) (n+1) (grownCap w (n+1) c 115))/\
  w'=(((w.alloc (.cells ((cs.take (i*3)).toArray++Builtin.zeroCells z3 (n+1 - i)++Builtin.zeroCells z3 (grownCap w (n+1) c 115 - (n+1))) 115)).drew.setCells w.heap.size (i*3) vs).drew).setCells w.heap.size ((i+1)*3) (cs.drop (i*3)):=by
 obtain⟨hcl,hvl,hnc,hn,hvb,hcs,hsp,hfz,hvs,h1c,h1v,_,_⟩:=H;obtain⟨i0,an,aq,au,ai⟩:=info_parts Tryz.pl101;have aj:Tryz.prog.underlying 47=some (.slice 115):=by kernel_rfl
 have u3:Tryz.prog.underlying 3=some (.int .i64):=by kernel_rfl
 have br: ¬((i:Int)=(n:Int)):=by omega
 have bt:(c:Int)<(n:Int)+1:=by omega
 have ah:(Tryz.prog.info? 115).map (·.size)=some 3:=by kernel_rfl
 have ba:b<w.heap.size:=block_lt_of_cell (hcs 0 _ (Bi (by omega)));have bc:vb<w.heap.size:=block_lt_of_cell (hvs 0 _ (Bi (by omega)));have ao:(n:Int)+1 - (i:Int)=((n+1 - i:Nat):Int):=by omega
 have af:i+(n+1 - i)=n+1:=by omega
 have ac:(Builtin.firstCells i0.size i (.slice (some ⟨b,off,none⟩) i c)).run Tryz.prog w.drew= .ok (cs.take (i*3)).toArray w.drew:=by
  rw[au];exact run_firstCells_some w.drew 3 i ⟨b,off,none⟩ i c (cs.take (i*3)) (by rw[BB];omega) (λj v O=>by
   rw[Addr.add_lit];rw[Lv] at O;split at O
   .exact hcs j v O
   .cases O)
 have aa: ∀ty,(Builtin.append_ #[47,3] ty #[.slice (some ⟨b,off,none⟩) i c,.int .i64 ((n:Int)+1 - (i:Int))]).run Tryz.prog w=
  .ok (.slice (some ⟨w.heap.size,0,none⟩) (n+1) (grownCap w (n+1) c 115)) (w.drew.alloc (.cells ((cs.take (i*3)).toArray++Builtin.zeroCells z3 (n+1 - i)++Builtin.zeroCells z3 (grownCap w (n+1) c 115 - (n+1))) 115)):=λty=>by
  have h:=Lib.run_append_grow_zeros w 47 3 ty 115 i0 _ .i64 .i64 aj u3 an aq (some ⟨b,off,none⟩) i c (cs.take (i*3)) ac (n+1 - i) (by omega) (by omega) (by omega) (by omega) (by rw[ai];omega) (by rw[ai,af];exact growslice_fits ag (by omega));rw[af] at h;rw[ao];exact h
 obtain⟨G,hG⟩: ∃G,G=grownCap w (n+1) c 115:=⟨_,rfl⟩;obtain⟨z,hROW⟩: ∃z:Array Value,z=(cs.take (i*3)).toArray++Builtin.zeroCells z3 (n+1 - i)++Builtin.zeroCells z3 (G - (n+1)):=⟨_,rfl⟩;rw[<-hG] at aa⊢;rw[<-hROW] at aa⊢;have a8:(n+1)*3<=z.size:=by
  rw[hROW];simp[Builtin.zeroCells,z3];omega
 obtain⟨Z,hW1⟩: ∃Z,Z=w.drew.alloc (.cells z 115):=⟨_,rfl⟩;rw[<-hW1] at aa;have hN: ∀j,j<(n+1)*3->(Z.cell? ⟨w.heap.size,j,none⟩).isSome=true:=λj O=>by
  rw[hW1,World.cell?_alloc_at (w:=w.drew) z _ w.heap.size j rfl,GY (by omega)];rfl
 have ak: ∀j,Z.frozen? ⟨w.heap.size,j,none⟩=false:=λj=>by rw[hW1];exact World.frozen?_alloc_at (w:=w.drew) z _ w.heap.size j rfl
 have az: ∀j v,w.cell? ⟨b,j,none⟩=some v->Z.cell? ⟨b,j,none⟩=some v:=λj v h=>by rw[hW1,World.cell?_alloc_past (w:=w.drew) _ b j ba];exact h
 have a0: ∀j v,w.cell? ⟨vb,j,none⟩=some v->Z.cell? ⟨vb,j,none⟩=some v:=λj v h=>by rw[hW1,World.cell?_alloc_past (w:=w.drew) _ vb j bc];exact h
 have am: ∀(W:World),(∀x,W.cell? x=Z.cell? x)->(∀x,W.frozen? x=Z.frozen? x)-> ∀ty dc,(Builtin.copy_ #[47,47] ty #[.slice (some ⟨w.heap.size,i*3,none⟩) (n+1 - i) dc,.slice (some ⟨vb,voff,none⟩) 1 vc]).run Tryz.prog W= .ok (goInt (Nat.min 1 (n+1 - i))) (W.setCells w.heap.size (i*3) vs):=λW Q ad ty dc=>
  zP W _ _ ty 115 3 w.heap.size (i*3) (n+1 - i) dc ⟨vb,voff,none⟩ 1 vc vs aj ah (by rw[hvl];simp only[Zft];split<;>omega)
   (λj v O=>by rw[Addr.add_lit,Q];exact a0 _ v (hvs j v O))
   (λj O=>by rw[Q];exact hN _ (by omega)) (λj O=>by rw[ad];exact ak _) h1v
 have bg:n+1<=G:=by rw[hG];exact grownCap_ge w _ _ _
 have bd:G<=9223372036854775807:=by
  have:=grownCap_le_maxLen w (n+1) c 115 (by unfold maxLen;omega)
  rw[<-hG] at this;unfold maxLen at this;omega
 have bf: ¬(G=i):=by omega
 have be: ¬(G=i+1):=by omega
 have bj: ¬(c=i):=by omega
 have a9:b≠w.heap.size:=by omega
 have bb:(cs.drop (i*3)).length=n*3 - i*3:=by rw[Ce,hcl]
 have ab: ∀(W:World),(∀x,W.cell? x=(Z.setCells w.heap.size (i*3) vs).cell? x)->(∀x,W.frozen? x=(Z.setCells w.heap.size (i*3) vs).frozen? x)-> ∀ty dc sc,(Builtin.copy_ #[47,47] ty #[.slice (some ⟨w.heap.size,(i+1)*3,none⟩) (n - i) dc,.slice (some ⟨b,off+i*3,none⟩) (n - i) sc]).run Tryz.prog W= .ok (goInt (Nat.min (n - i) (n - i))) (W.setCells w.heap.size ((i+1)*3) (cs.drop (i*3))):=λW Q ad ty dc sc=>
  zP W _ _ ty 115 3 w.heap.size ((i+1)*3) (n - i) dc ⟨b,off+i*3,none⟩ (n - i) sc (cs.drop (i*3)) aj ah (by rw[bb];simp only[Zft];split<;>omega)
   (λj v O=>by
    rw[Addr.add_lit,Q,World.cell?_setCells_out _ _ _ _ _ (λh _=>absurd h a9),Gg];exact az _ v (hcs (i*3+j) v (by rwa [EQ] at O)))
   (λj O=>by rw[Q];exact isSome_setCells _ _ _ _ (λt ht=>hN _ (by omega)) _ (hN _ (by omega)))
   (λj O=>by rw[ad,World.frozen?_setCells];exact ak _) (λv hv=>h1c v (ZdK hv))
 subst hW1;have av: ∀x,((w.alloc (.cells z 115)).drew).cell? x=(w.drew.alloc (.cells z 115)).cell? x:=λx=>rfl
 have aw: ∀x,((w.alloc (.cells z 115)).drew).frozen? x=(w.drew.alloc (.cells z 115)).frozen? x:=λx=>rfl
 have ax: ∀x,(((w.alloc (.cells z 115)).drew.setCells w.heap.size (i*3) vs).drew).cell? x=((w.drew.alloc (.cells z 115)).setCells w.heap.size (i*3) vs).cell? x:=λx=>rfl
 have ay: ∀x,(((w.alloc (.cells z 115)).drew.setCells w.heap.size (i*3) vs).drew).frozen? x=((w.drew.alloc (.cells z 115)).setCells w.heap.size (i*3) vs).frozen? x:=λx=>rfl
 have bn:IntKind.i64.wrap ((i:Int)+1)=(i:Int)+1:=by rw[IntKind.wrap_i64];omega
 have bo:IntKind.i64.wrap ((n:Int)+1)=(n:Int)+1:=by rw[IntKind.wrap_i64];omega
 have bp:IntKind.i64.wrap ((n:Int)+1 - (i:Int))=(n:Int)+1 - (i:Int):=by rw[IntKind.wrap_i64];omega
 have bh:(0:Int)<=(i:Int)+1:=by omega
 have bl:i<=n:=by omega
 have bm:((i:Int)+1).toNat=i+1:=by omega
 have bi:(i:Int)<=(n:Int):=by omega
 have Dd:Tryz.prog.follows .mixedOrders=true:=by kernel_rfl
 clear ao af ac hROW hG a8 ah an aq au ai
 go_enter Tryz.func73,Tryz.ntmps73
 go_wp2_with (first
  |(at_builtin;refine Lib.wpList_append_run _ rfl _ _ _ _ rfl _ _ rfl rfl _ _ (aa _) ?_)
  |(at_builtin;refine wpList_copy_runI _ rfl _ _ 47 47 rfl _ _ rfl rfl (am _ av aw _ _) ?_)
  |(at_builtin;refine wpList_copy_runI _ rfl _ _ 47 47 rfl _ _ rfl rfl (ab _ (λ_=>rfl) (λ_=>rfl) _ _ _) ?_))
 go_region_law_o (refine step_copy_runI rfl _ _ 47 47 rfl (.slice (some ⟨w.heap.size,(i+1)*3,none⟩) (n - i) (G - (i+1))) (.slice (some ⟨b,off+i*3,none⟩) (n - i) (c - i)) (by simp[Act.eval,Act.put]) (by simp[Act.eval,Act.put]) (ab _ ax ay 3 (G - (i+1)) (c - i)) ?_)
 go_wp2
 go_ret
 exact⟨rfl,rfl⟩
def Qyy{A:Type}{L cs r0:List A}{off:Nat}(h:L.drop off=cs++r0)(z:off<=L.length)(j:Nat)(O:j<=cs.length):L.take (off+j)=L.take off++cs.take j:=by
 rw[aQ,h,ZcZ O]
def WO.here{w w':World}{b n T k off c:Nat}{cs:List Value}(hb:b<w.heap.size)(hn:n<=c)(h1:w'.heap.size=w.heap.size)(z:w'.os=w.os)(O:w'.tape=w.tape)(Q:w'.output=w.output)
 (Z: ∀x,x≠b->w'.heap[x]? =w.heap[x]?)(h6: ∃cv,w'.heap[b]? =some (.cells cv T (0,0))/\off+c*k<=cv.size/\ ∃r,cv.toList.drop off=cs++r):WO w w' b n T k cs b off c:=
 ⟨hn,.inl rfl,by omega,by omega,z,O,Q,λx _ hx=>Z x hx,h6⟩
section
variable {w:World}{b off n c:Nat}{cs vs:List Value}{cv:Array Value}
def OX(hb:b<w.heap.size)(ac:w.heap[b]? =some (.cells cv 115 (0,0)))(ag:off+c*3<=cv.size){r0:List Value}(hr:cv.toList.drop off=cs++r0)(hcl:cs.length=n*3)(hvl:vs.length=3)(i:Nat)(hi:i<n)(O:n+1<=c):
 WO w ((w.drew.setCells b (off+(i+1)*3) (cs.drop (i*3))).setCells b (off+i*3) vs) b (n+1) 115 3 (cs.take (i*3)++vs++cs.drop (i*3)) b off c:=by
 have Z:w.drew.heap[b]? =some (.cells cv 115 (0,0)):=ac;have af:(cs.drop (i*3)).length=n*3 - i*3:=by rw[Ce,hcl]
 obtain⟨z,a1,a2⟩:=lH b (cs.drop (i*3)) (off+(i+1)*3) w.drew cv 115 (0,0) Z (by omega);have aa:z.toList.length=cv.size:=by
  rw[a2];simp only[C9,BB,Ce,Dg];omega
 obtain⟨Q,b1,b2⟩:=lH b vs (off+i*3) _ z 115 (0,0) a1 (by rw[Dg] at aa;omega);have ad:Q.toList.length=cv.size:=by
  rw[b2];simp only[C9,BB,Ce,aa];omega
 obtain⟨r1,r2,r3,r4⟩:=lG b (cs.drop (i*3)) (off+(i+1)*3) w.drew;obtain⟨s1,s2,s3,s4⟩:=lG b vs (off+i*3) (w.drew.setCells b (off+(i+1)*3) (cs.drop (i*3)));refine WO.here hb O (s1.trans r1) (s2.trans r2) (s3.trans r3) (s4.trans r4) (λx hx=>(lF b _ _ _ x hx).trans (lF b _ _ _ x hx)) ⟨Q,b1,by rw[Dg] at ad;omega,cv.toList.drop (off+(i+1)*3+(cs.drop (i*3)).length),?_⟩;have ab:off<=cv.toList.length:=by rw[Dg];omega
 have e1:z.toList.take (off+i*3)=cv.toList.take off++cs.take (i*3):=by
  rw[a2,EK,ZcZ (by rw[BB,Dg];omega),Zfr,show min (off+i*3) (off+(i+1)*3)=off+i*3 by omega];exact Qyy hr ab _ (by omega)
 have e2:z.toList.drop (off+i*3+vs.length)=cs.drop (i*3)++cv.toList.drop (off+(i+1)*3+(cs.drop (i*3)).length):=by
  rw[a2,hvl,EK,nH (by rw[BB,Dg];omega),CS (by rw[BB];omega),Fq]
 rw[b2,e1,e2,EK,EK,nH (by rw[BB];omega),CS (by rw[BB];omega),Fq];simp only[EK]
def Qtv(hb:b<w.heap.size)(Z:w.heap[b]? =some (.cells cv 115 (0,0)))(ab:off+c*3<=cv.size){r0:List Value}(hr:cv.toList.drop off=cs++r0)(hcl:cs.length=n*3)(hvl:vs.length=3)(z:n+1<=c):
 WO w (w.setCells b (off+n*3) vs) b (n+1) 115 3 (cs.take (n*3)++vs++cs.drop (n*3)) b off c:=by
 obtain⟨O,a1,a2⟩:=lH b vs (off+n*3) w cv 115 (0,0) Z (by omega);have aa:O.toList.length=cv.size:=by
  rw[a2];simp only[C9,BB,Ce,Dg];omega
 obtain⟨r1,r2,r3,r4⟩:=lG b vs (off+n*3) w;refine WO.here hb z r1 r2 r3 r4 (λx hx=>lF b _ _ _ x hx) ⟨O,a1,by rw[Dg] at aa;omega,cv.toList.drop (off+n*3+vs.length),?_⟩;have Q:off<=cv.toList.length:=by rw[Dg];omega
 rw[a2,Qyy hr Q _ (by omega),EK,EK,nH (by rw[BB];omega),CS (by rw[BB];omega),Fq];rw[CS (show cs.length<=n*3 by omega),D2];simp only[EK]
def Qye(k:Nat):(Builtin.zeroCells z3 k).size=k*3:=by simp[Builtin.zeroCells,z3]
def Qme(hb:b<=w.heap.size)(hcl:cs.length=n*3)(hvl:vs.length=3){G:Nat}(hG:n+1<=G):
 WO w (w.drew.alloc (.cells ((cs++vs).toArray++Builtin.zeroCells #[.int .i64 0,.int .i64 0,.int .i64 0] (G - (n+1))) 115)) b (n+1) 115 3 (cs.take (n*3)++vs++cs.drop (n*3)) w.heap.size 0 G:=by
 have hz:=Qye (G - (n+1));obtain⟨z,hROW⟩: ∃z:Array Value,z=(cs++vs).toArray++Builtin.zeroCells #[.int .i64 0,.int .i64 0,.int .i64 0] (G - (n+1)):=⟨_,rfl⟩;rw[<-hROW];have Q:0+G*3<=z.size:=by
  rw[hROW,ZeN,Ky,C9,hcl,hvl];show 0+G*3<=n*3+3+(Builtin.zeroCells z3 (G - (n+1))).size;omega
 have O:z.toList.drop 0=cs.take (n*3)++vs++cs.drop (n*3)++(Builtin.zeroCells #[.int .i64 0,.int .i64 0,.int .i64 0] (G - (n+1))).toList:=by
  rw[hROW,F8,wS,DE (show cs.length<=n*3 by omega),CS (show cs.length<=n*3 by omega),D2]
 have hS:(w.drew.alloc (.cells z 115)).heap.size=w.heap.size+1:=by simp only[World.alloc,World.drew,Array.size_push]
 refine⟨hG,.inr rfl,by omega,by omega,rfl,rfl,rfl,λx Z _=> ?_,z,?_,Q,_,O⟩
 .simp only[World.alloc,World.drew];rw[ZeY Z,GY Z]
 .simp only[World.alloc,World.drew];exact ZeM
def TF(hb:b<w.heap.size)(hcl:cs.length=n*3)(hvl:vs.length=3)(i:Nat)(hi:i<n){G:Nat}(hG:n+1<=G):
 WO w ((((w.alloc (.cells ((cs.take (i*3)).toArray++Builtin.zeroCells z3 (n+1 - i)++Builtin.zeroCells z3 (G - (n+1))) 115)).drew.setCells w.heap.size (i*3) vs).drew).setCells w.heap.size ((i+1)*3) (cs.drop (i*3))) b (n+1) 115 3 (cs.take (i*3)++vs++cs.drop (i*3)) w.heap.size 0 G:=by
 obtain⟨z,hROW⟩: ∃z:Array Value,z=(cs.take (i*3)).toArray++Builtin.zeroCells z3 (n+1 - i)++Builtin.zeroCells z3 (G - (n+1)):=⟨_,rfl⟩;rw[<-hROW];have ad:=Qye (n+1 - i);have af:=Qye (G - (n+1));have ag:z.size=G*3:=by
  rw[hROW,ZeN,ZeN,Ky,BB,ad,af];omega
 have ab:z.toList.take (i*3)=cs.take (i*3):=by
  rw[hROW,wS,wS,EK,ZcZ (by rw[BB];omega),Zfr,Nat.min_self]
 have ah:(cs.drop (i*3)).length=n*3 - i*3:=by rw[Ce,hcl]
 have h0:(w.alloc (.cells z 115)).drew.heap[w.heap.size]? =some (.cells z 115 (0,0)):=by
  simp only[World.alloc,World.drew];exact ZeM
 obtain⟨O,a1,a2⟩:=lH w.heap.size vs (i*3) _ z 115 (0,0) h0 (by omega);have Z:O.toList.length=z.size:=by
  rw[a2];simp only[C9,BB,Ce,Dg];omega
 have aa:((w.alloc (.cells z 115)).drew.setCells w.heap.size (i*3) vs).drew.heap[w.heap.size]? =some (.cells O 115 (0,0)):=a1;obtain⟨Q,b1,b2⟩:=lH w.heap.size (cs.drop (i*3)) ((i+1)*3) _ O 115 (0,0) aa (by rw[Dg] at Z;omega);have ac:Q.toList.length=z.size:=by
  rw[b2];simp only[C9,BB,Ce,Z];omega
 obtain⟨r1,r2,r3,r4⟩:=lG w.heap.size vs (i*3) (w.alloc (.cells z 115)).drew;obtain⟨s1,s2,s3,s4⟩:=lG w.heap.size (cs.drop (i*3)) ((i+1)*3) ((w.alloc (.cells z 115)).drew.setCells w.heap.size (i*3) vs).drew;have hs:((w.alloc (.cells z 115)).drew).heap.size=w.heap.size+1:=by simp only[World.alloc,World.drew,Array.size_push]
 have hS:=s1.trans (r1.trans hs);refine⟨hG,.inr rfl,by omega,by omega,s2.trans r2,s3.trans r3,s4.trans r4,λx hx _=> ?_,Q,b1,by rw[Dg] at ac;omega,O.toList.drop ((i+1)*3+(cs.drop (i*3)).length),?_⟩
 .refine (lF _ _ _ _ x (by omega)).trans ((lF _ _ _ _ x (by omega)).trans ?_);simp only[World.alloc,World.drew];rw[ZeY hx,GY hx]
 .have e1:O.toList.take ((i+1)*3)=cs.take (i*3)++vs:=by
   rw[a2,ZcZ (by rw[C9,BB,Dg];omega),DE (by rw[C9,BB];omega),ab]
  rw[F8,b2,e1]
end
end Go.Proofs
namespace Go.Ae
open Go.Proofs Go.Sort Go.Shelf
def Gm(l:List Aj)(i:Nat)(x:Aj):List Aj:=l.take i++[x]++l.drop i
def uM(l r:List Aj):Dx (l++r)=Dx l++Dx r:=by simp[Dx]
def Qz5: ∀(l:List Aj) (i:Nat),Dx (l.take i)=(Dx l).take (i*3)
 |[],i=>by simp[Dx]
 |x::r,0=>by simp[Dx]
 |x::r,i+1=>by
  rw[Qp,show x::r.take i=[x]++r.take i from rfl,show x::r=[x]++r from rfl,uM,uM,Qz5 r i,show (i+1)*3=(Dx [x]).length+i*3 by rw[mH];simp;omega,List.take_length_add_append]
def Qza: ∀(l:List Aj) (i:Nat),Dx (l.drop i)=(Dx l).drop (i*3)
 |[],i=>by simp[Dx]
 |x::r,0=>by simp[Dx]
 |x::r,i+1=>by
  rw[Lu,show x::r=[x]++r from rfl,uM,Qza r i,show (i+1)*3=(Dx [x]).length+i*3 by rw[mH];simp;omega,List.drop_length_add_append]
def XO(l:List Aj)(i:Nat)(x:Aj):Dx (Gm l i x)=(Dx l).take (i*3)++BU x++(Dx l).drop (i*3):=by
 rw[Gm,uM,uM,Qz5,Qza];simp[Dx]
def XP{l:List Aj}: ∀v∈Dx l,v.oneCell'=true:=by
 intro v z;simp only[Dx,Zej,BU,Bh,aO,VJ] at z;obtain⟨x,_,rfl|rfl|rfl⟩:=z<;>rfl
def SD(l:List Aj)(i:Nat)(x:Aj):(Gm l i x).length=l.length+1:=by
 simp only[Gm,C9,BB,Ce,nC];omega
def insC.ca(a:List Aj×Nat×Aj):List AV:=[.own 0,.im (.int .i64 a.2.1),.own 1]
def insC.H0(a:List Aj×Nat×Aj):Ap:=[(0,(true,.arr 115 3 (a.1.map Aj.c))),(1,(true,.arr 115 3 [Aj.c a.2.2]))]
def insC.H1(a:List Aj×Nat×Aj):Ap:=[(2,(true,.arr 115 3 ((Gm a.1 a.2.1 a.2.2).map Aj.c)))]
def insC.row:A7:=AB insC.ca insC.H0 2 (λa=>a.2.1<=a.1.length/\a.1.length<=100000) (λj=>j==0) (λ_=> .own 2) insC.H1 1
def insC.ok:AC 73 insC.row:=by
 rintro args h nx K ⟨⟨l,i,x⟩,τ,U,KL,a0,rfl,aj,hN,hK⟩;refine⟨Lp (by kernel_rfl),_,_,?_,hK⟩;intro C S vs R hW a8 aq ax ai bf;simp only at a0;obtain⟨hi,ay⟩:=a0;have bm:BE τ 2 nx 0=τ 0:=Ai (by omega);have bn:BE τ 2 nx 1=τ 1:=Ai (by omega);have bo:BE τ 2 nx 2=nx:=by rw[BE,Af (by omega)];rfl
 simp only[insC.ca,AH,AV.ren,bm,bn,AJ,Aa,rd] at ai;obtain⟨v0,r0,hv,⟨bw,am⟩,v1,r1,bz,b9,v2,r2,b0,⟨bx,bb⟩,b8⟩:=ai;subst b8 b0 b9 bz;have hvs:vs= #[v0,.int .i64 i,v2]:=by apply Ix;simpa using hv
 subst hvs;have ao:Ak (insC.H0 (l,i,x)) 0=true:=rfl;have be:Ak (insC.H0 (l,i,x)) 1=true:=rfl;have ah:S.h (τ 0)=some (true,.arr 115 3 (l.map Aj.c)):=by
  rw[a8 (τ 0) (GZ _ (hN.u 0 ao))]
  have:=aj.1
  rwa [bm] at this
 have aw:S.h (τ 1)=some (true,.arr 115 3 [Aj.c x]):=by
  rw[a8 (τ 1) (GZ _ (hN.u 1 be))]
  have:=aj.2.1
  rwa [bn] at this
 have ba: ∀n,n∈KL↔n=τ 0:=by
  intro n;constructor
  .intro hn;obtain⟨j,h1,h2,h3⟩:=hN.k1 n hn
   have:j=0:=by simpa using h2
   rw[h3,this]
  .rintro rfl;exact hN.k2 0 ao rfl
 have bj:τ 0≠τ 1:=λh=>by have:=hN.inj 0 1 ao be h;omega
 have bi:=hN.lt 0 ao;have bl:S.h nx=none:=aq nx ⟨AL _,wG _⟩;have bt: ∀n f,S.h n=some f->nx∉f.2.nms:=λn f hf ak=>ax n f hf nx ak ⟨AL _,wG _⟩
 obtain⟨m,hmm⟩: ∃m,m=τ 0:=⟨_,rfl⟩;rw[<-hmm] at ah am ba bj bi;have bh:=SD l i x;have fin: ∀(w':World) (lo:Ff),Ij S nx (.arr 115 3 ((Gm l i x).map Aj.c)) (some lo) [m] w'->
  An (S.one nx (.arr 115 3 ((Gm l i x).map Aj.c)) (some lo) [m] w') (some lo) (.arr 115 3 ((Gm l i x).map Aj.c))->R (.returned (.slice (some ⟨lo.b,lo.p,none⟩) (l.length+1) lo.cap)) w':=by
  intro w' lo az bv;have hp:=WC hW az;refine bf _ _ (ZY hW az bv) ?_ ⟨hp.ok,λn hn=>hp.nm n (.inr (λh=>hn (by rw[h];exact⟨AL _,wG _⟩)))⟩ ?_
  .funext n;simp only[Au.one,Bk.appf,insC.H1,AS,bo,hget,Ab.ren];by_cases hn:n=nx
   .subst hn;simp
   .have h1:(nx==n)=false:=by simpa using λh=>hn h.symm
    simp only[h1,Bm,hn,Cr,Bz];by_cases h2:n=m
    .rw[Ai h2,FO.2 ((ba n).2 h2)];rfl
    .have h3:KL.contains n=false:=by rw[<-Gi,FO,ba];exact h2
     rw[Af h2,h3];rfl
  .simp only[AV.ren,bo,Aa];refine⟨rfl,λe he=> ?_⟩;simp only[Au.one,BI] at he⊢;obtain rfl:=Ay he;simp only[Ab.len,Fc,bh]
 have Q:=hW.obj _ _ aw;have ad:=bb _ aw;cases hρ1:S.ρ (τ 1) with
 |none=>rw[hρ1] at Q;simp only[An] at Q;cases Q.2
 |some l1=>
 rw[hρ1] at Q ad;simp only[An,Ab.len,nC] at Q ad;obtain⟨_,p2,pv,p3,p4,p5⟩:=Q;obtain⟨cc,_⟩:=hW.loc _ _ l1 aw hρ1;rw[show [Aj.c x]=[x].map Aj.c from rfl,mF] at p5;obtain⟨bc,p5⟩:=p5;have ac:S.w.heap[l1.b]? =some (.cells pv 115 (0,0)):=p3;have hvl:(BU x).length=3:=rfl;have an: ∀j v,(BU x)[j]? =some v->S.w.cell? ⟨l1.b,l1.p+j,none⟩=some v:=by
  intro j v hj;have a9:j<3:=by
   rcases ER j 3 with h|h
   .exact h
   .rw[E9 (by rw[hvl];exact h)] at hj;cases hj
  have h1:(pv.toList.drop l1.p)[j]? =(Dx [x]++bc)[j]? :=by rw[p5]
  rw[EQ,Gd,Dj (by rw[mH];simpa using a9)] at h1;simp only[World.cell?,ac,Rk,CE,Cr];rw[h1];simpa[Dx] using hj
 have h1v: ∀v∈BU x,v.oneCell'=true:=by
  intro v hv;simp only[BU,Bh,aO,VJ] at hv;rcases hv with rfl|rfl|rfl<;>rfl
 have hcl:(Dx l).length=l.length*3:=mH l;have ab:=hW.obj _ _ ah;have Z:=am _ ah;have done: ∀(b:Nat) (w':World) (b' off' c':Nat),(∀lo,S.ρ m=some lo->lo.b=b)->(b<S.w.heap.size-> ∃lo,S.ρ m=some lo)->WO S.w w' b (l.length+1) 115 3 ((Dx l).take (i*3)++BU x++(Dx l).drop (i*3)) b' off' c'->R (.returned (.slice (some ⟨b',off',none⟩) (l.length+1) c')) w':=by
  intro b w' b' off' c' af ag hO;obtain⟨cv,q1,q2,q3⟩:=hO.row;refine fin w' ⟨b',off',c'⟩ ⟨hO.os,hO.tape,hO.output,hO.size,?_,.inr bl,?_,?_,?_⟩ ?_
  .intro y hy bu;refine hO.keep y hy (λcb=> ?_);subst cb;obtain⟨lo,O⟩:=ag hy;exact bu m _ lo (by simp) ah O (af lo O)
  .intro lo O;obtain rfl:=Ay O;refine⟨hO.lt,?_⟩;rcases hO.wh with h|h
   .rcases ER b S.w.heap.size with bd|bd
    .obtain⟨lo,O⟩:=ag bd;exact .inr ⟨m,_,lo,by simp,ah,O,(af lo O).trans h.symm⟩
    .exact .inl (by simp only;omega)
   .exact .inl (by simp only;omega)
  .intro f hf;rw[bl] at hf;cases hf
  .intro n f hf _;exact bt n f hf
  .simp only[An,Fc,bh];refine⟨by simp only[Hy];omega,hO.cap,cv,q1,q2,?_⟩;rw[mF,XO];exact q3
 rw[ad];cases hρ:S.ρ m with
 |none=>
  rw[hρ] at Z ab;simp only[An] at ab;have ha:l=[]:=by simpa using ab.2
  subst ha;have br:i=0:=by simpa using hi
  subst br;simp only at Z;rw[Z];refine (Tryz.ins_end_grow (w:=S.w) (base:=none) (n:=0) (c:=0) (vb:=l1.b) (voff:=l1.p) (cs:=[]) (vs:=BU x) rfl hvl (AL _) (by omega) (by omega) (λ_=>rfl) (λa ha=>by cases ha) an h1v l1.cap).mono ?_;rintro e w' ⟨rfl,rfl⟩;exact done S.w.heap.size _ _ _ _ (λlo O=>by rw[hρ] at O;cases O) (λh=>absurd h (ZeV _)) (Qme (cs:=[]) (n:=0) (AL _) rfl hvl (grownCap_ge S.w _ _ _))
 |some lc=>
  rw[hρ] at Z ab;simp only[An,Ab.len,Fc] at ab Z;obtain⟨g1,g2,cv,g3,g4,g5⟩:=ab;obtain⟨av,_⟩:=hW.loc _ _ lc ah hρ;rw[mF] at g5;obtain⟨bp,g5⟩:=g5;have z:S.w.heap[lc.b]? =some (.cells cv 115 (0,0)):=g3;have hvb:l1.b≠lc.b:=λh=>bj (hW.inj _ _ _ _ lc l1 ah aw hρ hρ1 h.symm rfl)
  have hcs: ∀j v,(Dx l)[j]? =some v->S.w.cell? ⟨lc.b,lc.p+j,none⟩=some v:=by
   intro j v hj;have a9:j<(Dx l).length:=by
    rcases ER j (Dx l).length with h|h
    .exact h
    .rw[E9 h] at hj;cases hj
   have h1:(cv.toList.drop lc.p)[j]? =(Dx l++bp)[j]? :=by rw[g5]
   rw[EQ,Gd,Dj a9] at h1;simp only[World.cell?,z,Rk,CE,Cr];rw[h1,hj]
  have ak: ∀(h:0<lc.cap),I9 S.w lc.b lc.p l.length lc.cap l1.b l1.p (Dx l) (BU x):=λcd=>by
   refine⟨hcl,hvl,g2,ay,hvb,hcs,?_,?_,an,XP,h1v,⟨_,_,by simp only[World.shape?,ac];rfl⟩,⟨_,_,by simp only[World.shape?,z];rfl,by omega⟩⟩
   .intro j hj;simp only[World.cell?,z,Rk,CE,Cr];rw[GY (by omega)];rfl
   .rintro y j (rfl|rfl)
    .simp[World.frozen?,z]
    .simp[World.frozen?,ac]
  have af: ∀lo,S.ρ m=some lo->lo.b=lc.b:=λlo O=>by rw[hρ] at O;rw[Ay O]
  have ag:lc.b<S.w.heap.size-> ∃lo,S.ρ m=some lo:=λ_=>⟨lc,hρ⟩
  rw[Z];by_cases au:i<l.length
  .by_cases aa:l.length+1<=lc.cap
   .refine (Tryz.ins_shift (ak (by omega)) i au aa l1.cap).mono ?_;rintro e w' ⟨rfl,rfl⟩;exact done lc.b _ _ _ _ af ag (OX av z g4 g5 hcl hvl i au aa)
   .refine (Tryz.ins_grow (ak (by omega)) i au (by omega) l1.cap).mono ?_;rintro e w' ⟨rfl,rfl⟩;exact done lc.b _ _ _ _ af ag (TF av hcl hvl i au (grownCap_ge S.w _ _ _))
  .have bg:i=l.length:=by omega
   subst bg;by_cases aa:l.length+1<=lc.cap
   .refine (Tryz.ins_end_room (ak (by omega)) aa l1.cap).mono ?_;rintro e w' ⟨rfl,rfl⟩;exact done lc.b _ _ _ _ af ag (Qtv av z g4 g5 hcl hvl aa)
   .refine (Tryz.ins_end_grow (w:=S.w) (base:=some ⟨lc.b,lc.p,none⟩) (n:=l.length) (c:=lc.cap) (vb:=l1.b) (voff:=l1.p) (cs:=Dx l) (vs:=BU x) hcl hvl g2 ay (by omega) (λh=>by cases h) (λa ha=> ?_) an h1v l1.cap).mono ?_
    .obtain rfl:=Ay ha;intro j v hj;rw[Addr.add_lit];exact hcs j v hj
    .rintro e w' ⟨rfl,rfl⟩;exact done lc.b _ _ _ _ af ag (Qme (Nat.le_of_lt av) hcl hvl (grownCap_ge S.w _ _ _))
end Go.Ae
namespace Go.Ae
open Go.Proofs
def Ma(p:Ac)(t:Int): ∀(l:List Aj) (q:Option Ac),De q l=true->(∀x∈l,x.At≠p)->Gm l (ET l p) ⟨p,t⟩=CH p t l
 |[],_,_,_=>rfl
 |x::r,q,h,hn=>by
  have Q:=hn x (BM ..);simp only[Vw,AN] at h;have ih:=Ma p t r (some x.At) h.2.2.2 (λy Z=>hn y (BP _ Z));simp only[CH];by_cases z:Bl x.At p=true
  .have O:Bl p x.At=false:=by
    simp only[Bl] at z⊢;grind
   rw[O,Af (by simp),<-ih];simp[ET,z,Gm]
  .rw[Gi] at z;rw[Ai (Qq4 z Q)];simp[ET,z,Gm]
def wth_.fv(a:Ad×Ac×Int):Ad:=(λa p t=>⟨CH p t a.Tiles⟩) (a.1) (a.2.1) (a.2.2)
def wth_.row:A7:=vK (b3 (qR Ad.d_le) (qR Ac.d_le) qI) (rA Ad.d_le) (λa=>De none a.1.Tiles=true/\DA a.2.1=true/\BG a.1 a.2.1<0/\a.1.Tiles.length<=500) wth_.fv
def wth_.q:=AY (R:=wth_.row) rfl
def wth_.ok:AC 35 wth_.row:=by
 refine vw (tC BinP.ok (tC clonC.ok (tC insC.ok tN))) Tryz.func35 ?_;intro a O;simp only[Tryz.f35];simp only[ZA,simprocAttr,wth_.fv,BinP.q,BinP.ar,BinP.fv];obtain⟨Q,h2,h3,h4⟩:=O;refine⟨Q,AB.os a.1.Tiles [] (by omega) (λj=>by simp[Ak,hget]) rfl rfl ?_ ?_⟩
 .simp only[ZA,simprocAttr,clonC.ca,CL]
 simp only[ZA,simprocAttr,clonC.H1];have hb:ET a.1.Tiles a.2.1<=a.1.Tiles.length:=(List.takeWhile_prefix _).length_le;have Z:=Rv Q h3;refine AB.os (a.1.Tiles,ET a.1.Tiles a.2.1,⟨a.2.1,a.2.2⟩) [3,23] ⟨hb,by simp only;omega⟩ (λj=> ?_) rfl rfl ?_ ?_
 .simp only[Ak,insC.H0,hget];by_cases hj:j=0
  .subst hj;simp
  .by_cases z:j=1
   .subst z;simp
   .have e1:(0==j)=false:=by simpa using λh=>hj h.symm
    have e2:(1==j)=false:=by simpa using λh=>z h.symm
    simp[e1,e2];omega
 .simp only[ZA,simprocAttr,insC.ca,insC.H0,CL,Ef,Ht]
 simp only[ZA,simprocAttr,Ad.d,insC.H1];rw[Ma a.2.1 a.2.2 a.1.Tiles none Q Z]
def YA{s:AM}{t:List (Ac×Int)}{a:Ad}{k:Nat}{o:A9}(h:RM t a k)(ha:Il s.Set a)(c1:C6 s a o=true):Bx t o.At=none/\0<=o.Tile:=by
 simp only[C6,AN,Bq] at c1;obtain⟨d1,z,O,_⟩:=c1;have hv:0<=o.Tile:=by
  simp only[AX,AN,Bq] at z;exact z.1
 refine⟨?_,hv⟩;have Q:CK t o.At=BG a o.At:=congrFun h.at o.At;have h2:=(QH ha.2 o.At).1 O;cases hq:Bx t o.At with
 |none=>rfl
 |some v=>
  exfalso;have Z:=h.pos _ (cE hq);simp only[CK,hq,AP] at Q;simp only at Z;omega
def X6(s:AM)(b:Ad)(c:Dz):Prop:=c.Sys=s/\(∃n,RM c.Tl b n)/\N4 s (CK c.Tl) c.Op/\Il s.Set b/\b.Tiles.length<=500/\Ct s.Set/\1<=s.Temperature/\s.Set.Tiles.length<=160
def X6.put{s:AM}{b:Ad}{c:Dz}(h:X6 s b c){o:A9}(O:C6 s b o=true)(hl:b.Tiles.length<500):X6 s (Cg b o.At o.Tile) (putT c o.At o.Tile):=by
 obtain⟨rfl,⟨n,z⟩,Q,hb,h5,h1,hT,Z⟩:=h;obtain⟨f1,f2⟩:=YA z hb O;obtain⟨z1,z2,z3,z4,z5,z6⟩:=Ow O;exact⟨rfl,⟨_,z.put f2 f1⟩,jQ Q z3,iG Z hb O,by rw[TO];omega,h1,hT,Z⟩
def X7{s:AM}{a:Ad}(c1:GV s=true)(Q:D1 s.Set a=true):newC.pre (s,a)/\X6 s a (aC s a):=by
 obtain⟨⟨q1,q2,q3,_⟩,q5,_⟩:=cF c1;obtain⟨z,h4⟩:=Kj Q;have O:=Qof (s:=s.Set) (a:=a) (by rw[q5,Q];rfl);have Z:1<=s.Temperature:=by
  simp only[GV,AX,AN,Bq] at c1;exact c1.2.2.2.1.1
 exact⟨⟨q1,by simp only;omega,λy hy=>⟨z.2 y hy,O.1.2.2.2 y hy⟩⟩,rfl,⟨_,RM.of z.1 λx hx=>(z.2 x hx).1⟩,jP Z,z,h4,q1,Z,q3⟩
def Md{s:Az}(hs:DT s=true){a:Ad}(h:D1 s a=true)(Q:1<=a.Tiles.length):1<=a.Tiles.length/\a.Tiles.length<=1000/\ ∀x∈a.Tiles,DA x.At=true/\0<=x.Tile/\x.Tile<=1000:=by
 have hl:=Qws hs;have h2:=(Kj h).2;refine⟨Q,by omega,λx O=> ?_⟩;have z:=h;simp only[D1,AN,Bq,CA] at z;have Z:=z.2 x O;simp only[AX,AN,Bq] at Z;exact⟨(V5 _ _ z.1.1 x O).1,by omega,by omega⟩
def RA{s:AM}{a:Ad}{o:A9}(h:C6 s a o=true):DA o.At=true/\BG a o.At<0:=by
 simp only[C6,AN,Bq] at h;refine⟨h.1,?_⟩;have z:=Qma h.2.2.1;have O:a.Tiles.find? (λx=>decide (x.At=o.At))=none:=aL.2 λx Q=>by simpa using z x Q
 simp only[BG,O,Zfk,wH];decide
def Dr(W:List Bc):List (List AV):=Be (W.map λf=>[J5 (Cl W f).ch])
def eG(W:List Bc):(Dr W).length=W.length:=by simp[Dr,Be]
def Zs{W:List Bc}{j:Nat}{f:Bc}(hf:W[j]? =some f)(K:List AV->Prop):Ih (Dr W) j K=K [.im (.ref (Dv.c (Cl W f)))]:=by
 have h:(Dr W)[j]? =some [.im (.ref (Dv.c (Cl W f)))]:=by
  simp[Dr,Be,hf,KZ]
 unfold Ih;rw[h];apply propext;exact⟨λg=>g _ rfl,λg r z=>by rw[<-Ay z];exact g⟩
def NP(F:List Nat)(H:Ap)(W:List Bc):D5 F H (Dr W)=Dr W:=cY F H _
def QL(π:List (Nat×Option Nat))(W:List Bc):Gq π (Dr W) (Dr W)=True:=aT (mZ π _)
def Y9(a:AE×Ad×Ad×Ad×Int):List A9×Int:=Jy a.1 a.2.2.1 a.2.2.2.1 a.2.2.2.2 401 0 [⟨a.2.1,-1,o0⟩]
def rlI.ca(a:AE×Ad×Ad×Ad×Int):List AV:=[.im (.agg (AE.c a.1)),.im (.agg (Ad.c a.2.1)),.im (.agg (Ad.c a.2.2.1)),.im (.agg (Ad.c a.2.2.2.1)),.im (.int .i64 a.2.2.2.2)]
def rlI.H1(a:AE×Ad×Ad×Ad×Int):Ap:=[(0,(true,.arr 58 3 ((Y9 a).1.map A9.c)))]
def rlI.r0(a:AE×Ad×Ad×Ad×Int):AV:= .tup [.own 0,.im (.int .i64 (Y9 a).2)]
def rlI.pre(a:AE×Ad×Ad×Ad×Int):Prop:=Fk a.1=true/\D1 a.1.Big.Set a.2.1=true/\1<=a.2.1.Tiles.length/\1<=a.2.2.2.2/\a.2.2.2.2<=400
def rlI.row:A7:=AB rlI.ca (λ_=>[]) 0 rlI.pre (λ_=>false) rlI.r0 rlI.H1 2000
def rlI.ok:AC 34 rlI.row:=by
 refine VO (tC key_.ok (tC newC.ok (tC lisC.ok (tC wth_.ok (tC rep_.ok (tC SameAsm.ok (tC wayO.ok tN))))))) Tryz.func34 (exB:=λj=>j==0) (R:=λa r=>r=rlI.r0 a) (λ_=>rfl)
  (λa=>by simp[rlI.ca,AE.c,Ad.c,AF,AV.bel,Aw,B9,BS]) (λa p hp=> ?_) (λa r h=>by subst h;exact CU.refl _) ?_
 rotate_left
 intro a ao;simp only[Tryz.f34,rlI.ca,AE.c,Ad.c];simp only[ZA,simprocAttr,Ad.d,C3,key_.q,key_.fv,Ad.c];rotate_left
 .simp[rlI.H1] at hp;subst hp;exact .inr ⟨CC _,by omega,rfl,rfl⟩
 obtain⟨m,s,x,g,most⟩:=a;obtain⟨h1,h2,h3,h4,h5⟩:=ao;simp only at h1 h2 h3 h4 h5⊢;have ac:=Wz h1;have O:=eE ac;refine⟨by simp[AF,AV.bel],Md O h2 h3,?_⟩;obtain⟨R,hR⟩: ∃R,R=Y9 (m,s,x,g,most):=⟨_,rfl⟩;have ay:E8 [⟨s,-1,o0⟩]:=λj f hf=>by
  cases j with
  |zero=>simp at hf;rw[<-hf];simp only;omega
  |succ j=>simp at hf
 refine AT.frr ⟨{q:Nat×List Bc//q.1<=q.2.length/\((∀f∈q.2,D1 m.Big.Set f.A=true/\1<=f.A.Tiles.length)/\E8 q.2/\1<=q.2.length/\(q.2.length:Int)<=most)/\Jy m x g most (401 - q.1) q.1 q.2=R},λq=>⟨[(14,.im (.int .i64 q.1.1)),(13,.mp 8),(12,.own 9),(8,.ptr 3 0),(7,.ptr 2 0),(5,.ptr 0 0),(4,.im (.int .i64 most))],[(8,(true,.map ⟨false,[.str]⟩ (JG (q.1.2.map λf=>Jh f.A)))),(9,(true,.arrA 133 1 (Dr q.1.2))),(3,(true,.cells 49 [.im (.sl false 3 (g.Tiles.map Aj.c))])),(2,(true,.cells 49 [.im (.sl false 3 (x.Tiles.map Aj.c))])),(0,(true,.cells 53 [.im (.sl false 2 (m.Big.Set.Glues.map Am.c)),.im (.sl false 2 (m.Big.Set.Tiles.map Tile.c)),.im (.sl false 3 (m.Big.Seed.Tiles.map Aj.c)),.im (.int .i64 m.Big.Temperature),.im (.sl false 2 (m.Small.Set.Glues.map Am.c)),.im (.sl false 2 (m.Small.Set.Tiles.map Tile.c)),.im (.sl false 3 (m.Small.Seed.Tiles.map Aj.c)),.im (.int .i64 m.Small.Temperature),.im (.int .i64 m.Scale),.im (.sl false 1 (m.Labels.map Al))]))],10⟩,λq=>401 - q.1.1,λq=>⟨?_,by simp⟩,⟨⟨(0,[⟨s,-1,o0⟩]),CC _,⟨λf hf=>by rw[Bz.1 hf];exact⟨h2,h3⟩,ay,AL _,h4⟩,hR.symm⟩,[5,4000000005],[(8,some 7),(9,some 6)],?_⟩,λq=> ?_⟩
 .simp[ZG,Dr,mW]
 .simp only[Aq];simp only[ZA,simprocAttr,Bs,Dr,Be,J5,Dv.ch,Cl,J6,JG];rfl
 obtain⟨⟨j,W⟩,q1,⟨g1,g2,g3,g4⟩,q3⟩:=q;simp only at q1 g1 g2 g3 g4 q3;simp only[ZA,simprocAttr,FK,AO,eG];refine λ_=>⟨λc3=>⟨c3,c3,?_⟩,λc3=> ?_⟩
 rotate_left
 .rw[MW (E9 (by omega))] at q3;have hq:Y9 (m,s,x,g,most)=([],3):=by rw[<-hR,q3]
  refine⟨[],[(0,some 10)],⟨[(11,.im (.int .i64 3)),(10,.own 0)],[(0,(true,.arr 58 3 []))],1⟩,?_,by simp[ZG],by simp,?_⟩
  .simp only[Aq];simp only[ZA,simprocAttr]
  .simp only[ZA,simprocAttr,rlI.H1,rlI.r0,hq]
 obtain⟨f,hf⟩: ∃f,W[j]? =some f:=⟨_,Bi c3⟩;obtain⟨ah,bh⟩:=g1 f (AZ hf);have Z:=Kj ah;obtain⟨v,hv⟩: ∃v,v=Cl W f:=⟨_,rfl⟩;have ai:v.A=f.A:=by rw[hv];rfl
 have hvl:v.Up.length<=1000:=by rw[hv];have:=Ns (W:=W) (f.From.toNat+1) f.From;have:=g2 j f hf;simp only[Cl];omega
 rw[Zs hf,<-hv];simp only[ZA,simprocAttr,Dv.c,ai];obtain⟨a9,aw⟩:=X7 ac ah;refine AB.os (m.Big,f.A) [] a9 (λj=>by simp[Ak,hget]) rfl rfl ?_ ?_
 .simp only[ZA,simprocAttr,Ad.c,newC.ca,CL,AM.c,Ad.c]
 simp only[ZA,simprocAttr,newC.H1];obtain⟨hcs,⟨_,bd⟩,bb,hb,av,bf,hT,aj⟩:=aw;have ag:=bb;rw[bd.at] at ag;obtain⟨l1,l2,l3⟩:=jO hT av aj ag;refine AB.os (aC m.Big f.A) [14,12,13] l2 (λj=>pS _ j) rfl rfl ?_ ?_
 .simp only[ZA,simprocAttr,Ec,asmC.ca,Hg,Fb,Ef,Ht,hcs]
 simp only[ZA,simprocAttr,lisC.r0,l1];rw[UB hf (by omega)] at q3;have ba:=dM m.Big Z.2 aj;have an: ∀p∈EM m.Big f.A,C6 m.Big f.A p=true:=λp hp=>Mx Z.1 hp
 obtain⟨os,hos⟩: ∃os,os=EM m.Big f.A:=⟨_,rfl⟩;rw[<-hos] at ba an q3⊢;refine AT.frr ⟨{q:Nat×List Bc//q.1<=os.length/\((∀f∈q.2,D1 m.Big.Set f.A=true/\1<=f.A.Tiles.length)/\E8 q.2/\1<=q.2.length/\(q.2.length:Int)<=most)/\(W.length<=q.2.length/\q.2[j]? =some f/\Cl q.2 f=v)/\JT m x g most j f (Jy m x g most (400 - j) (j+1)) (os.drop q.1) q.2=R},λq=>⟨[(49,.im (.int .i64 q.1.1)),(48,.im (.int .i64 os.length)),(47,.im (.sl false 3 (os.map A9.c))),(15,.im (.ref [.sl false 3 (f.A.Tiles.map Aj.c),J5 v.Up,.int .i64 v.By.At.X,.int .i64 v.By.At.Y,.int .i64 v.By.Tile])),(14,.im (.int .i64 j)),(13,.mp 8),(12,.own 35),(8,.ptr 3 0),(7,.ptr 2 0),(5,.ptr 0 0),(4,.im (.int .i64 most))],[(8,(true,.map ⟨false,[.str]⟩ (JG (q.1.2.map λf=>Jh f.A)))),(35,(true,.arrA 133 1 (Dr q.1.2))),(3,(true,.cells 49 [.im (.sl false 3 (g.Tiles.map Aj.c))])),(2,(true,.cells 49 [.im (.sl false 3 (x.Tiles.map Aj.c))])),(0,(true,.cells 53 [.im (.sl false 2 (m.Big.Set.Glues.map Am.c)),.im (.sl false 2 (m.Big.Set.Tiles.map Tile.c)),.im (.sl false 3 (m.Big.Seed.Tiles.map Aj.c)),.im (.int .i64 m.Big.Temperature),.im (.sl false 2 (m.Small.Set.Glues.map Am.c)),.im (.sl false 2 (m.Small.Set.Tiles.map Tile.c)),.im (.sl false 3 (m.Small.Seed.Tiles.map Aj.c)),.im (.int .i64 m.Small.Temperature),.im (.int .i64 m.Scale),.im (.sl false 1 (m.Labels.map Al))]))],36⟩,λq=>os.length - q.1.1,λq=>⟨?_,by simp⟩,⟨⟨(0,W),CC _,⟨g1,g2,g3,g4⟩,⟨AL _,hf,hv.symm⟩,q3⟩,[],[(35,some 9)],?_⟩,λq=> ?_⟩
 .simp[ZG,Dr,mW]
 .simp only[Aq];simp only[ZA,simprocAttr,Bs,NP,QL]
 obtain⟨⟨k,V⟩,r1,⟨k1,k2,k3,k4⟩,⟨r2,r3,r4⟩,z⟩:=q;simp only at r1 k1 k2 k3 k4 r2 r3 r4 z;have aa:IntKind.i64.wrap ((k:Int)+1)=((k+1:Nat):Int):=by rw[AD (by omega) (by omega)];rfl
 simp only[ZA,simprocAttr,Ad.d,C3,key_.q,key_.fv,wth_.q,wth_.fv,rep_.q,rep_.fv,SameAsm.q,SameAsm.fv,FK,Ec,AE.c,Ad.c,AO];refine⟨λc4=>⟨c4,λp hp=>λ_=> ?_⟩,λc4=> ?_⟩;rotate_left
 .rw[CS (by omega),JT] at z;refine⟨⟨(j+1,V),by simp only;omega,⟨k1,k2,k3,k4⟩,by simp only;rw[show 401 - (j+1)=400 - j by omega];exact z⟩,[],[(9,some 35)],by simp only;omega,?_⟩;simp only[Aq];simp only[ZA,simprocAttr,Bs,NP,QL];rw[AD (by omega) (by omega)];rfl
 rw[F5 hp] at z;have ad:=an p (AZ hp);refine⟨λc5=> ?_,λc5=> ?_⟩
 .rw[JT,Ai (by omega)] at z;have hq:Y9 (m,s,x,g,most)=([],4):=by rw[<-hR,z]
  refine⟨[],[(0,some 37)],⟨[(11,.im (.int .i64 4)),(10,.own 0)],[(0,(true,.arr 58 3 []))],1⟩,?_,by simp[ZG],by simp,?_⟩
  .simp only[Aq];simp only[ZA,simprocAttr]
  .simp only[ZA,simprocAttr,rlI.H1,rlI.r0,hq]
 rw[JT,Af (by omega)] at z;have hn:=TQ O ah ad (by omega);obtain⟨T,hTT⟩: ∃T,CH p.At p.Tile f.A.Tiles=T:=⟨_,rfl⟩;have bg:T.length=f.A.Tiles.length+1:=by rw[<-hTT,tY]
 obtain⟨N,hN⟩: ∃N:Ad,N=⟨T⟩:=⟨_,rfl⟩;have bc:Cg f.A p.At p.Tile=N:=by rw[Ra,hTT,hN]
 rw[bc] at hn z;have ak:1<=N.Tiles.length:=by rw[hN];simp only;omega
 have au:T=N.Tiles:=by rw[hN]
 have am:=RA ad;have ax:De none f.A.Tiles=true:=Z.1.1;simp only[hTT,au];have a0:=Md O hn ak;refine⟨⟨ax,am.1,am.2,Z.2⟩,sQ h1 hn,a0,?_⟩;cases c6:(BD m N).2 with
 |false=>
  rw[Af (λh=>by rw[c6] at h;exact absurd h.1 (by decide)),Ai (.inl c6)] at z;simp only[CE,xB,Xp,gT,wZ];refine⟨⟨(k+1,V),by simp only;omega,⟨k1,k2,k3,k4⟩,⟨r2,r3,r4⟩,z⟩,[],[],by simp only;omega,?_⟩;simp only[Aq];simp only[ZA,simprocAttr,Bs,NP,QL,aa]
 |true=>
  by_cases c7:(BD m N).1=g
  .rw[Ai ⟨c6,c7⟩] at z;simp only[c7,wZ,wF,xB,gZ];refine AB.os ⟨N,v.ch,p⟩ [37] (by simp only[Dv.ch,Cv];omega) (λj=> ?_) rfl rfl ?_ ?_
   .simp only[Ak,wayO.H0,hget];by_cases hj:j=0
    .subst hj;simp
    .have:(0==j)=false:=by simpa using λh=>hj h.symm
     rw[this];simp;omega
   .simp only[ZA,simprocAttr,Ec,wayO.ca,wayO.H0,CL,Ef,KZ,Dv.c,ai]
    try exact⟨rfl,rfl⟩
   have hw:PU ⟨N,v.ch,p⟩=Zx V j p:=by rw[<-r4];exact lC k2 r3 N p
   have hq:Y9 (m,s,x,g,most)=(Zx V j p,0):=by rw[<-hR,z]
   simp only[ZA,simprocAttr,FK,wayO.H1,Br,hw];refine⟨[],[(0,some 39)],⟨[(11,.im (.int .i64 0)),(10,.own 0)],[(0,(true,.arr 58 3 ((Zx V j p).map A9.c)))],1⟩,?_,by simp[ZG],by simp,?_⟩
   .simp only[Aq];simp only[ZA,simprocAttr]
   .simp only[ZA,simprocAttr,rlI.H1,rlI.r0,hq]
  rw[Af (λh=>c7 h.2)] at z;by_cases c8:(BD m N).1=x
  case neg=>
   rw[Ai (.inr c8)] at z;simp only[c7,c8,wZ,wF,gT,xB,Xp,gZ];refine⟨⟨(k+1,V),by simp only;omega,⟨k1,k2,k3,k4⟩,⟨r2,r3,r4⟩,z⟩,[],[],by simp only;omega,?_⟩;simp only[Aq];simp only[ZA,simprocAttr,Bs,NP,QL,aa]
  rw[Af (λh=>h.elim (λh=>by rw[c6] at h;cases h) (λh=>h c8))] at z;have c9: ¬x=g:=λh=>c7 (c8.trans h)
  simp only[c8,c9,wZ,wF,gT,xB,Xp,gZ];rw[Qum];have af:Jh ⟨N.Tiles⟩∈V.map (λf=>Jh f.A)↔N∈V.map Bc.A:=by
   simp only[Bo];exact⟨λ⟨q,h1,h2⟩=>⟨q,h1,SJ h2⟩,λ⟨q,h1,h2⟩=>⟨q,h1,by rw[h2]⟩⟩
  refine⟨λQ=> ?_,λQ=> ?_⟩
  .rw[Ai (af.1 Q)] at z;simp only[ZA,simprocAttr];refine⟨⟨(k+1,V),by simp only;omega,⟨k1,k2,k3,k4⟩,⟨r2,r3,r4⟩,z⟩,[],[],by simp only;omega,?_⟩;simp only[Aq];simp only[ZA,simprocAttr,Bs,NP,QL,aa]
  .rw[Af (λh=>Q (af.2 h))] at z;simp only[ZA,simprocAttr,Qru _ _ Q];have a8:(Dr V++[[AV.ptr 37 0]]).length=V.length+1:=by simp[eG]
   have be:Dr (V++[(⟨N,(j:Int),p⟩:Bc)])=Dr V++[[.im (.ref (Dv.c ⟨N,v.ch,p⟩))]]:=by
    have e1:=PT k2 r3 N p;have e2:=PS k2 [(⟨N,(j:Int),p⟩:Bc)];simp only[Dr,ES,Bf,F9,e1,r4,Yb];have e3:(V.map λf=>[J5 (Cl (V++[(⟨N,(j:Int),p⟩:Bc)]) f).ch])=V.map λf=>[J5 (Cl V f).ch]:=by
     have:=BV (List.map λ(w:Dv)=>[J5 w.ch]) e2
     simpa only[Lw,Function.comp_def] using this
    rw[e3];rfl
   rw[a8];refine⟨by simp[AF,AV.bel],by rw[eG];omega,by rw[nJ,Dr,mW];simp[AF,AV.bel],λ_=>⟨λc=> ?_,λc=> ?_⟩⟩
   .rw[Ai (by omega)] at z;have hq:Y9 (m,s,x,g,most)=([],4):=by rw[<-hR,z]
    refine⟨[],[(0,some 41)],⟨[(11,.im (.int .i64 4)),(10,.own 0)],[(0,(true,.arr 58 3 []))],1⟩,?_,by simp[ZG],by simp,?_⟩
    .simp only[Aq];simp only[ZA,simprocAttr]
    .simp only[ZA,simprocAttr,rlI.H1,rlI.r0,hq]
   .rw[Af (by omega)] at z;have ab:(V++[(⟨N,(j:Int),p⟩:Bc)]).length=V.length+1:=by simp
    have az:(∀q∈V++[(⟨N,(j:Int),p⟩:Bc)],D1 m.Big.Set q.A=true/\1<=q.A.Tiles.length)/\E8 (V++[(⟨N,(j:Int),p⟩:Bc)])/\1<=(V++[(⟨N,(j:Int),p⟩:Bc)]).length/\((V++[(⟨N,(j:Int),p⟩:Bc)]).length:Int)<=most:=by
     refine⟨λq hq=> ?_,λi q hq=> ?_,by rw[ab];omega,by rw[ab];omega⟩
     .rcases Bn.1 hq with hq|hq
      .exact k1 q hq
      .rw[Bz.1 hq];exact⟨hn,ak⟩
     .by_cases c:i<V.length
      .rw[Dj c] at hq;exact k2 i q hq
      .have hi:=(BW.1 hq).1;rw[ab] at hi;obtain rfl:i=V.length:=by omega
       rw[E3 (AL _),Gh] at hq;obtain rfl:=Ay hq;simp only;omega
    refine⟨⟨(k+1,V++[⟨N,j,p⟩]),by simp only;omega,az,⟨by simp only[ab];omega,by simp only;rw[Dj (by omega)];exact r3,by simp only;rw[sG k2 _ r3,r4]⟩,z⟩,[37,4000000037],[(35,some 40)],by simp only;omega,?_⟩;simp only[Aq];simp only[ZA,simprocAttr,Bs,Qzl,NP,aa,ES];have aq:Dr V++[[AV.im (D.ref [D.sl false 3 (N.Tiles.map Aj.c),D.ref [D.sl false 3 (f.A.Tiles.map Aj.c),J5 v.Up,.int .i64 v.By.At.X,.int .i64 v.By.At.Y,.int .i64 v.By.Tile],D.int .i64 p.At.X,D.int .i64 p.At.Y,D.int .i64 p.Tile])]]=Dr (V++[(⟨N,(j:Int),p⟩:Bc)]):=by
     rw[be];simp only[Dv.c,KZ,ai]
    rw[aq];exact mZ _ _
def iP(m:AE)(a:Ad)(o:A9):Bool:=AX o.Tile 0 (m.Big.Set.Tiles.length - 1) && JI m.Big (CK (aC m.Big a).Tl) o.At o.Tile
def bV(p:Ac): ∀(l:List Aj) (t:List (Ac×Int)),(∃x∈l,x.At=p/\Bx (l.foldl (λt x=>B6 t x.At x.Tile) t) p=some x.Tile)\/((∀x∈l,x.At≠p)/\Bx (l.foldl (λt x=>B6 t x.At x.Tile) t) p=Bx t p)
 |[],t=> .inr ⟨by simp,rfl⟩
 |y::r,t=>by
  simp only[Xj];rcases bV p r (B6 t y.At y.Tile) with ⟨x,z,O,Z⟩|⟨z,O⟩
  .exact .inl ⟨x,BP _ z,O,Z⟩
  .rw[O,mY];by_cases h:p=y.At
   .rw[Ai h];exact .inl ⟨y,BM ..,h.symm,rfl⟩
   .rw[Af h];refine .inr ⟨λx Q=> ?_,rfl⟩;rcases Bh.1 Q with rfl|Q
    .exact E5 h
    .exact z x Q
def zK{a:Ad}(hf:De none a.Tiles=true):CK (CB a.Tiles)=BG a:=by
 funext p;rcases bV p a.Tiles [] with ⟨x,z,O,Z⟩|⟨z,O⟩
 .simp only[CK,CB,Z,AP,BG];cases hq:a.Tiles.find? (λx=>decide (x.At=p)) with
  |none=>
   have:=aL.1 hq x z
   simp[O] at this
  |some y=>
   have Q:=gV hq;simp only[Bq] at Q
   have:=Tu (Qix hf) x z y (nI hq) (O.trans Q.symm)
   rw[this];rfl
 .have:a.Tiles.find? (λx=>decide (x.At=p))=none:=by
   rw[aL];intro x hx;simpa using z x hx
  simp only[CK,CB,O,BG,this];rfl
def XN{m:AE}{a:Ad}(h:Il m.Big.Set a)(o:A9):iP m a o=C6 m.Big a o:=by
 have e:CK (aC m.Big a).Tl=BG a:=zK h.1;simp only[iP,JI,C6,e,cM];have z:decide (BG a o.At<0)=decide (BO (λx=>decide (x.At=o.At)) 0 a.Tiles<0):=by rw[decide_eq_decide];exact (QH h.2 o.At).symm
 rw[z];cases DA o.At<;>cases AX o.Tile 0 (m.Big.Set.Tiles.length - 1)<;>simp
def XM{m:AE}{s:AM}{a:Ad}(h:Il s.Set a)(o:A9)(z:FX s.Set o.Tile):JI s (CK (aC s a).Tl) o.At o.Tile=C6 s a o:=by
 have:=XN (m:={m with Big:=s}) h o
 simp only[iP] at this;rw[<-this];have O:AX o.Tile 0 (s.Set.Tiles.length - 1)=true:=by
  simp only[AX,AN,Bq];exact⟨z.1,by have:=z.2;omega⟩
 rw[O,Eg]
def Qat5(m:AE)(a:Ad):lL m a=if Fk m=true/\D1 m.Big.Set a=true then 0 else 1:=by
 simp only[lL,YP];by_cases c1:Fk m=true
 .rw[Af (by rw[c1];decide),eE (Wz c1),Eg];by_cases z:D1 m.Big.Set a=true
  .rw[Af (by rw[z];decide),Ai ⟨c1,z⟩]
  .rw[Ai (by simpa using z),Af (λh=>z h.2)]
 .rw[Ai (by simpa using c1),Af (λh=>c1 h.1)]
def sJ(s:Az)(p:Ac)(t:Int): ∀k,JD s ⟨[]⟩ p t k=0
 |0=>rfl
 |k+1=>by rw[JD,sJ s p t k];simp[Kb,BG]
def X1{s:AM}(h:1<=s.Temperature)(o:A9):C6 s ⟨[]⟩ o=false:=by
 simp only[C6,sJ];rw[wK (show ¬s.Temperature<=0 by omega)];simp
def Y8{m:AE}{a:Ad}(h:a.Tiles.length=0):(BD m a).1=⟨[]⟩:=by
 simp only[BD,h,G4]
def Pu{m:AE}(h:Fk m=true):1<=m.Small.Temperature:=by
 simp only[Fk,GV,AX,AN,Bq] at h;exact h.2.1.2.2.2.1.1
def reaI.ca(a:AE×Ad×A9×Int):List AV:=[.im (.agg (AE.c a.1)),.im (.agg (Ad.c a.2.1)),.im (.agg (A9.c a.2.2.1)),.im (.int .i64 a.2.2.2)]
def reaI.F(a:AE×Ad×A9×Int):List A9×Int:=HS a.1 a.2.1 a.2.2.1 a.2.2.2
def reaI.H1(a:AE×Ad×A9×Int):Ap:=[(0,(true,.arr 58 3 ((reaI.F a).1.map A9.c)))]
def reaI.r0(a:AE×Ad×A9×Int):AV:= .tup [.own 0,.im (.int .i64 (reaI.F a).2)]
def reaI.row:A7:=AB reaI.ca (λ_=>[]) 0 (λa=>Qf a.1.Big.Set/\Qf a.1.Small.Set) (λ_=>false) reaI.r0 reaI.H1 5000
def reaI.ok:AC 10 reaI.row:=by
 refine VO (tC simCode_.ok (tC simN_.ok (tC rep_.ok (tC isTile.ok (tC newC.ok (tC fitsC.ok (tC wth_.ok (tC rlI.ok tN)))))))) Tryz.func10 (exB:=λj=>j==0) (R:=λa r=>r=reaI.r0 a) (λ_=>rfl)
  (λa=>by simp[reaI.ca,AE.c,Ad.c,A9.c,AF,AV.bel,Aw,B9,BS]) (λa p hp=> ?_) (λa r h=>by subst h;exact CU.refl _) ?_
 rotate_left
 intro a Z;simp only[Tryz.f10,reaI.ca,AE.c,Ad.c,A9.c];simp only[ZA,simprocAttr,Ad.d,C3,simCode_.q,simCode_.fv,simN_.q,simN_.fv,rep_.q,rep_.fv,isTile.q,isTile.fv,FK,AE.c,Ad.c];rotate_left
 .simp[reaI.H1] at hp;subst hp;exact .inr ⟨CC _,by omega,rfl,rfl⟩
 obtain⟨m,a,o,most⟩:=a;simp only at Z⊢;refine⟨Z,?_⟩;have O:=Qat5 m a;by_cases c1:Fk m=true/\D1 m.Big.Set a=true
 case neg=>
  rw[Af c1] at O;have z:reaI.F (m,a,o,most)=([],1):=by simp only[reaI.F,HS];rw[Af c1]
  rw[Ai (by rw[O];decide)];simp only[O];refine⟨[],[(0,some 4)],⟨[(9,.im (.int .i64 1)),(8,.own 0)],[(0,(true,.arr 58 3 []))],1⟩,?_,by simp[ZG],by simp,?_⟩
  .simp only[Aq];simp only[ZA,simprocAttr]
  .simp only[ZA,simprocAttr,reaI.H1,reaI.r0,z]
 rw[Ai c1] at O;rw[Af (λh=>h O)];by_cases c2:AX most 1 400=true
 case neg=>
  have z:reaI.F (m,a,o,most)=([],2):=by simp only[reaI.F,HS];rw[Ai c1,Ai (by simpa using c2)]
  rw[Ai (by simpa using c2)];refine⟨[],[(0,some 4)],⟨[(9,.im (.int .i64 2)),(8,.own 0)],[(0,(true,.arr 58 3 []))],1⟩,?_,by simp[ZG],by simp,?_⟩
  .simp only[Aq];simp only[ZA,simprocAttr]
  .simp only[ZA,simprocAttr,reaI.H1,reaI.r0,z]
 rw[Af (by rw[c2];decide)];have ab:=sQ c1.1 c1.2;refine⟨ab,?_⟩;have Q:reaI.F (m,a,o,most)=FI m a o most:=by simp only[reaI.F,HS];rw[Ai c1,Af (by rw[c2];decide)]
 by_cases c3:(BD m a).2=true
 case neg=>
  have z:reaI.F (m,a,o,most)=([],7):=by rw[Q];simp only[FI];rw[Ai (by simpa using c3)]
  rw[Ai (by simpa using c3)];refine⟨[],[(0,some 5)],⟨[(9,.im (.int .i64 7)),(8,.own 0)],[(0,(true,.arr 58 3 []))],1⟩,?_,by simp[ZG],by simp,?_⟩
  .simp only[Aq];simp only[ZA,simprocAttr]
  .simp only[ZA,simprocAttr,reaI.H1,reaI.r0,z]
 rw[Af (by rw[c3];decide)];by_cases c4:AX o.Tile 0 (m.Small.Set.Tiles.length - 1)=true
 case neg=>
  have z:reaI.F (m,a,o,most)=([],5):=by
   rw[Q];simp only[FI];rw[Af (by rw[c3];decide),Ai (by simp only[C6,Gi] at c4⊢;rw[c4];simp)]
  rw[Af c4];refine⟨[],[(0,some 5)],⟨[(9,.im (.int .i64 5)),(8,.own 0)],[(0,(true,.arr 58 3 []))],1⟩,?_,by simp[ZG],by simp,?_⟩
  .simp only[Aq];simp only[ZA,simprocAttr]
  .simp only[ZA,simprocAttr,reaI.H1,reaI.r0,z]
 rw[Ai c4];obtain⟨X,hX⟩: ∃X,X=(BD m a).1:=⟨_,rfl⟩;have ad:=MG c1.1 c1.2;have ac:=Qgc ab;rw[<-hX] at ad ac⊢;have aa:newC.pre (m.Small,X):=⟨sV (tR c1.1),by have:=Qws (tR c1.1);simp only;omega,λy hy=>⟨ad.2 y hy,Qi (V5 _ _ ac y hy).1⟩⟩;refine AB.os (m.Small,X) [] aa (λj=>by simp[Ak,hget]) rfl rfl ?_ ?_
 .simp only[ZA,simprocAttr,Ad.c,newC.ca,CL,AM.c,Ad.c]
 simp only[ZA,simprocAttr,Ad.d,C3,fitsC.q,fitsC.fv,wth_.q,wth_.fv,FK,Ad.c,newC.H1];have ah:FX m.Small.Set o.Tile:=by
  simp only[AX,AN,Bq] at c4;exact⟨c4.1,by omega⟩
 rw[XM (m:=m) ad o ah];refine⟨⟨aa.1,(Oz aa).2.1,ah⟩,?_⟩;by_cases c5:C6 m.Small X o=true
 case neg=>
  have z:reaI.F (m,a,o,most)=([],5):=by
   rw[Q];simp only[FI];rw[Af (by rw[c3];decide),Ai (by rw[<-hX];simpa using c5)]
  rw[Ai (by simpa using c5)];refine⟨[],[(0,some 10)],⟨[(9,.im (.int .i64 5)),(8,.own 0)],[(0,(true,.arr 58 3 []))],1⟩,?_,by simp[ZG],by simp,?_⟩
  .simp only[Aq];simp only[ZA,simprocAttr]
  .simp only[ZA,simprocAttr,reaI.H1,reaI.r0,z]
 rw[Af (by rw[c5];decide)];have af:=RA c5;have ai:X.Tiles.length<=500:=by have h8:=Qr0 ab;have h9:=(Kj c1.2).2;rw[hX];omega
 refine⟨⟨ac,af.1,af.2,ai⟩,?_⟩;have aj:1<=a.Tiles.length:=by
  rcases gJ a.Tiles.length with h|h
  .rw[hX,Y8 h,X1 (Pu c1.1)] at c5;cases c5
  .exact h
 have ag:1<=most/\most<=400:=by simpa[AX] using c2
 have z:reaI.F (m,a,o,most)=Y9 (m,a,X,Cg X o.At o.Tile,most):=by
  rw[Q];simp only[FI];rw[Af (by rw[c3];decide),Af (by rw[<-hX,c5];decide),<-hX];rfl
 rw[show CH o.At o.Tile X.Tiles=(Cg X o.At o.Tile).Tiles by rw[Ra]];refine AB.os (m,a,X,Cg X o.At o.Tile,most) [] ⟨c1.1,c1.2,aj,ag.1,ag.2⟩ (λj=>by simp[Ak,hget]) rfl rfl ?_ ?_
 .simp only[ZA,simprocAttr,AE.c,Ad.c,rlI.ca,CL,AE.c,Ad.c]
 simp only[ZA,simprocAttr,FK,rlI.H1,rlI.r0];obtain⟨R,hR⟩: ∃R,R=Y9 (m,a,X,Cg X o.At o.Tile,most):=⟨_,rfl⟩;rw[<-hR] at z⊢;refine⟨[],[(0,some 10)],⟨[(9,.im (.int .i64 R.2)),(8,.own 0)],[(0,(true,.arr 58 3 (R.1.map A9.c)))],1⟩,?_,by simp[ZG],by simp,?_⟩
 .simp only[Aq];simp only[ZA,simprocAttr]
 .simp only[ZA,simprocAttr,reaI.H1,reaI.r0,z]
end Go.Ae
namespace Go.Ae
mutual
def JS:AV->Bool
 | .im d=>d.sc
 | .own _=>true
 | .agg cs=>EG cs
 | .tup cs=>EG cs
 | .any| .ptr _ _| .eptr _ _ _| .mp _| .ch _| .it _| .osl _ _ _| .clo _ _ _=>false
def EG:List AV->Bool
 |[]=>true
 |x::r=>JS x && EG r
end
def Pp:Ab->Bool
 | .arr _ _ rows=>rows.all λr=>r.all D.sc
 | .arrA _ _ rows=>rows.all EG
 | .cells _ cs=>EG cs
 | .map _ _| .chan _ _| .iter _ _| .view _=>false
def Fg{m:Nat}: ∀{rows:List (List AV)},m∈B5 rows↔ ∃r∈rows,m∈AA r
 |[]=>by simp[B5]
 |r::z=>by simp[B5,Fg (rows:=z)]
section
variable {S1 S':Au}{F:Nat->Prop}
mutual
def cQ(Z: ∀n,F n->S'.h n=S1.h n)(hr: ∀n,F n->S'.ρ n=S1.ρ n): ∀(x:AV) (v:Value),JS x=true->(∀m∈x.nms,F m)->Aa S1 x v->Aa S' x v
 | .im d,v,z,_,O=>by
   simp only[Aa] at O⊢;exact M7 (by simpa[JS] using z) O
 | .own o,v,_,Q,O=>by
   simp only[Aa] at O⊢;have h0:F o:=Q o (by simp[AV.nms]);rw[Z o h0,hr o h0];exact O
 | .agg cs,v,z,Q,O=>by
   simp only[Aa] at O⊢;obtain⟨vs,rfl,h⟩:=O;exact⟨vs,rfl,Wg Z hr cs _ (by simpa[JS] using z) (by simpa[AV.nms] using Q) h⟩
 | .tup cs,v,z,Q,O=>by
   simp only[Aa] at O⊢;obtain⟨vs,rfl,h⟩:=O;exact⟨vs,rfl,Wg Z hr cs _ (by simpa[JS] using z) (by simpa[AV.nms] using Q) h⟩
 | .any,_,z,_,_| .ptr _ _,_,z,_,_| .eptr _ _ _,_,z,_,_| .mp _,_,z,_,_| .ch _,_,z,_,_| .it _,_,z,_,_| .osl _ _ _,_,z,_,_| .clo _ _ _,_,z,_,_=>by simp[JS] at z
def Wg(Q: ∀n,F n->S'.h n=S1.h n)(hr: ∀n,F n->S'.ρ n=S1.ρ n): ∀(xs:List AV) (vs:List Value),EG xs=true->(∀m∈AA xs,F m)->AJ S1 xs vs->AJ S' xs vs
 |[],vs,_,_,z=>by simpa only[AJ] using z
 |x::r,vs,O,Z,z=>by
  simp only[AJ] at z⊢;obtain⟨v,q,rfl,h1,h2⟩:=z;simp only[EG,AN] at O;exact⟨v,q,rfl,cQ Q hr x v O.1 (λm h=>Z m (by simp[AA,h])) h1,Wg Q hr r q O.2 (λm h=>Z m (by simp[AA,h])) h2⟩
end
def pZ(Q: ∀n,F n->S'.h n=S1.h n)(hr: ∀n,F n->S'.ρ n=S1.ρ n): ∀(xs:List AV) (vs:List Value),EG xs=true->(∀m∈AA xs,F m)->Cu S1 xs vs->Cu S' xs vs
 |[],vs,_,_,_=>trivial
 |x::r,vs,z,Z,O=>by
  simp only[Cu] at O⊢;obtain⟨v,q,rfl,h1,h2⟩:=O;simp only[EG,AN] at z;exact⟨v,q,rfl,cQ Q hr x v z.1 (λm h=>Z m (by simp[AA,h])) h1,pZ Q hr r q z.2 (λm h=>Z m (by simp[AA,h])) h2⟩
def pY{k:Nat}(Z: ∀n,F n->S'.h n=S1.h n)(hr: ∀n,F n->S'.ρ n=S1.ρ n): ∀(z:List (List AV)) (vs:List Value),z.all EG=true->(∀r∈z,∀m∈AA r,F m)->BA S1 k z vs->BA S' k z vs
 |[],vs,_,_,_=>trivial
 |r::z,vs,Q,hm,O=>by
  simp only[BA] at O⊢;simp only[JL,AN] at Q;exact⟨O.1,pZ Z hr r _ Q.1 (hm r (BM ..)) O.2.1,pY Z hr z _ Q.2 (λq hq=>hm q (BP _ hq)) O.2.2⟩
def MB{ok ok':Nat->Prop}{hp hp':Nat->Option Obj}{k:Nat}: ∀(z:List (List D)) (vs:List Value),(z.all λr=>r.all D.sc)=true->rdr ok hp k z vs->rdr ok' hp' k z vs
 |[],_,_,_=>trivial
 |r::z,vs,Q,O=>by
  simp only[rdr] at O⊢;simp only[JL,AN] at Q;exact⟨O.1,KQ r _ Q.1 O.2.1,MB z _ Q.2 O.2.2⟩
def T5(hh: ∀n,F n->S'.h n=S1.h n)(hr: ∀n,F n->S'.ρ n=S1.ρ n)(hp:S'.hp=S1.hp)(l:Option Ff): ∀(e:Ab),Pp e=true->(∀m∈e.nms,F m)->An S1 l e->An S' l e
 | .arr T k rows,O,_,z=>by
   cases l with
   |none=>simpa only[An] using z
   |some lc=>
    simp only[An] at z⊢;obtain⟨Q,Z,vs,h3,h4,h5⟩:=z;exact⟨Q,Z,vs,by rw[hp];exact h3,h4,MB _ _ O h5⟩
 | .arrA T k rows,O,hm,z=>by
   cases l with
   |none=>simpa only[An] using z
   |some lc=>
    simp only[An] at z⊢;obtain⟨Q,Z,vs,h3,h4,h5⟩:=z;refine⟨Q,Z,vs,by rw[hp];exact h3,h4,pY hh hr _ _ O (λr ab m aa=>hm m ?_) h5⟩;simp only[Ab.nms];exact Fg.2 ⟨r,ab,aa⟩
 | .cells T cs,O,hm,z=>by
   simp only[An] at z⊢;obtain⟨lc,vs,Q,Z,h3,h4⟩:=z;exact⟨lc,vs,Q,Z,by rw[hp];exact h3,Wg hh hr _ _ O (λm h=>hm m (by simpa[Ab.nms] using h)) h4⟩
 | .map _ _,O,_,_| .chan _ _,O,_,_| .iter _ _,O,_,_| .view _,O,_,_=>by simp[Pp] at O
end
def Ws{A:Type}(ar:List PK->Option A)(pre:A->Prop)(r0:A->AV)(H1:A->Ap)(cnt nx:Nat)(u:List Nat)(K:Ah):Option (List PK)->Prop
 |some z=>DV (λa=>pre a/\K ((r0 a).ren (BE (λj=>j) 0 nx)) {use:=u,new:=AS (BE (λj=>j) 0 nx) (H1 a),cnt:=cnt}) (ar z)
 |none=>False
def FU{A:Type}(ar:List PK->Option A)(pre:A->Prop)(r0:A->AV)(H1:A->Ap)(cnt:Nat):A7:=λargs h nx K=>Ws ar pre r0 H1 cnt nx (EE h args) K (Cf h args)
def Y1(ds:List D):List PK:=ds.map PK.val
def qE{S:Au}: ∀(ds:List D) (vs:List Value),E7 S (Y1 ds) vs->AJ S (ds.map .im) vs
 |[],vs,h=>by simpa only[Y1,F9,E7,AJ] using h
 |d::r,vs,h=>by
  simp only[Y1,Bf,E7,AJ] at h⊢;obtain⟨v,q,rfl,z,O⟩:=h;exact⟨v,q,rfl,by simpa only[Aa,HY] using z,qE r q O⟩
def MF(σ:Nat->Nat): ∀(ds:List D),AH σ (ds.map AV.im)=ds.map AV.im
 |[]=>rfl
 |d::r=>by simp only[Bf,AH,AV.ren,MF σ r]
mutual
def Ua(σ:Nat->Nat): ∀x:AV,JS x=true->JS (x.ren σ)=true/\ ∀m∈(x.ren σ).nms,∃j∈x.nms,m=σ j
 | .im d,h=>⟨by simpa only[AV.ren] using h,by simp[AV.ren,AV.nms]⟩
 | .own o,_=>⟨by simp[AV.ren,JS],by simp[AV.ren,AV.nms]⟩
 | .agg cs,h=>by
   obtain⟨z,O⟩:=NJ σ cs (by simpa[JS] using h);exact⟨by simpa[AV.ren,JS] using z,by simpa[AV.ren,AV.nms] using O⟩
 | .tup cs,h=>by
   obtain⟨z,O⟩:=NJ σ cs (by simpa[JS] using h);exact⟨by simpa[AV.ren,JS] using z,by simpa[AV.ren,AV.nms] using O⟩
 | .any,h| .ptr _ _,h| .eptr _ _ _,h| .mp _,h| .ch _,h| .it _,h| .osl _ _ _,h| .clo _ _ _,h=>by simp[JS] at h
def NJ(σ:Nat->Nat): ∀xs:List AV,EG xs=true->EG (AH σ xs)=true/\ ∀m∈AA (AH σ xs),∃j∈AA xs,m=σ j
 |[],_=>⟨rfl,by simp[AH,AA]⟩
 |x::r,h=>by
  simp only[EG,AN] at h;obtain⟨Q,Z⟩:=Ua σ x h.1;obtain⟨h3,h4⟩:=NJ σ r h.2;refine⟨by simp only[AH,EG,Q,h3,gQ],λm z=> ?_⟩;simp only[AH,AA,Bn] at z⊢;rcases z with z|z
  .obtain⟨j,O,e⟩:=Z m z;exact⟨j,.inl O,e⟩
  .obtain⟨j,O,e⟩:=h4 m z;exact⟨j,.inr O,e⟩
end
def Y7(σ:Nat->Nat): ∀e:Ab,Pp e=true->Pp (e.ren σ)=true/\ ∀m∈(e.ren σ).nms,∃j∈e.nms,m=σ j
 | .arr T k rows,h=>⟨by simpa only[Ab.ren] using h,by simp[Ab.ren,Ab.nms]⟩
 | .arrA T k rows,h=>by
   simp only[Pp,CA] at h;refine⟨?_,?_⟩
   .simp only[Ab.ren,Pp,List.all_map,CA];exact λr O=>(NJ σ r (h r O)).1
   .intro m z;simp only[Ab.ren,Ab.nms] at z⊢;obtain⟨q,hq,z⟩:=Fg.1 z;obtain⟨r,O,rfl⟩:=Bo.1 hq;obtain⟨j,hj,e⟩:=(NJ σ r (h r O)).2 m z;exact⟨j,Fg.2 ⟨r,O,hj⟩,e⟩
 | .cells T cs,h=>by
   obtain⟨Q,Z⟩:=NJ σ cs (by simpa[Pp] using h);exact⟨by simpa[Ab.ren,Pp] using Q,by simpa[Ab.ren,Ab.nms] using Z⟩
 | .map _ _,h| .chan _ _,h| .iter _ _,h| .view _,h=>by simp[Pp] at h
def Vl{P:Program}{g:FuncId}{A:Type}{ah:A->List AV}{ca:A->List D}{pre:A->Prop}{klB:Nat->Bool}{r0:A->AV}{H1:A->Ap}{cnt:Nat}
 (aw:He P g=true)(be:H8 P g (AB ah (λ_=>[]) 0 pre klB r0 H1 cnt))(av: ∀a,ah a=(ca a).map AV.im)
 {ar:List PK->Option A}(bd: ∀ps a,ar ps=some a->Ca ps (Y1 (ca a)))
 (az: ∀a,JS (r0 a)=true/\ ∀m∈(r0 a).nms,m<cnt)
 (hH1: ∀a,∀p∈H1 a,p.1<cnt/\p.2.1=true/\Pp p.2.2=true/\ ∀m∈p.2.2.nms,m<cnt):
 H8 P g (FU ar pre r0 H1 cnt):=by
 intro args h nx K z;unfold FU at z;cases hp:Cf h args with
 |none=>rw[hp] at z;exact z.elim
 |some ps=>
  rw[hp] at z;simp only[Ws] at z;cases ha:ar ps with
  |none=>rw[ha] at z;exact z.elim
  |some a=>
   rw[ha] at z;simp only[DV] at z;obtain⟨ay,hK⟩:=z;refine⟨Lp aw,_,_,?_,hK⟩;intro C S vs RR hW a0 ac ad an ai;have bf:=Qtx hW args ps vs.toList (λm hm=>a0 m (GZ _ hm)) hp an;have ba:=mX hW;obtain⟨σ,hσ⟩: ∃σ:Nat->Nat,σ=BE (λj=>j) 0 nx:=⟨_,rfl⟩;have hσj: ∀j,σ j=nx+j:=λj=>by rw[hσ];simp[BE]
   rw[<-hσ] at ai;obtain⟨_,r,E,hT,rfl,rfl⟩:=be (ah a) (λ_=>none) nx (λr E=>r=(r0 a).ren σ/\E={use:=[],kill:=[],new:=AS σ (H1 a),cnt:=cnt})
    ⟨a,λj=>j,[],[],ay,by rw[av,MF],trivial,⟨by simp[Ak,hget],by simp[Ak,hget],by simp[Ak,hget],by simp,by simp[Ak,hget]⟩,by rw[hσ],by rw[hσ]⟩
   have bb:AJ S.froz (ah a) vs.toList:=by rw[av];exact qE _ _ ((bd ps a ha).c bf)
   refine hT (bA S) S.froz vs RR ba (by simp) (λn hn=> ?_) (λn e Z m hm hF=> ?_) bb ?_
   .have:=ac n hn
    show (S.h n).map _=none;rw[this];rfl
   .obtain⟨e0,O,rfl⟩:=lZ Z;exact ad n e0 O m hm hF
   intro v S1 aa bc _ ax;have aj: ∀n e,hget (AS σ (H1 a)) n=some e->Fr nx cnt n/\e.1=true/\Pp e.2=true/\ ∀m∈e.2.nms,Fr nx cnt m:=by
    intro n e Z;obtain⟨j,e0,O,Q,rfl⟩:=vY Z;obtain⟨g1,g2,g3,g4⟩:=hH1 a _ O;obtain⟨q1,q2⟩:=Y7 σ e0.2 g3;refine⟨by rw[<-Q,hσj];exact⟨by omega,by omega⟩,g2,q1,λm hm=> ?_⟩;obtain⟨i,hi,rfl⟩:=q2 m hm
    have:=g4 i hi
    rw[hσj];exact⟨by omega,by omega⟩
   have aq:S.w.heap.size<=S1.w.heap.size:=aa.size;have ab: ∀b,b<S.w.heap.size->S1.w.heap[b]? =S.w.heap[b]? :=λb hb=>aa.keep b hb (λh=>h)
   have au: ∀n,Fr nx cnt n->S.h n=none:=ac
   let E':Bk:={use:=EE h args,kill:=[],new:=AS σ (H1 a),cnt:=cnt}
   have ak: ∀n,E'.appf S.h n=match hget (AS σ (H1 a)) n with
    |some e=>some e
    |none=>S.h n:=λn=>by simp only[E',Bk.appf];rfl
   have a8: ∀n,S1.h n=match hget (AS σ (H1 a)) n with
    |some e=>some e
    |none=>S.froz.h n:=λn=>by rw[bc];simp only[Bk.appf];rfl
   let S':Au:=⟨λn=>if nx<=n/\n<nx+cnt then S1.ρ n else S.ρ n,S.ok,E'.appf S.h,S1.w⟩
   have am: ∀n,S'.h n=E'.appf S.h n:=λ_=>rfl
   have aF: ∀n,Fr nx cnt n->S'.h n=S1.h n:=by
    intro n hn;rw[am,ak,a8];cases hget (AS σ (H1 a)) n with
    |some e=>rfl
    |none=>
     show S.h n=(S.h n).map _;rw[au n hn];rfl
   have aR: ∀n,Fr nx cnt n->S'.ρ n=S1.ρ n:=λn hn=>Ai hn
   have oF: ∀n,¬Fr nx cnt n->S'.h n=S.h n:=by
    intro n hn;rw[am,ak];cases hq:hget (AS σ (H1 a)) n with
    |some e=>exact absurd (aj n e hq).1 hn
    |none=>rfl
   have oR: ∀n,¬Fr nx cnt n->S'.ρ n=S.ρ n:=λn hn=>Af hn
   have hp':Bv (λn=> ¬Fr nx cnt n) S S':=⟨λb hb=>⟨hb,ab b (hW.oks b hb)⟩,λo ho e' ao=>⟨e',by rw[<-oF o ho];exact ao,oR o ho,rfl,rfl⟩⟩;have nF: ∀n e,S.h n=some e-> ¬Fr nx cnt n:=λn e Z hn=>by rw[au n hn] at Z;cases Z
   have split: ∀o e,S'.h o=some e->(Fr nx cnt o/\S1.h o=some e/\S'.ρ o=S1.ρ o/\e.1=true/\Pp e.2=true/\ ∀m∈e.2.nms,Fr nx cnt m)\/(S.h o=some e/\S'.ρ o=S.ρ o):=by
    intro o e Z;by_cases hn:Fr nx cnt o
    .left;have O:S1.h o=some e:=by rw[<-aF o hn];exact Z
     have Q:=Z;rw[am,ak] at Q;cases hq:hget (AS σ (H1 a)) o with
     |some e1=>
      rw[hq] at Q;obtain rfl:=Ay Q;exact⟨hn,O,aR o hn,(aj o _ hq).2⟩
     |none=>
      rw[hq] at Q;exact absurd hn (nF o e Q)
    .right;exact⟨by rw[<-oF o hn];exact Z,oR o hn⟩
   have ag: ∀o e l,S1.h o=some e->S1.ρ o=some l->e.1=true->l.b<S1.w.heap.size/\S.w.heap.size<=l.b:=by
    intro o e l Z hl hm;obtain⟨Q,h3⟩:=aa.loc o e l Z hl;rw[hm] at h3;simp only[BI] at h3;exact⟨Q,h3.2.elim (λh=>h) (λh=>h.elim)⟩
   have a9:Wf C S':=by
    refine⟨aa.os.trans hW.os,aa.tape.trans hW.tape,aa.output.trans hW.output,DH hW.size aq,?_,hW.ok0,hW.ok1,λb hb=>EJ (hW.oks b hb) aq,?_,?_,?_,hW.gl⟩
    .intro b hb hM;exact (ab b (EJ hb hW.size)).trans (hW.keep b hb hM)
    .intro o e Z;rcases split o e Z with ⟨_,O,Q,_,h4,h5⟩|⟨O,Q⟩
     .rw[Q];exact T5 aF aR rfl _ e.2 h4 h5 (aa.obj o e O)
     .rw[Q];exact Ho hp' (λlc hl=>ab lc.b (hW.loc o e lc O hl).1) _ (λm hm hF=>ad o e O m hm hF) (hW.obj o e O)
    .intro o e l Z hl;rcases split o e Z with ⟨_,O,Q,h3,_⟩|⟨O,Q⟩
     .rw[Q] at hl;obtain⟨b1,b2⟩:=ag o e l O hl h3;refine⟨b1,?_⟩;rw[h3];simp only[BI];exact⟨λhk=>by have:=hW.oks _ hk;omega,.inl (DH hW.size b2)⟩
     .rw[Q] at hl;obtain⟨b1,b2⟩:=hW.loc o e l O hl;exact⟨EJ b1 aq,b2⟩
    .intro o o' e e' l l' Z ao hl af hb hm;rcases split o e Z with ⟨_,O,Q,h3,_⟩|⟨O,Q⟩<;>rcases split o' e' ao with ⟨_,k1,k2,k3,_⟩|⟨k1,k2⟩<;>rw[Q] at hl<;>rw[k2] at af
     .exact aa.inj o o' e e' l l' O k1 hl af hb hm
     .have:=(ag o e l O hl h3).2
      have:=(hW.loc o' e' l' k1 af).1
      omega
     .have:=(ag o' e' l' k1 af k3).2
      have:=(hW.loc o e l O hl).1
      omega
     .exact hW.inj o o' e e' l l' O k1 hl af hb hm
   obtain⟨q1,q2⟩:=Ua σ (r0 a) (az a).1;refine ai v S' a9 rfl hp' (cQ aF aR _ v q1 (λm hm=> ?_) ax);obtain⟨j,hj,rfl⟩:=q2 m hm
   have:=(az a).2 j hj
   rw[hσj];exact⟨by omega,by omega⟩
end Go.Ae
namespace Go.Ae
open Go.Proofs
def Qado(l:List Int)(i:Nat)(x:Int):(l.map Al).set i [.int .i64 x]=(l.set i x).map Al:=by rw[JM];rfl
def OJ(k:Int)(n:Nat):List Int:=(List.range n).map λ(i:Nat)=>k+(i:Int)
def cJ(k:Int)(n:Nat):(OJ k n).length=n:=by simp[OJ]
def Te(k:Int)(n:Nat):OJ k (n+1)=OJ k n++[k+(n:Int)]:=by simp[OJ,nK]
def Hh(k:Int)(l:List Int)(i:Nat):List Int:=OJ k i++l.drop i
def Th{k:Int}{l:List Int}{i:Nat}(h:i<=l.length):(Hh k l i).length=l.length:=by simp[Hh,cJ];omega
def Ti{k:Int}{l:List Int}{i:Nat}(h:i<l.length):(Hh k l i).set i (k+(i:Int))=Hh k l (i+1):=by
 have hd:l.drop i=l[i]::l.drop (i+1):=by rw[VF h]
 rw[Hh,nE _ _ (by rw[cJ];omega),cJ,hd,Gh,gH,Hh,Te];simp
def Tg{k:Int}{l:List Int}{i:Nat}(h:i=l.length):Hh k l i=OJ k l.length:=by
 subst h;simp[Hh]
def mkIC.ca(a:List Int×Int):List AV:=[.own 0,.im (.int .i64 a.2)]
def mkIC.H0(a:List Int×Int):Ap:=[(0,(true,.arr 2 1 (a.1.map Al)))]
def mkIC.H1(a:List Int×Int):Ap:=[(0,(true,.arr 2 1 ((OJ a.2 a.1.length).map Al)))]
def mkIC.row:A7:=AB mkIC.ca mkIC.H0 1 (λa=>0<=a.2/\a.2+a.1.length<=1099511627776) (λj=>j==0) (λa=> .im (.int .i64 (a.2+a.1.length))) mkIC.H1 0
def mkIC.ok:AC 41 mkIC.row:=by
 refine ow tN Tryz.func41 (exB:=λ_=>false) (R:=λa r=>r= .im (.int .i64 (a.2+a.1.length))) (λ_=>rfl)
  (λa=>by simp[mkIC.ca,mkIC.H0,AF,AV.bel,Aw,B9,BS,Ab.nms,Ak,hget]) (λa p hp=> ?_) (λa r h=>by subst h;exact CU.refl _) ?_
 rotate_left
 intro a z;simp only[Tryz.f41,mkIC.ca,mkIC.H0,mkIC.H1];simp only[ZA,simprocAttr];obtain⟨l,k⟩:=a;simp only at z⊢;obtain⟨h1,h2⟩:=z;refine AT.old ⟨{i:Nat//i<=l.length},λi=>⟨[(5,.im (.int .i64 i.1)),(4,.im (.int .i64 0)),(1,.im (.int .i64 (k+i.1))),(0,.own 0)],[(0,(true,.arr 2 1 ((Hh k l i.1).map Al)))],1⟩,λi=>l.length - i.1,λi=>⟨by simp[ZG],by simp⟩,⟨⟨0,by simp⟩,by simp only[ZA,simprocAttr,sub];simp[Hh,OJ]⟩,λi=> ?_⟩;obtain⟨i,Q⟩:=i;have Z:=Th (k:=k) Q;simp only[ZA,simprocAttr,sub,AO,Z];intro _;refine⟨λO=>⟨O,O,λx _=>⟨⟨i+1,by omega⟩,by simp only;omega,⟨?_,?_⟩,?_⟩⟩,λO=>⟨by omega,by rw[Tg (by omega)]⟩⟩
 .rw[AD (by omega) (by omega)];simp only;omega
 .rw[AD (by omega) (by omega)];simp only;omega
 .rw[Qado,Ti O]
 simp[mkIC.H1] at hp;subst hp;exact .inl ⟨by omega,rfl,rfl⟩
def K3(n:Nat):ByteArray:=if h:n=0 then ByteArray.empty else K3 (n/10)++Hl [IntKind.u8.wrap (48+((n % 10:Nat):Int))] termination_by n
def Hi(k:Int):ByteArray:=if k<=0 then "m0".toUTF8 else "m".toUTF8++K3 k.toNat
def mkText.fv(a:Int):ByteArray:=(Hi) a
def mkText.row:A7:=vK (b1 qI) rT (λa=>a<=1099511627776) mkText.fv
def mkText.q:=AY (R:=mkText.row) rfl
def mkText.ok:AC 157 mkText.row:=by
 refine vw tN Tryz.func157 ?_;intro a Z;simp only[Tryz.f157];simp only[ZA,simprocAttr,mkText.fv];by_cases c0:a<=0
 .rw[Ai c0];simp only[Hi];rw[Ai c0];rfl
 rw[Af c0];have eR:Hi a= "m".toUTF8++K3 a.toNat:=by simp only[Hi];rw[Af c0]
 refine AT.old ⟨{q:Nat×ByteArray//(q.1:Int)<=a/\K3 a.toNat=K3 q.1++q.2/\q.2.size+q.1<=a.toNat},λq=>⟨[(3,.im (.str q.1.2)),(0,.im (.int .i64 q.1.1))],[],0⟩,λq=>q.1.1,λq=>⟨by simp[ZG],by simp⟩,⟨⟨(a.toNat,ByteArray.empty),by simp only;exact⟨by omega,by simp,by simp⟩⟩,by simp only[ZA,simprocAttr,sub];exact⟨rfl,by omega⟩⟩,λq=> ?_⟩;obtain⟨⟨q,out⟩,O,z,Q⟩:=q;simp only at O z Q;simp only[ZA,simprocAttr,sub,AO];refine⟨λc1=> ?_,λc1=> ?_⟩
 .have hq:q≠0:=by omega
  have e1:(q:Int).tmod 10=((q % 10:Nat):Int):=by rw[ZdJ (by omega)];omega
  have e2:(q:Int).tdiv 10=((q/10:Nat):Int):=by rw[wB (by omega)];omega
  have e3:IntKind.i64.wrap (48+(q:Int).tmod 10)=48+((q % 10:Nat):Int):=by rw[e1];exact AD (by omega) (by omega)
  rw[e3,e2];have hs:({data:= #[UInt8.ofNat (IntKind.u8.wrap (48+((q % 10:Nat):Int))).toNat]}:ByteArray)=Hl [IntKind.u8.wrap (48+((q % 10:Nat):Int))]:=rfl;have hz:(Hl [IntKind.u8.wrap (48+((q % 10:Nat):Int))]).size=1:=rfl;rw[hs];refine⟨by omega,⟨(q/10,Hl [IntKind.u8.wrap (48+((q % 10:Nat):Int))]++out),by simp only;omega,?_,?_⟩,by simp only;omega,rfl,by exact AD (by omega) (by omega)⟩
  .simp only;rw[z,K3,dif_neg hq,ByteArray.append_assoc]
  .simp only[VH,hz];omega
 .have hq:q=0:=by omega
  subst hq;refine⟨by show 1+out.size<=_;omega,?_⟩;rw[eR,z,K3,dif_pos rfl,ByteArray.empty_append];rfl
def JU{A:Type}(f:Nat->A)(l:List A)(i:Nat):List A:=(List.range i).map f++l.drop i
def cR{A:Type}{f:Nat->A}{l:List A}{i:Nat}(h:i<=l.length):(JU f l i).length=l.length:=by simp[JU];omega
def cO{A:Type}(f:Nat->A)(l:List A):JU f l 0=l:=by simp[JU]
def cT{A:Type}{f:Nat->A}{l:List A}{i:Nat}(h:i<l.length):(JU f l i).set i (f i)=JU f l (i+1):=by
 have hd:l.drop i=l[i]::l.drop (i+1):=by rw[VF h]
 have z:((List.range i).map f).length=i:=by simp
 rw[JU,nE _ _ (by rw[z];omega),z,hd,Gh,gH,JU,nK];simp
def EI{A:Type}(f:Nat->A)(n:Nat):List A:=(List.range n).map f
def cV{A:Type}{f:Nat->A}{l:List A}{i:Nat}(h:i=l.length):JU f l i=EI f l.length:=by
 subst h;simp[JU,EI]
def gF(k:Int)(i:Nat):Am:=⟨Hi (k+2*i),k+2*i+1⟩
def mkGC.ca(a:List Am×Int):List AV:=[.own 0,.im (.int .i64 a.2)]
def mkGC.H0(a:List Am×Int):Ap:=[(0,(true,.arr 211 2 (a.1.map Am.c)))]
def mkGC.H1(a:List Am×Int):Ap:=[(0,(true,.arr 211 2 ((EI (gF a.2) a.1.length).map Am.c)))]
def mkGC.row:A7:=AB mkGC.ca mkGC.H0 1 (λa=>0<=a.2/\a.2+2*a.1.length<=1099511627776) (λj=>j==0) (λa=> .im (.int .i64 (a.2+2*a.1.length))) mkGC.H1 0
def mkGC.ok:AC 121 mkGC.row:=by
 refine ow (tC mkText.ok tN) Tryz.func121 (exB:=λ_=>false) (R:=λa r=>r= .im (.int .i64 (a.2+2*a.1.length))) (λ_=>rfl)
  (λa=>by simp[mkGC.ca,mkGC.H0,AF,AV.bel,Aw,B9,BS,Ab.nms,Ak,hget]) (λa p hp=> ?_) (λa r h=>by subst h;exact CU.refl _) ?_
 rotate_left
 intro a z;simp only[Tryz.f121,mkGC.ca,mkGC.H0,mkGC.H1];simp only[ZA,simprocAttr];obtain⟨l,k⟩:=a;simp only at z⊢;obtain⟨h1,h2⟩:=z;refine AT.old ⟨{i:Nat//i<=l.length},λi=>⟨[(5,.im (.int .i64 i.1)),(4,.im (.int .i64 0)),(1,.im (.int .i64 (k+2*i.1))),(0,.own 0)],[(0,(true,.arr 211 2 ((JU (gF k) l i.1).map Am.c)))],1⟩,λi=>l.length - i.1,λi=>⟨by simp[ZG],by simp⟩,⟨⟨0,by simp⟩,by simp only[ZA,simprocAttr,sub,cO];simp⟩,λi=> ?_⟩;obtain⟨i,aa⟩:=i;have Z:=cR (f:=gF k) aa;simp only[ZA,simprocAttr,mkText.q,mkText.fv,AO,Z];intro _;refine⟨λQ=>⟨by omega,Q,Q,λx hx=> ?_⟩,λQ=> ?_⟩
 .have w1:IntKind.i64.wrap (k+2*(i:Int)+1)=k+2*(i:Int)+1:=AD (by omega) (by omega);have O:i<(List.map Am.c (JU (gF k) l i)).length:=by rw[Fc,Z];exact Q
  refine⟨by rw[EA];exact O,by rw[EA];exact O,JB (CY O) ?_⟩;simp only[ZA,simprocAttr,sub,w1,wX];refine⟨⟨i+1,by omega⟩,by simp only;omega,⟨?_,?_⟩,?_⟩
  .rw[AD (by omega) (by omega)];simp only;omega
  .rw[AD (by omega) (by omega)];simp only;omega
  .simp only;rw[<-cT Q,JM];rfl
 .exact⟨by omega,by rw[cV (by omega)]⟩
 simp[mkGC.H1] at hp;subst hp;exact .inl ⟨by omega,rfl,rfl⟩
def pF(k:Int)(i:Nat):Aj:=⟨⟨k+3*i,k+3*i+1⟩,k+3*i+2⟩
def mkPC.ca(a:List Aj×Int):List AV:=[.own 0,.im (.int .i64 a.2)]
def mkPC.H0(a:List Aj×Int):Ap:=[(0,(true,.arr 115 3 (a.1.map Aj.c)))]
def mkPC.H1(a:List Aj×Int):Ap:=[(0,(true,.arr 115 3 ((EI (pF a.2) a.1.length).map Aj.c)))]
def mkPC.row:A7:=AB mkPC.ca mkPC.H0 1 (λa=>0<=a.2/\a.2+3*a.1.length<=1099511627776) (λj=>j==0) (λa=> .im (.int .i64 (a.2+3*a.1.length))) mkPC.H1 0
def mkPC.ok:AC 42 mkPC.row:=by
 refine ow tN Tryz.func42 (exB:=λ_=>false) (R:=λa r=>r= .im (.int .i64 (a.2+3*a.1.length))) (λ_=>rfl)
  (λa=>by simp[mkPC.ca,mkPC.H0,AF,AV.bel,Aw,B9,BS,Ab.nms,Ak,hget]) (λa p hp=> ?_) (λa r h=>by subst h;exact CU.refl _) ?_
 rotate_left
 intro a O;simp only[Tryz.f42,mkPC.ca,mkPC.H0,mkPC.H1];simp only[ZA,simprocAttr];obtain⟨l,k⟩:=a;simp only at O⊢;obtain⟨h1,h2⟩:=O;refine AT.old ⟨{i:Nat//i<=l.length},λi=>⟨[(5,.im (.int .i64 i.1)),(4,.im (.int .i64 0)),(1,.im (.int .i64 (k+3*i.1))),(0,.own 0)],[(0,(true,.arr 115 3 ((JU (pF k) l i.1).map Aj.c)))],1⟩,λi=>l.length - i.1,λi=>⟨by simp[ZG],by simp⟩,⟨⟨0,by simp⟩,by simp only[ZA,simprocAttr,sub,cO];simp⟩,λi=> ?_⟩;obtain⟨i,aa⟩:=i;have Z:=cR (f:=pF k) aa;simp only[ZA,simprocAttr,AO,Z];intro _;refine⟨λQ=>⟨Q,Q,λx hx=> ?_⟩,λQ=> ?_⟩
 .have w1:IntKind.i64.wrap (k+3*(i:Int)+1)=k+3*(i:Int)+1:=AD (by omega) (by omega);have w2:IntKind.i64.wrap (k+3*(i:Int)+1+1)=k+3*(i:Int)+2:=(AD (by omega) (by omega)).trans (by omega);have z:i<(List.map Aj.c (JU (pF k) l i)).length:=by rw[Fc,Z];exact Q
  simp only[w1];refine⟨by rw[EA];exact z,by rw[EA];exact z,JB (CY z) ?_⟩;simp only[ZA,simprocAttr,w2,wX];refine⟨by rw[EA];exact z,by rw[EA];exact z,JB (CY z) ?_⟩;simp only[ZA,simprocAttr,sub,wX];refine⟨⟨i+1,by omega⟩,by simp only;omega,⟨?_,?_⟩,?_⟩
  .rw[AD (by omega) (by omega)];simp only;omega
  .rw[AD (by omega) (by omega)];simp only;omega
  .simp only;rw[<-cT Q,JM];rfl
 .exact⟨by omega,by rw[cV (by omega)]⟩
 simp[mkPC.H1] at hp;subst hp;exact .inl ⟨by omega,rfl,rfl⟩
def oF(k:Int)(i:Nat):A9:=⟨⟨k+3*i,k+3*i+1⟩,k+3*i+2⟩
def mkOC.ca(a:List A9×Int):List AV:=[.own 0,.im (.int .i64 a.2)]
def mkOC.H0(a:List A9×Int):Ap:=[(0,(true,.arr 58 3 (a.1.map A9.c)))]
def mkOC.H1(a:List A9×Int):Ap:=[(0,(true,.arr 58 3 ((EI (oF a.2) a.1.length).map A9.c)))]
def mkOC.row:A7:=AB mkOC.ca mkOC.H0 1 (λa=>0<=a.2/\a.2+3*a.1.length<=1099511627776) (λj=>j==0) (λa=> .im (.int .i64 (a.2+3*a.1.length))) mkOC.H1 0
def mkOC.ok:AC 16 mkOC.row:=by
 refine ow tN Tryz.func16 (exB:=λ_=>false) (R:=λa r=>r= .im (.int .i64 (a.2+3*a.1.length))) (λ_=>rfl)
  (λa=>by simp[mkOC.ca,mkOC.H0,AF,AV.bel,Aw,B9,BS,Ab.nms,Ak,hget]) (λa p hp=> ?_) (λa r h=>by subst h;exact CU.refl _) ?_
 rotate_left
 intro a O;simp only[Tryz.f16,mkOC.ca,mkOC.H0,mkOC.H1];simp only[ZA,simprocAttr];obtain⟨l,k⟩:=a;simp only at O⊢;obtain⟨h1,h2⟩:=O;refine AT.old ⟨{i:Nat//i<=l.length},λi=>⟨[(5,.im (.int .i64 i.1)),(4,.im (.int .i64 0)),(1,.im (.int .i64 (k+3*i.1))),(0,.own 0)],[(0,(true,.arr 58 3 ((JU (oF k) l i.1).map A9.c)))],1⟩,λi=>l.length - i.1,λi=>⟨by simp[ZG],by simp⟩,⟨⟨0,by simp⟩,by simp only[ZA,simprocAttr,sub,cO];simp⟩,λi=> ?_⟩;obtain⟨i,aa⟩:=i;have Z:=cR (f:=oF k) aa;simp only[ZA,simprocAttr,AO,Z];intro _;refine⟨λQ=>⟨Q,Q,λx hx=> ?_⟩,λQ=> ?_⟩
 .have w1:IntKind.i64.wrap (k+3*(i:Int)+1)=k+3*(i:Int)+1:=AD (by omega) (by omega);have w2:IntKind.i64.wrap (k+3*(i:Int)+1+1)=k+3*(i:Int)+2:=(AD (by omega) (by omega)).trans (by omega);have z:i<(List.map A9.c (JU (oF k) l i)).length:=by rw[Fc,Z];exact Q
  simp only[w1];refine⟨by rw[EA];exact z,by rw[EA];exact z,JB (CY z) ?_⟩;simp only[ZA,simprocAttr,w2,wX];refine⟨by rw[EA];exact z,by rw[EA];exact z,JB (CY z) ?_⟩;simp only[ZA,simprocAttr,sub,wX];refine⟨⟨i+1,by omega⟩,by simp only;omega,⟨?_,?_⟩,?_⟩
  .rw[AD (by omega) (by omega)];simp only;omega
  .rw[AD (by omega) (by omega)];simp only;omega
  .simp only;rw[<-cT Q,JM];rfl
 .exact⟨by omega,by rw[cV (by omega)]⟩
 simp[mkOC.H1] at hp;subst hp;exact .inl ⟨by omega,rfl,rfl⟩
def toIX.ca(a:List Int):List AV:=[.im (.sl false 1 (a.map Al))]
def toIX.H1(a:List Int):Ap:=[(1,(true,.arr 2 1 (a.map Al)))]
def toIX.row:A7:=AB toIX.ca (λ_=>[]) 0 (λa=>a.length<=1073741824) (λ_=>false) (λ_=> .own 1) toIX.H1 2
def toIX.ok:AC 25 toIX.row:=by
 refine ow tN Tryz.func25 (exB:=λj=>j==1) (R:=λ_ r=>r= .own 1) (λ_=>rfl)
  (λa=>by simp[toIX.ca,AF,AV.bel,Aw,B9,BS]) (λa p hp=> ?_) (λa r h=>by subst h;exact CU.refl _) ?_
 rotate_left
 intro a z;simp only[Tryz.f25,toIX.ca,toIX.H1];simp only[ZA,simprocAttr];intro Z;have aa:a.length<=1073741824:=z;refine⟨by omega,?_⟩;refine AT.old ⟨{k:Nat//k<=a.length},λk=>⟨[(4,.im (.int .i64 k.1)),(3,.own 1),(0,.im (.sl false 1 (a.map Al)))],[(1,(true,.arr 2 1 ((a.take k.1).map Al++List.replicate (a.length - k.1) [.int .i64 0])))],2⟩,λk=>a.length - k.1,λk=>⟨by simp[ZG],AL _⟩,⟨⟨0,by omega⟩,by simp only[ZA,simprocAttr,sub];simp⟩,λk=> ?_⟩;obtain⟨k,Q⟩:=k;simp only[ZA,simprocAttr,AO,fH _ _ a k Q];intro _;refine⟨λO=> ?_,λO=> ?_⟩
 .refine⟨O,λx hx=>⟨O,O,JB (fE Al _ a k x hx) ?_⟩⟩;simp only[ZA,simprocAttr,sub];refine⟨⟨k+1,by omega⟩,by simp only;omega,?_,?_⟩
  .rw[AD (by omega) (by omega)];simp only;omega
  .exact fL Al _ a k x hx
 .rw[fI Al _ a k (by omega)]
  try trivial
 simp[toIX.H1] at hp;subst hp;exact .inr ⟨by omega,by omega,rfl,rfl⟩
def toGX.ca(a:List Am):List AV:=[.im (.sl false 2 (a.map Am.c))]
def toGX.H1(a:List Am):Ap:=[(1,(true,.arr 211 2 (a.map Am.c)))]
def toGX.row:A7:=AB toGX.ca (λ_=>[]) 0 (λa=>a.length<=1073741824) (λ_=>false) (λ_=> .own 1) toGX.H1 2
def toGX.ok:AC 93 toGX.row:=by
 refine ow (tC toGlue.ok tN) Tryz.func93 (exB:=λj=>j==1) (R:=λ_ r=>r= .own 1) (λ_=>rfl)
  (λa=>by simp[toGX.ca,AF,AV.bel,Aw,B9,BS]) (λa p hp=> ?_) (λa r h=>by subst h;exact CU.refl _) ?_
 rotate_left
 intro a z;simp only[Tryz.f93,toGX.ca,toGX.H1];simp only[ZA,simprocAttr];intro Z;have aa:a.length<=1073741824:=z;refine⟨by omega,?_⟩;refine AT.old ⟨{k:Nat//k<=a.length},λk=>⟨[(4,.im (.int .i64 k.1)),(3,.own 1),(0,.im (.sl false 2 (a.map Am.c)))],[(1,(true,.arr 211 2 ((a.take k.1).map Am.c++List.replicate (a.length - k.1) [.str ByteArray.empty,.int .i64 0])))],2⟩,λk=>a.length - k.1,λk=>⟨by simp[ZG],AL _⟩,⟨⟨0,by omega⟩,by simp only[ZA,simprocAttr,sub];simp⟩,λk=> ?_⟩;obtain⟨k,Q⟩:=k;simp only[ZA,simprocAttr,toGlue.q,toGlue.fv,AO,fH _ _ a k Q];intro _;refine⟨λO=> ?_,λO=> ?_⟩
 .refine⟨O,λx hx=>⟨O,O,JB (fE Am.c _ a k x hx) ?_⟩⟩;simp only[ZA,simprocAttr,sub];refine⟨⟨k+1,by omega⟩,by simp only;omega,?_,?_⟩
  .rw[AD (by omega) (by omega)];simp only;omega
  .exact fL Am.c _ a k x hx
 .rw[fI Am.c _ a k (by omega)]
  try trivial
 simp[toGX.H1] at hp;subst hp;exact .inr ⟨by omega,by omega,rfl,rfl⟩
def toPX.ca(a:List Aj):List AV:=[.im (.sl false 3 (a.map Aj.c))]
def toPX.H1(a:List Aj):Ap:=[(1,(true,.arr 115 3 (a.map Aj.c)))]
def toPX.row:A7:=AB toPX.ca (λ_=>[]) 0 (λa=>a.length<=1073741824) (λ_=>false) (λ_=> .own 1) toPX.H1 2
def toPX.ok:AC 26 toPX.row:=by
 refine ow (tC toPlaced.ok tN) Tryz.func26 (exB:=λj=>j==1) (R:=λ_ r=>r= .own 1) (λ_=>rfl)
  (λa=>by simp[toPX.ca,AF,AV.bel,Aw,B9,BS]) (λa p hp=> ?_) (λa r h=>by subst h;exact CU.refl _) ?_
 rotate_left
 intro a z;simp only[Tryz.f26,toPX.ca,toPX.H1];simp only[ZA,simprocAttr];intro Z;have aa:a.length<=1073741824:=z;refine⟨by omega,?_⟩;refine AT.old ⟨{k:Nat//k<=a.length},λk=>⟨[(4,.im (.int .i64 k.1)),(3,.own 1),(0,.im (.sl false 3 (a.map Aj.c)))],[(1,(true,.arr 115 3 ((a.take k.1).map Aj.c++List.replicate (a.length - k.1) [.int .i64 0,.int .i64 0,.int .i64 0])))],2⟩,λk=>a.length - k.1,λk=>⟨by simp[ZG],AL _⟩,⟨⟨0,by omega⟩,by simp only[ZA,simprocAttr,sub];simp⟩,λk=> ?_⟩;obtain⟨k,Q⟩:=k;simp only[ZA,simprocAttr,toPlaced.q,toPlaced.fv,AO,fH _ _ a k Q];intro _;refine⟨λO=> ?_,λO=> ?_⟩
 .refine⟨O,λx hx=>⟨O,O,JB (fE Aj.c _ a k x hx) ?_⟩⟩;simp only[ZA,simprocAttr,sub];refine⟨⟨k+1,by omega⟩,by simp only;omega,?_,?_⟩
  .rw[AD (by omega) (by omega)];simp only;omega
  .exact fL Aj.c _ a k x hx
 .rw[fI Aj.c _ a k (by omega)]
  try trivial
 simp[toPX.H1] at hp;subst hp;exact .inr ⟨by omega,by omega,rfl,rfl⟩
def toTX.ca(a:Tile):List AV:=[.im (.agg (Tile.c a))]
def toTX.r0(a:Tile):AV:= .agg [.im (.str a.Name),.own 4]
def toTX.H1(a:Tile):Ap:=[(4,(true,.arr 2 1 (a.Sides.map Al)))]
def toTX.row:A7:=AB toTX.ca (λ_=>[]) 0 (λa=>a.Sides.length<=1073741824) (λ_=>false) toTX.r0 toTX.H1 5
def toTX.ok:AC 135 toTX.row:=by
 refine ow (tC toIX.ok tN) Tryz.func135 (exB:=λj=>j==4) (R:=λa r=>r=toTX.r0 a) (λ_=>rfl)
  (λa=>by simp[toTX.ca,Tile.c,AF,AV.bel,Aw,B9,BS]) (λa p hp=> ?_) (λa r h=>by subst h;exact CU.refl _) ?_
 rotate_left
 intro a z;simp only[Tryz.f135,toTX.ca,toTX.H1,Tile.c];simp only[ZA,simprocAttr];refine AB.os a.Sides [] z (λj=>by simp[Ak,hget]) rfl rfl ?_ ?_
 .simp only[ZA,simprocAttr,toIX.ca,CL]
 simp only[ZA,simprocAttr,toIX.H1,toTX.r0]
 skip
 simp[toTX.H1] at hp;subst hp;exact .inr ⟨by omega,by omega,rfl,rfl⟩
def D8(a:List Tile)(i:Nat):Ao:=(true,.arr 2 1 (((a[i]?.map Tile.Sides).getD []).map Al))
def J3(a:List Tile)(i:Nat):List AV:=[.im (.str ((a[i]?.map Tile.Name).getD ByteArray.empty)),.own (2+i)]
def oH:List AV:=[.im (.str ByteArray.empty),.im (.sl true 0 [])]
def Hx(a:List Tile)(k:Nat):List (List AV):=(List.range k).map (J3 a)++List.replicate (a.length - k) oH
def cN{a:List Tile}{k:Nat}(h:k<=a.length):(Hx a k).length=a.length:=by simp[Hx];omega
def Vc{a:List Tile}{k i:Nat}(h:i<k):(Hx a k)[i]? =some (J3 a i):=by
 rw[Hx,Dj (by simpa using h),CM,Iw h];rfl
def Vb{a:List Tile}{k i:Nat}(h:k<=i)(z:i<a.length):(Hx a k)[i]? =some oH:=by
 rw[Hx,E3 (by simpa using h),Ls,Ai (by simp;omega)]
def Np(a:List Tile)(k N:Nat)(h:2+k<=N):(Hx a k).all (AF N)=true:=by
 rw[CA];intro r z;rcases Bn.1 z with z|z
 .obtain⟨i,O,rfl⟩:=Bo.1 z
  have:=Bt.1 O
  simp[J3,AF,AV.bel];omega
 .obtain rfl:=Ob z;simp[oH,AF,AV.bel]
def Vd(a:List Tile):Hx a 0=Be (List.replicate a.length [.str ByteArray.empty,.sl true 0 []]):=by
 simp[Hx,Be,oH]
def IE(h:Nat->Option Ao)(F:AV->Option AV)(b:Nat)(f:Nat->Ao)(n:Nat)(H: ∀i,i<n->h (b+i)=some (f i))(O: ∀i,i<n->Cm F (f i).2=some (f i).2):El h F (AQ b n f):=by
 have: ∀(l:List Nat),(∀i∈l,i<n)->El h F (l.map λi=>(b+i,f i)):=by
  intro l;induction l with
  |nil=>intro _;simp[El]
  |cons i r ih=>
   intro z;simp only[Bf,El];refine⟨?_,ih (λj Z=>z j (BP _ Z))⟩;rw[H i (z i (BM ..))];exact⟨rfl,O i (z i (BM ..))⟩
 exact this _ (λi Q=>Bt.1 Q)
def Zl{h:Nat->Option Ao}{kx:Nat->Option Nat}{m:Nat}{a:List Tile}(O: ∀i,i<a.length->kx (2+i)=some (2+i)):Ar (Ar (Ba h kx (m+1))) (Hx a a.length)=some (Hx a a.length):=by
 have e:Hx a a.length=(List.range a.length).map (J3 a):=by simp[Hx]
 rw[e];refine Rd (g:=J3 a) (k:=J3 a) _ λi z=> ?_
 simp only[J3,Ar,Ba,O i (Bt.1 z),kp]
def toLX.ca(a:List Tile):List AV:=[.im (.sl false 2 (a.map Tile.c))]
def toLX.H1(a:List Tile):Ap:=(1,(true,.arrA 208 2 (Hx a a.length)))::AQ 2 (min a.length 1048576) (D8 a)
def toLX.pre(a:List Tile):Prop:=a.length<=1048576/\ ∀x∈a,x.Sides.length<=1073741824
def toLX.row:A7:=AB toLX.ca (λ_=>[]) 0 toLX.pre (λ_=>false) (λ_=> .own 1) toLX.H1 2000000
def toLX.ok:AC 94 toLX.row:=by
 refine ow (tC toTX.ok tN) Tryz.func94 (exB:=λj=>Nat.ble 1 j) (R:=λ_ r=>r= .own 1) (λ_=>rfl)
  (λa=>by simp[toLX.ca,AF,AV.bel,Aw,B9,BS]) (λa p hp=> ?_) (λa r h=>by subst h;exact CU.refl _) ?_
 rotate_left
 intro a ai;simp only[Tryz.f94,toLX.ca];simp(disch:=omega)only[ZA,simprocAttr];obtain⟨h1,h2⟩:=ai;intro _;refine⟨by omega,?_⟩;refine AT.ren ⟨{k:Nat//k<=a.length},λk=>⟨[(4,.im (.int .i64 k.1)),(3,.own 1),(0,.im (.sl false 2 (a.map Tile.c)))],(1,(true,.arrA 208 2 (Hx a k.1)))::AQ 2 k.1 (D8 a),2+a.length⟩,λk=>a.length - k.1,λk=>⟨?_,by simp⟩,⟨⟨0,by simp⟩,[],?_⟩,λk=> ?_⟩
 .simp only[ZG,Fo,Eg];rw[QZ _ _ _ (λi=>by simp[Aw,D8]),QP _ _ _ _ (by omega),Np _ _ _ (by omega)];simp
  try omega
 .simp only[Aq,AQ,Zff,F9,Vd];simp(disch:=omega)only[ZA,simprocAttr,vJ]
  try simp
 .obtain⟨k,aj⟩:=k;have af:=cN (a:=a) aj;simp(disch:=omega)only[ZA,simprocAttr,AO,Br];intro _;refine⟨λhk=>⟨by omega,hk,λx hx=> ?_⟩,λhk=> ?_⟩
  .refine AB.os x [] (h2 x (AZ hx)) (λj=>by simp[Ak,hget]) rfl rfl ?_ ?_
   .simp(disch:=omega)only[ZA,simprocAttr,toTX.ca,CL,Tile.c]
   simp(disch:=omega)only[ZA,simprocAttr,toTX.H1,toTX.r0,af,Br];refine⟨⟨by omega,by omega,by omega⟩,hk,by omega,hk,JB (Vb (AL _) hk) ?_⟩;simp only[oH];simp(disch:=omega)only[ZA,simprocAttr,Br,AW];rw[Wb 2 k (D8 a) [1] (by simp)];refine⟨⟨?_,by omega⟩,⟨k+1,by omega⟩,[(2+k,some (2+a.length+4))],by simp only;omega,?_⟩
   .rw[CA];intro r hr;rcases Xk hr with hr|hr
    .exact CA.1 (Np a k _ (by omega)) r hr
    .subst hr;simp[AF,AV.bel]
   obtain⟨g,hg⟩: ∃g,g=pm [(2+k,some (2+a.length+4))]:=⟨_,rfl⟩;have qx:g (2+k)=some (2+a.length+4):=by rw[hg];simp[pm]
   have qo: ∀u,u≠2+k->g u=some u:=by intro u h;rw[hg];simp only[pm];rw[Af (by omega)]
   have q1:pm [(2+k,some (2+a.length+4))] 1=some 1:=by rw[<-hg];exact qo 1 (by omega)
   have ab:=qx;have aa:=qo;rw[hg] at ab aa;refine⟨⟨by omega,trivial⟩,?_,?_,?_⟩
   .rw[fD,<-hg];simp only[Fl,ZB];refine fJ _ _ (eN [1] 2 (k+1) (by simp) (by simp)) ?_;have ad: ∀u∈[1]++(List.range (k+1)).map (2+ ·),u<2+a.length+1:=by
     intro u hu;rcases Bn.1 hu with hu|hu
     .simp at hu;omega
     .obtain⟨i,hi,rfl⟩:=Bo.1 hu
      have:=Bt.1 hi
      show 2+i<2+a.length+1;omega
    intro u hu v hv m z O;have am:=ad u hu;have an:=ad v hv;by_cases Q:u=2+k<;>by_cases Z:v=2+k
    .omega
    .rw[Q,qx] at z;rw[qo v Z] at O;simp only[AI] at z O;omega
    .rw[qo u Q] at z;rw[Z,qx] at O;simp only[AI] at z O;omega
    .rw[qo u Q] at z;rw[qo v Z] at O;simp only[AI] at z O;omega
   .simp only[Qm,A8];simp(disch:=omega)only[ZA,simprocAttr,q1];rw[AD (by omega) (by omega)];simp
   .simp only[GU,eW];refine⟨?_,λi hi=> ?_⟩
    .simp(disch:=omega)only[ZA,simprocAttr,q1];rw[fK];refine⟨by rw[EA,af,cN (by omega)],λi r1 r2 Q Z=> ?_⟩;have ag:i<a.length:=by
      have:=(BW.1 Q).1
      rw[cN (by omega)] at this;exact this
     by_cases ac:i=k
     .subst ac;rw[Vc (by omega)] at Q;rw[CY (by rw[af];exact ag)] at Z;obtain rfl:=Ay Q;obtain rfl:=Ay Z;simp only[J3,hx,D3,AP,DL,mt,ab,FG,Hb]
     .rw[Dw (by omega)] at Z;by_cases ad:i<k
      .rw[Vc (by omega)] at Q Z;obtain rfl:=Ay Q;obtain rfl:=Ay Z;simp only[J3,DL,mt,aa (2+i) (by omega),FG,Hb]
      .rw[Vb (by omega) ag] at Q Z;obtain rfl:=Ay Q;obtain rfl:=Ay Z;simp only[oH,DL,mt,Hb]
    .show Et _ _ true (.arr 2 1 (((a[i]?.map Tile.Sides).getD []).map Al)) _;by_cases ac:i=k
     .subst ac;rw[ab];simp(disch:=omega)only[ZA,simprocAttr,hx,AP]
      try simp
     .rw[aa (2+i) (by omega)];simp(disch:=omega)only[ZA,simprocAttr,GL,WM,D8]
      try simp
  .have ak:k=a.length:=by omega
   subst ak;refine⟨by omega,by omega,?_⟩;have ah:min a.length 1048576=a.length:=by omega
   obtain⟨H,hH⟩: ∃H,H=hget ((1,(true,Ab.arrA 208 2 (Hx a a.length)))::AQ 2 a.length (D8 a)):=⟨_,rfl⟩;rw[<-hH];have kx: ∀i,i<a.length->(I5 [] 0 2000000 λj=>decide (1<=j)) (2+i)=some (2+i):=by
    intro i hi;have hb:(decide (1<=2+i) && (Nat.ble 0 (2+i) && Nat.blt (2+i) (0+2000000)))=true:=by
     simp only[AN,Bq,G8,E4];omega
    simp only[I5,Ak,hget,Rk,xA,hb,BX]
   have g1:H 1=some (true,.arrA 208 2 (Hx a a.length)):=by rw[hH];rfl
   simp only[toLX.H1,El,ah];refine⟨?_,IE _ _ _ _ _ (λi hi=> ?_) (λi hi=>rfl)⟩
   .rw[g1];exact⟨rfl,by simp only[Cm];rw[Zl kx];rfl⟩
   .rw[hH];simp only[hget,AW _ _ (show 1≠2+i by omega),Bm];exact GL _ _ _ _ hi
 simp only[toLX.H1,Bh,AQ,Bo,Bt] at hp;rcases hp with rfl|⟨i,hi,rfl⟩
 .exact .inr ⟨by omega,by omega,rfl,rfl⟩
 .exact .inr ⟨by simp only;omega,by simp only;omega,by simp only[G8];omega,rfl⟩
def GA(b:Nat)(a:List Tile):List (List AV):=(List.range a.length).map λi=>[.im (.str ((a[i]?.map Tile.Name).getD ByteArray.empty)),.own (b+i)]
def Zm(σ:Nat->Nat)(b:Nat)(a:List Tile)(h: ∀i,i<a.length->σ (2+i)=b+i):(Hx a a.length).map (AH σ)=GA b a:=by
 have e:Hx a a.length=(List.range a.length).map (J3 a):=by simp[Hx]
 rw[e,Lw];refine JJ λi z=> ?_
 simp only[Function.comp,J3,AH,AV.ren,h i (Bt.1 z)]
def Zi(σ:Nat->Nat)(b n:Nat)(a:List Tile)(h: ∀i,i<n->σ (2+i)=b+i):AS σ (AQ 2 n (D8 a))=AQ b n (D8 a):=by
 simp only[AQ]
 have: ∀(l:List Nat),(∀i∈l,i<n)->AS σ (l.map λi=>(2+i,D8 a i))=l.map λi=>(b+i,D8 a i):=by
  intro l;induction l with
  |nil=>intro _;rfl
  |cons i r ih=>
   intro z;have e:=ih (λj Q=>z j (BP _ Q));simp only[Bf,AS,h i (z i (BM ..)),D8,Ab.ren] at e⊢;rw[e]
 exact this _ (λi O=>Bt.1 O)
def Wa(k:List Nat)(nx cnt:Nat): ∀(H:Ap),(∀p∈H,nx<=p.1/\p.1<nx+cnt)->GW k nx cnt H=true
 |[],_=>rfl
 |(i,e)::r,h=>by
  have z:=h (i,e) (BM ..);simp only at z;simp only[GW,Ke,Wa k nx cnt r (λp hp=>h p (BP _ hp)),Fo,Iq,AN,G8,E4];exact .inl z
def Nl(b:Nat)(a:List Tile)(N:Nat)(h:b+a.length<=N):(GA b a).all (AF N)=true:=by
 rw[CA];intro r O;obtain⟨i,z,rfl⟩:=Bo.1 O
 have:=Bt.1 z
 simp[AF,AV.bel];omega
def Ve{σ:Nat->Nat}{nx:Nat}(a:List Tile)(h: ∀j,σ j=nx+j):AS σ (toLX.H1 a)=(nx+1,(true,.arrA 208 2 (GA (nx+2) a)))::AQ (nx+2) (min a.length 1048576) (D8 a):=by
 simp only[toLX.H1,AS,Ab.ren];rw[Zm σ (nx+2) a (λi _=>by rw[h];omega),Zi σ (nx+2) _ a (λi _=>by rw[h];omega),h]
def Wd{b n:Nat}{f:Nat->Ao}{r:Ap}{m:Nat}(h:m<b):hget (AQ b n f++r) m=hget r m:=by
 rw[IP,Qmh _ _ _ _ (.inl h)];rfl
def qD(ks:List Nat): ∀(a b:Ap),Bj (a++b) ks=Bj a ks++Bj b ks
 |[],b=>by simp[Bj]
 |(i,e)::r,b=>by
  simp only[CO,Bj,qD ks r b];cases ks.contains i<;>rfl
def cI{b n:Nat}{f:Nat->Ao}{r:Ap}{k:Nat}(h:k<b):Bj (AQ b n f++r) [k]=AQ b n f++Bj r [k]:=by
 rw[qD,Wb _ _ _ _ (λx z=>by rw[Bz] at z;subst z;exact .inl h)]
def dW{h:Nat->Option Ao}{kx:Nat->Option Nat}{m b:Nat}{a:List Tile}(O: ∀i,i<a.length->kx (b+i)=some (b+i)):Ar (Ar (Ba h kx (m+1))) (GA b a)=some (GA b a):=by
 refine Rd (g:=λi=>[AV.im (.str ((a[i]?.map Tile.Name).getD ByteArray.empty)),AV.own (b+i)]) (k:=λi=>[AV.im (.str ((a[i]?.map Tile.Name).getD ByteArray.empty)),AV.own (b+i)]) _ λi z=> ?_
 simp only[Ar,Ba,O i (Bt.1 z),kp]
def KB{lo cnt m:Nat}(O:lo<=m)(Q:m<cnt):(I5 [] 0 cnt λj=>decide (lo<=j)) m=some m:=by
 have z:(decide (lo<=m) && (Nat.ble 0 m && Nat.blt m (0+cnt)))=true:=by
  simp only[AN,Bq,G8,E4];omega
 simp only[I5,Ak,hget,Rk,xA,z,BX]
def toSX.ca(a:Az):List AV:=[.im (.agg (Az.c a))]
def toSX.r0:AV:= .agg [.own 4,.own 6]
def toSX.H1(a:Az):Ap:=(4,(true,.arr 211 2 (a.Glues.map Am.c)))::(6,(true,.arrA 208 2 (GA 7 a.Tiles)))::AQ 7 (min a.Tiles.length 1048576) (D8 a.Tiles)
def toSX.pre(a:Az):Prop:=a.Glues.length<=1073741824/\toLX.pre a.Tiles
def toSX.row:A7:=AB toSX.ca (λ_=>[]) 0 toSX.pre (λ_=>false) (λ_=>toSX.r0) toSX.H1 2000005
def toSX.ok:AC 55 toSX.row:=by
 refine ow (tC toGX.ok (tC toLX.ok tN)) Tryz.func55 (exB:=λj=>Nat.ble 4 j) (R:=λ_ r=>r=toSX.r0) (λ_=>rfl)
  (λa=>by simp[toSX.ca,Az.c,AF,AV.bel,Aw,B9,BS]) (λa p hp=> ?_) (λa r h=>by subst h;exact CU.refl _) ?_
 rotate_left
 intro a Q;simp only[Tryz.f55,toSX.ca,Az.c];simp only[ZA,simprocAttr];obtain⟨h1,Z⟩:=Q;refine AB.os a.Glues [] h1 (λj=>by simp[Ak,hget]) rfl rfl ?_ ?_
 .simp only[ZA,simprocAttr,toGX.ca,CL]
 simp only[ZA,simprocAttr,toGX.H1];refine AB.os a.Tiles [] Z (λj=>by simp[Ak,hget]) rfl rfl ?_ ?_
 .simp only[ZA,simprocAttr,toLX.ca,CL]
 have hσ: ∀j,BE (I7 []) 0 5 j=5+j:=λj=>by simp[BE]
 rw[Ve a.Tiles hσ];obtain⟨h3,h4⟩:=Z;have z:min a.Tiles.length 1048576=a.Tiles.length:=by omega
 rw[z];simp only[D6,AV.ren,hσ];refine⟨?_,?_⟩
 .rw[Bk.ok_nr,Wa _ _ _ _ (λp hp=> ?_)]
  .simp only[AV.bel,Aw];rw[QZ _ _ _ (λi=>by simp[Aw,D8]),Nl _ _ _ (by omega)];simp
  .rcases Bh.1 hp with rfl|hp
   .exact⟨by simp only;omega,by simp only;omega⟩
   .obtain⟨i,O,rfl⟩:=Bo.1 hp
    have:=Bt.1 O
    exact⟨by simp only;omega,by simp only;omega⟩
 simp only[ZA,simprocAttr,Br,toSX.r0,Wd,cI];obtain⟨H,hH⟩: ∃H,H=hget ((1,(true,Ab.cells 46 [AV.own 4,AV.own 6]))::(2,(true,Ab.cells 46 [AV.own 4,AV.own 6]))::(6,(true,Ab.arrA 208 2 (GA 7 a.Tiles)))::
  (AQ 7 a.Tiles.length (D8 a.Tiles)++[(4,(true,Ab.arr 211 2 (List.map Am.c a.Glues))),(0,(true,Ab.cells 25 [AV.im (D.sl false 2 (List.map Am.c a.Glues)),AV.im (D.sl false 2 (List.map Tile.c a.Tiles))]))])):=⟨_,rfl⟩
 rw[<-hH];have g4:H 4=some (true,.arr 211 2 (a.Glues.map Am.c)):=by rw[hH];simp[hget,Wd]
 have g6:H 6=some (true,.arrA 208 2 (GA 7 a.Tiles)):=by rw[hH];rfl
 have gf: ∀i,i<a.Tiles.length->H (7+i)=some (D8 a.Tiles i):=by
  intro i O;rw[hH];simp only[hget,AW _ _ (show 1≠7+i by omega),AW _ _ (show 2≠7+i by omega),AW _ _ (show 6≠7+i by omega),Bm];rw[IP,GL _ _ _ _ O];rfl
 simp only[toSX.H1,El,z];refine⟨?_,?_,IE _ _ _ _ _ gf (λi O=>rfl)⟩
 .rw[g4];exact⟨rfl,rfl⟩
 .rw[g6];exact⟨rfl,by simp only[Cm];rw[dW (λi O=>KB (by omega) (by omega))];rfl⟩
 simp only[toSX.H1,Bh,AQ,Bo,Bt] at hp;rcases hp with rfl|rfl|⟨i,O,rfl⟩
 .exact .inr ⟨by omega,by simp only;omega,rfl,rfl⟩
 .exact .inr ⟨by omega,by simp only;omega,rfl,rfl⟩
 .exact .inr ⟨by simp only;omega,by simp only;omega,by simp only[G8];omega,rfl⟩
def toAX.ca(a:Ad):List AV:=[.im (.agg (Ad.c a))]
def toAX.H1(a:Ad):Ap:=[(4,(true,.arr 115 3 (a.Tiles.map Aj.c)))]
def toAX.row:A7:=AB toAX.ca (λ_=>[]) 0 (λa=>a.Tiles.length<=1073741824) (λ_=>false) (λ_=> .agg [.own 4]) toAX.H1 5
def toAX.ok:AC 8 toAX.row:=by
 refine ow (tC toPX.ok tN) Tryz.func8 (exB:=λj=>j==4) (R:=λ_ r=>r= .agg [.own 4]) (λ_=>rfl)
  (λa=>by simp[toAX.ca,Ad.c,AF,AV.bel,Aw,B9,BS]) (λa p hp=> ?_) (λa r h=>by subst h;exact CU.refl _) ?_
 rotate_left
 intro a z;simp only[Tryz.f8,toAX.ca,toAX.H1,Ad.c];simp only[ZA,simprocAttr];refine AB.os a.Tiles [] z (λj=>by simp[Ak,hget]) rfl rfl ?_ ?_
 .simp only[ZA,simprocAttr,toPX.ca,CL]
 simp only[ZA,simprocAttr,toPX.H1]
 skip
 simp[toAX.H1] at hp;subst hp;exact .inr ⟨by omega,by omega,rfl,rfl⟩
def Vf{σ:Nat->Nat}{nx:Nat}(a:Az)(h: ∀j,σ j=nx+j):AS σ (toSX.H1 a)=(nx+4,(true,.arr 211 2 (a.Glues.map Am.c)))::(nx+6,(true,.arrA 208 2 (GA (nx+7) a.Tiles)))::AQ (nx+7) (min a.Tiles.length 1048576) (D8 a.Tiles):=by
 have z:(GA 7 a.Tiles).map (AH σ)=GA (nx+7) a.Tiles:=by
  simp only[GA,Lw];refine JJ λi Q=> ?_
  simp only[Function.comp,AH,AV.ren,h];rw[show nx+(7+i)=nx+7+i by omega]
 have O: ∀n,AS σ (AQ 7 n (D8 a.Tiles))=AQ (nx+7) n (D8 a.Tiles):=by
  intro n;simp only[AQ]
  have: ∀(l:List Nat),AS σ (l.map λi=>(7+i,D8 a.Tiles i))=l.map λi=>(nx+7+i,D8 a.Tiles i):=by
   intro l;induction l with
   |nil=>rfl
   |cons i r ih=>
    simp only[Bf,AS,h,D8,Ab.ren] at ih⊢;rw[ih,show nx+(7+i)=nx+7+i by omega]
  exact this _
 simp only[toSX.H1,AS,Ab.ren,z,O,h]
def toYX.ca(a:AM):List AV:=[.im (.agg (AM.c a))]
def toYX.r0(a:AM):AV:= .agg [.own 7,.own 9,.own 2000012,.im (.int .i64 a.Temperature)]
def toYX.H1(a:AM):Ap:=(7,(true,.arr 211 2 (a.Set.Glues.map Am.c)))::(9,(true,.arrA 208 2 (GA 10 a.Set.Tiles)))::(2000012,(true,.arr 115 3 (a.Seed.Tiles.map Aj.c)))::AQ 10 (min a.Set.Tiles.length 1048576) (D8 a.Set.Tiles)
def toYX.pre(a:AM):Prop:=toSX.pre a.Set/\a.Seed.Tiles.length<=1073741824
def toYX.row:A7:=AB toYX.ca (λ_=>[]) 0 toYX.pre (λ_=>false) toYX.r0 toYX.H1 2000013
def toYX.ok:AC 24 toYX.row:=by
 refine ow (tC toSX.ok (tC toAX.ok tN)) Tryz.func24 (exB:=λj=>Nat.ble 7 j) (R:=λa r=>r=toYX.r0 a) (λ_=>rfl)
  (λa=>by simp[toYX.ca,AM.c,AF,AV.bel,Aw,B9,BS]) (λa p hp=> ?_) (λa r h=>by subst h;exact CU.refl _) ?_
 rotate_left
 intro a Q;simp only[Tryz.f24,toYX.ca,AM.c];simp only[ZA,simprocAttr];obtain⟨Z,h2⟩:=Q;refine AB.os a.Set [] Z (λj=>by simp[Ak,hget]) rfl rfl ?_ ?_
 .simp only[ZA,simprocAttr,toSX.ca,Az.c,CL]
 have hσ: ∀j,BE (I7 []) 0 3 j=3+j:=λj=>by simp[BE]
 rw[Vf a.Set hσ];obtain⟨h0,h3,h4⟩:=Z;have z:min a.Set.Tiles.length 1048576=a.Set.Tiles.length:=by omega
 rw[z];simp only[D6,toSX.r0,AV.ren,AH,hσ];refine⟨?_,?_⟩
 .rw[Bk.ok_nr,Wa _ _ _ _ (λp hp=> ?_)]
  .simp only[AV.bel,AF,Aw];rw[QZ _ _ _ (λi=>by simp[Aw,D8]),Nl _ _ _ (by omega)];simp
  .rcases Bh.1 hp with rfl|hp
   .exact⟨by simp only;omega,by simp only;omega⟩
   rcases Bh.1 hp with rfl|hp
   .exact⟨by simp only;omega,by simp only;omega⟩
   .obtain⟨i,O,rfl⟩:=Bo.1 hp
    have:=Bt.1 O
    exact⟨by simp only;omega,by simp only;omega⟩
 simp only[ZA,simprocAttr,Br,Wd,cI];refine AB.os a.Seed [] h2 (λj=>by simp[Ak,hget]) rfl rfl ?_ ?_
 .simp only[ZA,simprocAttr,toAX.ca,Ad.c,CL]
 simp only[ZA,simprocAttr,toAX.H1,Br,Wd,cI,toYX.r0];obtain⟨H,hH⟩: ∃H,H=hget ((1,(true,Ab.cells 51 [AV.own 7,AV.own 9,AV.own 2000012,AV.im (D.int IntKind.i64 a.Temperature)]))::(2,(true,Ab.cells 51 [AV.own 7,AV.own 9,AV.own 2000012,AV.im (D.int IntKind.i64 a.Temperature)]))::
  (2000012,(true,Ab.arr 115 3 (List.map Aj.c a.Seed.Tiles)))::(7,(true,Ab.arr 211 2 (List.map Am.c a.Set.Glues)))::(9,(true,Ab.arrA 208 2 (GA 10 a.Set.Tiles)))::
  (AQ 10 a.Set.Tiles.length (D8 a.Set.Tiles)++[(0,(true,Ab.cells 30 [AV.im (D.sl false 2 (List.map Am.c a.Set.Glues)),AV.im (D.sl false 2 (List.map Tile.c a.Set.Tiles)),AV.im (D.sl false 3 (List.map Aj.c a.Seed.Tiles)),AV.im (D.int IntKind.i64 a.Temperature)]))])):=⟨_,rfl⟩
 rw[<-hH];have g7:H 7=some (true,.arr 211 2 (a.Set.Glues.map Am.c)):=by rw[hH];rfl
 have g9:H 9=some (true,.arrA 208 2 (GA 10 a.Set.Tiles)):=by rw[hH];rfl
 have gs:H 2000012=some (true,.arr 115 3 (a.Seed.Tiles.map Aj.c)):=by rw[hH];simp[hget]
 have gf: ∀i,i<a.Set.Tiles.length->H (10+i)=some (D8 a.Set.Tiles i):=by
  intro i O;rw[hH];simp only[hget,AW _ _ (show 1≠10+i by omega),AW _ _ (show 2≠10+i by omega),AW _ _ (show 2000012≠10+i by omega),AW _ _ (show 7≠10+i by omega),AW _ _ (show 9≠10+i by omega),Bm];rw[IP,GL _ _ _ _ O];rfl
 simp only[toYX.H1,El,z];refine⟨?_,?_,?_,IE _ _ _ _ _ gf (λi O=>rfl)⟩
 .rw[g7];exact⟨rfl,rfl⟩
 .rw[g9];exact⟨rfl,by simp only[Cm];rw[dW (λi O=>KB (by omega) (by omega))];rfl⟩
 .rw[gs];exact⟨rfl,rfl⟩
 simp only[toYX.H1,Bh,AQ,Bo,Bt] at hp;rcases hp with rfl|rfl|rfl|⟨i,O,rfl⟩
 .exact .inr ⟨by omega,by simp only;omega,rfl,rfl⟩
 .exact .inr ⟨by omega,by simp only;omega,rfl,rfl⟩
 .exact .inr ⟨by omega,by simp only;omega,by simp only[G8];omega,rfl⟩
 .exact .inr ⟨by simp only;omega,by simp only;omega,by simp only[G8];omega,rfl⟩
def eqInt64SF.fv(a:(List Int)×(List Int)):Bool:=(λa b=>decide (a=b)) (a.1) (a.2)
def eqInt64SF.row:A7:=Dy (b2 (qS Fh EN) (qS Fh EN)) rB (λa=>True) eqInt64SF.fv
def eqInt64SF.q:=CP (R:=eqInt64SF.row) rfl
def eqInt64SF.ok:AC 38 eqInt64SF.row:=by
 refine Gz tN Tryz.func38 ?_;intro a aa;simp only[Tryz.f38];simp only[ZA,simprocAttr,eqInt64SF.fv,D.sc,D.scs,BC];intro h1 h2;simp only[AO];refine⟨λO=> ?_,λO=> ?_⟩
 .have:a.1≠a.2:=λh=>O (by rw[h])
  simp[this]
 have O:a.1.length=a.2.length:=by omega
 refine AT.old ⟨{k:Nat//k<=a.1.length/\a.1.take k=a.2.take k},λk=>⟨[(5,.im (.int .i64 k.1)),(4,.im (.bool false)),(0,.im (.sl false 1 (a.1.map Al))),(1,.im (.sl false 1 (a.2.map Al)))],[],0⟩,λk=>a.1.length - k.1,λk=>⟨by simp[ZG],AL _⟩,⟨⟨0,by simp⟩,by simp only[ZA,simprocAttr,sub]⟩,λk=> ?_⟩;obtain⟨k,Z,z⟩:=k;simp only[ZA,simprocAttr,D.sc,D.scs,BC,sub,AO];intro _;refine⟨λQ=>⟨Q,λx hx=>⟨by omega,λy hy=> ?_⟩⟩,λQ=> ?_⟩
 .obtain⟨g1,g2⟩:=ZF O Z z hx hy;exact⟨λh=>by simp[g2 h],λh=>GI Q h1 ⟨by omega,g1 (by simpa using h)⟩⟩
 .rw[DE (by omega),DE (by omega)] at z;simp[z]
def eqOptionSF.fv(a:(List A9)×(List A9)):Bool:=(λa b=>decide (a=b)) (a.1) (a.2)
def eqOptionSF.row:A7:=Dy (b2 (qS A9.d_le A9.c_n) (qS A9.d_le A9.c_n)) rB (λa=>True) eqOptionSF.fv
def eqOptionSF.ok:AC 11 eqOptionSF.row:=by
 refine Gz (tC eqOption.ok tN) Tryz.func11 ?_;intro a aa;simp only[Tryz.f11];simp only[ZA,simprocAttr,eqOptionSF.fv,D.sc,D.scs,BC];intro h1 h2;simp only[AO];refine⟨λO=> ?_,λO=> ?_⟩
 .have:a.1≠a.2:=λh=>O (by rw[h])
  simp[this]
 have O:a.1.length=a.2.length:=by omega
 refine AT.old ⟨{k:Nat//k<=a.1.length/\a.1.take k=a.2.take k},λk=>⟨[(5,.im (.int .i64 k.1)),(4,.im (.bool false)),(0,.im (.sl false 3 (a.1.map A9.c))),(1,.im (.sl false 3 (a.2.map A9.c)))],[],0⟩,λk=>a.1.length - k.1,λk=>⟨by simp[ZG],AL _⟩,⟨⟨0,by simp⟩,by simp only[ZA,simprocAttr,sub]⟩,λk=> ?_⟩;obtain⟨k,Z,z⟩:=k;simp only[ZA,simprocAttr,eqOption.q,eqOption.fv,D.sc,D.scs,BC,sub,AO];intro _;refine⟨λQ=>⟨Q,λx hx=>⟨by omega,λy hy=> ?_⟩⟩,λQ=> ?_⟩
 .obtain⟨g1,g2⟩:=ZF O Z z hx hy;exact⟨λh=>by simp[g2 (show x≠y from h)],λh=>GI Q h1 ⟨by omega,g1 (show x=y from Ha.1 h)⟩⟩
 .rw[DE (by omega),DE (by omega)] at z;simp[z]
def eqSystemF.fv(a:AM×AM):Bool:=(λa b=>decide (a=b)) (a.1) (a.2)
def eqSystemF.row:A7:=Dy (b2 (qR AM.d_le) (qR AM.d_le)) rB (λa=>True) eqSystemF.fv
def eqSystemF.q:=CP (R:=eqSystemF.row) rfl
def eqSystemF.ok:AC 37 eqSystemF.row:=by
 refine Gz (tC eqTileSet.ok (tC eqAssembly.ok tN)) Tryz.func37 ?_;intro a O;simp only[Tryz.f37];simp only[ZA,simprocAttr,Ad.d,eqSystemF.fv,eqTileSet.q,eqTileSet.fv,eqAssembly.q,eqAssembly.fv,D.sc,D.scs,BC];obtain⟨⟨⟨x,Q⟩,⟨y⟩,u⟩,⟨⟨z,Z⟩,⟨w⟩,v⟩⟩:=a;simp only[AM.mk.injEq,Az.mk.injEq,Ad.mk.injEq]
 grind
def mkAC.ca(a:Ad×Int):List AV:=[.agg [.own 0],.im (.int .i64 a.2)]
def mkAC.H0(a:Ad×Int):Ap:=[(0,(true,.arr 115 3 (a.1.Tiles.map Aj.c)))]
def mkAC.H1(a:Ad×Int):Ap:=[(0,(true,.arr 115 3 ((EI (pF a.2) a.1.Tiles.length).map Aj.c)))]
def mkAC.row:A7:=AB mkAC.ca mkAC.H0 1 (λa=>0<=a.2/\a.2+3*a.1.Tiles.length<=1099511627776) (λj=>j==0) (λa=> .im (.int .i64 (a.2+3*a.1.Tiles.length))) mkAC.H1 0
def mkAC.ok:AC 15 mkAC.row:=by
 refine ow (tC mkPC.ok tN) Tryz.func15 (exB:=λ_=>false) (R:=λa r=>r= .im (.int .i64 (a.2+3*a.1.Tiles.length))) (λ_=>rfl)
  (λa=>by simp[mkAC.ca,mkAC.H0,AF,AV.bel,Aw,B9,BS,Ab.nms,Ak,hget]) (λa p hp=> ?_) (λa r h=>by subst h;exact CU.refl _) ?_
 rotate_left
 intro a z;simp only[Tryz.f15,mkAC.ca,mkAC.H0,mkAC.H1];simp only[ZA,simprocAttr];refine AB.os (a.1.Tiles,a.2) [0] z (λj=> ?_) rfl rfl ?_ ?_
 .simp only[Ak,mkPC.H0,hget];by_cases O:j=0
  .subst O;simp
  .have:(0==j)=false:=by simpa using λh=>O h.symm
   rw[this];simp;omega
 .simp only[ZA,simprocAttr,Ec,mkPC.ca,mkPC.H0,CL,Ef]
  try exact⟨rfl,rfl⟩
 simp only[ZA,simprocAttr,Ec,mkPC.H1,Ef,Ht]
 skip
 simp[mkAC.H1] at hp;subst hp;exact .inl ⟨by omega,rfl,rfl⟩
def nT(a:List Tile):Nat:=min a.length 1048576
def sdL(a:List Tile)(i:Nat):List Int:=(a[i]?.map Tile.Sides).getD []
def E6(a:List Tile)(k:Int):Nat->Int
 |0=>k
 |i+1=>E6 a k i+1+(sdL a i).length
def Fy(a:List Tile)(k:Int)(i j:Nat):List AV:=if j<i then [.im (.str (Hi (E6 a k j))),.own (2+j)] else J3 a j
def Fe(a:List Tile)(k:Int)(i j:Nat):Ao:=(true,.arr 2 1 ((if j<i then OJ (E6 a k j+1) (sdL a j).length else sdL a j).map Al))
def D7(a:List Tile)(k:Int)(i:Nat):Ap:=(0,(true,.arrA 208 2 ((List.range (nT a)).map (Fy a k i))))::AQ 2 (nT a) (Fe a k i)
def mkLC.ca(a:List Tile×Int):List AV:=[.own 0,.im (.int .i64 a.2)]
def mkLC.H0(a:List Tile×Int):Ap:=D7 a.1 a.2 0
def mkLC.H1(a:List Tile×Int):Ap:=D7 a.1 a.2 (nT a.1)
def mkLC.r0(a:List Tile×Int):AV:= .im (.int .i64 (E6 a.1 a.2 a.1.length))
def mkLC.pre(a:List Tile×Int):Prop:=a.1.length<=1048576/\0<=a.2/\E6 a.1 a.2 a.1.length<=1099511627776
def mkLC.row:A7:=AB mkLC.ca mkLC.H0 2000000 mkLC.pre (λ_=>true) mkLC.r0 mkLC.H1 0
def CV(a:List Tile):nT a<=1048576:=gU _ _
def cS(a:List Tile)(k:Int)(i j N:Nat)(h:2+j<N):AF N (Fy a k i j)=true:=by
 simp only[Fy]
 split<;>simp[J3,AF,AV.bel,h]
def cL(a:List Tile)(k:Int)(i j:Nat):AA (Fy a k i j)=[2+j]:=by
 simp only[Fy]
 split<;>simp[J3,AA,AV.nms]
def qK(a:List Tile)(k:Int)(i N:Nat)(h:2+nT a<N):Aw N (D7 a k i)=true:=by
 simp only[D7,Aw];rw[QZ _ _ _ (λj=>by simp[Aw,Fe]),Fo,CA];intro r O;obtain⟨j,z,rfl⟩:=Bo.1 O;exact cS _ _ _ _ _ (by have:=Bt.1 z;omega)
def mkLC.hbel(a:List Tile×Int):AF 2000000 (mkLC.ca a)=true:=by simp[mkLC.ca,AF,AV.bel]
def mkLC.hbH(a:List Tile×Int):Aw 2000000 (mkLC.H0 a)=true:=qK _ _ _ _ (by have:=CV a.1;omega)
def mkLC.hkH(a:List Tile×Int):B9 2000000 (mkLC.H0 a)=true:=by
 simp only[mkLC.H0,D7,B9];rw[QP _ _ _ _ (by have:=CV a.1;omega)];simp
def ID(a:List Tile)(k:Int)(i j:Nat):Ak (D7 a k i) j=true↔j=0\/(2<=j/\j<2+nT a):=by
 simp only[Ak,D7,hget,fM];by_cases h0:j=0
 .subst h0;simp
 .have:(0==j)=false:=by simpa using λh=>h0 h.symm
  rw[this];simp only[Bm];split
  .rename_i h;simp[h]
  .rename_i h;simp[h0];omega
def mkLC.hnm(a:List Tile×Int):BS (mkLC.H0 a) (mkLC.H0 a):=by
 simp only[mkLC.H0];have O: ∀m,(∃j,j<nT a.1/\m=2+j)->Ak (D7 a.1 a.2 0) m=true:=by
  rintro m ⟨j,Q,rfl⟩;exact (ID _ _ _ _).2 (.inr ⟨by omega,by omega⟩)
 conv=>arg 2;unfold D7
 simp only[BS];refine⟨λm z=> ?_,pV λi hi m z=>by simp[Fe,Ab.nms] at z⟩;simp only[Ab.nms] at z;obtain⟨r,Z,z⟩:=Fg.1 z;obtain⟨j,Q,rfl⟩:=Bo.1 Z;rw[cL,Bz] at z;exact O m ⟨j,Bt.1 Q,z⟩
def Nm(a:List Tile)(k:Int)(h:0<=k): ∀i j,i<=j->0<=E6 a k i/\E6 a k i<=E6 a k j:=by
 have pos: ∀i,0<=E6 a k i:=by
  intro i;induction i with
  |zero=>exact h
  |succ i ih=>simp only[E6];omega
 intro i j z;refine⟨pos i,?_⟩;induction j with
 |zero=>have:i=0:=by omega
        subst this;exact Oe _
 |succ j ih=>
  by_cases c:i=j+1
  .subst c;exact Oe _
  .have:=ih (by omega)
   simp only[E6];omega
def qF(s:Av)(b n:Nat)(f:Nat->Ao):Ci s (AQ b n f)= ∀i,i<n->hget s.h (b+i)=some (f i):=by
 have: ∀(l:List Nat),Ci s (l.map λi=>(b+i,f i))↔ ∀i∈l,hget s.h (b+i)=some (f i):=by
  intro l;induction l with
  |nil=>simp[Ci]
  |cons i r ih=>simp only[Bf,Ci,ih,Bh,Zek]
 apply propext;rw[AQ,this];simp only[Bt]
def cP(a:List Tile)(k:Int)(i j:Nat)(h:j<nT a):hget (D7 a k i) (2+j)=some (Fe a k i j):=by
 simp only[D7,hget,AW _ _ (show 0≠2+j by omega),Bm];exact GL _ _ _ _ h
def mkLC.ok:AC 122 mkLC.row:=by
 refine ow (tC mkText.ok (tC mkIC.ok tN)) Tryz.func122 (exB:=λ_=>false) (R:=λa r=>r=mkLC.r0 a) (λ_=>rfl)
  (λa=>⟨mkLC.hbel a,mkLC.hbH a,mkLC.hkH a,mkLC.hnm a⟩) (λa p hp=> ?_) (λa r h=>by subst h;exact CU.refl _) ?_
 rotate_left
 intro a aa;simp only[Tryz.f122,mkLC.ca];simp(disch:=omega)only[ZA,simprocAttr];obtain⟨l,k⟩:=a;obtain⟨h1,h2,h3⟩:=aa;simp only at h1 h2 h3;have hn:nT l=l.length:=by simp only[nT];omega
 simp only[Br,mkLC.H0,mkLC.H1];refine AT.old ⟨{i:Nat//i<=l.length},λi=>⟨[(5,.im (.int .i64 i.1)),(4,.im (.int .i64 0)),(0,.own 0),(1,.im (.int .i64 (E6 l k i.1)))],D7 l k i.1,2000000⟩,λi=>l.length - i.1,λi=>⟨?_,by simp⟩,⟨⟨0,by simp⟩,?_⟩,λi=> ?_⟩
 .simp only[Av.good,CF,AV.bel,Fo,Eg];rw[qK _ _ _ _ (by omega)];simp only[D7,B9];rw[QP _ _ _ _ (by omega)];simp
 .simp only[sub];simp(disch:=omega)only[ZA,simprocAttr,E6]
  conv=>arg 2;unfold D7
  simp only[Ci,qF];exact⟨rfl,λj z=>cP _ _ _ _ z⟩
 .obtain⟨i,ac⟩:=i;have hb:=Nm l k h2 i l.length ac;have Z:((List.range (nT l)).map (Fy l k i)).length=l.length:=by simp[hn]
  simp only[D7];simp(disch:=omega)only[ZA,simprocAttr,mkText.q,mkText.fv,AO,Z,Br];intro _;refine⟨λhi=>⟨by omega,hi,hi,λx hx=> ?_⟩,λhi=> ?_⟩
  .obtain rfl:i=x:=by
    rw[Iw (by omega)] at hx;exact Ay hx
   have em:Fy l k i i=[.im (.str ((l[i]?.map Tile.Name).getD ByteArray.empty)),.own (2+i)]:=by simp[Fy,J3]
   have O:((List.range (nT l)).map (Fy l k i)).set i [.im (.str (Hi (E6 l k i))),.own (2+i)]=(List.range (nT l)).map (Fy l k (i+1)):=by
    apply Io;intro j;by_cases z:i=j
    .subst z;rw[CY (by rw[Z];exact hi),CM,Iw (by omega)];simp[Fy]
    .rw[Dw z,CM,CM];cases hr:(List.range (nT l))[j]? with
     |none=>rfl
     |some y=>
      have hy:j=y:=by
       have hl:=(BW.1 hr).1;simp at hl;rw[Iw hl] at hr;exact Ay hr
      subst hy;simp only[D3,Fy];by_cases c:j<i
      .rw[Ai c,Ai (by omega)]
      .rw[Af c,Af (by omega)]
   rw[em];simp only[Lu,F8];have Q:i<((List.range (nT l)).map (Fy l k i)).length:=by rw[Z];exact hi
   have hw:IntKind.i64.wrap (E6 l k i+1)=E6 l k i+1:=AD (by omega) (by omega);refine⟨by simp,?_,by rw[EA];exact Q,by rw[EA];exact Q,JB (CY Q) ?_⟩
   .rw[O,CA];intro r hr;obtain⟨j,z,rfl⟩:=Bo.1 hr;exact cS _ _ _ _ _ (by have:=Bt.1 z;omega)
   simp(disch:=omega)only[ZA,simprocAttr,O,hw];have ab:=(Nm l k h2 (i+1) l.length hi).2;simp only[E6] at ab;refine⟨by omega,?_⟩;simp only[Br];rw[Wb 2 (nT l) (Fe l k i) [0] (by simp)];refine AB.os (sdL l i,E6 l k i+1) [2+i] ⟨by simp only;omega,by simp only;omega⟩ (λj=> ?_) rfl ?_ ?_ ?_
   .simp only[Ak,mkIC.H0,hget];by_cases z:j=0
    .subst z;simp
    .have:(0==j)=false:=by simpa using λh=>z h.symm
     rw[this];simp;omega
   .simp only[Xb,Fo,E4];omega
   .refine⟨by simp[mkIC.ca,AH,AV.ren,BE,I7],?_,trivial⟩;have e:BE (I7 [2+i]) 1 2000000 0=2+i:=by simp[BE,I7]
    rw[e]
    have:=cP l k i i (by omega)
    simp only[D7,Fe,hget,AW _ _ (show 0≠2+i by omega),Bm] at this;simp only[hget,AW _ _ (show 0≠2+i by omega),Bm];rw[GL _ _ _ _ (by omega)];simp[Fe,Ab.ren]
   simp(disch:=omega)only[ZA,simprocAttr,Ec,mkIC.H1,sub,Br,AW,WM,Ef];refine⟨.inr (by omega),⟨i+1,by omega⟩,by simp only;omega,⟨by rw[AD (by omega) (by omega)];simp only;omega,rfl⟩,rfl,?_⟩;rw[qF];intro j z;by_cases ag:j=i
   .subst ag;simp[hget,Fe]
   .simp only[hget,AW _ _ (show 2+i≠2+j by omega),AW _ _ (show 0≠2+j by omega),Bm];rw[Lj _ _ _ (by omega),GL _ _ _ _ z];simp only[Fe];by_cases c:j<i
    .rw[Ai c,Ai (by omega)]
    .rw[Af c,Af (by omega)]
  .have ad:i=l.length:=by omega
   subst ad;have kx: ∀j,j<nT l->I5 ((0,(true,Ab.arrA 208 2 (List.map (Fy l k 0) (List.range (nT l)))))::AQ 2 (nT l) (Fe l k 0)) 2000000 0 (λ_=>false) (2+j)=some (2+j):=by
    intro j z
    have:=(ID l k 0 (2+j)).2 (.inr ⟨by omega,by omega⟩)
    simp only[D7] at this;simp only[I5,this,nR,BX]
   refine⟨?_,rfl,?_,?_⟩
   .have: ∀(h:Nat->Option Ao) (H:Ap),HU h (λ_=>true) H:=by
     intro h H;induction H with
     |nil=>trivial
     |cons x r ih=>obtain⟨j,e⟩:=x;exact⟨trivial,ih⟩
    exact this _ _
   .rw[show Fy l k (nT l)=Fy l k l.length by rw[hn]];rw[Rd (g:=Fy l k l.length) (k:=Fy l k l.length) _ (λj z=> ?_)]
    .rfl
    .have af:=Bt.1 z;simp only[Fy,Ai (show j<l.length by omega),Ar,Ba,kx j af,kp]
   .refine IE _ _ _ _ _ (λj z=> ?_) (λj z=>rfl);simp only[hget,AW _ _ (show 0≠2+j by omega),Bm];rw[GL _ _ _ _ z,hn]
 refine .inl ?_;have ah:p.1=0\/(2<=p.1/\p.1<2+nT a.1):=by
  simp only[mkLC.H1,D7,Bh,AQ,Bo,Bt] at hp;rcases hp with rfl|⟨j,z,rfl⟩
  .exact .inl rfl
  .exact .inr ⟨by simp only;omega,by simp only;omega⟩
 have:=CV a.1
 exact⟨by omega,rfl,(ID _ _ _ _).2 ah⟩
def OF{H:Ap}{j:Nat}:j∈Fl H↔Ak H j=true:=by
 induction H with
 |nil=>simp[Fl,Ak,hget]
 |cons e r ih=>
  obtain⟨i,e⟩:=e;simp only[Fl,Bh,Ak,hget];by_cases z:i=j
  .subst z;simp
  .have:(i==j)=false:=by simpa using z
   rw[this];simp only[Bm];exact⟨λh=>ih.1 (h.resolve_left λh=>z h.symm),λh=> .inr (ih.2 h)⟩
mutual
def cK{n:Nat}: ∀x:AV,(∀m∈x.nms,m<n)->x.bel n=true
 | .any,_=>rfl
 | .im _,_=>rfl
 | .agg cs,h=>by simp only[AV.nms] at h;simp only[AV.bel];exact Kc cs h
 | .tup cs,h=>by simp only[AV.nms] at h;simp only[AV.bel];exact Kc cs h
 | .ptr o _,h=>by simp only[AV.bel,E4];exact h o (by simp[AV.nms])
 | .eptr o _ _,h=>by simp only[AV.bel,E4];exact h o (by simp[AV.nms])
 | .own o,h=>by simp only[AV.bel,E4];exact h o (by simp[AV.nms])
 | .mp o,h=>by simp only[AV.bel,E4];exact h o (by simp[AV.nms])
 | .ch o,h=>by simp only[AV.bel,E4];exact h o (by simp[AV.nms])
 | .it o,h=>by simp only[AV.bel,E4];exact h o (by simp[AV.nms])
 | .osl o _ _,h=>by simp only[AV.bel,E4];exact h o (by simp[AV.nms])
 | .clo _ a c,h=>by
   simp only[AV.nms,Bn] at h;simp only[AV.bel,Kc a λm z=>h m (.inl z),Kc c λm z=>h m (.inr z),gQ]
def Kc{n:Nat}: ∀xs:List AV,(∀m∈AA xs,m<n)->AF n xs=true
 |[],_=>rfl
 |x::r,h=>by
  simp only[AA,Bn] at h;simp only[AF,cK x λm z=>h m (.inl z),Kc r λm z=>h m (.inr z),gQ]
end
def cH{n:Nat}: ∀H:Ap,(∀p∈H,∀m∈p.2.2.nms,m<n)->Aw n H=true
 |[],_=>rfl
 |(i,(Q,e))::r,h=>by
  have z:=h _ (BM ..);have ih:=cH r λp hp=>h p (BP _ hp)
  cases e with
  |cells T cs=>simp only[Aw,ih,Fo];exact Kc cs (by simpa[Ab.nms] using z)
  |arrA T k rows=>
   simp only[Aw,ih,Fo,CA];refine λq hq=>Kc q λm O=>z m ?_
   simp only[Ab.nms];exact Fg.2 ⟨q,hq,O⟩
  |_=>simp only[Aw,ih]
mutual
def cU(σ:Nat->Nat): ∀x:AV,(x.ren σ).nms=x.nms.map σ
 | .any=>rfl
 | .im _=>rfl
 | .agg cs=>by simp only[AV.ren,AV.nms];exact Kd σ cs
 | .tup cs=>by simp only[AV.ren,AV.nms];exact Kd σ cs
 | .ptr o _=>rfl
 | .eptr o _ _=>rfl
 | .own o=>rfl
 | .mp o=>rfl
 | .ch o=>rfl
 | .it o=>rfl
 | .osl o _ _=>rfl
 | .clo _ a c=>by simp only[AV.ren,AV.nms,Kd σ a,Kd σ c,ES]
def Kd(σ:Nat->Nat): ∀xs:List AV,AA (AH σ xs)=(AA xs).map σ
 |[]=>rfl
 |x::r=>by simp only[AH,AA,cU σ x,Kd σ r,ES]
end
def Qafh(σ:Nat->Nat)(e:Ab): ∀m∈(e.ren σ).nms,∃j∈e.nms,m=σ j:=by
 intro m z;cases e with
 |cells T cs=>
  simp only[Ab.ren,Ab.nms,Kd,Bo] at z⊢;obtain⟨j,O,rfl⟩:=z;exact⟨j,O,rfl⟩
 |arrA T k rows=>
  simp only[Ab.ren,Ab.nms] at z⊢;obtain⟨r,Q,z⟩:=Fg.1 z;obtain⟨q,hq,rfl⟩:=Bo.1 Q;rw[Kd,Bo] at z;obtain⟨j,O,rfl⟩:=z;exact⟨j,Fg.2 ⟨q,hq,O⟩,rfl⟩
 |_=>simp[Ab.ren,Ab.nms] at z
def qC{σ:Nat->Nat}{N:Nat}(H:Ap)(h: ∀p∈H,∀m∈p.2.2.nms,σ m<N):Aw N (AS σ H)=true:=by
 refine cH _ ?_;induction H with
 |nil=>intro p hp;cases hp
 |cons x r ih=>
  obtain⟨i,Q,e⟩:=x;intro p hp m z;rcases Bh.1 hp with rfl|hp
  .obtain⟨j,O,rfl⟩:=Qafh σ e m z;exact h _ (BM ..) j O
  .exact ih (λp hp=>h p (BP _ hp)) p hp m z
def AB.tau{A:Type}{ca:A->List AV}{H0:A->Ap}{k:Nat}{pre:A->Prop}{klB:Nat->Bool}{r0:A->AV}{H1:A->Ap}{args:List AV}{tm:List (Nat×AV)}{h:Ap}{nx:Nat}{dst:Option Nat}{go:Av->Prop}(a:A)(τ:Nat->Nat)(ac:pre a)(ai: ∀j,Ak (H0 a) j=true->klB j=true)
 (hd: ∀j,Ak (H0 a) j=true->j<k/\τ j<nx)(aa: ∀i j,Ak (H0 a) i=true->Ak (H0 a) j=true->τ i=τ j->i=j)
 (hcl: ∀p∈H1 a,Ak (H0 a) p.1=true/\ ∀m∈p.2.2.nms,Ak (H0 a) m=true)
 (hx:args=AH (BE τ k nx) (ca a)/\CL (hget h) (BE τ k nx) (H0 a))
 (hb: ∀m∈(r0 a).nms,Ak (H0 a) m=true)
 (ag: ∀HH:Ap,(∀j e,hget (H1 a) j=some e->hget HH (τ j)=some (e.1,e.2.ren (BE τ k nx)))->(∀m,(∀j,Ak (H0 a) j=true->τ j≠m)->hget HH m=hget h m)->go ((⟨tm,HH,nx⟩:Av).put dst ((r0 a).ren (BE τ k nx)))):
 AB ca H0 k pre klB r0 H1 0 args (hget h) nx (D6 go ⟨tm,h,nx⟩ dst):=by
 have hσ: ∀j,Ak (H0 a) j=true->BE τ k nx j=τ j:=λj z=>Ai (hd j z).1
 have ah: ∀i j,Ak (H0 a) i=true->Ak (H0 a) j=true->BE τ k nx i=BE τ k nx j->i=j:=λi j hi z h=>aa i j hi z (by rwa [hσ i hi,hσ j z] at h)
 have O: ∀m,m∈(Fl (H0 a)).map τ↔ ∃j,Ak (H0 a) j=true/\τ j=m:=λm=>by simp only[Bo,OF]
 have Z: ∀p∈H1 a,Ak (H0 a) p.1=true:=λp hp=>(hcl p hp).1
 refine⟨a,τ,(Fl (H0 a)).map τ,(Fl (H0 a)).map τ,ac,hx.1,hx.2,⟨aa,λj z=>(hd j z).2,λj z=>(O _).2 ⟨j,z,rfl⟩,λm hm=> ?_,λj z _=>(O _).2 ⟨j,z,rfl⟩⟩,?_⟩
 .obtain⟨j,z,rfl⟩:=(O m).1 hm;exact⟨j,z,ai j z,rfl⟩
 refine⟨?_,?_⟩
 .have ad:((r0 a).ren (BE τ k nx)).bel nx=true:=by
   refine cK _ λm hm=> ?_
   rw[cU,Bo] at hm;obtain⟨j,z,rfl⟩:=hm;rw[hσ j (hb j z)];exact (hd j (hb j z)).2
  have af:Aw nx (AS (BE τ k nx) (H1 a))=true:=qC _ λp hp m hm=>by
   have:=(hcl p hp).2 m hm
   rw[hσ m this];exact (hd m this).2
  rw[Bk.ok_nr,Lx,ad,af,Eg,Eg]
  have: ∀H:Ap,(∀p∈H,Ak (H0 a) p.1=true)->GW ((Fl (H0 a)).map τ) nx 0 (AS (BE τ k nx) H)=true:=by
   intro H;induction H with
   |nil=>intro _;rfl
   |cons e r ih=>
    obtain⟨i,mu,e⟩:=e;intro hp;have Q:=hp _ (BM ..);simp only at Q;simp only[AS,GW,Ke,AN,Iq,G8,E4];refine⟨.inr ⟨?_,?_⟩,ih λp h=>hp p (BP _ h)⟩
    .rw[FO,hσ i Q];exact (O _).2 ⟨i,Q,rfl⟩
    .rw[hσ i Q];exact (hd i Q).2
  exact this _ Z
 rw[Av.app_nr,Lx];refine ag _ (λj e he=> ?_) (λm hm=> ?_)
 .have z:Ak (H0 a) j=true:=by
   have: ∀H:Ap,hget H j=some e-> ∃p∈H,p.1=j:=by
    intro H;induction H with
    |nil=>intro h;cases h
    |cons x r ih=>
     obtain⟨i,x⟩:=x;intro h;by_cases ab:i=j
     .exact⟨_,BM ..,ab⟩
     .have hb:(i==j)=false:=by simpa using ab
      simp only[hget,hb,Bm] at h;obtain⟨p,Q,h2⟩:=ih h;exact⟨p,BP _ Q,h2⟩
   obtain⟨p,Q,rfl⟩:=this _ he;exact Z p Q
  rw[IP,<-hσ j z,Qv5 (D:=λj=>Ak (H0 a) j=true) ah (H1 a) Z j z,he];rfl
 .rw[IP];cases hq:hget (AS (BE τ k nx) (H1 a)) m with
  |some e=>
   obtain⟨j,e0,Q,h2,_⟩:=vY hq;have z:=Z _ Q;rw[hσ j z] at h2;exact absurd h2 (hm j z)
  |none=>
   rw[WA,Af]
   .rfl
   .rw[FO];intro h;obtain⟨j,z,h2⟩:=(O m).1 h;exact hm j z h2
def cX{go:Av->Prop}{tm:List (Nat×AV)}{h:Ap}{nx:Nat}{dst:Option Nat}{σ:Nat->Nat}(hσ: ∀j,σ j=nx+j){r0:AV}{H1:Ap}{cnt:Nat}{u kl:List Nat}(ab:kl=[])
 (hcl: ∀p∈H1,p.1<cnt/\ ∀m∈p.2.2.nms,m<cnt)(hb: ∀m∈r0.nms,m<cnt)
 (aa: ∀O:Ap,(∀j e,hget H1 j=some e->hget O (nx+j)=some (e.1,e.2.ren σ))->(∀m,m<nx->hget O m=hget h m)->go ((⟨tm,O,nx+cnt⟩:Av).put dst (r0.ren σ))):
 D6 go ⟨tm,h,nx⟩ dst (r0.ren σ) {use:=u,kill:=kl,new:=AS σ H1,cnt:=cnt}:=by
 subst ab;refine⟨?_,?_⟩
 .have Q:(r0.ren σ).bel (nx+cnt)=true:=by
   refine cK _ λm z=> ?_
   rw[cU,Bo] at z;obtain⟨j,hj,rfl⟩:=z
   have:=hb j hj
   rw[hσ];omega
  have Z:Aw (nx+cnt) (AS σ H1)=true:=qC _ λp hp m z=>by
   have:=(hcl p hp).2 m z
   rw[hσ];omega
  rw[Bk.ok_nr,Q,Z,Eg,Eg];refine Wa _ _ _ _ λp hp=> ?_
  have: ∀H:Ap,(∀p∈H,p.1<cnt)-> ∀p∈AS σ H,nx<=p.1/\p.1<nx+cnt:=by
   intro H;induction H with
   |nil=>intro _ p hp;cases hp
   |cons x r ih=>
    obtain⟨i,mu,e⟩:=x;intro hx p hp;have h1:=hx _ (BM ..);simp only at h1;simp only[AS,Bh] at hp;rcases hp with rfl|hp
    .simp only;rw[hσ];omega
    .exact ih (λp h=>hx p (BP _ h)) p hp
  exact this _ (λp hp=>(hcl p hp).1) p hp
 rw[Av.app_nr,Br];refine aa _ (λj e he=> ?_) (λm z=> ?_)
 .rw[IP,<-hσ j,qG (λi j h=>by rw[hσ,hσ] at h;omega),he];rfl
 .rw[IP];cases hq:hget (AS σ H1) m with
  |some e=>
   obtain⟨j,e0,_,h2,_⟩:=vY hq;rw[hσ] at h2;omega
  |none=>rfl
def AB.nw{A:Type}{ca:A->List AV}{H0:A->Ap}{pre:A->Prop}{klB:Nat->Bool}{r0:A->AV}{H1:A->Ap}{cnt:Nat}{args:List AV}{tm:List (Nat×AV)}{h:Ap}{nx:Nat}{dst:Option Nat}{Z:Av->Prop}(a:A)(z:pre a)(h0:H0 a=[])
 (hx:args=AH (λj=>nx+j) (ca a))(hcl: ∀p∈H1 a,p.1<cnt/\ ∀m∈p.2.2.nms,m<cnt)(hb: ∀m∈(r0 a).nms,m<cnt)
 (Q: ∀O:Ap,(∀j e,hget (H1 a) j=some e->hget O (nx+j)=some (e.1,e.2.ren λj=>nx+j))->(∀m,m<nx->hget O m=hget h m)->Z ((⟨tm,O,nx+cnt⟩:Av).put dst ((r0 a).ren λj=>nx+j))):
 AB ca H0 0 pre klB r0 H1 cnt args (hget h) nx (D6 Z ⟨tm,h,nx⟩ dst):=by
 have e:BE (I7 []) 0 nx=λj=>nx+j:=funext λj=>by simp[BE]
 refine AB.os a [] z (λj=>by rw[h0];simp[Ak,hget]) rfl rfl ⟨by rw[e];exact hx,by rw[h0];trivial⟩ ?_;rw[e];exact cX (λ_=>rfl) rfl hcl hb Q
def vF.call{A:Type}{ar:List PK->Option A}{pre:A->Prop}{re:A->D}{args:List AV}{tm:List (Nat×AV)}{h:Ap}{nx:Nat}{dst:Option Nat}{Z:Av->Prop}(ps:List PK)(Q:Cf (hget h) args=some ps)(a:A)(ha:ar ps=some a)(z:pre a)
 (O:Z ((⟨tm,h,nx⟩:Av).put dst (.im (re a)))):NT ar pre re args (hget h) nx (D6 Z ⟨tm,h,nx⟩ dst):=by
 unfold NT;rw[Q];simp only[Vy,ha,DV];refine⟨z,?_,?_⟩
 .rw[Bk.ok_nr];simp[AV.bel,Aw,GW]
 .rw[Av.app_nr,Br,Lx];exact O
def Hw(G:List Am)(rows:List (List AV))(n:Nat)(f:Nat->Ao):Ap:=(0,(true,.arr 211 2 (G.map Am.c)))::(1,(true,.arrA 208 2 rows))::AQ 2 n f
def IF(G:List Am)(rows:List (List AV))(n:Nat)(f:Nat->Ao)(j:Nat):Ak (Hw G rows n f) j=true↔j<2+n:=by
 simp only[Ak,Hw,hget,fM];by_cases h0:j=0
 .subst h0;simp;omega
 by_cases z:j=1
 .subst z;simp;omega
 rw[AW _ _ (λh=>h0 h.symm),AW _ _ (λh=>z h.symm)];simp only[Bm];split
 .rename_i h;simp;omega
 .rename_i h;simp;omega
def kV{G:List Am}{rows:List (List AV)}{n:Nat}{f:Nat->Ao}{p:Nat×Ao}(hp:p∈Hw G rows n f):p.1<2+n:=by
 simp only[Hw,Bh,AQ,Bo,Bt] at hp;rcases hp with rfl|rfl|⟨j,z,rfl⟩<;>simp only<;>omega
def Dq(a:List Tile)(k:Int)(i:Nat):List (List AV):=(List.range (nT a)).map (Fy a k i)
def Va(a:List Tile)(k:Int)(i N:Nat)(h:2+nT a<=N):(Dq a k i).all (AF N)=true:=by
 rw[CA];intro r O;obtain⟨j,z,rfl⟩:=Bo.1 O;exact cS _ _ _ _ _ (by have:=Bt.1 z;omega)
def Zk(a:List Tile)(k:Int)(i j:Nat)(σ:Nat->Nat)(h:σ (2+j)=2+j):AH σ (Fy a k i j)=Fy a k i j:=by
 simp only[Fy]
 split<;>simp[J3,AH,AV.ren,h]
def VZ(a:List Tile)(k:Int)(i:Nat)(σ:Nat->Nat)(h: ∀j,j<nT a->σ (2+j)=2+j):(Dq a k i).map (AH σ)=Dq a k i:=by
 rw[Dq,Lw];exact JJ λj z=>Zk _ _ _ _ _ (h j (Bt.1 z))
def Nf{G:List Am}{a:List Tile}{k:Int}{i N:Nat}{f:Nat->Ao}(h:2+nT a<=N)(hf: ∀i,Aw N [(2+i,f i)]=true):Aw N (Hw G (Dq a k i) (nT a) f)=true:=by
 simp only[Hw,Aw];rw[QZ _ _ _ hf,Va _ _ _ _ h];rfl
def qJ{G:List Am}{a:List Tile}{k:Int}{i N:Nat}{f:Nat->Ao}(h:2+nT a<=N):B9 N (Hw G (Dq a k i) (nT a) f)=true:=by
 simp only[Hw,B9];rw[QP _ _ _ _ (by omega)];simp;omega
def cW{G:List Am}{a:List Tile}{k:Int}{i:Nat}{f:Nat->Ao}(hf: ∀j,(f j).2.nms=[]){p:Nat×Ao}(hp:p∈Hw G (Dq a k i) (nT a) f){m:Nat}(z:m∈p.2.2.nms):m<2+nT a:=by
 simp only[Hw,Bh,AQ,Bo,Bt] at hp;rcases hp with rfl|rfl|⟨j,O,rfl⟩
 .simp[Ab.nms] at z
 .simp only[Ab.nms] at z;obtain⟨r,Q,z⟩:=Fg.1 z;obtain⟨j,O,rfl⟩:=Bo.1 Q;rw[cL,Bz] at z
  have:=Bt.1 O
  omega
 .rw[hf] at z;cases z
def Wj{H0:Ap}: ∀{H:Ap},(∀p∈H,∀m∈p.2.2.nms,Ak H0 m=true)->BS H0 H
 |[],_=>trivial
 |(_,(_,_))::r,h=>⟨h _ (BM ..),Wj λp hp=>h p (BP _ hp)⟩
def Eb(a:Az×Int):Int:=a.2+2*a.1.Glues.length
def mkTS.ca(a:Az×Int):List AV:=[.agg [.own 0,.own 1],.im (.int .i64 a.2)]
def mkTS.H0(a:Az×Int):Ap:=Hw a.1.Glues (Dq a.1.Tiles (Eb a) 0) (nT a.1.Tiles) (Fe a.1.Tiles (Eb a) 0)
def mkTS.H1(a:Az×Int):Ap:=Hw (EI (gF a.2) a.1.Glues.length) (Dq a.1.Tiles (Eb a) (nT a.1.Tiles)) (nT a.1.Tiles) (Fe a.1.Tiles (Eb a) (nT a.1.Tiles))
def mkTS.r0(a:Az×Int):AV:= .im (.int .i64 (E6 a.1.Tiles (Eb a) a.1.Tiles.length))
def mkTS.pre(a:Az×Int):Prop:=0<=a.2/\a.1.Tiles.length<=1048576/\E6 a.1.Tiles (Eb a) a.1.Tiles.length<=1099511627776
def mkTS.row:A7:=AB mkTS.ca mkTS.H0 2000000 mkTS.pre (λ_=>true) mkTS.r0 mkTS.H1 0
def mkTS.hbel(a:Az×Int):AF 2000000 (mkTS.ca a)=true:=by simp[mkTS.ca,AF,AV.bel]
def mkTS.hbH(a:Az×Int):Aw 2000000 (mkTS.H0 a)=true:=Nf (by have:=CV a.1.Tiles;omega) (λi=>by simp[Aw,Fe])
def mkTS.hkH(a:Az×Int):B9 2000000 (mkTS.H0 a)=true:=qJ (by have:=CV a.1.Tiles;omega)
def mkTS.hnm(a:Az×Int):BS (mkTS.H0 a) (mkTS.H0 a):=
 Wj λp hp m z=>(IF _ _ _ _ _).2 (cW (λj=>by simp[Fe,Ab.nms]) hp z)
def Wh(h:Nat->Option Ao): ∀(H:Ap),HU h (λ_=>true) H
 |[]=>trivial
 |(j,e)::r=>⟨trivial,Wh h r⟩
def Wk{H0:Ap}{k cnt:Nat}{exB:Nat->Bool}{j:Nat}(h:Ak H0 j=true):I5 H0 k cnt exB j=some j:=by
 simp only[I5,h,nR,BX]
def Zj{h:Nat->Option Ao}{kx:Nat->Option Nat}{m:Nat}{a:List Tile}{k:Int}{i j:Nat}(z:kx (2+j)=some (2+j)):Ar (Ba h kx (m+1)) (Fy a k i j)=some (Fy a k i j):=by
 simp only[Fy]
 split<;>simp only[J3,Ar,Ba,z,kp]
def qH{h:Nat->Option Ao}{kx:Nat->Option Nat}{m:Nat}{a:List Tile}{k:Int}{i:Nat}(O: ∀j,j<nT a->kx (2+j)=some (2+j)):Ar (Ar (Ba h kx (m+1))) (Dq a k i)=some (Dq a k i):=
 Rd _ λj z=>Zj (O j (Bt.1 z))
def mkLC.hcl(a:List Tile×Int): ∀p∈mkLC.H1 a,Ak (mkLC.H0 a) p.1=true/\ ∀m∈p.2.2.nms,Ak (mkLC.H0 a) m=true:=by
 intro p hp;simp only[mkLC.H0,ID];simp only[mkLC.H1,D7,Bh,AQ,Bo,Bt] at hp;rcases hp with rfl|⟨j,O,rfl⟩
 .refine⟨.inl rfl,λm z=> ?_⟩;simp only[Ab.nms] at z;obtain⟨r,Q,z⟩:=Fg.1 z;obtain⟨j,O,rfl⟩:=Bo.1 Q;rw[cL,Bz] at z
  have:=Bt.1 O
  exact .inr ⟨by omega,by omega⟩
 .exact⟨.inr ⟨by simp only;omega,by simp only;omega⟩,λm z=>by simp[Fe,Ab.nms] at z⟩
def mkTS.hcl(a:Az×Int): ∀p∈mkTS.H1 a,Ak (mkTS.H0 a) p.1=true/\ ∀m∈p.2.2.nms,Ak (mkTS.H0 a) m=true:=
 λp hp=>⟨(IF _ _ _ _ _).2 (kV hp),λm z=>(IF _ _ _ _ _).2 (cW (λj=>by simp[Fe,Ab.nms]) hp z)⟩
def mkTS.ok:AC 78 mkTS.row:=by
 refine ow (tC mkGC.ok (tC mkLC.ok tN)) Tryz.func78 (exB:=λ_=>false) (R:=λa r=>r=mkTS.r0 a) (λ_=>rfl)
  (λa=>⟨mkTS.hbel a,mkTS.hbH a,mkTS.hkH a,mkTS.hnm a⟩) (λa p hp=> ?_) (λa r h=>by subst h;exact CU.refl _) ?_
 rotate_left
 intro a Z;simp only[Tryz.f78,mkTS.ca];simp only[ZA,simprocAttr];obtain⟨S,k⟩:=a;obtain⟨h1,h2,h3⟩:=Z;simp only at h1 h2 h3;have hk:=Nm S.Tiles (Eb (S,k)) (by simp only[Eb];omega) 0 S.Tiles.length (by omega);have Q:Eb (S,k)<=1099511627776:=by simp only[E6] at hk;omega
 simp only[Eb] at Q;have hn:=CV S.Tiles;simp only[Br,mkTS.H0,Hw];refine AB.os (S.Glues,k) [0] ⟨h1,Q⟩ (λj=> ?_) rfl rfl ?_ ?_
 .simp only[Ak,mkGC.H0,hget];by_cases z:j=0
  .subst z;simp
  .have:(0==j)=false:=by simpa using λh=>z h.symm
   rw[this];simp;omega
 .simp only[ZA,simprocAttr,Ec,mkGC.ca,mkGC.H0,CL,Ef]
  try exact⟨rfl,rfl⟩
 simp only[ZA,simprocAttr,Ec,mkGC.H1,Br,Ef,Ht];rw[Wb 2 (nT S.Tiles) (Fe S.Tiles (Eb (S,k)) 0) [0] (by simp)];have hσ: ∀j,j<nT S.Tiles->BE (λj=>if j=0 then 1 else j) 2000000 2000001 (2+j)=2+j:=λj z=>by
  simp only[BE];rw[Ai (by omega),Af (by omega)]
 have hσ0:BE (λj=>if j=0 then 1 else j) 2000000 2000001 0=1:=rfl;refine AB.tau (S.Tiles,Eb (S,k)) (λj=>if j=0 then 1 else j) ⟨h2,by simp only[Eb];omega,h3⟩ (λ_ _=>rfl) (λj z=> ?_) (λi j O z h=> ?_) (mkLC.hcl _) ⟨?_,?_⟩ (by simp[mkLC.r0,AV.nms]) (λHH hH1 aa=> ?_)
 .have z:=(ID _ _ _ _).1 z;simp only at z⊢
  split<;>omega
 .have O:=(ID _ _ _ _).1 O;have z:=(ID _ _ _ _).1 z;simp only at O z h;split at h<;>split at h<;>omega
 .simp only[mkLC.ca,AH,AV.ren,hσ0,Eb]
 .simp only[mkLC.H0,D7,CL,hσ0,Ab.ren];refine⟨?_,QE λi O=> ?_⟩
  .simp only[hget,AW _ _ (show 0≠1 by omega),AW _ _ (show 2000000≠1 by omega),Bm,aP,BX];rw[<-Dq,VZ _ _ _ _ hσ]
  .rw[hσ i O];simp only[hget,AW _ _ (show 0≠2+i by omega),AW _ _ (show 2000000≠2+i by omega),AW _ _ (show 1≠2+i by omega),Bm];rw[GL _ _ _ _ O];rfl
 have g0:hget HH 0=some (true,.arr 211 2 ((EI (gF k) S.Glues.length).map Am.c)):=by
  rw[aa 0 (λj z=>by
   have z:=(ID _ _ _ _).1 z;simp only at z⊢
   split<;>omega)]
  rfl
 have g1:hget HH 1=some (true,.arrA 208 2 (Dq S.Tiles (Eb (S,k)) (nT S.Tiles))):=by
  have g:=hH1 0 _ rfl;rw[Ai rfl] at g;rw[g];simp only[Ab.ren];rw[<-Dq,VZ _ _ _ _ hσ]
 have g2: ∀j,j<nT S.Tiles->hget HH (2+j)=some (Fe S.Tiles (Eb (S,k)) (nT S.Tiles) j):=λj z=>by
  have:=hH1 (2+j) _ (cP _ _ _ j z)
  simp only[Af (show 2+j≠0 by omega)] at this;rw[this];rfl
 simp only[mkLC.r0,AV.ren];simp only[ZA,simprocAttr,mkTS.r0,Eb,Br,mkTS.H1,Hw];have ab: ∀j,j<nT S.Tiles->Ak ((0,(true,Ab.arr 211 2 (List.map Am.c S.Glues)))::(1,(true,Ab.arrA 208 2 (Dq S.Tiles (k+2*S.Glues.length) 0)))::AQ 2 (nT S.Tiles) (Fe S.Tiles (k+2*S.Glues.length) 0)) (2+j)=true:=λj z=>(IF _ _ _ _ _).2 (by omega)
 refine⟨Wh _ _,?_,?_,?_⟩
 .rw[g0];exact⟨rfl,rfl⟩
 .rw[g1];refine⟨rfl,?_⟩;simp only[Cm];rw[qH (λj z=>Wk (ab j z))];rfl
 .exact IE _ _ _ _ _ (λj z=>g2 j z) (λj z=>rfl)
 obtain⟨q1,_⟩:=mkTS.hcl _ p hp
 have:=(IF _ _ _ _ _).1 q1
 have:=CV a.1.Tiles
 exact .inl ⟨by omega,rfl,q1⟩
def Ql{n:Nat}{l:Int}(h:0<=Cx n l):(n:Int)<=l/\Cx n l<=l/\0<=l:=by
 simp only[Cx] at h⊢;split at h
 .omega
 .rename_i c;rw[Af c];omega
def Qu5: ∀(a:List Tile) (l:Int),0<=l->l<=1048576->0<=FY F1 a l-> ∀x∈a,x.Sides.length<=1073741824
 |[],_,_,_,_=>by intro x z;cases z
 |y::r,l,h0,Z,h=>by
  simp only[FY] at h;split at h
  .omega
  .rename_i c;have O:0<=F1 y l:=by omega
   have Q:0<=Cx y.Name.size l:=by
    simp only[F1] at O;split at O
    .omega
    .omega
   have e:F1 y l=Cx y.Sides.length (Cx y.Name.size l):=by
    simp only[F1];rw[Af (by omega)]
   rw[e] at O h;obtain⟨a1,a2,a3⟩:=Ql O;obtain⟨b1,b2,b3⟩:=Ql Q;intro x z;rcases Bh.1 z with rfl|z
   .omega
   .exact Qu5 r _ O (by omega) h x z
def UX{s:Az}{l:Int}(Z: -1<=l)(aa:l<=1048576)(h:0<=Qn s l):UE s:=by
 have hg:=Qo1 s.Glues l Z;simp only[Qn] at h;split at h
 .omega
 rename_i c;have z:0<=Hp s.Glues l:=by omega
 have Q:0<=Cx s.Glues.length l:=by
  simp only[Hp] at z;split at z
  .omega
  .omega
 have O:0<=Cx s.Tiles.length (Hp s.Glues l):=by
  simp only[Lm] at h;split at h
  .omega
  .omega
 have e:Lm s.Tiles (Hp s.Glues l)=FY F1 s.Tiles (Cx s.Tiles.length (Hp s.Glues l)):=by
  simp only[Lm];rw[Af (by omega)]
 rw[e] at h;obtain⟨a1,a2,a3⟩:=Ql Q;obtain⟨b1,b2,b3⟩:=Ql O;exact⟨by omega,by omega,Qu5 s.Tiles _ O (by omega) h⟩
def Qz9{s:AM}{l:Int}(O: -1<=l)(z:l<=1048576)(h:0<=JH s l):Na s:=by
 have Q:=Qxk s.Set l O;simp only[JH] at h;split at h
 .omega
 rename_i c;obtain⟨a1,a2,a3⟩:=Ql h;exact⟨UX O z (by omega),by omega⟩
def UY{s:AE}{l:Int}(Q: -1<=l)(z:l<=1048576)(h:0<=GC s l):bU s/\GC s l<=1048576:=by
 have O:=mV s.Big l Q;have hc:=mV s.Small (JH s.Big l) O.1;simp only[GC] at h⊢;split at h
 .omega
 rename_i c1;rw[Af c1];split at h
 .omega
 rename_i Z;rw[Af Z];obtain⟨a1,a2,a3⟩:=Ql h;exact⟨⟨Qz9 Q z (by omega),Qz9 O.1 (by omega) (by omega),by omega⟩,by omega⟩
def syK(a:AM×Int):Int:=E6 a.1.Set.Tiles (Eb (a.1.Set,a.2)) a.1.Set.Tiles.length
def mkSy.ca(a:AM×Int):List AV:=[.agg [.own 0,.own 1,.own 2000000,.im (.int .i64 a.1.Temperature)],.im (.int .i64 a.2)]
def mkSy.H0(a:AM×Int):Ap:=(2000000,(true,.arr 115 3 (a.1.Seed.Tiles.map Aj.c)))::mkTS.H0 (a.1.Set,a.2)
def mkSy.H1(a:AM×Int):Ap:=(2000000,(true,.arr 115 3 ((EI (pF (syK a)) a.1.Seed.Tiles.length).map Aj.c)))::mkTS.H1 (a.1.Set,a.2)
def mkSy.r0(a:AM×Int):AV:= .im (.int .i64 (syK a+3*a.1.Seed.Tiles.length))
def mkSy.pre(a:AM×Int):Prop:=0<=a.2/\a.1.Set.Tiles.length<=1048576/\syK a+3*a.1.Seed.Tiles.length<=1099511627776
def mkSy.row:A7:=AB mkSy.ca mkSy.H0 2000001 mkSy.pre (λ_=>true) mkSy.r0 mkSy.H1 0
def mkSy.dom0(a:AM×Int)(j:Nat):Ak (mkSy.H0 a) j=true↔j=2000000\/j<2+nT a.1.Set.Tiles:=by
 by_cases h:j=2000000
 .subst h;simp[Ak,mkSy.H0,hget]
 .have z:(2000000==j)=false:=by simpa using λq=>h q.symm
  have:Ak (mkSy.H0 a) j=Ak (mkTS.H0 (a.1.Set,a.2)) j:=by simp only[Ak,mkSy.H0,hget,z,Bm]
  rw[this];simp only[mkTS.H0,IF,h,false_or]
def mkSy.hcl(a:AM×Int): ∀p∈mkSy.H1 a,Ak (mkSy.H0 a) p.1=true/\ ∀m∈p.2.2.nms,Ak (mkSy.H0 a) m=true:=by
 intro p hp;simp only[mkSy.dom0];rcases Bh.1 hp with rfl|hp
 .exact⟨.inl rfl,λm z=>by simp[Ab.nms] at z⟩
 .have:=mkTS.hcl _ p hp
  simp only[mkTS.H0,IF] at this;exact⟨.inr this.1,λm z=> .inr (this.2 m z)⟩
def mkSy.hbel(a:AM×Int):AF 2000001 (mkSy.ca a)=true:=by simp[mkSy.ca,AF,AV.bel]
def mkSy.hbH(a:AM×Int):Aw 2000001 (mkSy.H0 a)=true:=by
 simp only[mkSy.H0,Aw];exact Nf (by have:=CV a.1.Set.Tiles;simp only;omega) (λi=>by simp[Aw,Fe])
def mkSy.hkH(a:AM×Int):B9 2000001 (mkSy.H0 a)=true:=by
 simp only[mkSy.H0,B9]
 have:=qJ (G:=a.1.Set.Glues) (a:=a.1.Set.Tiles) (k:=Eb (a.1.Set,a.2)) (i:=0) (N:=2000001) (f:=Fe a.1.Set.Tiles (Eb (a.1.Set,a.2)) 0) (by have:=CV a.1.Set.Tiles;omega)
 simp only[mkTS.H0,this,Fo];simp
def mkSy.hnm(a:AM×Int):BS (mkSy.H0 a) (mkSy.H0 a):=by
 refine Wj λp hp m z=>(mkSy.dom0 _ _).2 ?_
 rcases Bh.1 hp with rfl|hp
 .simp[Ab.nms] at z
 .exact .inr (cW (λj=>by simp[Fe,Ab.nms]) hp z)
def rY{G:List Am}{rows:List (List AV)}{n:Nat}{f:Nat->Ao}(i:Nat)(h:i<n):hget (Hw G rows n f) (2+i)=some (f i):=by
 simp only[Hw,hget,AW _ _ (show 0≠2+i by omega),AW _ _ (show 1≠2+i by omega),Bm];exact GL _ _ _ _ h
def TE{h:Nat->Option Ao}{kx:Nat->Option Nat}{m:Nat}{G:List Am}{a:List Tile}{k:Int}{i:Nat}{f:Nat->Ao}(h0:h 0=some (true,.arr 211 2 (G.map Am.c)))(z:h 1=some (true,.arrA 208 2 (Dq a k i)))(O: ∀j,j<nT a->h (2+j)=some (f j))
 (hf: ∀j,Cm (Ba h kx (m+1)) (f j).2=some (f j).2)(Q: ∀j,j<nT a->kx (2+j)=some (2+j)):El h (Ba h kx (m+1)) (Hw G (Dq a k i) (nT a) f):=by
 simp only[Hw,El];refine⟨?_,?_,IE _ _ _ _ _ O (λj _=>hf j)⟩
 .rw[h0];exact⟨rfl,rfl⟩
 .rw[z];refine⟨rfl,?_⟩;simp only[Cm];rw[qH Q];rfl
def mkSy.ok:AC 40 mkSy.row:=by
 refine ow (tC mkTS.ok (tC mkAC.ok tN)) Tryz.func40 (exB:=λ_=>false) (R:=λa r=>r=mkSy.r0 a) (λ_=>rfl)
  (λa=>⟨mkSy.hbel a,mkSy.hbH a,mkSy.hkH a,mkSy.hnm a⟩) (λa p hp=> ?_) (λa r h=>by subst h;exact CU.refl _) ?_
 rotate_left
 intro a aa;simp only[Tryz.f40,mkSy.ca];simp only[ZA,simprocAttr];obtain⟨S,k⟩:=a;obtain⟨h1,h2,h3⟩:=aa;simp only at h1 h2 h3;simp only[Br,mkSy.H0];have hn:=CV S.Set.Tiles;have hk:=Nm S.Set.Tiles (Eb (S.Set,k)) (by simp only[Eb];omega) 0 S.Set.Tiles.length (by omega);have ab:0<=syK (S,k):=by simp only[syK];omega
 have hσ: ∀j,j<2+nT S.Set.Tiles->BE (λj=>j) 2000000 2000002 j=j:=λj z=>Ai (by omega)
 have Q:=λj=>(IF S.Set.Glues (Dq S.Set.Tiles (Eb (S.Set,k)) 0) (nT S.Set.Tiles) (Fe S.Set.Tiles (Eb (S.Set,k)) 0) j)
 refine AB.tau (S.Set,k) (λj=>j) ⟨h1,h2,by simp only[syK] at h3;simp only;omega⟩ (λ_ _=>rfl) (λj z=> ?_) (λi j _ _ h=>h) (mkTS.hcl _) ⟨?_,?_⟩ (by simp[mkTS.r0,AV.nms]) (λO hH1 Z=> ?_)
 .have z:=(Q j).1 z;omega
 .simp only[mkTS.ca,AH,AV.ren,hσ 0 (by omega),hσ 1 (by omega)]
 .simp only[mkTS.H0,Hw,CL,hσ 0 (by omega),hσ 1 (by omega),Ab.ren];rw[VZ _ _ _ _ (λj z=>hσ _ (by omega))];refine⟨rfl,rfl,QE λi hi=> ?_⟩;rw[hσ _ (by omega)];simp only[hget,AW _ _ (show 2000001≠2+i by omega),AW _ _ (show 2000000≠2+i by omega),AW _ _ (show 0≠2+i by omega),AW _ _ (show 1≠2+i by omega),Bm];rw[GL _ _ _ _ hi];rfl
 have hu: ∀m,m=2000000\/m=2000001-> ∀j,Ak (mkTS.H0 (S.Set,k)) j=true->j≠m:=λm hm j z=>by
  have z:=(Q j).1 z;omega
 have gs:hget O 2000000=some (true,.arr 115 3 (S.Seed.Tiles.map Aj.c)):=by rw[Z _ (hu _ (.inl rfl))];rfl
 have gp:hget O 2000001=some (true,.cells 51 [.own 0,.own 1,.own 2000000,.im (.int .i64 S.Temperature)]):=by rw[Z _ (hu _ (.inr rfl))];rfl
 have g0:hget O 0=some (true,.arr 211 2 ((EI (gF k) S.Set.Glues.length).map Am.c)):=hH1 0 _ rfl;have g1:hget O 1=some (true,.arrA 208 2 (Dq S.Set.Tiles (Eb (S.Set,k)) (nT S.Set.Tiles))):=by
  rw[hH1 1 _ rfl];simp only[Ab.ren];rw[VZ _ _ _ _ (λj z=>hσ _ (by omega))]
 have g2: ∀j,j<nT S.Set.Tiles->hget O (2+j)=some (Fe S.Set.Tiles (Eb (S.Set,k)) (nT S.Set.Tiles) j):=λj z=>by
  have e:hget (mkTS.H1 (S.Set,k)) (2+j)=some (Fe S.Set.Tiles (Eb (S.Set,k)) (nT S.Set.Tiles) j):=rY j z;rw[hH1 (2+j) _ e];rfl
 have eK:E6 S.Set.Tiles (Eb (S.Set,k)) S.Set.Tiles.length=syK (S,k):=rfl;simp only[mkTS.r0,AV.ren,eK];simp only[ZA,simprocAttr,Br,gp]
 skip
 refine AB.os (S.Seed,syK (S,k)) [2000000] ⟨ab,h3⟩ (λj=> ?_) rfl rfl ?_ ?_
 .simp only[Ak,mkAC.H0,hget];by_cases z:j=0
  .subst z;simp
  .have:(0==j)=false:=by simpa using λh=>z h.symm
   rw[this];simp;omega
 .simp only[ZA,simprocAttr,Ec,mkAC.ca,mkAC.H0,CL,Ef,gs]
  try exact⟨rfl,rfl⟩
 simp only[ZA,simprocAttr,Ec,mkAC.H1,Br,Ef,Ht,mkSy.r0,mkSy.H1];obtain⟨HX,hHX⟩: ∃HX,HX=hget ((2000000,(true,Ab.arr 115 3 (List.map Aj.c (EI (pF (syK (S,k))) S.Seed.Tiles.length))))::Bj O [2000000]):=⟨_,rfl⟩;rw[<-hHX];have gx: ∀m,m≠2000000->HX m=hget O m:=λm hm=>by
  rw[hHX];simp only[hget,AW _ _ (λh=>hm h.symm:2000000≠m),Bm];exact Lj _ _ _ (λh=>hm h.symm)
 refine⟨Wh _ _,TE (by rw[gx 0 (by omega)];exact g0) (by rw[gx 1 (by omega)];exact g1) (λj z=>by simp only at z;rw[gx _ (by omega)];exact g2 j z) (λj=>rfl) (λj z=>Wk ?_)⟩;simp only at z
 have:=(mkSy.dom0 (S,k) (2+j)).2 (.inr (by simp only;omega))
 simpa only[mkSy.H0] using this
 obtain⟨q1,_⟩:=mkSy.hcl _ p hp
 have:=(mkSy.dom0 _ _).1 q1
 have:=CV a.1.Set.Tiles
 exact .inl ⟨by omega,rfl,q1⟩
def GE(a:List Tile):Nat:=(a.map λx=>x.Sides.length).sum
def qA(y:Tile)(r:List Tile)(k:Int): ∀i,E6 (y::r) k (i+1)=E6 r (k+1+y.Sides.length) i
 |0=>rfl
 |i+1=>by
  rw[E6,qA y r k i,E6];rfl
def Nn: ∀(a:List Tile) (k:Int),E6 a k a.length=k+a.length+GE a
 |[],k=>by simp[E6,GE]
 |y::r,k=>by
  rw[Cv,qA,Nn r];simp only[GE,Bf,Lz];omega
def kW{n:Nat}{l:Int}(h:0<=Cx n l):Cx n l=l - n:=by
 simp only[Cx] at h⊢;split at h
 .omega
 .rename_i c;rw[Af c]
def pW: ∀(a:List Tile) (l:Int),0<=l->0<=FY F1 a l->(GE a:Int)+FY F1 a l<=l
 |[],l,h0,_=>by simp[GE,FY]
 |y::r,l,h0,h=>by
  simp only[FY] at h⊢;by_cases c:F1 y l<0
  .rw[Ai c] at h;omega
  .rw[Af c] at h⊢;have z:0<=F1 y l:=by omega
   have O:0<=Cx y.Name.size l:=by
    simp only[F1] at z;split at z<;>omega
   have e:F1 y l=Cx y.Sides.length (Cx y.Name.size l):=by
    simp only[F1];rw[Af (by omega)]
   rw[e] at z h⊢;have q1:=Ql O;have Q:=kW z;have ih:=pW r _ z h;simp only[GE,Bf,Lz] at ih⊢;omega
structure Fm(s:AM):Prop where
 g:s.Set.Glues.length<=1048576
 t:s.Set.Tiles.length<=1048576
 d:GE s.Set.Tiles<=1048576
 p:s.Seed.Tiles.length<=1048576
def Ni{s:AM}{l:Int}(hl: -1<=l)(aa:l<=1048576)(h:0<=JH s l):Fm s:=by
 have hb:=Qxk s.Set l hl;simp only[JH] at h;split at h
 .omega
 rename_i c;obtain⟨a1,_,_⟩:=Ql h;have z:0<=Qn s.Set l:=by omega
 have hg:=Qo1 s.Set.Glues l hl;simp only[Qn] at z;split at z
 .omega
 have O:0<=Hp s.Set.Glues l:=by omega
 have Z:0<=Cx s.Set.Glues.length l:=by
  simp only[Hp] at O;split at O<;>omega
 have Q:0<=Cx s.Set.Tiles.length (Hp s.Set.Glues l):=by
  simp only[Lm] at z;split at z<;>omega
 have e:Lm s.Set.Tiles (Hp s.Set.Glues l)=FY F1 s.Set.Tiles (Cx s.Set.Tiles.length (Hp s.Set.Glues l)):=by
  simp only[Lm];rw[Af (by omega)]
 rw[e] at z;obtain⟨b1,_,_⟩:=Ql Z;obtain⟨d1,d2,_⟩:=Ql Q
 have:=pW s.Set.Tiles _ Q z
 exact⟨by omega,by omega,by omega,by omega⟩
def kG{a:List Tile}{x:Tile}(h:x∈a):x.Sides.length<=GE a:=by
 induction a with
 |nil=>cases h
 |cons y r ih=>
  simp only[GE,Bf,Lz] at ih⊢;rcases Bh.1 h with rfl|h
  .omega
  .have:=ih h;omega
def Fm.yx{s:AM}(h:Fm s):toYX.pre s:=⟨⟨by have:=h.g;omega,⟨h.t,λx z=>by have:=kG z;have:=h.d;omega⟩⟩,by have:=h.p;omega⟩
structure Di(h:Nat->Option Ao)(g t p f:Nat)(s:AM):Prop where
 g:h g=some (true,.arr 211 2 (s.Set.Glues.map Am.c))
 t:h t=some (true,.arrA 208 2 (GA f s.Set.Tiles))
 p:h p=some (true,.arr 115 3 (s.Seed.Tiles.map Aj.c))
 f: ∀i,i<s.Set.Tiles.length->h (f+i)=some (D8 s.Set.Tiles i)
def dU{h:Nat->Option Ao}{n f:Nat}{a:List Tile}(hf: ∀i,i<a.length->h (f+i)=some (D8 a i)):Ar (Ar (bk h (n+1))) (GA f a)=some (a.map Tile.c):=by
 have e:a.map Tile.c=(List.range a.length).map λi=>((a[i]?.map Tile.c).getD []):=by
  apply Io;intro i;rw[CM,CM];by_cases z:i<a.length
  .rw[Iw z,Bi z];simp[z]
  .rw[E9 (by omega),E9 (by simp;omega)];rfl
 rw[e];refine Rd _ λi z=> ?_
 have z:=Bt.1 z;have O:a[i]? =some a[i]:=Bi z;simp only[Ar,bk,hf i z,D8,Kv,O,D3,AP,Tile.c]
def Di.bk{h:Nat->Option Ao}{g t p f n:Nat}{s:AM}(hs:Di h g t p f s):Go.Ae.bk h (n+3) (.agg [.own g,.own t,.own p,.im (.int .i64 s.Temperature)])=some (.agg (AM.c s)):=by
 simp only[Go.Ae.bk,Ar,hs.g,hs.t,hs.p,Kv,dU hs.f,D3,AM.c]
def Di.pk{h:Nat->Option Ao}{g t p f:Nat}{s:AM}(hs:Di h g t p f s):Dc h (.agg [.own g,.own t,.own p,.im (.int .i64 s.Temperature)])=some (.val (.agg (AM.c s))):=by
 simp only[Dc,hs.bk (n:=6),DY,D3]
def vN.call{A:Type}{ar:List PK->Option A}{pre:A->Prop}{re:A->D}{args:List AV}{tm:List (Nat×AV)}{h:Ap}{nx:Nat}{dst:Option Nat}{Z:Av->Prop}(ps:List PK)(Q:Hv (hget h) args=some (ps,[]))(a:A)(ha:ar ps=some a)(z:pre a)
 (O:Z ((⟨tm,h,nx⟩:Av).put dst (.im (re a)))):DO ar pre re args (hget h) nx (D6 Z ⟨tm,h,nx⟩ dst):=by
 unfold DO;rw[Q];simp only[Vt,ha,DV,O8];refine⟨z,?_,?_⟩
 .rw[Bk.ok_nr];simp[AV.bel,Aw,GW]
 .rw[Av.app_nr,Br,Lx];exact O
def T8(l m:List A9):a2 (kS A9.d) (kS A9.d) [.val (.sl false 3 (l.map A9.c)),.val (.sl false 3 (m.map A9.c))]=some (l,m):=by simp only[a2,kS,A9.d_R,G7]
def bY{s:AM}(hs:Fm s): ∀p∈toYX.H1 s,p.1<2000013/\ ∀m∈p.2.2.nms,m<2000013:=by
 have z:min s.Set.Tiles.length 1048576<=1048576:=gU _ _;have ht:=hs.t;intro p hp;simp only[toYX.H1,Bh,AQ,Bo,Bt] at hp;rcases hp with rfl|rfl|rfl|⟨i,Z,rfl⟩
 .exact⟨by omega,by simp[Ab.nms]⟩
 .refine⟨by omega,λm z=> ?_⟩;simp only[Ab.nms] at z;obtain⟨r,Q,z⟩:=Fg.1 z;obtain⟨j,O,rfl⟩:=Bo.1 Q
  have:=Bt.1 O
  simp[AA,AV.nms] at z;omega
 .exact⟨by omega,by simp[Ab.nms]⟩
 .exact⟨by simp only;omega,by simp[D8,Ab.nms]⟩
def Di.mono{h h':Nat->Option Ao}{g t p f:Nat}{s:AM}(hs:Di h g t p f s)(z: ∀m,(m=g\/m=t\/m=p\/(f<=m/\m<f+s.Set.Tiles.length))->h' m=h m):Di h' g t p f s:=
 ⟨by rw[z g (.inl rfl)];exact hs.g,by rw[z t (.inr (.inl rfl))];exact hs.t,by rw[z p (.inr (.inr (.inl rfl)))];exact hs.p,λi O=>by rw[z _ (.inr (.inr (.inr ⟨by omega,by omega⟩)))];exact hs.f i O⟩
def bX{s:AM}(hs:Fm s){nx:Nat}{z:Ap}(h: ∀j e,hget (toYX.H1 s) j=some e->hget z (nx+j)=some (e.1,e.2.ren λj=>nx+j)):Di (hget z) (nx+7) (nx+9) (nx+2000012) (nx+10) s:=by
 have Z:=hs.t;have Q:min s.Set.Tiles.length 1048576=s.Set.Tiles.length:=by omega
 refine⟨h 7 _ rfl,?_,h 2000012 _ rfl,λi O=> ?_⟩
 .rw[h 9 _ rfl];simp only[Ab.ren];congr 3;simp only[GA,Lw];refine JJ λi O=> ?_
  simp only[Function.comp,AH,AV.ren];rw[Gg]
 .have e:hget (toYX.H1 s) (10+i)=some (D8 s.Set.Tiles i):=by
   simp only[toYX.H1,hget,AW _ _ (show 7≠10+i by omega),AW _ _ (show 9≠10+i by omega),AW _ _ (show 2000012≠10+i by omega),Bm];rw[Q];exact GL _ _ _ _ O
  rw[Gg,h _ _ e];rfl
def H7{H:Ap}(e:Ao)(k m:Nat)(h:k≠m):hget ((k,e)::Bj H [k]) m=hget H m:=by
 simp only[hget,AW _ _ h,Bm];exact Lj _ _ _ h
def jR{h:Nat->Option Ao}{x y:AV}{p q:PK}(z:Dc h x=some p)(O:Dc h y=some q):Cf h [x,y]=some [p,q]:=by simp only[Cf,z,O,Hz]
def Jq{h:Nat->Option Ao}{o T k:Nat}{z:Bool}{rows:List (List D)}(g:h o=some (z,.arr T k rows)):Dc h (.own o)=some (.val (.sl false k rows)):=by simp only[Dc,bk,g,Kv,DY,D3]
def pX: ∀l:List Nat,Ik l []=true
 |[]=>rfl
 |x::r=>by simp[Ik,pX r]
def H6:List Fp->Bool
 |[]=>true
 |f::r=>f.touch.isEmpty && H6 r
def Wc(cl:List (List Nat))(i:Nat)(use:List Nat): ∀acc:List Fp,H6 acc=true->GD cl i use [] [] acc=true
 |[],_=>rfl
 |f::r,h=>by
  simp only[H6,AN,List.isEmpty_iff] at h;simp only[GD,iH,h.1,D2,pX,Ik,FF,gQ,BX,Wc cl i use r h.2]
def vN.callA{A:Type}{ar:List PK->Option A}{pre:A->Prop}{re:A->D}{args:List AV}{tm:List (Nat×AV)}{h:Ap}{nx:Nat}{dst:Option Nat}{Z:Ld}{cl:List (List Nat)}{i:Nat}{acc:List Fp}(ps:List PK)(Q:Hv (hget h) args=some (ps,[]))(a:A)(ha:ar ps=some a)(z:pre a)(hq:H6 acc=true)
 (O: ∀u,Z (⟨i,u,[],nx,0⟩::acc) ((⟨tm,h,nx⟩:Av).put dst (.im (re a)))):DO ar pre re args (hget h) nx (GF cl i acc Z ⟨tm,h,nx⟩ dst):=by
 unfold DO;rw[Q];simp only[Vt,ha,DV,O8];refine⟨z,?_,?_,?_⟩
 .rw[Bk.ok_nr];simp[AV.bel,Aw,GW]
 .exact Wc _ _ _ _ hq
 .rw[Av.app_nr,Br,Lx];exact O _
def vF.callA{A:Type}{ar:List PK->Option A}{pre:A->Prop}{re:A->D}{args:List AV}{tm:List (Nat×AV)}{h:Ap}{nx:Nat}{dst:Option Nat}{Z:Ld}{cl:List (List Nat)}{i:Nat}{acc:List Fp}(ps:List PK)(Q:Cf (hget h) args=some ps)(a:A)(ha:ar ps=some a)(z:pre a)(hq:H6 acc=true)
 (O: ∀u,Z (⟨i,u,[],nx,0⟩::acc) ((⟨tm,h,nx⟩:Av).put dst (.im (re a)))):NT ar pre re args (hget h) nx (GF cl i acc Z ⟨tm,h,nx⟩ dst):=by
 unfold NT;rw[Q];simp only[Vy,ha,DV];refine⟨z,?_,?_,?_⟩
 .rw[Bk.ok_nr];simp[AV.bel,Aw,GW]
 .exact Wc _ _ _ _ hq
 .rw[Av.app_nr,Br,Lx];exact O _
def mkOC.d0(a:List A9×Int)(j:Nat)(z:Ak (mkOC.H0 a) j=true):j=0:=by
 simp only[Ak,mkOC.H0,hget] at z;by_cases h:j=0
 .exact h
 .rw[AW _ _ (λq=>h q.symm)] at z;cases z
def OM{nx o:Nat}{tm:List (Nat×AV)}{h:Ap}{dst:Option Nat}{go:Av->Prop}{l:List A9}{k:Int}(hk:0<=k)(aa:k+3*l.length<=1099511627776)(hS:hget h o=some (true,.arr 58 3 (l.map A9.c)))(ab:o<nx)
 (Z: ∀O:Ap,(∀j e,hget (mkOC.H1 (l,k)) j=some e->hget O o=some (e.1,e.2.ren (BE (λ_=>o) 1 nx)))->(∀m,m≠o->hget O m=hget h m)->go ((⟨tm,O,nx⟩:Av).put dst (.im (.int .i64 (k+3*l.length))))):
 mkOC.row [.own o,.im (.int .i64 k)] (hget h) nx (D6 go ⟨tm,h,nx⟩ dst):=by
 refine AB.tau (l,k) (λ_=>o) ⟨hk,aa⟩ (λj z=>by rw[mkOC.d0 _ j z];rfl) (λj z=>⟨by rw[mkOC.d0 _ j z];omega,ab⟩) (λi j hi z _=>by rw[mkOC.d0 _ i hi,mkOC.d0 _ j z]) (λp hp=> ?_) ⟨rfl,hS,trivial⟩ (by simp[AV.nms]) (λO hH1 Q=>Z O hH1 λm hm=>Q m λj z h=>hm h.symm);simp only[mkOC.H1,Bz] at hp;subst hp;exact⟨rfl,λm hm=>by simp[Ab.nms] at hm⟩
def mkIC.d0(a:List Int×Int)(j:Nat)(z:Ak (mkIC.H0 a) j=true):j=0:=by
 simp only[Ak,mkIC.H0,hget] at z;by_cases h:j=0
 .exact h
 .rw[AW _ _ (λq=>h q.symm)] at z;cases z
def OK{nx o:Nat}{tm:List (Nat×AV)}{h:Ap}{dst:Option Nat}{go:Av->Prop}{l:List Int}{k:Int}(hk:0<=k)(aa:k+l.length<=1099511627776)(hS:hget h o=some (true,.arr 2 1 (l.map Al)))(ab:o<nx)
 (Z: ∀O:Ap,(∀j e,hget (mkIC.H1 (l,k)) j=some e->hget O o=some (e.1,e.2.ren (BE (λ_=>o) 1 nx)))->(∀m,m≠o->hget O m=hget h m)->go ((⟨tm,O,nx⟩:Av).put dst (.im (.int .i64 (k+l.length))))):
 mkIC.row [.own o,.im (.int .i64 k)] (hget h) nx (D6 go ⟨tm,h,nx⟩ dst):=by
 refine AB.tau (l,k) (λ_=>o) ⟨hk,aa⟩ (λj z=>by rw[mkIC.d0 _ j z];rfl) (λj z=>⟨by rw[mkIC.d0 _ j z];omega,ab⟩) (λi j hi z _=>by rw[mkIC.d0 _ i hi,mkIC.d0 _ j z]) (λp hp=> ?_) ⟨rfl,hS,trivial⟩ (by simp[AV.nms]) (λO hH1 Q=>Z O hH1 λm hm=>Q m λj z h=>hm h.symm);simp only[mkIC.H1,Bz] at hp;subst hp;exact⟨rfl,λm hm=>by simp[Ab.nms] at hm⟩
def needX.pre(a:Zy):Prop:=(∀o∈a.Seq,HE o.At)/\a.Inputs.length=a.Seq.length/\a.Seq.length<=500
def totI(M:List (List Int)):Nat:=(M.map List.length).sum
def roI(M:List (List Int))(i:Nat):List Int:=M[i]?.getD []
def ssK(M:List (List Int))(k:Int):Nat->Int
 |0=>k
 |i+1=>ssK M k i+(roI M i).length
def BY(M:List (List Int))(k:Int):List (List Int):=(List.range M.length).map λi=>OJ (ssK M k i) (roI M i).length
def mkSS.pre(a:List (List Int)×Int):Prop:=a.1.length<=1048576/\0<=a.2/\a.2+totI a.1<=1099511627776
structure Q8(h:Nat->Option Ao)(o b:Nat)(M:List (List Int)):Prop where
 r:h o=some (true,.arrA 31 1 (Du b M.length))
 f: ∀i,i<M.length->h (b+i)=some (true,.arr 2 1 ((M[i]?.getD []).map Al))
def Q8.mono{h h':Nat->Option Ao}{o b:Nat}{M:List (List Int)}(hs:Q8 h o b M)(z: ∀m,(m=o\/(b<=m/\m<b+M.length))->h' m=h m):Q8 h' o b M:=
 ⟨by rw[z o (.inl rfl)];exact hs.r,λi O=>by rw[z _ (.inr ⟨by omega,by omega⟩)];exact hs.f i O⟩
def Q8.pk{h:Nat->Option Ao}{o b:Nat}{M:List (List Int)}(hs:Q8 h o b M):Dc h (.own o)=some (.val (.sl false 1 (M.map CX))):=by
 have e:Ar (Ar (bk h 8)) (Du b M.length)=some (M.map CX):=by
  have O:M.map CX=(List.range M.length).map λi=>CX (M[i]?.getD []):=by
   apply Io;intro i;rw[CM,CM];by_cases z:i<M.length
   .rw[Iw z,Bi z];simp[z]
   .rw[E9 (by omega),E9 (by simp;omega)];rfl
  rw[O];refine Rd _ λi z=> ?_
  have z:=Bt.1 z;simp only[Ar,bk,hs.f i z,Kv,CX]
 simp only[Dc,bk,hs.r,Kv,e,D3,DY]
def Ny{A:Type}(f:Nat->A)(n:Nat):(EI f n).length=n:=by simp[EI]
def NL(l:List A9)(k:Int):Int:=if l=EI (oF k) l.length then k+3*l.length else -1
def SA(k:Int)(n:Nat):NL (EI (oF k) n) k=k+3*n:=by
 simp only[NL,Ny,BI]
def Vr{A:Type}(f:Nat->A)(n:Nat):EI f (n+1)=EI f n++[f n]:=by simp[EI,nK]
def Zw{A:Type}{f:Nat->A}{n i:Nat}(h:i<n):(EI f n)[i]? =some (f i):=by simp only[EI,CM];rw[Iw h];rfl
def heldO_.fv(a:(List A9)×Int):Int:=(NL) (a.1) (a.2)
def heldO_.row:A7:=Dy (b2 (qS A9.d_le A9.c_n) qI) rI (λa=>0<=a.2/\a.2+3*a.1.length<=1099511627776) heldO_.fv
def heldO_.ok:AC 17 heldO_.row:=by
 refine Gz tN Tryz.func17 ?_;intro a z;simp only[Tryz.f17];simp only[ZA,simprocAttr,heldO_.fv];obtain⟨l,k⟩:=a;simp only at z⊢;obtain⟨h1,h2⟩:=z;refine AT.old ⟨{i:Nat//i<=l.length/\l.take i=EI (oF k) i},λi=>⟨[(5,.im (.int .i64 i.1)),(4,.im (.int .i64 0)),(1,.im (.int .i64 (k+3*i.1))),(0,.im (.sl false 3 (l.map A9.c)))],[],0⟩,λi=>l.length - i.1,λi=>⟨by simp[ZG],by simp⟩,⟨⟨0,by simp[EI]⟩,by simp only[ZA,simprocAttr,sub];simp⟩,λi=> ?_⟩;obtain⟨i,ab,O⟩:=i;simp only[ZA,simprocAttr,D.sc,D.scs,BC,sub,AO];intro _;have w1:IntKind.i64.wrap (k+3*(i:Int)+1)=k+3*(i:Int)+1\/ ¬i<l.length:=by
  by_cases c:i<l.length
  .exact .inl (AD (by omega) (by omega))
  .exact .inr c
 refine⟨λZ=>⟨Z,λx hx=> ?_⟩,λZ=> ?_⟩
 .have w1:IntKind.i64.wrap (k+3*(i:Int)+1)=k+3*(i:Int)+1:=AD (by omega) (by omega);have w2:IntKind.i64.wrap (k+3*(i:Int)+1+1)=k+3*(i:Int)+2:=(AD (by omega) (by omega)).trans (by omega);have w3:IntKind.i64.wrap (k+3*(i:Int)+2+1)=k+3*((i+1:Nat):Int):=(AD (by omega) (by omega)).trans (by omega);simp only[w1,w2,w3];have Q:x≠oF k i-> -1=NL l k:=λc=>by
   simp only[NL];rw[Af λh=> ?_];rw[h,Zw Z] at hx;exact c (Ay hx).symm
  refine⟨λc=>Q λh=>c (by rw[h];rfl),λc1=>⟨Z,λy hy=> ?_⟩⟩;obtain rfl:x=y:=Ay (hx.symm.trans hy);refine⟨λc=>Q λh=>c (by rw[h];rfl),λc2=>⟨Z,λy hy=> ?_⟩⟩;obtain rfl:x=y:=Ay (hx.symm.trans hy);refine⟨λc=>Q λh=>c (by rw[h];rfl),λc3=>⟨⟨i+1,by omega,?_⟩,by simp only;omega,by rw[AD (by omega) (by omega)];simp only;omega,rfl⟩⟩;have e:x=oF k i:=by
   obtain⟨⟨u,v⟩,t⟩:=x;simp only[Ha] at c1 c2 c3;simp only[oF,c1,c2,c3]
  rw[aI hx,O,Vr,e]
 .have aa:i=l.length:=by omega
  subst aa;rw[IS] at O;simp only[NL];rw[Ai O]
def totO(M:List (List A9)):Nat:=(M.map List.length).sum
def mkOO.pre(a:List (List A9)×Int):Prop:=a.1.length<=1048576/\0<=a.2/\a.2+3*totO a.1<=1099511627776
def eqAsmF.fv(a:Ad×Ad):Bool:=(λa b=>decide (a=b)) (a.1) (a.2)
def eqAsmF.row:A7:=Dy (b2 (qR Ad.d_le) (qR Ad.d_le)) rB (λa=>True) eqAsmF.fv
def eqAsmF.ok:AC 13 eqAsmF.row:=by
 refine Gz (tC eqPlacedS.ok tN) Tryz.func13 ?_;intro a z;simp only[Tryz.f13];simp only[ZA,simprocAttr,eqAsmF.fv,eqPlacedS.q,eqPlacedS.fv,D.sc,D.scs,BC];obtain⟨⟨x⟩,⟨y⟩⟩:=a;simp only[Ad.mk.injEq]
 grind
def bM{h:Nat->Option Ao}{n:Nat}{a:Ad}(hn:h n=some (true,.arr 115 3 (a.Tiles.map Aj.c))):Dc h (.agg [.own n])=some (.val (.agg (Ad.c a))):=by
 simp only[Dc,bk,Ar,hn,Kv,D3,DY,Ad.c]
def xK(a b:Ad):a2 (kR Ad.d) (kR Ad.d) [.val (.agg (Ad.c a)),.val (.agg (Ad.c b))]=some (a,b):=by simp only[a2,kR,Ad.d_c,G7]
def Rt(a:Ad):a1 (kR Ad.d) [.val (.agg (Ad.c a))]=some a:=by simp only[a1,kR,Ad.d_c,G7]
def OI{nx o:Nat}{tm:List (Nat×AV)}{h:Ap}{dst:Option Nat}{go:Av->Prop}{a:Ad}{k:Int}(hk:0<=k)(aa:k+3*a.Tiles.length<=1099511627776)(hS:hget h o=some (true,.arr 115 3 (a.Tiles.map Aj.c)))(ab:o<nx)
 (Z: ∀O:Ap,(∀m,m≠o->hget O m=hget h m)->go ((⟨tm,O,nx⟩:Av).put dst (.im (.int .i64 (k+3*a.Tiles.length))))):
 mkAC.row [.agg [.own o],.im (.int .i64 k)] (hget h) nx (D6 go ⟨tm,h,nx⟩ dst):=by
 have hd: ∀j,Ak (mkAC.H0 (a,k)) j=true->j=0:=λj z=>by
  simp only[Ak,mkAC.H0,hget] at z;by_cases h:j=0
  .exact h
  .rw[AW _ _ (λq=>h q.symm)] at z;cases z
 refine AB.tau (a,k) (λ_=>o) ⟨hk,aa⟩ (λj z=>by rw[hd j z];rfl) (λj z=>⟨by rw[hd j z];omega,ab⟩) (λi j hi z _=>by rw[hd i hi,hd j z]) (λp hp=> ?_) ⟨rfl,hS,trivial⟩ (by simp[AV.nms]) (λO hH1 Q=>Z O λm hm=>Q m λj z h=>hm h.symm);simp only[mkAC.H1,Bz] at hp;subst hp;exact⟨rfl,λm hm=>by simp[Ab.nms] at hm⟩
def vN.callU{A:Type}{ar:List PK->Option A}{pre:A->Prop}{re:A->D}{args:List AV}{tm:List (Nat×AV)}{h:Ap}{nx:Nat}{dst:Option Nat}{Z:Ld}{cl:List (List Nat)}{i:Nat}{acc:List Fp}(ps:List PK)(Q:Hv (hget h) args=some (ps,[]))(a:A)(ha:ar ps=some a)(z:pre a)(hq:H6 acc=true)(hu:AA args=[])
 (O:Z (⟨i,[],[],nx,0⟩::acc) ((⟨tm,h,nx⟩:Av).put dst (.im (re a)))):DO ar pre re args (hget h) nx (GF cl i acc Z ⟨tm,h,nx⟩ dst):=by
 unfold DO;rw[Q,hu];simp only[Vt,ha,DV,O8];refine⟨z,?_,?_,?_⟩
 .rw[Bk.ok_nr];simp[AV.bel,Aw,GW]
 .exact Wc _ _ _ _ hq
 .rw[Av.app_nr,Br,Lx];exact O
def dK(cl:List (List Nat))(j:Nat)(use touch z:List Nat): ∀acc:List Fp,(acc.all λf=>DX cl f.i j)=true->GD cl j use touch z acc=true
 |[],_=>rfl
 |f::r,h=>by
  rw[JL,AN] at h;simp only[GD,iH,h.1,dK cl j use touch z r h.2,Fo];cases (Ik (use++touch) f.touch && (Ik touch f.use && FF f.nx f.cnt z))<;>rfl
def FU.nwA{A:Type}{ar:List PK->Option A}{pre:A->Prop}{r0:A->AV}{H1:A->Ap}{cnt:Nat}{args:List AV}{tm:List (Nat×AV)}{h:Ap}{nx:Nat}{dst:Option Nat}{Z:Ld}{cl:List (List Nat)}{i:Nat}{acc:List Fp}(ps:List PK)(ab:Cf (hget h) args=some ps)(a:A)(ha:ar ps=some a)(O:pre a)
 (hu:EE (hget h) args=[])(z:(acc.all λf=>DX cl f.i i)=true)
 (hcl: ∀p∈H1 a,p.1<cnt/\ ∀m∈p.2.2.nms,m<cnt)(hb: ∀m∈(r0 a).nms,m<cnt)
 (aa: ∀Q:Ap,(∀j e,hget (H1 a) j=some e->hget Q (nx+j)=some (e.1,e.2.ren λj=>nx+j))->(∀m,m<nx->hget Q m=hget h m)->Z (⟨i,[],Ia (AS (λj=>nx+j) (H1 a)),nx,cnt⟩::acc) ((⟨tm,Q,nx+cnt⟩:Av).put dst ((r0 a).ren λj=>nx+j))):
 FU ar pre r0 H1 cnt args (hget h) nx (GF cl i acc Z ⟨tm,h,nx⟩ dst):=by
 have e:BE (λj=>j) 0 nx=λj=>nx+j:=funext λj=>by simp[BE]
 unfold FU;rw[ab];simp only[Ws,ha,DV];rw[e,hu];have hk:D6 (λs=>Z (⟨i,[],Ia (AS (λj=>nx+j) (H1 a)),nx,cnt⟩::acc) s) ⟨tm,h,nx⟩ dst ((r0 a).ren λj=>nx+j) {use:=[],new:=AS (λj=>nx+j) (H1 a),cnt:=cnt}:=cX (λ_=>rfl) rfl hcl hb aa;obtain⟨k1,k2⟩:=hk;exact⟨O,k1,dK _ _ _ _ _ _ z,k2⟩
def IG{H:Ap}{n m:Nat}(h:n≠m):hget (Bj H [n]) m=hget H m:=Lj _ _ _ h
def pg{H H':Ap}{k m:Nat}{e:Ao}{x:Option Ao}(z:(k,e)::Bj H [k]=H')(h:k≠m)(g:hget H m=x):hget H' m=x:=by subst z;exact (H7 _ _ _ h).trans g
def pg2{H H':Ap}{k j m:Nat}{e f:Ao}{x:Option Ao}(O:(j,f)::(k,e)::Bj (Bj H [k]) [j]=H')(h:k≠m)(z:j≠m)(g:hget H m=x):hget H' m=x:=by
 subst O;simp only[hget,AW _ _ h,AW _ _ z,Bm];rw[IG z,IG h];exact g
section
variable {A B:Type}{k:AK A}{r:RK B}{pre:A->Prop}{f:A->B}{args:List AV}{tm:List (Nat×AV)}{h:Ap}{nx:Nat}{dst:Option Nat}
def vK.call{Z:Av->Prop}(ps:List PK)(Q:Hv (hget h) args=some (ps,[]))(a:A)(ha:k.r ps=some a)(z:pre a)(O:Z ((⟨tm,h,nx⟩:Av).put dst (.im (r.e (f a))))):vK k r pre f args (hget h) nx (D6 Z ⟨tm,h,nx⟩ dst):=vN.call ps Q a ha z O
def Dy.call{Z:Av->Prop}(ps:List PK)(Q:Cf (hget h) args=some ps)(a:A)(ha:k.r ps=some a)(z:pre a)(O:Z ((⟨tm,h,nx⟩:Av).put dst (.im (r.e (f a))))):Dy k r pre f args (hget h) nx (D6 Z ⟨tm,h,nx⟩ dst):=vF.call ps Q a ha z O
def vK.callA{Z:Ld}{cl:List (List Nat)}{i:Nat}{acc:List Fp}(ps:List PK)(Q:Hv (hget h) args=some (ps,[]))(a:A)(ha:k.r ps=some a)(z:pre a)(hq:H6 acc=true)(O: ∀u,Z (⟨i,u,[],nx,0⟩::acc) ((⟨tm,h,nx⟩:Av).put dst (.im (r.e (f a))))):vK k r pre f args (hget h) nx (GF cl i acc Z ⟨tm,h,nx⟩ dst):=vN.callA ps Q a ha z hq O
def vK.callU{Z:Ld}{cl:List (List Nat)}{i:Nat}{acc:List Fp}(ps:List PK)(Q:Hv (hget h) args=some (ps,[]))(a:A)(ha:k.r ps=some a)(z:pre a)(hq:H6 acc=true)(hu:AA args=[])(O:Z (⟨i,[],[],nx,0⟩::acc) ((⟨tm,h,nx⟩:Av).put dst (.im (r.e (f a))))):vK k r pre f args (hget h) nx (GF cl i acc Z ⟨tm,h,nx⟩ dst):=vN.callU ps Q a ha z hq hu O
def Dy.callA{Z:Ld}{cl:List (List Nat)}{i:Nat}{acc:List Fp}(ps:List PK)(Q:Cf (hget h) args=some ps)(a:A)(ha:k.r ps=some a)(z:pre a)(hq:H6 acc=true)(O: ∀u,Z (⟨i,u,[],nx,0⟩::acc) ((⟨tm,h,nx⟩:Av).put dst (.im (r.e (f a))))):Dy k r pre f args (hget h) nx (GF cl i acc Z ⟨tm,h,nx⟩ dst):=vF.callA ps Q a ha z hq O
end
def bL(l:List A9)(k:Int):a2 (kS A9.d) kI [.val (.sl false 3 (l.map A9.c)),.val (.int .i64 k)]=some (l,k):=by simp only[a2,kS,kI,A9.d_R,G7]
def xW(l:List Int): ∀p∈toIX.H1 l,p.1<2/\ ∀m∈p.2.2.nms,m<2:=by
 intro p hp;simp only[toIX.H1,Bz] at hp;subst hp;exact⟨by omega,by simp[Ab.nms]⟩
def toAR.row:A7:=yW toAssembly.row toAX.row
def toAR.ok:AC 8 toAR.row:=KM toAssembly.ok toAX.ok
def xL(l:Ad): ∀p∈toAX.H1 l,p.1<5/\ ∀m∈p.2.2.nms,m<5:=by
 intro p hp;simp only[toAX.H1,Bz] at hp;subst hp;exact⟨by omega,by simp[Ab.nms]⟩
def pk4{h:Nat->Option Ao}{x y z u:AV}{p q r s:PK}(Q:Dc h x=some p)(Z:Dc h y=some q)(hz:Dc h z=some r)(O:Dc h u=some s):Cf h [x,y,z,u]=some [p,q,r,s]:=by simp only[Cf,Q,Z,hz,O,Hz]
def eqSimF.fv(a:AE×AE):Bool:=(λa b=>decide (a=b)) (a.1) (a.2)
def eqSimF.row:A7:=Dy (b2 (qR AE.d_le) (qR AE.d_le)) rB (λa=>True) eqSimF.fv
def eqSimF.ok:AC 12 eqSimF.row:=by
 refine Gz (tC eqSystemF.ok (tC eqInt64SF.ok tN)) Tryz.func12 ?_;intro a O;simp only[Tryz.f12];simp only[ZA,simprocAttr,C3,eqSimF.fv,eqSystemF.q,eqSystemF.fv,eqInt64SF.q,eqInt64SF.fv,D.sc,D.scs,BC];obtain⟨⟨⟨⟨x,x1⟩,⟨y⟩,u⟩,⟨⟨x2,x3⟩,⟨y1⟩,Q⟩,n,m⟩,⟨⟨⟨z,z1⟩,⟨w⟩,v⟩,⟨⟨z2,z3⟩,⟨w2⟩,Z⟩,p,q⟩⟩:=a;simp only[AE.mk.injEq,AM.mk.injEq,Az.mk.injEq,Ad.mk.injEq]
 grind
def Ej(o:Nat)(s:AM):Ap:=(o+7,(true,.arr 211 2 (s.Set.Glues.map Am.c)))::(o+9,(true,.arrA 208 2 (GA (o+10) s.Set.Tiles)))::(o+2000012,(true,.arr 115 3 (s.Seed.Tiles.map Aj.c)))::AQ (o+10) (min s.Set.Tiles.length 1048576) (D8 s.Set.Tiles)
def QI{o:Nat}{s:AM}{p:Nat×Ao}(hp:p∈Ej o s):o+7<=p.1/\p.1<o+2000013/\p.2.1=true:=by
 simp only[Ej,Bh,AQ,Bo,Bt] at hp;rcases hp with rfl|rfl|rfl|⟨i,z,rfl⟩
 .exact⟨by simp only;omega,by simp only;omega,rfl⟩
 .exact⟨by simp only;omega,by simp only;omega,rfl⟩
 .exact⟨by simp only;omega,by simp only;omega,rfl⟩
 .exact⟨by simp only;omega,by simp only;omega,rfl⟩
def sA{h:Nat->Option Ao}{kx:Nat->Option Nat}{m o:Nat}{s:AM}(O:Fm s)(z:Di h (o+7) (o+9) (o+2000012) (o+10) s)(Q: ∀i,i<s.Set.Tiles.length->kx (o+10+i)=some (o+10+i)):El h (Ba h kx (m+1)) (Ej o s):=by
 have ht:=O.t;simp only[Ej,El,show min s.Set.Tiles.length 1048576=s.Set.Tiles.length by omega];refine⟨?_,?_,?_,IE _ _ _ _ _ z.f (λi Z=>rfl)⟩
 .rw[z.g];exact⟨rfl,rfl⟩
 .rw[z.t];exact⟨rfl,by simp only[Cm];rw[dW Q];rfl⟩
 .rw[z.p];exact⟨rfl,rfl⟩
structure IQ(m:AE):Prop where
 a:Fm m.Big
 b:Fm m.Small
 l:m.Labels.length<=1048576
def zS:List AV:=[AV.im (D.sl true 0 []),AV.im (D.sl true 0 []),AV.im (D.sl true 0 []),AV.im (D.int IntKind.i64 0),AV.im (D.sl true 0 []),AV.im (D.sl true 0 []),AV.im (D.sl true 0 []),AV.im (D.int IntKind.i64 0),AV.im (D.int IntKind.i64 0),AV.im (D.sl true 0 [])]
def toMX.ca(a:AE):List AV:=[.im (.agg (AE.c a))]
def toMX.r0(a:AE):AV:= .agg [.own 10,.own 12,.own 2000015,.im (.int .i64 a.Big.Temperature),.own 2000023,.own 2000025,.own 4000028,.im (.int .i64 a.Small.Temperature),.im (.int .i64 a.Scale),.own 4000030]
def toMX.H1(a:AE):Ap:=(4000030,(true,.arr 2 1 (a.Labels.map Al)))::(Ej 3 a.Big++Ej 2000016 a.Small)
def toMX.row:A7:=AB toMX.ca (λ_=>[]) 0 IQ (λ_=>false) toMX.r0 toMX.H1 4000031
def toMX.ok:AC 7 toMX.row:=by
 refine ow (tC toYX.ok (tC toIX.ok tN)) Tryz.func7 (exB:=λj=>Nat.ble 7 j) (R:=λa r=>r=toMX.r0 a) (λ_=>rfl)
  (λa=>by simp[toMX.ca,AE.c,AF,AV.bel,Aw,B9,BS]) (λa p hp=> ?_) (λa r h=>by subst h;exact CU.refl _) ?_
 rotate_left
 intro a z;simp only[Tryz.f7,toMX.ca,AE.c];simp only[ZA,simprocAttr];refine AB.nw a.Big z.a.yx rfl rfl (bY z.a) (by simp[toYX.r0,AV.nms,AA]) λH1 hH1 O=> ?_
 have k0:hget H1 0=some (true,.cells 33 [AV.im (D.sl false 2 (List.map Am.c a.Big.Set.Glues)),AV.im (D.sl false 2 (List.map Tile.c a.Big.Set.Tiles)),AV.im (D.sl false 3 (List.map Aj.c a.Big.Seed.Tiles)),AV.im (D.int IntKind.i64 a.Big.Temperature),AV.im (D.sl false 2 (List.map Am.c a.Small.Set.Glues)),AV.im (D.sl false 2 (List.map Tile.c a.Small.Set.Tiles)),AV.im (D.sl false 3 (List.map Aj.c a.Small.Seed.Tiles)),AV.im (D.int IntKind.i64 a.Small.Temperature),AV.im (D.int IntKind.i64 a.Scale),AV.im (D.sl false 1 (List.map Al a.Labels))]):=O 0 (by omega);have k1:hget H1 1=some (true,.cells 53 zS):=O 1 (by omega);have k2:hget H1 2=some (true,.cells 53 zS):=O 2 (by omega);clear O;have S1:Di (hget H1) (3+7) (3+9) (3+2000012) (3+10) a.Big:=bX z.a hH1;clear hH1;simp only[toYX.r0,AV.ren,AH];simp only[ZA,simprocAttr,Br,IG,k0,k2,zS];refine AB.nw a.Small z.b.yx rfl rfl (bY z.b) (by simp[toYX.r0,AV.nms,AA]) λQ hH1 O=> ?_
 have u0:hget Q 0=some (true,.cells 33 [AV.im (D.sl false 2 (List.map Am.c a.Big.Set.Glues)),AV.im (D.sl false 2 (List.map Tile.c a.Big.Set.Tiles)),AV.im (D.sl false 3 (List.map Aj.c a.Big.Seed.Tiles)),AV.im (D.int IntKind.i64 a.Big.Temperature),AV.im (D.sl false 2 (List.map Am.c a.Small.Set.Glues)),AV.im (D.sl false 2 (List.map Tile.c a.Small.Set.Tiles)),AV.im (D.sl false 3 (List.map Aj.c a.Small.Seed.Tiles)),AV.im (D.int IntKind.i64 a.Small.Temperature),AV.im (D.int IntKind.i64 a.Scale),AV.im (D.sl false 1 (List.map Al a.Labels))]):=(O 0 (by omega)).trans ((H7 _ _ _ (by omega)).trans k0);have u1:hget Q 1=some (true,.cells 53 zS):=(O 1 (by omega)).trans ((H7 _ _ _ (by omega)).trans k1);have u2:=O 2 (by omega);have q2:hget Q 2=some (true,.cells 53 [AV.own 10,AV.own 12,AV.own 2000015,AV.im (D.int IntKind.i64 a.Big.Temperature),AV.im (D.sl true 0 []),AV.im (D.sl true 0 []),AV.im (D.sl true 0 []),AV.im (D.int IntKind.i64 0),AV.im (D.int IntKind.i64 0),AV.im (D.sl true 0 [])]):=u2;have S2:Di (hget Q) (3+7) (3+9) (3+2000012) (3+10) a.Big:=S1.mono λm hm=>(O m (by have:=z.a.t;omega)).trans (H7 _ _ _ (by omega))
 have T2:Di (hget Q) (2000016+7) (2000016+9) (2000016+2000012) (2000016+10) a.Small:=bX z.b hH1;clear hH1 O u2 S1 k0 k1 k2;simp only[toYX.r0,AV.ren,AH];simp only[ZA,simprocAttr,Br,IG,u0,q2];refine AB.nw a.Labels (by have:=z.l;omega) rfl rfl (xW a.Labels) (by simp[AV.nms]) λZ hH1 O=> ?_
 have X: ∀m,m<4000029->m≠2->hget Z m=hget Q m:=λm h1 h2=>(O m h1).trans ((H7 _ _ _ (λq=>h2 q.symm)).trans (IG (λq=>h2 q.symm)))
 have v1:hget Z 1=some (true,.cells 53 zS):=(X 1 (by omega) (by omega)).trans u1;have v2:hget Z 2=some (true,.cells 53 [AV.own 10,AV.own 12,AV.own 2000015,AV.im (D.int IntKind.i64 a.Big.Temperature),AV.own 2000023,AV.own 2000025,AV.own 4000028,AV.im (D.int IntKind.i64 a.Small.Temperature),AV.im (D.int IntKind.i64 a.Scale),AV.im (D.sl true 0 [])]):=O 2 (by omega);have w3:hget Z 4000030=some (true,.arr 2 1 (a.Labels.map Al)):=hH1 1 _ rfl;have S3:Di (hget Z) (3+7) (3+9) (3+2000012) (3+10) a.Big:=S2.mono λm hm=>X m (by have:=z.a.t;omega) (by omega)
 have T3:Di (hget Z) (2000016+7) (2000016+9) (2000016+2000012) (2000016+10) a.Small:=T2.mono λm hm=>X m (by have:=z.b.t;omega) (by omega)
 clear hH1 O X S2 T2 u0 u1 q2;simp only[AV.ren];simp only[ZA,simprocAttr,Br,IG,v1,v2,w3,zS];refine⟨rfl,?_⟩;generalize hG:((1,(true,Ab.cells 53 _))::_:Ap)=H;have S4:Di (hget H) (3+7) (3+9) (3+2000012) (3+10) a.Big:=S3.mono λm hm=>pg2 hG (by omega) (by omega) rfl
 have T4:Di (hget H) (2000016+7) (2000016+9) (2000016+2000012) (2000016+10) a.Small:=T3.mono λm hm=>pg2 hG (by omega) (by omega) rfl
 have w4:=pg2 hG (by decide) (by decide) w3;have hk: ∀o,3<=o->o<=2000016-> ∀i,i<1048577->I5 [] 0 4000031 (λj=>decide (7<=j)) (o+10+i)=some (o+10+i):=λo h1 h2 i hi=>KB (by omega) (by omega)
 simp only[toMX.H1,El];refine⟨by rw[w4];exact⟨rfl,rfl⟩,(Quc ..).2 ⟨sA z.a S4 λi hi=>hk _ (by decide) (by decide) i (by have:=z.a.t;omega),sA z.b T4 λi hi=>hk _ (by decide) (by decide) i (by have:=z.b.t;omega)⟩⟩;rcases Bh.1 hp with rfl|hp
 .exact .inr ⟨by omega,by simp only;omega,rfl,rfl⟩
 rcases Bn.1 hp with hp|hp
 .have:=QI hp
  exact .inr ⟨by omega,by omega,by simp only[G8];omega,this.2.2⟩
 .have:=QI hp
  exact .inr ⟨by omega,by omega,by simp only[G8];omega,this.2.2⟩
def bT(b n:Nat)(nm:Nat->ByteArray):List (List AV):=(List.range n).map λj=>[.im (.str (nm j)),.own (b+j)]
def Ey(o:Nat)(G:List Am)(P:List Aj)(n:Nat)(nm:Nat->ByteArray)(f:Nat->Ao):Ap:=(o+7,(true,.arr 211 2 (G.map Am.c)))::(o+9,(true,.arrA 208 2 (bT (o+10) n nm)))::(o+2000012,(true,.arr 115 3 (P.map Aj.c)))::AQ (o+10) n f
structure IR(h:Nat->Option Ao)(o:Nat)(G:List Am)(P:List Aj)(n:Nat)(nm:Nat->ByteArray)(f:Nat->Ao):Prop where
 g:h (o+7)=some (true,.arr 211 2 (G.map Am.c))
 t:h (o+9)=some (true,.arrA 208 2 (bT (o+10) n nm))
 p:h (o+2000012)=some (true,.arr 115 3 (P.map Aj.c))
 f: ∀i,i<n->h (o+10+i)=some (f i)
def Cp(o n j:Nat):Prop:=j=o+7\/j=o+9\/j=o+2000012\/(o+10<=j/\j<o+10+n)
section
variable {o n:Nat}{G:List Am}{P:List Aj}{nm:Nat->ByteArray}{f:Nat->Ao}
def Wv(hn:n<=1048576)(j:Nat):Ak (Ey o G P n nm f) j=true↔Cp o n j:=by
 simp only[Ak,Ey,hget,fM,Cp];by_cases z:j=o+7
 .subst z;simp
 by_cases O:j=o+9
 .subst O;rw[AW _ _ (show o+7≠o+9 by omega)];simp
 by_cases Q:j=o+2000012
 .subst Q;rw[AW _ _ (show o+7≠o+2000012 by omega),AW _ _ (show o+9≠o+2000012 by omega)];simp
 rw[AW _ _ (λh=>z h.symm),AW _ _ (λh=>O h.symm),AW _ _ (λh=>Q h.symm)];simp only[Bm];split
 .rename_i h;simp;omega
 .rename_i h;simp;omega
def Ww(hf: ∀i,(f i).2.nms=[]){p:Nat×Ao}(hp:p∈Ey o G P n nm f):Cp o n p.1/\ ∀m∈p.2.2.nms,Cp o n m:=by
 simp only[Ey,Bh,AQ,Bo,Bt] at hp;rcases hp with rfl|rfl|rfl|⟨i,Z,rfl⟩
 .exact⟨.inl rfl,by simp[Ab.nms]⟩
 .refine⟨.inr (.inl rfl),λm z=> ?_⟩;simp only[Ab.nms] at z;obtain⟨r,Q,z⟩:=Fg.1 z;obtain⟨j,O,rfl⟩:=Bo.1 Q
  have:=Bt.1 O
  simp[AA,AV.nms] at z;exact .inr (.inr (.inr ⟨by omega,by omega⟩))
 .exact⟨.inr (.inr (.inl rfl)),by simp[Ab.nms]⟩
 .exact⟨.inr (.inr (.inr ⟨by simp only;omega,by simp only;omega⟩)),λm z=>by rw[hf] at z;cases z⟩
def YE{h:Nat->Option Ao}{kx:Nat->Option Nat}{m b:Nat}(O: ∀i,i<n->kx (b+i)=some (b+i)):Ar (Ar (Ba h kx (m+1))) (bT b n nm)=some (bT b n nm):=by
 refine Rd _ λi z=> ?_
 have z:=Bt.1 z;simp only[Ar,Ba,O i z,kp]
def sB{h:Nat->Option Ao}{kx:Nat->Option Nat}{m:Nat}(z:IR h o G P n nm f)(hf: ∀i,Cm (Ba h kx (m+1)) (f i).2=some (f i).2)(O: ∀i,i<n->kx (o+10+i)=some (o+10+i)):El h (Ba h kx (m+1)) (Ey o G P n nm f):=by
 simp only[Ey,El];refine⟨?_,?_,?_,IE _ _ _ _ _ z.f (λi _=>hf i)⟩
 .rw[z.g];exact⟨rfl,rfl⟩
 .rw[z.t];exact⟨rfl,by simp only[Cm];rw[YE O];rfl⟩
 .rw[z.p];exact⟨rfl,rfl⟩
def rX{h:Nat->Option Ao}{σ:Nat->Nat}{N:Nat}(hσ: ∀j,Cp o n j->σ j=N+j)(z:IR h (N+o) G P n nm f)(hf: ∀i,(f i).2.ren σ=(f i).2):CL h σ (Ey o G P n nm f):=by
 simp only[Ey,CL,hσ _ (.inl rfl),hσ _ (.inr (.inl rfl)),hσ _ (.inr (.inr (.inl rfl))),Ab.ren,<-Gg];refine⟨z.g,?_,z.p,QE λi O=> ?_⟩
 .rw[z.t];congr 3;simp only[bT,Lw];refine JJ λi O=> ?_
  have O:=Bt.1 O;simp only[Function.comp,AH,AV.ren];rw[hσ (o+10+i) (.inr (.inr (.inr ⟨by omega,by omega⟩)))];simp only[Gg]
 .rw[hσ (o+10+i) (.inr (.inr (.inr ⟨by omega,by omega⟩))),hf]
  have:=z.f i O
  simpa only[Gg] using this
def IR.mono{h h':Nat->Option Ao}(hs:IR h o G P n nm f)(z: ∀m,Cp o n m->h' m=h m):IR h' o G P n nm f:=
 ⟨by rw[z _ (.inl rfl)];exact hs.g,by rw[z _ (.inr (.inl rfl))];exact hs.t,by rw[z _ (.inr (.inr (.inl rfl)))];exact hs.p,λi O=>by rw[z _ (.inr (.inr (.inr ⟨by omega,by omega⟩)))];exact hs.f i O⟩
def rZ{h:Nat->Option Ao}(hn:n<=1048576)(z: ∀j,Cp o n j->h j=hget (Ey o G P n nm f) j):IR h o G P n nm f:=by
 refine⟨by rw[z _ (.inl rfl)];simp[Ey,hget],by rw[z _ (.inr (.inl rfl))];simp only[Ey,hget,AW _ _ (show o+7≠o+9 by omega)];simp,by rw[z _ (.inr (.inr (.inl rfl)))];simp only[Ey,hget,AW _ _ (show o+7≠o+2000012 by omega),AW _ _ (show o+9≠o+2000012 by omega)];simp,λi O=> ?_⟩;rw[z _ (.inr (.inr (.inr ⟨by omega,by omega⟩)))];simp only[Ey,hget,AW _ _ (show o+7≠o+10+i by omega),AW _ _ (show o+9≠o+10+i by omega),AW _ _ (show o+2000012≠o+10+i by omega),Bm];exact GL _ _ _ _ O
end
def rW{N:Nat}: ∀{H:Ap},(∀p∈H,p.1<N)->B9 N H=true
 |[],_=>rfl
 |(j,e)::r,h=>by
  simp only[B9,AN,E4];exact⟨h _ (BM ..),rW λp hp=>h p (BP _ hp)⟩
def Zo(a:List Tile)(j:Nat):ByteArray:=(a[j]?.map Tile.Name).getD ByteArray.empty
def kQ(h:Nat->Option Ao)(o:Nat)(s:AM):Prop:=IR h o s.Set.Glues s.Seed.Tiles (nT s.Set.Tiles) (Zo s.Set.Tiles) (D8 s.Set.Tiles)
def syZ(h:Nat->Option Ao)(o:Nat)(s:AM)(k:Int):Prop:=IR h o (EI (gF k) s.Set.Glues.length) (EI (pF (syK (s,k))) s.Seed.Tiles.length) (nT s.Set.Tiles) (λj=>Hi (E6 s.Set.Tiles (Eb (s.Set,k)) j)) (Fe s.Set.Tiles (Eb (s.Set,k)) (nT s.Set.Tiles))
def UU(o:Nat)(s:AM):Ap:=Ey o s.Set.Glues s.Seed.Tiles (nT s.Set.Tiles) (Zo s.Set.Tiles) (D8 s.Set.Tiles)
def zI(o:Nat)(s:AM)(k:Int):Ap:=Ey o (EI (gF k) s.Set.Glues.length) (EI (pF (syK (s,k))) s.Seed.Tiles.length) (nT s.Set.Tiles) (λj=>Hi (E6 s.Set.Tiles (Eb (s.Set,k)) j)) (Fe s.Set.Tiles (Eb (s.Set,k)) (nT s.Set.Tiles))
def UV{h:Nat->Option Ao}{o:Nat}{s:AM}(Q:Fm s):kQ h o s↔Di h (o+7) (o+9) (o+2000012) (o+10) s:=by
 have Z:=Q.t;have z:nT s.Set.Tiles=s.Set.Tiles.length:=by simp only[nT];omega
 have e:bT (o+10) (nT s.Set.Tiles) (Zo s.Set.Tiles)=GA (o+10) s.Set.Tiles:=by rw[z];rfl
 constructor
 .intro h;exact⟨h.g,by rw[<-e];exact h.t,h.p,λi O=>h.f i (by rw[z];exact O)⟩
 .intro h;exact⟨h.g,by rw[e];exact h.t,h.p,λi O=>h.f i (by rw[z] at O;exact O)⟩
def rV{N nx:Nat}{tm:List (Nat×AV)}{h:Ap}{dst:Option Nat}{go:Av->Prop}{s:AM}{k:Int}(hp:mkSy.pre (s,k))(Z:kQ (hget h) N s)(ac:N+2000013<=nx)
 (ab: ∀O:Ap,syZ (hget O) N s k->(∀m,¬Cp N (nT s.Set.Tiles) m->hget O m=hget h m)->go ((⟨tm,O,nx⟩:Av).put dst (.im (.int .i64 (syK (s,k)+3*s.Seed.Tiles.length))))):
 mkSy.row [.agg [.own (N+7),.own (N+9),.own (N+2000012),.im (.int .i64 s.Temperature)],.im (.int .i64 k)] (hget h) nx (D6 go ⟨tm,h,nx⟩ dst):=by
 have hn:=CV s.Set.Tiles;obtain⟨τ,hτ⟩: ∃τ:Nat->Nat,τ=λj=>if j=2000000 then N+2000012 else if j=0 then N+7 else N+8+j:=⟨_,rfl⟩
 have t0:τ 0=N+7:=by rw[hτ];rfl
 have t1:τ 1=N+9:=by rw[hτ];rfl
 have t2: ∀j,j<1048576->τ (2+j)=N+10+j:=λj z=>by rw[hτ];simp only;rw[Af (by omega),Af (by omega)];omega
 have tp:τ 2000000=N+2000012:=by rw[hτ];exact Ai rfl
 have hσ: ∀j,j<2000001->BE τ 2000001 nx j=τ j:=λj z=>Ai z
 have d0: ∀j,Ak (mkSy.H0 (s,k)) j=true->j=2000000\/j<2+nT s.Set.Tiles:=λj z=>(mkSy.dom0 _ _).1 z
 have tv: ∀j,(j=2000000/\τ j=N+2000012)\/(j=0/\τ j=N+7)\/(j≠2000000/\j≠0/\τ j=N+8+j):=λj=>by
  rw[hτ];simp only;split
  .exact .inl ⟨by assumption,rfl⟩
  split
  .exact .inr (.inl ⟨by assumption,rfl⟩)
  .exact .inr (.inr ⟨by assumption,by assumption,rfl⟩)
 have rg: ∀j,Ak (mkSy.H0 (s,k)) j=true->Cp N (nT s.Set.Tiles) (τ j):=λj z=>by
  have h1:=d0 j z;have h2:=tv j;simp only[Cp];omega
 have rows: ∀(i:Nat) (nm:Nat->ByteArray),(∀j,j<nT s.Set.Tiles->Fy s.Set.Tiles (Eb (s.Set,k)) i j=[.im (.str (nm j)),.own (2+j)])->(Dq s.Set.Tiles (Eb (s.Set,k)) i).map (AH (BE τ 2000001 nx))=bT (N+10) (nT s.Set.Tiles) nm:=λi nm hnm=>by
  simp only[Dq,bT,Lw];refine JJ λj z=> ?_
  have z:=Bt.1 z;simp only[Function.comp,hnm j z,AH,AV.ren];rw[hσ _ (by omega),t2 j (by omega)]
 refine AB.tau (s,k) τ hp (λ_ _=>rfl) (λj z=> ?_) (λi j Q z h=> ?_) (mkSy.hcl _) ⟨?_,?_⟩ (by simp[mkSy.r0,AV.nms]) (λO hH1 aa=> ?_)
 .have h1:=d0 j z;have h2:=rg j z;simp only[Cp] at h2;omega
 .have h1:=d0 i Q;have h2:=d0 j z;have v1:=tv i;have v2:=tv j;omega
 .simp only[mkSy.ca,AH,AV.ren,hσ 0 (by omega),hσ 1 (by omega),hσ 2000000 (by omega),t0,t1,tp]
 .simp only[mkSy.H0,mkTS.H0,Hw,CL,hσ 0 (by omega),hσ 1 (by omega),hσ 2000000 (by omega),t0,t1,tp,Ab.ren];refine⟨Z.p,Z.g,?_,QE λi Q=> ?_⟩
  .rw[Z.t,rows 0 (Zo s.Set.Tiles) λj _=>rfl]
  .rw[hσ _ (by omega),t2 i (by omega),Z.f i Q];rfl
 refine ab O ⟨?_,?_,?_,λi Q=> ?_⟩ λm hm=>aa m λj z e=>hm (e▸rg j z)
 .have:=hH1 0 _ rfl
  rwa [t0] at this
 .have:=hH1 1 _ rfl
  rw[t1] at this;rw[this];simp only[Ab.ren];rw[rows _ (λj=>Hi (E6 s.Set.Tiles (Eb (s.Set,k)) j)) λj z=>Ai z]
 .have:=hH1 2000000 _ rfl
  rwa [tp] at this
 .have e:hget (mkSy.H1 (s,k)) (2+i)=some (Fe s.Set.Tiles (Eb (s.Set,k)) (nT s.Set.Tiles) i):=by
   simp only[mkSy.H1,hget,AW _ _ (show 2000000≠2+i by omega),Bm];exact rY i Q
  have:=hH1 _ _ e
  rw[t2 i (by omega)] at this;rw[this];rfl
def Fm.sk{s:AM}(h:Fm s){k:Int}(z:0<=k)(O:k<=1073741824):mkSy.pre (s,k)/\0<=Go.Ae.syK (s,k)/\Go.Ae.syK (s,k)+3*s.Seed.Tiles.length<=k+8388608:=by
 have e:Go.Ae.syK (s,k)=k+2*s.Set.Glues.length+s.Set.Tiles.length+GE s.Set.Tiles:=by simp only[Go.Ae.syK,Nn,Eb]
 have:=h.g;have:=h.t;have:=h.d;have:=h.p
 refine⟨⟨z,h.t,?_⟩,?_,?_⟩<;>simp only[e]<;>omega
def YR(a:AE×Int):Int:=syK (a.1.Big,a.2)+3*a.1.Big.Seed.Tiles.length
def YS(a:AE×Int):Int:=syK (a.1.Small,YR a)+3*a.1.Small.Seed.Tiles.length
def BY.ca(a:AE×Int):List AV:=[.agg [.own 7,.own 9,.own 2000012,.im (.int .i64 a.1.Big.Temperature),.own 2000020,.own 2000022,.own 4000025,.im (.int .i64 a.1.Small.Temperature),.im (.int .i64 a.1.Scale),.own 4000027],.im (.int .i64 a.2)]
def BY.H0(a:AE×Int):Ap:=(4000027,(true,.arr 2 1 (a.1.Labels.map Al)))::(UU 0 a.1.Big++UU 2000013 a.1.Small)
def BY.H1(a:AE×Int):Ap:=(4000027,(true,.arr 2 1 ((OJ (YS a) a.1.Labels.length).map Al)))::(zI 0 a.1.Big a.2++zI 2000013 a.1.Small (YR a))
def BY.pre(a:AE×Int):Prop:=IQ a.1/\0<=a.2/\a.2<=1048576
def BY.r0(a:AE×Int):AV:= .im (.int .i64 (YS a+a.1.Labels.length))
def BY.row:A7:=AB BY.ca BY.H0 4000028 BY.pre (λ_=>true) BY.r0 BY.H1 0
def KU(a:AE×Int)(j:Nat):Prop:=j=4000027\/Cp 0 (nT a.1.Big.Set.Tiles) j\/Cp 2000013 (nT a.1.Small.Set.Tiles) j
def BY.dom0(a:AE×Int)(j:Nat):Ak (BY.H0 a) j=true↔KU a j:=by
 have z:=Wv (o:=0) (G:=a.1.Big.Set.Glues) (P:=a.1.Big.Seed.Tiles) (nm:=Zo a.1.Big.Set.Tiles) (f:=D8 a.1.Big.Set.Tiles) (CV a.1.Big.Set.Tiles) j;have O:=Wv (o:=2000013) (G:=a.1.Small.Set.Glues) (P:=a.1.Small.Seed.Tiles) (nm:=Zo a.1.Small.Set.Tiles) (f:=D8 a.1.Small.Set.Tiles) (CV a.1.Small.Set.Tiles) j;simp only[KU,<-z,<-O,Ak,BY.H0,hget,IP,UU];by_cases h:j=4000027
 .subst h;simp
 .rw[AW _ _ (λq=>h q.symm)];simp[h]
def BY.in0(a:AE×Int): ∀p∈BY.H0 a,KU a p.1/\ ∀m∈p.2.2.nms,KU a m:=by
 intro p hp;rcases Bh.1 hp with rfl|hp
 .exact⟨.inl rfl,by simp[Ab.nms]⟩
 rcases Bn.1 hp with hp|hp
 .obtain⟨z,O⟩:=Ww (λi=>rfl) hp;exact⟨.inr (.inl z),λm Q=> .inr (.inl (O m Q))⟩
 .obtain⟨z,O⟩:=Ww (λi=>rfl) hp;exact⟨.inr (.inr z),λm Q=> .inr (.inr (O m Q))⟩
def BY.hcl(a:AE×Int): ∀p∈BY.H1 a,Ak (BY.H0 a) p.1=true/\ ∀m∈p.2.2.nms,Ak (BY.H0 a) m=true:=by
 intro p hp;simp only[BY.dom0];rcases Bh.1 hp with rfl|hp
 .exact⟨.inl rfl,by simp[Ab.nms]⟩
 rcases Bn.1 hp with hp|hp
 .obtain⟨z,O⟩:=Ww (λi=>rfl) hp;exact⟨.inr (.inl z),λm Q=> .inr (.inl (O m Q))⟩
 .obtain⟨z,O⟩:=Ww (λi=>rfl) hp;exact⟨.inr (.inr z),λm Q=> .inr (.inr (O m Q))⟩
def Wx{a:AE×Int}{j:Nat}(h:KU a j):j<4000028:=by
 have:=CV a.1.Big.Set.Tiles
 have:=CV a.1.Small.Set.Tiles
 simp only[KU,Cp] at h;omega
def BY.hbel(a:AE×Int):AF 4000028 (BY.ca a)=true:=by simp[BY.ca,AF,AV.bel]
def BY.hbH(a:AE×Int):Aw 4000028 (BY.H0 a)=true:=cH _ λp hp m z=>Wx ((BY.in0 a p hp).2 m z)
def BY.hkH(a:AE×Int):B9 4000028 (BY.H0 a)=true:=rW λp hp=>Wx (BY.in0 a p hp).1
def BY.hnm(a:AE×Int):BS (BY.H0 a) (BY.H0 a):=Wj λp hp m z=>(BY.dom0 _ _).2 ((BY.in0 a p hp).2 m z)
def BY.at0(a:AE×Int):kQ (hget (BY.H0 a)) 0 a.1.Big/\kQ (hget (BY.H0 a)) 2000013 a.1.Small/\hget (BY.H0 a) 4000027=some (true,.arr 2 1 (a.1.Labels.map Al)):=by
 have Q:=CV a.1.Big.Set.Tiles;have l2:=CV a.1.Small.Set.Tiles;refine⟨rZ Q λj O=> ?_,rZ l2 λj O=> ?_,rfl⟩
 .have z:=(Wv (o:=0) (G:=a.1.Big.Set.Glues) (P:=a.1.Big.Seed.Tiles) (nm:=Zo a.1.Big.Set.Tiles) (f:=D8 a.1.Big.Set.Tiles) Q j).2 O;simp only[Cp] at O;simp only[BY.H0,hget,AW _ _ (show 4000027≠j by omega),Bm,IP,UU];simp only[Ak,ZdS] at z;obtain⟨e,Z⟩:=z;rw[Z];rfl
 .have z:=Wv (o:=0) (G:=a.1.Big.Set.Glues) (P:=a.1.Big.Seed.Tiles) (nm:=Zo a.1.Big.Set.Tiles) (f:=D8 a.1.Big.Set.Tiles) Q j;simp only[Cp] at O z;simp only[BY.H0,hget,AW _ _ (show 4000027≠j by omega),Bm,IP,UU]
  have:hget (Ey 0 a.1.Big.Set.Glues a.1.Big.Seed.Tiles (nT a.1.Big.Set.Tiles) (Zo a.1.Big.Set.Tiles) (D8 a.1.Big.Set.Tiles)) j=none:=by
   rw[<-Option.not_isSome_iff_eq_none];intro h
   have:=z.1 h
   omega
  rw[this];rfl
def BY.ok:AC 14 BY.row:=by
 refine ow (tC mkSy.ok (tC mkIC.ok tN)) Tryz.func14 (exB:=λ_=>false) (R:=λa r=>r=BY.r0 a) (λ_=>rfl)
  (λa=>⟨BY.hbel a,BY.hbH a,BY.hkH a,BY.hnm a⟩) (λa p hp=> ?_) (λa r h=>by subst h;exact CU.refl _) ?_
 rotate_left
 intro a Z;simp only[Tryz.f14,BY.ca];simp only[ZA,simprocAttr];obtain⟨S,k⟩:=a;obtain⟨hB,h2,h3⟩:=Z;simp only at hB h2 h3;obtain⟨A0,B0,I0⟩:=BY.at0 (S,k);obtain⟨p1,p2,p3⟩:=hB.a.sk h2 (by omega);have q1:YR (S,k)=syK (S.Big,k)+3*S.Big.Seed.Tiles.length:=rfl;obtain⟨p4,p5,p6⟩:=hB.b.sk (k:=YR (S,k)) (by omega) (by omega);have q2:YS (S,k)=syK (S.Small,YR (S,k))+3*S.Small.Seed.Tiles.length:=rfl;have l1:=CV S.Big.Set.Tiles;have l2:=CV S.Small.Set.Tiles;simp only[Br];have dm:=λj=>(BY.dom0 (S,k) j).2
 generalize BY.H0 (S,k)=H at A0 B0 I0 dm⊢;generalize hG:((4000028,(true,Ab.cells 53 _))::_:Ap)=H';have gt: ∀m,m≠4000028->hget H' m=hget H m:=λm z=>by rw[<-hG];simp only[hget,AW _ _ (λh=>z h.symm),Bm]
 have A1:kQ (hget H') 0 S.Big:=A0.mono λm z=>gt m (by simp only[Cp] at z;omega)
 have B1:kQ (hget H') 2000013 S.Small:=B0.mono λm z=>gt m (by simp only[Cp] at z;omega)
 have I1:=(gt 4000027 (by decide)).trans I0;have c1:hget H' 4000028=some (true,.cells 53 [.own 7,.own 9,.own 2000012,.im (.int .i64 S.Big.Temperature),.own 2000020,.own 2000022,.own 4000025,.im (.int .i64 S.Small.Temperature),.im (.int .i64 S.Scale),.own 4000027]):=by rw[<-hG];rfl
 clear gt A0 B0 I0 hG;refine rV (N:=0) p1 A1 (by omega) λH2 Z2 O=> ?_
 have B2:kQ (hget H2) 2000013 S.Small:=B1.mono λm z=>O m (by simp only[Cp] at z⊢;omega)
 have I2:=(O 4000027 (by simp only[Cp];omega)).trans I1;have c2:=(O 4000028 (by simp only[Cp];omega)).trans c1;clear O A1 B1 I1 c1;simp only[<-q1];simp only[ZA,simprocAttr,Br,c2];refine rV (N:=2000013) p4 B2 (by omega) λH3 Z3 Q=> ?_
 have Z4:syZ (hget H3) 0 S.Big k:=Z2.mono λm z=>Q m (by simp only[Cp] at z⊢;omega)
 have I3:=(Q 4000027 (by simp only[Cp];omega)).trans I2;have c3:=(Q 4000028 (by simp only[Cp];omega)).trans c2;clear Q B2 I2 c2 Z2;simp only[<-q2];simp only[ZA,simprocAttr,Br,c3];refine OK (l:=S.Labels) (by omega) (by have:=hB.l;omega) I3 (by omega) λH4 hj hk=> ?_
 have Z5:syZ (hget H4) 0 S.Big k:=Z4.mono λm z=>hk m (by simp only[Cp] at z;omega)
 have Z6:syZ (hget H4) 2000013 S.Small (YR (S,k)):=Z3.mono λm z=>hk m (by simp only[Cp] at z;omega)
 have I4:hget H4 4000027=some (true,.arr 2 1 ((OJ (YS (S,k)) S.Labels.length).map Al)):=hj 0 _ rfl;clear hj hk Z3 Z4 I3 c3;simp only[ZA,simprocAttr,Br];refine⟨Wh _ _,rfl,?_⟩;simp only[BY.H1,El];exact⟨by rw[I4];exact⟨rfl,rfl⟩,(Quc ..).2 ⟨sB Z5 (λi=>rfl) λi hi=>Wk (dm _ (.inr (.inl (.inr (.inr (.inr ⟨by omega,by simp only;omega⟩)))))),sB Z6 (λi=>rfl) λi hi=>Wk (dm _ (.inr (.inr (.inr (.inr (.inr ⟨by omega,by simp only;omega⟩))))))⟩⟩;obtain⟨q1,_⟩:=BY.hcl _ p hp
 have:=Wx ((BY.dom0 _ _).1 q1)
 exact .inl ⟨by omega,rfl,q1⟩
structure FV(h:Nat->Option Ao)(N:Nat)(m:AE):Prop where
 a:Di h (N+7) (N+9) (N+2000012) (N+10) m.Big
 b:Di h (N+2000020) (N+2000022) (N+4000025) (N+2000023) m.Small
 l:h (N+4000027)=some (true,.arr 2 1 (m.Labels.map Al))
def UA(N:Nat)(m:AE):List AV:=[.own (N+7),.own (N+9),.own (N+2000012),.im (.int .i64 m.Big.Temperature),.own (N+2000020),.own (N+2000022),.own (N+4000025),.im (.int .i64 m.Small.Temperature),.im (.int .i64 m.Scale),.own (N+4000027)]
def FV.mono{h h':Nat->Option Ao}{N:Nat}{m:AE}(O:IQ m)(hs:FV h N m)(z: ∀j,N+7<=j->j<N+4000028->h' j=h j):FV h' N m:=by
 have Z:=O.a.t;have h2:=O.b.t;exact⟨hs.a.mono λj Q=>z j (by omega) (by omega),hs.b.mono λj Q=>z j (by omega) (by omega),by rw[z _ (by omega) (by omega)];exact hs.l⟩
def FV.pk{h:Nat->Option Ao}{N:Nat}{m:AE}(hs:FV h N m):Dc h (.agg (UA N m))=some (.val (.agg (AE.c m))):=by
 have:bk h (6+3) (.agg (UA N m))=some (.agg (AE.c m)):=by
  simp only[UA,bk,Ar,hs.a.g,hs.a.t,hs.a.p,hs.b.g,hs.b.t,hs.b.p,hs.l,Kv,dU hs.a.f,dU hs.b.f,D3,AE.c]
 simp only[Dc,this,DY,D3]
def Ng{L:Ap}{h:Nat->Option Ao}{o nx a b c d:Nat}{s:AM}(O:a=nx+(o+7))(Q:b=nx+(o+9))(Z:c=nx+(o+2000012))(ed:d=nx+(o+10))(hB:Fm s)(hL: ∀j e,hget (Ej o s) j=some e->hget L j=some e)(h1: ∀j e,hget L j=some e->h (nx+j)=some (e.1,e.2.ren λj=>nx+j)):Di h a b c d s:=by
 subst O Q Z ed;have ht:=hB.t;have hm:min s.Set.Tiles.length 1048576=s.Set.Tiles.length:=by omega
 have g: ∀j e,hget (Ej o s) j=some e->h (nx+j)=some (e.1,e.2.ren λj=>nx+j):=λj e he=>h1 j e (hL j e he)
 refine⟨g (o+7) (true,.arr 211 2 (s.Set.Glues.map Am.c)) (by simp only[Ej,hget,aP,BX]),?_,g (o+2000012) (true,.arr 115 3 (s.Seed.Tiles.map Aj.c)) (by simp only[Ej,hget,AW _ _ (show o+7≠o+2000012 by omega),AW _ _ (show o+9≠o+2000012 by omega),Bm,aP,BX]),λi z=> ?_⟩
 .rw[g (o+9) (true,.arrA 208 2 (GA (o+10) s.Set.Tiles)) (by simp only[Ej,hget,AW _ _ (show o+7≠o+9 by omega),Bm,aP,BX])];simp only[Ab.ren];congr 3;simp only[GA,Lw];refine JJ λi z=> ?_
  simp only[Function.comp,AH,AV.ren];rw[<-Gg nx]
 .have e:hget (Ej o s) (o+10+i)=some (D8 s.Set.Tiles i):=by
   simp only[Ej,hget,AW _ _ (show o+7≠o+10+i by omega),AW _ _ (show o+9≠o+10+i by omega),AW _ _ (show o+2000012≠o+10+i by omega),Bm];rw[hm];exact GL _ _ _ _ z
  rw[Gg,g _ _ e];rfl
def dV{o j:Nat}{s:AM}(h:j<o+7\/o+2000013<=j):hget (Ej o s) j=none:=by
 cases e:hget (Ej o s) j with
 |none=>rfl
 |some x=>
  have:=QI (ZL e)
  simp only at this;omega
def yM{m:AE}(Q:IQ m){nx:Nat}{O:Ap}(h: ∀j e,hget (toMX.H1 m) j=some e->hget O (nx+j)=some (e.1,e.2.ren λj=>nx+j)):FV (hget O) (nx+3) m:=by
 have Z:=Ng (L:=toMX.H1 m) (h:=hget O) (nx:=nx) (o:=3) (a:=nx+3+7) (b:=nx+3+9) (c:=nx+3+2000012) (d:=nx+3+10) (by omega) (by omega) (by omega) (by omega) Q.a (λj e z=> ?_) h;have eb:=Ng (L:=toMX.H1 m) (h:=hget O) (nx:=nx) (o:=2000016) (a:=nx+3+2000020) (b:=nx+3+2000022) (c:=nx+3+4000025) (d:=nx+3+2000023) (by omega) (by omega) (by omega) (by omega) Q.b (λj e z=> ?_) h
 .exact⟨Z,eb,by rw[show nx+3+4000027=nx+4000030 by omega];exact h 4000030 _ rfl⟩
 .have hn: ¬(j<2000016+7\/2000016+2000013<=j):=λq=>by rw[dV q] at z;cases z
  simp only[toMX.H1,hget,AW _ _ (show 4000030≠j by omega),Bm,IP,dV (o:=3) (s:=m.Big) (j:=j) (by omega),Zfs];exact z
 .have hn: ¬(j<3+7\/3+2000013<=j):=λq=>by rw[dV q] at z;cases z
  simp only[toMX.H1,hget,AW _ _ (show 4000030≠j by omega),Bm,IP,z,Option.some_or]
def Nh{o:Nat}{s:AM}(O:Fm s){p:Nat×Ao}(hp:p∈Ej o s): ∀j∈p.2.2.nms,j<o+2000013:=by
 have ht:=O.t;simp only[Ej,Bh,AQ,Bo,Bt] at hp;rcases hp with rfl|rfl|rfl|⟨i,hi,rfl⟩
 .simp[Ab.nms]
 .intro m z;simp only[Ab.nms] at z;obtain⟨r,Z,z⟩:=Fg.1 z;obtain⟨j,Q,rfl⟩:=Bo.1 Z
  have:=Bt.1 Q
  simp[AA,AV.nms] at z;omega
 .simp[Ab.nms]
 .simp[D8,Ab.nms]
def yN{m:AE}(Q:IQ m): ∀p∈toMX.H1 m,p.1<4000031/\ ∀j∈p.2.2.nms,j<4000031:=by
 intro p hp;rcases Bh.1 hp with rfl|hp
 .exact⟨by omega,by simp[Ab.nms]⟩
 rcases Bn.1 hp with hp|hp
 .have Z:=QI hp;have z:=Nh Q.a hp;exact⟨by omega,λj O=>by have:=z j O;omega⟩
 .have Z:=QI hp;have z:=Nh Q.b hp;exact⟨by omega,λj O=>by have:=z j O;omega⟩
def Tf{N nx:Nat}{tm:List (Nat×AV)}{h:Ap}{dst:Option Nat}{go:Av->Prop}{m:AE}{k:Int}(Q:IQ m)(hk:0<=k)(ab:k<=1048576)(hS:FV (hget h) N m)(ac:N+4000028<=nx)
 (aa: ∀O:Ap,(∀j,j<N+7\/N+4000028<=j->hget O j=hget h j)->go ((⟨tm,O,nx⟩:Av).put dst (.im (.int .i64 (YS (m,k)+m.Labels.length))))):
 BY.row [.agg (UA N m),.im (.int .i64 k)] (hget h) nx (D6 go ⟨tm,h,nx⟩ dst):=by
 have hσ: ∀j,j<4000028->BE (λj=>N+j) 4000028 nx j=N+j:=λj z=>Ai z
 have hd: ∀j,Ak (BY.H0 (m,k)) j=true->7<=j/\j<4000028:=λj z=>by
  have:=(BY.dom0 _ _).1 z
  have h1:=Wx this;simp only[KU,Cp] at this;omega
 refine AB.tau (m,k) (λj=>N+j) ⟨Q,hk,ab⟩ (λ_ _=>rfl) (λj z=>by have:=hd j z;omega) (λi j _ _ h=>by omega) (BY.hcl _) ⟨?_,?_⟩ (by simp[BY.r0,AV.nms]) (λO _ Z=>aa O λj z=>Z j λi hi=>by have:=hd i hi;omega)
 .simp only[BY.ca,UA,AH,AV.ren,hσ 7 (by omega),hσ 9 (by omega),hσ 2000012 (by omega),hσ 2000020 (by omega),hσ 2000022 (by omega),hσ 4000025 (by omega),hσ 4000027 (by omega)]
 .simp only[BY.H0,CL,hσ 4000027 (by omega)];have l1:=CV m.Big.Set.Tiles;have l2:=CV m.Small.Set.Tiles;have hb:Di (hget h) (N+2000013+7) (N+2000013+9) (N+2000013+2000012) (N+2000013+10) m.Small:=by
   rw[show N+2000013+7=N+2000020 by omega,show N+2000013+9=N+2000022 by omega,show N+2000013+2000012=N+4000025 by omega,show N+2000013+10=N+2000023 by omega];exact hS.b
  refine⟨hS.l,(Qwi ..).2 ⟨rX (N:=N) (λj z=>hσ j (by simp only[Cp] at z;omega)) ((UV Q.a).2 hS.a) (λi=>rfl),rX (N:=N) (λj z=>hσ j (by simp only[Cp] at z;omega)) ((UV Q.b).2 hb) (λi=>rfl)⟩⟩
def toMR.row:A7:=yW toSimulation.row toMX.row
def toMR.ok:AC 7 toMR.row:=KM toSimulation.ok toMX.ok
def U9(m:AE):a1 (kR AE.d) [.val (.agg (AE.c m))]=some m:=by simp only[a1,kR,AE.d_c,G7]
def zE(s t:AE):a2 (kR AE.d) (kR AE.d) [.val (.agg (AE.c s)),.val (.agg (AE.c t))]=some (s,t):=by simp only[a2,kR,AE.d_c,G7]
def Zf{m:AE}{l:Int}(O: -1<=l)(z:l<=1048576)(h:0<=GC m l):IQ m:=by
 have b1:=mV m.Big l O;have b2:=mV m.Small (JH m.Big l) b1.1;simp only[GC] at h;split at h
 .omega
 split at h
 .omega
 obtain⟨q1,_,_⟩:=Ql h;exact⟨Ni O z (by omega),Ni b1.1 (by omega) (by omega),by omega⟩
def kJ{m:AE}(z:IQ m):0<=YS (m,1)+m.Labels.length/\YS (m,1)+m.Labels.length<=33554432:=by
 have q1:YR (m,1)=syK (m.Big,1)+3*m.Big.Seed.Tiles.length:=rfl;have q2:YS (m,1)=syK (m.Small,YR (m,1))+3*m.Small.Seed.Tiles.length:=rfl;obtain⟨_,O,Q⟩:=z.a.sk (k:=1) (by decide) (by decide);obtain⟨_,Z,p6⟩:=z.b.sk (k:=YR (m,1)) (by omega) (by omega)
 have:=z.l
 omega
end Go.Ae
