/- Lemmas. Conditions: none. -/
import Derived.Test.YtpnmcdpbphpklaaGreatDoorP15
import Derived.Lib.ItoaLen
set_option linter.all false
set_option maxHeartbeats 8000000
set_option maxRecDepth 100000
namespace Go.Ae
open Go.Proofs Go.Lib
def Wi{s:UInt8}: ∀{a b r q:List UInt8},(∀c∈a,c≠s)->(∀c∈b,c≠s)->a++s::r=b++s::q->a=b/\r=q
 |[],[],r,q,_,_,h=>by simpa using h
 |[],y::b,r,q,_,G,h=>by
  simp only[Fb,CW,V7] at h;exact absurd h.1.symm (G y (Cb ..))
 |x::a,[],r,q,z,_,h=>by
  simp only[Fb,CW,V7] at h;exact absurd h.1 (z x (Cb ..))
 |x::a,y::b,r,q,z,G,h=>by
  simp only[CW,V7] at h;obtain⟨Q,Z⟩:=Wi (λc O=>z c (BZ _ O)) (λc O=>G c (BZ _ O)) h.2;exact⟨by rw[h.1,Q],Z⟩
def YZ(l:List UInt8):Nat:=l.foldl (λa c=>10*a+(c.toNat - 48)) 0
def pL{d:Nat}(h:d<10):(UInt8.ofNat (48+d)).toNat=48+d:=by
 rcases (by omega:d=0\/d=1\/d=2\/d=3\/d=4\/d=5\/d=6\/d=7\/d=8\/d=9) with rfl|rfl|rfl|rfl|rfl|rfl|rfl|rfl|rfl|rfl<;>rfl
def N0: ∀(n u:Nat),u<=n->YZ (decDigits u)=u/\(∀c∈decDigits u,48<=c.toNat/\c.toNat<=57)/\decDigits u≠[]
 |0,u,h=>by
  obtain rfl:u=0:=by omega
  rw[decDigits,dif_pos (by omega)];refine⟨by decide,λc z=> ?_,by simp⟩;rw[B4] at z;subst z;decide
 |n+1,u,h=>by
  rw[decDigits];split
  .rename_i G
   have:=pL G
   refine⟨by simp only[YZ,NQ,Rd,this];omega,λc z=> ?_,by simp⟩;rw[B4] at z;subst z;omega
  .rename_i G;obtain⟨O,Q,Z⟩:=N0 n (u/10) (by omega)
   have:=pL (d:=u % 10) (by omega)
   refine⟨?_,λc z=> ?_,by simp⟩
   .simp only[YZ] at O;simp only[YZ,uJ,NQ,Rd,O,this];omega
   .rcases Bp.1 z with z|z
    .exact Q c z
    .rw[B4] at z;subst z;omega
def Lq{u v:Nat}(h:decDigits u=decDigits v):u=v:=by
 have z:=(N0 u u (AF _)).1;have G:=(N0 v v (AF _)).1;rw[h] at z;omega
def cO{m n:Int}(h:itoa m=itoa n):m=n:=by
 unfold itoa at h;have hd: ∀u,decDigits u=45::decDigits u->False:=λu G=>by
  have:=BY List.length G
  simp at this
 have z: ∀u v,¬(45::decDigits u=decDigits v):=λu v e=>by
  have:=(N0 v v (AF _)).2.1 45 (by rw[<-e];exact Cb ..)
  exact absurd this.1 (by decide)
 split at h<;>split at h
 .have:=Lq (Zfb h).2
  omega
 .exact absurd h (z _ _)
 .exact absurd h.symm (z _ _)
 .have:=Lq h
  omega
def N1(n:Int){s:UInt8}(hs:s.toNat=44\/s.toNat=58\/s.toNat=59): ∀c∈itoa n,c≠s:=by
 intro c z e;subst e;unfold itoa at z;split at z
 .rcases Bx.1 z with rfl|z
  .rcases hs with h|h|h<;>exact absurd h (by decide)
  .have:=(N0 _ _ (AF _)).2.1 c z
   omega
 .have:=(N0 _ _ (AF _)).2.1 c z
  omega
def Wj{n:Int}(h0: -9223372036854775808<=n)(z:n<=9223372036854775807):(itoa n).length<=21:=itoa_length_le n h0 z
def Jj(x:Aj):List UInt8:=itoa x.At.X++44::(itoa x.At.Y++58::(itoa x.Tile++[59]))
def DE(l:List Aj):List UInt8:=l.flatMap Jj
def GY(a:Ab):ByteArray:=⟨(DE a.Tiles).toArray⟩
def pO: ∀{l m:List Aj},DE l=DE m->l=m
 |[],[],_=>rfl
 |[],y::m,h=>by
  simp only[DE,ZQ,EQ,Jj] at h
  have:=BY List.length h
  simp at this
 |x::l,[],h=>by
  simp only[DE,ZQ,EQ,Jj] at h
  have:=BY List.length h
  simp at this
 |x::l,y::m,h=>by
  simp only[DE,EQ,Jj,E0,CW] at h;obtain⟨z,Z⟩:=Wi (N1 _ (.inl rfl)) (N1 _ (.inl rfl)) h;obtain⟨G,h4⟩:=Wi (N1 _ (.inr (.inl rfl))) (N1 _ (.inr (.inl rfl))) Z;obtain⟨O,Q⟩:=Wi (N1 _ (.inr (.inr rfl))) (N1 _ (.inr (.inr rfl))) h4;simp only[Fb] at Q;have ih:=pO (l:=l) (m:=m) Q
  cases x with|mk p t=>cases y with|mk q u=>cases p;cases q
                                            simp only at z G O;rw[cO z,cO G,cO O,ih]
def SI{a b:Ab}(h:GY a=GY b):a=b:=by
 have O:=BY ByteArray.data h;have z:=BY Array.toList O;simp only[GY] at z;have G:=pO z;cases a;cases b;simp only at G;rw[G]
end Go.Ae
namespace Go.Ae
open Go.Proofs
def wsC.ca(a:(Bool×List UInt8)×ByteArray):List AV:=[.ptr 0 0,.im (.str a.2)]
def wsC.H0(a:(Bool×List UInt8)×ByteArray):Ar:=Cv a.1
def wsC.H1(a:(Bool×List UInt8)×ByteArray):Ar:=[(0,(true,.cells 226 [.ptr 0 0,.own 2])),(2,(true,.arr 5 1 (bR (a.1.2++a.2.data.toList))))]
def xK(j:Nat):Bool:=Nat.ble j 1
def wsC.r0(a:(Bool×List UInt8)×ByteArray):AV:= .im (.tup [.int .i64 a.2.size,.nili])
def wsC.row:Ax:=AE wsC.ca wsC.H0 2 (λa=>a.1.2.length<=1000000/\a.2.size<=1000000) xK wsC.r0 wsC.H1 1
def JW(a:Bool×List UInt8):AD 2 (Cv a)=true/\Cg 2 (Cv a)=true/\Cx (Cv a) (Cv a):=by
 obtain⟨u,l⟩:=a;cases u<;>simp[Cv,Dn,AN,AV.bel,AD,Cg,Cx,Ag.nms,A9,AV.nms,An,hget]
def wsC.hbel(a:(Bool×List UInt8)×ByteArray):AN 2 (wsC.ca a)=true:=by simp[wsC.ca,AN,AV.bel]
def wsC.hbH(a:(Bool×List UInt8)×ByteArray):AD 2 (wsC.H0 a)=true:=(JW a.1).1
def wsC.hkH(a:(Bool×List UInt8)×ByteArray):Cg 2 (wsC.H0 a)=true:=(JW a.1).2.1
def wsC.hnm(a:(Bool×List UInt8)×ByteArray):Cx (wsC.H0 a) (wsC.H0 a):=(JW a.1).2.2
def wsC.ok:AA 165 wsC.row:=by
 refine ow (tC ccC.ok tN) Tryz.func165 (exB:=λj=>j==2) (R:=λa r=>r=wsC.r0 a) (λ_=>rfl)
  (λa=>⟨wsC.hbel a,wsC.hbH a,wsC.hkH a,wsC.hnm a⟩) (λa p hp=> ?_) (λa r h=>by subst h;exact DK.refl _) ?_
 rotate_left
 intro a G;simp only[Tryz.f165,wsC.ca,wsC.H0,Cv,wsC.H1];simp only[ZA,simprocAttr]
 .obtain⟨⟨u,l⟩,s⟩:=a;obtain⟨Z,h2⟩:=G;simp only at Z h2;have O:(FG s).length=s.size:=by simp only[FG,EJ,Dm];rfl
  have z:(bR l).length=l.length:=by simp[bR]
  cases u with
  |false=>
   refine AE.os (false,l) [0,1] trivial (λj=>Q9 _ j) rfl rfl ?_ ?_
   .simp only[ZA,simprocAttr,AC,Cv,ccC.ca,Cv,Dn,Cz,D4]
    try exact⟨rfl,rfl⟩
   simp only[ZA,simprocAttr,AC,xK,ccC.H1,ccK,Dn,Cz,D4,O,z];refine⟨λr Q=> ?_,by omega,rfl,by simp[bR,FG]⟩;obtain⟨b,_,rfl⟩:=BI.1 Q;rfl
  |true=>
   refine AE.os (true,l) [0,1] trivial (λj=>Q9 _ j) rfl rfl ?_ ?_
   .simp only[ZA,simprocAttr,AC,Cv,ccC.ca,Cv,Dn,Cz,D4]
    try exact⟨rfl,rfl⟩
   simp only[ZA,simprocAttr,AC,xK,ccC.H1,ccK,Dn,Cz,D4,O,z];refine⟨λr Q=> ?_,by omega,rfl,by simp[bR,FG]⟩;obtain⟨b,_,rfl⟩:=BI.1 Q;rfl
 simp only[wsC.H1,Bx,Ri,NR] at hp;rcases hp with rfl|rfl
 .exact .inl ⟨by omega,rfl,rfl⟩
 .exact .inr ⟨by omega,by omega,rfl,rfl⟩
def dcm_.fv(a:Int):ByteArray:=(Gl) a
def dcm_.row:Ax:=Fv (b1 qI) rT (λa=> -9223372036854775808<=a/\a<=9223372036854775807) dcm_.fv
def dcm_.q:=CR (R:=dcm_.row) rfl
def dcm_.ok:AA 167 dcm_.row:=by
 refine HJ (tC fmt_.ok tN) Tryz.func167 ?_;intro a z;simp only[Tryz.f167];simp only[ZA,simprocAttr,rch,dcm_.fv,fmt_.q,fmt_.fv,D.sc,D.scs,Bt];exact z
def QA{n:Int}(h0: -9223372036854775808<=n)(z:n<=9223372036854775807):(Gl n).size<=21:=Wj h0 z
def mR(p:Ac):ByteArray:=if Dl p=true then Gl p.X++⟨#[44]⟩++Gl p.Y else ⟨#[]⟩
def ptx_.fv(a:Ac):ByteArray:=(mR) a
def ptx_.row:Ax:=Fv (b1 (qR Ac.d_le)) rT (λa=>True) ptx_.fv
def ptx_.q:=CR (R:=ptx_.row) rfl
def ptx_.ok:AA 166 ptx_.row:=by
 refine HJ (tC ValidPoint.ok (tC dcm_.ok tN)) Tryz.func166 ?_;intro a G;simp only[Tryz.f166];simp only[ZA,simprocAttr,rch,ptx_.fv,ValidPoint.q,ValidPoint.fv,dcm_.q,dcm_.fv,D.sc,D.scs,Bt];split
 .rename_i c;simp only[mR];rw[Ad (by rw[c];decide)]
 .rename_i c;have z:Dl a=true:=by simpa using c
  obtain⟨x1,x2,y1,y2⟩:=PT z;have Q:=QA (n:=a.X) (by omega) (by omega);have Z:=QA (n:=a.Y) (by omega) (by omega);have O:(⟨#[44]⟩:ByteArray).size=1:=rfl;refine⟨⟨by omega,by omega⟩,by rw[O];omega,⟨by omega,by omega⟩,by rw[Xb,O];omega,?_⟩;simp only[mR];rw[Ai z]
def pP: ∀(l:List Aj),(∀x∈l,Dl x.At=true/\0<=x.Tile/\x.Tile<=1000)->(DE l).length<=70*l.length
 |[],_=>by simp[DE]
 |x::l,h=>by
  have ih:=pP l λy z=>h y (BZ _ z)
  obtain⟨G,O,Q⟩:=h x (Cb ..);obtain⟨x1,x2,y1,y2⟩:=PT G;have Z:=Wj (n:=x.At.X) (by omega) (by omega);have sy:=Wj (n:=x.At.Y) (by omega) (by omega);have st:=Wj (n:=x.Tile) (by omega) (by omega);simp only[DE,EQ,Jj,BQ,Cr,F3] at ih⊢;omega
def key_.fv(a:Ab):ByteArray:=(GY) a
def key_.row:Ax:=Fv (b1 (qR Ab.d_le)) rT (λa=>1<=a.Tiles.length/\a.Tiles.length<=1000/\ ∀x∈a.Tiles,Dl x.At=true/\0<=x.Tile/\x.Tile<=1000) key_.fv
def key_.q:=CR (R:=key_.row) rfl
def key_.ok:AA 115 key_.row:=by
 refine HJ (tC ptx_.ok (tC dcm_.ok (tC wsC.ok (tC bsC.ok tN)))) Tryz.func115 ?_;intro a O;simp only[Tryz.f115];simp only[ZA,simprocAttr,key_.fv];intro _;obtain⟨h1,h2,h3⟩:=O;refine AR.ren ⟨{i:Nat//i<=a.Tiles.length},λi=>⟨[(9,.im (.int .i64 i.1)),(8,.im (.int .i64 a.Tiles.length)),(7,.im (.sl false 3 (a.Tiles.map Aj.c))),(3,.ptr 1 0)],[(1,(true,.cells 226 [if i.1=0 then .im .nilp else .ptr 1 0,.own 2])),(2,(true,.arr 5 1 (bR (DE (a.Tiles.take i.1)))))],3⟩,λi=>a.Tiles.length - i.1,λi=>⟨by rcases i with ⟨_|i,hi⟩<;>simp[ZG],by simp⟩,⟨⟨0,BP _⟩,[(2,none)],?_⟩,λi=> ?_⟩
 .simp only[Ak,GS,DE,ZQ,bR,Cs];simp only[ZA,simprocAttr,Bk]
  try simp
 obtain⟨i,hi⟩:=i;simp only[ZA,simprocAttr,rch,ptx_.q,ptx_.fv,dcm_.q,dcm_.fv,AM];refine⟨λz=>⟨z,λx hx=> ?_⟩,λz=> ?_⟩
 .obtain⟨o1,o2,o3⟩:=h3 x (AP hx);obtain⟨x1,x2,y1,y2⟩:=PT o1;have sx:=QA (n:=x.At.X) (by omega) (by omega);have sy:=QA (n:=x.At.Y) (by omega) (by omega);have st:=QA (n:=x.Tile) (by omega) (by omega);have s1:(⟨#[44]⟩:ByteArray).size=1:=rfl;have s2:(⟨#[58]⟩:ByteArray).size=1:=rfl;have s3:(⟨#[59]⟩:ByteArray).size=1:=rfl;have Q:mR x.At=Gl x.At.X++⟨#[44]⟩++Gl x.At.Y:=Ai o1;have af:(mR x.At).size<=43:=by rw[Q,Xb,Xb,s1];omega
  have ad:=pP (a.Tiles.take i) λy hy=>h3 y (uV hy)
  have ag:(a.Tiles.take i).length=i:=by simp;omega
  refine⟨by rw[s2];omega,⟨by omega,by omega⟩,by rw[Xb,s2];omega,by rw[Xb,Xb,s2,s3];omega,?_⟩;obtain⟨S,hS⟩: ∃S,S=mR x.At++⟨#[58]⟩++Gl x.Tile++⟨#[59]⟩:=⟨_,rfl⟩;have ac:S.size<=100:=by rw[hS,Xb,Xb,Xb,s2,s3];omega
  have aa:S.data.toList=Jj x:=by
   rw[hS,Q];simp[Jj,Gl]
  have G:DE (a.Tiles.take (i+1))=DE (a.Tiles.take i)++S.data.toList:=by
   rw[HX hx,aa];simp[DE]
  have Z:IntKind.i64.wrap ((i:Int)+1)=((i+1:Nat):Int):=by rw[AB (by omega) (by omega)];omega
  rw[<-hS];have hE:(if i=0 then AV.im D.nilp else AV.ptr 1 0)=(Dn (decide (i≠0))).ren (λj=>j+1):=by
   by_cases c:i=0
   .subst c;rfl
   .rw[Ad c]
    have:decide (i≠0)=true:=by simpa using c
    rw[this];rfl
  rw[hE];obtain⟨u,hu⟩: ∃u,u=decide (i≠0):=⟨_,rfl⟩;rw[<-hu];cases u with
  |false=>
   refine AE.os ((false,DE (a.Tiles.take i)),S) [1,2] ⟨by simp only;omega,by simp only;omega⟩ (λj=>Q9 _ j) rfl rfl ?_ ?_
   .simp only[ZA,simprocAttr,Eb,wsC.ca,wsC.H0,Cv,Dn,Cz,D4]
    try exact⟨rfl,rfl⟩
   simp only[ZA,simprocAttr,Eb,wsC.H1,wsC.r0,xK,Dn,Cz,D4];refine⟨⟨i+1,by omega⟩,[(2,some 4)],by simp only;omega,?_⟩;simp only[Ak,G];simp only[ZA,simprocAttr,AL];simp only[Z]
  |true=>
   refine AE.os ((true,DE (a.Tiles.take i)),S) [1,2] ⟨by simp only;omega,by simp only;omega⟩ (λj=>Q9 _ j) rfl rfl ?_ ?_
   .simp only[ZA,simprocAttr,Eb,wsC.ca,wsC.H0,Cv,Dn,Cz,D4]
    try exact⟨rfl,rfl⟩
   simp only[ZA,simprocAttr,Eb,wsC.H1,wsC.r0,xK,Dn,Cz,D4];refine⟨⟨i+1,by omega⟩,[(2,some 4)],by simp only;omega,?_⟩;simp only[Ak,G];simp only[ZA,simprocAttr,AL];simp only[Z]
 .obtain rfl:i=a.Tiles.length:=by omega
  rw[Ad (by omega),El];have ab:DE a.Tiles≠[]:=by
   obtain⟨x,hx⟩: ∃x,a.Tiles[0]? =some x:=⟨_,Bd (by omega)⟩;cases hl:a.Tiles with
   |nil=>rw[hl] at h1;simp at h1
   |cons x r=>
    intro e
    have:=BY List.length e
    simp[DE,Jj] at this
  refine AE.os (true,DE a.Tiles) [1,2] ab (λj=>Q9 _ j) rfl rfl ?_ ?_
  .simp only[ZA,simprocAttr,Eb,ccC.ca,Cv,Dn,Cz,D4]
   try exact⟨rfl,rfl⟩
  simp only[ZA,simprocAttr,D.sc,D.scs,Bt,bsC.r0,fV]
  try rfl
def Xw(s:Am)(b:Ab)(c:AW):Prop:=c.Sys=s/\(∃n,RM c.Tl b n)/\Nd s (Cl c.Tl) c.Op/\Fy s.Set b/\b.Tiles.length<=500/\BG s.Set/\1<=s.Temperature/\s.Set.Tiles.length<=160
def Xw.put{s:Am}{b:Ab}{c:AW}(h:Xw s b c){o:Ba}(G:Db s b o=true)(hl:b.Tiles.length<500):Xw s (Br b o.At o.Tile) (putT c o.At o.Tile):=by
 obtain⟨rfl,⟨n,z⟩,O,Z,h5,h1,hT,Q⟩:=h;obtain⟨f1,f2⟩:=Y0 z Z G;obtain⟨z1,z2,z3,z4,z5,z6⟩:=oC G;exact⟨rfl,⟨_,z.put f2 f1⟩,iI O z3,gA Q Z G,by rw[TG];omega,h1,hT,Q⟩
def Wv{s:Am}{a:Ab}(c1:Dw s=true)(O:FM s.Set a=true):newC.pre (s,a)/\Xw s a (Gd s a):=by
 obtain⟨⟨q1,q2,q3,_⟩,q5,_⟩:=Im c1;obtain⟨z,h4⟩:=Ix O;have G:=Qof (s:=s.Set) (a:=a) (by rw[q5,O];rfl);have Q:1<=s.Temperature:=by
  simp only[Dw,Bf,AO,Bo] at c1;exact c1.2.2.2.1.1
 exact⟨⟨q1,by simp only;omega,λy Z=>⟨z.2 y Z,G.1.2.2.2 y Z⟩⟩,rfl,⟨_,RM.of z.1 λx hx=>(z.2 x hx).1⟩,iH Q,z,h4,q1,Q,q3⟩
def Wu{s:A8}(hs:Eu s=true){a:Ab}(h:FM s a=true)(O:1<=a.Tiles.length):1<=a.Tiles.length/\a.Tiles.length<=1000/\ ∀x∈a.Tiles,Dl x.At=true/\0<=x.Tile/\x.Tile<=1000:=by
 have hl:=Qws hs;have Z:=(Ix h).2;refine⟨O,by omega,λx G=> ?_⟩;have z:=h;simp only[FM,AO,Bo,DV] at z;have Q:=z.2 x G;simp only[Bf,AO,Bo] at Q;exact⟨(Zs _ _ z.1.1 x G).1,by omega,by omega⟩
def fZ{s:Am}{a:Ab}{o:Ba}(h:Db s a o=true):Dl o.At=true/\Bq a o.At<0:=by
 simp only[Db,AO,Bo] at h;refine⟨h.1,?_⟩;have z:=zK h.2.2.1;have G:a.Tiles.find? (λx=>decide (x.At=o.At))=none:=Re.2 λx O=>by simpa using z x O
 simp only[Bq,G,Zft,Zet];decide
def Sp{most:Int}{W:List Ab}{a:Ab}:Bv most (W++[a])=(Bv most W||(decide (most<(W.length:Int)+1)||decide (500<=a.Tiles.length))):=by
 simp only[Bv,List.any_append,ZfD,List.any_nil,JT,BQ,Cr,F3];by_cases z:most<(W.length:Int)
 .rw[JS z,JS (show most<((W.length+1:Nat):Int) by omega)];simp
 .rw[KO z];by_cases G:most<(W.length:Int)+1
  .rw[JS G,JS (show most<((W.length+(0+1):Nat):Int) by omega)];simp
  .rw[KO G,KO (show ¬most<((W.length+(0+1):Nat):Int) by omega)];simp
def Bh(s:Am)(most:Int)(W:List Ab)(o:Nat):Ag:= .cells 207 [.im (.sl false 2 (s.Set.Glues.map Av.c)),.im (.sl false 2 (s.Set.Tiles.map Tile.c)),.im (.sl false 3 (s.Seed.Tiles.map Aj.c)),.im (.int .i64 s.Temperature),.im (.int .i64 most),.own o,.mp 2,.im (.bool (Bv most W))]
def AY(W:List Ab):Ag:= .arr 41 1 (W.map Ab.c)
def AZ(W:List Ab):Ag:= .map ⟨false,[.str]⟩ (JJ (W.map GY))
def adC.ca(a:(Am×Int×List Ab)×Ab):List AV:=[.ptr 0 0,.im (.agg (Ab.c a.2))]
def adC.H0(a:(Am×Int×List Ab)×Ab):Ar:=[(0,(true,Bh a.1.1 a.1.2.1 a.1.2.2 1)),(1,(true,AY a.1.2.2)),(2,(true,AZ a.1.2.2))]
def adC.H1(a:(Am×Int×List Ab)×Ab):Ar:=[(0,(true,Bh a.1.1 a.1.2.1 (CH a.1.2.2 a.2) 3)),(3,(true,AY (CH a.1.2.2 a.2))),(2,(true,AZ (CH a.1.2.2 a.2)))]
def adC.pre(a:(Am×Int×List Ab)×Ab):Prop:=(1<=a.2.Tiles.length/\a.2.Tiles.length<=1000/\ ∀x∈a.2.Tiles,Dl x.At=true/\0<=x.Tile/\x.Tile<=1000)/\a.1.2.2.length<=1000000
def adC.row:Ax:=AE adC.ca adC.H0 3 adC.pre (λ_=>true) (λ_=> .im (.tup [])) adC.H1 1000
def QZ:=J @key_.q @key_.fv.eq_1
def adC.ok:AA 145 adC.row:=by
 refine Hd (tC key_.ok tN) Tryz.func145 (exB:=λj=>j==3) (R:=λ_ r=>r= .im (.tup [])) (λ_=>rfl)
  (λa=>by simp[adC.ca,adC.H0,adC.H1,Bh,AY,AZ,Ab.c,AN,AV.bel,AD,Cg,Cx,Ag.nms,A9,AV.nms,An,hget]) (λa p hp=> ?_) (λa r h=>by subst h;exact DK.refl _) ?_
 rotate_left
 intro a Q;simp only[Tryz.f145,Option.getD,adC.ca,adC.H0,adC.H1,Bh,AY,AZ,Ab.c];simp(disch:=omega)only[ZZ,simprocAttr,rch,QZ,AG,AC,adC.ca,adC.H0,adC.H1,Bh,AY,AZ,Ab.c];rotate_left
 .simp only[adC.H1,Bx,Ri,NR] at hp;rcases hp with rfl|rfl|rfl
  .exact .inl ⟨by omega,rfl,rfl⟩
  .exact .inr ⟨by omega,by omega,rfl,rfl⟩
  .exact .inl ⟨by omega,rfl,rfl⟩
 obtain⟨⟨s,most,W⟩,x⟩:=a;obtain⟨h1,h2⟩:=Q;simp only at h1 h2⊢;refine⟨h1,?_⟩;rw[Qum];have z:GY x∈W.map GY↔x∈W:=by
  simp only[BI];exact⟨λ⟨q,g1,g2⟩=>by rw[<-SI g2];exact g1,λg=>⟨x,g,rfl⟩⟩
 refine⟨λc=> ?_,λc=> ?_⟩
 .have e:CH W x=W:=by simp only[CH];rw[Ai (z.1 c)]
  simp(disch:=omega)only[ZZ,simprocAttr,rch,QZ,AG,AC,adC.ca,adC.H0,adC.H1,Bh,AY,AZ,Ab.c,sub,e];refine⟨[],[(3,some 1)],⟨[],[(0,(true,Bh s most W 3)),(3,(true,AY W)),(2,(true,AZ W))],4⟩,?_,by simp[ZG,Bh,AY,AZ],by simp,?_⟩
  .simp only[Ak,Bh,AY,AZ];simp(disch:=omega)only[ZZ,simprocAttr,rch,QZ,AG,AC,adC.ca,adC.H0,adC.H1,Bh,AY,AZ,Ab.c,AL,Bk]
  .simp(disch:=omega)only[ZZ,simprocAttr,rch,QZ,AG,AC,adC.ca,adC.H0,adC.H1,Bh,AY,AZ,Ab.c,adC.H1,Bh,AY,AZ,e]
 .have e:CH W x=W++[x]:=by simp only[CH];rw[Ad (λg=>c (z.2 g))]
  have aa:(List.map Ab.c W++[[D.sl false 3 (List.map Aj.c x.Tiles)]])=List.map Ab.c (W++[x]):=by rw[Ei];rfl
  have Z:W.map GY++[GY x]=(W++[x]).map GY:=by rw[Ei];rfl
  simp(disch:=omega)only[ZZ,simprocAttr,rch,QZ,AG,AC,adC.ca,adC.H0,adC.H1,Bh,AY,AZ,Ab.c,sub,tJ _ _ c,e];rw[aa,Z];have O:(((W++[x]).map Ab.c).length:Int)=(W.length:Int)+1:=by simp
  have G:=Sp (most:=most) (W:=W) (a:=x);refine⟨by omega,?_⟩;rw[O,AM];refine⟨λg1=> ?_,λg1=> ?_⟩
  .rw[AM];refine⟨λg2=> ?_,λg2=> ?_⟩
   .have hf:Bv most (W++[x])=decide (500<=(x.Tiles.length:Int)):=by
     rw[G,g1,KO g2];simp only[vC];exact Zfg.2 (by omega)
    rw[<-hf];refine⟨[],[(3,some 5)],⟨[],[(0,(true,Bh s most (W++[x]) 3)),(3,(true,AY (W++[x]))),(2,(true,AZ (W++[x])))],4⟩,?_,by simp[ZG,Bh,AY,AZ],by simp,?_⟩
    .simp only[Ak,Bh,AY,AZ];simp(disch:=omega)only[ZZ,simprocAttr,rch,QZ,AG,AC,adC.ca,adC.H0,adC.H1,Bh,AY,AZ,Ab.c,AL,Bk]
    .simp(disch:=omega)only[ZZ,simprocAttr,rch,QZ,AG,AC,adC.ca,adC.H0,adC.H1,Bh,AY,AZ,Ab.c,adC.H1,Bh,AY,AZ,e]
   .have hf:Bv most (W++[x])=true:=by
     rw[G,JS (Decidable.not_not.1 g2)];simp
    refine⟨[],[(3,some 5)],⟨[],[(0,(true,Bh s most (W++[x]) 3)),(3,(true,AY (W++[x]))),(2,(true,AZ (W++[x])))],4⟩,?_,by simp[ZG,Bh,AY,AZ],by simp,?_⟩
    .simp only[Ak,Bh,AY,AZ,hf];simp(disch:=omega)only[ZZ,simprocAttr,rch,QZ,AG,AC,adC.ca,adC.H0,adC.H1,Bh,AY,AZ,Ab.c,AL,Bk]
    .simp(disch:=omega)only[ZZ,simprocAttr,rch,QZ,AG,AC,adC.ca,adC.H0,adC.H1,Bh,AY,AZ,Ab.c,adC.H1,Bh,AY,AZ,e]
  .have hf:Bv most (W++[x])=true:=by
    rw[I1] at g1;rw[G,g1];simp
   refine⟨[],[(3,some 5)],⟨[],[(0,(true,Bh s most (W++[x]) 3)),(3,(true,AY (W++[x]))),(2,(true,AZ (W++[x])))],4⟩,?_,by simp[ZG,Bh,AY,AZ],by simp,?_⟩
   .simp only[Ak,Bh,AY,AZ,hf];simp(disch:=omega)only[ZZ,simprocAttr,rch,QZ,AG,AC,adC.ca,adC.H0,adC.H1,Bh,AY,AZ,Ab.c,AL,Bk]
   .simp(disch:=omega)only[ZZ,simprocAttr,rch,QZ,AG,AC,adC.ca,adC.H0,adC.H1,Bh,AY,AZ,Ab.c,adC.H1,Bh,AY,AZ,e]
def adC.dom(a:(Am×Int×List Ab)×Ab)(j:Nat):An (adC.H0 a) j=true↔j<3:=by
 simp only[An,adC.H0,hget];by_cases h0:j=0
 .subst h0;simp
 by_cases z:j=1
 .subst z;simp
 by_cases G:j=2
 .subst G;simp
 have O:(0==j)=false:=by simpa using λh=>h0 h.symm
 have Q:(1==j)=false:=by simpa using λh=>z h.symm
 have Z:(2==j)=false:=by simpa using λh=>G h.symm
 simp[O,Q,Z];omega
def addL(W:List Ab)(l:List Ab):List Ab:=l.foldl CH W
def cT(W l:List Ab)(x:Ab):addL W (l++[x])=CH (addL W l) x:=by simp[addL]
def Rm(W l m:List Ab):addL W (l++m)=addL (addL W l) m:=by simp[addL,uJ]
structure Gw(s:Am)(f:Nat)(W:List Ab):Prop where
 nd:W.Nodup
 rch: ∀a∈W,F6 s f a
 gd: ∀a∈W,good s a
 sd:s.Seed∈W
def Gw.add{s:Am}{f:Nat}{W:List Ab}(h:Gw s f W){x:Ab}(O:F6 s f x)(G:good s x):Gw s f (CH W x):=
 ⟨Xf h.nd,λa z=>(Wt.1 z).elim (h.rch a) λe=>by rw[e];exact O,λa z=>(Wt.1 z).elim (h.gd a) λe=>by rw[e];exact G,Wt.2 (.inl h.sd)⟩
def Gw.addL{s:Am}{f:Nat}: ∀{l W:List Ab},Gw s f W->(∀x∈l,F6 s f x/\good s x)->Gw s f (addL W l)
 |[],_,h,_=>h
 |x::r,W,h,g=>Gw.addL (l:=r) (h.add (g x (Cb ..)).1 (g x (Cb ..)).2) λy z=>g y (BZ _ z)
def Gw.succ{s:Am}{f:Nat}{W:List Ab}(h:Gw s f W):Gw s (f+1) W:=⟨h.nd,λa z=>(h.rch a z).succ,h.gd,h.sd⟩
def N4{x:Ab}: ∀{l W:List Ab},x∈addL W l↔x∈W\/x∈l
 |[],W=>by simp[addL]
 |y::r,W=>by
  have:=N4 (x:=x) (l:=r) (W:=CH W y)
  simp only[addL,NQ] at this⊢;rw[this,Wt,Bx,or_assoc]
def N6{i:Nat}{x:Ab}: ∀{l W:List Ab},W[i]? =some x->(addL W l)[i]? =some x
 |[],_,h=>h
 |y::r,W,h=>by
  simp only[addL,NQ];exact N6 (l:=r) (Rk h)
def N5: ∀(l W:List Ab),W.length<=(addL W l).length/\(addL W l).length<=W.length+l.length
 |[],W=>by simp[addL]
 |y::r,W=>by
  have z:=N5 r (CH W y);have G:=Rl W y;simp only[addL,NQ,Cr] at z⊢;omega
def O0{most:Int}{W V:List Ab}(h:Bv most W=true)(hs: ∀a∈W,a∈V)(G:W.length<=V.length):Bv most V=true:=by
 simp only[Bv,HY,Bo,uK] at h⊢;rcases h with h|⟨a,z,h⟩
 .exact .inl (by omega)
 .exact .inr ⟨a,hs a z,h⟩
section
variable (s:Am)(most:Int)
def C4:Nat->Nat->List Ab->List Ab
 |0,_,W=>W
 |n+1,i,W=>if Bv most W=true then W else match W[i]? with
  |none=>W
  |some a=>C4 n (i+1) (addL W (DH s a))
def bE(a:Ab):List Ab:=(Zd (Gd s a)).map λo=>Br a o.At o.Tile
def Jm(e:Nat):Nat->Nat->List Ab->List Ab
 |0,_,W=>W
 |n+1,i,W=>if Bv most W=true\/e<=i then W else match W[i]? with
  |none=>W
  |some a=>Jm e n (i+1) (addL W (bE s a))
end
def Ws{s:Am}{most:Int}{i:Nat}{W:List Ab}(h: ¬(i<W.length/\Bv most W=false)): ∀n,C4 s most n i W=W
 |0=>rfl
 |n+1=>by
  rw[C4];split
  .rfl
  .rename_i c;rw[Fz (by
    have: ¬i<W.length:=λg=>h ⟨g,by simpa using c⟩
    omega)]
def Li{s:Am}{most:Int}{n i:Nat}{W:List Ab}{a:Ab}(h:Bv most W=false)(z:W[i]? =some a):C4 s most (n+1) i W=C4 s most n (i+1) (addL W (DH s a)):=by
 rw[C4,Ad (by rw[h];decide),z]
def Wl{s:Am}{most:Int}{e i:Nat}{W:List Ab}(z:e<=W.length)(h: ¬(i<e/\Bv most W=false)): ∀n,Jm s most e n i W=W
 |0=>rfl
 |n+1=>by
  rw[Jm];split
  .rfl
  .rename_i c;exact absurd ⟨by omega,by cases g:Bv most W with|false=>rfl|true=>exact absurd (.inl g) c⟩ h
def Vb{s:Am}{most:Int}{e n i:Nat}{W:List Ab}{a:Ab}(h:Bv most W=false)(G:i<e)(z:W[i]? =some a):Jm s most e (n+1) i W=Jm s most e n (i+1) (addL W (bE s a)):=by
 rw[Jm,Ad (λg=>g.elim (λg=>by rw[h] at g;cases g) λg=>by omega),z]
structure CG(W V:List Ab):Prop where
 get: ∀(i:Nat) (a:Ab),W[i]? =some a->V[i]? =some a
 len:W.length<=V.length
def CG.mem{W V:List Ab}(h:CG W V){a:Ab}(z:a∈W):a∈V:=by
 obtain⟨i,G⟩:=GV.1 z;exact AP (h.get i a G)
def CG.refl(W:List Ab):CG W W:=⟨λ_ _ h=>h,AF _⟩
def CG.trans{U V W:List Ab}(h:CG U V)(g:CG V W):CG U W:=⟨λi a z=>g.get i a (h.get i a z),BR h.len g.len⟩
def CG.addL(W l:List Ab):CG W (addL W l):=⟨λ_ _ h=>N6 h,(N5 l W).1⟩
def cY{s:Am}{most:Int}(hs:Dw s=true){f:Nat}: ∀(n i:Nat) (W:List Ab),most.toNat+1<=n+i->Gw s f W->(∀j a,j<i->W[j]? =some a-> ∀b∈DH s a,b∈W)->
 Gw s f (C4 s most n i W)/\CG W (C4 s most n i W)/\(Bv most (C4 s most n i W)=true\/ ∀a∈C4 s most n i W,∀b∈DH s a,b∈C4 s most n i W)
 |0,i,W,hn,h,Z=>by
  refine⟨h,CG.refl W,?_⟩;simp only[C4];cases hf:Bv most W with
  |true=>exact .inl rfl
  |false=>
   refine .inr λa z=> ?_
   obtain⟨j,O⟩:=GV.1 z
   have:=(GG hf).1
   have:=(BJ.1 O).1
   exact Z j a (by omega) O
 |n+1,i,W,hn,h,Z=>by
  cases hf:Bv most W with
  |true=>rw[Ws (λg=>by rw[hf] at g;cases g.2)];exact⟨h,CG.refl W,.inl hf⟩
  |false=>
   cases z:W[i]? with
   |none=>
    have hl:W.length<=i:=ZeW.1 z;rw[Ws (λg=>by omega)];refine⟨h,CG.refl W,.inr λa hm=> ?_⟩;obtain⟨j,O⟩:=GV.1 hm
    have:=(BJ.1 O).1
    exact Z j a (by omega) O
   |some a=>
    rw[Li hf z];have G:=AP z;have hl:=(GG hf).2 a G;have h2:=h.addL (l:=DH s a) λx hx=>⟨.next (h.rch a G) hx,Wn hs (h.gd a G) hl hx⟩
    obtain⟨g1,g2,g3⟩:=cY (most:=most) hs n (i+1) (Go.Ae.addL W (DH s a)) (by omega) h2 λj b O hb c Q=>by
     by_cases e:j=i
     .subst e;obtain rfl:a=b:=Aw ((N6 z).symm.trans hb);exact N4.2 (.inr Q)
     .have aa:j<W.length:=by have:=(BJ.1 z).1;omega
      obtain⟨b',hb'⟩: ∃b',W[j]? =some b':=⟨_,Bd aa⟩;obtain rfl:b'=b:=Aw ((N6 hb').symm.trans hb);exact N4.2 (.inl (Z j b' (by omega) hb' c Q))
    exact⟨g1,(CG.addL W _).trans g2,g3⟩
def pW{s:Am}{most:Int}(hs:Dw s=true){f e:Nat}: ∀(n i:Nat) (W:List Ab),e<=n+i->e<=W.length->Gw s (f+1) W->(∀j a,j<e->W[j]? =some a->F6 s f a)->(∀j a,j<i->W[j]? =some a-> ∀o,Es s a o=true->Br a o.At o.Tile∈W)->
 Gw s (f+1) (Jm s most e n i W)/\CG W (Jm s most e n i W)/\(Bv most (Jm s most e n i W)=true\/ ∀j a,j<e->(Jm s most e n i W)[j]? =some a-> ∀o,Es s a o=true->Br a o.At o.Tile∈Jm s most e n i W)
 |0,i,W,hn,he,h,hr,hc=>by
  refine⟨h,CG.refl W,?_⟩;simp only[Jm];exact .inr λj a O=>hc j a (by omega)
 |n+1,i,W,hn,he,h,hr,hc=>by
  cases hf:Bv most W with
  |true=>rw[Wl he (λg=>by rw[hf] at g;cases g.2)];exact⟨h,CG.refl W,.inl hf⟩
  |false=>
   by_cases hi:i<e
   case neg=>
    rw[Wl he (λg=>hi g.1)];exact⟨h,CG.refl W,.inr λj a O=>hc j a (by omega)⟩
   obtain⟨a,ha⟩: ∃a,W[i]? =some a:=⟨_,Bd (by omega)⟩;rw[Vb hf hi ha];have Q:=AP ha;have hg:=h.gd a Q;have hl:=(GG hf).2 a Q;have aa: ∀o,o∈Zd (Gd s a)↔Es s a o=true:=λo=>MX (Ix hg.ok).1
   have h2:=h.addL (l:=bE s a) λx hx=>by
    obtain⟨o,G,rfl⟩:=BI.1 hx;have G:=(aa o).1 G;exact⟨.weak (hr i a hi ha) G,Wo hs hg hl G⟩
   have Z: ∀j b,j<e->(Go.Ae.addL W (bE s a))[j]? =some b->W[j]? =some b:=λj b O z=>by
    obtain⟨b',hb'⟩: ∃b',W[j]? =some b':=⟨_,Bd (by omega)⟩;obtain rfl:b'=b:=Aw ((N6 hb').symm.trans z);exact hb'
   obtain⟨g1,g2,g3⟩:=pW (most:=most) hs n (i+1) (Go.Ae.addL W (bE s a)) (by omega) (by have:=(N5 (bE s a) W).1;omega) h2 (λj b O z=>hr j b O (Z j b O z)) λj b O z o G=>by
    have z:=Z j b (by omega) z;by_cases e:j=i
    .subst e;obtain rfl:a=b:=Aw (ha.symm.trans z);exact N4.2 (.inr (BI.2 ⟨o,(aa o).2 G,rfl⟩))
    .exact N4.2 (.inl (hc j b (by omega) z o G))
   exact⟨g1,(CG.addL W _).trans g2,g3⟩
def HH(x:List Ac):List D:=[.sl false 2 (x.map Ac.c)]
def YN:List D->Option (List Ac)
 |[.sl _ _ rows]=>AQ Ac.d rows
 |_=>none
def MF: ∀ds x,YN ds=some x->CM ds (HH x):=by
 intro ds x h;unfold YN at h;split at h
 .exact⟨E4 (Et Ac.d_le _ _ h) (by simp[Ac.c]),trivial⟩
 .cases h
def MI(x:List Ac):YN (List.take 1 (HH x))=some x:=Ac.d_R x
def MH(x:List Ac):(1<=(HH x).length)=True:=ZS (AF 1)
def MG(x:List Ac):gM (List.take 1 (HH x))= .sl false 2 (x.map Ac.c):=rfl
def Ff(l:List Ac)(x:Aj):Bool:=l.contains x.At
def Eh(l:List Ac)(ts:List Aj):List Aj:=ts.filter λx=> !Ff l x
def Yx(l:List Ac)(ts:List Aj):(Eh l ts).length<=ts.length:=fC _ _
def pG(l:List Ac){ts:List Aj}{k:Nat}{x:Aj}(h:ts[k]? =some x):Eh l (ts.take (k+1))=Eh l (ts.take k)++if Ff l x=false then [x] else []:=by
 rw[G9,h,WZ,Eh,Eh,fM];congr 1;cases hg:Ff l x<;>simp[hg]
def pH{A:Type}{p:A->Bool}: ∀(l:List A) (o i:Nat),B0 p o l=((o+i:Nat):Int)-> ∀x∈l.take i,p x=false:=by
 intro l;induction l with
 |nil=>intro o i _ x z;simp at z
 |cons y r ih=>
  intro o i h x z;cases i with
  |zero=>simp at z
  |succ i=>
   simp only[B0] at h;split at h
   .omega
   .rename_i G;rw[JO] at z;rcases Bx.1 z with rfl|z
    .simpa using G
    .exact ih (o+1) i (by rw[h];congr 1;omega) x z
def OU{l:List Ac}{ts:List Aj}{i:Nat}{x:Aj}(z:ts.find? (Ff l)=some x)(G:B0 (Ff l) 0 ts=(i:Int))(O:ts[i]? =some x):Eh l (ts.take (i+1))=ts.take i:=by
 have Q:Ff l x=true:=V8 z;rw[pG l O,Ad (by rw[Q];simp),CC,Eh,V9];intro y Z;rw[pH (p:=Ff l) ts 0 i (by rw[G];simp) y Z];rfl
def TC{p q:Ac}:(p.X=q.X/\p.Y=q.Y)↔p=q:=by
 obtain⟨a,b⟩:=p;obtain⟨c,d⟩:=q;simp
def idxP_.fv(a:(List Ac)×Ac):Int:=(λl p=>B0 (λy=>decide (p=y)) 0 l) (a.1) (a.2)
def idxP_.row:Ax:=Fv (b2 (qS Ac.d_le Ac.c_n) (qR Ac.d_le)) rI (λa=>True) idxP_.fv
def idxP_.q:=CR (R:=idxP_.row) rfl
def idxP_.ok:AA 267 idxP_.row:=by
 refine HJ tN Tryz.func267 ?_;intro a O;simp only[Tryz.f267,Option.getD];simp only[ZZ,simprocAttr,rch,idxP_.fv,Eb,D.sc,D.scs,Fc,Bt];intro hn;refine AR.old ⟨{k:Nat//k<=a.1.length/\B0 (λy=>decide (a.2=y)) k (a.1.drop k)=B0 (λy=>decide (a.2=y)) 0 a.1},λk=>⟨[(8,.im (.int .i64 k.1)),(7,.im (.int .i64 a.1.length)),(4,.im (.int .i64 0)),(0,.im (.sl false 2 (a.1.map Ac.c))),(1,.im (.agg [.int .i64 a.2.X,.int .i64 a.2.Y])),(3,.ptr 0 0)],[(0,(true,.cells 70 [.im (.int .i64 a.2.X),.im (.int .i64 a.2.Y)]))],1⟩,λk=>a.1.length - k.1,λk=>⟨by simp[ZG],AF _⟩,⟨⟨0,by simp⟩,by simp only[ZZ,simprocAttr,rch,idxP_.fv,Eb,D.sc,D.scs,Fc,Bt,sub]⟩,λk=> ?_⟩;obtain⟨k,Q,z⟩:=k;simp only[ZZ,simprocAttr,rch,idxP_.fv,Eb,D.sc,D.scs,Fc,Bt,sub,AM];refine⟨λG=>⟨G,λx Z=> ?_⟩,λG=> ?_⟩
 .rw[E5 Z,B0] at z;refine⟨λh=> ?_,λh=>GH G hn ⟨by omega,by rw[<-z,Ad (by rw[Bo,<-TC];simpa using h)]⟩⟩;rw[Ai (by rw[Bo,<-TC];simpa using h)] at z;exact z
 .rw[CO (by omega),B0] at z;exact z
def contP_.fv(a:(List Ac)×Ac):Bool:=(λl p=>l.contains p) (a.1) (a.2)
def contP_.row:Ax:=Fv (b2 (qS Ac.d_le Ac.c_n) (qR Ac.d_le)) rB (λa=>True) contP_.fv
def contP_.q:=CR (R:=contP_.row) rfl
def contP_.ok:AA 231 contP_.row:=by
 refine HJ (tC idxP_.ok tN) Tryz.func231 ?_;intro a G;simp only[Tryz.f231,Option.getD];simp only[ZZ,simprocAttr,rch,contP_.fv,idxP_.q,idxP_.fv,Eb,D.sc,D.scs,Fc,Bt];rw[V6,Bo,G6];rcases Qyg (λy=>decide (a.2=y)) a.1 0 with ⟨h,_⟩|⟨O,Q⟩
 .rw[h,uK];constructor
  .rintro⟨x,z,Z⟩
   have:a.2=x:=by simpa using Z
   rw[this];exact z
  .exact λz=>⟨_,z,by simp⟩
 .rw[Q,O];simp
def wo1.fv(a:Aj×(List Ac)):Bool:=(λx l=>Ff l x) (a.1) (a.2)
def wo1.row:Ax:=Fv (b2 (qR Aj.d_le) (qP 1 MF)) rB (λa=>True) wo1.fv
def wo1.q:=CR (R:=wo1.row) rfl
def wo1.ok:AA 230 wo1.row:=by
 refine HJ (tC contP_.ok tN) Tryz.func230 ?_;intro a z;simp only[Tryz.f230,Option.getD];simp only[ZZ,simprocAttr,rch,wo1.fv,contP_.q,contP_.fv,Eb,D.sc,D.scs,Fc,Bt];simp only[ZZ,simprocAttr,rch,wo1.fv,contP_.q,contP_.fv,Eb,D.sc,D.scs,Fc,Bt,MI,MH,MG]
 try rfl
def IdxW.ar:List PK->Option ((List Aj)×((List Ac)))
 |[.val (.sl _ _ O),.val (.fn 230 [] [.ref z])]=>(AQ Aj.d O).bind λQ=>(YN (z.take 1)).bind λG=>some (Q,G)
 |_=>none
def IdxW.ae(a:(List Aj)×((List Ac))):List PK:=[.val (.sl false 3 (a.1.map Aj.c)),.val (.fn 230 [] [.ref (HH a.2)])]
def IdxW.le: ∀G a,IdxW.ar G=some a->BM G (IdxW.ae a):=by
 intro G a h;unfold IdxW.ar at h;split at h
 .simp only[EP,AI] at h;obtain⟨Q,h0,O,z,rfl⟩:=h;exact⟨E4 (Et Aj.d_le _ _ h0) (by simp only[BI];rintro r ⟨y,_,rfl⟩;rfl),WM ⟨Vo (GD.trans_take (MF _ _ z)),trivial⟩,trivial⟩
 .cases h
def IdxW.fv(a:(List Aj)×((List Ac))):Int:=(λl t=>B0 (Ff t) 0 l) (a.1) (a.2)
def IdxW.row:Ax:=KE IdxW.ar (λa=>True) (λa=>(D.int .i64) (IdxW.fv a))
def IdxW.q:=mS IdxW.row rfl
def IdxW.ok:AA 204 IdxW.row:=by
 refine jJ CS (tC wo1.ok tN) Tryz.func204 rfl (by kernel_rfl) (by kernel_rfl) (ar:=IdxW.ar) (ae:=IdxW.ae) IdxW.le (n:=2) (λ_=>rfl) (by decide) (rc:=(DJ)) (re:=(D.int .i64)) (Nf) (f:=IdxW.fv) ?_;intro a O;simp only[Tryz.f204,Option.getD];simp only[ZZ,simprocAttr,rch,IdxW.ae,IdxW.fv,wo1.q,wo1.fv,Eb,D.sc,D.scs,Fc,Bt];intro hn;refine AR.old ⟨{k:Nat//k<=a.1.length/\B0 (Ff a.2) k (a.1.drop k)=B0 (Ff a.2) 0 a.1},λk=>⟨[(8,.im (.int .i64 k.1)),(7,.im (.int .i64 a.1.length)),(6,.im (.sl false 3 (a.1.map Aj.c))),(4,.im (.int .i64 0)),(0,.im (.sl false 3 (a.1.map Aj.c))),(1,.im (.fn 230 [] [.ref (HH a.2)]))],[],0⟩,λk=>a.1.length - k.1,λk=>⟨by simp[ZG],AF _⟩,⟨⟨0,by simp⟩,by simp only[ZZ,simprocAttr,rch,IdxW.ae,IdxW.fv,wo1.q,wo1.fv,Eb,D.sc,D.scs,Fc,Bt,sub]⟩,λk=> ?_⟩;obtain⟨k,Q,z⟩:=k;simp only[ZZ,simprocAttr,rch,IdxW.ae,IdxW.fv,wo1.q,wo1.fv,Eb,D.sc,D.scs,Fc,Bt,sub,AM,MI,MH,MG];refine⟨λG=>⟨G,λx Z=> ?_⟩,λG=> ?_⟩
 .rw[E5 Z,B0] at z;refine⟨λh=> ?_,λh=>GH G hn ⟨by omega,by rw[<-z,Ad (by simpa using h)]⟩⟩;rw[Ai (by simpa using h)] at z;exact z
 .rw[CO (by omega),B0] at z;exact z
def dlP.ca(a:List Aj×List Ac):List AV:=[.own 0,.im (.fn 230 [] [.ref (HH a.2)])]
def dlP.H0(a:List Aj×List Ac):Ar:=[(0,(true,.arr 119 3 (a.1.map Aj.c)))]
def dlP.H1(a:List Aj×List Ac):Ar:=[(1,(true,.arr 119 3 ((Eh a.2 a.1).map Aj.c)))]
def dlP.row:Ax:=AE dlP.ca dlP.H0 1 (λa=>a.1.length<=1000000) (λj=>j==0) (λ_=> .own 1) dlP.H1 1000
def Vz:=J @IdxW.q<|J @IdxW.fv.eq_1<|J @wo1.q @wo1.fv.eq_1
def dlP.ok:AA 229 dlP.row:=by
 refine Hd (tC IdxW.ok (tC wo1.ok tN)) Tryz.func229 (exB:=λj=>j==1) (R:=λ_ r=>r= .own 1) (λ_=>rfl)
  (λa=>by simp[dlP.ca,dlP.H0,dlP.H1,AN,AV.bel,AD,Cg,Cx,Ag.nms,A9,AV.nms,An,hget]) (λa p hp=> ?_) (λa r h=>by subst h;exact DK.refl _) ?_
 rotate_left
 intro a Z;simp only[Tryz.f229,Option.getD,dlP.ca,dlP.H0,dlP.H1];simp only[ZZ,simprocAttr,rch,Vz,IdxW.ar,AG,AC,dlP.ca,dlP.H0,dlP.H1];simp only[ZZ,simprocAttr,rch,Vz,IdxW.ar,AG,AC,dlP.ca,dlP.H0,dlP.H1,MI,MH,MG];rcases Vk (Ff a.2) a.1 0 with ⟨e1,Q⟩|⟨i0,b0,e1,Q,e3⟩
 .rw[Q,Ai rfl];refine⟨[],[(1,some 0)],⟨[(4,.own 1)],[(1,(true,.arr 119 3 (a.1.map Aj.c)))],2⟩,?_,by simp[ZG],by simp,?_⟩
  .simp only[Ak];simp only[ZZ,simprocAttr,rch,Vz,IdxW.ar,AG,AC,dlP.ca,dlP.H0,dlP.H1,AL,Bk]
  .simp only[ZZ,simprocAttr,rch,Vz,IdxW.ar,AG,AC,dlP.ca,dlP.H0,dlP.H1]
   have:Eh a.2 a.1=a.1:=by
    rw[Eh,V9];intro b hb
    have:=Re.1 e1 b hb
    simpa using this
   rw[this]
 .rw[Fj] at Q;rw[Q,Ad (by omega)];have aa:=(BJ.1 e3).1;rw[AB (by omega) (by omega)];obtain⟨l,hl⟩: ∃l,l=a.1:=⟨_,rfl⟩;obtain⟨t,ht⟩: ∃t,t=a.2:=⟨_,rfl⟩;simp only[<-hl,<-ht] at e1 Q e3 aa Z⊢;refine AR.old ⟨{j:Nat//j<=l.length},λj=>⟨[(6,.im (.int .i64 j.1)),(5,.im (.int .i64 (Eh t (l.take j.1)).length)),(0,.own 0),(1,.im (.fn 230 [] [.ref (HH t)]))],[(0,(true,.arr 119 3 ((Eh t (l.take j.1)++l.drop (Eh t (l.take j.1)).length).map Aj.c)))],2⟩,λj=>l.length - j.1,λj=>⟨by simp[ZG],by simp⟩,⟨⟨i0+1,by omega⟩,?_⟩,λj=> ?_⟩
  .have h1:=OU e1 Q e3;simp only[ZZ,simprocAttr,rch,Vz,IdxW.ar,AG,AC,dlP.ca,dlP.H0,dlP.H1,sub,h1,Bw];rw[show min i0 l.length=i0 by omega,HZ];exact⟨⟨by omega,rfl⟩,rfl⟩
  obtain⟨j,hj⟩:=j;obtain⟨kp,hkp⟩: ∃kp,kp=Eh t (l.take j):=⟨_,rfl⟩;have ac:kp.length<=j:=by
   have:=Yx t (l.take j)
   rw[Bw] at this;rw[hkp];omega
  have O:(kp++l.drop kp.length).length=l.length:=by simp;omega
  simp only[<-hkp];simp only[ZZ,simprocAttr,rch,Vz,IdxW.ar,AG,AC,dlP.ca,dlP.H0,dlP.H1,sub,AM,O,MI,MH,MG];intro _;refine⟨λG=>⟨G,G,λb hb=> ?_⟩,λG=> ?_⟩
  .have ad:l[j]? =some b:=by
    rw[E7 ac,Ez,show kp.length+(j - kp.length)=j by omega] at hb;exact hb
   have z:=pG t ad;rw[<-hkp] at z;refine⟨λhw=>⟨by omega,by omega,λc _=>⟨⟨j+1,by omega⟩,by simp only;omega,?_⟩⟩,λhw=>⟨⟨j+1,by omega⟩,by simp only;omega,?_⟩⟩
   .rw[Ai hw] at z;simp only[z,BQ,Cr,F3];refine⟨⟨by rw[AB (by omega) (by omega)];omega,by rw[AB (by omega) (by omega)];omega⟩,?_⟩;have h1:(kp++l.drop kp.length).set kp.length b=kp++[b]++l.drop (kp.length+1):=by
     obtain⟨c,hc⟩: ∃c,l[kp.length]? =some c:=⟨_,Bd (by omega)⟩;rw[E5 hc,fD _ _ (AF _),G5,ZL,E0];rfl
    rw[<-h1,KN];rfl
   .rw[Ad hw,CC] at z;simp only[z];exact⟨⟨by rw[AB (by omega) (by omega)];omega,trivial⟩,trivial⟩
  .refine⟨by omega,false,?_⟩;have ab:j=l.length:=by omega
   subst ab;rw[El] at hkp;simp only[ZZ,simprocAttr,rch,Vz,IdxW.ar,AG,AC,dlP.ca,dlP.H0,dlP.H1,O];have hA:List.take kp.length ((kp++l.drop kp.length).map Aj.c)=kp.map Aj.c:=by
    rw[<-vD,ZR]
   rw[hA];refine⟨by simp only[BQ,EJ];omega,true,?_⟩;simp only[ZZ,simprocAttr,rch,Vz,IdxW.ar,AG,AC,dlP.ca,dlP.H0,dlP.H1,O];refine⟨[],[(1,some 2)],⟨[(4,.own 1)],[(1,(true,.arr 119 3 (kp.map Aj.c)))],2⟩,?_,by simp[ZG],by simp,?_⟩
   .simp only[Ak];simp only[ZZ,simprocAttr,rch,Vz,IdxW.ar,AG,AC,dlP.ca,dlP.H0,dlP.H1,AL,Bk];rw[show ((kp.length:Int) - 0).toNat=(kp.map Aj.c).length by simp,E0,ZR]
   .simp only[ZZ,simprocAttr,rch,Vz,IdxW.ar,AG,AC,dlP.ca,dlP.H0,dlP.H1,hkp]
 simp[dlP.H1] at hp;subst hp;exact .inr ⟨by omega,by omega,rfl,rfl⟩
def dlP.H0_dom(a:List Aj×List Ac)(j:Nat):An (dlP.H0 a) j=true↔j<1:=by
 simp only[An,dlP.H0,hget];by_cases h0:j=0
 .subst h0;simp
 .have z:(0==j)=false:=by simp;omega
  simp[z];omega
def woA.fv(a:Ab×(List Ac)):Ab:=(λa l=>⟨Eh l a.Tiles⟩) (a.1) (a.2)
def woA.row:Ax:=Fv (b2 (qR Ab.d_le) (qS Ac.d_le Ac.c_n)) (rA Ab.d_le) (λa=>a.1.Tiles.length<=1000000) woA.fv
def woA.q:=CR (R:=woA.row) rfl
def woA.ok:AA 191 woA.row:=by
 refine HJ (tC clonC.ok (tC dlP.ok tN)) Tryz.func191 ?_;intro a z;simp only[Tryz.f191,Option.getD];simp only[ZZ,simprocAttr,rch,woA.fv,Eb,D.sc,D.scs,Fc,Bt];refine AE.os a.1.Tiles [] z (λj=>by simp[An,hget]) rfl rfl ?_ ?_
 .simp only[ZZ,simprocAttr,rch,woA.fv,Eb,D.sc,D.scs,Fc,Bt,clonC.ca,CV]
 simp only[ZZ,simprocAttr,rch,woA.fv,Eb,D.sc,D.scs,Fc,Bt,clonC.H1,sub];left;refine AE.os (a.1.Tiles,a.2) [3] z (λj=>dlP.H0_dom _ j) rfl rfl ?_ ?_
 .simp only[ZZ,simprocAttr,rch,woA.fv,Eb,D.sc,D.scs,Fc,Bt,dlP.ca,dlP.H0,HH,BF,Cz]
 simp only[ZZ,simprocAttr,rch,woA.fv,Eb,D.sc,D.scs,Fc,Bt,dlP.H1,sub]
def cloC.ca(a:(Am×Int×List Ab)×Nat):List AV:=[.ptr 0 0,.im (.int .i64 a.2)]
def cloC.H0(a:(Am×Int×List Ab)×Nat):Ar:=[(0,(true,Bh a.1.1 a.1.2.1 a.1.2.2 1)),(1,(true,AY a.1.2.2)),(2,(true,AZ a.1.2.2))]
def JY(a:(Am×Int×List Ab)×Nat):List Ab:=C4 a.1.1 a.1.2.1 (1000 - a.2) a.2 a.1.2.2
def cloC.H1(a:(Am×Int×List Ab)×Nat):Ar:=[(0,(true,Bh a.1.1 a.1.2.1 (JY a) 3)),(3,(true,AY (JY a))),(2,(true,AZ (JY a)))]
def cloC.pre(a:(Am×Int×List Ab)×Nat):Prop:=Dw a.1.1=true/\(∀x∈a.1.2.2,good a.1.1 x)/\a.1.2.1<=400/\a.2<=a.1.2.2.length/\a.2<=500/\a.1.2.2.length<=900000
def cloC.row:Ax:=AE cloC.ca cloC.H0 3 cloC.pre (λ_=>true) (λ_=> .im (.tup [])) cloC.H1 2000
def G3:=J @wth_.q<|J @wth_.fv.eq_1<|J @looI_.q<|J @looI_.fv.eq_1<|J @woA.q @woA.fv.eq_1
def cloC.ok:AA 147 cloC.row:=by
 refine Hd (tC newC.ok (tC lisC.ok (tC wth_.ok (tC adC.ok (tC looI_.ok (tC woA.ok tN)))))) Tryz.func147 (exB:=λj=>j==3) (R:=λ_ r=>r= .im (.tup [])) (λ_=>rfl)
  (λa=>by simp[cloC.ca,cloC.H0,cloC.H1,Bh,AY,AZ,AN,AV.bel,AD,Cg,Cx,Ag.nms,A9,AV.nms,An,hget]) (λa p hp=> ?_) (λa r h=>by subst h;exact DK.refl _) ?_
 rotate_left
 intro a av;simp only[Tryz.f147,Option.getD,cloC.ca,cloC.H0,cloC.H1,Bh,AY,AZ];simp(disch:=omega)only[ZZ,simprocAttr,rch,G3,AG,AC,cloC.ca,cloC.H0,cloC.H1,Bh,AY,AZ];rotate_left
 .simp only[cloC.H1,Bx,Ri,NR] at hp;rcases hp with rfl|rfl|rfl
  .exact .inl ⟨by omega,rfl,rfl⟩
  .exact .inr ⟨by omega,by omega,rfl,rfl⟩
  .exact .inl ⟨by omega,rfl,rfl⟩
 obtain⟨⟨s,most,W0⟩,i0⟩:=a;obtain⟨h1,h2,h3,h4,h5,h6⟩:=av;simp only at h1 h2 h3 h4 h5 h6⊢;obtain⟨R,hR⟩: ∃R,R=JY ((s,most,W0),i0):=⟨_,rfl⟩;have aw:C4 s most (1000 - i0) i0 W0=R:=by rw[hR];rfl
 rw[<-hR];refine AR.ren ⟨{q:Nat×List Ab//q.1<=q.2.length/\q.1<=500/\(∀x∈q.2,good s x)/\C4 s most (1000 - q.1) q.1 q.2=R/\q.2.length<=900000},λq=>⟨[(4,.im (.int .i64 q.1.1)),(0,.ptr 0 0)],[(0,(true,Bh s most q.1.2 3)),(3,(true,AY q.1.2)),(2,(true,AZ q.1.2))],4⟩,λq=>1000 - q.1.1,λq=>⟨by simp[ZG,Bh,AY,AZ],by simp⟩,⟨⟨(i0,W0),h4,h5,h2,aw,h6⟩,[(3,some 1)],?_⟩,λq=> ?_⟩
 .simp only[Ak,Bh,AY,AZ];simp(disch:=omega)only[ZZ,simprocAttr,rch,G3,AG,AC,cloC.ca,cloC.H0,cloC.H1,Bh,AY,AZ,AL,Bk]
 obtain⟨⟨i,W⟩,q1,q2,q3,q4,q5⟩:=q;simp only at q1 q2 q3 q4 q5;simp only[Bh,AY,AZ];simp(disch:=omega)only[ZZ,simprocAttr,rch,G3,AG,AC,cloC.ca,cloC.H0,cloC.H1,Bh,AY,AZ,sub,AM];intro _;refine⟨λc1=>⟨λc2=>⟨c1,c1,λa ha=> ?_⟩,λc2=> ?_⟩,λc1=> ?_⟩;rotate_left
 .rw[Ws (λg=>c2 g.2)] at q4;refine⟨[],[(3,some 3)],⟨[],[(0,(true,Bh s most R 3)),(3,(true,AY R)),(2,(true,AZ R))],4⟩,?_,by simp[ZG,Bh,AY,AZ],by simp,?_⟩
  .simp only[Ak,Bh,AY,AZ,<-q4];simp(disch:=omega)only[ZZ,simprocAttr,rch,G3,AG,AC,cloC.ca,cloC.H0,cloC.H1,Bh,AY,AZ,AL,Bk]
  .simp(disch:=omega)only[ZZ,simprocAttr,rch,G3,AG,AC,cloC.ca,cloC.H0,cloC.H1,Bh,AY,AZ,cloC.H1,Bh,AY,AZ,<-hR]
 .rw[Ws (λg=>c1 g.1)] at q4;refine⟨[],[(3,some 3)],⟨[],[(0,(true,Bh s most R 3)),(3,(true,AY R)),(2,(true,AZ R))],4⟩,?_,by simp[ZG,Bh,AY,AZ],by simp,?_⟩
  .simp only[Ak,Bh,AY,AZ,<-q4];simp(disch:=omega)only[ZZ,simprocAttr,rch,G3,AG,AC,cloC.ca,cloC.H0,cloC.H1,Bh,AY,AZ,AL,Bk]
  .simp(disch:=omega)only[ZZ,simprocAttr,rch,G3,AG,AC,cloC.ca,cloC.H0,cloC.H1,Bh,AY,AZ,cloC.H1,Bh,AY,AZ,<-hR]
 have aj:=AP ha;have Z:=q3 a aj;have G:=Ix Z.ok;obtain⟨bh,aa⟩:=GG c2;have aa:=aa a aj;obtain⟨ba,ay⟩:=Wv h1 Z.ok;rw[show 1000 - i=(999 - i)+1 by omega,Li c2 ha] at q4;refine AE.os (s,a) [] ba (λj=>by simp[An,hget]) rfl rfl ?_ ?_
 .simp(disch:=omega)only[ZZ,simprocAttr,rch,G3,AG,AC,cloC.ca,cloC.H0,cloC.H1,Bh,AY,AZ,newC.ca,CV,Am.c,Ab.c]
 simp(disch:=omega)only[ZZ,simprocAttr,rch,G3,AG,AC,cloC.ca,cloC.H0,cloC.H1,Bh,AY,AZ,newC.H1,sub];obtain⟨hcs,⟨_,be⟩,bc,hb,ax,bf,hT,ai⟩:=ay;have ac:=bc;rw[be.at] at ac;obtain⟨l1,l2,l3⟩:=Tz hT ax ai ac;refine AE.os (Gd s a) [9,7,8] l2 (λj=>bP _ j) rfl rfl ?_ ?_
 .simp(disch:=omega)only[ZZ,simprocAttr,rch,G3,AG,AC,cloC.ca,cloC.H0,cloC.H1,Bh,AY,AZ,asmC.ca,DR,D7,BF,Cz,D4,hcs]
 simp(disch:=omega)only[ZZ,simprocAttr,rch,G3,AG,AC,cloC.ca,cloC.H0,cloC.H1,Bh,AY,AZ,sub,lisC.r0,l1];have bb:=cD s G.2 ai;have au: ∀p∈CY s a,Db s a p=true:=λp hp=>cM G.1 hp
 obtain⟨os,hos⟩: ∃os,os=CY s a:=⟨_,rfl⟩;have af:DH s a=os.map (λo=>Br a o.At o.Tile)++(EE s a).map (Ep a):=by rw[hos];rfl
 rw[<-hos] at bb au⊢;have az: ∀p∈os,good s (Br a p.At p.Tile):=λp hp=>Wn h1 Z aa (by rw[af];exact Bp.2 (.inl (ZJ (f:=λo:Ba=>Br a o.At o.Tile) hp)))
 refine AR.ren ⟨{k:Nat//k<=os.length},λk=>⟨[(42,.im (.int .i64 k.1)),(41,.im (.int .i64 os.length)),(40,.im (.sl false 3 (os.map Ba.c))),(5,.ptr 4 0),(4,.im (.int .i64 i)),(0,.ptr 0 0)],[(4,(true,.cells 41 [.im (.sl false 3 (a.Tiles.map Aj.c))])),(0,(true,Bh s most (addL W ((os.take k.1).map λo=>Br a o.At o.Tile)) 30)),(30,(true,AY (addL W ((os.take k.1).map λo=>Br a o.At o.Tile)))),(2,(true,AZ (addL W ((os.take k.1).map λo=>Br a o.At o.Tile))))],31⟩,λk=>os.length - k.1,λk=>⟨by simp[ZG,Bh,AY,AZ],by simp⟩,⟨⟨0,BP _⟩,[(30,some 3)],?_⟩,λk=> ?_⟩
 .simp only[Ak,Bh,AY,AZ,GS,Cs,addL,Rd];simp(disch:=omega)only[ZZ,simprocAttr,rch,G3,AG,AC,cloC.ca,cloC.H0,cloC.H1,Bh,AY,AZ,AL,Bk]
 obtain⟨k,hk⟩:=k;obtain⟨W1,hW1⟩: ∃W1,W1=addL W ((os.take k).map λo=>Br a o.At o.Tile):=⟨_,rfl⟩;have an:=N5 ((os.take k).map λo=>Br a o.At o.Tile) W;rw[<-hW1] at an;simp only[EJ,Bw] at an;simp only[<-hW1];simp only[Bh,AY,AZ];simp(disch:=omega)only[ZZ,simprocAttr,rch,G3,AG,AC,cloC.ca,cloC.H0,cloC.H1,Bh,AY,AZ,sub,AM];refine⟨λc3=>⟨c3,λp hp=> ?_⟩,λc3=> ?_⟩
 .have am:=fZ (au p (AP hp));have Q:=az p (AP hp);obtain⟨x,O⟩: ∃x,x=Br a p.At p.Tile:=⟨_,rfl⟩;rw[<-O] at Q;have ah:CJ p.At p.Tile a.Tiles=x.Tiles:=by rw[O,WE]
  rw[ah];refine⟨⟨G.1.1,am.1,am.2,G.2⟩,?_⟩;refine AE.os ((s,most,W1),x) [0,30,2] ⟨Wu (J8 h1) Q.ok (Q.one h1),by simp only;omega⟩ (adC.dom _) rfl rfl ?_ ?_
  .simp(disch:=omega)only[ZZ,simprocAttr,rch,G3,AG,AC,cloC.ca,cloC.H0,cloC.H1,Bh,AY,AZ,adC.ca,adC.H0,Bh,AY,AZ,CV,Cz,D4]
   try exact⟨rfl,rfl⟩
  simp(disch:=omega)only[ZZ,simprocAttr,rch,G3,AG,AC,cloC.ca,cloC.H0,cloC.H1,Bh,AY,AZ,adC.H1,Bh,AY,AZ,sub,Da,Cz,D4];have ad:IntKind.i64.wrap ((k:Int)+1)=((k+1:Nat):Int):=by rw[AB (by omega) (by omega)];rfl
  have ag:addL W ((os.take (k+1)).map λo=>Br a o.At o.Tile)=CH W1 x:=by
   rw[HX hp,Ei,Bb,Cs,cT,hW1,O]
  refine⟨⟨k+1,by omega⟩,[(30,some 32)],by simp only;omega,?_⟩;simp only[Ak];simp(disch:=omega)only[ZZ,simprocAttr,rch,G3,AG,AC,cloC.ca,cloC.H0,cloC.H1,Bh,AY,AZ,AL,Bk,ad,ag]
 obtain rfl:k=os.length:=by omega
 rw[El] at hW1;clear hk c3;have aq: ∀j∈EE s a,good s (Ep a j):=λj hj=>qH h1 Z hj
 obtain⟨lo,hlo⟩: ∃lo,lo=EE s a:=⟨_,rfl⟩;have bg:lo.length<=500:=by have:=Wq s a a.Tiles.length;rw[hlo];have h9:=G.2;exact BR this h9
 have ak:=Im h1;rw[<-hlo] at af aq⊢;refine⟨⟨ak.1.1,G.1,ak.1.2.1.1,by have:=G.2;omega⟩,?_⟩;refine AR.ren ⟨{k:Nat//k<=lo.length},λk=>⟨[(62,.im (.int .i64 k.1)),(61,.im (.int .i64 lo.length)),(60,.im (.sl false 1 ((lo.map Int.ofNat).map Ao))),(5,.ptr 4 0),(4,.im (.int .i64 i)),(0,.ptr 0 0)],[(4,(true,.cells 41 [.im (.sl false 3 (a.Tiles.map Aj.c))])),(0,(true,Bh s most (addL W1 ((lo.take k.1).map (Ep a))) 31)),(31,(true,AY (addL W1 ((lo.take k.1).map (Ep a))))),(2,(true,AZ (addL W1 ((lo.take k.1).map (Ep a)))))],32⟩,λk=>lo.length - k.1,λk=>⟨by simp[ZG,Bh,AY,AZ],by simp⟩,⟨⟨0,BP _⟩,[(31,some 30)],?_⟩,λk=> ?_⟩
 .simp only[Ak,Bh,AY,AZ,GS,Cs,addL,Rd];simp(disch:=omega)only[ZZ,simprocAttr,rch,G3,AG,AC,cloC.ca,cloC.H0,cloC.H1,Bh,AY,AZ,AL,Bk]
 obtain⟨k,hk⟩:=k;obtain⟨W2,hW2⟩: ∃W2,W2=addL W1 ((lo.take k).map (Ep a)):=⟨_,rfl⟩;have ao:=N5 ((lo.take k).map (Ep a)) W1;rw[<-hW2] at ao;simp only[EJ,Bw] at ao;simp only[<-hW2];simp only[Bh,AY,AZ];simp(disch:=omega)only[ZZ,simprocAttr,rch,G3,AG,AC,cloC.ca,cloC.H0,cloC.H1,Bh,AY,AZ,sub,AM];refine⟨λc3=> ?_,λc3=> ?_⟩
 .refine⟨c3,λz hz=> ?_⟩;obtain⟨j,hj⟩: ∃j,lo[k]? =some j:=⟨_,Bd c3⟩;obtain rfl:Int.ofNat j=z:=by simpa[hj] using hz
  have a9:j∈EE s a:=by rw[<-hlo];exact AP hj
  obtain⟨y,hy,_⟩:=Kl a9;have a8:=(BJ.1 hy).1;have Q:=aq j (AP hj);refine⟨ZeQ j,ZfG.2 a8,λu hu=> ?_⟩;obtain rfl:y=u:=Aw (hy.symm.trans hu);obtain⟨x,O⟩: ∃x,x=Ep a j:=⟨_,rfl⟩;rw[<-O] at Q;have ah:Eh [y.At] a.Tiles=x.Tiles:=by
   rw[O];simp only[Ep];rw[dD (eJ G.1.1) hy,Eh];congr 1;funext v;simp only[Ff,ZK,ZO,JT];by_cases e:v.At=y.At
   .rw[e];simp
   .rw[KO e,H4.2 e]
  rw[ah];refine⟨by have:=G.2;omega,?_⟩;have bd: ∀g,HF g (some (true,Ag.arr 70 2 [[D.int .i64 y.At.X,D.int .i64 y.At.Y]]))=[]:=λ_=>rfl
  simp only[bd];refine AE.os ((s,most,W2),x) [0,31,2] ⟨Wu (J8 h1) Q.ok (Q.one h1),by simp only;omega⟩ (adC.dom _) rfl rfl ?_ ?_
  .simp(disch:=omega)only[ZZ,simprocAttr,rch,G3,AG,AC,cloC.ca,cloC.H0,cloC.H1,Bh,AY,AZ,adC.ca,adC.H0,Bh,AY,AZ,CV,Cz,D4]
   try exact⟨rfl,rfl⟩
  simp(disch:=omega)only[ZZ,simprocAttr,rch,G3,AG,AC,cloC.ca,cloC.H0,cloC.H1,Bh,AY,AZ,adC.H1,Bh,AY,AZ,sub,Da,Cz,D4];have ad:IntKind.i64.wrap ((k:Int)+1)=((k+1:Nat):Int):=by rw[AB (by omega) (by omega)];rfl
  have ag:addL W1 ((lo.take (k+1)).map (Ep a))=CH W2 x:=by
   rw[HX hj,Ei,Bb,Cs,cT,hW2,O]
  refine⟨⟨k+1,by omega⟩,[(31,some 33)],by simp only;omega,?_⟩;simp only[Ak];simp(disch:=omega)only[ZZ,simprocAttr,rch,G3,AG,AC,cloC.ca,cloC.H0,cloC.H1,Bh,AY,AZ,AL,Bk,ad,ag]
 obtain rfl:k=lo.length:=by omega
 rw[El] at hW2;have ab:addL W (DH s a)=W2:=by rw[af,Rm,<-hW1,<-hW2]
 rw[ab] at q4;have a0:IntKind.i64.wrap ((i:Int)+1)=((i+1:Nat):Int):=by rw[AB (by omega) (by omega)];rfl
 refine⟨⟨(i+1,W2),?_,?_,?_,?_,?_⟩,[(3,some 31)],by simp only;omega,?_⟩
 .simp only;omega
 .simp only;omega
 .intro x O;simp only at O;rw[<-ab] at O;rcases N4.1 O with O|O
  .exact q3 x O
  .exact Wn h1 Z aa O
 .simp only;rw[show 1000 - (i+1)=999 - i by omega];exact q4
 .simp only;omega
 .simp only[Ak,Bh,AY,AZ];simp(disch:=omega)only[ZZ,simprocAttr,rch,G3,AG,AC,cloC.ca,cloC.H0,cloC.H1,Bh,AY,AZ,AL,Bk,a0]
def Iq(p q:Aj):Int:=HQ [HQ [CD p.At.Y q.At.Y,CD p.At.X q.At.X],CD p.Tile q.Tile]
def E9:List Aj->List Aj->Int
 |[],[]=>0
 |[],_::_=> -1
 |_::_,[]=>1
 |x::l,y::m=>if Iq x y=0 then E9 l m else Iq x y
def JZ(a b:Ab):Int:=HQ [CD a.Tiles.length b.Tiles.length,E9 a.Tiles b.Tiles]
def R7(x y:Aj):Iq x y<0↔(if x.At≠y.At then Bj x.At y.At else decide (x.Tile<y.Tile))=true:=by
 obtain⟨⟨a,b⟩,c⟩:=x;obtain⟨⟨d,e⟩,f⟩:=y;simp only[Iq,HQ,CD,Bj,Ac.mk.injEq,ne_eq]
 grind
def R6(x y:Aj):Iq x y=0↔x.At=y.At/\x.Tile=y.Tile:=by
 obtain⟨⟨a,b⟩,c⟩:=x;obtain⟨⟨d,e⟩,f⟩:=y;simp only[Iq,HQ,CD,Ac.mk.injEq]
 grind
def Lk: ∀{l m:List Aj},l.length=m.length->(E9 l m<0↔FT l m=true)
 |[],[],_=>by simp[E9,FT]
 |x::l,y::m,h=>by
  simp only[E9,FT];have O:=R6 x y;by_cases h0:Iq x y=0
  .obtain⟨z,G⟩:=O.1 h0;rw[Ai h0,Ad (λn=>n z),Ad (λn=>n G)];exact Lk (by simpa using h)
  .rw[Ad h0,R7];by_cases z:x.At=y.At
   .have G:x.Tile≠y.Tile:=λG=>h0 (O.2 ⟨z,G⟩)
    rw[Ad (λn=>n z),Ad (λn=>n z),Ai G]
   .rw[Ai z,Ai z]
def Lj(m n:Nat):CD m n=0↔m=n:=by simp only[CD];grind
def Xt(m n:Nat):CD m n<0↔m<n:=by simp only[CD];grind
def Wk(a b:Ab):decide (JZ a b<0)=Bg a b:=by
 rw[V6,Bo];simp only[JZ,Bg,HQ];by_cases h:a.Tiles.length=b.Tiles.length
 .have e:(if E9 a.Tiles b.Tiles=0 then (0:Int) else E9 a.Tiles b.Tiles)=E9 a.Tiles b.Tiles:=by
   split
   .rename_i z;exact z.symm
   .rfl
  rw[Ai ((Lj _ _).2 h),e,Ad (λn=>n h),<-Lk h]
 .rw[Ad (λn=>h ((Lj _ _).1 n)),Ai h,Xt,Bo]
def isNaI.fv(a:Int):Bool:=false && a==0
def isNaI.row:Ax:=vK (b1 qI) rB (λa=>True) isNaI.fv
def isNaI.q:=AX (R:=isNaI.row) rfl
def isNaI.ok:AA 243 isNaI.row:=by
 refine vw tN Tryz.func243 ?_;intro a z;simp only[Tryz.f243,Option.getD];simp(disch:=omega)only[ZZ,simprocAttr,rch,isNaI.fv]
 try simp
def CompI.fv(a:Int×Int):Int:=(CD) (a.1) (a.2)
def CompI.row:Ax:=vK (b2 qI qI) rI (λa=>True) CompI.fv
def CompI.q:=AX (R:=CompI.row) rfl
def CompI.ok:AA 197 CompI.row:=by
 refine vw (tC isNaI.ok tN) Tryz.func197 ?_;intro a z;simp only[Tryz.f197,Option.getD];simp(disch:=omega)only[ZZ,simprocAttr,rch,CompI.fv,isNaI.q,isNaI.fv];simp only[CD];grind
def cmA1.fv(a:Aj×Aj):Int:=(Iq) (a.1) (a.2)
def cmA1.row:Ax:=vK (b2 (qR Aj.d_le) (qR Aj.d_le)) rI (λa=>True) cmA1.fv
def cmA1.q:=AX (R:=cmA1.row) rfl
def cmA1.ok:AA 199 cmA1.row:=by
 refine vw (tC comparePoints.ok (tC Compare.ok (tC Or.ok tN))) Tryz.func199 ?_;intro a z;simp only[Tryz.f199,Option.getD];simp(disch:=omega)only[ZZ,simprocAttr,rch,cmA1.fv,comparePoints.q,comparePoints.fv,Compare.q,Compare.fv,Or.q,Or.fv];rfl
def CmpFn.ar:List PK->Option ((List Aj)×(List Aj)×Unit)
 |[.val (.sl _ _ z),.val (.sl _ _ G),.val (.fn 199 [] [])]=>(AQ Aj.d z).bind λO=>(AQ Aj.d G).bind λQ=>some (O,Q,())
 |_=>none
def CmpFn.ae(a:(List Aj)×(List Aj)×Unit):List PK:=[.val (.sl false 3 (a.1.map Aj.c)),.val (.sl false 3 (a.2.1.map Aj.c)),.val (.fn 199 [] [])]
def CmpFn.le: ∀z a,CmpFn.ar z=some a->BM z (CmpFn.ae a):=by
 intro z a h;unfold CmpFn.ar at h;split at h
 .simp only[EP,AI] at h;obtain⟨O,h0,Q,G,rfl⟩:=h;exact⟨E4 (Et Aj.d_le _ _ h0) (by simp only[BI];rintro r ⟨y,_,rfl⟩;rfl),E4 (Et Aj.d_le _ _ G) (by simp only[BI];rintro r ⟨y,_,rfl⟩;rfl),C9.refl _,trivial⟩
 .cases h
def CmpFn.fv(a:(List Aj)×(List Aj)×Unit):Int:=(λa b _=>E9 a b) (a.1) (a.2.1) (a.2.2)
def CmpFn.row:Ax:=FH CmpFn.ar (λa=>True) (λa=>(D.int .i64) (CmpFn.fv a))
def CmpFn.q:=vq CmpFn.row rfl
def Yaj:=J @CmpFn.ae.eq_1<|J @CmpFn.fv.eq_1<|J @cmA1.q @cmA1.fv.eq_1
def CmpFn.ok:AA 198 CmpFn.row:=by
 refine bT CS (tC cmA1.ok tN) Tryz.func198 rfl (by kernel_rfl) (by kernel_rfl) (ar:=CmpFn.ar) (ae:=CmpFn.ae) CmpFn.le (n:=3) (λ_=>rfl) (by decide) (rc:=(DJ)) (re:=(D.int .i64)) (Nf) (f:=CmpFn.fv) ?_;intro a Q;simp only[Tryz.f198,Option.getD];simp(disch:=omega)only[ZZ,simprocAttr,rch,Yaj];intro h1;refine AR.old ⟨{k:Nat//k<=a.1.length/\k<=a.2.1.length/\E9 a.1 a.2.1=E9 (a.1.drop k) (a.2.1.drop k)},λk=>⟨[(13,.im (.int .i64 k.1)),(12,.im (.int .i64 a.1.length)),(11,.im (.sl false 3 (a.1.map Aj.c))),(6,.im (.int .i64 0)),(0,.im (.sl false 3 (a.1.map Aj.c))),(1,.im (.sl false 3 (a.2.1.map Aj.c))),(2,.im (.fn 199 [] []))],[],0⟩,λk=>a.1.length - k.1,λk=>⟨by simp[ZG],AF _⟩,⟨⟨0,by simp⟩,by simp(disch:=omega)only[ZZ,simprocAttr,rch,Yaj,sub]⟩,λk=> ?_⟩;obtain⟨k,aa,ab,z⟩:=k;simp(disch:=omega)only[ZZ,simprocAttr,rch,Yaj,sub,AM];refine⟨λG=>⟨G,λx Z hn=>⟨λO=> ?_,λO=>⟨by omega,λy hy=> ?_⟩⟩⟩,λG _ hn=> ?_⟩
 .rw[z,E5 Z,CO O,E9]
 .rw[E5 Z,E5 hy,E9] at z;refine⟨λh=>by rw[z,Ad h],λh=>GH G h1 ⟨by omega,by omega,?_⟩⟩;rw[z,Ai (G8.1 h)]
 .rw[CO (by omega)] at z;rw[z];refine⟨λh=> ?_,λh=> ?_⟩
  .rw[WY (show k<a.snd.fst.length by omega),E9]
  .rw[CO (by omega),E9]
def cmpA_.fv(a:Ab×Ab):Int:=(JZ) (a.1) (a.2)
def cmpA_.row:Ax:=vK (b2 (qR Ab.d_le) (qR Ab.d_le)) rI (λa=>True) cmpA_.fv
def cmpA_.q:=AX (R:=cmpA_.row) rfl
def cmpA_.ok:AA 150 cmpA_.row:=by
 refine vw (tC CompI.ok (tC CmpFn.ok (tC Or.ok tN))) Tryz.func150 ?_;intro a z;simp only[Tryz.f150,Option.getD];simp(disch:=omega)only[ZZ,simprocAttr,rch,cmpA_.fv,CompI.q,CompI.fv,CmpFn.q,CmpFn.ar,CmpFn.fv,Or.q,Or.fv];rfl
end Go.Ae
namespace Go.Proofs
open Go.Shelf
def Tryz.sortAs_ren:Go.Shelf.Ren:=⟨λ|6=>149|15=>196|14=>195|28=>241|29=>242|20=>233|21=>234|22=>235|23=>236|24=>237|25=>238|26=>239|27=>240|46=>270|47=>271|48=>272|49=>273|50=>274|57=>297|n=>n,λ|22=>49|24=>41|25=>212|3=>3|39=>238|0=>0|53=>302|55=>304|4=>4|46=>296|45=>295|50=>176|5=>5|9=>9|66=>332|70=>336|76=>361|77=>362|n=>n,λ|n=>n⟩
def Tryz.sortAs:Go.Proofs.SlLaysF0.n6 Tryz.prog Tryz.sortAs_ren:={
 mixed:=by kernel_rfl
 f6:=⟨Tryz.f149.name,by decide,Tryz.func149.trans (BY some (by kernel_rfl))⟩
 f14:=⟨Tryz.f195.name,by decide,Tryz.func195.trans (BY some (by kernel_rfl))⟩
 f15:=Tryz.func196.trans (BY some (by kernel_rfl))
 f20:=⟨Tryz.f233.name,by decide,Tryz.func233.trans (BY some (by kernel_rfl))⟩
 f21:=⟨Tryz.f234.name,by decide,Tryz.func234.trans (BY some (by kernel_rfl))⟩
 f22:=⟨Tryz.f235.name,by decide,Tryz.func235.trans (BY some (by kernel_rfl))⟩
 f23:=⟨Tryz.f236.name,by decide,Tryz.func236.trans (BY some (by kernel_rfl))⟩
 f24:=⟨Tryz.f237.name,by decide,Tryz.func237.trans (BY some (by kernel_rfl))⟩
 f25:=⟨Tryz.f238.name,by decide,Tryz.func238.trans (BY some (by kernel_rfl))⟩
 f26:=⟨Tryz.f239.name,by decide,Tryz.func239.trans (BY some (by kernel_rfl))⟩
 f27:=⟨Tryz.f240.name,by decide,Tryz.func240.trans (BY some (by kernel_rfl))⟩
 f28:=Tryz.func241.trans (BY some (by kernel_rfl))
 f29:=Tryz.func242.trans (BY some (by kernel_rfl))
 f46:=⟨Tryz.f270.name,by decide,Tryz.func270.trans (BY some (by kernel_rfl))⟩
 f47:=Tryz.func271.trans (BY some (by kernel_rfl))
 f48:=Tryz.func272.trans (BY some (by kernel_rfl))
 f49:=⟨Tryz.f273.name,by decide,Tryz.func273.trans (BY some (by kernel_rfl))⟩
 f50:=⟨Tryz.f274.name,by decide,Tryz.func274.trans (BY some (by kernel_rfl))⟩
 f57:=⟨Tryz.f297.name,by decide,Tryz.func297.trans (BY some (by kernel_rfl))⟩
 t0:=Tryz.underlying0
 a0:=Tryz.isAgg0
 z0:=Tryz.sizeOf0
 v0:=Tryz.zeroValue0
 t3:=Tryz.underlying3
 a3:=Tryz.isAgg3
 z3:=Tryz.sizeOf3
 v3:=Tryz.zeroValue3
 t4:=Tryz.underlying4
 a4:=Tryz.isAgg4
 z4:=Tryz.sizeOf4
 v4:=Tryz.zeroValue4
 t5:=Tryz.underlying5
 a5:=Tryz.isAgg5
 z5:=Tryz.sizeOf5
 v5:=Tryz.zeroValue5
 t9:=Tryz.underlying9
 a9:=Tryz.isAgg9
 z9:=Tryz.sizeOf9
 v9:=Tryz.zeroValue9
 t22:=Tryz.underlying49
 a22:=Tryz.isAgg49
 z22:=Tryz.sizeOf49
 v22:=Tryz.zeroValue49
 t25:=Tryz.underlying212
 a25:=Tryz.isAgg212
 z25:=Tryz.sizeOf212
 v25:=Tryz.zeroValue212
 t39:=Tryz.underlying238
 a39:=Tryz.isAgg238
 z39:=Tryz.sizeOf238
 v39:=Tryz.zeroValue238
 t45:=Tryz.underlying295
 a45:=Tryz.isAgg295
 z45:=Tryz.sizeOf295
 v45:=Tryz.zeroValue295
 t46:=Tryz.underlying296
 a46:=Tryz.isAgg296
 z46:=Tryz.sizeOf296
 v46:=Tryz.zeroValue296
 t50:=Tryz.underlying176
 a50:=Tryz.isAgg176
 z50:=Tryz.sizeOf176
 v50:=Tryz.zeroValue176
 t53:=Tryz.underlying302
 a53:=Tryz.isAgg302
 z53:=Tryz.sizeOf302
 v53:=Tryz.zeroValue302
 t55:=Tryz.underlying304
 a55:=Tryz.isAgg304
 z55:=Tryz.sizeOf304
 v55:=Tryz.zeroValue304
 t66:=Tryz.underlying332
 a66:=Tryz.isAgg332
 z66:=Tryz.sizeOf332
 v66:=Tryz.zeroValue332
 t70:=Tryz.underlying336
 a70:=Tryz.isAgg336
 z70:=Tryz.sizeOf336
 v70:=Tryz.zeroValue336
 t76:=Tryz.underlying361
 a76:=Tryz.isAgg361
 z76:=Tryz.sizeOf361
 v76:=Tryz.zeroValue361
 t77:=Tryz.underlying362
 a77:=Tryz.isAgg362
 z77:=Tryz.sizeOf362
 v77:=Tryz.zeroValue362}
end Go.Proofs
namespace Go.Ae
open Go.Proofs Go.Sort Go.Shelf
def Qavs{w w':World}(Z:w'.os=w.os)(h2:w'.tape=w.tape)(h3:w'.output=w.output)(hd:w.drawn<=w'.drawn)(hs:w.heap.size<=w'.heap.size)(hk: ∀b,b<w.heap.size->w'.heap[b]? =w.heap[b]?):
 ∃q z,w'=Sort.grow (w.drewN q) z:=by
 refine⟨w'.drawn - w.drawn,w'.heap.extract w.heap.size w'.heap.size,?_⟩;have e:w'.heap=w.heap++w'.heap.extract w.heap.size w'.heap.size:=by
  apply uG;intro i;rw[mA];split
  .rename_i G;exact hk i G
  .rename_i G;rw[Array.getElem?_extract];by_cases h:i<w'.heap.size
   .rw[Ai (by omega),show w.heap.size+(i - w.heap.size)=i by omega]
   .rw[Ad (by omega),Rb (by omega)]
 have Q:w'.drawn=w.drawn+(w'.drawn - w.drawn):=by omega
 obtain⟨hp,tp,dr,o,ou⟩:=w';obtain⟨aa,ac,O,o0,ab⟩:=w;simp only at*;subst Z h2 h3;simp only[Sort.grow,World.drewN,World.mk.injEq,KR,vE];exact⟨e,Q⟩
def Pb{P:Program}{g:FuncId}{row:Ax}(ab:Ga P g row){args:List AV}{r:AV}(Z:row args (λ_=>none) 0 (λr' _=>r'=r)){w:World}{ok:Nat->Prop}
 (Q: ∀b,ok b->b<w.heap.size)(aa:GP ok (λb=>w.heap[b]?)){vs:Array Value}(G:AJ ⟨λ_=>none,ok,λ_=>none,w⟩ args vs.toList):
 Calls P g vs w λe w'=> ∃v S',e= .returned v/\Aa S' r v/\ ∃q ac,w'=Sort.grow (w.drewN q) ac:=by
 obtain⟨_,r',E,hc,rfl⟩:=ab _ _ _ _ Z;refine hc (AT.mk0 w (λ_=>False) ok) ⟨λ_=>none,ok,λ_=>none,w⟩ vs _ ?_ (λ_ _=>rfl) (λ_ _=>rfl) (λn e h=>by cases h) G ?_
 .exact⟨rfl,rfl,rfl,AF _,AF _,λ_ _ _=>rfl,λ_ h=>h,λ_ h=> .inl h,Q,λo e O=>(by cases O),λo e l O=>(by cases O),λo o' e e' l l' O=>(by cases O),aa.mono λb _ hb ho=>⟨⟨hb,λh=>h⟩,ho⟩⟩
 .intro v S' z _ _ hv;exact⟨v,S',rfl,hv,Qavs z.os z.tape z.output z.dr z.size (λb hb=>z.keep b hb (λh=>h))⟩
def Xs(x y:Ab):cmpA_.row [.im (.agg (Ab.c x)),.im (.agg (Ab.c y))] (λ_=>none) 0 (λr' _=>r'= .im (.int .i64 (JZ x y))):=by
 simp(disch:=omega)only[ZZ,simprocAttr,rch,cmpA_.q,cmpA_.fv]
def qF{a b c:Ab}(z:Bg b a=false)(G:Bg c b=false):Bg c a=false:=by
 cases h:Bg c a with
 |false=>rfl
 |true=>
  cases g:Bg b c with
  |false=>rw[Wr g G,h] at z;cases z
  |true=>rw[J7 g h] at z;cases z
def C6(l:List Ab):List Ab:=l.mergeSort λa b=> !Bg b a
def QC(l:List Ab):(C6 l).Perm l:=List.mergeSort_perm ..
def qL:C6 []=[]:=by simp[C6]
def dC(l:List Ab):(C6 l).length=l.length:=(QC l).length_eq
def NZ{a b:Ab}(h:Bg a b=true):Bg b a=false:=by
 cases g:Bg b a with
 |false=>rfl
 |true=>have:=J7 h g;rw[QD] at this;cases this
def qK(l:List Ab):(C6 l).Pairwise (λa b=>Bg b a=false):=by
 have h:(C6 l).Pairwise (λa b=>(!Bg b a)=true):=by
  refine Zfd (λa b c z G=> ?_) (λa b=> ?_) l
  .simp only[JP] at*;exact qF z G
  .cases h:Bg b a with
   |false=>rfl
   |true=>rw[NZ h];rfl
 exact h.imp λ{a b} h=>by simpa using h
def OJ{l l':List Ab}(hp:l'.Perm l)(hs:l'.Pairwise (λa b=>Bg b a=false)):l'=C6 l:=by
 refine uP (le:=λa b=>Bg b a=false) (λa b _ _ g1 g2=>Wr g2 g1) hs (qK l) (hp.trans (QC l).symm)
def Yp{l:List Ab}(hd:l.Nodup):Ek (C6 l):=by
 have hn:(C6 l).Nodup:=(QC l).nodup_iff.2 hd;refine uI (λ{a b} h=> ?_) (Zfq.2 ⟨qK l,hn⟩);cases g:Bg a b with
 |true=>rfl
 |false=>exact absurd (Wr g h.1) h.2
def swoA(f:Nat->Ab):SWO (ltOf λx y=>JZ (f x) (f y)) where
 irrefl x:=by simp only[ltOf,Wk,QD]
 trans x y z h1 h2:=by simp only[ltOf,Wk] at*;exact J7 h1 h2
 ntrans x y z h1 h2:=by simp only[ltOf,Wk] at*;exact qF h2 h1
def pU{ok:Nat->Prop}{hp:Nat->Option Obj}: ∀{l:List Ab} {L:List Value},(∀(i:Nat) (a:Ab),l[i]? =some a-> ∃v,L[i]? =some v/\rd ok hp (.sl false 3 (a.Tiles.map Aj.c)) v)->rdr ok hp 1 (l.map Ab.c) L
 |[],_,_=>trivial
 |a::l,L,h=>by
  simp only[Bb,rdr];obtain⟨v,z,O⟩:=h 0 a rfl;cases L with
  |nil=>simp at z
  |cons x L=>
   obtain rfl:x=v:=by simpa using z
   refine⟨rfl,by simp only[Ab.c,rdp];exact⟨_,_,rfl,O,trivial⟩,pU λi b G=> ?_⟩
   have:=h (i+1) b (by simpa using G)
   simpa using this
def srtA.ca(_:List Ab):List AV:=[.own 0,.im (.fn 150 [] [])]
def srtA.H0(a:List Ab):Ar:=[(0,(true,.arr 41 1 (a.map Ab.c)))]
def srtA.H1(a:List Ab):Ar:=[(0,(true,.arr 41 1 ((C6 a).map Ab.c)))]
def srtA.row:Ax:=AE srtA.ca srtA.H0 1 (λ_=>True) (λ_=>true) (λ_=> .im (.tup [])) srtA.H1 0
def srtA.ok:AA 149 srtA.row:=by
 rintro cd h nx K ⟨a,τ,U,KL,ce,rfl,Q,hN,hK⟩;refine⟨KH (by kernel_rfl),_,_,?_,hK⟩;intro C S vs R hW bm bo bp ag bd;have a0:Di τ 1 nx 0=τ 0:=Ai (by omega);simp only[srtA.ca,AU,AV.ren,a0,AJ,Aa,rd,rdl] at ag;obtain⟨v0,r0,hv,⟨aj,au⟩,v1,r1,b8,⟨ac,cc,cb,av,aw⟩,b9⟩:=ag;have av:ac= #[]:=by apply I3;simpa using av
 have aw:cc= #[]:=by apply I3;simpa using aw
 subst av aw b9 b8 cb;have hvs:vs= #[v0,.func (VB 150) #[] #[]]:=by apply I3;simpa using hv
 subst hvs;have hm:h (τ 0)=some (true,.arr 41 1 (a.map Ab.c)):=by
  have:=Q.1
  rwa [a0] at this
 have bc:An (srtA.H0 a) 0=true:=rfl;have Z:S.h (τ 0)=some (true,.arr 41 1 (a.map Ab.c)):=by
  rw[bm (τ 0) (G7 _ (hN.u 0 bc)),hm]
 have bf: ∀n,n∈KL↔n=τ 0:=by
  intro n;constructor
  .intro hn;obtain⟨j,O,_,h3⟩:=hN.k1 n hn
   have:j=0:=by
    simp only[An,srtA.H0,hget] at O;by_cases hj:j=0
    .exact hj
    .have:(0==j)=false:=by simpa using λh=>hj h.symm
     rw[this] at O;cases O
   rw[h3,this]
  .rintro rfl;exact hN.k2 0 bc rfl
 obtain⟨m,hmm⟩: ∃m,m=τ 0:=⟨_,rfl⟩;rw[<-hmm] at Z au bf;have bl:=dC a;have fin: ∀(w':World),HW S m (.arr 41 1 ((C6 a).map Ab.c)) (S.ρ m) [m] w'->
  (B3 (λn=>S.h m≠none\/n≠m) S (S.one m (.arr 41 1 ((C6 a).map Ab.c)) (S.ρ m) [m] w')->Al (S.one m (.arr 41 1 ((C6 a).map Ab.c)) (S.ρ m) [m] w') (S.ρ m) (.arr 41 1 ((C6 a).map Ab.c)))->R (.returned (.tuple #[])) w':=by
  intro w' aj bz;have hp:=W6 hW aj;refine bd (.tuple #[]) _ (Z6 hW aj (bz hp)) ?_ ⟨hp.ok,λn _=>hp.nm n (.inl (by rw[Z];simp))⟩ ⟨#[],rfl,rfl⟩;funext n;simp only[Au.one,Bz.appf,srtA.H1,B1,a0,hget,Ag.ren,<-hmm];by_cases hn:n=m
  .subst hn;simp
  .have O:(m==n)=false:=by simpa using λh=>hn h.symm
   have h2:KL.contains n=false:=by
    rw[<-JQ,G6,bf];exact hn
   simp only[O,Ct,h2,hn,Cu,B4]
 have G:=au _ Z;have aa:=hW.obj _ _ Z;have bj:=λz=>hW.loc m _ z Z
 cases hρ:S.ρ m with
 |none=>
  rw[hρ] at G aa;simp only[Al] at aa;have ha:a=[]:=by simpa using aa.2
  subst ha;simp only at G;rw[G,WL (by decide)];refine (AnyF.slices_SortFunc_none Tryz.sortAs none 0 (.func (.func 150) #[] #[]) S.w).mono ?_;rintro e w' ⟨rfl,rfl⟩;refine fin S.w (bQ Z (λl hl=>by rw[hρ] at hl;cases hl) rfl (by rw[qL])) (λ_=> ?_);rw[hρ,qL];exact⟨BP _,rfl⟩
 |some z=>
  rw[hρ] at G aa;simp only[Al,Ag.len] at aa G;obtain⟨g1,g2,cv,g3,g4,g5⟩:=aa;obtain⟨ay,bh⟩:=bj z hρ;simp only[EJ] at g1 g2 G;have Q:S.w.heap[z.b]? =some (.cells cv 41 (0,0)):=g3;have bg:z.p+a.length<=cv.size:=by omega
  obtain⟨ab,hvals⟩: ∃ab:List Value,ab=(cv.toList.drop z.p).take a.length:=⟨_,rfl⟩;obtain⟨val,hval⟩: ∃val:Nat->Value,val=λi=>ab[i]?.getD (.slice none 0 0):=⟨_,rfl⟩
  obtain⟨at_,hat⟩: ∃at_:Nat->Ab,at_=λi=>a[i]?.getD ⟨[]⟩:=⟨_,rfl⟩
  have hvl:ab.length=a.length:=by rw[hvals,Bw,Ch,Dm];exact ZeG (Nat.le_sub_of_add_le (by rw[fN];exact bg))
  have bn: ∀i,i<a.length->cv[z.p+i]? =some (val i):=by
   intro i hi;have O:ab[i]? =cv[z.p+i]? :=by rw[hvals,uQ hi,Ez,GU]
   rw[hval];simp only;rw[O,GR (by omega)];rfl
  have an: ∀i,rd S.ok S.hp (.sl false 3 ((at_ i).Tiles.map Aj.c)) (val i):=by
   intro i;by_cases hi:i<a.length
   .have O:=bn i hi;obtain⟨_,h2⟩:=tX i _ _ (Ab.c a[i]) g5 (by rw[Ef,Bd hi];rfl);rw[Nat.mul_one,DX] at h2;simp only[Ab.c,rdp] at h2;obtain⟨v,r,h3,h4,_⟩:=h2;have h5:cv[z.p+i]? =some v:=by
     have:(cv.toList.drop (z.p+i))[0]? =some v:=by rw[h3];rfl
     rwa [Ez,Xd,GU] at this
    rw[O] at h5;obtain rfl:=Aw h5;rw[hat];simp only;rw[Bd hi];exact h4
   .rw[hval,hat];simp only;rw[Fz (by omega),Fz (by omega)];simp only[Zet,Cs,rd];exact .inl ⟨.inl rfl,trivial⟩
  obtain⟨enc,henc⟩: ∃enc:Nat->List Value,enc=λi=>[val i]:=⟨_,rfl⟩
  have bw: ∀i,enc i=[val i]:=λi=>by rw[henc]
  have az: ∀i,(val i).oneCell'=true:=by
   intro i;have h:=an i;simp only[rd] at h;rcases h with ⟨h,_⟩|⟨b,p,cap,vs,T,fr,h,_⟩
   .obtain⟨ao,h⟩:=lK h;rw[h];rfl
   .rw[h];rfl
  have be: ∀(d:Array Nat) (t:Nat),t<d.size->(flatK enc 1 d)[t]? =some (val d[t]!):=by
   intro d t ht;have hs:t<(flatK enc 1 d).size:=by simp only[size_flatK];omega
   have O:=get_flatK enc 1 d t (by omega);rw[GR hs,<-getElem!_pos (flatK enc 1 d) t hs,O,Nat.div_one,Nat.mod_one,henc];rfl
  obtain⟨d,hd⟩: ∃d:Array Nat,d=(List.range a.length).toArray:=⟨_,rfl⟩;have ah:d.size=a.length:=by rw[hd];simp
  have bv: ∀i,i<a.length->d[i]! =i:=by
   intro i hi;rw[hd,getElem!_pos _ i (by simpa using hi)];simp
  have hH:HoldsK enc 1 S.w z.b z.p d:=by
   intro j hj;rw[size_flatK,ah,Nat.mul_one] at hj;have O:=be d j (by omega);have h2:(flatK enc 1 d)[j]! =val j:=by
    rw[getElem!_def,O,bv j hj]
   refine⟨?_,?_⟩
   .simp only[World.cell?,Q,Xc,CN,Cu,id];rw[h2];exact bn j hj
   .simp only[World.frozen?,Q];simp
  have af: ∀n (dk:Array Nat) os,S.w.heap.size<=(sortWorldK enc 1 S.w z.b z.p n dk os).heap.size:=by
   intro n dk os;simp[sortWorldK,grow,putRowK,Sort.ahead]
  have ba: ∀n (dk:Array Nat) os b,b<S.w.heap.size->(sortWorldK enc 1 S.w z.b z.p n dk os).heap[b]? =if z.b=b then S.w.heap[b]?.map (onCells (putCells id z.p (flatK enc 1 dk))) else S.w.heap[b]? :=by
   intro n dk os b hb;have e0:b<(putRowK enc 1 (Sort.ahead S.w n) z.b z.p dk).heap.size:=by simpa[putRowK,Sort.ahead] using hb
   simp only[sortWorldK,grow];rw[Zds e0];simp only[putRowK,putRow,mapBlock,Sort.ahead,fB]
  have aq: ∀b,S.ok b->b<S.w.heap.size/\z.b≠b:=by
   intro b hb;refine⟨hW.oks b hb,λe=> ?_⟩;simp only[BF] at bh;exact bh.1 (e▸hb)
  have bb:CmpLays Tryz.prog 150 #[] enc 1 (λx y=>JZ (at_ x) (at_ y)) z.b z.p d.size S.w:=by
   intro m os dk _ x y;have ad: ∀b,S.ok b->S.ok b/\(sortWorldK enc 1 S.w z.b z.p m dk os).heap[b]? =S.hp b:=by
    intro b hb;obtain⟨O,h2⟩:=aq b hb;refine⟨hb,?_⟩;rw[ba m dk os b O,Ad h2];rfl
   refine (Pb (w:=sortWorldK enc 1 S.w z.b z.p m dk os) (ok:=S.ok) cmpA_.ok (Xs (at_ x) (at_ y)) (λb hb=>E8 (aq b hb).1 (af m dk os)) (hW.gp.mono λb o hb ho=>⟨hb,(ad b hb).2.trans ho⟩) ?_).mono ?_
   .simp only[ZeN,AJ,Aa,rd,Ab.c,bw];exact⟨_,_,rfl,⟨_,rfl,⟨_,_,rfl,FL ad _ _ (an x),rfl⟩⟩,_,_,rfl,⟨_,rfl,⟨_,_,rfl,FL ad _ _ (an y),rfl⟩⟩,rfl⟩
   .rintro e w' ⟨v,S',rfl,hv,hg⟩;simp only[Aa,rd] at hv;rw[hv];exact⟨rfl,hg⟩
  have hc:=AnyQ.slices_SortFunc Tryz.sortAs 1 Tryz.isAgg41 Tryz.sizeOf41 enc (λ_=>by rw[henc];rfl) (λx v hv=>by rw[henc] at hv;rw[B4.1 hv];exact az x) (λx y=>JZ (at_ x) (at_ y)) (swoA at_) 150 #[] z.b z.p z.cap d S.w
   (rH (KH (by kernel_rfl))) bb hH ay (by rw[ah];simp only[Hq] at g1;omega)
  rw[ah] at hc;rw[G,WL (by decide)];refine hc.mono ?_;rintro e w' ⟨rfl,d',n,os,ak,a8,rfl⟩;have a9:d'.size=a.length:=ak.1.trans ah;have bu:d'.toList.map at_=C6 a:=by
   refine OJ ?_ ?_
   .have O:=ak.2.2;rw[show d'.extract 0 a.length=d' by rw[<-a9];exact uH,show d.extract 0 a.length=d by rw[<-ah];exact uH,hd] at O;have h2:=O.map at_;have h3:((List.range a.length).toArray.toList).map at_=a:=by
     apply NP;intro i;rw[Zec,Ef];by_cases hi:i<a.length
     .rw[Qa hi,DW,Bd hi,hat];simp[hi]
     .rw[Fz (by simpa using hi),Fz (by omega)];rfl
    rwa [h3] at h2
   .rw[List.pairwise_map,uO];intro i j hi hj bx;have O:=a8 i j (BP _) bx (by rw[<-a9];simpa using hj);rw[getElem!_pos d' i (by simpa using hi),getElem!_pos d' j (by simpa using hj)] at O;simp only[ltOf] at O;rw[Wk] at O;simpa using O
  have ax: ∀i x,(C6 a)[i]? =some x->i<a.length/\x=at_ d'[i]! :=by
   intro i x hx;rw[<-bu,Ef,GU] at hx;have hi:i<d'.size:=by
    rcases EI i d'.size with h|h
    .exact h
    .rw[Rb h] at hx;cases hx
   rw[GR hi,DW] at hx;rw[getElem!_pos d' i hi];exact⟨by omega,(Aw hx).symm⟩
  have bq:(flatK enc 1 d').size=a.length:=by rw[size_flatK,a9,Nat.mul_one]
  have am:=af n d' os;have hb:=ba n d' os;refine fin _ ⟨rfl,rfl,rfl,uL _ _,am,?_,.inl (by simp),?_,?_,?_⟩ ?_
  .intro b br bt;rw[hb b br,Ad (bt m _ z (by simp) Z hρ)]
  .intro lo bi;rw[hρ] at bi;obtain rfl:=Aw bi;exact⟨E8 ay am,.inr ⟨m,_,z,by simp,Z,hρ,rfl⟩⟩
  .intro f hf;rw[Z] at hf;obtain rfl:=Aw hf;exact⟨rfl,rfl,by simp[Ag.len,bl]⟩
  .intro n' f _ ai;rw[Z] at ai;cases ai
  .intro b0;rw[hρ];simp only[Al,EJ,bl];refine⟨g1,g2,putCells id z.p (flatK enc 1 d') cv,?_,by simpa[putCells] using g4,?_⟩
   .simp only[Au.one,Au.hp];rw[hb z.b ay,Ai rfl,Q];rfl
   .refine pU λi x hx=> ?_
    obtain⟨hi,rfl⟩:=ax i x hx;refine⟨val d'[i]!,?_,FL b0.ok _ _ (an _)⟩;rw[Ez,GU,putCells,Zfk,bq,GR (show z.p+i<cv.size by omega)];simp only[DW,id];rw[Ai ⟨by omega,by omega⟩,uS,getElem!_def,be d' i (by omega)]
end Go.Ae
namespace Go.Ae
open Go.Proofs
def Vc{s:Am}{a:Ab}(O:Dw s=true)(hg:good s a):wkX.pre (Gd s a):=by
 obtain⟨hn,_,_,_,Q,h4,Z,h6,h7⟩:=Wv O hg.ok;have hk:=pX a.Tiles;have hm:=bO a.Tiles [] (by rw[Fb];exact eJ Q.1);have hT:s.Temperature<=16:=by
  have:=O
  simp only[Dw,Bf,AO,Bo] at this;exact this.2.2.2.1.2
 refine⟨⟨BR hk.2 (by omega),λx hx=> ?_⟩,Z,MQ _ (λy G=>(hn.2.2 y G).1),h6,hT,h7⟩;have z:x∈a.Tiles.map λy=>(y.At,y.Tile):=by
  have e:BT a.Tiles=a.Tiles.map λy=>(y.At,y.Tile):=hm
  rw[<-e];exact hx
 obtain⟨y,G,rfl⟩:=BI.1 z;exact (hn.2.2 y G).2
def Ze{s:Am}{a:Ab}(G:a.Tiles.length<=500)(O:s.Set.Tiles.length<=160):(Zd (Gd s a)).length<=400000:=by
 have Z:=(pX a.Tiles).2;have Q:=Io (g:=λp=>FV (K6 (Gd s a).Sys (Cl (Gd s a).Tl)) p (Gd s a).Sys.Set.Tiles.length) (m:=160) (λp=>BR (J9 _ p _) O) (BX (GA (Gd s a).Tl));have h8:=pS (Gd s a).Tl;have h9:(Gd s a).Tl.length<=500:=BR Z G;have z:(BX (GA (Gd s a).Tl)).length*160<=2500*160:=FS _ (by omega);exact BR Q z
section
variable (s:Am)(most:Int)
def IF:Nat->Nat->List Ab->List Ab
 |0,_,W=>W
 |n+1,i,W=>if Bv most W=true then W else IF n W.length (C4 s most (1000 - W.length) W.length (Jm s most W.length (1000 - i) i W))
def Oq(f:Int):List Ab×Bool:=(C6 (IF s most f.toNat 0 (C4 s most 1000 0 [s.Seed])),!Bv most (IF s most f.toNat 0 (C4 s most 1000 0 [s.Seed])))
structure Ve(k i:Nat)(W:List Ab):Prop where
 inv:Gw s k W
 le:i<=W.length
 full:Bv most W=true\/((∀a∈W,∀b∈DH s a,b∈W)/\(∀a,F6 s k a->a∈W)/\ ∀(j:Nat) (a:Ab),j<i->W[j]? =some a-> ∀o,Es s a o=true->Br a o.At o.Tile∈W)
end
variable {s:Am}{most:Int}
def Ve.first(hs:Dw s=true)(h4:most<=400):Ve s most 0 0 (C4 s most 1000 0 [s.Seed]):=by
 have G:Gw s 0 [s.Seed]:=⟨by simp,λa z=>by rw[B4.1 z];exact .seed _,λa z=>by rw[B4.1 z];exact cV hs,by simp⟩;obtain⟨O,h2,Z⟩:=cY (most:=most) hs 1000 0 [s.Seed] (by omega) G (λj a Q=>absurd Q (by omega));refine⟨O,BP _,Z.imp id λh=>⟨h,λa z=>Kh O.sd h (λf hf=>by omega) z,λj a Q=>by omega⟩⟩
def Ve.step(hs:Dw s=true)(h4:most<=400){k i:Nat}{W:List Ab}(h:Ve s most k i W)(hf:Bv most W=false):
 Ve s most (k+1) W.length (C4 s most (1000 - W.length) W.length (Jm s most W.length (1000 - i) i W)):=by
 have ab:W.length<=400:=by have:=(GG hf).1;omega
 have ac:=h.le;obtain⟨c1,c2,c3⟩:=h.full.resolve_left (by rw[hf];decide);obtain⟨V,hV⟩: ∃V,V=Jm s most W.length (1000 - i) i W:=⟨_,rfl⟩;have hv:=pW (most:=most) hs (f:=k) (e:=W.length) (1000 - i) i W (by omega) (AF _) h.inv.succ (λj a _ z=>h.inv.rch a (AP z)) c3;rw[<-hV] at hv⊢;obtain⟨v1,v2,v3⟩:=hv;obtain⟨U,hU⟩: ∃U,U=C4 s most (1000 - W.length) W.length V:=⟨_,rfl⟩;have aa: ∀{X:List Ab},CG W X-> ∀(j:Nat) (a:Ab),j<W.length->X[j]? =some a->W[j]? =some a:=λhX j a z G=>by
  have O:=Bd z;obtain rfl:W[j]=a:=Aw ((hX.get j _ O).symm.trans G);exact O
 have hu:=cY (most:=most) hs (f:=k+1) (1000 - W.length) W.length V (by omega) v1 (λj a z G b O=>v2.mem (c1 a (AP (aa v2 j a z G)) b O));rw[<-hU] at hu⊢;obtain⟨u1,Q,Z⟩:=hu;refine⟨u1,(v2.trans Q).len,?_⟩;rcases Z with Z|Z
 .exact .inl Z
 rcases v3 with v3|v3
 .exact .inl (O0 v3 (λa G=>Q.mem G) Q.len)
 refine .inr ⟨Z,λa G=>Kh u1.sd Z (λf hf b O o ho=> ?_) G,λj a z G o ho=>Q.mem (v3 j a z (v2.get j a (aa (v2.trans Q) j a z G)) o ho)⟩;obtain rfl:f=k:=by omega
 obtain⟨j,z⟩:=GV.1 (c2 b O);exact Q.mem (v3 j b (BJ.1 z).1 (v2.get j b z) o ho)
def Gw.ups{k:Nat}{W:List Ab}(h:Gw s k W): ∀n,Gw s (k+n) W
 |0=>h
 |n+1=>(Gw.ups h n).succ
def dA(hs:Dw s=true)(z:most<=400): ∀(n k i:Nat) (W:List Ab),Ve s most k i W->Gw s (k+n) (IF s most n i W)/\(Bv most (IF s most n i W)=true\/ ∀a,F6 s (k+n) a->a∈IF s most n i W)
 |0,k,i,W,h=>⟨h.inv,h.full.imp id λg=>g.2.1⟩
 |n+1,k,i,W,h=>by
  rw[IF];cases hf:Bv most W with
  |true=>rw[Ai rfl];exact⟨h.inv.ups _,.inl hf⟩
  |false=>
   rw[Ad (by decide),show k+(n+1)=k+1+n by omega];exact dA hs z n (k+1) W.length _ (h.step hs z hf)
def Sc{f:Int}(hs:Dw s=true)(h1:1<=most)(G:most<=400):ftyS s f.toNat most=if (Oq s most f).2=true then ((Oq s most f).1,0) else ([],4):=by
 have h:=dA hs G f.toNat 0 0 _ (Ve.first hs G);rw[Fj] at h;obtain⟨R,hR⟩: ∃R,R=IF s most f.toNat 0 (C4 s most 1000 0 [s.Seed]):=⟨_,rfl⟩;have e:Oq s most f=(C6 R,!Bv most R):=by rw[hR];rfl
 rw[<-hR] at h;rw[e];obtain⟨z,Q⟩:=h;cases hf:Bv most R with
 |true=>
  rw[Ad (show ¬(C6 R,!true).2=true by simp)];refine qC (W:=R) (AF _) z.nd z.rch ?_;simp only[Bv,HY,Bo,uK] at hf;exact hf
 |false=>
  rw[Ai (show (C6 R,!false).2=true from rfl)];obtain⟨q1,q2⟩:=GG hf;have O: ∀a,a∈C6 R↔a∈R:=λa=>(QC R).mem_iff
  refine L6 ⟨Yp z.nd,λa=>(O a).trans ⟨z.rch a,λg=>(Q.resolve_left (by rw[hf];decide)) a g⟩,?_,λa Z=>q2 a ((O a).1 Z)⟩;rw[dC];omega
def Ab.c_n(x:Ab):(Ab.c x).length=1:=rfl
noncomputable def ftS_.fv (a:Am×Int×Int):(List Ab)×Int:=(λs f m=>ftyS s f.toNat m) (a.1) (a.2.1) (a.2.2)
def ftS_.row:Ax:=vK (b3 (qP 4 Am.d_le) qI qI) (r2 (rS Ab.d_le Ab.c_n) rI) (λa=>Dw a.1=true/\0<=a.2.1/\a.2.1<=4/\1<=a.2.2/\a.2.2<=400) ftS_.fv
def ftS_.q:=AX (R:=ftS_.row) rfl
def E6:=J @ftS_.fv.eq_1<|J @l03Own.q<|J @l03Own.fv.eq_1<|J @opsS_.q<|J @opsS_.fv.eq_1<|J @l03Put.q<|J @l03Put.fv.eq_1<|J @looS_.q<|J @looS_.fv.eq_1<|J @witK_.q<|J @witK_.fv.eq_1<|J @wksS_.q @wksS_.fv.eq_1
def ftS_.ok:AA 47 ftS_.row:=by
 refine vw (tC l03Own.ok (tC opsS_.ok (tC l03Put.ok (tC looS_.ok (tC witK_.ok (tC pu_.ok (tC wksS_.ok tN))))))) Tryz.func47 ?_;intro a ao;simp only[Tryz.f47,Option.getD];simp(disch:=omega)only[ZZ,simprocAttr,rch,E6];obtain⟨s,F,most⟩:=a;obtain⟨h1,h2,h3,h4,h5⟩:=ao;simp only at h1 h2 h3 h4 h5⊢;have bh:=J8 h1;have au:=cV h1;have hF:((F.toNat:Nat):Int)=F:=uF h2;have br:=(Ix au.ok).2;obtain⟨R,hR⟩: ∃R,R=ftyS s F.toNat most:=⟨_,rfl⟩;rw[<-hR];refine⟨by omega,by omega,?_⟩;refine AR.ren ⟨{q:Nat×List Ab×List Ab//q.1<=F.toNat/\G2 s q.1 q.2.1 q.2.2 q.2.2/\bD s q.1 q.2.1/\(q.2.1.length:Int)<=most},λq=>⟨[(10,.im (.int .i64 q.1.1)),(9,.own 5),(8,.own 4),(0,.ptr 0 0),(1,.im (.int .i64 F)),(2,.im (.int .i64 most))],[(5,(true,.arr 41 1 (q.1.2.2.map Ab.c))),(4,(true,.arr 41 1 (q.1.2.1.map Ab.c))),(0,(false,.view (Am.c s)))],6⟩,λq=>F.toNat - q.1.1,λq=>⟨by simp[ZG],by simp⟩,⟨⟨(0,[s.Seed],[s.Seed]),BP _,?_,λg hg=>by omega,by simpa using h4⟩,[(4,some 2),(5,some 3)],?_⟩,λq=> ?_⟩
 .exact⟨by simp[Ek],λa ha=>by rw[B4.1 ha];exact .seed _,λa ha=>by rw[B4.1 ha];exact au,by simp,λa ha=>ha,by simp,λa ha=> .inl ha⟩
 .simp only[Ak];simp(disch:=omega)only[ZZ,simprocAttr,rch,E6,AL,Bk,Bb,Cs]
  try simp
 obtain⟨⟨f,L,V⟩,q1,q2,q3,q4⟩:=q;simp only at q1 q2 q3 q4;simp(disch:=omega)only[ZZ,simprocAttr,rch,E6,sub,AM];refine AR.ren ⟨{q:Nat×List Ab×List Ab//q.1<=q.2.2.length/\G2 s f q.2.1 q.2.2 (q.2.2.drop q.1)/\bD s f q.2.1/\(q.2.1.length:Int)<=most},λq=>⟨[(11,.im (.int .i64 q.1.1)),(10,.im (.int .i64 f)),(9,.own 7),(8,.own 6),(0,.ptr 0 0),(1,.im (.int .i64 F)),(2,.im (.int .i64 most))],[(7,(true,.arr 41 1 (q.1.2.2.map Ab.c))),(6,(true,.arr 41 1 (q.1.2.1.map Ab.c))),(0,(false,.view (Am.c s)))],8⟩,λq=>1000 - q.1.1,λq=>⟨by simp[ZG],by simp⟩,⟨⟨(0,L,V),BP _,q2,q3,q4⟩,[(6,some 4),(7,some 5)],?_⟩,λq=> ?_⟩
 .simp only[Ak];simp(disch:=omega)only[ZZ,simprocAttr,rch,E6,AL,Bk]
 obtain⟨⟨i,M,U⟩,r1,r2,r3,r4⟩:=q;simp only at r1 r2 r3 r4;have bn:=r2.len;simp(disch:=omega)only[ZZ,simprocAttr,rch,E6,sub,AM];refine λ_=>⟨λc1=> ?_,λc1=> ?_⟩
 rotate_left
 .obtain rfl:i=U.length:=by omega
  rw[List.drop_length] at r2;refine⟨λc2=> ?_,λc2=>⟨?_,by omega,?_⟩⟩
  .have az:f=F.toNat:=by omega
   subst az;rw[Ab.d_R,H3,hR,r2.done r3 r4]
  .rw[Qah];intro x _;simp[Ab.c,Bn,D.one]
  have an: ∀b∈M,b.Tiles.length<500:=λb hb=>(r2.cl b hb).elim (λh=>by cases h) λh=>h.1
  have bj:M.length<=400:=by omega
  refine AR.ren ⟨{q:Nat×List Ab×List Ab//q.1<=M.length/\G2 s (f+1) q.2.1 q.2.2 q.2.2/\(∀x∈M,x∈q.2.1)/\(∀j,j<q.1-> ∀b,M[j]? =some b-> ∀o,Es s b o=true->Br b o.At o.Tile∈q.2.1)/\(q.2.1.length:Int)<=most},λq=>⟨[(23,.im (.int .i64 q.1.1)),(22,.own 10),(21,.own 12),(8,.own 11),(10,.im (.int .i64 f)),(0,.ptr 0 0),(1,.im (.int .i64 F)),(2,.im (.int .i64 most))],[(10,(true,.arr 41 1 (M.map Ab.c))),(12,(true,.arr 41 1 (q.1.2.2.map Ab.c))),(11,(true,.arr 41 1 (q.1.2.1.map Ab.c))),(0,(false,.view (Am.c s)))],13⟩,λq=>M.length - q.1.1,λq=>⟨by simp[ZG],by simp⟩,⟨⟨(0,M,[]),BP _,r2.lev,λx hx=>hx,λj hj=>by omega,r4⟩,[(11,some 6),(12,some 8)],?_⟩,λq=> ?_⟩
  .simp only[Ak];simp(disch:=omega)only[ZZ,simprocAttr,rch,E6,AL,Bk,Cs]
  obtain⟨⟨j,L1,V1⟩,w1,w2,w3,w4,w5⟩:=q;simp only at w1 w2 w3 w4 w5;have bf:=w2.len;simp(disch:=omega)only[ZZ,simprocAttr,rch,E6,sub,AM];refine λ_=>⟨λQ=> ?_,λQ=> ?_⟩
  rotate_left
  .obtain rfl:j=M.length:=by omega
   have a0:IntKind.i64.wrap ((f:Int)+1)=((f+1:Nat):Int):=by rw[AB (by omega) (by omega)];rfl
   refine⟨⟨(f+1,L1,V1),by simp only;omega,w2,λg hg a ha o Z=> ?_,w5⟩,[(4,some 11),(5,some 12)],by simp only;omega,?_⟩
   .obtain rfl:g=f:=by omega
    obtain⟨j,hj⟩:=GV.1 (r2.all r3 ha);exact w4 j (BJ.1 hj).1 a hj o Z
   .simp only[Ak];simp(disch:=omega)only[ZZ,simprocAttr,rch,E6,AL,Bk,a0]
  obtain⟨b,hb⟩: ∃b,M[j]? =some b:=⟨_,Bd Q⟩;have ah:=AP hb;have am:=r2.gd b ah;have ac:=Ix am.ok;have aa:=Im h1;have av:1<=s.Temperature/\s.Temperature<=16:=by
   have h:=h1;simp only[Dw,Bf,AO,Bo] at h;exact h.2.2.2.1
  simp(disch:=omega)only[ZZ,simprocAttr,rch,E6,sub,AM,Ef,hb,DW];obtain⟨ws,hws⟩: ∃ws,ws=N2 s b:=⟨_,rfl⟩;have aw: ∀o,o∈ws↔Es s b o=true:=λo=>by rw[hws];exact PH ac.1
  have bt:ws.length<=320000:=by rw[hws];exact PG s ac.2 aa.1.2.2.1
  rw[<-hws];refine⟨Q,⟨aa.1.1,ac.1,av.1,av.2,ac.2,aa.1.2.2.1⟩,?_⟩;refine AR.ren ⟨{q:Nat×List Ab×List Ab//q.1<=ws.length/\G2 s (f+1) q.2.1 q.2.2 q.2.2/\(∀x∈L1,x∈q.2.1)/\(∀o∈ws.take q.1,Br b o.At o.Tile∈q.2.1)/\q.2.1.length<=L1.length+q.1},λq=>⟨[(25,.im (.int .i64 q.1.1)),(24,.im (.sl false 3 (ws.map Ba.c))),(23,.im (.int .i64 j)),(22,.own 10),(21,.own 14),(8,.own 13),(10,.im (.int .i64 f)),(0,.ptr 0 0),(1,.im (.int .i64 F)),(2,.im (.int .i64 most))],[(10,(true,.arr 41 1 (M.map Ab.c))),(14,(true,.arr 41 1 (q.1.2.2.map Ab.c))),(13,(true,.arr 41 1 (q.1.2.1.map Ab.c))),(0,(false,.view (Am.c s)))],15⟩,λq=>ws.length - q.1.1,λq=>⟨by simp[ZG],by simp⟩,⟨⟨(0,L1,V1),BP _,w2,λx hx=>hx,λo Z=>by simp at Z,AF _⟩,[(13,some 11),(14,some 12)],?_⟩,λq=> ?_⟩
  .simp only[Ak];simp(disch:=omega)only[ZZ,simprocAttr,rch,E6,AL,Bk]
  obtain⟨⟨k,L2,V2⟩,y1,y2,y3,y4,y5⟩:=q;simp only at y1 y2 y3 y4 y5;have bg:=y2.len;simp(disch:=omega)only[ZZ,simprocAttr,rch,E6,sub,AM,Ef,hb,DW];refine λ_=>⟨λc4=>⟨Q,c4,λp hp=> ?_⟩,λc4=> ?_⟩
  rotate_left
  .obtain rfl:k=ws.length:=by omega
   have bb:IntKind.i64.wrap ((j:Int)+1)=((j+1:Nat):Int):=by rw[AB (by omega) (by omega)];rfl
   rw[El] at y4;refine λ_=>⟨λc5=> ?_,λc5=>⟨⟨(j+1,L2,V2),by simp only;omega,y2,λx hx=>y3 x (w3 x hx),λi hi c hc o Z=> ?_,by simp only;omega⟩,[(11,some 13),(12,some 14)],by simp only;omega,?_⟩⟩
   .rw[hR];exact (y2.full (by omega) (.inl c5)).symm
   .by_cases e:i=j
    .subst e;obtain rfl:=Aw (hb.symm.trans hc);exact y4 o ((aw o).2 Z)
    .exact y3 _ (w4 i (by omega) c hc o Z)
   .simp only[Ak];simp(disch:=omega)only[ZZ,simprocAttr,rch,E6,AL,Bk,bb]
  refine⟨c4,λx hx=> ?_⟩;obtain rfl:=Aw (hp.symm.trans hx);have aq:=(aw p).1 (AP hp);have ad:IntKind.i64.wrap ((k:Int)+1)=((k+1:Nat):Int):=by rw[AB (by omega) (by omega)];rfl
  obtain⟨x,hxe⟩: ∃x,x=Br b p.At p.Tile:=⟨_,rfl⟩;have z:=y2.put (x:=x) (by rw[hxe];exact .weak (r2.rch b ah) aq) (by rw[hxe];exact Wo h1 am (an b ah) aq);rw[<-hxe];refine⟨by have:=ac.2;omega,?_⟩;refine AE.os (L2,x) [13] ⟨y2.srt,by simp only;omega⟩ (λj=> ?_) rfl rfl ?_ ?_
  .simp only[An,pu_.H0,hget];by_cases hj:j=0
   .subst hj;simp
   .have:(0==j)=false:=by simpa using λh=>hj h.symm
    rw[this];simp;omega
  .simp(disch:=omega)only[ZZ,simprocAttr,rch,E6,pu_.ca,pu_.H0,CV,Cz]
   try exact⟨rfl,rfl⟩
  by_cases c5:x∈L2
  .have G:Ca L2 x=(L2,false):=by simp only[Ca];rw[Ai c5]
   rw[G] at z;simp(disch:=omega)only[ZZ,simprocAttr,rch,E6,pu_.H1,pu_.r0,gQ,sub,Da,Cz,D4,G,AM];refine⟨⟨(k+1,L2,V2),by simp only;omega,z,y3,λo Z=> ?_,by simp only;omega⟩,[(13,some 16),(14,some 14)],by simp only;omega,?_⟩
   .rw[HX hp] at Z;rcases Bp.1 Z with Z|Z
    .exact y4 o Z
    .rw[B4.1 Z,<-hxe];exact c5
   .simp only[Ak];simp(disch:=omega)only[ZZ,simprocAttr,rch,E6,AL,Bk,ad]
  obtain⟨L3,hL3⟩: ∃L3,L3=(Ca L2 x).1:=⟨_,rfl⟩;have G:Ca L2 x=(L3,true):=by
   rw[hL3];simp only[Ca];rw[Ad c5]
  have af: ∀y,y∈L3↔y∈L2\/y=x:=λy=>by rw[hL3];exact cU L2 x y
  have bc:L3.length<=L2.length+1:=by rw[hL3];exact pY L2 x
  rw[G] at z;simp(disch:=omega)only[ZZ,simprocAttr,rch,E6,pu_.H1,pu_.r0,gQ,sub,Da,Cz,D4,G,AM];have ag: ∀y∈L2,y∈L3:=λy O=>(af y).2 (.inl O)
  refine⟨by simp[Ce,Bn,D.one],by omega,⟨(k+1,L3,V2++[x]),by simp only;omega,z,λy O=>ag y (y3 y O),λo Z=> ?_,by simp only;omega⟩,[(13,some 16),(14,some 37)],by simp only;omega,?_⟩
  .rw[HX hp] at Z;rcases Bp.1 Z with Z|Z
   .exact ag _ (y4 o Z)
   .rw[B4.1 Z,<-hxe];exact (af x).2 (.inr rfl)
  .simp only[Ak];simp(disch:=omega)only[ZZ,simprocAttr,rch,E6,AL,Bk,ad,Ei,Bb,Cs,Ab.c]
 refine⟨c1,c1,λa ha=>λ_=>⟨λc2=> ?_,λc2=> ?_⟩⟩
 .rw[hR];exact (r2.full q1 (.inr ⟨a,r2.vin a (AP ha),by omega⟩)).symm
 have aj:=r2.gd a (r2.vin a (AP ha));have ab:=Ix aj.ok;have aa:=Im h1;have be:=cD s ab.2 aa.1.2.2.1;have bd: ∀p∈CY s a,Db s a p=true:=λp hp=>cM ab.1 hp
 obtain⟨os,hos⟩: ∃os,os=CY s a:=⟨_,rfl⟩;have ai:DH s a=os.map (λo=>Br a o.At o.Tile)++(EE s a).map (Ep a):=by rw[hos];rfl
 rw[<-hos] at be bd⊢;refine⟨⟨aa.1.1,ab.1,ab.2,by have:=aa.1.2.2.1;omega⟩,?_⟩;refine AR.ren ⟨{k:Nat//k<=os.length},λk=>⟨[(15,.im (.int .i64 k.1)),(14,.im (.sl false 3 (os.map Ba.c))),(13,.own 10),(12,.ptr 8 0),(11,.im (.int .i64 i)),(10,.im (.int .i64 f)),(9,.own 7),(8,.own 6),(0,.ptr 0 0),(1,.im (.int .i64 F)),(2,.im (.int .i64 most))],[(10,(true,.arr 41 1 (((os.take k.1).map λo=>Br a o.At o.Tile).map Ab.c))),(8,(true,.cells 41 [.im (.sl false 3 (a.Tiles.map Aj.c))])),(7,(true,.arr 41 1 (U.map Ab.c))),(6,(true,.arr 41 1 (M.map Ab.c))),(0,(false,.view (Am.c s)))],11⟩,λk=>os.length - k.1,λk=>⟨by simp[ZG],by simp⟩,⟨⟨0,BP _⟩,[(10,some 9)],?_⟩,λk=> ?_⟩
 .simp only[Ak];simp(disch:=omega)only[ZZ,simprocAttr,rch,E6,AL,Bk,GS,Cs]
  try simp
 obtain⟨k,hk⟩:=k;simp(disch:=omega)only[ZZ,simprocAttr,rch,E6,sub,AM,FJ,FI,PL,Bn,D.one,F1,F4,KR,BQ];refine λ_=>⟨λQ=>⟨Q,λp hp=> ?_⟩,λQ=> ?_⟩
 .refine⟨Q,λx hx=> ?_⟩;obtain rfl:=Aw (hp.symm.trans hx);have bo:(os.take k).length<=320000:=by simp;omega
  refine⟨by omega,by omega,⟨k+1,by omega⟩,[(10,some 12)],by simp only;omega,?_⟩;simp only[Ak];simp(disch:=omega)only[ZZ,simprocAttr,rch,E6,AL,Bk];refine⟨by rw[AB (by omega) (by omega)];rfl,?_⟩;rw[HX hp];simp[Ab.c]
 obtain rfl:k=os.length:=by omega
 rw[El];clear hk Q;obtain⟨lo,hlo⟩: ∃lo,lo=EE s a:=⟨_,rfl⟩;have bp:lo.length<=500:=by have:=Wq s a a.Tiles.length;rw[hlo];have h9:=ab.2;exact BR this h9
 rw[<-hlo] at ai⊢;refine⟨⟨aa.1.1,ab.1,aa.1.2.1.1,by have:=ab.2;omega⟩,?_⟩;refine AR.ren ⟨{k:Nat//k<=lo.length},λk=>⟨[(17,.im (.int .i64 k.1)),(16,.im (.sl false 1 ((lo.map Int.ofNat).map Ao))),(13,.own 11),(12,.ptr 8 0),(11,.im (.int .i64 i)),(10,.im (.int .i64 f)),(9,.own 7),(8,.own 6),(0,.ptr 0 0),(1,.im (.int .i64 F)),(2,.im (.int .i64 most))],[(11,(true,.arr 41 1 ((os.map (λo=>Br a o.At o.Tile)++(lo.take k.1).map (Ep a)).map Ab.c))),(8,(true,.cells 41 [.im (.sl false 3 (a.Tiles.map Aj.c))])),(7,(true,.arr 41 1 (U.map Ab.c))),(6,(true,.arr 41 1 (M.map Ab.c))),(0,(false,.view (Am.c s)))],12⟩,λk=>lo.length - k.1,λk=>⟨by simp[ZG],by simp⟩,⟨⟨0,BP _⟩,[(11,some 10)],?_⟩,λk=> ?_⟩
 .simp only[Ak];simp(disch:=omega)only[ZZ,simprocAttr,rch,E6,AL,Bk,GS,Cs,CC]
  try simp
 obtain⟨k,hk⟩:=k;simp(disch:=omega)only[ZZ,simprocAttr,rch,E6,sub,AM,FJ,FI,PL,Bn,D.one,F1,F4,KR,BQ];refine λ_=>⟨λQ=> ?_,λQ=> ?_⟩
 .refine⟨Q,λx hx=> ?_⟩;obtain⟨j,hj⟩: ∃j,lo[k]? =some j:=⟨_,Bd Q⟩;obtain rfl:Int.ofNat j=x:=by simpa[hj] using hx
  obtain⟨y,O,_⟩:=Kl (s:=s) (a:=a) (k:=j) (by rw[<-hlo];exact AP hj);have ba:=(BJ.1 O).1;have bq:(lo.take k).length<=500:=by simp;omega
  refine⟨⟨ZeQ j,ZfG.2 ba,by have:=ab.2;omega⟩,by omega,⟨k+1,by omega⟩,[(11,some 13)],by simp only;omega,?_⟩;simp only[Ak];simp(disch:=omega)only[ZZ,simprocAttr,rch,E6,AL,Bk];refine⟨by rw[AB (by omega) (by omega)];rfl,?_⟩;rw[HX hj];simp[Ab.c,RQ,Ep]
 obtain rfl:k=lo.length:=by omega
 rw[El,<-ai];clear hk Q;obtain⟨N,hN⟩: ∃N,N=DH s a:=⟨_,rfl⟩;have bl:N.length<=400000:=by rw[hN,ai];simp;omega
 rw[<-hN];refine AR.ren ⟨{q:Nat×List Ab×List Ab//q.1<=N.length/\G2 s f q.2.1 q.2.2 (q.2.2.drop i)/\bD s f q.2.1/\(∀x∈N.take q.1,x∈q.2.1)/\q.2.1.length<=M.length+q.1/\q.2.2[i]? =some a},λq=>⟨[(18,.im (.int .i64 q.1.1)),(13,.own 11),(11,.im (.int .i64 i)),(10,.im (.int .i64 f)),(9,.own 13),(8,.own 12),(0,.ptr 0 0),(1,.im (.int .i64 F)),(2,.im (.int .i64 most))],[(11,(true,.arr 41 1 (N.map Ab.c))),(13,(true,.arr 41 1 (q.1.2.2.map Ab.c))),(12,(true,.arr 41 1 (q.1.2.1.map Ab.c))),(0,(false,.view (Am.c s)))],14⟩,λq=>N.length - q.1.1,λq=>⟨by simp[ZG],by simp⟩,⟨⟨(0,M,U),BP _,r2,r3,λx hx=>by simp at hx,AF _,ha⟩,[(12,some 6),(13,some 7)],?_⟩,λq=> ?_⟩
 .simp only[Ak];simp(disch:=omega)only[ZZ,simprocAttr,rch,E6,AL,Bk]
 obtain⟨⟨k,M1,U1⟩,w1,w2,w3,w4,w5,w6⟩:=q;simp only at w1 w2 w3 w4 w5 w6;simp(disch:=omega)only[ZZ,simprocAttr,rch,E6,sub,AM];have bi:M1.length<=500000:=by omega
 have bm:=w2.len;refine λ_=>⟨λQ=>⟨Q,Q,λx hx=> ?_⟩,λQ=> ?_⟩
 .have ax:x∈DH s a:=by rw[<-hN];exact AP hx
  have ad:IntKind.i64.wrap ((k:Int)+1)=((k+1:Nat):Int):=by rw[AB (by omega) (by omega)];rfl
  have a8:=(BJ.1 w6).1;have z:=w2.put (.next (r2.rch a (r2.vin a (AP ha))) ax) (Wn h1 aj (by omega) ax);refine AE.os (M1,x) [12] ⟨w2.srt,by simp only;omega⟩ (λj=> ?_) rfl rfl ?_ ?_
  .simp only[An,pu_.H0,hget];by_cases hj:j=0
   .subst hj;simp
   .have:(0==j)=false:=by simpa using λh=>hj h.symm
    rw[this];simp;omega
  .simp(disch:=omega)only[ZZ,simprocAttr,rch,E6,pu_.ca,pu_.H0,CV,Cz]
   try exact⟨rfl,rfl⟩
  by_cases c4:x∈M1
  .have G:Ca M1 x=(M1,false):=by simp only[Ca];rw[Ai c4]
   rw[G] at z;simp(disch:=omega)only[ZZ,simprocAttr,rch,E6,pu_.H1,pu_.r0,gQ,sub,Da,Cz,D4,G,AM];refine⟨⟨(k+1,M1,U1),by simp only;omega,z,w3,λy O=> ?_,by simp only;omega,w6⟩,[(12,some 14),(13,some 13)],by simp only;omega,?_⟩
   .rw[HX hx] at O;rcases Bp.1 O with O|O
    .exact w4 y O
    .rw[B4.1 O];exact c4
   .simp only[Ak];simp(disch:=omega)only[ZZ,simprocAttr,rch,E6,AL,Bk,ad]
  obtain⟨M2,hM2⟩: ∃M2,M2=(Ca M1 x).1:=⟨_,rfl⟩;have G:Ca M1 x=(M2,true):=by
   rw[hM2];simp only[Ca];rw[Ad c4]
  have af: ∀y,y∈M2↔y∈M1\/y=x:=λy=>by rw[hM2];exact cU M1 x y
  have bc:M2.length<=M1.length+1:=by rw[hM2];exact pY M1 x
  rw[G] at z;simp(disch:=omega)only[ZZ,simprocAttr,rch,E6,pu_.H1,pu_.r0,gQ,sub,Da,Cz,D4,G,AM];have ag: ∀y∈M1,y∈M2:=λy O=>(af y).2 (.inl O)
  have ay:(U1++[x]).drop i=U1.drop i++[x]:=fF (by omega);refine⟨Q,Q,λu hu=> ?_⟩;obtain rfl:=Aw (hx.symm.trans hu);refine⟨by simp[Ce,Bn,D.one],by omega,⟨(k+1,M2,U1++[x]),by simp only;omega,?_,w3.mono ag,λy O=> ?_,by simp only;omega,?_⟩,[(12,some 14),(13,some 35)],by simp only;omega,?_⟩
  .simp only;rw[ay];exact z
  .rw[HX hx] at O;rcases Bp.1 O with O|O
   .exact ag y (w4 y O)
   .exact (af y).2 (.inr (B4.1 O))
  .simp only;rw[DQ a8];exact w6
  .simp only[Ak];simp(disch:=omega)only[ZZ,simprocAttr,rch,E6,AL,Bk,ad,Ei,Bb,Cs,Ab.c]
 obtain rfl:k=N.length:=by omega
 have a9:IntKind.i64.wrap ((i:Int)+1)=((i+1:Nat):Int):=by rw[AB (by omega) (by omega)];rfl
 have ak: ∀b∈DH s a,b∈M1:=λb hb=>w4 b (by rw[El,hN];exact hb)
 refine λ_=>⟨λc4=> ?_,λc4=>⟨⟨(i+1,M1,U1),by have:=(BJ.1 w6).1;simp only;omega,w2.next w6 (by omega) ak,w3,by simp only;omega⟩,[(6,some 12),(7,some 13)],by simp only;omega,?_⟩⟩
 .rw[hR];exact (w2.full q1 (.inl c4)).symm
 .simp only[Ak];simp(disch:=omega)only[ZZ,simprocAttr,rch,E6,AL,Bk,a9]
def ET(s:Am)(f m:Int):Int:=if Dw s=true then (if Bf f 0 4=true/\Bf m 1 400=true then 0 else 2) else 1
def QE{s:Am}{f m:Int}(h:ET s f m=0):Dw s=true/\0<=f/\f<=4/\1<=m/\m<=400:=by
 simp only[ET] at h;split at h
 .rename_i G;split at h
  .rename_i z;simp only[Bf,AO,Bo] at z;exact⟨G,z.1.1,z.1.2,z.2.1,z.2.2⟩
  .cases h
 .cases h
def ftA_.fv(a:Am×Int×Int):Int:=(ET) (a.1) (a.2.1) (a.2.2)
def ftA_.row:Ax:=vK (b3 (qP 4 Am.d_le) qI qI) rI (λa=>True) ftA_.fv
def ftA_.q:=AX (R:=ftA_.row) rfl
def ftA_.ok:AA 37 ftA_.row:=by
 refine vw (tC l08Ok.ok (tC l00In.ok tN)) Tryz.func37 ?_;intro a z;simp only[Tryz.f37,Option.getD];simp(disch:=omega)only[ZZ,simprocAttr,rch,ftA_.fv,l08Ok.q,l08Ok.fv,l00In.q,l00In.fv];obtain⟨s,f,m⟩:=a;simp only[ET];cases h1:Dw s
 .simp
 rw[Ad (by decide)];cases h2:Bf f 0 4
 .simp
 cases h3:Bf m 1 400<;>simp
noncomputable def ftyF (s:Am) (f m:Int):List Ab×Int:=if ET s f m=0 then ftyS s f.toNat m else ([],ET s f m)
def Gr(s:Am)(a:Ab):Bool:=(CY s a).isEmpty && (EE s a).isEmpty
def setB_.fv(a:Am×Ab):Bool:=(Gr) (a.1) (a.2)
def setB_.row:Ax:=vK (b2 (qP 4 Am.d_le) (qP 1 Ab.d_le)) rB (λa=>BG a.1.Set/\Fy a.1.Set a.2/\Ck none a.1.Seed.Tiles=true/\a.2.Tiles.length<=500/\a.1.Set.Tiles.length<=1000) setB_.fv
def setB_.q:=AX (R:=setB_.row) rfl
def setB_.ok:AA 77 setB_.row:=by
 refine vw (tC opsS_.ok (tC looS_.ok tN)) Tryz.func77 ?_;intro a z;simp only[Tryz.f77,Option.getD];simp(disch:=omega)only[ZZ,simprocAttr,rch,setB_.fv,opsS_.q,opsS_.fv,looS_.q,looS_.fv];obtain⟨s,a⟩:=a;obtain⟨O,Q,Z,h4,h5⟩:=z;simp only at O Q Z h4 h5⊢;refine⟨⟨O,Q,h4,h5⟩,λ_=> ?_⟩;split
 .rename_i c1;refine⟨⟨O,Q,Z,by omega⟩,λ_=> ?_⟩;have G:CY s a=[]:=Ra.1 (by omega);rw[Gr,G];cases hl:EE s a<;>simp;omega
 .rename_i c1;have G:(CY s a).isEmpty=false:=by
   cases h:CY s a with
   |nil=>rw[h] at c1;exact absurd rfl c1
   |cons _ _=>rfl
  rw[Gr,G,Gf]
noncomputable def ftyE (s:Am) (f m:Int):List Ab×Int:=if ET s f m=0 then (if (ftyS s f.toNat m).2=0 then ((ftyS s f.toNat m).1.filter (Gr s),0) else ([],(ftyS s f.toNat m).2)) else ([],ET s f m)
def adZ.H0(a:(Am×Int)×Ab):Ar:=[(0,(true,.cells 207 [.im (.sl false 2 (a.1.1.Set.Glues.map Av.c)),.im (.sl false 2 (a.1.1.Set.Tiles.map Tile.c)),.im (.sl false 3 (a.1.1.Seed.Tiles.map Aj.c)),.im (.int .i64 a.1.1.Temperature),.im (.int .i64 a.1.2),.im (.sl true 0 []),.mp 1,.im (.bool false)])),(1,(true,.map ⟨false,[.str]⟩ (JJ [])))]
def adZ.ca(a:(Am×Int)×Ab):List AV:=[.ptr 0 0,.im (.agg (Ab.c a.2))]
def adZ.H1(a:(Am×Int)×Ab):Ar:=[(0,(true,.cells 207 [.im (.sl false 2 (a.1.1.Set.Glues.map Av.c)),.im (.sl false 2 (a.1.1.Set.Tiles.map Tile.c)),.im (.sl false 3 (a.1.1.Seed.Tiles.map Aj.c)),.im (.int .i64 a.1.1.Temperature),.im (.int .i64 a.1.2),.own 3,.mp 1,.im (.bool (Bv a.1.2 [a.2]))])),(3,(true,AY [a.2])),(1,(true,AZ [a.2]))]
def adZ.pre(a:(Am×Int)×Ab):Prop:=(1<=a.2.Tiles.length/\a.2.Tiles.length<=1000/\ ∀x∈a.2.Tiles,Dl x.At=true/\0<=x.Tile/\x.Tile<=1000)/\1<=a.1.2
def adZ.row:Ax:=AE adZ.ca adZ.H0 2 adZ.pre (λ_=>true) (λ_=> .im (.tup [])) adZ.H1 1000
def adZ.ok:AA 145 adZ.row:=by
 refine Hd (tC key_.ok tN) Tryz.func145 (exB:=λj=>j==3) (R:=λ_ r=>r= .im (.tup [])) (λ_=>rfl)
  (λa=>by simp[adZ.ca,adZ.H0,adZ.H1,AY,AZ,Ab.c,AN,AV.bel,AD,Cg,Cx,Ag.nms,A9,AV.nms,An,hget]) (λa p hp=> ?_) (λa r h=>by subst h;exact DK.refl _) ?_
 rotate_left
 intro a z;simp only[Tryz.f145,Option.getD,adZ.ca,adZ.H0,adZ.H1,AY,AZ,Ab.c];simp(disch:=omega)only[ZZ,simprocAttr,rch,key_.q,key_.fv,AG,AC,adZ.ca,adZ.H0,adZ.H1,AY,AZ,Ab.c];rotate_left
 .simp only[adZ.H1,Bx,Ri,NR] at hp;rcases hp with rfl|rfl|rfl
  .exact .inl ⟨by omega,rfl,rfl⟩
  .exact .inr ⟨by omega,by omega,rfl,rfl⟩
  .exact .inl ⟨by omega,rfl,rfl⟩
 obtain⟨⟨s,most⟩,x⟩:=a;obtain⟨G,O⟩:=z;simp only at G O⊢;refine⟨G,?_⟩;rw[Qum];refine⟨λc=>absurd c (by simp),λc=> ?_⟩;simp(disch:=omega)only[ZZ,simprocAttr,rch,key_.q,key_.fv,AG,AC,adZ.ca,adZ.H0,adZ.H1,AY,AZ,Ab.c,sub,tJ _ _ c,Cs];rw[Ai (by omega)];have hf:Bv most [x]=decide (500<=(x.Tiles.length:Int)):=by
  simp only[Bv,ZfD,List.any_nil,JT,Cr,F3];rw[KO (show ¬most<((0+1:Nat):Int) by omega),vC];exact Zfg.2 (by omega)
 rw[<-hf];refine⟨[],[(3,some 4)],⟨[],[(0,(true,.cells 207 [.im (.sl false 2 (s.Set.Glues.map Av.c)),.im (.sl false 2 (s.Set.Tiles.map Tile.c)),.im (.sl false 3 (s.Seed.Tiles.map Aj.c)),.im (.int .i64 s.Temperature),.im (.int .i64 most),.own 3,.mp 1,.im (.bool (Bv most [x]))])),(3,(true,AY [x])),(1,(true,AZ [x]))],4⟩,?_,by simp[ZG,AY,AZ],by simp,?_⟩
 .simp only[Ak,AY,AZ];simp(disch:=omega)only[ZZ,simprocAttr,rch,key_.q,key_.fv,AG,AC,adZ.ca,adZ.H0,adZ.H1,AY,AZ,Ab.c,AL,Bk]
 .simp(disch:=omega)only[ZZ,simprocAttr,rch,key_.q,key_.fv,AG,AC,adZ.ca,adZ.H0,adZ.H1,AY,AZ,Ab.c,adZ.H1,AY,AZ]
def adZ.dom(a:(Am×Int)×Ab)(j:Nat):An (adZ.H0 a) j=true↔j<2:=by
 simp only[An,adZ.H0,hget];by_cases h0:j=0
 .subst h0;simp
 by_cases z:j=1
 .subst z;simp
 have G:(0==j)=false:=by simpa using λh=>h0 h.symm
 have O:(1==j)=false:=by simpa using λh=>z h.symm
 simp[G,O];omega
def adR.row:Ax:=mQ adC.row adZ.row
def adR.ok:AA 145 adR.row:=T3 adC.ok adZ.ok
def wkV.ar:List PK->Option AW
 |[.val (.ref cs)]=>AW.d cs
 |_=>none
def wkV.row:Ax:=N7 wkV.ar wkX.pre (λ_=> .own 0) wkX.H1 20000
def wkV.le(ps:List PK)(a:AW)(h:wkV.ar ps=some a):BM ps (Kv [.ref (AW.c a)]):=by
 unfold wkV.ar at h;split at h
 .exact⟨Vo (CM.leP (AW.d_le _ _ h)),trivial⟩
 .cases h
def wkV.ok:AA 148 wkV.row:=
 UV (ca:=λa=>[D.ref (AW.c a)]) (by kernel_rfl) wkX.ok (λ_=>rfl) wkV.le (λ_=>⟨rfl,by simp[AV.nms]⟩) λa p hp=>by
  simp only[wkX.H1,B4] at hp;subst hp;exact⟨by simp only;omega,rfl,by simp[Jc,Ba.c,D.sc],by simp[Ag.nms]⟩
def Sd{s:Am}{most:Int}{W:List Ab}(h:Bv most W=true){n i:Nat}:IF s most n i W=W:=by
 cases n with
 |zero=>rfl
 |succ n=>rw[IF,Ai h]
def faX.ca(a:Am×Int×Int):List AV:=[.im (.agg (Am.c a.1)),.im (.int .i64 a.2.1),.im (.int .i64 a.2.2)]
def faX.H1(a:Am×Int×Int):Ar:=[(0,(true,.arr 41 1 ((Oq a.1 a.2.2 a.2.1).1.map Ab.c)))]
def faX.r0(a:Am×Int×Int):AV:= .tup [.own 0,.im (.bool (Oq a.1 a.2.2 a.2.1).2)]
def faX.row:Ax:=AE faX.ca (λ_=>[]) 0 (λa=>Dw a.1=true/\0<=a.2.1/\a.2.1<=4/\1<=a.2.2/\a.2.2<=400) (λ_=>false) faX.r0 faX.H1 100000
def Ey:=J @clA_.q<|J @clA_.fv.eq_1<|J @wth_.q @wth_.fv.eq_1
def faX.ok:AA 98 faX.row:=by
 refine Hd (tC newC.ok (tC clA_.ok (tC wth_.ok (tC adR.ok (tC cloC.ok (tC wkV.ok (tC srtA.ok tN))))))) Tryz.func98 (exB:=λj=>j==0) (R:=λa r=>r=faX.r0 a) (λ_=>rfl)
  (λa=>by simp[faX.ca,faX.H1,Am.c,AN,AV.bel,AD,Cg,Cx,Ag.nms,A9,AV.nms,An,hget]) (λa p hp=> ?_) (λa r h=>by subst h;exact DK.refl _) ?_
 rotate_left
 intro a ak;simp only[Tryz.f98,Option.getD,faX.ca,faX.H1,Am.c];simp(disch:=omega)only[ZZ,simprocAttr,rch,Ey,AG,AC,faX.ca,faX.H1,Am.c];rotate_left
 .simp[faX.H1] at hp;subst hp;exact .inr ⟨by omega,by omega,rfl,rfl⟩
 obtain⟨s,f,most⟩:=a;obtain⟨z,h2,h3,h4,h5⟩:=ak;simp only at z h2 h3 h4 h5⊢;have aa:=cV z;have a0:=Ix aa.ok;obtain⟨R,hR⟩: ∃R,R=IF s most f.toNat 0 (C4 s most 1000 0 [s.Seed]):=⟨_,rfl⟩;have hF:Oq s most f=(C6 R,!Bv most R):=by rw[hR];rfl
 refine⟨by have:=a0.2;omega,.inr (AE.os ((s,most),s.Seed) [3,2] ⟨Wu (J8 z) aa.ok (aa.one z),h4⟩ (adZ.dom _) rfl rfl ?_ ?_)⟩
 .simp(disch:=omega)only[ZZ,simprocAttr,rch,Ey,AG,AC,faX.ca,faX.H1,Am.c,adZ.ca,adZ.H0,CV,Cz,D4];rfl
 simp(disch:=omega)only[ZZ,simprocAttr,rch,Ey,AG,AC,faX.ca,faX.H1,Am.c,adZ.H1,AY,AZ,sub,Da,Cz,D4];have aq: ∀x∈[s.Seed],good s x:=λx hx=>by rw[B4.1 hx];exact aa
 have ag:=Ve.first z h5;obtain⟨W1,hW1⟩: ∃W1,W1=C4 s most 1000 0 [s.Seed]:=⟨_,rfl⟩;have hcl:JY ((s,most,[s.Seed]),0)=W1:=by rw[hW1];rfl
 rw[<-hW1] at ag hR;refine AE.os ((s,most,[s.Seed]),0) [3,5,2] ⟨z,aq,h5,BP _,BP _,by simp⟩ (λj=>adC.dom ((s,most,[s.Seed]),s.Seed) j) rfl rfl ?_ ?_
 .simp(disch:=omega)only[ZZ,simprocAttr,rch,Ey,AG,AC,faX.ca,faX.H1,Am.c,cloC.ca,cloC.H0,Bh,AY,AZ,CV,Cz,D4]
  try exact⟨rfl,rfl⟩
 simp(disch:=omega)only[ZZ,simprocAttr,rch,Ey,AG,AC,faX.ca,faX.H1,Am.c,cloC.H1,hcl,Bh,AY,AZ,sub,Da,Cz,D4];refine AR.ren ⟨{q:Nat×Nat×List Ab//(∃k,Ve s most k q.2.1 q.2.2)/\IF s most q.1 q.2.1 q.2.2=R/\q.1<=4},λq=>⟨[(9,.im (.int .i64 q.1.2.1)),(8,.ptr 3 0),(3,.ptr 0 0),(1,.im (.int .i64 q.1.1))],[(3,(true,Bh s most q.1.2.2 3004)),(3004,(true,AY q.1.2.2)),(2,(true,AZ q.1.2.2)),(0,(true,.cells 43 ((Am.c s).map .im)))],3005⟩,λq=>q.1.1,λq=>⟨by simp[ZG,Bh,AY,AZ,Am.c],by simp⟩,⟨⟨(f.toNat,0,W1),⟨0,ag⟩,hR.symm,by simp only;omega⟩,[(3004,some 1004)],?_⟩,λq=> ?_⟩
 .simp only[Ak,Bh,AY,AZ];simp(disch:=omega)only[ZZ,simprocAttr,rch,Ey,AG,AC,faX.ca,faX.H1,Am.c,AL,Bk]
  try simp
  try omega
 obtain⟨⟨n,i,W⟩,⟨kq,hQ⟩,q4,q5⟩:=q;simp only at hQ q4 q5;simp only[Bh,AY,AZ];simp(disch:=omega)only[ZZ,simprocAttr,rch,Ey,AG,AC,faX.ca,faX.H1,Am.c,sub,AM];refine⟨λc1=>⟨λc2 _=> ?_,λc2=> ?_⟩,λc1=> ?_⟩;rotate_left
 .have q6:W=R:=by rw[<-q4,Sd (by simpa using c2)]
  subst q6;refine AE.os W [3004] trivial (λj=> ?_) rfl rfl ?_ ?_
  .simp only[An,srtA.H0,hget];by_cases hj:j=0
   .subst hj;simp
   .have:(0==j)=false:=by simpa using λh=>hj h.symm
    rw[this];simp;omega
  .simp(disch:=omega)only[ZZ,simprocAttr,rch,Ey,AG,AC,faX.ca,faX.H1,Am.c,srtA.ca,srtA.H0,CV,Cz]
   try exact⟨rfl,rfl⟩
  simp(disch:=omega)only[ZZ,simprocAttr,rch,Ey,AG,AC,faX.ca,faX.H1,Am.c,srtA.H1,sub,Da,Cz,D4];refine⟨[],[(0,some 3004)],⟨[(6,.own 0),(7,.im (.bool (!Bv most W)))],[(0,(true,.arr 41 1 ((C6 W).map Ab.c)))],1⟩,?_,by simp[ZG],by simp,?_⟩
  .simp only[Ak];simp(disch:=omega)only[ZZ,simprocAttr,rch,Ey,AG,AC,faX.ca,faX.H1,Am.c,AL,Bk]
  .simp(disch:=omega)only[ZZ,simprocAttr,rch,Ey,AG,AC,faX.ca,faX.H1,Am.c,faX.H1,faX.r0,hF]
 .have q6:W=R:=by rw[<-q4,show n=0 by omega];rfl
  subst q6;refine AE.os W [3004] trivial (λj=> ?_) rfl rfl ?_ ?_
  .simp only[An,srtA.H0,hget];by_cases hj:j=0
   .subst hj;simp
   .have:(0==j)=false:=by simpa using λh=>hj h.symm
    rw[this];simp;omega
  .simp(disch:=omega)only[ZZ,simprocAttr,rch,Ey,AG,AC,faX.ca,faX.H1,Am.c,srtA.ca,srtA.H0,CV,Cz]
   try exact⟨rfl,rfl⟩
  simp(disch:=omega)only[ZZ,simprocAttr,rch,Ey,AG,AC,faX.ca,faX.H1,Am.c,srtA.H1,sub,Da,Cz,D4];refine⟨[],[(0,some 3004)],⟨[(6,.own 0),(7,.im (.bool (!Bv most W)))],[(0,(true,.arr 41 1 ((C6 W).map Ab.c)))],1⟩,?_,by simp[ZG],by simp,?_⟩
  .simp only[Ak];simp(disch:=omega)only[ZZ,simprocAttr,rch,Ey,AG,AC,faX.ca,faX.H1,Am.c,AL,Bk]
  .simp(disch:=omega)only[ZZ,simprocAttr,rch,Ey,AG,AC,faX.ca,faX.H1,Am.c,faX.H1,faX.r0,hF]
 have ba:W.length<=400:=by have:=(GG c2).1;omega
 have av:=hQ.le;obtain⟨V2,hV2⟩: ∃V2,V2=Jm s most W.length (1000 - i) i W:=⟨_,rfl⟩;refine AR.ren ⟨{q:Nat×List Ab//Gw s (kq+1) q.2/\CG W q.2/\Jm s most W.length (1000 - q.1) q.1 q.2=V2/\q.1<=W.length/\q.2.length<=400400},λq=>⟨[(11,.im (.int .i64 q.1.1)),(10,.im (.int .i64 W.length)),(8,.ptr 3 0),(3,.ptr 0 0),(1,.im (.int .i64 n))],[(3,(true,Bh s most q.1.2 3005)),(3005,(true,AY q.1.2)),(2,(true,AZ q.1.2)),(0,(true,.cells 43 ((Am.c s).map .im)))],3006⟩,λq=>W.length - q.1.1,λq=>⟨by simp[ZG,Bh,AY,AZ,Am.c],by simp⟩,⟨⟨(i,W),hQ.inv.succ,CG.refl W,hV2.symm,av,by simp only;omega⟩,[(3005,some 3004)],?_⟩,λq=> ?_⟩
 .simp only[Ak,Bh,AY,AZ];simp(disch:=omega)only[ZZ,simprocAttr,rch,Ey,AG,AC,faX.ca,faX.H1,Am.c,AL,Bk]
 obtain⟨⟨j,V⟩,v1,v2,v3,v4,v5⟩:=q;simp only at v1 v2 v3 v4 v5;simp only[Bh,AY,AZ];simp(disch:=omega)only[ZZ,simprocAttr,rch,Ey,AG,AC,faX.ca,faX.H1,Am.c,sub,AM];have ab:V.length≥W.length:=v2.len;refine⟨λc3=>⟨λc4=>⟨by omega,by omega,λa ha=> ?_⟩,λc4=> ?_⟩,λc3=> ?_⟩;rotate_left
 .rw[Wl ab (λg=>c4 g.2)] at v3;refine AE.os ((s,most,V),W.length) [3,3005,2] ⟨z,v1.gd,h5,ab,by simp only;omega,by simp only;omega⟩ (λj=>adC.dom ((s,most,V),s.Seed) j) rfl rfl ?_ ?_
  .simp(disch:=omega)only[ZZ,simprocAttr,rch,Ey,AG,AC,faX.ca,faX.H1,Am.c,cloC.ca,cloC.H0,Bh,AY,AZ,CV,Cz,D4]
   try exact⟨rfl,rfl⟩
  simp(disch:=omega)only[ZZ,simprocAttr,rch,Ey,AG,AC,faX.ca,faX.H1,Am.c,cloC.H1,Bh,AY,AZ,sub,Da,Cz,D4];obtain⟨U,hU⟩: ∃U,U=JY ((s,most,V),W.length):=⟨_,rfl⟩;rw[<-hU];subst v3;have O:=hQ.step z h5 c2;rw[<-hV2,show C4 s most (1000 - W.length) W.length V=U from hU.symm] at O;have ad:IntKind.i64.wrap ((n:Int) - 1)=((n - 1:Nat):Int):=by rw[AB (by omega) (by omega)];omega
  refine⟨⟨(n - 1,W.length,U),⟨_,O⟩,?_,by simp only;omega⟩,[(3004,some 3006)],by simp only;omega,?_⟩
  .rw[show n=(n - 1)+1 by omega,IF,Ad (by rw[c2];decide),<-hV2] at q4;exact (BY (IF s most (n - 1) W.length) hU).trans q4
  .simp only[Ak,Bh,AY,AZ];simp(disch:=omega)only[ZZ,simprocAttr,rch,Ey,AG,AC,faX.ca,faX.H1,Am.c,AL,Bk,ad]
 .rw[Wl ab (λg=>c3 g.1)] at v3;refine AE.os ((s,most,V),W.length) [3,3005,2] ⟨z,v1.gd,h5,ab,by simp only;omega,by simp only;omega⟩ (λj=>adC.dom ((s,most,V),s.Seed) j) rfl rfl ?_ ?_
  .simp(disch:=omega)only[ZZ,simprocAttr,rch,Ey,AG,AC,faX.ca,faX.H1,Am.c,cloC.ca,cloC.H0,Bh,AY,AZ,CV,Cz,D4]
   try exact⟨rfl,rfl⟩
  simp(disch:=omega)only[ZZ,simprocAttr,rch,Ey,AG,AC,faX.ca,faX.H1,Am.c,cloC.H1,Bh,AY,AZ,sub,Da,Cz,D4];obtain⟨U,hU⟩: ∃U,U=JY ((s,most,V),W.length):=⟨_,rfl⟩;rw[<-hU];subst v3;have O:=hQ.step z h5 c2;rw[<-hV2,show C4 s most (1000 - W.length) W.length V=U from hU.symm] at O;have ad:IntKind.i64.wrap ((n:Int) - 1)=((n - 1:Nat):Int):=by rw[AB (by omega) (by omega)];omega
  refine⟨⟨(n - 1,W.length,U),⟨_,O⟩,?_,by simp only;omega⟩,[(3004,some 3006)],by simp only;omega,?_⟩
  .rw[show n=(n - 1)+1 by omega,IF,Ad (by rw[c2];decide),<-hV2] at q4;exact (BY (IF s most (n - 1) W.length) hU).trans q4
  .simp only[Ak,Bh,AY,AZ];simp(disch:=omega)only[ZZ,simprocAttr,rch,Ey,AG,AC,faX.ca,faX.H1,Am.c,AL,Bk,ad]
 have ai:=AP ha;have G:=v1.gd a ai;have ah:=(GG c4).2 a ai;obtain⟨az,bb⟩:=Wv z G.ok;rw[show 1000 - j=(999 - j)+1 by omega,Vb c4 c3 ha] at v3;refine AE.os (s,a) [] az (λj=>by simp[An,hget]) rfl rfl ?_ ?_
 .simp(disch:=omega)only[ZZ,simprocAttr,rch,Ey,AG,AC,faX.ca,faX.H1,Am.c,newC.ca,CV,Am.c,Ab.c]
 simp(disch:=omega)only[ZZ,simprocAttr,rch,Ey,AG,AC,faX.ca,faX.H1,Am.c,newC.H1,sub];refine N7.os [.val (.ref (AW.c (Gd s a)))] rfl (Gd s a) (by simp only[wkV.ar];exact AW.d_c _) (Vc z G) ?_;simp(disch:=omega)only[ZZ,simprocAttr,rch,Ey,AG,AC,faX.ca,faX.H1,Am.c,wkX.H1,sub];obtain⟨os,hos⟩: ∃os,os=Zd (Gd s a):=⟨_,rfl⟩;have an: ∀o,o∈os↔Es s a o=true:=λo=>by rw[hos];exact MX (Ix G.ok).1
 have bc:os.length<=400000:=by rw[hos];exact Ze (by omega) (Vc z G).2.2.2.2.2
 have ao:bE s a=os.map λo=>Br a o.At o.Tile:=by rw[hos];rfl
 rw[<-hos];have a9:V.length<=400:=by have:=(GG c4).1;omega
 have ac:=Ix G.ok;refine AR.ren ⟨{k:Nat//k<=os.length},λk=>⟨[(66,.im (.int .i64 k.1)),(65,.im (.int .i64 os.length)),(64,.own 3011),(11,.im (.int .i64 j)),(10,.im (.int .i64 W.length)),(8,.ptr 3 0),(3,.ptr 0 0),(1,.im (.int .i64 n))],[(3,(true,Bh s most (addL V ((os.take k.1).map λo=>Br a o.At o.Tile)) 23011)),(23011,(true,AY (addL V ((os.take k.1).map λo=>Br a o.At o.Tile)))),(2,(true,AZ (addL V ((os.take k.1).map λo=>Br a o.At o.Tile)))),(0,(true,.cells 43 ((Am.c s).map .im))),(3011,(true,.arr 72 3 (os.map Ba.c)))],23012⟩,λk=>os.length - k.1,λk=>⟨by simp[ZG,Bh,AY,AZ,Am.c],by simp⟩,⟨⟨0,BP _⟩,[(23011,some 3005)],?_⟩,λk=> ?_⟩
 .simp only[Ak,Bh,AY,AZ,GS,Cs,addL,Rd];simp(disch:=omega)only[ZZ,simprocAttr,rch,Ey,AG,AC,faX.ca,faX.H1,Am.c,AL,Bk]
 obtain⟨k,hk⟩:=k;obtain⟨W3,hW3⟩: ∃W3,W3=addL V ((os.take k).map λo=>Br a o.At o.Tile):=⟨_,rfl⟩;have aj:=N5 ((os.take k).map λo=>Br a o.At o.Tile) V;have aw:W3[j]? =some a:=by rw[hW3];exact N6 ha
 rw[<-hW3] at aj;simp only[EJ,Bw] at aj;simp only[<-hW3];simp only[Bh,AY,AZ];simp(disch:=omega)only[ZZ,simprocAttr,rch,Ey,AG,AC,faX.ca,faX.H1,Am.c,sub,AM];refine⟨λc5=>⟨c5,c5,λp hp=>⟨by omega,by omega,λy hy=> ?_⟩⟩,λc5=> ?_⟩
 .obtain rfl:a=y:=Aw (aw.symm.trans hy);have am:=(an p).1 (AP hp);have af:=Wo z G ah am;have Z:=am;simp only[Es,AO,Bo] at Z;obtain⟨x,hx⟩: ∃x,x=Br a p.At p.Tile:=⟨_,rfl⟩;rw[<-hx] at af;have a8:CJ p.At p.Tile a.Tiles=x.Tiles:=by rw[hx,WE]
  rw[a8];refine⟨⟨ac.1.1,Z.1,(J6 ac.1.2 p.At).1 Z.2.2.1,ac.2⟩,?_⟩;refine .inl (AE.os ((s,most,W3),x) [3,23011,2] ⟨Wu (J8 z) af.ok (af.one z),by simp only;omega⟩ (adC.dom _) rfl rfl ?_ ?_)
  .simp(disch:=omega)only[ZZ,simprocAttr,rch,Ey,AG,AC,faX.ca,faX.H1,Am.c,adC.ca,adC.H0,Bh,AY,AZ,CV,Cz,D4]
   try exact⟨rfl,rfl⟩
  simp(disch:=omega)only[ZZ,simprocAttr,rch,Ey,AG,AC,faX.ca,faX.H1,Am.c,adC.H1,Bh,AY,AZ,sub,Da,Cz,D4];have ay:IntKind.i64.wrap ((k:Int)+1)=((k+1:Nat):Int):=by rw[AB (by omega) (by omega)];rfl
  have O:addL V ((os.take (k+1)).map λo=>Br a o.At o.Tile)=CH W3 x:=by
   rw[HX hp,Ei,Bb,Cs,cT,hW3,hx]
  refine⟨⟨k+1,by omega⟩,[(23011,some 23013)],by simp only;omega,?_⟩;simp only[Ak];simp(disch:=omega)only[ZZ,simprocAttr,rch,Ey,AG,AC,faX.ca,faX.H1,Am.c,AL,Bk,ay,O]
 obtain rfl:k=os.length:=by omega
 rw[El] at hW3;have Q:addL V (bE s a)=W3:=by rw[ao,hW3]
 rw[Q] at v3;have ax:IntKind.i64.wrap ((j:Int)+1)=((j+1:Nat):Int):=by rw[AB (by omega) (by omega)];rfl
 have au:W[j]? =some a:=by
  have hb:=Bd c3;obtain rfl:W[j]=a:=Aw ((v2.get j _ hb).symm.trans ha);exact hb
 refine⟨⟨(j+1,W3),?_,?_,?_,by simp only;omega,by simp only;omega⟩,[(3005,some 23011)],by simp only;omega,?_⟩
 .simp only;rw[<-Q];refine v1.addL λx hx=> ?_
  rw[ao] at hx;obtain⟨o,ho,rfl⟩:=BI.1 hx;have ho:=(an o).1 ho;exact⟨.weak (hQ.inv.rch a (AP au)) ho,Wo z G ah ho⟩
 .simp only;rw[<-Q];exact v2.trans (CG.addL V _)
 .simp only;rw[show 1000 - (j+1)=999 - j by omega];exact v3
 .simp only[Ak,Bh,AY,AZ];simp(disch:=omega)only[ZZ,simprocAttr,rch,Ey,AG,AC,faX.ca,faX.H1,Am.c,AL,Bk,ax]
noncomputable def faC.H1 (a:Am×Int×Int):Ar:=[(0,(true,.arr 41 1 ((ftyF a.1 a.2.1 a.2.2).1.map Ab.c)))]
noncomputable def faC.r0 (a:Am×Int×Int):AV:= .tup [.own 0,.im (.int .i64 (ftyF a.1 a.2.1 a.2.2).2)]
noncomputable def faC.row:Ax:=AE faX.ca (λ_=>[]) 0 (λa=>Zn a.1.Set) (λ_=>false) faC.r0 faC.H1 200000
def Lv{s:Am}{f m:Int}(h:ET s f m≠0):ftyF s f m=([],ET s f m):=by rw[ftyF,Ad h]
def NK:=J @validI_.q<|J @validI_.fv.eq_1<|J @within_.q @within_.fv.eq_1
def faC.ok:AA 48 faC.row:=by
 refine Hd (tC validI_.ok (tC within_.ok (tC faX.ok tN))) Tryz.func48 (exB:=λj=>j==0) (R:=λa r=>r=faC.r0 a) (λ_=>rfl)
  (λa=>by simp[faX.ca,faC.H1,Am.c,AN,AV.bel,AD,Cg,Cx,Ag.nms,A9,AV.nms,An,hget]) (λa p hp=> ?_) (λa r h=>by subst h;exact DK.refl _) ?_
 rotate_left
 intro a O;simp only[Tryz.f48,Option.getD,faX.ca,faC.H1,Am.c];simp(disch:=omega)only[ZZ,simprocAttr,rch,NK,AG,AC,faX.ca,faC.H1,Am.c];rotate_left
 .simp[faC.H1] at hp;subst hp;exact .inr ⟨by omega,by omega,rfl,rfl⟩
 obtain⟨s,f,m⟩:=a;simp only at O⊢;refine⟨O,?_⟩;rw[PD];cases c1:Dw s
 .have G:ET s f m=1:=by simp[ET,c1]
  have z:ftyF s f m=([],1):=by rw[ftyF,G,Ad (by decide)]
  rw[Ai rfl];refine⟨[],[(0,some 2)],⟨[(6,.own 0),(7,.im (.int .i64 1))],faC.H1 (s,f,m),1⟩,?_,by simp[faC.H1,ZG],by simp,?_⟩
  .simp only[Ak,faC.H1,z];simp(disch:=omega)only[ZZ,simprocAttr,rch,NK,AG,AC,faX.ca,faC.H1,Am.c,AL,Bk,Cs]
   try simp
  .simp(disch:=omega)only[ZZ,simprocAttr,rch,NK,AG,AC,faX.ca,faC.H1,Am.c,faC.r0,z]
 rw[Ad (by decide)];cases c2:Bf f 0 4
 .have G:ET s f m=2:=by simp[ET,c1,c2]
  have z:ftyF s f m=([],2):=by rw[ftyF,G,Ad (by decide)]
  rw[Ad (by decide)];refine⟨[],[(0,some 2)],⟨[(6,.own 0),(7,.im (.int .i64 2))],faC.H1 (s,f,m),1⟩,?_,by simp[faC.H1,ZG],by simp,?_⟩
  .simp only[Ak,faC.H1,z];simp(disch:=omega)only[ZZ,simprocAttr,rch,NK,AG,AC,faX.ca,faC.H1,Am.c,AL,Bk,Cs]
   try simp
  .simp(disch:=omega)only[ZZ,simprocAttr,rch,NK,AG,AC,faX.ca,faC.H1,Am.c,faC.r0,z]
 rw[Ai rfl];cases c3:Bf m 1 400
 .have G:ET s f m=2:=by simp[ET,c1,c2,c3]
  have z:ftyF s f m=([],2):=by rw[ftyF,G,Ad (by decide)]
  rw[Ai rfl];refine⟨[],[(0,some 2)],⟨[(6,.own 0),(7,.im (.int .i64 2))],faC.H1 (s,f,m),1⟩,?_,by simp[faC.H1,ZG],by simp,?_⟩
  .simp only[Ak,faC.H1,z];simp(disch:=omega)only[ZZ,simprocAttr,rch,NK,AG,AC,faX.ca,faC.H1,Am.c,AL,Bk,Cs]
   try simp
  .simp(disch:=omega)only[ZZ,simprocAttr,rch,NK,AG,AC,faX.ca,faC.H1,Am.c,faC.r0,z]
 rw[Ad (by decide)];have G:ET s f m=0:=by simp[ET,c1,c2,c3]
 obtain⟨_,g1,g2,g3,Z⟩:=QE G;have hE:=Sc (f:=f) c1 g3 Z;refine AE.os (s,f,m) [] ⟨c1,g1,g2,g3,Z⟩ (λj=>by simp[An,hget]) rfl rfl ?_ ?_
 .simp(disch:=omega)only[ZZ,simprocAttr,rch,NK,AG,AC,faX.ca,faC.H1,Am.c,faX.ca,CV,Am.c]
 simp(disch:=omega)only[ZZ,simprocAttr,rch,NK,AG,AC,faX.ca,faC.H1,Am.c,faX.H1,faX.r0,sub];have Q:ftyF s f m=if (Oq s m f).2=true then ((Oq s m f).1,0) else ([],4):=by rw[ftyF,Ai G,hE]
 cases c4:(Oq s m f).2
 .have z:ftyF s f m=([],4):=by rw[Q,Ad (by rw[c4];decide)]
  rw[Ai rfl];refine⟨[],[(0,some 100002)],⟨[(6,.own 0),(7,.im (.int .i64 4))],faC.H1 (s,f,m),1⟩,?_,by simp[faC.H1,ZG],by simp,?_⟩
  .simp only[Ak,faC.H1,z];simp(disch:=omega)only[ZZ,simprocAttr,rch,NK,AG,AC,faX.ca,faC.H1,Am.c,AL,Bk,Cs]
   try simp
  .simp(disch:=omega)only[ZZ,simprocAttr,rch,NK,AG,AC,faX.ca,faC.H1,Am.c,faC.r0,z]
 .have z:ftyF s f m=((Oq s m f).1,0):=by rw[Q,Ai c4]
  rw[Ad (by decide)];refine⟨[],[(0,some 2)],⟨[(6,.own 0),(7,.im (.int .i64 0))],faC.H1 (s,f,m),1⟩,?_,by simp[faC.H1,ZG],by simp,?_⟩
  .simp only[Ak,faC.H1,z];simp(disch:=omega)only[ZZ,simprocAttr,rch,NK,AG,AC,faX.ca,faC.H1,Am.c,AL,Bk,Cs]
   try simp
  .simp(disch:=omega)only[ZZ,simprocAttr,rch,NK,AG,AC,faX.ca,faC.H1,Am.c,faC.r0,z]
def stl_.fv(a:Am×Ab):Bool:=(Gr) (a.1) (a.2)
def stl_.row:Ax:=vK (b2 (qR Am.d_le) (qR Ab.d_le)) rB (λa=>Dw a.1=true/\good a.1 a.2/\a.2.Tiles.length<500) stl_.fv
def stl_.q:=AX (R:=stl_.row) rfl
def uA:=J @stl_.fv.eq_1 (J @looI_.q @looI_.fv.eq_1)
def stl_.ok:AA 71 stl_.row:=by
 refine vw (tC newC.ok (tC cntC.ok (tC looI_.ok tN))) Tryz.func71 ?_;intro a Q;simp only[Tryz.f71,Option.getD];simp(disch:=omega)only[ZZ,simprocAttr,rch,uA];obtain⟨s,a⟩:=a;obtain⟨Z,h2,h3⟩:=Q;simp only at Z h2 h3⊢;obtain⟨af,ad⟩:=Wv Z h2.ok;have ab:=Ix h2.ok;have O:=Im Z;refine AE.os (s,a) [] af (λj=>by simp[An,hget]) rfl rfl ?_ ?_
 .simp(disch:=omega)only[ZZ,simprocAttr,rch,uA,newC.ca,CV,Am.c,Ab.c]
 simp(disch:=omega)only[ZZ,simprocAttr,rch,uA,newC.H1,sub];obtain⟨hcs,⟨_,ah⟩,ag,hb,ac,ai,hT,aa⟩:=ad;have G:=ag;rw[ah.at] at G;obtain⟨l1,l2,l3⟩:=Tz hT ac aa G;have z:=pI l2.1;rw[l1] at z;refine AE.os (Gd s a) [6,4,5] ⟨l2.2.1,l2.2.2⟩ (λj=>bP _ j) rfl rfl ?_ ?_
 .simp(disch:=omega)only[ZZ,simprocAttr,rch,uA,asmC.ca,DR,D7,BF,Cz,D4,hcs]
 simp(disch:=omega)only[ZZ,simprocAttr,rch,uA,cntC.H1,IK,sub,Cz,D4];by_cases c:Dc (Gd s a).Op=0
 .have e:CY s a=[]:=Ra.1 (by omega);rw[Ai (by omega)];refine⟨⟨O.1.1,ab.1,O.1.2.1.1,by omega⟩,λ_=> ?_⟩;rw[Gr,e];cases EE s a<;>simp;omega
 .rw[Ad (by omega),Gr];cases h:CY s a with
  |nil=>rw[h] at z;exact absurd z.symm c
  |cons _ _=>rfl
def Ii.fv(a:Ab×Am):Bool:=(λa s=> !Gr s a) (a.1) (a.2)
def Ii.row:Ax:=vK (b2 (qR Ab.d_le) (qP 4 Am.d_le)) rB (λa=>Dw a.2=true/\good a.2 a.1/\a.1.Tiles.length<500) Ii.fv
def Ii.q:=AX (R:=Ii.row) rfl
def Ii.ok:AA 70 Ii.row:=by
 refine vw (tC stl_.ok tN) Tryz.func70 ?_;intro a z;simp only[Tryz.f70,Option.getD];simp(disch:=omega)only[ZZ,simprocAttr,rch,Ii.fv,stl_.q,stl_.fv];exact z
def Ig(s:Am)(a:Ab):Bool:= !Gr s a
def HI(s:Am)(l:List Ab):List Ab:=l.filter (Gr s)
def dG(s:Am)(l:List Ab):(HI s l).length<=l.length:=fC _ _
def cZ(s:Am){l:List Ab}{k:Nat}{x:Ab}(h:l[k]? =some x):HI s (l.take (k+1))=HI s (l.take k)++if Ig s x=false then [x] else []:=by
 rw[G9,h,WZ,HI,HI,fM];congr 1;cases hg:Gr s x<;>simp[Ig,hg]
def P1{s:Am}{l:List Ab}{i:Nat}{x:Ab}(z:l.find? (Ig s)=some x)(G:B0 (Ig s) 0 l=(i:Int))(O:l[i]? =some x):HI s (l.take (i+1))=l.take i:=by
 have Q:Ig s x=true:=V8 z;rw[cZ s O,Ad (by rw[Q];simp),CC,HI,V9];intro y Z
 have:=pH (p:=Ig s) l 0 i (by rw[G];simp) y Z
 simpa[Ig] using this
def IdxA.ar:List PK->Option ((List Ab)×Am)
 |[.val (.sl _ _ O),.val (.fn 70 [] [.ref z])]=>(AQ Ab.d O).bind λQ=>(Am.d (z.take 4)).bind λG=>some (Q,G)
 |_=>none
def IdxA.ae(a:(List Ab)×Am):List PK:=[.val (.sl false 1 (a.1.map Ab.c)),.val (.fn 70 [] [.ref (Am.c a.2)])]
def IdxA.le: ∀G a,IdxA.ar G=some a->BM G (IdxA.ae a):=by
 intro G a h;unfold IdxA.ar at h;split at h
 .simp only[EP,AI] at h;obtain⟨Q,h0,O,z,rfl⟩:=h;exact⟨E4 (Et Ab.d_le _ _ h0) (by simp only[BI];rintro r ⟨y,_,rfl⟩;rfl),WM ⟨Vo (GD.trans_take (Am.d_le _ _ z)),trivial⟩,trivial⟩
 .cases h
def IdxA.fv(a:(List Ab)×Am):Int:=(λl s=>B0 (Ig s) 0 l) (a.1) (a.2)
def IdxA.row:Ax:=KE IdxA.ar (λa=>Dw a.2=true/\ ∀x∈a.1,good a.2 x/\x.Tiles.length<500) (λa=>(D.int .i64) (IdxA.fv a))
def IdxA.q:=mS IdxA.row rfl
def IdxA.ok:AA 124 IdxA.row:=by
 refine jJ CS (tC Ii.ok tN) Tryz.func124 rfl (by kernel_rfl) (by kernel_rfl) (ar:=IdxA.ar) (ae:=IdxA.ae) IdxA.le (n:=2) (λ_=>rfl) (by decide) (rc:=(DJ)) (re:=(D.int .i64)) (Nf) (f:=IdxA.fv) ?_;intro a G;simp only[Tryz.f124,Option.getD];simp(disch:=omega)only[ZZ,simprocAttr,rch,IdxA.ae,IdxA.fv,Ii.q,Ii.fv,Eb,D.sc,D.scs,Fc,Bt];intro hn;refine AR.old ⟨{k:Nat//k<=a.1.length/\B0 (Ig a.2) k (a.1.drop k)=B0 (Ig a.2) 0 a.1},λk=>⟨[(8,.im (.int .i64 k.1)),(7,.im (.int .i64 a.1.length)),(6,.im (.sl false 1 (a.1.map Ab.c))),(4,.im (.int .i64 0)),(0,.im (.sl false 1 (a.1.map Ab.c))),(1,.im (.fn 70 [] [.ref (Am.c a.2)]))],[],0⟩,λk=>a.1.length - k.1,λk=>⟨by simp[ZG],AF _⟩,⟨⟨0,by simp⟩,by simp(disch:=omega)only[ZZ,simprocAttr,rch,IdxA.ae,IdxA.fv,Ii.q,Ii.fv,Eb,D.sc,D.scs,Fc,Bt,sub]⟩,λk=> ?_⟩;obtain⟨k,Z,z⟩:=k;simp(disch:=omega)only[ZZ,simprocAttr,rch,IdxA.ae,IdxA.fv,Ii.q,Ii.fv,Eb,D.sc,D.scs,Fc,Bt,sub,AM];refine⟨λO=>⟨O,λx Q=> ?_⟩,λO=> ?_⟩
 .rw[E5 Q,B0] at z;refine⟨⟨G.1,G.2 x (AP Q)⟩,λh=> ?_,λh=>GH O hn ⟨by omega,by rw[<-z,Ad (by simpa[Ig] using h)]⟩⟩;rw[Ai (by simpa[Ig] using h)] at z;exact z
 .rw[CO (by omega),B0] at z;exact z
def dlA.ca(a:List Ab×Am):List AV:=[.own 0,.im (.fn 70 [] [.ref (Am.c a.2)])]
def dlA.H0(a:List Ab×Am):Ar:=[(0,(true,.arr 41 1 (a.1.map Ab.c)))]
def dlA.H1(a:List Ab×Am):Ar:=[(1,(true,.arr 41 1 ((HI a.2 a.1).map Ab.c)))]
def dlA.row:Ax:=AE dlA.ca dlA.H0 1 (λa=>a.1.length<=1000000/\Dw a.2=true/\ ∀x∈a.1,good a.2 x/\x.Tiles.length<500) (λj=>j==0) (λ_=> .own 1) dlA.H1 1000
def WW:=J @IdxA.q<|J @IdxA.fv.eq_1<|J @Ii.q @Ii.fv.eq_1
def dlA.ok:AA 69 dlA.row:=by
 refine Hd (tC IdxA.ok (tC Ii.ok tN)) Tryz.func69 (exB:=λj=>j==1) (R:=λ_ r=>r= .own 1) (λ_=>rfl)
  (λa=>by simp[dlA.ca,dlA.H0,dlA.H1,AN,AV.bel,AD,Cg,Cx,Ag.nms,A9,AV.nms,An,hget]) (λa p hp=> ?_) (λa r h=>by subst h;exact DK.refl _) ?_
 rotate_left
 intro a z;simp only[Tryz.f69,Option.getD,dlA.ca,dlA.H0,dlA.H1];simp(disch:=omega)only[ZZ,simprocAttr,rch,WW,IdxA.ar,AG,AC,dlA.ca,dlA.H0,dlA.H1];obtain⟨z,hs,hg⟩:=z;rw[Ab.d_R,H3];simp only[EA];refine⟨⟨hs,hg⟩,?_⟩;rcases Vk (Ig a.2) a.1 0 with ⟨e1,Z⟩|⟨i0,b0,e1,Z,e3⟩
 .rw[Z,Ai rfl];refine⟨[],[(1,some 0)],⟨[(4,.own 1)],[(1,(true,.arr 41 1 (a.1.map Ab.c)))],2⟩,?_,by simp[ZG],by simp,?_⟩
  .simp only[Ak];simp(disch:=omega)only[ZZ,simprocAttr,rch,WW,IdxA.ar,AG,AC,dlA.ca,dlA.H0,dlA.H1,AL,Bk]
  .simp(disch:=omega)only[ZZ,simprocAttr,rch,WW,IdxA.ar,AG,AC,dlA.ca,dlA.H0,dlA.H1]
   have:HI a.2 a.1=a.1:=by
    rw[HI,V9];intro b hb
    have:=Re.1 e1 b hb
    simpa[Ig] using this
   rw[this]
 .rw[Fj] at Z;rw[Z,Ad (by omega)];have ab:=(BJ.1 e3).1;rw[AB (by omega) (by omega)];obtain⟨l,hl⟩: ∃l,l=a.1:=⟨_,rfl⟩;obtain⟨t,ht⟩: ∃t,t=a.2:=⟨_,rfl⟩;simp only[<-hl,<-ht] at e1 Z e3 ab z hs hg⊢;refine AR.old ⟨{j:Nat//j<=l.length},λj=>⟨[(6,.im (.int .i64 j.1)),(5,.im (.int .i64 (HI t (l.take j.1)).length)),(0,.own 0),(1,.im (.fn 70 [] [.ref (Am.c t)]))],[(0,(true,.arr 41 1 ((HI t (l.take j.1)++l.drop (HI t (l.take j.1)).length).map Ab.c)))],2⟩,λj=>l.length - j.1,λj=>⟨by simp[ZG],by simp⟩,⟨⟨i0+1,by omega⟩,?_⟩,λj=> ?_⟩
  .have h1:=P1 e1 Z e3;simp(disch:=omega)only[ZZ,simprocAttr,rch,WW,IdxA.ar,AG,AC,dlA.ca,dlA.H0,dlA.H1,sub,h1,Bw];rw[show min i0 l.length=i0 by omega,HZ];exact⟨⟨by omega,rfl⟩,rfl⟩
  obtain⟨j,hj⟩:=j;obtain⟨kp,hkp⟩: ∃kp,kp=HI t (l.take j):=⟨_,rfl⟩;have ad:kp.length<=j:=by
   have:=dG t (l.take j)
   rw[Bw] at this;rw[hkp];omega
  have Q:(kp++l.drop kp.length).length=l.length:=by simp;omega
  simp only[<-hkp];simp(disch:=omega)only[ZZ,simprocAttr,rch,WW,IdxA.ar,AG,AC,dlA.ca,dlA.H0,dlA.H1,sub,AM,Q];intro _;refine⟨λO=>⟨O,O,λb hb=> ?_⟩,λO=> ?_⟩
  .have aa:l[j]? =some b:=by
    rw[E7 ad,Ez,show kp.length+(j - kp.length)=j by omega] at hb;exact hb
   have G:=cZ t aa;rw[<-hkp] at G;refine⟨⟨hs,hg b (AP aa)⟩,λhw=>⟨by omega,by omega,λc _=>⟨⟨j+1,by omega⟩,by simp only;omega,?_⟩⟩,λhw=>⟨⟨j+1,by omega⟩,by simp only;omega,?_⟩⟩
   .rw[Ai (by simpa[Ig] using hw)] at G;simp only[G,BQ,Cr,F3];refine⟨⟨by rw[AB (by omega) (by omega)];omega,by rw[AB (by omega) (by omega)];omega⟩,?_⟩;have h1:(kp++l.drop kp.length).set kp.length b=kp++[b]++l.drop (kp.length+1):=by
     obtain⟨c,hc⟩: ∃c,l[kp.length]? =some c:=⟨_,Bd (by omega)⟩;rw[E5 hc,fD _ _ (AF _),G5,ZL,E0];rfl
    rw[<-h1,KN];rfl
   .rw[Ad (by simpa[Ig] using hw),CC] at G;simp only[G];exact⟨⟨by rw[AB (by omega) (by omega)];omega,trivial⟩,trivial⟩
  .refine⟨by omega,false,?_⟩;have ac:j=l.length:=by omega
   subst ac;rw[El] at hkp;simp(disch:=omega)only[ZZ,simprocAttr,rch,WW,IdxA.ar,AG,AC,dlA.ca,dlA.H0,dlA.H1,Q];have hA:List.take kp.length ((kp++l.drop kp.length).map Ab.c)=kp.map Ab.c:=by
    rw[<-vD,ZR]
   rw[hA];refine⟨by simp only[BQ,EJ];omega,true,?_⟩;simp(disch:=omega)only[ZZ,simprocAttr,rch,WW,IdxA.ar,AG,AC,dlA.ca,dlA.H0,dlA.H1,Q];refine⟨[],[(1,some 2)],⟨[(4,.own 1)],[(1,(true,.arr 41 1 (kp.map Ab.c)))],2⟩,?_,by simp[ZG],by simp,?_⟩
   .simp only[Ak];simp(disch:=omega)only[ZZ,simprocAttr,rch,WW,IdxA.ar,AG,AC,dlA.ca,dlA.H0,dlA.H1,AL,Bk];rw[show ((kp.length:Int) - 0).toNat=(kp.map Ab.c).length by simp,E0,ZR]
   .simp(disch:=omega)only[ZZ,simprocAttr,rch,WW,IdxA.ar,AG,AC,dlA.ca,dlA.H0,dlA.H1,hkp]
 simp[dlA.H1] at hp;subst hp;exact .inr ⟨by omega,by omega,rfl,rfl⟩
def dlA.H0_dom(a:List Ab×Am)(j:Nat):An (dlA.H0 a) j=true↔j<1:=by
 simp only[An,dlA.H0,hget];by_cases h0:j=0
 .subst h0;simp
 .have z:(0==j)=false:=by simp;omega
  simp[z];omega
def cS{s:Am}{f m:Int}(h:(ftyF s f m).2=0):ET s f m=0/\(ftyF s f m).1.length<=400/\ ∀a∈(ftyF s f m).1,good s a/\a.Tiles.length<500:=by
 by_cases z:ET s f m=0
 case neg=>rw[Lv z] at h;exact absurd h z
 obtain⟨c1,g1,g2,g3,Q⟩:=QE z;have hE:=Sc (f:=f) c1 g3 Q;have O:ftyF s f m=if (Oq s m f).2=true then ((Oq s m f).1,0) else ([],4):=by rw[ftyF,Ai z,hE]
 obtain⟨R,hR⟩: ∃R,R=IF s m f.toNat 0 (C4 s m 1000 0 [s.Seed]):=⟨_,rfl⟩;have e:Oq s m f=(C6 R,!Bv m R):=by rw[hR];rfl
 have Z:=(dA c1 Q f.toNat 0 0 _ (Ve.first c1 Q)).1;rw[<-hR] at Z;rw[e] at O;cases hf:Bv m R with
 |true=>
  rw[O,hf,Ad (show ¬(C6 R,!true).2=true by simp)] at h;cases h
 |false=>
  rw[O,hf,Ai (show (C6 R,!false).2=true from rfl)];obtain⟨q1,q2⟩:=GG hf;refine⟨z,by simp only[dC];omega,λa G=> ?_⟩;have G:=(QC R).mem_iff.1 G;exact⟨Z.gd a G,q2 a G⟩
def Sn(s:Am)(f m:Int):ftyE s f m=if (ftyF s f m).2=0 then (HI s (ftyF s f m).1,0) else ([],(ftyF s f m).2):=by
 by_cases h:ET s f m=0
 .have e:ftyF s f m=ftyS s f.toNat m:=by rw[ftyF,Ai h]
  rw[e,ftyE,Ai h];rfl
 .rw[Lv h,ftyE,Ad h,Ad (show ¬(([]:List Ab),ET s f m).2=0 from h)]
noncomputable def seC.H1 (a:Am×Int×Int):Ar:=[(0,(true,.arr 41 1 ((ftyE a.1 a.2.1 a.2.2).1.map Ab.c)))]
noncomputable def seC.r0 (a:Am×Int×Int):AV:= .tup [.own 0,.im (.int .i64 (ftyE a.1 a.2.1 a.2.2).2)]
noncomputable def seC.row:Ax:=AE faX.ca (λ_=>[]) 0 (λa=>Zn a.1.Set) (λ_=>false) seC.r0 seC.H1 300000
def seC.ok:AA 33 seC.row:=by
 refine Hd (tC faC.ok (tC dlA.ok tN)) Tryz.func33 (exB:=λj=>j==0) (R:=λa r=>r=seC.r0 a) (λ_=>rfl)
  (λa=>by simp[faX.ca,seC.H1,Am.c,AN,AV.bel,AD,Cg,Cx,Ag.nms,A9,AV.nms,An,hget]) (λa p hp=> ?_) (λa r h=>by subst h;exact DK.refl _) ?_
 rotate_left
 intro a z;simp only[Tryz.f33,Option.getD,faX.ca,seC.H1,Am.c];simp(disch:=omega)only[ZZ,simprocAttr,rch,AG,AC,faX.ca,seC.H1,Am.c];rotate_left
 .simp[seC.H1] at hp;subst hp;exact .inr ⟨by omega,by omega,rfl,rfl⟩
 obtain⟨s,f,m⟩:=a;simp only at z⊢;have O:=Sn s f m;refine AE.os (s,f,m) [] z (λj=>by simp[An,hget]) rfl rfl ?_ ?_
 .simp(disch:=omega)only[ZZ,simprocAttr,rch,AG,AC,faX.ca,seC.H1,Am.c,faX.ca,CV,Am.c]
 simp(disch:=omega)only[ZZ,simprocAttr,rch,AG,AC,faX.ca,seC.H1,Am.c,faC.H1,faC.r0,sub];by_cases c:(ftyF s f m).2=0
 case neg=>
  have G:ftyE s f m=([],(ftyF s f m).2):=by rw[O,Ad c]
  rw[Ai c];refine⟨[],[(0,some 200002)],⟨[(6,.own 0),(7,.im (.int .i64 (ftyF s f m).2))],seC.H1 (s,f,m),1⟩,?_,by simp[seC.H1,ZG],by simp,?_⟩
  .simp only[Ak,seC.H1,G];simp(disch:=omega)only[ZZ,simprocAttr,rch,AG,AC,faX.ca,seC.H1,Am.c,AL,Bk,Cs]
   try simp
  .simp(disch:=omega)only[ZZ,simprocAttr,rch,AG,AC,faX.ca,seC.H1,Am.c,seC.r0,G]
 have G:ftyE s f m=(HI s (ftyF s f m).1,0):=by rw[O,Ai c]
 rw[Ad (λg=>g c)];obtain⟨Q,hl,Z⟩:=cS c;left;refine AE.os ((ftyF s f m).1,s) [2] (And.intro (BR hl (by decide)) (And.intro (QE Q).1 Z)) (λj=>dlA.H0_dom _ j) rfl rfl ?_ ?_
 .simp(disch:=omega)only[ZZ,simprocAttr,rch,AG,AC,faX.ca,seC.H1,Am.c,dlA.ca,dlA.H0,Am.c,BF,Cz]
 simp(disch:=omega)only[ZZ,simprocAttr,rch,AG,AC,faX.ca,seC.H1,Am.c,dlA.H1,sub];refine⟨[],[(0,some 200002)],⟨[(6,.own 0),(7,.im (.int .i64 0))],seC.H1 (s,f,m),1⟩,?_,by simp[seC.H1,ZG],by simp,?_⟩
 .simp only[Ak,seC.H1,G];simp(disch:=omega)only[ZZ,simprocAttr,rch,AG,AC,faX.ca,seC.H1,Am.c,AL,Bk,Cs]
  try simp
 .simp(disch:=omega)only[ZZ,simprocAttr,rch,AG,AC,faX.ca,seC.H1,Am.c,seC.r0,G]
def Lr(a b:Ab):List Ac:=(b.Tiles.filter λx=> !decide (Bq a x.At=x.Tile)).map Aj.At
def pV(a:Ab){l:List Aj}{k:Nat}{x:Aj}(h:l[k]? =some x):Lr a ⟨l.take (k+1)⟩=Lr a ⟨l.take k⟩++if Bq a x.At=x.Tile then [] else [x.At]:=by
 simp only[Lr];rw[G9,h,WZ,fM,Ei];congr 1;by_cases c:Bq a x.At=x.Tile<;>simp[c]
def Ls(a b:Ab):(Lr a b).length<=b.Tiles.length:=by
 rw[Lr,EJ];exact fC _ _
def erI_.fv(a:Ab×Ab):List Ac:=(Lr) (a.1) (a.2)
def erI_.row:Ax:=vK (b2 (qR Ab.d_le) (qR Ab.d_le)) (rS Ac.d_le Ac.c_n) (λa=>Ck none a.1.Tiles=true/\a.2.Tiles.length<=1000000) erI_.fv
def erI_.q:=AX (R:=erI_.row) rfl
def uB:=J @erI_.fv.eq_1 (J @at_.q @at_.fv.eq_1)
def erI_.ok:AA 44 erI_.row:=by
 refine vw (tC at_.ok tN) Tryz.func44 ?_;intro a G;simp only[Tryz.f44,Option.getD];simp(disch:=omega)only[ZZ,simprocAttr,rch,uB];obtain⟨a,b⟩:=a;obtain⟨h1,h2⟩:=G;simp only at h1 h2⊢;intro _;refine AR.ren ⟨{k:Nat//k<=b.Tiles.length},λk=>⟨[(11,.im (.int .i64 k.1)),(10,.im (.int .i64 b.Tiles.length)),(9,.im (.sl false 3 (b.Tiles.map Aj.c))),(5,.own 4),(2,.ptr 0 0)],[(4,(true,.arr 70 2 ((Lr a ⟨b.Tiles.take k.1⟩).map Ac.c))),(0,(true,.cells 41 [.im (.sl false 3 (a.Tiles.map Aj.c))]))],5⟩,λk=>b.Tiles.length - k.1,λk=>⟨by simp[ZG],by simp⟩,⟨⟨0,BP _⟩,[(4,some 3)],?_⟩,λk=> ?_⟩
 .simp only[Ak];simp(disch:=omega)only[ZZ,simprocAttr,rch,uB,AL,Bk,GS,Lr,fJ,Cs]
  try simp
 obtain⟨k,hk⟩:=k;have Q:=Ls a ⟨b.Tiles.take k⟩;simp only[Bw] at Q;simp(disch:=omega)only[ZZ,simprocAttr,rch,uB,sub,AM];refine⟨λZ=>⟨Z,λx hx=>⟨h1,?_⟩⟩,λZ=> ?_⟩
 .have O:=pV a hx;have z:IntKind.i64.wrap ((k:Int)+1)=((k+1:Nat):Int):=by rw[AB (by omega) (by omega)];rfl
  refine⟨λc=>⟨?_,by omega,⟨k+1,by omega⟩,[(4,some 7)],by simp only;omega,?_⟩,λc=>⟨⟨k+1,by omega⟩,[(4,some 4)],by simp only;omega,?_⟩⟩
  .simp[FI,FJ,Bn,D.one]
  .rw[Ad c] at O;simp only[Ak];simp(disch:=omega)only[ZZ,simprocAttr,rch,uB,AL,Bk,z,O,Ei,Bb,Cs]
  .rw[Ai (G8.1 c),CC] at O;simp only[Ak];simp(disch:=omega)only[ZZ,simprocAttr,rch,uB,AL,Bk,z,O]
 .obtain rfl:k=b.Tiles.length:=by omega
  rw[El]
def Qi(a:Ab)(l:List Ab):Int:=l.foldl (λw b=>DF w (Lr a b).length) 0
def qJ(a:Ab){l:List Ab}{k:Nat}{x:Ab}(h:l[k]? =some x):Qi a (l.take (k+1))=DF (Qi a (l.take k)) (Lr a x).length:=by
 rw[Qi,G9,h,WZ,uJ];rfl
noncomputable def ftyW (s:Am) (a:Ab) (f m:Int):Int×Int:=
 if Ck none a.Tiles=true/\a.Tiles.length<=500 then (if (ftyE s f m).2=0 then (Qi a (ftyE s f m).1,0) else (0,(ftyE s f m).2)) else (0,1)
def qD{s:Am}{f m:Int}(h:(ftyE s f m).2=0):(ftyE s f m).1.length<=400/\ ∀b∈(ftyE s f m).1,good s b/\b.Tiles.length<500:=by
 have z:=Sn s f m;by_cases c:(ftyF s f m).2=0
 .rw[Ai c] at z;obtain⟨_,Q,O⟩:=cS c;rw[z];exact⟨BR (dG _ _) Q,λb G=>O b (Rc.1 G).1⟩
 .rw[Ad c] at z;rw[z] at h;exact absurd h c
noncomputable def worC.fv (a:Am×Ab×Int×Int):Int×Int:=(ftyW) (a.1) (a.2.1) (a.2.2.1) (a.2.2.2)
def worC.row:Ax:=vK (b4 (qR Am.d_le) (qR Ab.d_le) qI qI) (r2 rI rI) (λa=>Zn a.1.Set) worC.fv
def worC.q:=AX (R:=worC.row) rfl
def lU:=J @worC.fv.eq_1<|J @hasForm_.q<|J @hasForm_.fv.eq_1<|J @erI_.q @erI_.fv.eq_1
def worC.ok:AA 12 worC.row:=by
 refine vw (tC hasForm_.ok (tC seC.ok (tC erI_.ok tN))) Tryz.func12 ?_;intro a z;simp only[Tryz.f12,Option.getD];simp(disch:=omega)only[ZZ,simprocAttr,rch,lU];obtain⟨s,a,f,m⟩:=a;simp only at z⊢;by_cases c1:Ck none a.Tiles=true/\a.Tiles.length<=500
 case neg=>
  rw[Ai (by cases h:Ck none a.Tiles<;>simp_all),ftyW,Ad c1]
 rw[Ad (by rw[c1.1,JS c1.2];decide)];have hW:ftyW s a f m=if (ftyE s f m).2=0 then (Qi a (ftyE s f m).1,0) else (0,(ftyE s f m).2):=by rw[ftyW,Ai c1]
 refine AE.os (s,f,m) [] z (λj=>by simp[An,hget]) rfl rfl ?_ ?_
 .simp(disch:=omega)only[ZZ,simprocAttr,rch,lU,faX.ca,CV,Am.c]
 simp(disch:=omega)only[ZZ,simprocAttr,rch,lU,seC.H1,seC.r0,sub];by_cases c:(ftyE s f m).2=0
 case neg=>rw[Ai c,hW,Ad c]
 rw[Ad (λg=>g c)];rw[Ai c] at hW;rw[hW];obtain⟨hl,Z⟩:=qD c;obtain⟨L,hL⟩: ∃L,L=(ftyE s f m).1:=⟨_,rfl⟩;rw[<-hL] at hl Z⊢;intro _;refine AR.ren ⟨{k:Nat//k<=L.length},λk=>⟨[(30,.im (.int .i64 k.1)),(29,.im (.int .i64 L.length)),(28,.own 2),(12,.im (.int .i64 (Qi a (L.take k.1)))),(5,.ptr 1 0)],[(2,(true,.arr 41 1 (L.map Ab.c))),(1,(true,.cells 41 [.im (.sl false 3 (a.Tiles.map Aj.c))]))],300002⟩,λk=>L.length - k.1,λk=>⟨by simp[ZG],by simp⟩,⟨⟨0,BP _⟩,[],?_⟩,λk=> ?_⟩
 .simp only[Ak];simp(disch:=omega)only[ZZ,simprocAttr,rch,lU,AL,Bk,GS,Qi,Rd]
  try simp
 obtain⟨k,hk⟩:=k;simp(disch:=omega)only[ZZ,simprocAttr,rch,lU,sub,AM];refine⟨λG=> ?_,λG=> ?_⟩
 .refine⟨G,G,λx hx=>⟨⟨c1.1,by have:=(Z x (AP hx)).2;omega⟩,λ_=>⟨⟨k+1,by omega⟩,[],by simp only;omega,?_⟩⟩⟩;have O:IntKind.i64.wrap ((k:Int)+1)=((k+1:Nat):Int):=by rw[AB (by omega) (by omega)];rfl
  have Q:max (Qi a (L.take k)) ((Lr a x).length:Int)=Qi a (L.take (k+1)):=by
   rw[qJ a hx,DF]
   split<;>omega
  rw[Q];simp only[Ak];simp(disch:=omega)only[ZZ,simprocAttr,rch,lU,AL,Bk,O]
 .rw[DP (by omega)]
noncomputable def enF (s:Am) (f m:Int):List Ab×Int:=if (ftyS s f.toNat m).2=0 then (HI s (ftyS s f.toNat m).1,0) else ([],(ftyS s f.toNat m).2)
def L5(s:Am)(f m:Int):ftyE s f m=if ET s f m=0 then enF s f m else ([],ET s f m):=rfl
def X7{s:Am}{f m:Int}(z:ET s f m=0)(h:(ftyS s f.toNat m).2=0):(ftyS s f.toNat m).1.length<=400/\ ∀b∈(ftyS s f.toNat m).1,good s b/\b.Tiles.length<500:=by
 have e:ftyF s f m=ftyS s f.toNat m:=by rw[ftyF,Ai z]
 have:=cS (s:=s) (f:=f) (m:=m) (by rw[e];exact h)
 rw[e] at this;exact this.2
noncomputable def enS_.fv (a:Am×Int×Int):(List Ab)×Int:=(enF) (a.1) (a.2.1) (a.2.2)
def enS_.row:Ax:=vK (b3 (qP 4 Am.d_le) qI qI) (r2 (rS Ab.d_le Ab.c_n) rI) (λa=>ET a.1 a.2.1 a.2.2=0) enS_.fv
def enS_.q:=AX (R:=enS_.row) rfl
def uC:=J @enS_.fv.eq_1<|J @ftS_.q<|J @ftS_.fv.eq_1<|J @setB_.q @setB_.fv.eq_1
def enS_.ok:AA 38 enS_.row:=by
 refine vw (tC ftS_.ok (tC setB_.ok tN)) Tryz.func38 ?_;intro a z;simp only[Tryz.f38,Option.getD];simp(disch:=omega)only[ZZ,simprocAttr,rch,uC];obtain⟨s,f,m⟩:=a;simp only at z⊢;refine⟨QE z,?_⟩;by_cases c:(ftyS s f.toNat m).2=0
 case neg=>rw[Ai c,enF,Ad c]
 rw[Ad (λg=>g c),enF,Ai c];obtain⟨hl,hg⟩:=X7 z c;obtain⟨L,hL⟩: ∃L,L=(ftyS s f.toNat m).1:=⟨_,rfl⟩;rw[<-hL] at hl hg⊢;have hs:=(QE z).1;have O:=Im hs;refine AR.ren ⟨{k:Nat//k<=L.length},λk=>⟨[(11,.im (.int .i64 k.1)),(10,.own 3),(8,.im (.sl false 1 (L.map Ab.c))),(0,.ptr 0 0)],[(3,(true,.arr 41 1 ((HI s (L.take k.1)).map Ab.c))),(0,(false,.view (Am.c s)))],4⟩,λk=>L.length - k.1,λk=>⟨by simp[ZG,Am.c],by simp⟩,⟨⟨0,BP _⟩,[(3,some 2)],?_⟩,λk=> ?_⟩
 .simp only[Ak];simp(disch:=omega)only[ZZ,simprocAttr,rch,uC,AL,Bk,GS,HI,fJ,Cs]
  try simp
 obtain⟨k,hk⟩:=k;have ac:=dG s (L.take k);simp only[Bw] at ac;simp(disch:=omega)only[ZZ,simprocAttr,rch,uC,sub,AM];refine λ_=>⟨λZ=>⟨Z,λx hx=> ?_⟩,λZ=> ?_⟩
 .have G:=cZ s hx;have Q:IntKind.i64.wrap ((k:Int)+1)=((k+1:Nat):Int):=by rw[AB (by omega) (by omega)];rfl
  obtain⟨ab,ad⟩:=hg x (AP hx);have aa:=Ix ab.ok;refine⟨⟨O.1.1,aa.1,O.1.2.1.1,by omega,by have:=O.1.2.2.1;omega⟩,λc4=>⟨Z,λy hy=> ?_⟩,λc4=>⟨⟨k+1,by omega⟩,[(3,some 3)],by simp only;omega,?_⟩⟩
  .obtain rfl:x=y:=Aw (hx.symm.trans hy);rw[Ai (by simpa[Ig] using c4)] at G;refine⟨by simp[FI,FJ,Bn,D.one],by omega,⟨k+1,by omega⟩,[(3,some 5)],by simp only;omega,?_⟩;simp only[Ak];simp(disch:=omega)only[ZZ,simprocAttr,rch,uC,AL,Bk,Q,G,Ei,Bb,Cs]
  .rw[Ad (by simpa[Ig] using c4),CC] at G;simp only[Ak];simp(disch:=omega)only[ZZ,simprocAttr,rch,uC,AL,Bk,Q,G]
 .rw[DP (by omega)];rw[Ab.d_R,H3]
def erS_.fv(a:Ab×Ab):List Ac:=(Lr) (a.1) (a.2)
def erS_.row:Ax:=vK (b2 (qP 1 Ab.d_le) (qP 1 Ab.d_le)) (rS Ac.d_le Ac.c_n) (λa=>Ck none a.1.Tiles=true/\a.2.Tiles.length<=1000000) erS_.fv
def erS_.q:=AX (R:=erS_.row) rfl
def uD:=J @erS_.fv.eq_1 (J @l03At.q @l03At.fv.eq_1)
def erS_.ok:AA 40 erS_.row:=by
 refine vw (tC l03At.ok tN) Tryz.func40 ?_;intro a G;simp only[Tryz.f40,Option.getD];simp(disch:=omega)only[ZZ,simprocAttr,rch,uD];obtain⟨a,b⟩:=a;obtain⟨h1,h2⟩:=G;simp only at h1 h2⊢;refine AR.ren ⟨{k:Nat//k<=b.Tiles.length},λk=>⟨[(6,.im (.int .i64 k.1)),(5,.own 4),(0,.ptr 0 0),(1,.ptr 1 0)],[(4,(true,.arr 70 2 ((Lr a ⟨b.Tiles.take k.1⟩).map Ac.c))),(0,(false,.view (Ab.c a))),(1,(false,.view (Ab.c b)))],5⟩,λk=>b.Tiles.length - k.1,λk=>⟨by simp[ZG,Ab.c],by simp⟩,⟨⟨0,BP _⟩,[(4,some 3)],?_⟩,λk=> ?_⟩
 .simp only[Ak];simp(disch:=omega)only[ZZ,simprocAttr,rch,uD,AL,Bk,GS,Lr,fJ,Cs]
  try simp
 obtain⟨k,hk⟩:=k;have Z:=Ls a ⟨b.Tiles.take k⟩;simp only[Bw] at Z;simp(disch:=omega)only[ZZ,simprocAttr,rch,uD,sub,AM];refine λ_=>⟨λO=>⟨O,λx hx=>⟨h1,O,λy hy=> ?_⟩⟩,λO=> ?_⟩
 .obtain rfl:x=y:=Aw (hx.symm.trans hy);have Q:=pV a hx;have z:IntKind.i64.wrap ((k:Int)+1)=((k+1:Nat):Int):=by rw[AB (by omega) (by omega)];rfl
  refine⟨λc=>⟨O,λy hy=> ?_⟩,λc=>⟨⟨k+1,by omega⟩,[(4,some 4)],by simp only;omega,?_⟩⟩
  .obtain rfl:x=y:=Aw (hx.symm.trans hy);rw[Ad c] at Q;refine⟨by simp[FI,FJ,Bn,D.one],by omega,⟨k+1,by omega⟩,[(4,some 6)],by simp only;omega,?_⟩;simp only[Ak];simp(disch:=omega)only[ZZ,simprocAttr,rch,uD,AL,Bk,z,Q,Ei,Bb,Cs]
  .rw[Ai (G8.1 c),CC] at Q;simp only[Ak];simp(disch:=omega)only[ZZ,simprocAttr,rch,uD,AL,Bk,z,Q]
 .obtain rfl:k=b.Tiles.length:=by omega
  rw[El]
noncomputable def worS_.fv (a:Am×Ab×Int×Int):Int×Int:=(ftyW) (a.1) (a.2.1) (a.2.2.1) (a.2.2.2)
def worS_.row:Ax:=vK (b4 (qR Am.d_le) (qR Ab.d_le) qI qI) (r2 rI rI) (λa=>True) worS_.fv
def worS_.q:=AX (R:=worS_.row) rfl
def Yat:=J @worS_.fv.eq_1<|J @l03Form.q<|J @l03Form.fv.eq_1<|J @ftA_.q<|J @ftA_.fv.eq_1<|J @enS_.q<|J @enS_.fv.eq_1<|J @erS_.q<|J @erS_.fv.eq_1<|J @l00Max.q @l00Max.fv.eq_1
def worS_.ok:AA 9 worS_.row:=by
 refine vw (tC l03Form.ok (tC ftA_.ok (tC enS_.ok (tC erS_.ok (tC l00Max.ok tN))))) Tryz.func9 ?_;intro a G;simp only[Tryz.f9,Option.getD];simp(disch:=omega)only[ZZ,simprocAttr,rch,Yat];obtain⟨s,a,f,m⟩:=a;simp only at G⊢;by_cases c1:Ck none a.Tiles=true/\a.Tiles.length<=500
 case neg=>
  rw[Ai (by cases h:Ck none a.Tiles<;>simp_all),ftyW,Ad c1]
 rw[Ad (by rw[c1.1,JS c1.2];decide)];have hW:ftyW s a f m=if (ftyE s f m).2=0 then (Qi a (ftyE s f m).1,0) else (0,(ftyE s f m).2):=by rw[ftyW,Ai c1]
 by_cases z:ET s f m=0
 case neg=>
  have e:ftyE s f m=([],ET s f m):=by rw[L5,Ad z]
  rw[Ai z,hW,e,Ad (show ¬(([]:List Ab),ET s f m).2=0 from z)]
 have e:ftyE s f m=enF s f m:=by rw[L5,Ai z]
 rw[Ad (λg=>g z)];refine⟨z,?_⟩;rw[e] at hW;by_cases c:(enF s f m).2=0
 case neg=>rw[Ai c,hW,Ad c]
 rw[Ad (λg=>g c)];rw[Ai c] at hW;rw[hW];obtain⟨hl,O⟩:=qD (s:=s) (f:=f) (m:=m) (by rw[e];exact c);rw[e] at hl O;obtain⟨L,hL⟩: ∃L,L=(enF s f m).1:=⟨_,rfl⟩;rw[<-hL] at hl O⊢;refine AR.ren ⟨{k:Nat//k<=L.length},λk=>⟨[(14,.im (.int .i64 k.1)),(13,.im (.int .i64 (Qi a (L.take k.1)))),(11,.im (.sl false 1 (L.map Ab.c))),(5,.ptr 1 0)],[(1,(true,.cells 41 [.im (.sl false 3 (a.Tiles.map Aj.c))]))],2⟩,λk=>L.length - k.1,λk=>⟨by simp[ZG],by simp⟩,⟨⟨0,BP _⟩,[],?_⟩,λk=> ?_⟩
 .simp only[Ak];simp(disch:=omega)only[ZZ,simprocAttr,rch,Yat,AL,Bk,GS,Qi,Rd]
  try simp
 obtain⟨k,hk⟩:=k;simp(disch:=omega)only[ZZ,simprocAttr,rch,Yat,sub,AM];refine λ_=>⟨λZ=>⟨Z,λx hx=>⟨⟨c1.1,by have:=(O x (AP hx)).2;omega⟩,λ_=>⟨⟨k+1,by omega⟩,[],by simp only;omega,?_⟩⟩⟩,λZ=>by rw[DP (by omega)]⟩
 have Q:IntKind.i64.wrap ((k:Int)+1)=((k+1:Nat):Int):=by rw[AB (by omega) (by omega)];rfl
 rw[<-qJ a hx];simp only[Ak];simp(disch:=omega)only[ZZ,simprocAttr,rch,Yat,AL,Bk,Q]
def lI{n:Nat}{l:Int}(h:0<=Dj n l):(n:Int)<=l/\Dj n l<=l/\0<=l:=by
 simp only[Dj] at h⊢;split at h
 .omega
 .rename_i c;rw[Ad c];omega
def Qu5: ∀(a:List Tile) (l:Int),0<=l->l<=1048576->0<=HP HN a l-> ∀x∈a,x.Sides.length<=1073741824
 |[],_,_,_,_=>by intro x z;cases z
 |y::r,l,h0,Q,h=>by
  simp only[HP] at h;split at h
  .omega
  .rename_i c;have G:0<=HN y l:=by omega
   have O:0<=Dj y.Name.size l:=by
    simp only[HN] at G;split at G
    .omega
    .omega
   have e:HN y l=Dj y.Sides.length (Dj y.Name.size l):=by
    simp only[HN];rw[Ad (by omega)]
   rw[e] at G h;obtain⟨a1,a2,a3⟩:=lI G;obtain⟨b1,b2,b3⟩:=lI O;intro x z;rcases Bx.1 z with rfl|z
   .omega
   .exact Qu5 r _ G (by omega) h x z
def UM{s:A8}{l:Int}(Q: -1<=l)(Z:l<=1048576)(h:0<=Vw s l):U5 s:=by
 have hg:=Qo1 s.Glues l Q;simp only[Vw] at h;split at h
 .omega
 rename_i c;have z:0<=JA s.Glues l:=by omega
 have O:0<=Dj s.Glues.length l:=by
  simp only[JA] at z;split at z
  .omega
  .omega
 have G:0<=Dj s.Tiles.length (JA s.Glues l):=by
  simp only[QI] at h;split at h
  .omega
  .omega
 have e:QI s.Tiles (JA s.Glues l)=HP HN s.Tiles (Dj s.Tiles.length (JA s.Glues l)):=by
  simp only[QI];rw[Ad (by omega)]
 rw[e] at h;obtain⟨a1,a2,a3⟩:=lI O;obtain⟨b1,b2,b3⟩:=lI G;exact⟨by omega,by omega,Qu5 s.Tiles _ G (by omega) h⟩
def UN{s:Am}{l:Int}(G: -1<=l)(z:l<=1048576)(h:0<=Zz s l):aY s:=by
 have O:=Qxk s.Set l G;simp only[Zz] at h;split at h
 .omega
 rename_i c;obtain⟨a1,a2,a3⟩:=lI h;exact⟨UM G z (by omega),by omega⟩
def lawWE.rc:D->Option (Bool):=VL
def lawWE.re:Bool->D:=D.bool
def lawWE.rle: ∀d b,lawWE.rc d=some b->Le d (lawWE.re b):=pJ
def lawWE.ar:List PK->Option (Am×Ab×Int×Int):=a4 (kR Am.d) (kR Ab.d) kI kI
def lawWE.fv(a:Am×Ab×Int×Int):Bool:=(λ_ _ _ _=>true) (a.1) (a.2.1) (a.2.2.1) (a.2.2.2)
def lawWE.row:Ax:=vK (b4 (qR Am.d_le) (qR Ab.d_le) qI qI) (RK.mk lawWE.rc lawWE.re lawWE.rle) (λa=>OB a.1.Set) lawWE.fv
def lawWE.q:=AX (R:=lawWE.row) rfl
def lawWE.ok:AA 3 lawWE.row:=by
 refine vw (tC szSystem.ok (tC szAssembly.ok (tC toSystem.ok (tC toAssembly.ok (tC worS_.ok (tC worC.ok (tC eqSystem.ok (tC eqAssembly.ok tN)))))))) Tryz.func3 ?_;intro a z;simp only[Tryz.f3,Option.getD];simp(maxSteps:=9^9)(disch:=omega)only[ZZ,simprocAttr,rch,lawWE.fv,lawWE.rc,szSystem.q,szSystem.fv,szAssembly.q,szAssembly.fv,toSystem.q,toSystem.fv,toAssembly.q,toAssembly.fv,worS_.q,worS_.fv,worC.q,worC.fv,eqSystem.q,eqSystem.fv,eqAssembly.q,eqAssembly.fv];obtain⟨s,b,f,m⟩:=a;simp only at z⊢;refine⟨z,?_⟩;split
 .trivial
 rename_i c1;have G:=UN (s:=s) (l:=1048576) (by decide) (by decide) (by omega);have Z:=YT s 1048576 (by decide);refine⟨⟨by omega,by omega⟩,?_⟩;split
 .trivial
 rename_i Q;obtain⟨b1,_,_⟩:=lI (n:=b.Tiles.length) (l:=Zz s 1048576) (by simp only[Ni] at Q;omega);have O:b.Tiles.length<=1073741824:=by omega
 exact⟨G,O,G,O,z,G,O⟩
end Go.Ae
