/- Lemmas. Conditions: none. -/
import Derived.Test.YtpdpgenppceapaaGreatP07
import Derived.ProofKit
import Derived.SizedLaws
import Derived.OpenShut
import Derived.Test.YtpdpgenppceapaaGreatRows
import Derived.Carry
import Derived.WalkKit
set_option linter.all false
set_option maxHeartbeats 8000000
set_option maxRecDepth 100000
namespace Go.Ae
open Go Go.Proofs
section
variable {H:Type}{enc:TypeId×Value->H}{P:Program}{W:World}
def Rds{H:Type}(enc:TypeId×Value->H)(P:Program)(W:World)(t:TypeId){α:Type}(c:α->List D)(Q:α->Prop):Prop:=
 ∀(z:Nat) (cs:List Value) (x:DataW H×List MemPlace),DataW.trod enc P W 0 (λ_=>true) true z t cs=some x->(x.1.weights P t).all (· <=reachBytes)=true->
  ∃y:α,rdl (λb=>b<W.heap.size) (λb=>W.heap[b]?) (c y) cs/\Q y
def Qzi{ok:Nat->Prop}{hp:Nat->Option Obj}: ∀(a:List D) (x:List Value) (y:List Value),rdl ok hp a x->rdp ok hp a (x++y)
 |[],x,y,z=>trivial
 |d::a,x,y,z=>by
  simp only[rdl] at z;obtain⟨v,r,rfl,G,O⟩:=z;exact⟨v,r++y,rfl,G,Qzi a r y O⟩
def pick{α:Type}{R:Nat->α->Prop}: ∀(n:Nat),(∀i,i<n-> ∃y,R i y)-> ∃l:List α,l.length=n/\ ∀i y,l[i]? =some y->R i y
 |0,_=>⟨[],rfl,λi y h=>by simp at h⟩
 |n+1,h=>by
  obtain⟨l,Q,Z⟩:=pick n (λi O=>h i (by omega));obtain⟨y,hy⟩:=h n (by omega);refine⟨l++[y],by simp[Q],λi z G=> ?_⟩;rcases Ff i n with O|O
  .rw[Eh (by omega)] at G;exact Z i z G
  .rw[Fe (by omega)] at G
   have:i - l.length=0:=by
    rcases sD (i - l.length) with h0|h0
    .exact h0
    .rw[Hy (by simp;omega)] at G;cases G
   rw[this] at G;obtain rfl:=A8 G
   have:i=n:=by omega
   rw[this];exact hy
def Qz1{ok:Nat->Prop}{hp:Nat->Option Obj}{α:Type}{c:α->List D}{k:Nat}(G: ∀y,(c y).length=k): ∀(l:List α) (L:List Value),(∀i y,l[i]? =some y->rdp ok hp (c y) (L.drop (i*k)))->rdr ok hp k (l.map c) L
 |[],L,_=>trivial
 |y::r,L,h=>by
  refine⟨G y,?_,Qz1 G r (L.drop k) (λi z O=> ?_)⟩
  .have:=h 0 y rfl
   rwa [mE,Jc] at this
  .have:=h (i+1) z O
   rwa [F6,show k+i*k=(i+1)*k by rw[Gh,J7,ZeH]]
def Qy9{a:Addr}{k:Nat}{cs:List Value}(hk:0<k)(h:W.cells? 0 a k=some cs):a.spot=none/\ ∃Z T fr,W.heap[a.block]? =some (.cells Z T fr)/\ ∃r,Z.toList.drop a.off=cs++r/\cs.length=k:=by
 unfold World.cells? at h;rw[Ak (Cx _)] at h;have hl:=mapM_some_length h;rw[YZ] at hl;have hg: ∀i,i<k->W.cell? (a.add i)=cs[i]? :=λi Q=>mapM_some_get h i i (by rw[Lm Q])
 have h0:=hg 0 hk;rw[Bk (by omega)] at h0;have O:a.spot=none:=by
  cases hs:a.spot with
  |none=>rfl
  |some s=>
   exfalso
   have:(a.add 0).spot.isSome=true:=by
    unfold Addr.add
    split<;>simp_all
   unfold World.cell? at h0;split at h0
   .rw[Ak this] at h0;cases h0
   .cases h0
 refine⟨O,?_⟩;obtain⟨b,off,sp⟩:=a;simp only at O;subst O;have z: ∀i,(⟨b,off,none⟩:Addr).add i=⟨b,off+i,none⟩:=λi=>Rw b off i
 rw[z] at h0;unfold World.cell? at h0;simp only at h0;split at h0
 .rename_i Z T fr hb;simp only[eQ,Dx,CY] at h0;refine⟨Z,T,fr,hb,(Z.toList.drop off).drop k,?_,hl⟩;have G: ∀i,i<k->Z[off+i]? =cs[i]? :=by
   intro i Q
   have:=hg i Q
   rw[z] at this;simp only[World.cell?,hb,eQ,Dx,CY] at this;exact this
  apply Ja;intro i;rw[Ib,GF];rcases Ff i k with Q|Q
  .rw[Eh (by omega)];exact G i Q
  .rw[Fe (by omega),Ib,Ib,GF];congr 1;show off+i=off+(k+(i - cs.length));omega
 .cases h0
def Q2{t e:TypeId}{α:Type}{c:α->List D}{Q:α->Prop}{k:Nat}(ht:P.underlying t=some (.slice e))(hk:P.cellsOf e=k)(ah:0<k)(hb:1<=P.bytesOf e)(hc: ∀y,(c y).length=k)(h:Rds enc P W e c Q):
 Rds enc P W t (λl:List α=>[.sl false k (l.map c)]) (λl=> ∀y∈l,Q y):=by
 intro ax cs x hx hw;rcases DataW.trod_slice ht hx with ⟨rfl,rfl⟩|⟨a,len,cap,O,an,m,rfl,rfl,rfl,_,aq,_,az,ab,Z,_⟩
 .exact⟨[],⟨_,_,rfl,.inl ⟨.inl rfl,rfl⟩,rfl⟩,by simp⟩
 obtain⟨a0,Z⟩:=Z rfl;simp only[DataW.weights,ht,RB,Mp,AZ,BA,FN] at hw;obtain⟨w1,w2,_⟩:=hw;have ai:len<=KH:=by
  have:=Nat.mul_le_mul_left (O.length+an.length) hb
  simp only[reachBytes,KH] at w1⊢;omega
 by_cases af:cap=0
 .subst af
  have:len=0:=by omega
  subst this;exact⟨[],⟨_,_,rfl,.inl ⟨.inr ⟨rfl,a,rfl⟩,rfl⟩,rfl⟩,by simp⟩
 have ac: ∀i,i<cap-> ∃cs,W.cells? 0 (a.add (i*k)) k=some cs:=by
  intro i hi;rw[hk] at ab Z;rcases Ff i len with h1|h1
  .have:=ab i h1
   rw[Bk (by omega)] at this;cases hq:W.cells? 0 (a.add (i*k)) k with
   |none=>rw[hq] at this;cases this
   |some cs=>exact⟨cs,rfl⟩
  .have:=Z (i - len) (by omega)
   rw[show len+(i - len)=i by omega,Bk (by omega)] at this;cases hq:W.cells? 0 (a.add (i*k)) k with
   |none=>rw[hq] at this;cases this
   |some cs=>exact⟨cs,rfl⟩
 obtain⟨ay,ag⟩:=ac 0 (by omega);obtain⟨am,vs,T,fr,G,_⟩:=Qy9 ah ag;have ak:a.spot=none:=by
  cases hs:a.spot with
  |none=>rfl
  |some s=>
   exfalso
   have:(a.add (0*k)).spot.isSome=true:=by
    unfold Addr.add
    split<;>simp_all
   rw[am] at this;cases this
 obtain⟨b,off,sp⟩:=a;simp only at ak;subst ak;have aa: ∀i,(⟨b,off,none⟩:Addr).add i=⟨b,off+i,none⟩:=λi=>Rw b off i
 rw[aa] at G;simp only at G;have au: ∀i,i<len-> ∃y:α,rdp (λb=>b<W.heap.size) (λb=>W.heap[b]?) (c y) ((vs.toList.drop off).drop (i*k))/\Q y:=by
  intro i hi;have h1:=ab i hi;rw[hk,Bk (by omega)] at h1;cases hq:W.cells? 0 ((⟨b,off,none⟩:Addr).add (i*k)) k with
  |none=>rw[hq] at h1;cases h1
  |some ci=>
   rw[hq,GG] at h1;obtain⟨_,aw,T',ao,hh,r,hr,_⟩:=Qy9 ah hq;rw[aa] at hh hr;simp only at hh hr;rw[G] at hh;obtain⟨rfl,rfl,rfl⟩:vs=aw/\T=T'/\fr=ao:=by
    have:=A8 hh
    simp only[Obj.cells.injEq] at this;exact this
   have av:(O[i].1.weights P e).all (· <=reachBytes)=true:=by
    rw[HN] at w2⊢;intro n hn;refine w2 n ?_
    have: ∀(l:List (DataW H)) (d:DataW H),d∈l-> ∀n∈d.weights P e,n∈DataW.weightsAll P e l:=by
     intro l;induction l with
     |nil=>intro d hd;cases hd
     |cons z r ih=>
      intro d hd n hn;simp only[DataW.weightsAll,B5];rcases BO.1 hd with rfl|hd
      .exact .inl hn
      .exact .inr (ih d hd n hn)
    exact this _ O[i].1 (BZ.2 ⟨O[i],RF _,rfl⟩) n hn
   obtain⟨y,g1,g2⟩:=h m ci O[i] h1 av;refine⟨y,?_,g2⟩;rw[F6,hr];exact Qzi _ _ _ g1
 obtain⟨l,hl,aj⟩:=pick (R:=λi y=>rdp (λb=>b<W.heap.size) (λb=>W.heap[b]?) (c y) ((vs.toList.drop off).drop (i*k))/\Q y) len au;have ad:b<W.heap.size:=by
  rcases Ff b W.heap.size with h|h
  .exact h
  .rw[Zd h] at G;cases G
 refine⟨l,⟨_,_,rfl,.inr ⟨b,off,cap,vs,T,fr,by rw[FN,hl],by simp,by rw[FN,hl];exact aq,by rw[FN,hl];exact ai,ad,G,Qz1 hc l _ (λi y hy=>(aj i y hy).1)⟩,rfl⟩,λy hy=> ?_⟩;obtain⟨i,hi⟩:=List.getElem?_of_mem hy;exact (aj i y hi).2
end
section
variable {H:Type}{enc:TypeId×Value->H}{W:World}
end
end Go.Ae
namespace Go.Ae
open Go Go.Proofs Go.RowKit
def env0(W:World):A7:=⟨λ_=>none,λb=>b<W.heap.size,λ_=>none,W⟩
def ctx0(W:World):Bj:=Bj.mk0 W (λ_=>False) (λb=>b<W.heap.size)
def wf0(W:World)(G:GP (λb=>b<W.heap.size) (λb=>W.heap[b]?)):Wf (ctx0 W) (env0 W):=
 ⟨rfl,rfl,rfl,AW _,λ_ _ _=>rfl,λ_ h=>h,λ_ h=> .inl h,λ_ h=>h,λo e h=>(by cases h),λo e l h=>(by cases h),λo o' e e' l l' h=>(by cases h),G.mono λ_ _ z O=>⟨⟨z,λh=>h.elim⟩,O⟩⟩
def Tx{P:Program}{g:FuncId}{row:AO}(Q:KZ P g row){W:World}(hg:GP (λb=>b<W.heap.size) (λb=>W.heap[b]?)){args:Array Value}{ds:List D}(O:row (ds.map .im) (λ_=>none) 0 (λr _=>r= .im (.bool true)))
 (G:rdl (λb=>b<W.heap.size) (λb=>W.heap[b]?) ds args.toList):Calls P g args W λe W'=>e= .returned (.bool true)/\Below W.heap.size W W':=by
 obtain⟨_,r,E,hT,rfl⟩:=Q _ _ _ _ O;refine hT (ctx0 W) (env0 W) args _ (wf0 W hg) (λ_ _=>rfl) (λ_ _=>rfl) (λn e h=>(by cases h)) ((Jj _ _).2 G) ?_;intro v S' z _ _ Z;simp only[Aa,rd] at Z;subst Z;exact⟨rfl,z.os,z.tape,z.output,z.size,λk hk=>z.keep k hk (λh=>h)⟩
end Go.Ae
namespace Go.Ae
open Go.Proofs
def jZ(p:Ac)(k:Int):Ac×Ac:=(⟨p.X/k,p.Y/k⟩,⟨p.X % k,p.Y % k⟩)
def l02Index.fv(a:AI×Int):Bool:=(λs t=>Bz t 0 (s.Tiles.length - 1)) (a.1) (a.2)
def l02Index.row:AO:=vK (b2 (qP 2 AI.d_le) qI) rB (λa=>True) l02Index.fv
def l02Index.q:=B2 (R:=l02Index.row) rfl
def l02Index.ok:AS 102 l02Index.row:=by
 refine vw (tC l00In.ok tN) Tryz.func102 ?_;intro a z;simp only[Tryz.f102,Option.getD];simp only[ZZ,simprocAttr,Ab,l02Index.fv,l00In.q,l00In.fv];intro h;rw[AF (by omega) (by omega)]
def isTile.fv(a:AI×Int):Bool:=(λs t=>Bz t 0 (s.Tiles.length - 1)) (a.1) (a.2)
def isTile.row:AO:=vK (b2 (qR AI.d_le) qI) rB (λa=>True) isTile.fv
def isTile.q:=B2 (R:=isTile.row) rfl
def isTile.ok:AS 94 isTile.row:=by
 refine vw (tC isIndex.ok tN) Tryz.func94 ?_;intro a z;simp only[Tryz.f94,Option.getD];simp only[ZZ,simprocAttr,Ab,isTile.fv,isIndex.q,isIndex.fv];intro h;simp only[I64];omega
def opposite_.fv(a:Int):Int:=(λd=>(d+2) % 4) a
def opposite_.row:AO:=vK (b1 qI) rI (λa=>0<=a/\a<=3) opposite_.fv
def opposite_.q:=B2 (R:=opposite_.row) rfl
def opposite_.ok:AS 154 opposite_.row:=by
 refine vw tN Tryz.func154 ?_;intro a z;simp only[Tryz.f154,Option.getD];simp only[ZZ,simprocAttr,Ab,opposite_.fv];rw[AF (by omega) (by omega)]
 have:(0:Int)<=a+2:=by omega
 rw[eT this]
def l01Dir.fv(a:Int):Bool:=(λd=>Bz d 0 3) a
def l01Dir.row:AO:=vK (b1 qI) rB (λa=>True) l01Dir.fv
def l01Dir.q:=B2 (R:=l01Dir.row) rfl
def l01Dir.ok:AS 190 l01Dir.row:=by
 refine vw (tC l00In.ok tN) Tryz.func190 ?_;intro a z;simp only[Tryz.f190,Option.getD];simp only[ZZ,simprocAttr,Ab,l01Dir.fv,l00In.q,l00In.fv]
def Opposite_.fv(a:Int):Int:=(λd=>(d+2) % 4) a
def Opposite_.row:AO:=vK (b1 qI) rI (λa=>0<=a/\a<=3) Opposite_.fv
def Opposite_.q:=B2 (R:=Opposite_.row) rfl
def Opposite_.ok:AS 151 Opposite_.row:=by
 refine vw (tC l01Dir.ok tN) Tryz.func151 ?_;intro a z;simp only[Tryz.f151,Option.getD];simp only[ZZ,simprocAttr,Ab,Opposite_.fv,l01Dir.q,l01Dir.fv];have h:Bz a 0 3=true:=by simp[Bz,z]
 rw[h,Ad (by simp),AF (by omega) (by omega)]
 have:(0:Int)<=a+2:=by omega
 rw[eT this]
def l07Temperature.fv(a:Int):Bool:=(λt=>Bz t 1 16) a
def l07Temperature.row:AO:=vK (b1 qI) rB (λa=>True) l07Temperature.fv
def l07Temperature.q:=B2 (R:=l07Temperature.row) rfl
def l07Temperature.ok:AS 83 l07Temperature.row:=by
 refine vw (tC l00In.ok tN) Tryz.func83 ?_;intro a z;simp only[Tryz.f83,Option.getD];simp only[ZZ,simprocAttr,Ab,l07Temperature.fv,l00In.q,l00In.fv]
def isTemperature.fv(a:Int):Bool:=(λt=>Bz t 1 16) a
def isTemperature.row:AO:=vK (b1 qI) rB (λa=>True) isTemperature.fv
def isTemperature.q:=B2 (R:=isTemperature.row) rfl
def isTemperature.ok:AS 160 isTemperature.row:=by
 refine vw (tC within_.ok tN) Tryz.func160 ?_;intro a z;simp only[Tryz.f160,Option.getD];simp only[ZZ,simprocAttr,Ab,isTemperature.fv,within_.q,within_.fv]
def BK(s:AI):Prop:=s.Glues.length<=140737488355328/\(∀t∈s.Tiles,t.Sides.length=4/\ ∀g∈t.Sides,0<=g/\g<=s.Glues.length)/\ ∀g∈s.Glues,1<=g.Strength/\g.Strength<=4
def Jy(s:AI)(z G:Int):Int:=((((s.Tiles[z.toNat]?).map Tile.Sides).getD [])[G.toNat]?).getD 0
def Rz(s:AI)(g:Int):Int:=if 0<g then ((s.Glues[(g - 1).toNat]?).map AG.Strength).getD 0 else 0
def Gd(s:AI)(a z b:Int):Int:=if Jy s a z=Jy s b ((z+2) % 4) then Rz s (Jy s a z) else 0
def GY(s:AI)(t:Int):Prop:=0<=t/\t<s.Tiles.length
def TO(d:Int):Prop:=0<=d/\d<=3
def lD{s:AI}{t d:Int}{x:Tile}{g:Int}(G:s.Tiles[t.toNat]? =some x)(z:x.Sides[d.toNat]? =some g):Jy s t d=g:=by
 simp[Jy,G,z]
def ML{s:AI}{g:Int}{x:AG}(h:0<g)(z:s.Glues[(g - 1).toNat]? =some x):Rz s g=x.Strength:=by
 simp only[Rz,Ak h,z];rfl
def MM{s:AI}{g:Int}(h: ¬0<g):Rz s g=0:=by
 simp[Rz,h]
def xZ{s:AI}(h:BK s){t:Int}{x:Tile}(z:s.Tiles[t.toNat]? =some x):x.Sides.length=4:=(h.2.1 x (Bd z)).1
def Qvv{s:AI}(h:BK s){t d:Int}{x:Tile}{g:Int}(G:s.Tiles[t.toNat]? =some x)(z:x.Sides[d.toNat]? =some g):0<=g/\g<=s.Glues.length:=(h.2.1 x (Bd G)).2 g (Bd z)
def l02Strength.fv(a:AI×Int):Int:=(Rz) (a.1) (a.2)
def l02Strength.row:AO:=vK (b2 (qP 2 AI.d_le) qI) rI (λa=>0<=a.2/\a.2<=a.1.Glues.length/\a.1.Glues.length<=140737488355328) l02Strength.fv
def l02Strength.q:=B2 (R:=l02Strength.row) rfl
def l02Strength.ok:AS 152 l02Strength.row:=by
 refine vw tN Tryz.func152 ?_;intro a z;simp only[Tryz.f152,Option.getD];simp only[ZZ,simprocAttr,Ab,l02Strength.fv];obtain⟨O,Q,Z⟩:=z
 split<;>rename_i h
 .simp[Rz,h]
 .rw[AF (by omega) (by omega)];exact⟨by omega,by omega,λx G=>(ML (by omega) G).symm⟩
def strength_.fv(a:AI×Int×Int):Int:=(λs t d=>Rz s (Jy s t d)) (a.1) (a.2.1) (a.2.2)
def strength_.row:AO:=vK (b3 (qR AI.d_le) qI qI) rI (λa=>BK a.1/\GY a.1 a.2.1/\TO a.2.2) strength_.fv
def strength_.q:=B2 (R:=strength_.row) rfl
def strength_.ok:AS 155 strength_.row:=by
 refine vw tN Tryz.func155 ?_;intro a z;simp only[Tryz.f155,Option.getD];simp only[ZZ,simprocAttr,Ab,strength_.fv];obtain⟨G,Q,Z⟩:=z;refine⟨Q.1,Q.2,λx O=>⟨Z.1,?_,λg hg=> ?_⟩⟩
 .rw[xZ G O];have:=Z.2;omega
 .have aa:=Qvv G O hg
  have:=G.1
  rw[lD O hg]
  split<;>rename_i h
  .rw[AF (by omega) (by omega)];exact⟨by omega,by omega,λy hy=>(ML h hy).symm⟩
  .exact (MM h).symm
def bond_.rc:D->Option (Int):=DU
def bond_.re:Int->D:=D.int .i64
def bond_.rle: ∀d b,bond_.rc d=some b->Le d (bond_.re b):=RZ
def bond_.ar:List PK->Option (AI×Int×Int×Int):=a4 (kR AI.d) kI kI kI
def bond_.fv(a:AI×Int×Int×Int):Int:=(Gd) (a.1) (a.2.1) (a.2.2.1) (a.2.2.2)
def bond_.row:AO:=vK (b4 (qR AI.d_le) qI qI qI) (RK.mk bond_.rc bond_.re bond_.rle) (λa=>BK a.1/\GY a.1 a.2.1/\TO a.2.2.1/\GY a.1 a.2.2.2) bond_.fv
def bond_.q:=B2 (R:=bond_.row) rfl
def bond_.ok:AS 115 bond_.row:=by
 refine vw (tC opposite_.ok (tC strength_.ok tN)) Tryz.func115 ?_;intro a G;simp only[Tryz.f115,Option.getD];simp only[ZZ,simprocAttr,Ab,bond_.fv,bond_.rc,opposite_.q,opposite_.fv,strength_.q,strength_.fv];obtain⟨O,Q,z,h4⟩:=G;have h5:=z.1;have h6:=z.2;refine⟨Q.1,Q.2,λx hx=>⟨z.1,by rw[xZ O hx];omega,λg hg=>⟨h4.1,h4.2,λy hy=>⟨z,by omega,by rw[xZ O hy];omega,λg' Z=> ?_⟩⟩⟩⟩;simp only[Gd,lD hx hg,lD hy Z];split
 .exact⟨⟨O,Q,z⟩,rfl⟩
 .rfl
def l02Bond.fv(a:AI×Int×Int×Int):Int:=(Gd) (a.1) (a.2.1) (a.2.2.1) (a.2.2.2)
def l02Bond.row:AO:=vK (b4 (qP 2 AI.d_le) qI qI qI) rI (λa=>BK a.1/\GY a.1 a.2.1/\TO a.2.2.1/\GY a.1 a.2.2.2) l02Bond.fv
def l02Bond.q:=B2 (R:=l02Bond.row) rfl
def l02Bond.ok:AS 150 l02Bond.row:=by
 refine vw (tC Opposite_.ok (tC l02Strength.ok tN)) Tryz.func150 ?_;intro a O;simp only[Tryz.f150,Option.getD];simp only[ZZ,simprocAttr,Ab,l02Bond.fv,Opposite_.q,Opposite_.fv,l02Strength.q,l02Strength.fv];obtain⟨z,h2,Q,h4⟩:=O;have h5:=Q.1;have h6:=Q.2;refine⟨h2.1,h2.2,λx hx=>⟨Q.1,by rw[xZ z hx];omega,λg hg=>⟨h4.1,h4.2,λy hy=>⟨Q,by omega,by rw[xZ z hy];omega,λg' Z=> ?_⟩⟩⟩⟩;have G:=Qvv z hx hg
 have:=z.1
 simp only[Gd,lD hx hg,lD hy Z]
 split<;>rename_i h
 .first|rw[Ad h]|rfl
 .rw[Ak (I3.1 h)];exact⟨⟨G.1,G.2,z.1⟩,rfl⟩
def Dw:Option Ac->List Ar->Bool
 |_,[]=>true
 |q,x::r=>EU x.At && (Bz x.Tile 0 159 && ((match q with|none=>true|some p=>B6 p x.At) && Dw (some x.At) r))
def Ru(q:Option Ac)(x:Ar)(r:List Ar):Dw q (x::r)=(EU x.At && (Bz x.Tile 0 159 && ((match q with|none=>true|some p=>B6 p x.At) && Dw (some x.At) r))):=by cases q<;>rfl
def xY(q:Option Ac):Dw q []=true:=by cases q<;>rfl
def Ht(l:List Ar)(k:Nat):Option Ac:=if k=0 then none else (l[k - 1]?).map (·.At)
def Qn2{l:List Ar}{k:Nat}{x:Ar}(z:l[k]? =some x):Ht l (k+1)=some x.At:=by
 simp[Ht,z]
def Gr{A:Type}{l:List A}{k:Nat}{x:A}(z:l[k]? =some x):l.drop k=x::l.drop (k+1):=by
 have G:k<l.length:=(B9.1 z).1;rw[rN G];rw[Bk G] at z;rw[A8 z]
def hasForm_.fv(a:Al):Bool:=(λa=>Dw none a.Tiles && decide (a.Tiles.length<=500)) a
def hasForm_.row:AO:=vK (b1 (qR Al.d_le)) rB (λa=>True) hasForm_.fv
def hasForm_.q:=B2 (R:=hasForm_.row) rfl
def Yab:=J @hasForm_.fv.eq_1<|J @ValidPoint.q<|J @ValidPoint.fv.eq_1<|J @isIndex.q<|J @isIndex.fv.eq_1<|J @impl_LessPoint.q @impl_LessPoint.fv.eq_1
def hasForm_.ok:AS 187 hasForm_.row:=by
 refine vw (tC ValidPoint.ok (tC isIndex.ok (tC impl_LessPoint.ok tN))) Tryz.func187 ?_;intro a ab;simp only[Tryz.f187,Option.getD];simp only[ZZ,simprocAttr,Ab,Yab];intro aa;refine Bc.old ⟨{k:Nat//k<=a.Tiles.length/\Dw (Ht a.Tiles k) (a.Tiles.drop k)=Dw none a.Tiles},λk=>⟨[(8,.im (.int .i64 k.1)),(7,.im (.int .i64 a.Tiles.length)),(6,.im (.sl false 3 (a.Tiles.map Ar.c))),(1,.ptr 0 0),(2,.im (.bool false))],[(0,(true,.cells 30 [.im (.sl false 3 (a.Tiles.map Ar.c))]))],1⟩,λk=>a.Tiles.length - k.1,λk=>⟨by simp[ZG],AW _⟩,⟨⟨0,by simp[Ht]⟩,by simp only[ZZ,simprocAttr,Ab,Yab,sub]⟩,λk=> ?_⟩;obtain⟨k,ac,G⟩:=k;simp only[ZZ,simprocAttr,Ab,Yab,sub,AQ];refine⟨λhk=>⟨hk,λx hx=> ?_⟩,λhk=> ?_⟩
 .rw[Gr hx,Ru] at G;have O:(EU x.At && (Bz x.Tile 0 159 && (match Ht a.Tiles k with|none=>true|some p=>B6 p x.At)))=false->false=(Dw none a.Tiles && decide (a.Tiles.length<=500)):=by
   intro h;rw[<-G];revert h;cases EU x.At<;>cases Bz x.Tile 0 159<;>cases (match Ht a.Tiles k with|none=>true|some p=>B6 p x.At)<;>simp
  have z:(EU x.At && (Bz x.Tile 0 159 && (match Ht a.Tiles k with|none=>true|some p=>B6 p x.At)))=true->Dw (Ht a.Tiles (k+1)) (a.Tiles.drop (k+1))=Dw none a.Tiles:=by
   intro h;rw[<-G,Qn2 hx];simp only[AZ] at h;simp[h.1,h.2.1,h.2.2]
  refine⟨λQ=>⟨by simp[I64],⟨λZ=>⟨λh3=> ?_,λh3=> ?_⟩,λZ=>O (by simp[Z])⟩⟩,λQ=>O (by simp[Q])⟩
  .rw[AF (x:=(k:Int) - 1) (by omega) (by omega)];refine⟨by omega,by omega,λy hy=> ?_⟩;have hp:Ht a.Tiles k=some y.At:=by
    have e:((k:Int) - 1).toNat=k - 1:=by omega
    rw[e] at hy;simp[Ht,hy,show k≠0 by omega]
   rw[hp] at O z;exact⟨λh4=>O (by simp[h4]),λh4=>Jo hk (by omega) ⟨by omega,z (by simp[Q,Z];simpa using h4)⟩⟩
  .have hp:Ht a.Tiles k=none:=by simp[Ht,show k=0 by omega]
   rw[hp] at z;exact Jo hk (by omega) ⟨by omega,z (by simp[Q,Z])⟩
 .rw[Ei (by omega),xY] at G;simp only[<-G,EL]
  grind
def l03Form.fv(a:Al):Bool:=(λa=>Dw none a.Tiles && decide (a.Tiles.length<=500)) a
def l03Form.row:AO:=vK (b1 (qP 1 Al.d_le)) rB (λa=>True) l03Form.fv
def l03Form.q:=B2 (R:=l03Form.row) rfl
def Yac:=J @l03Form.fv.eq_1<|J @l01Point.q<|J @l01Point.fv.eq_1<|J @l00In.q<|J @l00In.fv.eq_1<|J @l_LessPoint.q @l_LessPoint.fv.eq_1
def l03Form.ok:AS 135 l03Form.row:=by
 refine vw (tC l01Point.ok (tC l00In.ok (tC l_LessPoint.ok tN))) Tryz.func135 ?_;intro a ab;simp only[Tryz.f135,Option.getD];simp only[ZZ,simprocAttr,Ab,Yac];intro aa;simp only[AQ];refine⟨λh=> ?_,λh=> ?_⟩
 .have: ¬a.Tiles.length<=500:=by omega
  simp[this]
 refine Bc.old ⟨{k:Nat//k<=a.Tiles.length/\Dw (Ht a.Tiles k) (a.Tiles.drop k)=Dw none a.Tiles},λk=>⟨[(3,.im (.int .i64 k.1)),(0,.ptr 0 0),(2,.im (.bool false))],[(0,(false,.view [.sl false 3 (a.Tiles.map Ar.c)]))],1⟩,λk=>a.Tiles.length - k.1,λk=>⟨by simp[ZG],AW _⟩,⟨⟨0,by simp[Ht]⟩,by simp only[ZZ,simprocAttr,Ab,Yac,sub]⟩,λk=> ?_⟩;obtain⟨k,ac,G⟩:=k;simp only[ZZ,simprocAttr,Ab,Yac,sub,AQ];intro _;refine⟨λhk=>⟨hk,λx hx=> ?_⟩,λhk=> ?_⟩
 .rw[Gr hx,Ru] at G;have O:(EU x.At && (Bz x.Tile 0 159 && (match Ht a.Tiles k with|none=>true|some p=>B6 p x.At)))=false->false=(Dw none a.Tiles && decide (a.Tiles.length<=500)):=by
   intro h;rw[<-G];revert h;cases EU x.At<;>cases Bz x.Tile 0 159<;>cases (match Ht a.Tiles k with|none=>true|some p=>B6 p x.At)<;>simp
  have z:(EU x.At && (Bz x.Tile 0 159 && (match Ht a.Tiles k with|none=>true|some p=>B6 p x.At)))=true->Dw (Ht a.Tiles (k+1)) (a.Tiles.drop (k+1))=Dw none a.Tiles:=by
   intro h;rw[<-G,Qn2 hx];simp only[AZ] at h;simp[h.1,h.2.1,h.2.2]
  refine⟨λQ=>⟨λZ=>⟨λh3=> ?_,λh3=> ?_⟩,λZ=>O (by simp[Z])⟩,λQ=>O (by simp[Q])⟩
  .rw[AF (x:=(k:Int) - 1) (by omega) (by omega)];refine⟨by omega,by omega,λy hy=> ?_⟩;have hp:Ht a.Tiles k=some y.At:=by
    have e:((k:Int) - 1).toNat=k - 1:=by omega
    rw[e] at hy;simp[Ht,hy,show k≠0 by omega]
   rw[hp] at O z;exact⟨λh4=>O (by simp[h4]),λh4=>Jo hk (by omega) ⟨by omega,z (by simp[Q,Z];simpa using h4)⟩⟩
  .have hp:Ht a.Tiles k=none:=by simp[Ht,show k=0 by omega]
   rw[hp] at z;exact Jo hk (by omega) ⟨by omega,z (by simp[Q,Z])⟩
 .rw[Ei (by omega),xY] at G;simp only[<-G,EL]
  grind
def RS(a b:Al):a=b↔a.Tiles=b.Tiles:=by
 obtain⟨x⟩:=a;obtain⟨y⟩:=b;simp
def Qrb(x y:Ar):(x.At.X==y.At.X && (x.At.Y==y.At.Y && x.Tile==y.Tile))=decide (x=y):=by
 obtain⟨⟨a,b⟩,c⟩:=x;obtain⟨⟨d,e⟩,f⟩:=y;rw[Xq];simp[mI]
def l03Same.fv(a:Al×Al):Bool:=(λa b=>decide (a=b)) (a.1) (a.2)
def l03Same.row:AO:=vK (b2 (qP 1 Al.d_le) (qP 1 Al.d_le)) rB (λa=>True) l03Same.fv
def l03Same.q:=B2 (R:=l03Same.row) rfl
def l03Same.ok:AS 55 l03Same.row:=by
 refine vw tN Tryz.func55 ?_;intro a Z;simp only[Tryz.f55,Option.getD];simp only[ZZ,simprocAttr,Ab,l03Same.fv];simp only[AQ];refine⟨λG=> ?_,λG=> ?_⟩
 .have:a.1≠a.2:=λh=>G (by rw[h])
  simp[this]
 have G:a.1.Tiles.length=a.2.Tiles.length:=by omega
 refine Bc.old ⟨{k:Nat//k<=a.1.Tiles.length/\a.1.Tiles.take k=a.2.Tiles.take k},λk=>⟨[(5,.im (.int .i64 k.1)),(4,.im (.bool false)),(0,.ptr 0 0),(1,.ptr 1 0)],[(0,(false,.view [.sl false 3 (a.1.Tiles.map Ar.c)])),(1,(false,.view [.sl false 3 (a.2.Tiles.map Ar.c)]))],2⟩,λk=>a.1.Tiles.length - k.1,λk=>⟨by simp[ZG],AW _⟩,⟨⟨0,by simp⟩,by simp only[ZZ,simprocAttr,Ab,l03Same.fv,sub]⟩,λk=> ?_⟩;obtain⟨k,Q,z⟩:=k;simp only[ZZ,simprocAttr,Ab,l03Same.fv,sub,AQ];intro h1;refine⟨λO=>⟨O,λx hx=>⟨by omega,λy hy=> ?_⟩⟩,λO=> ?_⟩
 .obtain⟨g1,g2⟩:=Qew G Q z hx hy;simp only[ZZ,Al.d,Ab,l03Same.fv,sub,Qrb];refine⟨λh=> ?_,λh=>Jo O h1 ⟨by omega,g1 (by simpa using h)⟩⟩
  have:=g2 (by simpa using h)
  simp[RS,this]
 .rw[GE (by omega),GE (by omega)] at z;simp[RS,z]
def BB{A:Type}(p:A->Bool):Nat->List A->Int
 |_,[]=> -1
 |i,x::r=>if p x=true then i else BB p (i+1) r
def l02Glue.fv(a:AI×ByteArray):Int:=(λs n=>BB (λg=>decide (g.Name=n)) 0 s.Glues+1) (a.1) (a.2)
def l02Glue.row:AO:=vK (b2 (qP 2 AI.d_le) qT) rI (λa=>True) l02Glue.fv
def l02Glue.q:=B2 (R:=l02Glue.row) rfl
def l02Glue.ok:AS 133 l02Glue.row:=by
 refine vw tN Tryz.func133 ?_;intro a O;simp only[Tryz.f133,Option.getD];simp only[ZZ,simprocAttr,Ab,l02Glue.fv];refine Bc.old ⟨{k:Nat//k<=a.1.Glues.length/\BB (λg:AG=>decide (g.Name=a.2)) k (a.1.Glues.drop k)=BB (λg:AG=>decide (g.Name=a.2)) 0 a.1.Glues},λk=>⟨[(5,.im (.int .i64 k.1)),(4,.im (.int .i64 0)),(0,.ptr 0 0),(1,.im (.str a.2))],[(0,(false,.view [.sl false 2 (a.1.Glues.map AG.c),.sl false 2 (a.1.Tiles.map Tile.c)]))],1⟩,λk=>a.1.Glues.length - k.1,λk=>⟨by simp[ZG],AW _⟩,⟨⟨0,by simp⟩,by simp only[ZZ,simprocAttr,Ab,l02Glue.fv,sub]⟩,λk=> ?_⟩;obtain⟨k,Q,z⟩:=k;simp only[ZZ,simprocAttr,Ab,l02Glue.fv,sub,AQ];intro hn;refine⟨λG=>⟨G,λx Z=> ?_⟩,λG=> ?_⟩
 .rw[Gr Z,BB] at z;refine⟨λh=> ?_,λh=>Jo G hn ⟨by omega,by rw[<-z,Ad (by simpa using h)]⟩⟩;rw[Ak (by simpa using h)] at z;rw[<-z,AF (by omega) (by omega)]
 .rw[Ei (by omega),BB] at z;omega
def VA1.fv(a:Ar×AI):Bool:=(λx s=> !Bz x.Tile 0 (s.Tiles.length - 1)) (a.1) (a.2)
def VA1.row:AO:=vK (b2 (qR Ar.d_le) (qP 2 AI.d_le)) rB (λa=>True) VA1.fv
def VA1.q:=B2 (R:=VA1.row) rfl
def VA1.ok:AS 189 VA1.row:=by
 refine vw (tC isTile.ok tN) Tryz.func189 ?_;intro a z;simp only[Tryz.f189,Option.getD];simp only[ZZ,simprocAttr,Ab,VA1.fv,isTile.q,isTile.fv]
def IdxVA.ar:List PK->Option ((List Ar)×AI)
 |[.val (.sl _ _ O),.val (.fn 189 [] [.ref z])]=>(AX Ar.d O).bind λQ=>(AI.d (z.take 2)).bind λG=>some (Q,G)
 |_=>none
def IdxVA.ae(a:(List Ar)×AI):List PK:=[.val (.sl false 3 (a.1.map Ar.c)),.val (.fn 189 [] [.ref (AI.c a.2)])]
def IdxVA.le: ∀G a,IdxVA.ar G=some a->Cy G (IdxVA.ae a):=by
 intro G a h;unfold IdxVA.ar at h;split at h
 .simp only[F5,AP] at h;obtain⟨Q,h0,O,z,rfl⟩:=h;exact⟨E0 (Ej Ar.d_le _ _ h0) (by simp only[BZ];rintro r ⟨y,_,rfl⟩;rfl),YL ⟨Xd (Hr.trans_take (AI.d_le _ _ z)),trivial⟩,trivial⟩
 .cases h
def IdxVA.fv(a:(List Ar)×AI):Int:=(λl s=>BB (λx=> !Bz x.Tile 0 (s.Tiles.length - 1)) 0 l) (a.1) (a.2)
def IdxVA.row:AO:=FY IdxVA.ar (λa=>True) (λa=>(D.int .i64) (IdxVA.fv a))
def IdxVA.q:=vq IdxVA.row rfl
def IdxVA.ok:AS 215 IdxVA.row:=by
 refine gZ DJ (tC VA1.ok tN) Tryz.func215 rfl (by kernel_rfl) (by kernel_rfl) (ar:=IdxVA.ar) (ae:=IdxVA.ae) IdxVA.le (n:=2) (λ_=>rfl) (by decide) (rc:=(DU)) (re:=(D.int .i64)) (RZ) (f:=IdxVA.fv) ?_;intro a O;simp only[Tryz.f215,Option.getD];simp only[ZZ,simprocAttr,Ab,IdxVA.ae,IdxVA.fv,VA1.q,VA1.fv];intro hn;refine Bc.old ⟨{k:Nat//k<=a.1.length/\BB (λx:Ar=> !Bz x.Tile 0 (a.2.Tiles.length - 1)) k (a.1.drop k)=BB (λx:Ar=> !Bz x.Tile 0 (a.2.Tiles.length - 1)) 0 a.1},λk=>⟨[(8,.im (.int .i64 k.1)),(7,.im (.int .i64 a.1.length)),(6,.im (.sl false 3 (a.1.map Ar.c))),(4,.im (.int .i64 0)),(0,.im (.sl false 3 (a.1.map Ar.c))),(1,.im (.fn 189 [] [.ref (AI.c a.2)]))],[],0⟩,λk=>a.1.length - k.1,λk=>⟨by simp[ZG],AW _⟩,⟨⟨0,by simp⟩,by simp only[ZZ,simprocAttr,Ab,IdxVA.ae,IdxVA.fv,VA1.q,VA1.fv,sub]⟩,λk=> ?_⟩;obtain⟨k,Q,z⟩:=k;simp only[ZZ,simprocAttr,Ab,IdxVA.ae,IdxVA.fv,VA1.q,VA1.fv,sub,AQ];refine⟨λG=>⟨G,λx Z=> ?_⟩,λG=> ?_⟩
 .rw[Gr Z,BB] at z;refine⟨λh=> ?_,λh=>Jo G hn ⟨by omega,by rw[<-z,Ad (by simpa using h)]⟩⟩;rw[Ak (by simpa using h)] at z;exact z
 .rw[Ei (by omega),BB] at z;exact z
def Qyg{A:Type}(p:A->Bool): ∀(l:List A) (i:Nat),(0<=BB p i l↔l.any p=true)/\ -1<=BB p i l/\BB p i l<(i+l.length:Nat)\/(l=[]/\BB p i l= -1):=by
 intro l;induction l with
 |nil=>intro i;exact .inr ⟨rfl,rfl⟩
 |cons x r ih=>
  intro i;refine .inl ?_;simp only[BB,List.any_cons,Dp]
  split<;>rename_i h
  .simp[h];omega
  .rcases ih (i+1) with ⟨G,z,O⟩|⟨rfl,z⟩
   .simp only[RE] at h;rw[h,Zeo];exact⟨G,z,by omega⟩
   .simp[z,h];omega
def MX{A:Type}(p:A->Bool)(l:List A):decide (0<=BB p 0 l)=l.any p:=by
 rw[Xq];rcases Qyg p l 0 with ⟨z,_⟩|⟨rfl,G⟩
 .simpa using z
 .simp[G]
def ContVA.ar:List PK->Option ((List Ar)×AI)
 |[.val (.sl _ _ O),.val (.fn 189 [] [.ref z])]=>(AX Ar.d O).bind λQ=>(AI.d (z.take 2)).bind λG=>some (Q,G)
 |_=>none
def ContVA.ae(a:(List Ar)×AI):List PK:=[.val (.sl false 3 (a.1.map Ar.c)),.val (.fn 189 [] [.ref (AI.c a.2)])]
def ContVA.le: ∀G a,ContVA.ar G=some a->Cy G (ContVA.ae a):=by
 intro G a h;unfold ContVA.ar at h;split at h
 .simp only[F5,AP] at h;obtain⟨Q,h0,O,z,rfl⟩:=h;exact⟨E0 (Ej Ar.d_le _ _ h0) (by simp only[BZ];rintro r ⟨y,_,rfl⟩;rfl),YL ⟨Xd (Hr.trans_take (AI.d_le _ _ z)),trivial⟩,trivial⟩
 .cases h
def ContVA.fv(a:(List Ar)×AI):Bool:=(λl s=>l.any (λx=> !Bz x.Tile 0 (s.Tiles.length - 1))) (a.1) (a.2)
def ContVA.row:AO:=FY ContVA.ar (λa=>True) (λa=>(D.bool) (ContVA.fv a))
def ContVA.q:=vq ContVA.row rfl
def ContVA.ok:AS 188 ContVA.row:=by
 refine gZ DJ (tC IdxVA.ok tN) Tryz.func188 rfl (by kernel_rfl) (by kernel_rfl) (ar:=ContVA.ar) (ae:=ContVA.ae) ContVA.le (n:=2) (λ_=>rfl) (by decide) (rc:=(X9)) (re:=(D.bool)) (xC) (f:=ContVA.fv) ?_;intro a z;simp only[Tryz.f188,Option.getD];simp only[ZZ,simprocAttr,Ab,ContVA.ae,ContVA.fv,IdxVA.q,IdxVA.ar,IdxVA.fv];exact MX _ _
def l03Ok.fv(a:AI×Al):Bool:=(λs a=>(Dw none a.Tiles && decide (a.Tiles.length<=500)) && a.Tiles.all (λx=>Bz x.Tile 0 (s.Tiles.length - 1))) (a.1) (a.2)
def l03Ok.row:AO:=vK (b2 (qP 2 AI.d_le) (qP 1 Al.d_le)) rB (λa=>True) l03Ok.fv
def l03Ok.q:=B2 (R:=l03Ok.row) rfl
def Yad:=J @l03Ok.fv.eq_1<|J @l03Form.q<|J @l03Form.fv.eq_1<|J @l02Index.q @l02Index.fv.eq_1
def l03Ok.ok:AS 82 l03Ok.row:=by
 refine vw (tC l03Form.ok (tC l02Index.ok tN)) Tryz.func82 ?_;intro a Q;simp only[Tryz.f82,Option.getD];simp only[ZZ,simprocAttr,Ab,Yad];simp only[AQ];refine⟨λh=>by simp[h],λh=> ?_⟩;simp only[Gi] at h;refine Bc.old ⟨{k:Nat//k<=a.2.Tiles.length/\(a.2.Tiles.drop k).all (λx=>Bz x.Tile 0 (a.1.Tiles.length - 1))=a.2.Tiles.all (λx=>Bz x.Tile 0 (a.1.Tiles.length - 1))},λk=>⟨[(5,.im (.int .i64 k.1)),(4,.im (.bool false)),(0,.ptr 0 0),(1,.ptr 1 0)],[(0,(false,.view (AI.c a.1))),(1,(false,.view (Al.c a.2)))],2⟩,λk=>a.2.Tiles.length - k.1,λk=>⟨by simp[ZG],AW _⟩,⟨⟨0,by simp⟩,by simp only[ZZ,simprocAttr,Ab,Yad,sub]⟩,λk=> ?_⟩;obtain⟨k,Z,z⟩:=k;simp only[ZZ,simprocAttr,Ab,Yad,sub,AQ];intro hn;refine⟨λO=>⟨O,λx hx=> ?_⟩,λO=> ?_⟩
 .rw[Gr hx,RB] at z;refine⟨λG=> ?_,λG=>Jo O hn ⟨by omega,?_⟩⟩
  .rw[G] at z;simp only[Gx] at z;rw[h,<-z];rfl
  .simp only[Gi] at G;rw[G,EL] at z;exact z
 .rw[Ei (by omega)] at z;rw[h,<-z];rfl
def jQ{a b c:Ac}(z:B6 a b=true)(G:B6 b c=true):B6 a c=true:=by
 simp only[B6,J3,AZ,BA] at*;omega
def kV(a:Ac):B6 a a=false:=by simp[B6]
def jN: ∀(l:List Ar) (q:Option Ac),Dw q l=true->(∀p,q=some p-> ∀(i:Nat) (x:Ar),l[i]? =some x->B6 p x.At=true)/\
 ∀(i j:Nat) (x y:Ar),i<j->l[i]? =some x->l[j]? =some y->B6 x.At y.At=true
 |[],q,_=>⟨λ_ _ i x h=>by simp at h,λi j x y _ h=>by simp at h⟩
 |z::r,q,h=>by
  rw[Ru] at h;simp only[AZ] at h;obtain⟨_,_,Q,h4⟩:=h;obtain⟨Z,i2⟩:=jN r (some z.At) h4;refine⟨?_,?_⟩
  .rintro p rfl i x G;cases i with
   |zero=>
    simp only[Gw,AP] at G;subst G;exact Q
   |succ i=>
    simp only[GD] at G;exact jQ Q (Z _ rfl i x G)
  .intro i j x y aa G O;cases j with
   |zero=>omega
   |succ j=>
    simp only[GD] at O;cases i with
    |zero=>
     simp only[Gw,AP] at G;subst G;exact Z _ rfl j y O
    |succ i=>
     simp only[GD] at G;exact i2 i j x y (by omega) G O
def Qtf{A:Type}(p:A->Bool): ∀(l:List A) (o k:Nat) (x:A),l[k]? =some x->p x=true->(∀i y,i<k->l[i]? =some y->p y=false)->BB p o l=((o+k:Nat):Int)
 |[],o,k,x,h,_,_=>by simp at h
 |z::r,o,k,x,h,hp,hn=>by
  simp only[BB];cases k with
  |zero=>
   simp only[Gw,AP] at h;subst h;rw[Ak hp];rfl
  |succ k=>
   have:=hn 0 z (by omega) (by simp)
   rw[Ad (by simp[this])];rw[Qtf p r (o+1) k x (by simpa using h) hp (λi y O G=>hn (i+1) y (by omega) (by simpa using G))];congr 1;omega
def Qrf{A:Type}(p:A->Bool): ∀(l:List A) (o:Nat),(∀(i:Nat) (y:A),l[i]? =some y->p y=false)->BB p o l= -1
 |[],o,_=>rfl
 |z::r,o,hn=>by
  simp only[BB]
  have:=hn 0 z (by simp)
  rw[Ad (by simp[this])];exact Qrf p r (o+1) (λi y G=>hn (i+1) y (by simpa using G))
def l03Index.fv(a:Al×Ac):Int:=(λa p=>BB (λx=>decide (x.At=p)) 0 a.Tiles) (a.1) (a.2)
def l03Index.row:AO:=vK (b2 (qP 1 Al.d_le) (qR Ac.d_le)) rI (λa=>Dw none a.1.Tiles=true) l03Index.fv
def l03Index.q:=B2 (R:=l03Index.row) rfl
def Yae:=J @l03Index.fv.eq_1 (J @l_LessPoint.q @l_LessPoint.fv.eq_1)
def l03Index.ok:AS 103 l03Index.row:=by
 refine vw (tC l_LessPoint.ok tN) Tryz.func103 ?_;intro a ac;simp only[Tryz.f103,Option.getD];simp only[ZZ,simprocAttr,Ab,Yae];intro hn;refine Bc.old ⟨{p:Nat×Nat//p.1<=p.2/\p.2<=a.1.Tiles.length/\(∀i x,i<p.1->a.1.Tiles[i]? =some x->B6 x.At a.2=true)/\(∀i x,p.2<=i->a.1.Tiles[i]? =some x->B6 x.At a.2=false)},λp=>⟨[(5,.im (.int .i64 p.1.1)),(6,.im (.int .i64 p.1.2)),(4,.im (.int .i64 0)),(3,.ptr 1 0),(0,.ptr 0 0)],[(1,(true,.cells 50 [.im (.int .i64 a.2.X),.im (.int .i64 a.2.Y)])),(0,(false,.view [.sl false 3 (a.1.Tiles.map Ar.c)]))],2⟩,λp=>p.1.2 - p.1.1,λp=>⟨by simp[ZG],AW _⟩,⟨⟨(0,a.1.Tiles.length),by simp,by simp,by simp,?_⟩,by simp only[ZZ,simprocAttr,Ab,Yae,sub]⟩,λp=> ?_⟩
 .intro i x G Q
  have:=(B9.1 Q).1
  simp only at G;omega
 obtain⟨⟨lo,G⟩,h1,h2,h3,h4⟩:=p;simp only at h1 h2 h3 h4;simp only[ZZ,simprocAttr,Ab,Yae,sub,AQ];obtain⟨_,O⟩:=jN _ _ ac;have ab: ∀(i:Nat) (x:Ar),i<lo->a.1.Tiles[i]? =some x->x.At≠a.2:=by
  intro i x G Q he
  have:=h3 i x G Q
  rw[he,kV] at this;cases this
 refine⟨λad=> ?_,λad=>⟨λhl=>⟨hl,λx Q=>⟨λhe=> ?_,λhe=> ?_⟩⟩,λhl=> ?_⟩⟩
 .have hm:IntKind.wrap .i64 ((IntKind.wrap .i64 ((lo:Int)+G)).tdiv 2)=(((lo+G)/2:Nat):Int):=by
   rw[AF (x:=(lo:Int)+G) (by omega) (by omega),Zdl (by omega),AF (by omega) (by omega)];omega
  rw[hm];refine⟨by omega,by omega,λx Q=>⟨λhb=> ?_,λhb=> ?_⟩⟩
  .rw[B1] at Q;refine⟨⟨((lo+G)/2+1,G),by simp only;omega,h2,λi y aa z=> ?_,h4⟩,by simp only;omega,?_,rfl⟩
   .simp only at aa;rcases Ff i ((lo+G)/2) with h|h
    .exact jQ (O i _ y x h z Q) hb
    .have:i=(lo+G)/2:=by omega
     subst this;rw[Q] at z;exact A8 z▸hb
   .rw[AF (by omega) (by omega)];simp only;omega
  .rw[B1] at Q;refine⟨⟨(lo,(lo+G)/2),by simp only;omega,by simp only;omega,h3,λi y aa z=> ?_⟩,by simp only;omega,rfl,rfl⟩;simp only at aa;rcases Ff ((lo+G)/2) i with h|h
   .cases hl:B6 y.At a.2 with
    |false=>rfl
    |true=>exact absurd (jQ (O _ i x y h Q z) hl) hb
   .have:i=(lo+G)/2:=by omega
    subst this;rw[Q] at z;obtain rfl:=A8 z;simpa using hb
 .have af:x.At=a.2:=by
   obtain⟨e1,e2⟩:=he;have e1:x.At.X=a.2.X:=by simpa using e1
   have e2:x.At.Y=a.2.Y:=by simpa using e2
   rw[<-Ac.eta x.At,<-Ac.eta a.2,e1,e2]
  rw[Qtf _ a.1.Tiles 0 lo x Q (by simp[af]) (λi y G z=>by simp[ab i y G z])];simp
 .refine (Qrf _ _ _ ?_).symm;intro i y z;rcases sE i lo with h|h|h
  .simp[ab i y h z]
  .subst h;rw[Q] at z;obtain rfl:=A8 z;simp only[HZ];intro h9;exact he (by simp[h9])
  .simp only[HZ];intro h9;have Z:=O lo i x y h Q z;rw[h9] at Z
   have:=h4 lo x (by omega) Q
   rw[this] at Z;cases Z
 .refine (Qrf _ _ _ ?_).symm;intro i y z
  have:=(B9.1 z).1
  simp[ab i y (by omega) z]
def HJ(p:Ac)(t:Int):Bool->List Ar->List Ar
 |_,[]=>[]
 |false,x::r=>if B6 p x.At=true then ⟨p,t⟩::x::HJ p t true r else x::HJ p t false r
 |true,x::r=>x::HJ p t true r
def Jr(p:Ac):List Ar->Bool
 |[]=>false
 |x::r=>if B6 p x.At=true then true else Jr p r
def Ci(a:Al)(p:Ac)(t:Int):Al:=⟨HJ p t false a.Tiles++(if Jr p a.Tiles=true then [] else [⟨p,t⟩])⟩
def zM(p:Ac)(t:Int): ∀(l:List Ar),HJ p t true l=l
 |[]=>rfl
 |x::r=>by simp only[HJ,zM p t r]
def Qiz(p:Ac)(t:Int)(x:Ar): ∀(l:List Ar),HJ p t false (l++[x])=HJ p t false l++(if Jr p l=true then [x] else if B6 p x.At=true then [⟨p,t⟩,x] else [x])
 |[]=>by simp only[Fs,HJ,Jr];split<;>simp[HJ]
 |y::r=>by
  simp only[CP,HJ,Jr];split
  .rw[zM,zM];simp
  .rw[Qiz p t x r];simp
def Qfy(p:Ac)(x:Ar): ∀(l:List Ar),Jr p (l++[x])=(Jr p l||B6 p x.At)
 |[]=>by simp only[Fs,Jr];split<;>simp_all
 |y::r=>by
  simp only[CP,Jr];split
  .simp
  .exact Qfy p x r
def Qua(p:Ac)(t:Int): ∀(l:List Ar),(HJ p t false l).length<=l.length+1
 |[]=>by simp[HJ]
 |y::r=>by
  simp only[HJ];split
  .rw[zM];simp
  .have:=Qua p t r
   simp;omega
def l03Put.fv(a:Al×Ac×Int):Al:=(Ci) (a.1) (a.2.1) (a.2.2)
def l03Put.row:AO:=vK (b3 (qP 1 Al.d_le) (qR Ac.d_le) qI) (rA Al.d_le) (λa=>a.1.Tiles.length<=1000000) l03Put.fv
def l03Put.q:=B2 (R:=l03Put.row) rfl
def rG:=J @l03Put.fv.eq_1 (J @l_LessPoint.q @l_LessPoint.fv.eq_1)
def l03Put.ok:AS 105 l03Put.row:=by
 refine vw (tC l_LessPoint.ok tN) Tryz.func105 ?_;intro a ab;simp only[Tryz.f105,Option.getD];simp only[ZZ,simprocAttr,Ab,rG];refine Bc.ren ⟨{k:Nat//k<=a.1.Tiles.length},λk=>⟨[(9,.im (.int .i64 k.1)),(8,.im (.bool (Jr a.2.1 (a.1.Tiles.take k.1)))),(7,.ptr 3 0),(6,.ptr 2 0),(4,.ptr 1 0),(0,.ptr 0 0),(2,.im (.int .i64 a.2.2))],[(3,(true,.cells 30 [.own 4])),(4,(true,.arr 136 3 ((HJ a.2.1 a.2.2 false (a.1.Tiles.take k.1)).map Ar.c))),(2,(true,.cells 30 [.im (.sl true 0 [])])),(1,(true,.cells 50 [.im (.int .i64 a.2.1.X),.im (.int .i64 a.2.1.Y)])),(0,(false,.view [.sl false 3 (a.1.Tiles.map Ar.c)]))],5⟩,λk=>a.1.Tiles.length - k.1,λk=>⟨by simp[ZG],by simp⟩,⟨⟨0,by simp⟩,[(4,none)],?_⟩,λk=> ?_⟩
 .simp only[Ao];simp only[ZZ,simprocAttr,Ab,rG,AU,AT,Fh,HJ,Jr,BY]
  try simp
 obtain⟨k,ac⟩:=k;simp only[ZZ,simprocAttr,Ab,rG,AQ];intro _;have Z:=Qua a.2.1 a.2.2 (a.1.Tiles.take k);have aa:(a.1.Tiles.take k).length<=k:=by simp;omega
 refine⟨λQ=>⟨λhd=>⟨Q,λx O=>⟨λG=> ?_,λG=> ?_⟩⟩,λhd=> ?_⟩,λQ=> ?_⟩
 .have z:a.1.Tiles.take (k+1)=a.1.Tiles.take k++[x]:=by rw[K6,O];rfl
  refine⟨by simp[B7,B8,D.one],by omega,Q,λy hy=>⟨by simp[B7,B8,D.one],by simp;omega,⟨⟨k+1,by omega⟩,[(4,some 8)],by simp only;omega,?_⟩⟩⟩;rw[O] at hy;obtain rfl:=A8 hy;simp only[Ao];simp only[ZZ,simprocAttr,Ab,rG];refine⟨by simp,⟨?_,?_⟩,?_⟩
  .rw[AF (by omega) (by omega)];omega
  .rw[z,Qfy,hd,G];rfl
  .rw[z,Qiz,hd,G];simp[Ar.c]
 .have z:a.1.Tiles.take (k+1)=a.1.Tiles.take k++[x]:=by rw[K6,O];rfl
  refine⟨Q,λy hy=>⟨by simp[B7,B8,D.one],by omega,⟨⟨k+1,by omega⟩,[(4,some 6)],by simp only;omega,?_⟩⟩⟩;rw[O] at hy;obtain rfl:=A8 hy;simp only[RE] at G;simp only[Ao];simp only[ZZ,simprocAttr,Ab,rG];refine⟨by simp,⟨?_,?_⟩,?_⟩
  .rw[AF (by omega) (by omega)];omega
  .rw[z,Qfy,hd,G];rfl
  .rw[z,Qiz,hd,G];simp[Ar.c]
 .simp only[Gi] at hd;refine⟨Q,λx O=>⟨by simp[B7,B8,D.one],by omega,⟨⟨k+1,by omega⟩,[(4,some 6)],by simp only;omega,?_⟩⟩⟩;have z:a.1.Tiles.take (k+1)=a.1.Tiles.take k++[x]:=by rw[K6,O];rfl
  simp only[Ao];simp only[ZZ,simprocAttr,Ab,rG];refine⟨by simp,⟨?_,?_⟩,?_⟩
  .rw[AF (by omega) (by omega)];omega
  .rw[z,Qfy,hd];rfl
  .rw[z,Qiz,hd];simp[Ar.c]
 .rw[GE (by omega)] at Z aa⊢;refine⟨λhd=>⟨by simp[B7,B8,D.one],by omega,?_⟩,λhd=> ?_⟩
  .have e:List.map Ar.c (HJ a.2.1 a.2.2 false a.1.Tiles)++[[D.int .i64 a.2.1.X,D.int .i64 a.2.1.Y,D.int .i64 a.2.2]]=List.map Ar.c (HJ a.2.1 a.2.2 false a.1.Tiles++[⟨a.2.1,a.2.2⟩]):=by simp[Ar.c]
   rw[e,Ar.d_R];simp[Ci,hd]
  .simp only[Gi] at hd;simp[Ci,hd]
def Ba(a:Al)(p:Ac):Int:=((a.Tiles.find? (λx=>decide (x.At=p))).map Ar.Tile).getD (-1)
def Xa{A:Type}(p:A->Bool): ∀(l:List A) (o:Nat),(l.find? p=none/\BB p o l= -1)\/ ∃(i:Nat) (x:A),l.find? p=some x/\BB p o l=((o+i:Nat):Int)/\l[i]? =some x
 |[],o=> .inl ⟨rfl,rfl⟩
 |z::r,o=>by
  simp only[BB,Zeu];cases h:p z
  .rcases Xa p r (o+1) with ⟨G,O⟩|⟨i,x,G,O,Q⟩
   .exact .inl ⟨by simpa using G,by simpa using O⟩
   .exact .inr ⟨i+1,x,by simpa using G,by simp[O];omega,by simpa using Q⟩
  .exact .inr ⟨0,z,rfl,by simp,by simp⟩
def l03At.fv(a:Al×Ac):Int:=(Ba) (a.1) (a.2)
def l03At.row:AO:=vK (b2 (qP 1 Al.d_le) (qR Ac.d_le)) rI (λa=>Dw none a.1.Tiles=true) l03At.fv
def l03At.q:=B2 (R:=l03At.row) rfl
def l03At.ok:AS 149 l03At.row:=by
 refine vw (tC l03Index.ok tN) Tryz.func149 ?_;intro a z;simp only[Tryz.f149,Option.getD];simp only[ZZ,simprocAttr,Ab,l03At.fv,l03Index.q,l03Index.fv];refine⟨z,?_⟩;rcases Xa (λx=>decide (x.At=a.2)) a.1.Tiles 0 with ⟨G,O⟩|⟨i,x,G,O,Q⟩
 .rw[O,Ak (by omega)];simp[Ba,G]
 .have hi:=(B9.1 Q).1;rw[O,Ad (by omega)];refine⟨by omega,by omega,λy Z=> ?_⟩
  have:((0+i:Nat):Int).toNat=i:=by omega
  rw[this,Q] at Z;obtain rfl:=A8 Z;simp[Ba,G]
def l02Tile.fv(a:AI×ByteArray):Int:=(λs n=>BB (λg=>decide (g.Name=n)) 0 s.Tiles) (a.1) (a.2)
def l02Tile.row:AO:=vK (b2 (qP 2 AI.d_le) qT) rI (λa=>True) l02Tile.fv
def l02Tile.q:=B2 (R:=l02Tile.row) rfl
def l02Tile.ok:AS 134 l02Tile.row:=by
 refine vw tN Tryz.func134 ?_;intro a O;simp only[Tryz.f134,Option.getD];simp only[ZZ,simprocAttr,Ab,l02Tile.fv];refine Bc.old ⟨{k:Nat//k<=a.1.Tiles.length/\BB (λg:Tile=>decide (g.Name=a.2)) k (a.1.Tiles.drop k)=BB (λg:Tile=>decide (g.Name=a.2)) 0 a.1.Tiles},λk=>⟨[(5,.im (.int .i64 k.1)),(4,.im (.int .i64 0)),(0,.ptr 0 0),(1,.im (.str a.2))],[(0,(false,.view (AI.c a.1)))],1⟩,λk=>a.1.Tiles.length - k.1,λk=>⟨by simp[ZG],AW _⟩,⟨⟨0,by simp⟩,by simp only[ZZ,simprocAttr,Ab,l02Tile.fv,sub]⟩,λk=> ?_⟩;obtain⟨k,Q,z⟩:=k;simp only[ZZ,simprocAttr,Ab,l02Tile.fv,sub,AQ];intro hn;refine⟨λG=>⟨G,λx Z=> ?_⟩,λG=> ?_⟩
 .rw[Gr Z,BB] at z;refine⟨λh=> ?_,λh=>Jo G hn ⟨by omega,by rw[<-z,Ad (by simpa using h)]⟩⟩;rw[Ak (by simpa using h)] at z;exact z
 .rw[Ei (by omega),BB] at z;omega
def He(a:Al)(o:Aj):Al×Int:=if 500<=a.Tiles.length then (⟨[]⟩,4) else (Ci a o.At o.Tile,0)
def l08Attach.fv(a:Al×Aj):Al×Int:=(He) (a.1) (a.2)
def l08Attach.row:AO:=vK (b2 (qP 1 Al.d_le) (qR Aj.d_le)) (r2 (rA Al.d_le) rI) (λa=>True) l08Attach.fv
def l08Attach.q:=B2 (R:=l08Attach.row) rfl
def l08Attach.ok:AS 51 l08Attach.row:=by
 refine vw (tC l03Put.ok tN) Tryz.func51 ?_;intro a z;simp only[Tryz.f51,Option.getD];simp only[ZZ,simprocAttr,Ab,l08Attach.fv,l03Put.q,l03Put.fv];intro _;simp only[AQ];refine⟨λh=> ?_,λh=>⟨by omega,?_⟩⟩
 .simp only[He];rw[Ak (by omega)]
 .simp only[He];rw[Ad (by omega)]
def OH(s:AI)(a:Al)(p:Ac)(t:Int)(d:Int):Int:=if 0<=Ba a (Bv p d) then Gd s t d (Ba a (Bv p d)) else 0
def K0(s:AI)(a:Al)(p:Ac)(t:Int):Nat->Int
 |0=>0
 |k+1=>K0 s a p t k+OH s a p t k
def CA(s:AI)(a:Al):Prop:=Dw none a.Tiles=true/\ ∀x∈a.Tiles,GY s x.Tile
def ON{s:AI}{a:Al}(h:CA s a)(p:Ac)(h0:0<=Ba a p):GY s (Ba a p):=by
 simp only[Ba] at h0⊢;cases hf:a.Tiles.find? (λx=>decide (x.At=p)) with
 |none=>rw[hf] at h0;simp at h0
 |some x=>exact h.2 x (rO hf)
def Qp1{s:AI}(h:BK s)(g:Int):0<=Rz s g/\Rz s g<=4:=by
 simp only[Rz];split
 .cases hx:s.Glues[(g - 1).toNat]? with
  |none=>simp
  |some x=>have:=h.2.2 x (Bd hx);simp;omega
 .omega
def Ov{s:AI}(h:BK s)(a:Al)(p:Ac)(t d:Int):0<=OH s a p t d/\OH s a p t d<=4:=by
 simp only[OH,Gd];split
 .split
  .exact Qp1 h _
  .omega
 .omega
def Mx{s:AI}(h:BK s)(a:Al)(p:Ac)(t:Int): ∀(k:Nat),0<=K0 s a p t k/\K0 s a p t k<=4*k
 |0=>by simp[K0]
 |k+1=>by
  have z:=Mx h a p t k;have G:=Ov h a p t k;simp only[K0];omega
def l06Binding.fv(a:AI×Al×Ac×Int):Int:=(λs a p t=>K0 s a p t 4) (a.1) (a.2.1) (a.2.2.1) (a.2.2.2)
def l06Binding.row:AO:=vK (b4 (qP 2 AI.d_le) (qP 1 Al.d_le) (qR Ac.d_le) qI) rI (λa=>BK a.1/\CA a.1 a.2.1/\GZ a.2.2.1/\GY a.1 a.2.2.2) l06Binding.fv
def l06Binding.q:=B2 (R:=l06Binding.row) rfl
def Yag:=J @l06Binding.fv.eq_1<|J @l03At.q<|J @l03At.fv.eq_1<|J @l01Step.q<|J @l01Step.fv.eq_1<|J @l02Bond.q @l02Bond.fv.eq_1
def l06Binding.ok:AS 104 l06Binding.row:=by
 refine vw (tC l03At.ok (tC l01Step.ok (tC l02Bond.ok tN))) Tryz.func104 ?_;intro a z;simp only[Tryz.f104,Option.getD];simp only[ZZ,simprocAttr,Ab,Yag];obtain⟨G,O,Q,Z⟩:=z;refine Bc.old ⟨{k:Nat//k<=4},λk=>⟨[(10,.im (.int .i64 k.1)),(9,.im (.int .i64 (K0 a.1 a.2.1 a.2.2.1 a.2.2.2 k.1))),(8,.im (.int .i64 0)),(6,.ptr 2 0),(0,.ptr 0 0),(1,.ptr 1 0),(3,.im (.int .i64 a.2.2.2))],[(2,(true,.cells 50 [.im (.int .i64 a.2.2.1.X),.im (.int .i64 a.2.2.1.Y)])),(0,(false,.view (AI.c a.1))),(1,(false,.view (Al.c a.2.1)))],3⟩,λk=>4 - k.1,λk=>⟨by simp[ZG],AW _⟩,⟨⟨0,by simp⟩,by simp only[ZZ,simprocAttr,Ab,Yag,sub,K0]⟩,λk=> ?_⟩;obtain⟨k,aa⟩:=k;simp only[ZZ,simprocAttr,Ab,Yag,sub,AQ];have hb:=Mx G a.2.1 a.2.2.1 a.2.2.2 k;have ht:=Ov G a.2.1 a.2.2.1 a.2.2.2 k;refine⟨λhk=>⟨⟨Q,by omega⟩,O.1,λhp=>⟨⟨G,Z,⟨by omega,by omega⟩,ON O _ hp⟩,⟨⟨k+1,by omega⟩,by simp only;omega,?_,?_⟩⟩,λhp=>⟨⟨k+1,by omega⟩,by simp only;omega,?_,?_⟩⟩,λhk=> ?_⟩
 .rw[AF (by omega) (by omega)];simp only;omega
 .simp only[K0];simp only[OH,Ak hp] at ht⊢;rw[AF (by omega) (by omega)]
 .rw[AF (by omega) (by omega)];simp only;omega
 .simp only[K0,OH,Ad hp];omega
 .have:k=4:=by omega
  rw[this]
def kO{p:Ac}(h:EU p=true):GZ p:=by
 simp only[EU,Bz,AZ,BA] at h;simp only[GZ];omega
def Qh6: ∀(l:List Ar) (q:Option Ac),Dw q l=true-> ∀x∈l,EU x.At=true/\Bz x.Tile 0 159=true
 |[],_,_,x,G=>by cases G
 |z::r,q,h,x,G=>by
  rw[Ru] at h;simp only[AZ] at h;rcases BO.1 G with rfl|G
  .exact⟨h.1,h.2.1⟩
  .exact Qh6 r _ h.2.2.2 x G
def HR(a:Al)(i d:Int):Int:=BB (λx=>decide (x.At=Bv ((a.Tiles[i.toNat]?.map Ar.At).getD ⟨0,0⟩) d)) 0 a.Tiles
def l06Neighbor.fv(a:Al×Int×Int):Int:=(HR) (a.1) (a.2.1) (a.2.2)
def l06Neighbor.row:AO:=vK (b3 (qP 1 Al.d_le) qI qI) rI (λa=>Dw none a.1.Tiles=true/\0<=a.2.1/\a.2.1<a.1.Tiles.length/\0<=a.2.2/\a.2.2<=3) l06Neighbor.fv
def l06Neighbor.q:=B2 (R:=l06Neighbor.row) rfl
def l06Neighbor.ok:AS 179 l06Neighbor.row:=by
 refine vw (tC l01Step.ok (tC l03Index.ok tN)) Tryz.func179 ?_;intro a z;simp only[Tryz.f179,Option.getD];simp only[ZZ,simprocAttr,Ab,l06Neighbor.fv,l01Step.q,l01Step.fv,l03Index.q,l03Index.fv];obtain⟨G,Q,Z,h4,h5⟩:=z;refine⟨Q,Z,λx O=>⟨⟨kO (Qh6 _ _ G x (Bd O)).1,h4,h5⟩,G,?_⟩⟩;simp only[HR];rw[O];rfl
def l08Can.fv(a:An×Al×Aj):Bool:=(λs a o=>EU o.At && (Bz o.Tile 0 (s.Set.Tiles.length - 1) && (decide (BB (λx=>decide (x.At=o.At)) 0 a.Tiles<0) && decide (s.Temperature<=K0 s.Set a o.At o.Tile 4)))) (a.1) (a.2.1) (a.2.2)
def l08Can.row:AO:=vK (b3 (qP 4 An.d_le) (qP 1 Al.d_le) (qR Aj.d_le)) rB (λa=>BK a.1.Set/\CA a.1.Set a.2.1) l08Can.fv
def l08Can.q:=B2 (R:=l08Can.row) rfl
def l08Can.ok:AS 50 l08Can.row:=by
 refine vw (tC l01Point.ok (tC l02Index.ok (tC l03Index.ok (tC l06Binding.ok tN)))) Tryz.func50 ?_;intro a z;simp only[Tryz.f50,Option.getD];simp only[ZZ,simprocAttr,Ab,l08Can.fv,l01Point.q,l01Point.fv,l02Index.q,l02Index.fv,l03Index.q,l03Index.fv,l06Binding.q,l06Binding.fv];obtain⟨O,G⟩:=z;cases e1:EU a.2.2.At
 .simp
 cases e2:Bz a.2.2.Tile 0 (a.1.Set.Tiles.length - 1)
 .simp
 rw[Ak rfl,Ak rfl];refine⟨G.1,?_⟩
 split<;>rename_i h
 .refine⟨⟨O,G,kO e1,?_⟩,by simp[h]⟩;simp only[Bz,AZ,BA] at e2;simp only[GY];omega
 .simp[h]
def Md(s:AI):Nat->List AG->Bool
 |_,[]=>true
 |i,g::r=>(Js g.Name && (Bz g.Strength 1 4 && decide (BB (λx=>decide (x.Name=g.Name)) 0 s.Glues=i))) && Md s (i+1) r
def Kv(s:AI):Nat->List Tile->Bool
 |_,[]=>true
 |i,x::r=>(Js x.Name && (decide (x.Sides.length=4) && (decide (BB (λy=>decide (y.Name=x.Name)) 0 s.Tiles=i) && x.Sides.all (λg=>Bz g 0 s.Glues.length)))) && Kv s (i+1) r
def Gb(s:AI):Bool:=(decide (s.Glues.length<=200) && Bz s.Tiles.length 1 160) && (Md s 0 s.Glues && Kv s 0 s.Tiles)
def l02Ok.fv(a:AI):Bool:=(Gb) a
def l02Ok.row:AO:=vK (b1 (qP 2 AI.d_le)) rB (λa=>True) l02Ok.fv
def l02Ok.q:=B2 (R:=l02Ok.row) rfl
def lR:=J @l02Ok.fv.eq_1<|J @spec_IsName.q<|J @spec_IsName.fv.eq_1<|J @l00In.q<|J @l00In.fv.eq_1<|J @l02Glue.q<|J @l02Glue.fv.eq_1<|J @l02Tile.q @l02Tile.fv.eq_1
def l02Ok.ok:AS 81 l02Ok.row:=by
 refine vw (tC spec_IsName.ok (tC l00In.ok (tC l02Glue.ok (tC l02Tile.ok tN)))) Tryz.func81 ?_;intro a ac;simp only[Tryz.f81,Option.getD];simp only[ZZ,simprocAttr,Ab,lR];intro hg;simp only[AQ];refine⟨λc1 ht=>⟨λc2 _=>⟨λc3=> ?_,λc3=> ?_⟩,λc2=> ?_⟩,λc1=> ?_⟩
 .have: ¬(a.Tiles.length:Int)<=160:=by omega
  simp[Gb,Bz,this]
 .have c0:Gb a=(Md a 0 a.Glues && Kv a 0 a.Tiles):=by
   have e1:a.Glues.length<=200:=by omega
   have e2:(1:Int)<=a.Tiles.length:=by omega
   have e3:(a.Tiles.length:Int)<=160:=by omega
   simp[Gb,Bz,e1,e2,e3]
  refine Bc.old ⟨{k:Nat//k<=a.Glues.length/\Md a k (a.Glues.drop k)=Md a 0 a.Glues},λk=>⟨[(3,.im (.int .i64 k.1)),(2,.im (.bool false)),(0,.ptr 0 0)],[(0,(false,.view (AI.c a)))],1⟩,λk=>a.Glues.length - k.1,λk=>⟨by simp[ZG],AW _⟩,⟨⟨0,by simp⟩,by simp only[ZZ,simprocAttr,Ab,lR,sub]⟩,λk=> ?_⟩;obtain⟨k,ab,z⟩:=k;simp only[ZZ,simprocAttr,Ab,lR,sub,AQ];intro _;refine⟨λhk=>⟨hk,λx hx=> ?_⟩,λhk=> ?_⟩
  .rw[Gr hx,Md] at z;have G:(Js x.Name && (Bz x.Strength 1 4 && decide (BB (λg:AG=>decide (g.Name=x.Name)) 0 a.Glues=k)))=false->false=Gb a:=by
    intro h;rw[h,Gx] at z;rw[c0,<-z];rfl
   refine⟨λZ=>⟨λh2=>⟨λQ=> ?_,λQ=>Jo hk hg ⟨by omega,?_⟩⟩,λh2=>G (by simp[h2])⟩,λZ=>G (by simp[Z])⟩
   .rw[AF (by omega) (by omega)] at Q;exact G (by simp;intro _ _;omega)
   .rw[I3,AF (by omega) (by omega)] at Q;have h4:BB (λg:AG=>decide (g.Name=x.Name)) 0 a.Glues=k:=by omega
    rw[Z,h2,h4] at z;simpa using z
  .rw[Ei (by omega),Md] at z;have c9:Gb a=Kv a 0 a.Tiles:=by rw[c0,<-z,EL]
   refine Bc.old ⟨{k:Nat//k<=a.Tiles.length/\Kv a k (a.Tiles.drop k)=Kv a 0 a.Tiles},λk=>⟨[(5,.im (.int .i64 k.1)),(2,.im (.bool false)),(0,.ptr 0 0)],[(0,(false,.view (AI.c a)))],1⟩,λk=>a.Tiles.length - k.1,λk=>⟨by simp[ZG],AW _⟩,⟨⟨0,by simp⟩,by simp only[ZZ,simprocAttr,Ab,lR,sub]⟩,λk=> ?_⟩;obtain⟨k,ab,z⟩:=k;simp only[ZZ,simprocAttr,Ab,lR,sub,AQ];intro _;refine⟨λhk=>⟨hk,λx hx=> ?_⟩,λhk=> ?_⟩
   .rw[Gr hx,Kv] at z;have G:(Js x.Name && (decide (x.Sides.length=4) && (decide (BB (λy:Tile=>decide (y.Name=x.Name)) 0 a.Tiles=k) && x.Sides.all (λg=>Bz g 0 a.Glues.length))))=false->false=Gb a:=by
     intro h;rw[h,Gx] at z;rw[c9,<-z]
    refine⟨λZ hs=>⟨λh2=>⟨λQ=>G (by simp[Q]),λQ=> ?_⟩,λh2=>G (by simp;intro _ h9;omega)⟩,λZ=>G (by simp[Z])⟩;rw[I3] at Q;have aa:x.Sides.length=4:=by omega
    refine Bc.old ⟨{j:Nat//j<=4/\(x.Sides.drop j).all (λg=>Bz g 0 a.Glues.length)=x.Sides.all (λg=>Bz g 0 a.Glues.length)},λj=>⟨[(7,.im (.int .i64 j.1)),(5,.im (.int .i64 k)),(6,.ptr 1 0),(2,.im (.bool false)),(0,.ptr 0 0)],[(1,(true,.cells 135 ((Tile.c x).map .im))),(0,(false,.view (AI.c a)))],2⟩,λj=>4 - j.1,λj=>⟨by simp[ZG,Tile.c],by simp⟩,⟨⟨0,by simp⟩,by simp only[ZZ,simprocAttr,Ab,lR,sub]⟩,λj=> ?_⟩;obtain⟨j,ad,O⟩:=j;simp only[ZZ,simprocAttr,Ab,lR,sub,AQ];refine⟨λhj=>⟨by omega,λy hy=> ?_⟩,λhj=>Jo hk ht ⟨by omega,?_⟩⟩
    .rw[Gr hy,RB] at O;refine⟨λh=>G ?_,λh=>⟨⟨j+1,by omega,?_⟩,by simp only;omega,?_⟩⟩
     .rw[h,Gx] at O;rw[<-O];simp
     .rw[Gi] at h;rw[h,EL] at O;exact O
     .rw[AF (by omega) (by omega)];simp only;omega
    .rw[Ei (by omega)] at O;rw[<-z,<-O,Z,aa,Q];simp
   .rw[Ei (by omega),Kv] at z;rw[c9,<-z]
 .have: ¬(1:Int)<=a.Tiles.length:=by omega
  simp[Gb,Bz,this]
 .have: ¬a.Glues.length<=200:=by omega
  simp[Gb,this]
def VS1.fv(a:Int×AI):Bool:=(λg s=> !Bz g 0 s.Glues.length) (a.1) (a.2)
def VS1.row:AO:=vK (b2 qI (qP 2 AI.d_le)) rB (λa=>True) VS1.fv
def VS1.q:=B2 (R:=VS1.row) rfl
def VS1.ok:AS 213 VS1.row:=by
 refine vw (tC within_.ok tN) Tryz.func213 ?_;intro a z;simp only[Tryz.f213,Option.getD];simp only[ZZ,simprocAttr,Ab,VS1.fv,within_.q,within_.fv];intro _;trivial
def IdxVS.ar:List PK->Option ((List Int)×AI)
 |[.val (.sl _ _ O),.val (.fn 213 [] [.ref z])]=>(AX Dj O).bind λQ=>(AI.d (z.take 2)).bind λG=>some (Q,G)
 |_=>none
def IdxVS.ae(a:(List Int)×AI):List PK:=[.val (.sl false 1 (a.1.map Af)),.val (.fn 213 [] [.ref (AI.c a.2)])]
def IdxVS.le: ∀G a,IdxVS.ar G=some a->Cy G (IdxVS.ae a):=by
 intro G a h;unfold IdxVS.ar at h;split at h
 .simp only[F5,AP] at h;obtain⟨Q,h0,O,z,rfl⟩:=h;exact⟨E0 (Ej Ez _ _ h0) (by simp only[BZ];rintro r ⟨y,_,rfl⟩;rfl),YL ⟨Xd (Hr.trans_take (AI.d_le _ _ z)),trivial⟩,trivial⟩
 .cases h
def IdxVS.fv(a:(List Int)×AI):Int:=(λl s=>BB (λg=> !Bz g 0 s.Glues.length) 0 l) (a.1) (a.2)
def IdxVS.row:AO:=FY IdxVS.ar (λa=>True) (λa=>(D.int .i64) (IdxVS.fv a))
def IdxVS.q:=vq IdxVS.row rfl
def IdxVS.ok:AS 74 IdxVS.row:=by
 refine gZ DJ (tC VS1.ok tN) Tryz.func74 rfl (by kernel_rfl) (by kernel_rfl) (ar:=IdxVS.ar) (ae:=IdxVS.ae) IdxVS.le (n:=2) (λ_=>rfl) (by decide) (rc:=(DU)) (re:=(D.int .i64)) (RZ) (f:=IdxVS.fv) ?_;intro a O;simp only[Tryz.f74,Option.getD];simp only[ZZ,simprocAttr,Ab,IdxVS.ae,IdxVS.fv,VS1.q,VS1.fv];intro hn;refine Bc.old ⟨{k:Nat//k<=a.1.length/\BB (λg:Int=> !Bz g 0 a.2.Glues.length) k (a.1.drop k)=BB (λg:Int=> !Bz g 0 a.2.Glues.length) 0 a.1},λk=>⟨[(8,.im (.int .i64 k.1)),(7,.im (.int .i64 a.1.length)),(6,.im (.sl false 1 (a.1.map Af))),(4,.im (.int .i64 0)),(0,.im (.sl false 1 (a.1.map Af))),(1,.im (.fn 213 [] [.ref (AI.c a.2)]))],[],0⟩,λk=>a.1.length - k.1,λk=>⟨by simp[ZG],AW _⟩,⟨⟨0,by simp⟩,by simp only[ZZ,simprocAttr,Ab,IdxVS.ae,IdxVS.fv,VS1.q,VS1.fv,sub]⟩,λk=> ?_⟩;obtain⟨k,Q,z⟩:=k;simp only[ZZ,simprocAttr,Ab,IdxVS.ae,IdxVS.fv,VS1.q,VS1.fv,sub,AQ];refine⟨λG=>⟨G,λx Z=> ?_⟩,λG=> ?_⟩
 .rw[Gr Z,BB] at z;refine⟨λh=> ?_,λh=>Jo G hn ⟨by omega,by rw[<-z,Ad (by simpa using h)]⟩⟩;rw[Ak (by simpa using h)] at z;exact z
 .rw[Ei (by omega),BB] at z;exact z
def ContVS.ar:List PK->Option ((List Int)×AI)
 |[.val (.sl _ _ O),.val (.fn 213 [] [.ref z])]=>(AX Dj O).bind λQ=>(AI.d (z.take 2)).bind λG=>some (Q,G)
 |_=>none
def ContVS.ae(a:(List Int)×AI):List PK:=[.val (.sl false 1 (a.1.map Af)),.val (.fn 213 [] [.ref (AI.c a.2)])]
def ContVS.le: ∀G a,ContVS.ar G=some a->Cy G (ContVS.ae a):=by
 intro G a h;unfold ContVS.ar at h;split at h
 .simp only[F5,AP] at h;obtain⟨Q,h0,O,z,rfl⟩:=h;exact⟨E0 (Ej Ez _ _ h0) (by simp only[BZ];rintro r ⟨y,_,rfl⟩;rfl),YL ⟨Xd (Hr.trans_take (AI.d_le _ _ z)),trivial⟩,trivial⟩
 .cases h
def ContVS.fv(a:(List Int)×AI):Bool:=(λl s=>l.any (λg=> !Bz g 0 s.Glues.length)) (a.1) (a.2)
def ContVS.row:AO:=FY ContVS.ar (λa=>True) (λa=>(D.bool) (ContVS.fv a))
def ContVS.q:=vq ContVS.row rfl
def ContVS.ok:AS 185 ContVS.row:=by
 refine gZ DJ (tC IdxVS.ok tN) Tryz.func185 rfl (by kernel_rfl) (by kernel_rfl) (ar:=ContVS.ar) (ae:=ContVS.ae) ContVS.le (n:=2) (λ_=>rfl) (by decide) (rc:=(X9)) (re:=(D.bool)) (xC) (f:=ContVS.fv) ?_;intro a z;simp only[Tryz.f185,Option.getD];simp only[ZZ,simprocAttr,Ab,ContVS.ae,ContVS.fv,IdxVS.q,IdxVS.ar,IdxVS.fv];exact MX _ _
def Pi(z:List ByteArray):List (D×D):=z.map λn=>(.str n,.bool true)
def beqB(n m:ByteArray):(n==m)=decide (n=m):=by
 rw[Qpj]
def Nr(n:ByteArray): ∀(z:List ByteArray),(n∈z->lk (Pi z) (.str n)=some (.bool true))/\(n∉z->lk (Pi z) (.str n)=none)
 |[]=>⟨λh=>by simp at h,λ_=>rfl⟩
 |m::r=>by
  obtain⟨G,O⟩:=Nr n r;simp only[Pi] at G O;simp only[Pi,Bm,lk,D.beq,BO,beqB];by_cases h:n=m
  .simp[h]
  .simp only[h,sF,Co,false_or];exact⟨G,O⟩
def Qum(n:ByteArray)(G:List ByteArray)(Ks:D->Prop)(Kn:Prop):GL (Pi G) (.str n) Ks Kn=((n∈G->Ks (.bool true))/\(n∉G->Kn)):=by
 obtain⟨Z,i2⟩:=Nr n G;apply propext;unfold GL;constructor
 .rintro⟨O,Q⟩;exact⟨λh=>O _ (Z h),λh=>Q (i2 h)⟩
 .rintro⟨O,Q⟩;by_cases h:n∈G
  .refine⟨λv z=> ?_,λz=> ?_⟩
   .rw[Z h] at z;exact A8 z▸O h
   .rw[Z h] at z;cases z
  .refine⟨λv z=> ?_,λ_=>Q h⟩;rw[i2 h] at z;cases z
def Qru(n:ByteArray): ∀(z:List ByteArray),n∉z->Hp (Pi z) (.str n) (.bool true)=Pi (z++[n])
 |[],_=>rfl
 |m::r,h=>by
  simp only[BO,Zf] at h
  have:=Qru n r h.2
  simp only[Pi] at this;simp only[Pi,Bm,Hp,D.beq,beqB,h.1,sF,Co,CP,this]
def tB{A:Type}(f:A->ByteArray)(l:List A)(k:Nat)(x:A)(hx:l[k]? =some x):BB (λy=>decide (f y=f x)) 0 l=(k:Int)↔f x∉(l.take k).map f:=by
 constructor
 .intro h hm;obtain⟨y,hy,O⟩:=BZ.1 hm;obtain⟨i,Q,aa⟩:=lV.1 hy;have ab:i<k:=by simp at Q;omega
  have Z:l[i]? =some y:=by
   rw[<-aa,List.getElem_take];exact Bk _
  have G: ∀(l:List A) (o i:Nat) (y:A),l[i]? =some y->(decide (f y=f x))=true->BB (λy=>decide (f y=f x)) o l<=((o+i:Nat):Int):=by
   intro l;induction l with
   |nil=>intro o i y h;simp at h
   |cons z r ih=>
    intro o i y h hp;simp only[BB];split
    .omega
    .rename_i hz;cases i with
     |zero=>
      simp only[Gw,AP] at h;subst h;exact absurd hp hz
     |succ i=>
      have:=ih (o+1) i y (by simpa using h) hp
      omega
  have:=G l 0 i y Z (by simpa using O)
  omega
 .intro h;rw[Qtf _ l 0 k x hx (by simp) ?_]
  .simp
  .intro i y Q hy;simp only[HZ];intro O;apply h;rw[<-O];refine BZ.2 ⟨y,?_,rfl⟩;exact Bd (i:=i) (by rw[eO,Ak Q];exact hy)
def R0(s:AI):Prop:=(∀g∈s.Glues,g.Name.size<=140737488355328)/\ ∀t∈s.Tiles,t.Name.size<=140737488355328
def ValidSet_.fv(a:AI):Bool:=(Gb) a
def ValidSet_.row:AO:=vK (b1 (qR AI.d_le)) rB (λa=>R0 a) ValidSet_.fv
def ValidSet_.q:=B2 (R:=ValidSet_.row) rfl
def Yai:=J @ValidSet_.fv.eq_1<|J @within_.q<|J @within_.fv.eq_1<|J @impl_IsName.q<|J @impl_IsName.fv.eq_1<|J @ContVS.q @ContVS.fv.eq_1
def ValidSet_.ok:AS 184 ValidSet_.row:=by
 refine vw (tC within_.ok (tC impl_IsName.ok (tC ContVS.ok tN))) Tryz.func184 ?_;intro a ab;simp only[Tryz.f184,Option.getD];simp only[ZZ,simprocAttr,Ab,Yai,ContVS.ar];obtain⟨ad,af⟩:=ab;intro hg;simp only[AQ];refine⟨λc1 ht=>⟨λc2=> ?_,λc2 _=> ?_⟩,λc1=> ?_⟩
 .simp[Gb,c2]
 .rw[Gi] at c2;have c0:Gb a=(Md a 0 a.Glues && Kv a 0 a.Tiles):=by
   have e1:a.Glues.length<=200:=by omega
   simp[Gb,e1,c2]
  refine Bc.old ⟨{k:Nat//k<=a.Glues.length/\Md a k (a.Glues.drop k)=Md a 0 a.Glues},λk=>⟨[(24,.im (.int .i64 k.1)),(23,.im (.int .i64 a.Glues.length)),(22,.im (.sl false 2 (a.Glues.map AG.c))),(3,.mp 1),(1,.ptr 0 0),(2,.im (.bool false))],[(1,(true,.map ⟨false,[.str]⟩ (Pi ((a.Glues.take k.1).map AG.Name)))),(0,(true,.cells 27 ((AI.c a).map .im)))],2⟩,λk=>a.Glues.length - k.1,λk=>⟨by simp[ZG,AI.c],AW _⟩,⟨⟨0,by simp⟩,by simp only[ZZ,simprocAttr,Ab,Yai,ContVS.ar,sub,Pi,Fh]⟩,λk=> ?_⟩;obtain⟨k,ac,z⟩:=k;simp only[ZZ,simprocAttr,Ab,Yai,ContVS.ar,sub,AQ,Qum];refine⟨λhk=>⟨hk,λx Q=>⟨ad x (Bd Q),?_⟩⟩,λhk _=> ?_⟩
  .rw[Gr Q,Md] at z;have hu:=tB AG.Name a.Glues k x Q;have G:(Js x.Name && (Bz x.Strength 1 4 && decide (BB (λg:AG=>decide (g.Name=x.Name)) 0 a.Glues=k)))=false->false=Gb a:=by
    intro h;rw[h,Gx] at z;rw[c0,<-z];rfl
   refine⟨λZ=>⟨λO=>G ?_,λO=>⟨λh3=>G (by simp[h3]),λh3=>⟨⟨k+1,by omega,?_⟩,by simp only;omega,?_,?_⟩⟩⟩,λZ=>G (by simp[Z])⟩
   .simp only[lU,HZ];exact .inr (.inr λh9=>(hu.1 h9) O)
   .rw[Gi] at h3;rw[Z,h3,hu.2 O] at z;simpa using z
   .rw[AF (by omega) (by omega)];simp only;omega
   .rw[Qru _ _ O,K6,Q];simp
  .rw[Ei (by omega),Md] at z;have c9:Gb a=Kv a 0 a.Tiles:=by rw[c0,<-z,EL]
   refine Bc.frz [0] ⟨{k:Nat//k<=a.Tiles.length/\Kv a k (a.Tiles.drop k)=Kv a 0 a.Tiles},λk=>⟨[(52,.im (.int .i64 k.1)),(51,.im (.int .i64 a.Tiles.length)),(50,.im (.sl false 2 (a.Tiles.map Tile.c))),(6,.mp 2),(1,.ptr 0 0),(2,.im (.bool false))],[(2,(true,.map ⟨false,[.str]⟩ (Pi ((a.Tiles.take k.1).map Tile.Name)))),(0,(false,.cells 27 ((AI.c a).map .im)))],3⟩,λk=>a.Tiles.length - k.1,λk=>⟨by simp[ZG,AI.c],AW _⟩,⟨⟨0,by simp⟩,by simp only[ZZ,simprocAttr,Ab,Yai,ContVS.ar,sub,Pi,Fh]⟩,λk=> ?_⟩;obtain⟨k,ac,z⟩:=k;simp only[ZZ,simprocAttr,Ab,Yai,ContVS.ar,sub,AQ,Qum];refine⟨λhk=>⟨hk,λx Q=>⟨af x (Bd Q),?_⟩⟩,λhk=> ?_⟩
   .rw[Gr Q,Kv] at z;have hu:=tB Tile.Name a.Tiles k x Q;have G:(Js x.Name && (decide (x.Sides.length=4) && (decide (BB (λy:Tile=>decide (y.Name=x.Name)) 0 a.Tiles=k) && x.Sides.all (λg=>Bz g 0 a.Glues.length))))=false->false=Gb a:=by
     intro h;rw[h,Gx] at z;rw[c9,<-z]
    have aa:(x.Sides.any λg=> !Bz g 0 a.Glues.length)= !x.Sides.all (λg=>Bz g 0 a.Glues.length):=by
     simp[List.not_all_eq_any_not]
    rw[aa];refine⟨λZ=>⟨λO=>G ?_,λO _=>⟨λh3=>G ?_,λh3=>⟨λh4=>G ?_,λh4=>⟨⟨k+1,by omega,?_⟩,by simp only;omega,?_,?_⟩⟩⟩⟩,λZ=>G (by simp[Z])⟩
    .simp only[lU,HZ];exact .inr (.inr (.inl λh9=>(hu.1 h9) O))
    .have: ¬x.Sides.length=4:=by omega
     simp[this]
    .simp only[K5] at h4;simp only[h4,rR]
    .have h5:x.Sides.length=4:=by omega
     simp only[K5,Gi] at h4;rw[Z,h5,hu.2 O,h4] at z;simpa using z
    .rw[AF (by omega) (by omega)];simp only;omega
    .rw[Qru _ _ O,K6,Q];simp
   .rw[Ei (by omega),Kv] at z;rw[c9,<-z]
 .have: ¬a.Glues.length<=200:=by omega
  simp[Gb,this]
def La(s:AI)(a:Al):Bool:=(Dw none a.Tiles && decide (a.Tiles.length<=500)) && a.Tiles.all (λx=>Bz x.Tile 0 (s.Tiles.length - 1))
def ValidAssembly_.fv(a:AI×Al):Bool:=(λs a=>Gb s && La s a) (a.1) (a.2)
def ValidAssembly_.row:AO:=vK (b2 (qR AI.d_le) (qR Al.d_le)) rB (λa=>R0 a.1) ValidAssembly_.fv
def ValidAssembly_.q:=B2 (R:=ValidAssembly_.row) rfl
def ValidAssembly_.ok:AS 146 ValidAssembly_.row:=by
 refine vw (tC ValidSet_.ok (tC hasForm_.ok (tC ContVA.ok tN))) Tryz.func146 ?_;intro a z;simp only[Tryz.f146,Option.getD];simp only[ZZ,simprocAttr,Ab,ValidAssembly_.fv,ValidSet_.q,ValidSet_.fv,hasForm_.q,hasForm_.fv,ContVA.q,ContVA.ar,ContVA.fv];refine⟨z,?_⟩
 split<;>rename_i O
 .split<;>rename_i G
  .simp[O,La,G.1,G.2,List.not_any_eq_all_not]
  .have Q:(Dw none a.2.Tiles && decide (a.2.Tiles.length<=500))=false:=by
    rw[RC];intro h;simp only[AZ,BA] at h;exact G h
   simp[La,Q]
 .simp[O]
def comparePlaced.fv(a:Ar×Ac):Int:=(λa p=>R1 [FP a.At.Y p.Y,FP a.At.X p.X]) (a.1) (a.2)
def comparePlaced.row:AO:=vK (b2 (qR Ar.d_le) (qR Ac.d_le)) rI (λa=>True) comparePlaced.fv
def comparePlaced.q:=B2 (R:=comparePlaced.row) rfl
def comparePlaced.ok:AS 259 comparePlaced.row:=by
 refine vw (tC comparePoints.ok tN) Tryz.func259 ?_;intro a z;simp only[Tryz.f259,Option.getD];simp only[ZZ,simprocAttr,Ab,comparePlaced.fv,comparePoints.q,comparePoints.fv]
def I8(l:List Ar)(p:Ac):Nat:=(l.takeWhile (λx=>B6 x.At p)).length
def Qyx(p:Ac): ∀(l:List Ar) (lo:Nat),lo<=l.length->(∀(i:Nat) (x:Ar),i<lo->l[i]? =some x->B6 x.At p=true)->(∀(i:Nat) (x:Ar),lo<=i->l[i]? =some x->B6 x.At p=false)->I8 l p=lo
 |[],lo,h,_,_=>by simp at h;simp[I8,h]
 |x::r,0,_,_,h=>by
  have:=h 0 x (by omega) (by simp)
  simp[I8,rZ,this]
 |x::r,lo+1,hl,G,Q=>by
  have Z:=G 0 x (by omega) (by simp);have O:=Qyx p r lo (by simpa using hl) (λi y hi z=>G (i+1) y (by omega) (by simpa using z)) (λi y hi z=>Q (i+1) y (by omega) (by simpa using z));simp only[I8] at O;simp[I8,rZ,Z,O]
def T5(a b:Ac):(R1 [FP a.Y b.Y,FP a.X b.X]<0)↔B6 a b=true:=by
 simp only[B6,R1,FP]
 grind
def mT(a b:Ac):(R1 [FP a.Y b.Y,FP a.X b.X]=0)↔a=b:=by
 obtain⟨x,y⟩:=a;obtain⟨z,w⟩:=b;simp only[R1,FP,Ac.mk.injEq]
 grind
def midU(lo z:Nat)(h:lo+z<=562949953421312):IntKind.wrap .i64 ((IntKind.wrap .u64 (IntKind.wrap .i64 ((lo:Int)+z))).fdiv (2^min 1 IntKind.u64.bits))=(((lo+z)/2:Nat):Int):=by
 rw[AF (x:=(lo:Int)+z) (by omega) (by omega)];have G:IntKind.wrap .u64 ((lo:Int)+z)=(lo:Int)+z:=by
  simp only[IntKind.wrap,IntKind.signed,IntKind.bits];simp;omega
 have O:(2:Int)^min 1 IntKind.u64.bits=2:=by decide
 rw[G,O,Zez _ (by omega),AF (by omega) (by omega)];omega
def BinP.ar:List PK->Option ((List Ar)×Ac×Unit)
 |[.val (.sl _ _ z),.val (.agg G),.val (.fn 259 [] [])]=>(AX Ar.d z).bind λO=>(Ac.d G).bind λQ=>some (O,Q,())
 |_=>none
def BinP.ae(a:(List Ar)×Ac×Unit):List PK:=[.val (.sl false 3 (a.1.map Ar.c)),.val (.agg (Ac.c a.2.1)),.val (.fn 259 [] [])]
def BinP.le: ∀z a,BinP.ar z=some a->Cy z (BinP.ae a):=by
 intro z a h;unfold BinP.ar at h;split at h
 .simp only[F5,AP] at h;obtain⟨O,h0,Q,G,rfl⟩:=h;exact⟨E0 (Ej Ar.d_le _ _ h0) (by simp only[BZ];rintro r ⟨y,_,rfl⟩;rfl),xD (Ac.d_le _ _ G),CU.refl _,trivial⟩
 .cases h
def BinP.fv(a:(List Ar)×Ac×Unit):Int×Bool:=(λl p _=>((I8 l p:Int),l.any (λx=>decide (x.At=p)))) (a.1) (a.2.1) (a.2.2)
def BinP.row:AO:=FY BinP.ar (λa=>Dw none a.1=true) (λa=>(λb=>D.tup [(D.int .i64) (b.1),(D.bool) (b.2)]) (BinP.fv a))
def BinP.q:=vq BinP.row rfl
def Yaj:=J @BinP.ae.eq_1<|J @BinP.fv.eq_1<|J @comparePlaced.q @comparePlaced.fv.eq_1
def BinP.ok:AS 258 BinP.row:=by
 refine gZ DJ (tC comparePlaced.ok tN) Tryz.func258 rfl (by kernel_rfl) (by kernel_rfl) (ar:=BinP.ar) (ae:=BinP.ae) BinP.le (n:=3) (λ_=>rfl) (by decide) (rc:=(pP (DU) (X9))) (re:=(λb=>D.tup [(D.int .i64) (b.1),(D.bool) (b.2)])) (Qbz (RZ) (xC)) (f:=BinP.fv) ?_;intro a af;simp only[Tryz.f258,Option.getD];simp only[ZZ,simprocAttr,Ab,Yaj];intro hn;refine Bc.old ⟨{p:Nat×Nat//p.1<=p.2/\p.2<=a.1.length/\(∀i x,i<p.1->a.1[i]? =some x->B6 x.At a.2.1=true)/\(∀i x,p.2<=i->a.1[i]? =some x->B6 x.At a.2.1=false)},λp=>⟨[(9,.im (.int .i64 p.1.1)),(10,.im (.int .i64 p.1.2)),(8,.im (.int .i64 a.1.length)),(6,.im (.int .i64 0)),(7,.im (.bool false)),(4,.ptr 0 0),(0,.im (.sl false 3 (a.1.map Ar.c))),(2,.im (.fn 259 [] []))],[(0,(true,.cells 50 [.im (.int .i64 a.2.1.X),.im (.int .i64 a.2.1.Y)]))],1⟩,λp=>p.1.2 - p.1.1,λp=>⟨by simp[ZG],AW _⟩,⟨⟨(0,a.1.length),by simp,by simp,by simp,?_⟩,by simp only[ZZ,simprocAttr,Ab,Yaj,sub]⟩,λp=> ?_⟩
 .intro i x hi Q
  have:=(B9.1 Q).1
  simp only at hi;omega
 obtain⟨⟨lo,hi⟩,h1,h2,h3,h4⟩:=p;simp only at h1 h2 h3 h4;simp only[ZZ,simprocAttr,Ab,Yaj,sub,AQ];obtain⟨_,O⟩:=jN _ _ af;have ad: ∀(i:Nat) (x:Ar),i<lo->a.1[i]? =some x->x.At≠a.2.1:=by
  intro i x hi Q he
  have:=h3 i x hi Q
  rw[he,kV] at this;cases this
 rw[midU lo hi (by omega)];simp only[T5,mT];refine⟨λag=> ?_,λag=>⟨λhl=>⟨hl,λx Q=> ?_⟩,λhl=> ?_⟩⟩
 .refine⟨by omega,by omega,λx Q=>⟨λhb=> ?_,λhb=> ?_⟩⟩
  .rw[B1] at Q;refine⟨⟨((lo+hi)/2+1,hi),by simp only;omega,h2,λi y G Z=> ?_,h4⟩,by simp only;omega,?_,rfl⟩
   .simp only at G;rcases Ff i ((lo+hi)/2) with h|h
    .exact jQ (O i _ y x h Z Q) hb
    .have:i=(lo+hi)/2:=by omega
     subst this;rw[Q] at Z;exact A8 Z▸hb
   .rw[AF (by omega) (by omega)];simp only;omega
  .rw[B1] at Q;refine⟨⟨(lo,(lo+hi)/2),by simp only;omega,by simp only;omega,h3,λi y G Z=> ?_⟩,by simp only;omega,rfl,rfl⟩;simp only at G;rcases Ff ((lo+hi)/2) i with h|h
   .cases hl:B6 y.At a.2.1 with
    |false=>rfl
    |true=>exact absurd (jQ (O _ i x y h Q Z) hl) hb
   .have:i=(lo+hi)/2:=by omega
    subst this;rw[Q] at Z;obtain rfl:=A8 Z;simpa using hb
 .have aa:=Qyx a.2.1 a.1 lo (by omega) h3 (λi y G Z=>h4 i y (by omega) Z);refine⟨by rw[aa],?_⟩;rw[Xq];simp only[BA,ZeV];refine⟨λhe=>⟨x,Bd Q,he⟩,?_⟩;rintro⟨y,Z,he⟩;obtain⟨i,G,ac⟩:=lV.1 Z;have z:a.1[i]? =some y:=by rw[Bk G,ac]
  rcases sE i lo with h|h|h
  .exact absurd he (ad i y h z)
  .subst h;rw[Q] at z;exact A8 z▸he
  .have ab:=O lo i x y h Q z;rw[he] at ab
   have:=h4 lo x (by omega) Q
   rw[this] at ab;cases ab
 .have aa:=Qyx a.2.1 a.1 lo (by omega) h3 (λi y G Z=>h4 i y (by omega) Z);refine⟨by rw[aa],?_⟩;symm;simp only[List.any_eq_false,BA];intro y Z he;obtain⟨i,G,ac⟩:=lV.1 Z;have z:a.1[i]? =some y:=by rw[Bk G,ac]
  exact ad i y (by omega) z he
def P8{l:List Ar}{p:Ac}(h:Dw none l=true){i:Nat}{x:Ar}(O:l[i]? =some x)(Q:x.At=p):I8 l p=i:=by
 obtain⟨_,z⟩:=jN _ _ h;have hi:=(B9.1 O).1;refine Qyx p l i (by omega) (λj y hj G=> ?_) (λj y hj G=> ?_)
 .have:=z j i y x hj G O
  rwa [Q] at this
 .rcases Ff i j with Z|Z
  .have h2:=z i j x y Z O G;rw[Q] at h2;cases h3:B6 y.At p with
   |false=>rfl
   |true=>
    have:=jQ h2 h3
    rw[kV] at this;cases this
  .have:j=i:=by omega
   subst this;rw[O] at G;obtain rfl:=A8 G;rw[Q,kV]
def SV{l:List Ar}{p:Ac}(h:Dw none l=true):(l.any (λx=>decide (x.At=p))=true/\ ∃x,l[I8 l p]? =some x/\x.At=p/\l.find? (λx=>decide (x.At=p))=some x/\BB (λx=>decide (x.At=p)) 0 l=(I8 l p:Int))\/
 (l.any (λx=>decide (x.At=p))=false/\l.find? (λx=>decide (x.At=p))=none/\BB (λx=>decide (x.At=p)) 0 l= -1):=by
 rcases Xa (λx=>decide (x.At=p)) l 0 with ⟨z,G⟩|⟨i,x,z,G,O⟩
 .refine .inr ⟨?_,z,G⟩;simpa[lX] using z
 .have Q:x.At=p:=by simpa using Xr z
  have Z:=P8 h O Q;refine .inl ⟨?_,x,by rw[Z];exact O,Q,z,by rw[G,Z,FM]⟩;simp only[ZeV,BA];exact⟨x,Bd O,Q⟩
def placeAt.rc:D->Option (Int):=DU
def placeAt.re:Int->D:=D.int .i64
def placeAt.rle: ∀d b,placeAt.rc d=some b->Le d (placeAt.re b):=RZ
def placeAt.ar:List PK->Option (Al×Ac):=a2 (kR Al.d) (kR Ac.d)
def placeAt.fv(a:Al×Ac):Int:=(λa p=>BB (λx=>decide (x.At=p)) 0 a.Tiles) (a.1) (a.2)
def placeAt.row:AO:=vK (b2 (qR Al.d_le) (qR Ac.d_le)) (RK.mk placeAt.rc placeAt.re placeAt.rle) (λa=>Dw none a.1.Tiles=true) placeAt.fv
def placeAt.q:=B2 (R:=placeAt.row) rfl
def placeAt.ok:AS 250 placeAt.row:=by
 refine vw (tC BinP.ok tN) Tryz.func250 ?_;intro a z;simp only[Tryz.f250,Option.getD];simp only[ZZ,simprocAttr,Ab,placeAt.fv,placeAt.rc,BinP.q,BinP.ar,BinP.fv];refine⟨z,?_⟩;rcases SV (p:=a.2) z with ⟨G,x,Q,O,h4,Z⟩|⟨G,Q,O⟩
 .rw[Ak G,Z]
 .rw[G,Ad (by simp),O]
def BP{β:Type}:List (Ac×β)->Ac->Option β
 |[],_=>none
 |(k,v)::r,p=>if p=k then some v else BP r p
def LL(p q:Ac):D.beql (Ac.c p) (Ac.c q)=decide (p=q):=by
 cases p;cases q;simp only[Ac.c,D.beql,D.beq,Ac.mk.injEq,Er];rw[Xq];simp
def fJ{β:Type}(e:Ac×β->D×D)(g:β->D)(z: ∀p,e p=(.agg (Ac.c p.1),g p.2))(x y:Int): ∀(l:List (Ac×β)),lk (l.map e) (.agg [.int .i64 x,.int .i64 y])=(BP l ⟨x,y⟩).map g
 |[]=>rfl
 |q::r=>by
  have G:D.beq (.agg [.int .i64 x,.int .i64 y]) (.agg (Ac.c q.1))=decide ((⟨x,y⟩:Ac)=q.1):=LL ⟨x,y⟩ q.1;obtain⟨k,v⟩:=q;simp only[Bm,z,lk,BP,G];by_cases h:(⟨x,y⟩:Ac)=k
  .simp[h]
  .simp[h,fJ e g z x y r]
def Nn{β:Type}(e:Ac×β->D×D)(g:β->D)(Q: ∀p,e p=(.agg (Ac.c p.1),g p.2))(x y:Int)(l:List (Ac×β))(Ks:D->Prop)(Kn:Prop):
 GL (l.map e) (.agg [.int .i64 x,.int .i64 y]) Ks Kn=((∀v,BP l ⟨x,y⟩=some v->Ks (g v))/\(BP l ⟨x,y⟩=none->Kn)):=by
 apply propext;unfold GL;rw[fJ e g Q];constructor
 .rintro⟨G,O⟩;exact⟨λv z=>G _ (by rw[z];rfl),λh=>O (by rw[h];rfl)⟩
 .rintro⟨G,O⟩;refine⟨λv z=> ?_,λh=>O (by simpa using h)⟩;simp only[DN] at z;obtain⟨w,Z,rfl⟩:=z;exact G w Z
def aE(x y:Int)(l:List (Ac×Int))(Ks:D->Prop)(Kn:Prop):GL (l.map F3) (.agg [.int .i64 x,.int .i64 y]) Ks Kn=((∀v,BP l ⟨x,y⟩=some v->Ks (.int .i64 v))/\(BP l ⟨x,y⟩=none->Kn)):=
 Nn F3 (.int .i64) (λ_=>rfl) x y l Ks Kn
def aF(x y:Int)(l:List (Ac×List Int))(Ks:D->Prop)(Kn:Prop):GL (l.map DG) (.agg [.int .i64 x,.int .i64 y]) Ks Kn=((∀v,BP l ⟨x,y⟩=some v->Ks (.sl false 1 (v.map Af)))/\(BP l ⟨x,y⟩=none->Kn)):=
 Nn DG (λv=> .sl false 1 (v.map Af)) (λ_=>rfl) x y l Ks Kn
def CO(l:List (Ac×Int))(p:Ac):Int:=(BP l p).getD (-1)
def catC.fv(a:Dv×Ac):Int:=(λc p=>CO c.Tl p) (a.1) (a.2)
def catC.row:AO:=H5 (b2 (qP 6 Dv.d_le) (qR Ac.d_le)) rI (λa=>True) catC.fv
def catC.q:=FE (R:=catC.row) rfl
def catC.ok:AS 113 catC.row:=by
 refine LX tN Tryz.func113 ?_;intro a G;simp only[Tryz.f113,Option.getD];simp only[ZZ,simprocAttr,Ab,catC.fv,C8,D.sc,D.scs,Cm,Be];simp only[ZZ,simprocAttr,Ab,catC.fv,C8,D.sc,D.scs,Cm,Be,aE];simp only[CO];exact⟨λv z=>by rw[show BP a.1.Tl a.2=some v from z];rfl,λz=>by rw[show BP a.1.Tl a.2=none from z];rfl⟩
def Ds(s:AI)(f:Ac->Int)(p:Ac)(t:Int)(d:Int):Int:=if 0<=f (Bv p d) then Gd s t d (f (Bv p d)) else 0
def CW(s:AI)(f:Ac->Int)(p:Ac)(t:Int):Nat->Int
 |0=>0
 |k+1=>CW s f p t k+Ds s f p t k
def H6(s:AI)(a:Al)(p:Ac)(t:Int): ∀k,CW s (Ba a) p t k=K0 s a p t k
 |0=>rfl
 |k+1=>by simp only[CW,K0,H6 s a p t k];rfl
def ZQ(s:AI)(f:Ac->Int):Prop:= ∀p,0<=f p->GY s (f p)
def SE{s:AI}(h:BK s)(f:Ac->Int)(p:Ac)(t d:Int):0<=Ds s f p t d/\Ds s f p t d<=4:=by
 simp only[Ds,Gd];split
 .split
  .exact Qp1 h _
  .omega
 .omega
def Qwy{s:AI}(h:BK s)(f:Ac->Int)(p:Ac)(t:Int): ∀(k:Nat),0<=CW s f p t k/\CW s f p t k<=4*k
 |0=>by simp[CW]
 |k+1=>by
  have z:=Qwy h f p t k;have G:=SE h f p t k;simp only[CW];omega
def bindC.ar:List PK->Option (AI×Ac×Int×Dv)
 |[.val (.agg z),.val (.agg G),.val (.int .i64 O),.val (.fn 113 [.ref Q] [])]=>(AI.d z).bind λZ=>(Ac.d G).bind λy1=>(Dv.d (Q.take 6)).bind λy3=>some (Z,y1,O,y3)
 |_=>none
def bindC.ae(a:AI×Ac×Int×Dv):List PK:=[.val (.agg (AI.c a.1)),.val (.agg (Ac.c a.2.1)),.val (.int .i64 a.2.2.1),.val (.fn 113 [.ref (Dv.c a.2.2.2)] [])]
def bindC.le: ∀z a,bindC.ar z=some a->Cy z (bindC.ae a):=by
 intro z a h;unfold bindC.ar at h;split at h
 .simp only[F5,AP] at h;obtain⟨Q,h0,Z,G,y3,O,rfl⟩:=h;exact⟨xD (AI.d_le _ _ h0),xD (Ac.d_le _ _ G),CU.refl _,nP ⟨Xd (Hr.trans_take (Dv.d_le _ _ O)),trivial⟩,trivial⟩
 .cases h
def bindC.fv(a:AI×Ac×Int×Dv):Int:=(λs p t c=>CW s (CO c.Tl) p t 4) (a.1) (a.2.1) (a.2.2.1) (a.2.2.2)
def bindC.row:AO:=Pg bindC.ar (λa=>BK a.1/\ZQ a.1 (CO a.2.2.2.Tl)/\GZ a.2.1/\GY a.1 a.2.2.1) (λa=>(D.int .i64) (bindC.fv a))
def bindC.q:=vqF bindC.row rfl
def Yak:=J @bindC.ae.eq_1<|J @bindC.fv.eq_1<|J @step_.q<|J @step_.fv.eq_1<|J @step_.re.eq_1<|J @bond_.q<|J @bond_.fv.eq_1<|J @bond_.re.eq_1<|J @catC.q @catC.fv.eq_1
def bindC.ok:AS 145 bindC.row:=by
 refine Qbn DJ (tC step_.ok (tC bond_.ok (tC catC.ok tN))) Tryz.func145 rfl (by kernel_rfl) (by kernel_rfl) (ar:=bindC.ar) (ae:=bindC.ae) bindC.le (n:=4) (λ_=>rfl) (by decide) (rc:=(DU)) (re:=(D.int .i64)) (RZ) (f:=bindC.fv) ?_;intro a z;simp only[Tryz.f145,Option.getD];simp only[ZZ,simprocAttr,Ab,Yak,C8,D.sc,D.scs,Cm,Be];obtain⟨G,O,Q,Z⟩:=z;refine Bc.old ⟨{k:Nat//k<=4},λk=>⟨[(12,.im (.int .i64 k.1)),(9,.im (.int .i64 (CW a.1 (CO a.2.2.2.Tl) a.2.1 a.2.2.1 k.1))),(8,.im (.int .i64 0)),(5,.ptr 1 0),(4,.ptr 0 0),(2,.im (.int .i64 a.2.2.1)),(3,.im (.fn 113 [.ref (Dv.c a.2.2.2)] []))],[(1,(true,.cells 50 [.im (.int .i64 a.2.1.X),.im (.int .i64 a.2.1.Y)])),(0,(true,.cells 27 ((AI.c a.1).map .im)))],2⟩,λk=>4 - k.1,λk=>⟨by simp[ZG,AI.c],AW _⟩,⟨⟨0,by simp⟩,by simp only[ZZ,simprocAttr,Ab,Yak,C8,D.sc,D.scs,Cm,Be,sub,CW]⟩,λk=> ?_⟩;obtain⟨k,aa⟩:=k;simp only[ZZ,simprocAttr,Ab,Yak,C8,D.sc,D.scs,Cm,Be,sub,AQ];have hb:=Qwy G (CO a.2.2.2.Tl) a.2.1 a.2.2.1 k;have ht:=SE G (CO a.2.2.2.Tl) a.2.1 a.2.2.1 k;refine⟨λhk=>⟨⟨Q,by omega⟩,λhp=>⟨⟨G,Z,⟨by omega,by omega⟩,O _ hp⟩,⟨⟨k+1,by omega⟩,by simp only;omega,?_,?_⟩⟩,λhp=>⟨⟨k+1,by omega⟩,by simp only;omega,?_,?_⟩⟩,λhk=> ?_⟩
 .rw[AF (by omega) (by omega)];simp only;omega
 .simp only[CW];simp only[Ds,Ak hp] at ht⊢;rw[AF (by omega) (by omega)]
 .rw[AF (by omega) (by omega)];simp only;omega
 .simp only[CW,Ds,Ad hp];omega
 .have:k=4:=by omega
  rw[this]
def binding_.row:AO:=orR bindC.row fO
def binding_.ok:AS 145 binding_.row:=oN bindC.ok Vr
def HL(s:An)(f:Ac->Int)(p:Ac)(t:Int):Bool:=EU p && (decide (f p<0) && decide (s.Temperature<=CW s.Set f p t 4))
def fitsC.fv(a:Dv×Ac×Int):Bool:=(λc p t=>HL c.Sys (CO c.Tl) p t) (a.1) (a.2.1) (a.2.2)
def fitsC.row:AO:=H5 (b3 (qP 6 Dv.d_le) (qR Ac.d_le) qI) rB (λa=>BK a.1.Sys.Set/\ZQ a.1.Sys.Set (CO a.1.Tl)/\GY a.1.Sys.Set a.2.2) fitsC.fv
def fitsC.q:=FE (R:=fitsC.row) rfl
def fitsC.ok:AS 95 fitsC.row:=by
 refine LX (tC ValidPoint.ok (tC catC.ok (tC binding_.ok tN))) Tryz.func95 ?_;intro a z;simp only[Tryz.f95,Option.getD];simp(disch:=omega)only[ZZ,simprocAttr,Ab,fitsC.fv,ValidPoint.q,ValidPoint.fv,catC.q,catC.fv,binding_.row,orR,bindC.q,bindC.ar,bindC.fv,C8,D.sc,D.scs,Cm,Be];obtain⟨G,O,Q⟩:=z;cases e1:EU a.2.1
 .simp[HL,e1]
 .rw[Ak rfl]
  split<;>rename_i h
  .exact .inl ⟨⟨G,O,kO e1,Q⟩,by simp[HL,e1,h]⟩
  .simp[HL,e1,h]
def Bu{β:Type}:List (Ac×β)->Ac->β->List (Ac×β)
 |[],p,v=>[(p,v)]
 |(k,w)::r,p,v=>if p=k then (p,v)::r else (k,w)::Bu r p v
def Eb{β:Type}:List (Ac×β)->Ac->List (Ac×β)
 |[],_=>[]
 |(k,w)::r,p=>if p=k then r else (k,w)::Eb r p
def LW{β:Type}(e:Ac×β->D×D)(g:β->D)(z: ∀p,e p=(.agg (Ac.c p.1),g p.2))(x y:Int)(v:β): ∀(l:List (Ac×β)),Hp (l.map e) (.agg [.int .i64 x,.int .i64 y]) (g v)=(Bu l ⟨x,y⟩ v).map e
 |[]=>by simp[Hp,Bu,z,Ac.c]
 |q::r=>by
  have G:D.beq (.agg [.int .i64 x,.int .i64 y]) (.agg (Ac.c q.1))=decide ((⟨x,y⟩:Ac)=q.1):=LL ⟨x,y⟩ q.1;obtain⟨k,w⟩:=q;simp only[Bm,z,Hp,Bu,G];by_cases h:(⟨x,y⟩:Ac)=k
  .simp[h,z,Ac.c];exact⟨by rw[<-h],by rw[<-h]⟩
  .simp[h,z,LW e g z x y v r]
def TN{β:Type}(e:Ac×β->D×D)(g:β->D)(z: ∀p,e p=(.agg (Ac.c p.1),g p.2))(x y:Int): ∀(l:List (Ac×β)),JE (l.map e) (.agg [.int .i64 x,.int .i64 y])=(Eb l ⟨x,y⟩).map e
 |[]=>rfl
 |q::r=>by
  have G:D.beq (.agg [.int .i64 x,.int .i64 y]) (.agg (Ac.c q.1))=decide ((⟨x,y⟩:Ac)=q.1):=LL ⟨x,y⟩ q.1;obtain⟨k,w⟩:=q;simp only[Bm,z,JE,Eb,G];by_cases h:(⟨x,y⟩:Ac)=k
  .simp[h]
  .simp[h,z,TN e g z x y r]
def pH(x y:Int)(v:List Int)(l:List (Ac×List Int)):Hp (l.map DG) (.agg [.int .i64 x,.int .i64 y]) (.sl false 1 (v.map Af))=(Bu l ⟨x,y⟩ v).map DG:=
 LW DG (λv=> .sl false 1 (v.map Af)) (λ_=>rfl) x y v l
def WJ(x y v:Int)(l:List (Ac×Int)):Hp (l.map F3) (.agg [.int .i64 x,.int .i64 y]) (.int .i64 v)=(Bu l ⟨x,y⟩ v).map F3:=
 LW F3 (.int .i64) (λ_=>rfl) x y v l
def TM(x y:Int)(l:List (Ac×List Int)):JE (l.map DG) (.agg [.int .i64 x,.int .i64 y])=(Eb l ⟨x,y⟩).map DG:=
 TN DG (λv=> .sl false 1 (v.map Af)) (λ_=>rfl) x y l
def Gg(s:An)(f:Ac->Int)(q:Ac):Nat->List Int
 |0=>[]
 |k+1=>Gg s f q k++(if HL s f q k=true then [(k:Int)] else [])
def Qus(s:An)(f:Ac->Int)(q:Ac): ∀k,(Gg s f q k).length<=k
 |0=>by simp[Gg]
 |k+1=>by
  have:=Qus s f q k
  simp only[Gg,CS]
  split<;>simp<;>omega
def KR(s:An)(f:Ac->Int)(op:List (Ac×List Int))(q:Ac):List (Ac×List Int):=
 if Gg s f q s.Set.Tiles.length=[] then Eb op q else Bu op q (Gg s f q s.Set.Tiles.length)
def Hb(s:An)(f:Ac->Int)(op:List (Ac×List Int))(p:Ac):Nat->List (Ac×List Int)
 |0=>op
 |k+1=>KR s f (Hb s f op p k) (Bv p k)
def Cf(s:An):List AV:=[.im (.sl false 2 (s.Set.Glues.map AG.c)),.im (.sl false 2 (s.Set.Tiles.map Tile.c)),.im (.sl false 3 (s.Seed.Tiles.map Ar.c)),.im (.int .i64 s.Temperature),.mp 1,.mp 2]
def ktP:KT:=⟨true,[.int .i64,.int .i64]⟩
def B0(c:Dv):Au:=[(0,(true,.cells 115 (Cf c.Sys))),(1,(true,.map ⟨true,[.int .i64,.int .i64]⟩ (c.Tl.map F3))),(2,(true,.map ⟨true,[.int .i64,.int .i64]⟩ (c.Op.map DG)))]
def Ij(c:Dv)(j:Nat):Av (B0 c) j=true↔j<3:=by
 simp only[Av,B0,hget];by_cases h0:j=0
 .subst h0;simp
 .by_cases Q:j=1
  .subst Q;simp
  .by_cases Z:j=2
   .subst Z;simp
   .have z:(0==j)=false:=by simp;omega
    have G:(1==j)=false:=by simp;omega
    have O:(2==j)=false:=by simp;omega
    simp[z,G,O];omega
def OJ(c:Dv):Prop:=BK c.Sys.Set/\ZQ c.Sys.Set (CO c.Tl)/\c.Sys.Set.Tiles.length<=1000000
def lookC.ca(a:Dv×Ac):List AV:=[.ptr 0 0,.im (.agg [.int .i64 a.2.X,.int .i64 a.2.Y])]
def lookC.H1(a:Dv×Ac):Au:=[(2,(true,.map ⟨true,[.int .i64,.int .i64]⟩ ((Hb a.1.Sys (CO a.1.Tl) a.1.Op a.2 4).map DG)))]
def Qb(j:Nat):Bool:=j==2
def lookC.row:AO:=AM lookC.ca (λa=>B0 a.1) 3 (λa=>OJ a.1/\GZ a.2) Qb (λ_=> .im (.tup [])) lookC.H1 0
def lS:=J @step_.q<|J @step_.fv.eq_1<|J @step_.re.eq_1<|J @fitsC.q @fitsC.fv.eq_1
def lookC.ok:AS 123 lookC.row:=by
 refine ow (tC step_.ok (tC fitsC.ok tN)) Tryz.func123 (exB:=λ_=>false) (R:=λ_ r=>r= .im (.tup [])) (λ_=>rfl)
  (λa=>by simp[lookC.ca,B0,Cf,lookC.H1,Qb,AL,AV.bel,AH,Cz,Df,Ah.nms,AE,AV.nms,Av,hget]) (λa p hp=> ?_) (λa r h=>by subst h;exact ED.refl _) ?_
 rotate_left
 intro a G;simp only[Tryz.f123,Option.getD,lookC.ca,B0,Cf,lookC.H1,Qb];simp only[ZZ,simprocAttr,Ab,lS,Az,lookC.ca,B0,Cf,lookC.H1,Qb];obtain⟨⟨Q,Z,ad⟩,z⟩:=G;refine Bc.old ⟨{k:Nat//k<=4},λk=>⟨[(8,.im (.int .i64 k.1)),(3,.ptr 3 0),(0,.ptr 0 0)],[(3,(true,.cells 50 [.im (.int .i64 a.2.X),.im (.int .i64 a.2.Y)])),(0,(true,.cells 115 (Cf a.1.Sys))),(1,(true,.map ⟨true,[.int .i64,.int .i64]⟩ (a.1.Tl.map F3))),(2,(true,.map ⟨true,[.int .i64,.int .i64]⟩ ((Hb a.1.Sys (CO a.1.Tl) a.1.Op a.2 k.1).map DG)))],4⟩,λk=>4 - k.1,λk=>⟨by simp[ZG,Cf],AW _⟩,⟨⟨0,by simp⟩,by simp only[ZZ,simprocAttr,Ab,lS,Az,lookC.ca,B0,Cf,lookC.H1,Qb,sub,Hb,Cf]⟩,λk=> ?_⟩;obtain⟨k,ac⟩:=k;simp only[Cf];simp only[ZZ,simprocAttr,Ab,lS,Az,lookC.ca,B0,Cf,lookC.H1,Qb,sub,AQ];have hq:GZ a.2:=z;refine⟨λhk=>⟨⟨z,by omega⟩,λhn=> ?_⟩,λhk=> ?_⟩
 .refine Bc.ren ⟨{j:Nat//j<=a.1.Sys.Set.Tiles.length},λj=>⟨[(21,.im (.int .i64 j.1)),(20,.im (.int .i64 a.1.Sys.Set.Tiles.length)),(6,.own 6),(5,.ptr 4 0),(8,.im (.int .i64 k)),(3,.ptr 3 0),(0,.ptr 0 0)],[(6,(true,.arr 2 1 ((Gg a.1.Sys (CO a.1.Tl) (Bv a.2 k) j.1).map Af))),(4,(true,.cells 50 [.im (.int .i64 (Bv a.2 k).X),.im (.int .i64 (Bv a.2 k).Y)])),(3,(true,.cells 50 [.im (.int .i64 a.2.X),.im (.int .i64 a.2.Y)])),(0,(true,.cells 115 (Cf a.1.Sys))),(1,(true,.map ⟨true,[.int .i64,.int .i64]⟩ (a.1.Tl.map F3))),(2,(true,.map ⟨true,[.int .i64,.int .i64]⟩ ((Hb a.1.Sys (CO a.1.Tl) a.1.Op a.2 k).map DG)))],7⟩,λj=>a.1.Sys.Set.Tiles.length - j.1,λj=>⟨by simp[ZG,Cf],by simp⟩,⟨⟨0,by simp⟩,[(6,some 5)],?_⟩,λj=> ?_⟩
  .simp only[Ao,Cf];simp only[ZZ,simprocAttr,Ab,lS,Az,lookC.ca,B0,Cf,lookC.H1,Qb,AU,AT,Gg,BY]
   try simp
  obtain⟨j,ab⟩:=j;simp only[Cf];simp only[ZZ,simprocAttr,Ab,lS,Az,lookC.ca,B0,Cf,lookC.H1,Qb,AQ,sub];have aa:=Qus a.1.Sys (CO a.1.Tl) (Bv a.2 k) j;refine⟨λhj=>⟨⟨Q,Z,by omega,by omega⟩,λhf=>⟨by omega,⟨j+1,by omega⟩,[(6,some 8)],by simp only;omega,?_⟩,λhf=>⟨⟨j+1,by omega⟩,[(6,some 6)],by simp only;omega,?_⟩⟩,λhj=> ?_⟩
  .simp only[Ao];simp only[ZZ,simprocAttr,Ab,lS,Az,lookC.ca,B0,Cf,lookC.H1,Qb,AU,AT];refine⟨?_,?_⟩
   .rw[AF (by omega) (by omega)];omega
   .simp[Gg,hf,Af]
  .simp only[Ao];simp only[ZZ,simprocAttr,Ab,lS,Az,lookC.ca,B0,Cf,lookC.H1,Qb,AU,AT];refine⟨?_,?_⟩
   .rw[AF (by omega) (by omega)];omega
   .simp[Gg,hf]
  have O:j=a.1.Sys.Set.Tiles.length:=by omega
  subst O;rw[pH,TM];have hl:(0:Int)<((Gg a.1.Sys (CO a.1.Tl) (Bv a.2 k) a.1.Sys.Set.Tiles.length).length:Int)↔Gg a.1.Sys (CO a.1.Tl) (Bv a.2 k) a.1.Sys.Set.Tiles.length≠[]:=by
   rw[<-eM];omega
  intro _;refine⟨λh0=>⟨⟨k+1,by omega⟩,by simp only;omega,?_,?_⟩,λh0=>⟨⟨k+1,by omega⟩,by simp only;omega,?_,?_⟩⟩
  .rw[AF (by omega) (by omega)];simp only;omega
  .simp only[Hb,KR];rw[Ad (hl.1 h0)]
  .rw[AF (by omega) (by omega)];simp only;omega
  .simp only[Hb,KR];rw[Ak (I3.1 (λh=>h0 (hl.2 h)))]
 .have:k=4:=by omega
  subst this;simp[Qb]
 simp[lookC.H1] at hp;subst hp;exact .inl ⟨by omega,rfl,rfl⟩
def rC{β:Type}(p q:Ac)(v:β): ∀(l:List (Ac×β)),BP (Bu l p v) q=if q=p then some v else BP l q
 |[]=>by simp[Bu,BP]
 |(k,w)::r=>by
  simp only[Bu];by_cases h:p=k
  .subst h;rw[Ak rfl];simp only[BP];by_cases z:q=p
   .rw[Ak z,Ak z]
   .rw[Ad z,Ad z,Ad z]
  .rw[Ad h];simp only[BP,rC p q v r];by_cases z:q=k
   .rw[Ak z,Ak z,Ad (λG=>h (G.symm.trans z))]
   .rw[Ad z,Ad z]
def CG(l:List Ar):List (Ac×Int):=l.foldl (λt x=>Bu t x.At x.Tile) []
def Ri(l:List Ar)(x:Ar):CG (l++[x])=Bu (CG l) x.At x.Tile:=by simp[CG]
def IN(s:An)(f:Ac->Int)(l:List Ar):List (Ac×List Int):=l.foldl (λo x=>Hb s f o x.At 4) []
def Qq(s:An)(f:Ac->Int)(l:List Ar)(x:Ar):IN s f (l++[x])=Hb s f (IN s f l) x.At 4:=by simp[IN]
def Ox{s:AI}: ∀(l:List Ar),(∀x∈l,GY s x.Tile)->ZQ s (CO (CG l)):=by
 intro l;have G: ∀(l:List Ar) (t:List (Ac×Int)),(∀p v,BP t p=some v->GY s v)->(∀x∈l,GY s x.Tile)-> ∀p v,BP (l.foldl (λt x=>Bu t x.At x.Tile) t) p=some v->GY s v:=by
  intro l;induction l with
  |nil=>intro t h _;exact h
  |cons x r ih=>
   intro t h O;refine ih _ ?_ (λy Q=>O y (Cs _ Q));intro p v z;rw[rC] at z;split at z
   .cases z;exact O x (Ct ..)
   .exact h p v z
 intro h p hp
 have:=G l [] (by intro p v h;simp[BP] at h) h p
 simp only[CO,CG] at hp⊢;cases hq:BP (l.foldl (λt x=>Bu t x.At x.Tile) []) p with
 |none=>rw[hq] at hp;simp at hp
 |some v=>exact this v hq
def K4{α:Type}{l:List α}{k:Nat}{x:α}(h:l[k]? =some x):l.take (k+1)=l.take k++[x]:=by rw[K6,h];rfl
def YQ(s:An)(a:Al):Dv:=⟨s,CG a.Tiles,IN s (CO (CG a.Tiles)) a.Tiles⟩
def newC.ca(a:An×Al):List AV:=[.im (.agg (An.c a.1)),.im (.agg (Al.c a.2))]
def newC.H1(a:An×Al):Au:=[(4,(true,.cells 115 [.im (.sl false 2 (a.1.Set.Glues.map AG.c)),.im (.sl false 2 (a.1.Set.Tiles.map Tile.c)),.im (.sl false 3 (a.1.Seed.Tiles.map Ar.c)),.im (.int .i64 a.1.Temperature),.mp 2,.mp 3])),
 (2,(true,.map ⟨true,[.int .i64,.int .i64]⟩ ((YQ a.1 a.2).Tl.map F3))),(3,(true,.map ⟨true,[.int .i64,.int .i64]⟩ ((YQ a.1 a.2).Op.map DG)))]
def newC.pre(a:An×Al):Prop:=BK a.1.Set/\a.1.Set.Tiles.length<=1000000/\ ∀x∈a.2.Tiles,GY a.1.Set x.Tile/\GZ x.At
def newC.ex(j:Nat):Bool:=j==2||(j==3||j==4)
def X3(_:Nat):Bool:=false
def newC.row:AO:=AM newC.ca (λ_=>[]) 0 newC.pre X3 (λ_=> .ptr 4 0) newC.H1 5
def newC.ok:AS 67 newC.row:=by
 refine ow (tC lookC.ok tN) Tryz.func67 (exB:=newC.ex) (R:=λ_ r=>r= .ptr 4 0) (λ_=>rfl)
  (λa=>by simp[newC.ca,newC.H1,newC.ex,X3,An.c,Al.c,AL,AV.bel,AH,Cz,Df,Ah.nms,AE,AV.nms,Av,hget]) (λa p hp=> ?_) (λa r h=>by subst h;exact ED.refl _) ?_
 rotate_left
 intro a O;simp only[Tryz.f67,Option.getD,newC.ca,newC.H1,newC.ex,X3,An.c,Al.c];simp only[ZZ,simprocAttr,Ab,Az,newC.ca,newC.H1,newC.ex,X3,An.c,Al.c];obtain⟨aa,ab,G⟩:=O;intro hn;refine Bc.old ⟨{k:Nat//k<=a.2.Tiles.length},λk=>⟨[(18,.im (.int .i64 k.1)),(17,.im (.int .i64 a.2.Tiles.length)),(16,.im (.sl false 3 (a.2.Tiles.map Ar.c))),(5,.ptr 4 0),(4,.im .nilp),(3,.ptr 1 0)],[(4,(true,.cells 115 [.im (.sl false 2 (a.1.Set.Glues.map AG.c)),.im (.sl false 2 (a.1.Set.Tiles.map Tile.c)),.im (.sl false 3 (a.1.Seed.Tiles.map Ar.c)),.im (.int .i64 a.1.Temperature),.mp 2,.mp 3])),(3,(true,.map ⟨true,[.int .i64,.int .i64]⟩ ([]))),(2,(true,.map ⟨true,[.int .i64,.int .i64]⟩ ((CG (a.2.Tiles.take k.1)).map F3))),(1,(true,.cells 30 [.im (.sl false 3 (a.2.Tiles.map Ar.c))]))],5⟩,λk=>a.2.Tiles.length - k.1,λk=>⟨by simp[ZG],AW _⟩,⟨⟨0,by simp⟩,by simp only[ZZ,simprocAttr,Ab,Az,newC.ca,newC.H1,newC.ex,X3,An.c,Al.c,sub,CG,Fh,ZeK]⟩,λk=> ?_⟩;obtain⟨k,Z⟩:=k;simp only[ZZ,simprocAttr,Ab,Az,newC.ca,newC.H1,newC.ex,X3,An.c,Al.c,sub,AQ];refine⟨λz=>⟨z,λx Q=> ?_⟩,λz=> ?_⟩
 .refine⟨⟨k+1,by omega⟩,by simp only;omega,?_,?_⟩
  .rw[AF (by omega) (by omega)];simp only;omega
  .rw[WJ,K4 Q,Ri]
 rw[GE (by omega)];intro _;refine Bc.old ⟨{k:Nat//k<=a.2.Tiles.length},λk=>⟨[(34,.im (.int .i64 k.1)),(33,.im (.int .i64 a.2.Tiles.length)),(32,.im (.sl false 3 (a.2.Tiles.map Ar.c))),(5,.ptr 4 0),(4,.im .nilp),(3,.ptr 1 0)],[(4,(true,.cells 115 [.im (.sl false 2 (a.1.Set.Glues.map AG.c)),.im (.sl false 2 (a.1.Set.Tiles.map Tile.c)),.im (.sl false 3 (a.1.Seed.Tiles.map Ar.c)),.im (.int .i64 a.1.Temperature),.mp 2,.mp 3])),(3,(true,.map ⟨true,[.int .i64,.int .i64]⟩ ((IN a.1 (CO (CG a.2.Tiles)) (a.2.Tiles.take k.1)).map DG))),(2,(true,.map ⟨true,[.int .i64,.int .i64]⟩ ((CG a.2.Tiles).map F3))),(1,(true,.cells 30 [.im (.sl false 3 (a.2.Tiles.map Ar.c))]))],5⟩,λk=>a.2.Tiles.length - k.1,λk=>⟨by simp[ZG],AW _⟩,⟨⟨0,by simp⟩,by simp only[ZZ,simprocAttr,Ab,Az,newC.ca,newC.H1,newC.ex,X3,An.c,Al.c,sub,IN,Fh,ZeK]⟩,λk=> ?_⟩;obtain⟨k,Z⟩:=k;simp only[ZZ,simprocAttr,Ab,Az,newC.ca,newC.H1,newC.ex,X3,An.c,Al.c,sub,AQ];refine⟨λz=>⟨z,λx Q=> ?_⟩,λz=> ?_⟩
 .refine AM.os (⟨a.1,CG a.2.Tiles,IN a.1 (CO (CG a.2.Tiles)) (a.2.Tiles.take k)⟩,x.At) [4,2,3] ⟨⟨aa,Ox _ (λy hy=>(G y hy).1),ab⟩,(G x (Bd Q)).2⟩ (λj=>Ij _ j) rfl rfl ?_ ?_
  .simp only[ZZ,simprocAttr,Ab,Az,newC.ca,newC.H1,newC.ex,X3,An.c,Al.c,lookC.ca,B0,Cf,Bt]
  .simp only[ZZ,simprocAttr,Ab,Az,newC.ca,newC.H1,newC.ex,X3,An.c,Al.c,lookC.H1,Qb,sub];refine⟨⟨k+1,by omega⟩,by simp only;omega,?_,?_⟩
   .rw[AF (by omega) (by omega)];simp only;omega
   .rw[K4 Q,Qq]
 .rw[GE (by omega)];exact⟨rfl,rfl⟩
 simp[newC.H1] at hp;rcases hp with rfl|rfl|rfl
 .exact .inr ⟨by omega,by simp,rfl,rfl⟩
 .exact .inr ⟨by omega,by simp,rfl,rfl⟩
 .exact .inr ⟨by omega,by simp,rfl,rfl⟩
def PH{a:An×Al}(h:newC.pre a):OJ (YQ a.1 a.2):=⟨h.1,Ox _ (λy z=>(h.2.2 y z).1),h.2.1⟩
def Hs(a:Al)(i:Int):Int:=(a.Tiles[i.toNat]?.map Ar.Tile).getD (-1)
def YN(s:AI)(a:Al)(i:Nat)(d:Int):List Ag:=
 if 0<=HR a i d then if 0<Gd s (Hs a i) d (Hs a (HR a i d)) then [⟨i,HR a i d,Gd s (Hs a i) d (Hs a (HR a i d))⟩] else [] else []
def Lc(s:AI)(a:Al)(i:Nat):Nat->List Ag
 |0=>[]
 |k+1=>Lc s a i k++YN s a i (1 - k)
def Gs(s:AI)(a:Al):Nat->List Ag
 |0=>[]
 |k+1=>Gs s a k++Lc s a k 2
def PB(s:AI)(a:Al)(i:Nat)(d:Int):(YN s a i d).length<=1:=by
 simp only[YN];split
 .split<;>simp
 .simp
def Ql7(s:AI)(a:Al)(i:Nat): ∀k,(Lc s a i k).length<=k
 |0=>by simp[Lc]
 |k+1=>by
  have z:=Ql7 s a i k;have G:=PB s a i (1 - k);simp only[Lc,CS];omega
def xN(s:AI)(a:Al): ∀k,(Gs s a k).length<=2*k
 |0=>by simp[Gs]
 |k+1=>by
  have z:=xN s a k;have G:=Ql7 s a k 2;simp only[Gs,CS];omega
def nM{A:Type}(p:A->Bool)(l:List A):BB p 0 l<(l.length:Int):=by
 rcases Xa p l 0 with ⟨_,h⟩|⟨i,x,_,h,z⟩
 .omega
 .have:=(B9.1 z).1
  omega
def LI(a:Al)(i d:Int):HR a i d<(a.Tiles.length:Int):=nM _ _
def l06Bonds.fv(a:AI×Al):List Ag:=(λs a=>Gs s a a.Tiles.length) (a.1) (a.2)
def l06Bonds.row:AO:=vK (b2 (qP 2 AI.d_le) (qP 1 Al.d_le)) (rS Ag.d_le Ag.c_n) (λa=>BK a.1/\CA a.1 a.2/\a.2.Tiles.length<=1000000) l06Bonds.fv
def l06Bonds.q:=B2 (R:=l06Bonds.row) rfl
def YW:=J @l06Bonds.fv.eq_1<|J @l06Neighbor.q<|J @l06Neighbor.fv.eq_1<|J @l02Bond.q @l02Bond.fv.eq_1
def l06Bonds.ok:AS 137 l06Bonds.row:=by
 refine vw (tC l06Neighbor.ok (tC l02Bond.ok tN)) Tryz.func137 ?_;intro a z;simp only[Tryz.f137,Option.getD];simp only[ZZ,simprocAttr,Ab,YW];obtain⟨h1,Q,h3⟩:=z;refine Bc.ren ⟨{k:Nat//k<=a.2.Tiles.length},λk=>⟨[(6,.im (.int .i64 k.1)),(5,.own 4),(0,.ptr 0 0),(1,.ptr 1 0)],[(4,(true,.arr 215 3 ((Gs a.1 a.2 k.1).map Ag.c))),(0,(false,.view (AI.c a.1))),(1,(false,.view (Al.c a.2)))],5⟩,λk=>a.2.Tiles.length - k.1,λk=>⟨by simp[ZG],by simp⟩,⟨⟨0,by simp⟩,[(4,some 3)],?_⟩,λk=> ?_⟩
 .simp only[Ao];simp only[ZZ,simprocAttr,Ab,YW,AU,AT,Gs,BY]
 obtain⟨k,af⟩:=k;simp only[ZZ,simprocAttr,Ab,YW,sub,AQ];intro ac;refine⟨λhk=> ?_,λhk=> ?_⟩
 .refine Bc.ren ⟨{j:Nat//j<=2},λj=>⟨[(7,.im (.int .i64 (1 - (j.1:Int)))),(6,.im (.int .i64 k)),(5,.own 5),(0,.ptr 0 0),(1,.ptr 1 0)],[(5,(true,.arr 215 3 ((Gs a.1 a.2 k++Lc a.1 a.2 k j.1).map Ag.c))),(0,(false,.view (AI.c a.1))),(1,(false,.view (Al.c a.2)))],6⟩,λj=>2 - j.1,λj=>⟨by simp[ZG],by simp⟩,⟨⟨0,by simp⟩,[(5,some 4)],?_⟩,λj=> ?_⟩
  .simp only[Ao];simp only[ZZ,simprocAttr,Ab,YW,AU,AT,Lc,CQ]
   try simp
  obtain⟨j,ad⟩:=j;simp only[ZZ,simprocAttr,Ab,YW,sub,AQ,OO,OI,OL,B8,D.one,Er,EN,I7];have ab:=LI a.2 k (1 - j);have ag:=xN a.1 a.2 k;have ah:=Ql7 a.1 a.2 k j;refine⟨λhd=>⟨⟨Q.1,hk,hd,by omega⟩,λhn=>⟨⟨j+1,by omega⟩,[(5,some 5)],by simp only;omega,?_⟩,λhn=>⟨hk,λx hx=>⟨by omega,ab,λy hy=>⟨⟨h1,Q.2 x (Bd hx),⟨by omega,by omega⟩,Q.2 y (Bd hy)⟩,λZ=>⟨by simp only[CS];omega,⟨j+1,by omega⟩,[(5,some 7)],by simp only;omega,?_⟩,λZ=>⟨⟨j+1,by omega⟩,[(5,some 5)],by simp only;omega,?_⟩⟩⟩⟩⟩,λhd=>⟨⟨k+1,by omega⟩,[(4,some 5)],by simp only;omega,?_⟩⟩
  .simp only[Ao];simp only[ZZ,simprocAttr,Ab,YW,AU,AT];refine⟨?_,?_⟩
   .rw[AF (by omega) (by omega)];omega
   .simp only[Lc,YN];rw[Ad (by omega),CQ]
  .simp only[Ao];simp only[ZZ,simprocAttr,Ab,YW,AU,AT];refine⟨?_,?_⟩
   .rw[AF (by omega) (by omega)];omega
   .have G:Hs a.2 k=x.Tile:=by simp[Hs,hx]
    have O:Hs a.2 (HR a.2 k (1 - j))=y.Tile:=by simp only[Hs];rw[hy];rfl
    simp only[Lc,YN];rw[Ak (by omega),G,O,Ak Z];simp[Ag.c]
  .simp only[Ao];simp only[ZZ,simprocAttr,Ab,YW,AU,AT];refine⟨?_,?_⟩
   .rw[AF (by omega) (by omega)];omega
   .have G:Hs a.2 k=x.Tile:=by simp[Hs,hx]
    have O:Hs a.2 (HR a.2 k (1 - j))=y.Tile:=by simp only[Hs];rw[hy];rfl
    simp only[Lc,YN];rw[Ak (by omega),G,O,Ad Z,CQ]
  .simp only[Ao];simp only[ZZ,simprocAttr,Ab,YW,AU,AT];have aa:j=2:=by omega
   subst aa;refine⟨?_,?_⟩
   .rw[AF (by omega) (by omega)];omega
   .simp only[Gs]
 .have:k=a.2.Tiles.length:=by omega
  rw[this]
def J9:List Int->List Int->Bool
 |x::r,y::s=>if x=y then J9 r s else decide (x<y)
 |_,_=>false
def Hg(v:Int)(l:List Int)(w:Int)(m:List Int):Bool:=if v=w then if l.length=m.length then J9 l m else decide (l.length<m.length) else decide (v<w)
def l07Before.fv(a:Int×(List Int)×Int×(List Int)):Bool:=(Hg) (a.1) (a.2.1) (a.2.2.1) (a.2.2.2)
def l07Before.row:AO:=vK (b4 qI (qS Ez Dy) qI (qS Ez Dy)) rB (λa=>True) l07Before.fv
def l07Before.q:=B2 (R:=l07Before.row) rfl
def l07Before.ok:AS 182 l07Before.row:=by
 refine vw tN Tryz.func182 ?_;intro a aa;simp only[Tryz.f182,Option.getD];simp only[ZZ,simprocAttr,Ab,l07Before.fv]
 split<;>rename_i h
 .simp only[Hg];rw[Ad h]
 intro ac ad
 split<;>rename_i h2
 .intro _ _;simp only[Hg];rw[Ak (I3.1 h),Ad (by omega)]
 have hn:a.2.1.length=a.2.2.2.length:=by omega
 have hb:Hg a.1 a.2.1 a.2.2.1 a.2.2.2=J9 a.2.1 a.2.2.2:=by simp only[Hg];rw[Ak (I3.1 h),Ak hn]
 rw[hb];refine Bc.old ⟨{k:Nat//k<=a.2.1.length/\J9 (a.2.1.drop k) (a.2.2.2.drop k)=J9 a.2.1 a.2.2.2},λk=>⟨[(9,.im (.int .i64 k.1)),(8,.im (.bool false)),(0,.im (.int .i64 a.1)),(1,.im (.sl false 1 (a.2.1.map Af))),(2,.im (.int .i64 a.2.2.1)),(3,.im (.sl false 1 (a.2.2.2.map Af)))],[],0⟩,λk=>a.2.1.length - k.1,λk=>⟨by simp[ZG],AW _⟩,⟨⟨0,by simp⟩,by simp only[ZZ,simprocAttr,Ab,l07Before.fv,sub]⟩,λk=> ?_⟩;obtain⟨k,ab,z⟩:=k;simp only[ZZ,simprocAttr,Ab,l07Before.fv,sub,AQ];intro _;refine⟨λQ=>⟨Q,λx hx=>⟨by omega,λy hy=>⟨λZ=>⟨Q,λx' G=>⟨by omega,λy' O=> ?_⟩⟩,λhe=> ?_⟩⟩⟩,λQ=> ?_⟩
 .rw[hx] at G;rw[hy] at O;obtain rfl:=A8 G;obtain rfl:=A8 O;rw[Gr hx,Gr hy,J9,Ad Z] at z;exact z
 .rw[Gr hx,Gr hy,J9,Ak (I3.1 he)] at z;refine⟨⟨k+1,by omega,z⟩,by simp only;omega,?_⟩;rw[AF (by omega) (by omega)];simp only;omega
 .rw[Ei (by omega),J9] at z
  .exact z
  .intros;simp_all
def Qix{l:List Ar}(h:Dw none l=true):(l.map Ar.At).Nodup:=by
 have z:=(jN _ _ h).2;clear h;revert z;induction l with
 |nil=>intro _;simp
 |cons x r ih=>
  intro z;simp only[Bm,Jb];refine⟨λhm=> ?_,ih (λi j a b aa G O=>z (i+1) (j+1) a b (by omega) (by simpa using G) (by simpa using O))⟩;obtain⟨y,hy,Q⟩:=BZ.1 hm;obtain⟨i,Z⟩:=EK.1 hy
  have:=z 0 (i+1) x y (by omega) rfl (by simpa using Z)
  rw[Q,kV] at this;cases this
def gN:Bo []=[]:=rfl
def Jz(n:Nat)(rows:List (List D)):(Bo rows).all (AL n)=true:=by
 simp only[Bo,List.all_map,HN,Function.comp];intro r z;clear z;induction r with
 |nil=>simp[AL]
 |cons x r ih=>simp[AL,AV.bel,ih]
def MI(F:List Nat)(H:Au): ∀(r:List D),CF F H (r.map .im)=r.map .im
 |[]=>rfl
 |x::r=>by simp only[Bm,CF,AV.fzA,MI F H r]
def MJ(F:List Nat)(H:Au): ∀(rows:List (List D)),CL F H (Bo rows)=Bo rows
 |[]=>rfl
 |x::r=>by
  have:=MJ F H r
  simp only[Bo] at this;simp only[Bo,Bm,CL,MI,this]
def Xl(F:List Nat)(H:Au): ∀(a b:List (List AV)),CL F H (a++b)=CL F H a++CL F H b
 |[],b=>rfl
 |x::r,b=>by simp only[CP,CL,Xl F H r b]
def Vh(π:List (Nat×Option Nat)): ∀(r:List D),DB π (r.map .im) (r.map .im)
 |[]=>by simp[DB]
 |x::r=>by simp only[Bm,DB,mt,Vh π r,EN]
def SF(π:List (Nat×Option Nat)): ∀(rows:List (List D)),Fu π (Bo rows) (Bo rows)
 |[]=>by simp[Fu,Bo]
 |x::r=>by
  have:=SF π r
  simp only[Bo] at this;simp only[Bo,Bm,Fu,Vh,this,EN]
def YS(F:List Nat)(H:Au)(rows:List (List D)):CL F H (rows.map λr=>r.map AV.im)=rows.map λr=>r.map AV.im:=MJ F H rows
def GC(π:List (Nat×Option Nat))(rows:List (List D)):Fu π (rows.map λr=>r.map AV.im) (rows.map λr=>r.map AV.im)=True:=Mr (SF π rows)
def KN(n:Nat)(rows:List (List D)):(rows.map λr=>r.map AV.im).all (AL n)=true:=Jz n rows
def Qtl{α β:Type}{f:α->Option β}{g:β->α}(h: ∀y,f (g y)=some y): ∀(l:List β),AA f (l.map g)=some l
 |[]=>rfl
 |x::r=>by simp only[Bm,AA,h,Qtl h r]
def OK(h:Nat->Option Aq)(kx:Nat->Option Nat)(n:Nat)(rows:List (List D)):AA (AA λx=>EO (Bx h kx (n+1) x)) (rows.map λr=>r.map AV.im)=some rows:=
 Qtl (g:=λr=>r.map AV.im) (λy=>Qtl (g:=AV.im) (λ_=>rfl) y) rows
def IW{A:Type}(f:A->A):Nat->List A->List A
 |0,l=>l
 |_+1,[]=>[]
 |k+1,x::r=>f x::IW f k r
def Qwq{A:Type}(f:A->A): ∀(k:Nat) (l:List A),(IW f k l).length=l.length
 |0,_=>rfl
 |_+1,[]=>rfl
 |k+1,x::r=>by simp only[IW,Dp,Qwq f k r]
def Qoo{A:Type}(f:A->A): ∀(k:Nat) (l:List A),(IW f k l)[k]? =l[k]?
 |0,_=>rfl
 |_+1,[]=>by simp[IW]
 |k+1,x::r=>by simp only[IW,GD,Qoo f k r]
def Qn5{A:Type}(f:A->A): ∀(k:Nat) (l:List A) (x:A),l[k]? =some x->(IW f k l).set k (f x)=IW f (k+1) l
 |0,[],x,h=>by simp at h
 |0,y::r,x,h=>by
  simp only[Gw,AP] at h;subst h;simp[IW]
 |k+1,[],x,h=>by simp at h
 |k+1,y::r,x,h=>by
  have:=Qn5 f k r x (by simpa using h)
  rw[IW,IW,sB,this]
def Qabf{A:Type}(f:A->A)(k:Nat)(l:List A)(x:A)(h:l[k]? =some x)(hf:f x=x):IW f (k+1) l=IW f k l:=by
 rw[<-Qn5 f k l x h,hf];have z:(IW f k l)[k]? =some x:=by rw[Qoo,h]
 obtain⟨G,O⟩:=B9.1 z;rw[<-O];exact List.set_getElem_self G
def Qvd{A:Type}(f:A->A): ∀(k:Nat) (l:List A),l.length<=k->IW f k l=l.map f
 |0,[],_=>rfl
 |0,x::r,h=>by simp at h
 |_+1,[],_=>rfl
 |k+1,x::r,h=>by simp only[IW,Bm,Qvd f k r (by simpa using h)]
def YP:Nat->List Int
 |0=>[]
 |k+1=>YP k++[(k:Int)]
def jU: ∀k,(YP k).length=k
 |0=>rfl
 |k+1=>by simp[YP,jU k]
def Kz(x y v:Int):Int:=if v=Et x y then FA x y else v
def yU(own:List Int)(b:Ag):List Int:=own.map (Kz (own[b.A.toNat]?.getD 0) (own[b.B.toNat]?.getD 0))
def C6(n:Nat)(bs:List Ag):Nat->List Int
 |0=>YP n
 |k+1=>match bs[k]? with
  |some b=>yU (C6 n bs k) b
  |none=>C6 n bs k
def Qto(n:Nat)(bs:List Ag): ∀k,(C6 n bs k).length=n
 |0=>jU n
 |k+1=>by
  simp only[C6];split
  .simp[yU,Qto n bs k]
  .exact Qto n bs k
def DA(own:List Int)(i:Nat):Nat->List Int
 |0=>[]
 |k+1=>DA own i k++(if own[i+k]? =some (i:Int) then [((i+k:Nat):Int)] else [])
def Qsd(own:List Int)(i:Nat): ∀k,(DA own i k).length<=k
 |0=>by simp[DA]
 |k+1=>by
  have:=Qsd own i k
  simp only[DA,CS]
  split<;>simp<;>omega
def BM(own:List Int)(n:Nat):Nat->List (List Int)
 |0=>[]
 |k+1=>BM own n k++(if own[k]? =some (k:Int) then [DA own k (n - k)] else [])
def xU(own:List Int)(n:Nat): ∀k,(BM own n k).length<=k
 |0=>by simp[BM]
 |k+1=>by
  have:=xU own n k
  simp only[BM,CS]
  split<;>simp<;>omega
def Xb(n:Int)(bs:List Ag):List (List Int):=BM (C6 n.toNat bs bs.length) n.toNat n.toNat
def Mh(n:Int)(bs:List Ag):Prop:= ∀b∈bs,0<=b.A/\b.A<n/\0<=b.B/\b.B<n
def l06Groups.fv(a:Int×(List Ag)):List (List Int):=(Xb) (a.1) (a.2)
def l06Groups.row:AO:=vK (b2 qI (qS Ag.d_le Ag.c_n)) (rS Xe Sk) (λa=>0<=a.1/\a.1<=1000000/\Mh a.1 a.2) l06Groups.fv
def l06Groups.q:=B2 (R:=l06Groups.row) rfl
def J2:=J @l06Groups.fv.eq_1<|J @l00Min.q<|J @l00Min.fv.eq_1<|J @l00Max.q @l00Max.fv.eq_1
def l06Groups.ok:AS 177 l06Groups.row:=by
 refine vw (tC l00Min.ok (tC l00Max.ok tN)) Tryz.func177 ?_;intro a ad;simp only[Tryz.f177,Option.getD];simp only[ZZ,simprocAttr,Ab,J2];obtain⟨aj,ak,Z⟩:=ad;obtain⟨n,hn⟩: ∃n:Nat,a.1=n:=⟨a.1.toNat,by omega⟩;simp only[Xb,hn,B1];rw[hn] at aj ak Z;refine Bc.ren ⟨{k:Nat//k<=n},λk=>⟨[(6,.im (.int .i64 k.1)),(5,.own 2),(0,.im (.int .i64 n)),(1,.im (.sl false 3 (a.2.map Ag.c)))],[(2,(true,.arr 2 1 ((YP k.1).map Af)))],3⟩,λk=>n - k.1,λk=>⟨by simp[ZG],by simp⟩,⟨⟨0,by simp⟩,[(2,some 1)],?_⟩,λk=> ?_⟩
 .simp only[Ao];simp only[ZZ,simprocAttr,Ab,J2,AU,AT,YP,BY,hn]
  try simp
 obtain⟨k,Q⟩:=k;simp only[ZZ,simprocAttr,Ab,J2,sub,AQ,OO,OI,OL,B8,D.one,Er,EN,I7];have ab:=jU k;refine⟨λz=>⟨by rw[ab];omega,⟨k+1,by omega⟩,[(2,some 4)],by simp only;omega,?_⟩,λz=> ?_⟩
 .simp only[Ao];simp only[ZZ,simprocAttr,Ab,J2,AU,AT];refine⟨by rw[AF (by omega) (by omega)];omega,by simp[YP,Af]⟩
 have ag:n=k:=by omega
 subst ag;clear ab z Q;refine Bc.old ⟨{k:Nat//k<=a.2.length},λk=>⟨[(7,.im (.int .i64 k.1)),(5,.own 2),(0,.im (.int .i64 n)),(1,.im (.sl false 3 (a.2.map Ag.c)))],[(2,(true,.arr 2 1 ((C6 n a.2 k.1).map Af)))],3⟩,λk=>a.2.length - k.1,λk=>⟨by simp[ZG],by simp⟩,⟨⟨0,by simp⟩,by simp only[ZZ,simprocAttr,Ab,J2,sub,C6]⟩,λk=> ?_⟩;obtain⟨k,Q⟩:=k;have G:=Qto n a.2 k;simp only[ZZ,simprocAttr,Ab,J2,sub,AQ,G];intro _;refine⟨λz=>⟨z,λb hb=> ?_⟩,λz=> ?_⟩
 .obtain⟨b1,b2,b3,b4⟩:=Z b (Bd hb);refine⟨b1,b2,by omega,λx hx=>⟨z,λb' aa=> ?_⟩⟩;rw[hb] at aa;obtain rfl:=A8 aa;refine⟨b3,b4,by omega,λy hy=> ?_⟩;refine Bc.old ⟨{j:Nat//j<=n},λj=>⟨[(10,.im (.int .i64 j.1)),(9,.im (.int .i64 y)),(8,.im (.int .i64 x)),(7,.im (.int .i64 k)),(5,.own 2),(0,.im (.int .i64 n)),(1,.im (.sl false 3 (a.2.map Ag.c)))],[(2,(true,.arr 2 1 ((IW (Kz x y) j.1 (C6 n a.2 k)).map Af)))],3⟩,λj=>n - j.1,λj=>⟨by simp[ZG],by simp⟩,⟨⟨0,by simp⟩,by simp only[ZZ,simprocAttr,Ab,J2,sub,IW]⟩,λj=> ?_⟩;obtain⟨j,ao⟩:=j;have ac:=Qwq (Kz x y) j (C6 n a.2 k);rw[G] at ac;have ah:=Qoo (Kz x y) j (C6 n a.2 k);simp only[ZZ,simprocAttr,Ab,J2,sub,AQ,ac];intro _;refine⟨λhj=>⟨hj,hj,λv hv=> ?_⟩,λhj=> ?_⟩
  .have av:=hv;rw[ah] at hv;refine⟨λO=>⟨hj,hj,λv' au=>⟨⟨j+1,by omega⟩,by simp only;omega,by rw[AF (by omega) (by omega)];simp only;omega,?_⟩⟩,λO=>⟨⟨j+1,by omega⟩,by simp only;omega,by rw[AF (by omega) (by omega)];simp only;omega,?_⟩⟩
   .rw[<-Qn5 _ _ _ _ hv,SR];simp only[Kz,O,Bt,Af]
   .rw[Qabf _ _ _ _ hv (by simp only[Kz];rw[Ad O])]
  .refine⟨⟨k+1,by omega⟩,by simp only;omega,by rw[AF (by omega) (by omega)];simp only;omega,?_⟩;rw[Qvd _ _ _ (by omega)];simp only[C6,hb,yU,hx,hy,AJ]
 have af:k=a.2.length:=by omega
 subst af;clear z Q Z;refine Bc.frr ⟨{k:Nat//k<=n},λk=>⟨[(12,.im (.int .i64 k.1)),(11,.own 4),(5,.own 2),(0,.im (.int .i64 n))],[(4,(true,.arrA 37 1 (Bo ((BM (C6 n a.2 a.2.length) n k.1).map C9)))),(2,(true,.arr 2 1 ((C6 n a.2 a.2.length).map Af)))],5⟩,λk=>n - k.1,λk=>⟨by simp[ZG,Jz],by simp⟩,⟨⟨0,by simp⟩,[],[(4,some 3)],?_⟩,λk=> ?_⟩
 .simp only[Ao];simp only[ZZ,simprocAttr,Ab,J2,AU,AT,BM,BY,gN]
  try simp
 obtain⟨k,Q⟩:=k;obtain⟨own,hown⟩: ∃own,own=C6 n a.2 a.2.length:=⟨_,rfl⟩;simp only[<-hown] at G⊢;have am:=xU own n k;simp only[ZZ,simprocAttr,Ab,J2,sub,AQ,G];refine⟨λz=>⟨z,z,λx hx=>⟨λO=>⟨⟨k+1,by omega⟩,[],[(4,some 4)],by simp only;omega,?_⟩,λO=> ?_⟩⟩,λz=> ?_⟩
 .have e1:BM own n (k+1)=BM own n k:=by
   simp only[BM];rw[Ad (by rw[hx];simpa using O),CQ]
  simp only[Ao];simp only[ZZ,simprocAttr,Ab,J2,AU,AT,YS,GC,e1];rw[AF (by omega) (by omega)];simp
 .have O:=I3.1 O;refine Bc.ren ⟨{m:Nat//m<=n - k},λm=>⟨[(14,.im (.int .i64 ((k+m.1:Nat):Int))),(13,.own 6),(12,.im (.int .i64 k)),(11,.own 4),(5,.own 2),(0,.im (.int .i64 n))],[(6,(true,.arr 2 1 ((DA own k m.1).map Af))),(4,(true,.arrA 37 1 (Bo ((BM own n k).map C9)))),(2,(true,.arr 2 1 (own.map Af)))],7⟩,λm=>n - k - m.1,λm=>⟨by simp[ZG,Jz],by simp⟩,⟨⟨0,by simp⟩,[(6,some 5)],?_⟩,λm=> ?_⟩
  .simp only[Ao];simp only[ZZ,simprocAttr,Ab,J2,AU,AT,DA,BY,GC]
   try simp
  obtain⟨m,aq⟩:=m;have an:=Qsd own k m;simp only[ZZ,simprocAttr,Ab,J2,sub,AQ,G,OO,OI,OL,B8,D.one,Er,EN,I7];refine⟨λhm=>⟨hm,hm,λv hv=>⟨λh=>⟨by omega,⟨m+1,by omega⟩,[(6,some 8)],by simp only;omega,?_⟩,λh=>⟨⟨m+1,by omega⟩,[(6,some 6)],by simp only;omega,?_⟩⟩⟩,λhm=>⟨by simp[AL,AV.bel],by omega,by rw[Mp,KN];simp[AL,AV.bel],⟨k+1,by omega⟩,[6],[(4,some 8)],by simp only;omega,?_⟩⟩
  .simp only[Ao];simp only[ZZ,simprocAttr,Ab,J2,AU,AT,GC];refine⟨?_,?_⟩
   .rw[AF (by omega) (by omega)];omega
   .subst h;simp only[DA];rw[Ak hv];simp[Af]
  .simp only[Ao];simp only[ZZ,simprocAttr,Ab,J2,AU,AT,GC];refine⟨?_,?_⟩
   .rw[AF (by omega) (by omega)];omega
   .simp only[DA];rw[Ad (by rw[hv];simpa using h),CQ]
  .have ai:m=n - k:=by omega
   have e1:BM own n (k+1)=BM own n k++[DA own k m]:=by
    simp only[BM];rw[Ak (by rw[hx,O]),ai]
   simp only[Ao];simp only[ZZ,simprocAttr,Ab,J2,AU,AT,Xl,YS,e1,Fg,Bm,BY];rw[AF (by omega) (by omega)];refine⟨by simp,?_⟩
   have:=SF [(4,some 8)] ((BM own n k).map C9++[[D.sl false 1 ((DA own k m).map Af)]])
   simpa only[Bo,Fg,Bm,BY] using this
 .have:k=n:=by omega
  subst this;simp only[ZZ,simprocAttr,Ab,J2,OK]
end Go.Ae
namespace Go.Ae
def B4(b n:Nat)(f:Nat->Aq):Au:=(List.range n).map λi=>(b+i,f i)
def PN(b n:Nat)(f:Nat->Aq):B4 b (n+1) f=B4 b n f++[(b+n,f n)]:=by
 simp only[B4,Zev,Fg,Bm,BY]
def Qm4(b:Nat)(f:Nat->Aq)(m:Nat): ∀(n:Nat),hget (B4 b n f) m=if b<=m/\m<b+n then some (f (m - b)) else none
 |0=>by rw[Ad (by omega)];rfl
 |n+1=>by
  rw[PN,Qm2,Qm4 b f m n];simp only[hget];by_cases h:b<=m/\m<b+n
  .rw[Ak h,Ak (by omega)]
  .rw[Ad h];by_cases z:b+n=m
   .subst z;rw[Ak (by omega),show b+n - b=n by omega];simp
   .have:(b+n==m)=false:=by simpa using z
    rw[this,Ad (by omega)];rfl
def Kx(b n:Nat)(f:Nat->Aq)(j:Nat)(h:j<n):hget (B4 b n f) (b+j)=some (f j):=by
 rw[Qm4,Ak (by omega),show b+j - b=j by omega]
def Qmh(b n:Nat)(f:Nat->Aq)(m:Nat)(h:m<b\/b+n<=m):hget (B4 b n f) m=none:=by
 rw[Qm4,Ad (by omega)]
def dB(m:Nat)(ks:List Nat): ∀(x:Au),hget (Cg x ks) m=if ks.contains m then none else hget x m
 |[]=>by simp[Cg,hget]
 |(q,e)::r=>by
  simp only[Cg];have ih:=dB m ks r;cases hq:ks.contains q
  .simp only[Co,hget];cases hqm:q==m
   .simpa using ih
   .have:q=m:=by simpa using hqm
    subst this;simp only[CJ,hq];rfl
  .simp only[CJ,ih,hget];cases hqm:q==m
   .simp
   .have:q=m:=by simpa using hqm
    subst this;rw[Ak hq,Ak hq]
def Qadi(b n:Nat)(f:Nat->Aq)(ks:List Nat)(h: ∀k∈ks,k<b\/b+n<=k):Cg (B4 b n f) ks=B4 b n f:=by
 have: ∀(l:List Nat),(∀i∈l,i<n)->Cg (l.map λi=>(b+i,f i)) ks=l.map λi=>(b+i,f i):=by
  intro l;induction l with
  |nil=>intro _;rfl
  |cons i r ih=>
   intro O;have G:=O i (Ct ..);have z:ks.contains (b+i)=false:=by
    rw[RC];intro z
    have:=h _ (J5.1 z)
    omega
   simp only[Bm,Cg,z,Co,ih (λj Q=>O j (Cs _ Q))]
 exact this _ (λi G=>CX.1 G)
def Qns(π:List (Nat×Option Nat))(s:A9)(y:Au): ∀(x:Au),Gf π s (x++y)=(Gf π s x/\Gf π s y)
 |[]=>by simp[Gf]
 |(q,(z,e))::r=>by simp only[CP,Gf,Qns π s y r,mI]
def jY(π:List (Nat×Option Nat))(s:A9)(b n:Nat)(f:Nat->Aq):Gf π s (B4 b n f)↔ ∀i,i<n->Du s π (f i).1 (f i).2 (pm π (b+i)):=by
 have: ∀(l:List Nat),Gf π s (l.map λi=>(b+i,f i))↔ ∀i∈l,Du s π (f i).1 (f i).2 (pm π (b+i)):=by
  intro l;induction l with
  |nil=>simp[Gf]
  |cons i r ih=>simp only[Bm,Gf,ih,BO,ZeY]
 rw[B4,this];simp only[CX]
def Iz:Au->List Nat
 |[]=>[]
 |(n,_)::r=>n::Iz r
def kK(π:List (Nat×Option Nat)): ∀(H:Au),Fl π H=(Iz H).map (pm π)
 |[]=>rfl
 |(n,e)::r=>by simp only[Fl,Iz,Bm,kK π r]
def cY(b n:Nat)(f:Nat->Aq):Iz (B4 b n f)=(List.range n).map (b+ ·):=by
 have: ∀(l:List Nat),Iz (l.map λi=>(b+i,f i))=l.map (b+ ·):=by
  intro l;induction l with
  |nil=>rfl
  |cons i r ih=>simp only[Bm,Iz,ih]
 exact this _
def kW(g:Nat->Option Nat): ∀(l:List Nat),l.Nodup->(∀x∈l,∀y∈l,∀m,g x=some m->g y=some m->x=y)->CT (l.map g)=true
 |[],_,_=>rfl
 |x::r,h,G=>by
  simp only[Jb] at h;have ih:=kW g r h.2 (λa Q b Z=>G a (Cs _ Q) b (Cs _ Z));simp only[Bm];cases hx:g x with
  |none=>simpa only[CT] using ih
  |some m=>
   simp only[CT,ih,Er,K5];rw[RC];intro hc;obtain⟨y,O,z⟩:=BZ.1 (J5.1 hc)
   have:=G x (Ct ..) y (Cs _ O) m hx z
   exact h.1 (this▸O)
def YI(π:List (Nat×Option Nat)): ∀(a b:List (List AV)),Fu π a b↔a.length=b.length/\ ∀(i:Nat) x y,a[i]? =some x->b[i]? =some y->DB π x y
 |[],[]=>by simp[Fu]
 |[],_::_=>by simp[Fu]
 |_::_,[]=>by simp[Fu]
 |x::r,y::s=>by
  simp only[Fu,YI π r s,Dp,Nat.add_right_cancel_iff];constructor
  .rintro⟨Z,Q,O⟩;refine⟨Q,λi x' y' z G=> ?_⟩;cases i with
   |zero=>
    simp only[Gw,AP] at z G;subst z;subst G;exact Z
   |succ i=>exact O i x' y' (by simpa using z) (by simpa using G)
  .rintro⟨Q,O⟩;exact⟨O 0 x y rfl rfl,Q,λi x' y' z G=>O (i+1) x' y' (by simpa using z) (by simpa using G)⟩
def kJ(nx b:Nat)(f:Nat->Aq)(hf: ∀i,AH nx [(b+i,f i)]=true)(n:Nat):AH nx (B4 b n f)=true:=by
 have G: ∀(x y:Au),AH nx (x++y)=(AH nx x && AH nx y):=by
  intro x y;induction x with
  |nil=>simp[AH]
  |cons z r ih=>
   obtain⟨q,Q,e⟩:=z;cases e<;>simp[AH,ih,ZeJ]
 have: ∀(l:List Nat),AH nx (l.map λi=>(b+i,f i))=true:=by
  intro l;induction l with
  |nil=>rfl
  |cons i r ih=>
   have O:=G [(b+i,f i)] (r.map λi=>(b+i,f i));rw[Bm,show (b+i,f i)::(r.map λi=>(b+i,f i))=[(b+i,f i)]++(r.map λi=>(b+i,f i)) from rfl,O,hf i,ih];rfl
 exact this _
def cU(nx b n:Nat)(f:Nat->Aq)(h:b+n<=nx):Cz nx (B4 b n f)=true:=by
 have: ∀(l:List Nat),(∀i∈l,i<n)->Cz nx (l.map λi=>(b+i,f i))=true:=by
  intro l;induction l with
  |nil=>intro _;rfl
  |cons i r ih=>
   intro z;simp only[Bm,Cz,ih (λj O=>z j (Cs _ O)),Er];rw[FG]
   have:=z i (Ct ..)
   omega
 exact this _ (λi G=>CX.1 G)
def JI(b n:Nat):List (Nat×Option Nat):=(List.range n).map λi=>(b+i,none)
def qJ(b n m:Nat):pm (JI b n) m=if b<=m/\m<b+n then none else some m:=by
 have: ∀(l:List Nat),pm (l.map λi=>(b+i,none)) m=if b<=m/\m - b∈l then none else some m:=by
  intro l;induction l with
  |nil=>simp[pm]
  |cons i r ih=>
   simp only[Bm,pm,ih,BO];by_cases h:b+i=m
   .rw[Ak h,Ak ⟨by omega,.inl (by omega)⟩]
   .rw[Ad h];by_cases z:b<=m/\m - b∈r
    .rw[Ak z,Ak ⟨z.1,.inr z.2⟩]
    .rw[Ad z,Ad (by rintro⟨O,G|G⟩;exact h (by omega);exact z ⟨O,G⟩)]
 rw[JI,this];simp only[CX];by_cases h:b<=m/\m<b+n
 .rw[Ak h,Ak (by omega)]
 .rw[Ad h,Ad (by omega)]
def Ur(lo b n:Nat)(h:lo<=b):JL lo (JI b n):=by
 have: ∀(l:List Nat),JL lo (l.map λi=>(b+i,none)):=by
  intro l;induction l with
  |nil=>trivial
  |cons i r ih=>simp only[Bm,JL];exact⟨by omega,ih⟩
 exact this _
def Tf(k b j:Nat)(h:k<b):(k==b+j)=false:=by simp;omega
def P9(k b j:Nat)(h:k<b):(b+j==k)=false:=by simp;omega
end Go.Ae
namespace Go.Ae
open Go.Proofs
def DF(n:Bp)(v i:Int):Int×Int:=match n.Bonds[i.toNat]? with
 |some b=>if b.A=v then (b.Strength - n.Flow[i.toNat]?.getD 0,b.B) else (b.Strength+n.Flow[i.toNat]?.getD 0,b.A)
 |none=>(0,0)
structure DL(n:Bp):Prop where
 c0:0<=n.Cnt
 c1:n.Cnt<=1000000
 fl:n.Flow.length=n.Bonds.length
 al:(n.At.length:Int)=n.Cnt
 bs:Mh n.Cnt n.Bonds
 at_: ∀(v:Nat) (r:List Int),n.At[v]? =some r-> ∀i∈r,0<=i/\ ∃b,n.Bonds[i.toNat]? =some b/\(b.A=v\/b.B=v)
 f: ∀x∈n.Flow,-1000000<=x/\x<=1000000
 st: ∀b∈n.Bonds,0<=b.Strength/\b.Strength<=1000000
 all: ∀(i:Nat) b,n.Bonds[i]? =some b->(∃r,n.At[b.A.toNat]? =some r/\(i:Int)∈r)/\ ∃r,n.At[b.B.toNat]? =some r/\(i:Int)∈r
 ne: ∀b∈n.Bonds,b.A≠b.B
def roomC.fv(a:Bp×Int×Int):Int×Int:=(DF) (a.1) (a.2.1) (a.2.2)
def roomC.row:AO:=H5 (b3 (qP 4 Bp.d_le) qI qI) (r2 rI rI) (λa=>DL a.1/\0<=a.2.2/\a.2.2<a.1.Bonds.length) roomC.fv
def roomC.q:=FE (R:=roomC.row) rfl
def roomC.ok:AS 244 roomC.row:=by
 refine LX tN Tryz.func244 ?_;intro a z;simp only[Tryz.f244,Option.getD];simp only[ZZ,simprocAttr,Ab,roomC.fv,C8,D.sc,D.scs,Cm,Be];obtain⟨G,O,h3⟩:=z;have aa:=G.fl;refine⟨O,h3,λb Q=> ?_⟩;have ab:=G.st b (Bd Q)
 split<;>rename_i h
 .refine⟨O,by omega,λf hf=> ?_⟩;have Z:=G.f f (Bd hf);rw[AF (by omega) (by omega)];simp only[DF,Q,hf,AJ];rw[Ak h]
 .refine⟨O,by omega,λf hf=> ?_⟩;have Z:=G.f f (Bd hf);rw[AF (by omega) (by omega)];simp only[DF,Q,hf,AJ];rw[Ad h]
def DV(n:Bp)(v i:Int):Int:=match n.Bonds[i.toNat]? with
 |some b=>b.A+b.B - v
 |none=>0
def BG(n:Bp)(v:Int)(s:List Int×List Int)(i:Int):List Int×List Int:=
 if s.1[(DV n v i).toNat]?.getD 0<0/\0<(DF n (DV n v i) i).1 then (s.1.set (DV n v i).toNat (s.1[v.toNat]?.getD 0+1),s.2++[DV n v i]) else s
def CV(n:Bp)(q:Int):Nat->List Int×List Int
 |0=>((List.replicate n.Cnt.toNat (-1)).set q.toNat 0,[q])
 |k+1=>match (CV n q k).2[k]? with
  |none=>CV n q k
  |some v=>(n.At[v.toNat]?.getD []).foldl (BG n v) (CV n q k)
def FJ(n:Bp)(q:Int):List Int:=(CV n q n.Cnt.toNat).1
structure YG(n:Bp)(s:List Int×List Int):Prop where
 len:s.1.length=n.Cnt.toNat
 rng: ∀x∈s.1,-1<=x/\x<=s.2.length
 q: ∀x∈s.2,0<=x/\x<n.Cnt
 cnt:(s.1.filter (λx=>decide (0<=x))).length=s.2.length
def Qlu{A:Type}(p:A->Bool): ∀(l:List A) (w:Nat) (x y:A),l[w]? =some x->p x=false->p y=true->((l.set w y).filter p).length=(l.filter p).length+1
 |[],w,x,y,h,_,_=>by simp at h
 |z::r,0,x,y,h,G,O=>by
  simp only[Gw,AP] at h;subst h;simp[mG,G,O]
 |z::r,w+1,x,y,h,G,O=>by
  have:=Qlu p r w x y (by simpa using h) G O
  simp only[sB,mG];split
  .simp only[Dp,this]
  .exact this
def Qkx{n:Bp}(h0:0<=n.Cnt){s:List Int×List Int}(h:YG n s):(s.2.length:Int)<=n.Cnt:=by
 have z:=h.cnt;have G:=Zdp (λx=>decide (0<=x)) s.1;have O:=h.len;omega
def kG{n:Bp}(hn:DL n){v:Nat}{r:List Int}(Q:n.At[v]? =some r){i:Int}(O:i∈r):0<=i/\i<n.Bonds.length/\0<=DV n v i/\DV n v i<n.Cnt:=by
 obtain⟨h0,b,z,hv⟩:=hn.at_ v r Q i O;have G:=hn.bs b (Bd z);have Z:=(B9.1 z).1;simp only[DV,z];omega
def Qtm{n:Bp}(hn:DL n){v:Nat}{r:List Int}(Z:n.At[v]? =some r){i:Int}(Q:i∈r){s:List Int×List Int}(hs:YG n s):YG n (BG n v s i):=by
 obtain⟨_,_,o1,o2⟩:=kG hn Z Q;simp only[BG];split
 .rename_i h;have G:(DV n v i).toNat<s.1.length:=by rw[hs.len];omega
  obtain⟨x,hx⟩: ∃x,s.1[(DV n v i).toNat]? =some x:=⟨_,Bk G⟩;have aa:x<0:=by have:=h.1;rw[hx] at this;simpa using this
  have O:0<=s.1[(v:Int).toNat]?.getD 0+1/\s.1[(v:Int).toNat]?.getD 0+1<=s.2.length+1:=by
   cases hv:s.1[(v:Int).toNat]? with
   |none=>simp;omega
   |some y=>have:=hs.rng y (Bd hv);simp only[AJ];omega
  refine⟨by simpa using hs.len,λy z=> ?_,λy z=> ?_,?_⟩
  .simp only[CS,Dp,Hx];rcases Zc z with z|z
   .have:=hs.rng y z;omega
   .subst z;omega
  .rcases B5.1 z with z|z
   .exact hs.q y z
   .rw[BN] at z;subst z;exact⟨o1,o2⟩
  .rw[Qlu _ _ _ x _ hx (by rw[HZ];omega) (by rw[BA];exact O.1),hs.cnt];simp
 .exact hs
def Qs1{n:Bp}(hn:DL n){v:Nat}{r:List Int}(O:n.At[v]? =some r): ∀(l:List Int) (s:List Int×List Int),(∀i∈l,i∈r)->YG n s->YG n (l.foldl (BG n v) s)
 |[],s,_,z=>z
 |i::l,s,G,z=>Qs1 hn O l _ (λj Q=>G j (Cs _ Q)) (Qtm hn O (G i (Ct ..)) z)
def Y8{n:Bp}(hn:DL n){q:Int}(h0:0<=q)(G:q<n.Cnt): ∀k,YG n (CV n q k)
 |0=>by
  have hq:q.toNat<n.Cnt.toNat:=by omega
  refine⟨by simp[CV],λx z=> ?_,λx z=> ?_,?_⟩
  .simp only[CV] at z⊢;rcases Zc z with z|z
   .have:=Pt z;simp;omega
   .subst z;simp
  .simp only[CV,BN] at z;subst z;exact⟨h0,G⟩
  .simp only[CV];rw[Qlu _ _ _ (-1) _ (by rw[Pu,Ak hq]) (by simp) (by simp)]
   have:(List.replicate n.Cnt.toNat (-1:Int)).filter (λx=>decide (0<=x))=[]:=by
    rw[List.filter_eq_nil_iff];intro x z;rw[Pt z];simp
   rw[this];rfl
 |k+1=>by
  have ih:=Y8 hn h0 G k;simp only[CV];split
  .exact ih
  .rename_i v Q;have Z:=ih.q v (Bd Q);obtain⟨m,rfl⟩: ∃m:Nat,v=m:=⟨v.toNat,by omega⟩;have O:m<n.At.length:=by have:=hn.al;omega
   obtain⟨r,hr⟩: ∃r,n.At[m]? =some r:=⟨_,Bk O⟩;simp only[B1,hr,AJ];exact Qs1 hn hr r _ (λ_ h=>h) ih
def Mv(n:Bp)(q:Int): ∀(m k:Nat),(CV n q k).2.length<=k->CV n q (k+m)=CV n q k
 |0,k,_=>rfl
 |m+1,k,h=>by
  have z:CV n q (k+1)=CV n q k:=by
   rw[CV,Hy h]
  have G:=Mv n q m (k+1) (by rw[z];omega);rw[show k+(m+1)=k+1+m by omega,G,z]
def Qwn(n:Bp)(v:Int): ∀(l:List Int) (s:List Int×List Int),s.2.length<=(l.foldl (BG n v) s).2.length
 |[],s=>AW _
 |i::l,s=>by
  have z:s.2.length<=(BG n v s i).2.length:=by
   simp only[BG];split
   .simp
   .exact AW _
  exact DO z (Qwn n v l _)
def stepsC.fv(a:Bp×Int):List Int:=(FJ) (a.1) (a.2)
def stepsC.row:AO:=H5 (b2 (qP 4 Bp.d_le) qI) (rS Ez Dy) (λa=>DL a.1/\0<=a.2/\a.2<a.1.Cnt) stepsC.fv
def stepsC.q:=FE (R:=stepsC.row) rfl
def R7:=J @stepsC.fv.eq_1 (J @roomC.q @roomC.fv.eq_1)
def stepsC.ok:AS 211 stepsC.row:=by
 refine LX (tC roomC.ok tN) Tryz.func211 ?_;intro a ag;simp only[Tryz.f211,Option.getD];simp only[ZZ,simprocAttr,Ab,R7,C8,D.sc,D.scs,Cm,Be];obtain⟨hn,ah,ao⟩:=ag;have aw:=hn.c1;obtain⟨c,hc⟩: ∃c:Nat,a.1.Cnt=c:=⟨a.1.Cnt.toNat,by omega⟩;refine Bc.ren ⟨{k:Nat//k<=c},λk=>⟨[(6,.im (.int .i64 k.1)),(5,.own 3),(0,.ptr 0 0),(1,.im (.int .i64 a.2))],[(3,(true,.arr 2 1 ((List.replicate k.1 (-1:Int)).map Af))),(0,(false,.view (Bp.c a.1)))],4⟩,λk=>c - k.1,λk=>⟨by simp[ZG],by simp⟩,⟨⟨0,by simp⟩,[(3,some 2)],?_⟩,λk=> ?_⟩
 .simp only[Ao];simp only[ZZ,simprocAttr,Ab,R7,C8,D.sc,D.scs,Cm,Be,AU,AT,List.replicate_zero,BY]
  try simp
 obtain⟨k,am⟩:=k;simp only[ZZ,simprocAttr,Ab,R7,C8,D.sc,D.scs,Cm,Be,sub,AQ,hc,Mn];refine⟨λhk=>⟨by omega,⟨k+1,by omega⟩,[(3,some 5)],by simp only;omega,?_⟩,λhk=> ?_⟩
 .simp only[Ao];simp only[ZZ,simprocAttr,Ab,R7,C8,D.sc,D.scs,Cm,Be,AU,AT];refine⟨by rw[AF (by omega) (by omega)];omega,?_⟩;rw[Zfo];simp[Af]
 have an:c=k:=by omega
 subst an;refine⟨ah,by omega,by omega,λ_ _=> ?_⟩;have au:=hn.al;have ac:=Y8 hn ah ao;refine Bc.ren ⟨{k:Nat//k<=(CV a.1 a.2 k).2.length},λk=>⟨[(8,.im (.int .i64 k.1)),(7,.own 5),(5,.own 3),(0,.ptr 0 0),(1,.im (.int .i64 a.2))],[(5,(true,.arr 2 1 ((CV a.1 a.2 k.1).2.map Af))),(3,(true,.arr 2 1 ((CV a.1 a.2 k.1).1.map Af))),(0,(false,.view (Bp.c a.1)))],6⟩,λk=>c - k.1,λk=>⟨by simp[ZG],by simp⟩,⟨⟨0,by simp⟩,[(5,some 4)],?_⟩,λk=> ?_⟩
 .simp only[Ao];simp only[ZZ,simprocAttr,Ab,R7,C8,D.sc,D.scs,Cm,Be,AU,AT,hc,CV];simp[hc,Af,SR]
 obtain⟨k,am⟩:=k;have hi:=ac k;have ai:=hi.len;have ay:=Qkx (by omega) hi;simp only[ZZ,simprocAttr,Ab,R7,C8,D.sc,D.scs,Cm,Be,sub,AQ,hc,ai];intro _;refine⟨λhk=>⟨hk,hk,λv hv=> ?_⟩,λhk=> ?_⟩
 .have a8:=hi.q v (Bd hv);obtain⟨m,rfl⟩: ∃m:Nat,v=m:=⟨v.toNat,by omega⟩;have hm:m<a.1.At.length:=by omega
  obtain⟨r,hr⟩: ∃r,a.1.At[m]? =some r:=⟨_,Bk hm⟩;have O:CV a.1 a.2 (k+1)=r.foldl (BG a.1 m) (CV a.1 a.2 k):=by
   simp only[CV,hv,B1,hr,AJ]
  refine Bc.ren ⟨{j:Nat//j<=r.length},λj=>⟨[(10,.im (.int .i64 j.1)),(9,.im (.int .i64 m)),(8,.im (.int .i64 k)),(7,.own 6),(5,.own 3),(0,.ptr 0 0),(1,.im (.int .i64 a.2))],[(6,(true,.arr 2 1 (((r.take j.1).foldl (BG a.1 m) (CV a.1 a.2 k)).2.map Af))),(3,(true,.arr 2 1 (((r.take j.1).foldl (BG a.1 m) (CV a.1 a.2 k)).1.map Af))),(0,(false,.view (Bp.c a.1)))],7⟩,λj=>r.length - j.1,λj=>⟨by simp[ZG],by simp⟩,⟨⟨0,by simp⟩,[(6,some 5)],?_⟩,λj=> ?_⟩
  .simp only[Ao];simp only[ZZ,simprocAttr,Ab,R7,C8,D.sc,D.scs,Cm,Be,AU,AT,hc,Fh,ZeK]
   try simp
  obtain⟨j,ax⟩:=j;have hs:=Qs1 hn hr (r.take j) _ (λi hi=>Zdv hi) hi;obtain⟨s,hsd⟩: ∃s,s=(r.take j).foldl (BG a.1 m) (CV a.1 a.2 k):=⟨_,rfl⟩;rw[<-hsd] at hs;have aq:=hs.len;have a0:=Qkx (by omega) hs;simp only[<-hsd];have af:(⟨(c:Int),a.1.Bonds,a.1.At,a.1.Flow⟩:Bp)=a.1:=by rw[<-hc]
  simp only[ZZ,simprocAttr,Ab,R7,C8,D.sc,D.scs,Cm,Be,sub,AQ,hc,af,aq,OO,OI,OL,B8,D.one,Er,EN,I7];refine⟨hm,λr' G=> ?_⟩;rw[hr] at G;obtain rfl:=A8 G;intro az;refine⟨λhj=>⟨hm,λr' G=> ?_⟩,λhj=> ?_⟩
  .rw[hr] at G;obtain rfl:=A8 G;refine⟨hj,λi ab=> ?_⟩;have aj:=Bd ab;obtain⟨i0,i1,o0,o1⟩:=kG hn hr aj;have z:(r.take (j+1)).foldl (BG a.1 m) (CV a.1 a.2 k)=BG a.1 m s i:=by
    rw[K6,ab,List.foldl_append,<-hsd];rfl
   refine⟨i0,i1,λb hb=>⟨i0,i1,λb' aa=> ?_⟩⟩;rw[hb] at aa;obtain rfl:=A8 aa;have av:=hn.bs b (Bd hb);have hw:IntKind.wrap .i64 (IntKind.wrap .i64 (b.A+b.B) - m)=DV a.1 m i:=by
    rw[AF (x:=b.A+b.B) (by omega) (by omega),AF (by omega) (by omega)];simp only[DV,hb]
   rw[hw];have ad:(DV a.1 m i).toNat<c:=by omega
   refine⟨⟨hn,i0,i1⟩,o0,by omega,ad,λx hx=>⟨λZ=>⟨λQ=>⟨by omega,by omega,λy hy=>⟨o0,by omega,ad,λ_ _=>⟨by omega,⟨j+1,by omega⟩,[(6,some 8)],by simp only;omega,?_⟩⟩⟩,λQ=>⟨⟨j+1,by omega⟩,[(6,some 6)],by simp only;omega,?_⟩⟩,λZ=>⟨⟨j+1,by omega⟩,[(6,some 6)],by simp only;omega,?_⟩⟩⟩
   .have e1:BG a.1 m s i=(s.1.set (DV a.1 m i).toNat (y+1),s.2++[DV a.1 m i]):=by
     simp only[BG];rw[Ak ⟨by rw[hx];exact Z,Q⟩,B1,hy];rfl
    have a9:=hs.rng y (Bd hy);simp only[Ao,z,e1];simp only[ZZ,simprocAttr,Ab,R7,C8,D.sc,D.scs,Cm,Be,AU,AT,hc];rw[AF (x:=y+1) (by omega) (by omega)];refine⟨by rw[AF (by omega) (by omega)];omega,?_,?_⟩
    .simp[Af]
    .simp[Af,SR]
   .have e1:BG a.1 m s i=s:=by
     simp only[BG];rw[Ad (λh=>Q h.2)]
    simp only[Ao,z,e1];simp only[ZZ,simprocAttr,Ab,R7,C8,D.sc,D.scs,Cm,Be,AU,AT,hc];rw[AF (by omega) (by omega)];simp
   .have e1:BG a.1 m s i=s:=by
     simp only[BG];rw[Ad (λh=>Z (by have:=h.1;rw[hx] at this;exact this))]
    simp only[Ao,z,e1];simp only[ZZ,simprocAttr,Ab,R7,C8,D.sc,D.scs,Cm,Be,AU,AT,hc];rw[AF (by omega) (by omega)];simp
  .have ak:j=r.length:=by omega
   subst ak;rw[EW] at hsd;refine⟨⟨k+1,by
    have:=Qwn a.1 m r (CV a.1 a.2 k)
    rw[O];omega⟩,[(5,some 6)],by simp only;omega,?_⟩
   simp only[Ao,O,<-hsd];simp only[ZZ,simprocAttr,Ab,R7,C8,D.sc,D.scs,Cm,Be,AU,AT,hc];rw[AF (by omega) (by omega)];simp
 .rw[FJ,hc,B1]
  have:=Mv a.1 a.2 (c - k) k (by omega)
  rw[show k+(c - k)=c by omega] at this;rw[this]
def eA(l:List Int):Nat->List Int
 |0=>[]
 |k+1=>eA l k++(if 0<=l[k]?.getD (-1) then [(k:Int)] else [])
def Qu8(l:List Int): ∀k,(eA l k).length<=k
 |0=>AW _
 |k+1=>by
  have:=Qu8 l k
  simp only[eA,CS]
  split<;>simp<;>omega
def lJ(n:Bp)(q:Int):List Int:=eA (FJ n q) n.Cnt.toNat
def xK{n:Bp}(hn:DL n){q:Int}(h0:0<=q)(z:q<n.Cnt):(FJ n q).length=n.Cnt.toNat:=(Y8 hn h0 z _).len
def sideC.fv(a:Bp×Int):List Int:=(lJ) (a.1) (a.2)
def sideC.row:AO:=H5 (b2 (qP 4 Bp.d_le) qI) (rS Ez Dy) (λa=>DL a.1/\0<=a.2/\a.2<a.1.Cnt) sideC.fv
def sideC.q:=FE (R:=sideC.row) rfl
def Yap:=J @sideC.fv.eq_1 (J @stepsC.q @stepsC.fv.eq_1)
def sideC.ok:AS 181 sideC.row:=by
 refine LX (tC stepsC.ok tN) Tryz.func181 ?_;intro a z;simp only[Tryz.f181,Option.getD];simp only[ZZ,simprocAttr,Ab,Yap,C8,D.sc,D.scs,Cm,Be];refine⟨z,?_⟩;obtain⟨hn,O,Q⟩:=z;have aa:=hn.c1;obtain⟨c,hc⟩: ∃c:Nat,a.1.Cnt=c:=⟨a.1.Cnt.toNat,by omega⟩;have G:=xK hn O Q;rw[hc,B1] at G;simp only[lJ,hc,B1];obtain⟨l,hl⟩: ∃l,l=FJ a.1 a.2:=⟨_,rfl⟩;simp only[<-hl] at G⊢;refine Bc.ren ⟨{k:Nat//k<=c},λk=>⟨[(7,.im (.int .i64 k.1)),(6,.own 3),(5,.im (.sl false 1 (l.map Af))),(0,.ptr 0 0)],[(3,(true,.arr 2 1 ((eA l k.1).map Af))),(0,(false,.view (Bp.c a.1)))],4⟩,λk=>c - k.1,λk=>⟨by simp[ZG],by simp⟩,⟨⟨0,by simp⟩,[(3,some 2)],?_⟩,λk=> ?_⟩
 .simp only[Ao];simp only[ZZ,simprocAttr,Ab,Yap,C8,D.sc,D.scs,Cm,Be,AU,AT,hc,eA,BY]
  try simp
 obtain⟨k,ab⟩:=k;have ac:=Qu8 l k;simp only[ZZ,simprocAttr,Ab,Yap,C8,D.sc,D.scs,Cm,Be,sub,AQ,hc,G,OO,OI,OL,B8,D.one,Er,EN,I7];refine⟨λZ=>⟨Z,λx hx=>⟨λh=>⟨by omega,⟨k+1,by omega⟩,[(3,some 5)],by simp only;omega,?_⟩,λh=>⟨⟨k+1,by omega⟩,[(3,some 3)],by simp only;omega,?_⟩⟩⟩,λZ=> ?_⟩
 .simp only[Ao];simp only[ZZ,simprocAttr,Ab,Yap,C8,D.sc,D.scs,Cm,Be,AU,AT,hc];refine⟨by rw[AF (by omega) (by omega)];omega,?_⟩;simp only[eA,hx,AJ];rw[Ak h];simp[Af]
 .simp only[Ao];simp only[ZZ,simprocAttr,Ab,Yap,C8,D.sc,D.scs,Cm,Be,AU,AT,hc];refine⟨by rw[AF (by omega) (by omega)];omega,?_⟩;simp only[eA,hx,AJ];rw[Ad h,CQ]
 .rw[show k=c by omega]
def IV(n:Bp)(v i:Int):Bp:=⟨n.Cnt,n.Bonds,n.At,match n.Bonds[i.toNat]? with
 |some b=>n.Flow.set i.toNat (if b.A=v then n.Flow[i.toNat]?.getD 0+1 else n.Flow[i.toNat]?.getD 0 - 1)
 |none=>n.Flow⟩
def GN(n:Bp):List AV:=[.im (.int .i64 n.Cnt),.im (.sl false 3 (n.Bonds.map Ag.c)),.im (.sl false 1 (n.At.map C9)),.own 1]
def Eu(n:Bp):Au:=[(0,(true,.cells 250 (GN n))),(1,(true,.arr 2 1 (n.Flow.map Af)))]
def tJ(n:Bp)(j:Nat):Av (Eu n) j=true↔j<2:=by
 simp only[Av,Eu,hget];by_cases h0:j=0
 .subst h0;simp
 .by_cases O:j=1
  .subst O;simp
  .have z:(0==j)=false:=by simp;omega
   have G:(1==j)=false:=by simp;omega
   simp[z,G];omega
def KA(j:Nat):Bool:=j==1
def pushC.ca(a:Bp×Int×Int):List AV:=[.ptr 0 0,.im (.int .i64 a.2.1),.im (.int .i64 a.2.2)]
def pushC.H1(a:Bp×Int×Int):Au:=[(1,(true,.arr 2 1 ((IV a.1 a.2.1 a.2.2).Flow.map Af)))]
def pushC.row:AO:=AM pushC.ca (λa=>Eu a.1) 2 (λa=>DL a.1/\0<=a.2.2/\a.2.2<a.1.Bonds.length) KA (λ_=> .im (.tup [])) pushC.H1 0
def pushC.ok:AS 245 pushC.row:=by
 refine ow tN Tryz.func245 (exB:=λ_=>false) (R:=λ_ r=>r= .im (.tup [])) (λ_=>rfl)
  (λa=>by simp[pushC.ca,Eu,GN,pushC.H1,KA,AL,AV.bel,AH,Cz,Df,Ah.nms,AE,AV.nms,Av,hget]) (λa p hp=> ?_) (λa r h=>by subst h;exact ED.refl _) ?_
 rotate_left
 intro a z;simp only[Tryz.f245,Option.getD,pushC.ca,Eu,GN,pushC.H1,KA];simp only[ZZ,simprocAttr,Ab,Az,pushC.ca,Eu,GN,pushC.H1,KA];obtain⟨hn,h0,Q⟩:=z;have Z:=hn.fl;refine⟨h0,Q,λb O=> ?_⟩
 split<;>rename_i h
 .refine⟨h0,by omega,by omega,λf hf=>⟨h0,by omega,by omega,λ_ _=> ?_⟩⟩;have G:=hn.f f (Bd hf);rw[AF (by omega) (by omega)];simp only[IV,O,hf,AJ,Ak h,SR];rfl
 .refine⟨h0,by omega,by omega,λf hf=>⟨h0,by omega,by omega,λ_ _=> ?_⟩⟩;have G:=hn.f f (Bd hf);rw[AF (by omega) (by omega)];simp only[IV,O,hf,AJ,Ad h,SR];rfl
 simp[pushC.H1] at hp;subst hp;exact .inl ⟨by omega,rfl,rfl⟩
structure Gz(n:Bp)(q:Int)(s:List Int×List Int):Prop where
 zero:s.1[q.toNat]? =some 0
 uniq: ∀(w:Nat),s.1[w]? =some 0->w=q.toNat
 prev: ∀(w:Nat) (x:Int),s.1[w]? =some x->0<x-> ∃(v:Nat) (r:List Int) (i:Int),s.1[v]? =some (x - 1)/\n.At[v]? =some r/\i∈r/\DV n v i=w/\0<(DF n w i).1
 qs: ∀v∈s.2,∃y,s.1[v.toNat]? =some y/\0<=y
def xM(n:Bp)(v:Int)(s:List Int×List Int)(i:Int)(u:Nat)(y:Int)(h:s.1[u]? =some y)(h0:0<=y):(BG n v s i).1[u]? =some y:=by
 simp only[BG];split
 .rename_i G;have z:(DV n v i).toNat≠u:=by
   intro O;rw[O,h] at G
   have:=G.1
   simp at this;omega
  simp only;rw[Ep z];exact h
 .exact h
def Qor(n:Bp)(v:Int)(u:Nat)(y:Int)(h0:0<=y): ∀(l:List Int) (s:List Int×List Int),s.1[u]? =some y->(l.foldl (BG n v) s).1[u]? =some y
 |[],_,h=>h
 |i::l,s,h=>Qor n v u y h0 l _ (xM n v s i u y h h0)
def mN{n:Bp}(hn:DL n){q:Int}{v:Nat}{r:List Int}(hr:n.At[v]? =some r){i:Int}(hi:i∈r){s:List Int×List Int}(hs:YG n s)(hp:Gz n q s){y:Int}(hv:s.1[v]? =some y)(hy:0<=y):Gz n q (BG n v s i):=by
 obtain⟨_,_,o1,o2⟩:=kG hn hr hi;have keep:=λu z h h0=>xM n v s i u z h h0
 have Z:(DV n v i).toNat<s.1.length:=by rw[hs.len];omega
 by_cases hc:s.1[(DV n v i).toNat]?.getD 0<0/\0<(DF n (DV n v i) i).1
 .have Q:BG n v s i=(s.1.set (DV n v i).toNat (y+1),s.2++[DV n v i]):=by
   simp only[BG];rw[Ak hc,B1,hv];rfl
  have hget: ∀(w:Nat) (x:Int),(BG n v s i).1[w]? =some x->(w=(DV n v i).toNat/\x=y+1)\/s.1[w]? =some x:=by
   intro w x G;rw[Q] at G;simp only at G;by_cases hw:(DV n v i).toNat=w
   .subst hw;rw[EE Z] at G;exact .inl ⟨rfl,(A8 G).symm⟩
   .rw[Ep hw] at G;exact .inr G
  refine⟨keep _ _ hp.zero (by omega),λw hw=> ?_,λw x G h0=> ?_,λu O=> ?_⟩
  .rcases hget w 0 hw with ⟨_,h⟩|h
   .omega
   .exact hp.uniq w h
  .rcases hget w x G with ⟨h1,h2⟩|h
   .refine⟨v,r,i,keep _ _ (by rw[hv];congr 1;omega) (by omega),hr,hi,by omega,?_⟩
    have:(w:Int)=DV n v i:=by omega
    rw[this];exact hc.2
   .obtain⟨v',r',i',g1,g2,g3,g4,g5⟩:=hp.prev w x h h0;exact⟨v',r',i',keep _ _ g1 (by omega),g2,g3,g4,g5⟩
  .rw[Q] at O;rcases B5.1 O with O|O
   .obtain⟨z,h1,h2⟩:=hp.qs u O;exact⟨z,keep _ _ h1 h2,h2⟩
   .rw[BN] at O;subst O;refine⟨y+1,?_,by omega⟩;rw[Q];exact EE Z
 .have Q:BG n v s i=s:=by simp only[BG];rw[Ad hc]
  rw[Q];exact hp
def Tg{n:Bp}(hn:DL n){q:Int}{v:Nat}{r:List Int}(G:n.At[v]? =some r){y:Int}(O:0<=y): ∀(l:List Int) (s:List Int×List Int),(∀i∈l,i∈r)->YG n s->Gz n q s->s.1[v]? =some y->Gz n q (l.foldl (BG n v) s)
 |[],s,_,_,hp,_=>hp
 |i::l,s,z,Q,hp,Z=>Tg hn G O l _ (λj hj=>z j (Cs _ hj)) (Qtm hn G (z i (Ct ..)) Q) (mN hn G (z i (Ct ..)) Q hp Z O) (xM n v s i v y Z O)
def OG{n:Bp}(hn:DL n){q:Int}(h0:0<=q)(h1:q<n.Cnt): ∀k,Gz n q (CV n q k)
 |0=>by
  have hq:q.toNat<n.Cnt.toNat:=by omega
  have z:q.toNat<(List.replicate n.Cnt.toNat (-1:Int)).length:=by rw[Mn];exact hq
  have hget: ∀(w:Nat) (x:Int),((List.replicate n.Cnt.toNat (-1:Int)).set q.toNat 0)[w]? =some x->(w=q.toNat/\x=0)\/x= -1:=by
   intro w x G;by_cases Q:q.toNat=w
   .subst Q;rw[EE z] at G;exact .inl ⟨rfl,(A8 G).symm⟩
   .rw[Ep Q] at G;exact .inr (Pt (Bd G))
  refine⟨EE z,λw Q=> ?_,λw x G aa=> ?_,λv O=> ?_⟩
  .rcases hget w 0 Q with h|h
   .exact h.1
   .omega
  .rcases hget w x G with h|h<;>omega
  .simp only[CV,BN] at O;subst O;exact⟨0,EE z,Gy _⟩
 |k+1=>by
  have ih:=OG hn h0 h1 k;have hi:=Y8 hn h0 h1 k;simp only[CV];split
  .exact ih
  .rename_i v O;have ab:=hi.q v (Bd O);obtain⟨m,rfl⟩: ∃m:Nat,v=m:=⟨v.toNat,by omega⟩;have hm:m<n.At.length:=by have:=hn.al;omega
   obtain⟨r,hr⟩: ∃r,n.At[m]? =some r:=⟨_,Bk hm⟩;obtain⟨y,hy,Z⟩:=ih.qs _ (Bd O);simp only[B1,hr,AJ];exact Tg hn hr Z r _ (λ_ h=>h) hi ih (by simpa using hy)
def Ju(n:Bp):Prop:= ∀(i:Nat) b f,n.Bonds[i]? =some b->n.Flow[i]? =some f-> -b.Strength<=f/\f<=b.Strength
def GA(n:Bp)(st:List Int)(v:Int)(acc:Int×Int)(i:Int):Int×Int:=
 if 0<(DF n v i).1/\st[(DF n v i).2.toNat]?.getD 0=st[v.toNat]?.getD 0 - 1/\(acc.1<0\/(DF n v i).2<acc.1) then ((DF n v i).2,i) else acc
def HG(n:Bp)(st:List Int)(v:Int):Int×Int:=(n.At[v.toNat]?.getD []).foldl (GA n st v) (-1,0)
def Cj(n:Bp)(st:List Int)(p:Int):Nat->Bp×Int
 |0=>(n,p)
 |k+1=>(IV (Cj n st p k).1 (Cj n st p k).2 (HG (Cj n st p k).1 st (Cj n st p k).2).2,(HG (Cj n st p k).1 st (Cj n st p k).2).1)
def FK(n:Bp)(p q:Int):Bp×Bool:=
 if (FJ n q)[p.toNat]?.getD 0<0 then (n,false) else ((Cj n (FJ n q) p ((FJ n q)[p.toNat]?.getD 0).toNat).1,true)
def zQ{n:Bp}(hn:DL n){v:Nat}{r:List Int}(Q:n.At[v]? =some r){i:Int}(O:i∈r):0<=(DF n v i).2/\(DF n v i).2<n.Cnt:=by
 obtain⟨h0,b,z,Z⟩:=hn.at_ v r Q i O;have G:=hn.bs b (Bd z);simp only[DF,z]
 split<;>simp only<;>omega
def MO(n:Bp)(st:List Int)(v:Int)(r:List Int)(w:Int×Int):Prop:=w.2∈r/\0<(DF n v w.2).1/\(DF n v w.2).2=w.1/\st[w.1.toNat]?.getD 0=st[v.toNat]?.getD 0 - 1/\0<=w.1
def Qq8{n:Bp}(hn:DL n)(st:List Int){v:Nat}{r:List Int}(O:n.At[v]? =some r): ∀(l:List Int) (acc:Int×Int),(∀i∈l,i∈r)->(acc.1<0\/MO n st v r acc)->(l.foldl (GA n st v) acc).1<0\/MO n st v r (l.foldl (GA n st v) acc)
 |[],acc,_,h=>h
 |i::l,acc,z,h=>by
  refine Qq8 hn st O l _ (λj Q=>z j (Cs _ Q)) ?_;simp only[GA];split
  .rename_i G;exact .inr ⟨z i (Ct ..),G.1,rfl,G.2.1,(zQ hn O (z i (Ct ..))).1⟩
  .exact h
def Qy{n:Bp}(hn:DL n)(st:List Int){v:Nat}{r:List Int}(G:n.At[v]? =some r){i:Int}(z:i∈r)(acc:Int×Int)(h:0<=acc.1):0<=(GA n st v acc i).1:=by
 simp only[GA];split
 .exact (zQ hn G z).1
 .exact h
def Qvo{n:Bp}(hn:DL n)(st:List Int){v:Nat}{r:List Int}(G:n.At[v]? =some r): ∀(l:List Int) (acc:Int×Int),(∀i∈l,i∈r)->0<=acc.1->0<=(l.foldl (GA n st v) acc).1
 |[],_,_,h=>h
 |i::l,acc,z,h=>Qvo hn st G l _ (λj O=>z j (Cs _ O)) (Qy hn st G (z i (Ct ..)) acc h)
def Qqh{n:Bp}(hn:DL n)(st:List Int){v:Nat}{r:List Int}(O:n.At[v]? =some r){i:Int}(Q:0<(DF n v i).1)(Z:st[(DF n v i).2.toNat]?.getD 0=st[(v:Int).toNat]?.getD 0 - 1): ∀(l:List Int) (acc:Int×Int),(∀i∈l,i∈r)->i∈l->0<=(l.foldl (GA n st v) acc).1
 |[],_,_,h=>by cases h
 |j::l,acc,hl,h=>by
  simp only[mH];have z:=λk hk=>hl k (Cs _ hk)
  rcases BO.1 h with rfl|h
  .refine Qvo hn st O l _ z ?_;have hb:=zQ hn O (hl _ (Ct ..));simp only[GA];split
   .exact hb.1
   .rename_i hc;rcases Int.lt_or_le acc.1 0 with G|G
    .exact absurd ⟨Q,Z,.inl G⟩ hc
    .exact G
  .exact Qqh hn st O Q Z l _ z h
def Qz{n:Bp}(hn:DL n)(st:List Int){v:Nat}{r:List Int}(z:n.At[v]? =some r){i:Int}(Q:i∈r)(G:0<(DF n v i).1)(O:st[(DF n v i).2.toNat]?.getD 0=st[(v:Int).toNat]?.getD 0 - 1):MO n st v r (HG n st v):=by
 have e:HG n st v=r.foldl (GA n st v) (-1,0):=by simp only[HG,B1,z,AJ]
 rw[e];have Z:=Qqh hn st z G O r (-1,0) (λ_ h=>h) Q;rcases Qq8 hn st z r (-1,0) (λ_ h=>h) (.inl (by decide)) with h|h
 .omega
 .exact h
def aY{n:Bp}(hn:DL n)(hc:Ju n){v:Nat}{i:Int}(h0:0<=i)(z:0<(DF n v i).1):DL (IV n v i)/\Ju (IV n v i):=by
 obtain⟨m,rfl⟩: ∃m:Nat,i=m:=⟨i.toNat,by omega⟩;have O:Ju (IV n v m):=by
  intro j b f G hf;simp only[IV,B1] at G hf;simp only[DF,B1] at z;cases hbm:n.Bonds[m]? with
  |none=>rw[hbm] at hf;exact hc j b f G hf
  |some b'=>
   rw[hbm] at hf z;simp only at hf z;by_cases Q:m=j
   .subst Q;rw[G] at hbm;obtain rfl:=A8 hbm;have Z:m<n.Flow.length:=by
     have:=(B9.1 hf).1
     simpa using this
    rw[EE Z] at hf;have hf:=A8 hf;obtain⟨g,hg⟩: ∃g,n.Flow[m]? =some g:=⟨_,Bk Z⟩;have ab:=hc m b g G hg;rw[hg] at hf z;simp only[AJ] at hf z;split at hf<;>rename_i hA
    .rw[Ak hA] at z;simp only at z;omega
    .rw[Ad hA] at z;simp only at z;omega
   .rw[Ep Q] at hf;exact hc j b f G hf
 refine⟨⟨hn.c0,hn.c1,?_,hn.al,hn.bs,hn.at_,?_,hn.st,hn.all,hn.ne⟩,O⟩
 .have:=hn.fl
  simp only[IV];split
  .simpa using this
  .exact this
 .intro x hx;obtain⟨j,Q⟩:=EK.1 hx;have ac:=(B9.1 Q).1;have aa:(IV n v m).Flow.length=n.Bonds.length:=by
   rw[<-hn.fl];simp only[IV];split
   .simp
   .rfl
  obtain⟨b,G⟩: ∃b,n.Bonds[j]? =some b:=⟨_,Bk (by omega)⟩;have h1:=O j b x G Q;have h2:=hn.st b (Bd G);omega
def Qabc(n:Bp)(v i:Int)(j:Nat)(h:i.toNat≠j):(IV n v i).Flow[j]? =n.Flow[j]? :=by
 simp only[IV];split
 .exact Ep h
 .rfl
def Q9{n n':Bp}(z:n'.Bonds=n.Bonds)(i:Int)(hf:n'.Flow[i.toNat]? =n.Flow[i.toNat]?)(v:Int):DF n' v i=DF n v i:=by
 simp only[DF,z,hf]
structure fV(n:Bp)(st:List Int)(p:Int)(d k:Nat):Prop where
 ok:DL (Cj n st p k).1
 cap:Ju (Cj n st p k).1
 cnt:(Cj n st p k).1.Cnt=n.Cnt
 bs:(Cj n st p k).1.Bonds=n.Bonds
 at_:(Cj n st p k).1.At=n.At
 v: ∃m:Nat,(Cj n st p k).2=m/\(m:Int)<n.Cnt/\st[m]? =some ((d:Int) - k)
 fl: ∀(i:Nat) b,n.Bonds[i]? =some b->st[b.A.toNat]?.getD 0<=(d:Int) - k->st[b.B.toNat]?.getD 0<=(d:Int) - k->(Cj n st p k).1.Flow[i]? =n.Flow[i]?
def Qk0{n:Bp}(hn:DL n){q:Int}{st qu:List Int}(ag:st.length=n.Cnt.toNat)(hP:Gz n q (st,qu)){p:Int}{d k:Nat}(hk:k<d)(Z:fV n st p d k):
 ∃(m:Nat) (r:List Int),(Cj n st p k).2=m/\n.At[m]? =some r/\MO (Cj n st p k).1 st m r (HG (Cj n st p k).1 st m)/\st[m]? =some ((d:Int) - k)/\(HG (Cj n st p k).1 st m).1<n.Cnt:=by
 obtain⟨m,hm,aj,O⟩:=Z.v;have af:m<n.At.length:=by have:=hn.al;omega
 obtain⟨r,hr⟩: ∃r,n.At[m]? =some r:=⟨_,Bk af⟩;have ab:(Cj n st p k).1.At[m]? =some r:=by rw[Z.at_];exact hr
 obtain⟨v',r',i,g1,g2,g3,g4,g5⟩:=hP.prev m _ O (by omega);simp only at g1;obtain⟨ai,b,hb,aa⟩:=hn.at_ v' r' g2 i g3;have ah:=hn.bs b (Bd hb);have ac:b.A+b.B - v'=m:=by simpa only[DV,hb] using g4
 have z:=hn.all i.toNat b hb;rw[show ((i.toNat:Nat):Int)=i by omega] at z;have ad:i∈r:=by
  rcases aa with h|h
  .obtain⟨r2,Q,h3⟩:=z.2;rw[show b.B.toNat=m by omega,hr] at Q;obtain rfl:=A8 Q;exact h3
  .obtain⟨r2,Q,h3⟩:=z.1;rw[show b.A.toNat=m by omega,hr] at Q;obtain rfl:=A8 Q;exact h3
 have ak:=hn.ne b (Bd hb);have G:DF (Cj n st p k).1 m i=DF n m i:=by
  refine Q9 Z.bs i (Z.fl i.toNat b hb ?_ ?_) m
  .rcases aa with h|h
   .rw[show b.A.toNat=v' by omega,g1];simp only[AJ];omega
   .rw[show b.A.toNat=m by omega,O];simp only[AJ];omega
  .rcases aa with h|h
   .rw[show b.B.toNat=m by omega,O];simp only[AJ];omega
   .rw[show b.B.toNat=v' by omega,g1];simp only[AJ];omega
 have Q:(DF n m i).2=v':=by
  simp only[DF,hb]
  split<;>simp only<;>omega
 have hg:=Qz Z.ok st ab ad (by rw[G];exact g5) (by rw[G,Q,B1,g1,B1,O];simp only[AJ]);refine⟨m,r,hm,hr,hg,O,?_⟩
 have:=(zQ Z.ok ab hg.1).2
 rw[hg.2.2.1,Z.cnt] at this;exact this
def qC{n:Bp}(hn:DL n)(hc:Ju n){q:Int}{st qu:List Int}(G:st.length=n.Cnt.toNat)(hP:Gz n q (st,qu)){p:Int}(ac:0<=p)(ad:p<n.Cnt){d:Nat}(hd:st[p.toNat]? =some (d:Int)): ∀k,k<=d->fV n st p d k
 |0,_=>⟨hn,hc,rfl,rfl,rfl,⟨p.toNat,by simp only[Cj];omega,by omega,by rw[hd];simp⟩,λi b _ _ _=>rfl⟩
 |k+1,hk=>by
  have ih:=qC hn hc G hP ac ad hd k (by omega);obtain⟨m,r,O,hr,hg,Q,ag⟩:=Qk0 hn G hP (by omega) ih;obtain⟨h1,h2⟩:=aY ih.ok ih.cap (i:=(HG (Cj n st p k).1 st m).2) (ih.ok.at_ m r (by rw[ih.at_];exact hr) _ hg.1).1 hg.2.1;obtain⟨j0,b,hb,ab⟩:=hn.at_ m r hr _ hg.1;have af:=hg.2.2.2.2;have Z:=hg.2.2.2.1;rw[B1,Q,AJ] at Z;obtain⟨z,hz⟩: ∃z,st[(HG (Cj n st p k).1 st m).1.toNat]? =some z:=⟨_,Bk (by omega)⟩;rw[hz,AJ] at Z;refine⟨?_,?_,?_,?_,?_,⟨(HG (Cj n st p k).1 st m).1.toNat,?_,by omega,by rw[hz,Z];congr 1;omega⟩,?_⟩
  .simp only[Cj,O];exact h1
  .simp only[Cj,O];exact h2
  .simp only[Cj,O];exact ih.cnt
  .simp only[Cj,O];exact ih.bs
  .simp only[Cj,O];exact ih.at_
  .simp only[Cj,O];omega
  .intro i b' aa hA hB;simp only[Cj,O];rw[Qabc]
   .exact ih.fl i b' aa (by omega) (by omega)
   .intro he;rw[he,aa] at hb;obtain rfl:=A8 hb;rcases ab with h|h
    .rw[h,B1,Q] at hA;simp only[AJ] at hA;omega
    .rw[h,B1,Q] at hB;simp only[AJ] at hB;omega
def growC.ca(a:Bp×Int×Int):List AV:=[.ptr 0 0,.im (.int .i64 a.2.1),.im (.int .i64 a.2.2)]
def growC.H1(a:Bp×Int×Int):Au:=[(1,(true,.arr 2 1 ((FK a.1 a.2.1 a.2.2).1.Flow.map Af)))]
def growC.r0(a:Bp×Int×Int):AV:= .im (.bool (FK a.1 a.2.1 a.2.2).2)
def ZN(a:Bp×Int×Int):Prop:=DL a.1/\Ju a.1/\0<=a.2.1/\a.2.1<a.1.Cnt/\0<=a.2.2/\a.2.2<a.1.Cnt
def growC.row:AO:=AM growC.ca (λa=>Eu a.1) 2 ZN KA growC.r0 growC.H1 0
def lT:=J @stepsC.q<|J @stepsC.fv.eq_1<|J @roomC.q @roomC.fv.eq_1
def growC.ok:AS 210 growC.row:=by
 refine ow (tC stepsC.ok (tC roomC.ok (tC pushC.ok tN))) Tryz.func210 (exB:=λ_=>false) (R:=λa r=>r=growC.r0 a) (λ_=>rfl)
  (λa=>by simp[growC.ca,Eu,GN,growC.H1,KA,AL,AV.bel,AH,Cz,Df,Ah.nms,AE,AV.nms,Av,hget]) (λa p hp=> ?_) (λa r h=>by subst h;exact ED.refl _) ?_
 rotate_left
 intro a a9;simp only[Tryz.f210,Option.getD,growC.ca,Eu,GN,growC.H1,KA];simp only[ZZ,simprocAttr,Ab,lT,Az,growC.ca,Eu,GN,growC.H1,KA];obtain⟨hn,ax,a0,bi,aj,ak⟩:=a9;refine⟨⟨hn,aj,ak⟩,a0,?_⟩;have bn:=hn.c1;have ah:=xK hn aj ak;have hP:=OG hn aj ak a.1.Cnt.toNat;have aa:=(Y8 hn aj ak a.1.Cnt.toNat).rng;have bu:=Qkx hn.c0 (Y8 hn aj ak a.1.Cnt.toNat);refine⟨by omega,λx hx=> ?_⟩
 split<;>rename_i ai
 .have e:FK a.1 a.2.1 a.2.2=(a.1,false):=by simp only[FK];rw[hx];simp only[AJ];rw[Ak ai]
  exact⟨by simp only[growC.r0,e],by rw[e]⟩
 obtain⟨d,rfl⟩: ∃d:Nat,x=d:=⟨x.toNat,by omega⟩;have e:FK a.1 a.2.1 a.2.2=((Cj a.1 (FJ a.1 a.2.2) a.2.1 d).1,true):=by simp only[FK];rw[hx];simp only[AJ];rw[Ad ai,B1]
 simp only[growC.r0,e];have bb:(CV a.1 a.2.2 a.1.Cnt.toNat).1=FJ a.1 a.2.2:=rfl;have O:Gz a.1 a.2.2 (FJ a.1 a.2.2,(CV a.1 a.2.2 a.1.Cnt.toNat).2):=hP;have bo:=aa (d:Int) (Bd hx);clear e hP ai;obtain⟨st,hst⟩: ∃st,st=FJ a.1 a.2.2:=⟨_,rfl⟩;rw[bb] at aa;simp only[<-hst] at ah O hx aa⊢;have aw:=λk hk=>qC hn ax ah O a0 bi hx k hk
 refine Bc.old ⟨{k:Nat//k<=d},λk=>⟨[(8,.im (.int .i64 (Cj a.1 st a.2.1 k.1).2)),(7,.im (.sl false 1 (st.map Af))),(0,.ptr 0 0),(1,.im (.int .i64 a.2.1)),(2,.im (.int .i64 a.2.2))],[(0,(true,.cells 250 (GN a.1))),(1,(true,.arr 2 1 ((Cj a.1 st a.2.1 k.1).1.Flow.map Af)))],2⟩,λk=>d - k.1,λk=>⟨by simp[ZG,GN],AW _⟩,⟨⟨0,by simp⟩,by simp only[ZZ,simprocAttr,Ab,lT,Az,growC.ca,Eu,GN,growC.H1,KA,sub,Cj,GN]⟩,λk=> ?_⟩;obtain⟨k,be⟩:=k;have hI:=aw k be;obtain⟨m,hm,br,ba⟩:=hI.v;simp only[GN,hm];simp only[ZZ,simprocAttr,Ab,lT,Az,growC.ca,Eu,GN,growC.H1,KA,sub,AQ];refine⟨λbt=> ?_,λhe=> ?_⟩
 .have bf:k<d:=by
   rcases Ff k d with h|h
   .exact h
   .have:=O.uniq m (by rw[ba];congr 1;omega)
    omega
  obtain⟨m',r,bg,hr,hg,_,bl⟩:=Qk0 hn ah O bf hI;rw[hm] at bg;have bh:m'=m:=by omega
  subst bh;have Z:Cj a.1 st a.2.1 (k+1)=(IV (Cj a.1 st a.2.1 k).1 m' (HG (Cj a.1 st a.2.1 k).1 st m').2,(HG (Cj a.1 st a.2.1 k).1 st m').1):=by simp only[Cj,hm]
  have a8:HG (Cj a.1 st a.2.1 k).1 st m'=r.foldl (GA (Cj a.1 st a.2.1 k).1 st m') (-1,0):=by simp only[HG,B1,hI.at_,hr,AJ]
  have Q:=hI.ok;have af:=hI.cnt;have av:=hI.bs;have an:=hI.at_;obtain⟨N,hN⟩: ∃N,N=(Cj a.1 st a.2.1 k).1:=⟨_,rfl⟩;simp only[<-hN] at Z a8 Q af av an hg bl⊢;have au:N.At[m']? =some r:=by rw[an];exact hr
  have az:(⟨a.1.Cnt,a.1.Bonds,a.1.At,N.Flow⟩:Bp)=N:=by rw[<-af,<-av,<-an]
  have aq:m'<a.1.At.length:=(B9.1 hr).1;refine Bc.old ⟨{j:Nat//j<=r.length},λj=>⟨[(11,.im (.int .i64 j.1)),(10,.im (.int .i64 ((r.take j.1).foldl (GA N st m') (-1,0)).2)),(9,.im (.int .i64 ((r.take j.1).foldl (GA N st m') (-1,0)).1)),(8,.im (.int .i64 m')),(7,.im (.sl false 1 (st.map Af))),(0,.ptr 0 0),(1,.im (.int .i64 a.2.1)),(2,.im (.int .i64 a.2.2))],[(0,(true,.cells 250 (GN a.1))),(1,(true,.arr 2 1 (N.Flow.map Af)))],2⟩,λj=>r.length - j.1,λj=>⟨by simp[ZG,GN],AW _⟩,⟨⟨0,by simp⟩,by simp only[ZZ,simprocAttr,Ab,lT,Az,growC.ca,Eu,GN,growC.H1,KA,sub,GN,Fh,ZeK]⟩,λj=> ?_⟩;obtain⟨j,bq⟩:=j;obtain⟨acc,hacc⟩: ∃acc,acc=(r.take j).foldl (GA N st m') (-1,0):=⟨_,rfl⟩;simp only[GN,<-hacc];simp only[ZZ,simprocAttr,Ab,lT,Az,growC.ca,Eu,GN,growC.H1,KA,sub,AQ,az];refine⟨aq,λr1 G=> ?_⟩;rw[hr] at G;obtain rfl:=A8 G;intro bv;refine⟨λhj=>⟨aq,λr1 G=> ?_⟩,λhj=> ?_⟩
  .rw[hr] at G;obtain rfl:=A8 G;refine⟨hj,λi ao=> ?_⟩;have ay:=Bd ao;obtain⟨i0,i1,_,_⟩:=kG Q au ay;have bj:=zQ Q au ay;have z:(r.take (j+1)).foldl (GA N st m') (-1,0)=GA N st m' acc i:=by
    rw[K6,ao,List.foldl_append,<-hacc];rfl
   have ab:0<(DF N m' i).1->st[(DF N m' i).2.toNat]?.getD 0=st[(m':Int).toNat]?.getD 0 - 1->(acc.1<0\/(DF N m' i).2<acc.1)->GA N st m' acc i=((DF N m' i).2,i):=by
    intro h1 h2 h3;simp only[GA];rw[Ak ⟨h1,h2,h3⟩]
   have am:IntKind.wrap .i64 ((j:Int)+1)=((j+1:Nat):Int):=by rw[AF (by omega) (by omega)];omega
   refine⟨⟨Q,i0,i1⟩,λh1=>⟨bj.1,by omega,λx' bm=>⟨by omega,λy' bc=> ?_⟩⟩,λh1=>⟨⟨j+1,by omega⟩,by simp only;omega,am,?_,?_⟩⟩
   .have bw:=aa y' (Bd bc);rw[AF (x:=y' - 1) (by omega) (by omega)];have ac:st[(DF N m' i).2.toNat]?.getD 0=x':=by rw[bm];rfl
    have ad:st[(m':Int).toNat]?.getD 0=y':=by rw[B1,bc];rfl
    refine⟨λh2=>⟨λh3=>⟨λh4=>⟨aq,λr1 G=> ?_⟩,λh4=>⟨⟨j+1,by omega⟩,by simp only;omega,am,?_,?_⟩⟩,λh3=>⟨aq,λr1 G=> ?_⟩⟩,λh2=>⟨⟨j+1,by omega⟩,by simp only;omega,am,?_,?_⟩⟩
    .rw[hr] at G;obtain rfl:=A8 G;refine⟨hj,λi' ag=>⟨⟨j+1,by omega⟩,by simp only;omega,am,?_,?_⟩⟩
     .rw[ao] at ag;obtain rfl:=A8 ag;simp only[z];rw[ab h1 (by rw[ac,ad,h2]) (.inr h4)]
     .simp only[z];rw[ab h1 (by rw[ac,ad,h2]) (.inr h4)]
    .simp only[z,GA];rw[Ad (λh=>by rcases h.2.2 with h|h<;>omega)]
    .simp only[z,GA];rw[Ad (λh=>by rcases h.2.2 with h|h<;>omega)]
    .rw[hr] at G;obtain rfl:=A8 G;refine⟨hj,λi' ag=>⟨⟨j+1,by omega⟩,by simp only;omega,am,?_,?_⟩⟩
     .rw[ao] at ag;obtain rfl:=A8 ag;simp only[z];rw[ab h1 (by rw[ac,ad,h2]) (.inl (I3.1 h3))]
     .simp only[z];rw[ab h1 (by rw[ac,ad,h2]) (.inl (I3.1 h3))]
    .simp only[z,GA];rw[Ad (λh=>h2 (by rw[<-ac,<-ad];exact h.2.1))]
    .simp only[z,GA];rw[Ad (λh=>h2 (by rw[<-ac,<-ad];exact h.2.1))]
   .simp only[z,GA];rw[Ad (λh=>h1 h.1)]
   .simp only[z,GA];rw[Ad (λh=>h1 h.1)]
  .have bd:j=r.length:=by omega
   subst bd;rw[EW] at hacc;rw[<-a8] at hacc;subst hacc;have bp:=Q.at_ m' r au _ hg.1;obtain⟨i0,i1,_,_⟩:=kG Q au hg.1;refine AM.os (N,(m':Int),(HG N st m').2) [0,1] ⟨Q,i0,i1⟩ (λj=>tJ _ j) rfl rfl ?_ ?_
   .simp only[ZZ,simprocAttr,Ab,lT,Az,growC.ca,Eu,GN,growC.H1,KA,pushC.ca,Eu,GN,Bt];rw[af,av,an];exact⟨rfl,rfl,rfl⟩
   .simp only[ZZ,simprocAttr,Ab,lT,Az,growC.ca,Eu,GN,growC.H1,KA,pushC.H1,KA,sub];exact⟨⟨k+1,by omega⟩,by simp only;omega,by simp only[Z],by simp only[Z]⟩
 .have:k=d:=by
   have h1:=O.zero;rw[show a.2.2.toNat=m by omega,ba] at h1
   have:=A8 h1
   omega
  rw[this]
 simp[growC.H1] at hp;subst hp;exact .inl ⟨by omega,rfl,rfl⟩
def BF(a b:Nat)(h:a≠b):(a==b)=false:=by simpa using h
def Qnl{α β γ:Type}{f:α->Option β}{g:γ->α}{k:γ->β}: ∀(l:List γ),(∀i∈l,f (g i)=some (k i))->AA f (l.map g)=some (l.map k)
 |[],_=>rfl
 |x::r,h=>by simp only[Bm,AA,h x (Ct ..),Qnl r (λi z=>h i (Cs _ z))]
def ZB{H:Nat->Option Aq}{kx:Nat->Option Nat}{m b n T:Nat}(f:Nat->List Int)(G: ∀i,i<n->kx (b+i)=none)(hH: ∀i,i<n->H (b+i)=some (true,.arr T 1 ((f i).map Af))):
 AA (AA λx=>EO (Bx H kx (m+1) x)) ((List.range n).map λi=>[AV.own (b+i)])=some (((List.range n).map f).map C9):=by
 rw[Xw];refine Qnl _ (λi z=> ?_);have z:=CX.1 z;simp only[AA,Bx,G i z,hH i z,R2,kp,CR,EO,AV.asD,Function.comp,C9]
def Pd(H:Au)(a b:Nat)(h:a≠b):hget (Cg H [a]) b=hget H b:=by
 rw[dB,Ad];simp;omega
def Ph{α:Type}{a b:Nat}{x y:α}(h:a≠b):(if a=b then x else y)=y:=Ad h
def D0: ∀(x:Au),Cg x []=x
 |[]=>rfl
 |(m,e)::r=>by simp[Cg,D0 r]
def pM(L:List Nat)(b n:Nat)(h:L.Nodup)(z: ∀x∈L,x<b):(L++(List.range n).map (b+ ·)).Nodup:=by
 rw[RD];refine⟨h,?_,?_⟩
 .rw[Pw,mF];exact ZeP (λh Q=>h (by omega)) (Pw.1 List.nodup_range)
 .intro x G y O Z;obtain⟨i,_,rfl⟩:=BZ.1 O
  have:=z x G
  omega
def Je(bs:List Ag)(i:Nat):Nat->List Int
 |0=>[]
 |k+1=>Je bs i k++(match bs[k]? with
  |some b=>(if b.A=i then [(k:Int)] else [])++(if b.B=i then [(k:Int)] else [])
  |none=>[])
def Qwx(bs:List Ag)(i:Nat): ∀k,(Je bs i k).length<=2*k
 |0=>AW _
 |k+1=>by
  have:=Qwx bs i k
  simp only[Je,CS];split
  .simp only[CS]
   split<;>split<;>simp<;>omega
  .simp;omega
def D4(n:Int)(bs:List Ag):Bp:=⟨n,bs,(List.range n.toNat).map (λi=>Je bs i bs.length),List.replicate bs.length 0⟩
def newNC.ca(a:Int×List Ag):List AV:=[.im (.int .i64 a.1),.im (.sl false 3 (a.2.map Ag.c))]
def newNC.H1(a:Int×List Ag):Au:=[(0,(true,.cells 250 [.im (.int .i64 a.1),.im (.sl false 3 (a.2.map Ag.c)),.im (.sl false 1 ((D4 a.1 a.2).At.map C9)),.own 2])),(2,(true,.arr 2 1 ((D4 a.1 a.2).Flow.map Af)))]
def dK(a:Int×List Ag):Prop:=0<=a.1/\a.1<=1000/\a.2.length<=1000000/\Mh a.1 a.2/\ ∀b∈a.2,b.A≠b.B
def EX(j:Nat):Bool:=j==0||j==2
def newNC.row:AO:=AM newNC.ca (λ_=>[]) 0 dK (λ_=>false) (λ_=> .ptr 0 0) newNC.H1 3010
def newNC.ok:AS 209 newNC.row:=by
 refine ow tN Tryz.func209 (exB:=EX) (R:=λ_ r=>r= .ptr 0 0) (λ_=>rfl)
  (λa=>by simp[newNC.ca,newNC.H1,EX,AL,AV.bel,AH,Cz,Df,Ah.nms,AE,AV.nms,Av,hget]) (λa p hp=> ?_) (λa r h=>by subst h;exact ED.refl _) ?_
 rotate_left
 intro a ay;simp only[Tryz.f209,Option.getD,newNC.ca,newNC.H1,EX];simp(disch:=omega)only[ZZ,simprocAttr,Ab,Az,newNC.ca,newNC.H1,EX];obtain⟨ax,bb,hl,an,bc⟩:=ay;refine⟨ax,Gy _,by omega,λ_=>⟨by omega,?_⟩⟩;obtain⟨n,hn⟩: ∃n:Nat,a.1=n:=⟨a.1.toNat,by omega⟩;rw[hn] at ax bb an;simp only[hn,B1];refine Bc.ren ⟨{k:Nat//k<=a.2.length},λk=>⟨[(6,.im (.int .i64 k.1)),(5,.ptr 0 0),(1,.im (.sl false 3 (a.2.map Ag.c)))],(0,(true,.cells 250 [.im (.int .i64 n),.im (.sl false 3 (a.2.map Ag.c)),.own 1,.own 2]))::(2,(true,.arr 2 1 ((List.replicate a.2.length (0:Int)).map Af)))::(1,(true,.arrA 37 1 ((List.range n).map λi=>[AV.own (1000+i)])))::B4 1000 n (λi=>(true,.arr 2 1 ((Je a.2 i k.1).map Af))),3000⟩,λk=>a.2.length - k.1,λk=>⟨?_,by simp⟩,⟨⟨0,by simp⟩,JI 1000 n,?_⟩,λk=> ?_⟩
 .simp only[ZG,Er,EL];rw[kJ _ _ _ (λi=>by simp[AH]),cU _ _ _ _ (by omega)];simp[AL,AV.bel];omega
 .refine⟨Ur _ _ _ (by simp),?_,?_,?_⟩
  .rw[kK];simp only[Iz,cY];refine kW _ _ (pM [0,2,1] 1000 n (by simp) (by simp)) ?_;intro x hx y hy m G z;rw[qJ] at G z;split at G
   .cases G
   .split at z
    .cases z
    .exact (A8 G).trans (A8 z).symm
  .simp only[Jw,AC];simp(disch:=omega)only[ZZ,simprocAttr,Ab,Az,newNC.ca,newNC.H1,EX,qJ,Hw];simp[Hw]
  .have p0:pm (JI 1000 n) 0=some 0:=by rw[qJ,Ad (by omega)]
   have p1:pm (JI 1000 n) 1=some 1:=by rw[qJ,Ad (by omega)]
   have p2:pm (JI 1000 n) 2=some 2:=by rw[qJ,Ad (by omega)]
   have pf: ∀i,i<n->pm (JI 1000 n) (1000+i)=none:=by intro i O;rw[qJ,Ak (by omega)]
   simp only[Gf,jY];refine⟨?_,?_,?_,λi O=> ?_⟩
   .simp(disch:=omega)only[ZZ,simprocAttr,Ab,Az,newNC.ca,newNC.H1,EX,p0,p1,p2]
   .simp(disch:=omega)only[ZZ,simprocAttr,Ab,Az,newNC.ca,newNC.H1,EX,p0,p1,p2];simp[Af]
   .simp(disch:=omega)only[ZZ,simprocAttr,Ab,Az,newNC.ca,newNC.H1,EX,p0,p1,p2];rw[YI];refine⟨by simp,λi x y hx hy=> ?_⟩;simp only[DX,DN] at hx hy;obtain⟨i',ah,rfl⟩:=hx;obtain⟨w,hw,rfl⟩:=hy;have bf:=Pt (Bd hw);subst bf
    have:=CX.1 (Bd ah)
    simp(disch:=omega)only[ZZ,simprocAttr,Ab,Az,newNC.ca,newNC.H1,EX,pf i' this]
   .rw[pf i O];simp(disch:=omega)only[ZZ,simprocAttr,Ab,Az,newNC.ca,newNC.H1,EX,Je,BY]
 obtain⟨k,bj⟩:=k;simp(disch:=omega)only[ZZ,simprocAttr,Ab,Az,newNC.ca,newNC.H1,EX,sub,AQ,Tf,P9,D0];intro _;refine⟨λhk=>⟨hk,λb hb=>⟨hk,λb' Z=> ?_⟩⟩,λhk=> ?_⟩
 .rw[hb] at Z;obtain rfl:=A8 Z;obtain⟨b1,b2,b3,b4⟩:=an b (Bd hb);have bi:=bc b (Bd hb);refine⟨b1,by rw[YZ];exact b2,by rw[YZ];omega,λx hx=> ?_⟩;obtain⟨az,bg⟩:=B9.1 hx;rw[YZ] at az;rw[ZeG] at bg;have bq:x<n:=by omega
  refine⟨by omega,?_,?_⟩
  .simp;omega
  have am:(1000+x<3000\/3000<=1000+x)=True:=Mr (by omega);have bn:(1000+x==0)=false:=BF _ _ (by omega);have bo:(1000+x==1)=false:=BF _ _ (by omega);have bp:(1000+x==2)=false:=BF _ _ (by omega);have bl:=Qwx a.2 x k;simp(disch:=omega)only[ZZ,simprocAttr,Ab,Az,newNC.ca,newNC.H1,EX,sub,AQ,Ph,Kx,D0,am,BF];refine⟨by omega,by omega,?_⟩;refine⟨b1,by rw[YZ];exact b2,by rw[YZ];exact az,λ_ _=> ?_⟩;have Q: ∀N,3001<N->((List.map (λi=>[AV.own (1000+i)]) (List.range n)).set b.A.toNat [AV.own 3001]).all (AL N)=true:=by
   intro N hN;rw[HN];intro r hr;rcases Zc hr with hr|hr
   .obtain⟨i,O,rfl⟩:=BZ.1 hr
    have:=CX.1 O
    simp[AL,AV.bel];omega
   .subst hr;simp[AL,AV.bel];omega
  refine⟨Q _ (by omega),⟨by simp,by simp,by simp⟩,hk,λb' Z=>⟨hk,λb'' ag=> ?_⟩⟩;rw[hb] at Z ag;obtain rfl:=A8 Z;obtain rfl:=A8 ag;obtain⟨y,hy⟩: ∃y:Nat,b.B=y:=⟨b.B.toNat,by omega⟩;have br:y≠x:=by omega
  have bh:y<n:=by omega
  have a8:b.B.toNat=y:=by omega
  refine⟨b3,by simp;omega,by simp;omega,λrow aa=> ?_⟩;have ak:row=[AV.own (1000+y)]:=by
   rw[a8,Ep (by omega),DX,Lm bh] at aa;exact (A8 aa).symm
  subst ak;have a0:(1000+y<3002\/3002<=1000+y)=True:=Mr (by omega);have bm:=Qwx a.2 y k;simp(disch:=omega)only[ZZ,simprocAttr,Ab,Az,newNC.ca,newNC.H1,EX,sub,AQ,Ph,Kx,D0,am,a0,BF,Pd];refine⟨by omega,by omega,by omega,b3,by simp;omega,by simp;omega,λrow ab=> ?_⟩;rw[aa] at ab;obtain rfl:=A8 ab;simp only[ZZ,simprocAttr,Ab,Az,newNC.ca,newNC.H1,EX,sub,AQ,Ph,Kx,D0,am,a0,BF,Pd];refine⟨?_,⟨by simp,by simp,by simp⟩,⟨k+1,by omega⟩,[(1000+x,some 3001),(1000+y,some 3003)],by simp only;omega,?_⟩
  .rw[HN];intro r hr;rcases Zc hr with hr|hr
   .exact HN.1 (Q 3004 (by omega)) r hr
   .subst hr;simp[AL,AV.bel]
  obtain⟨g,hg⟩: ∃g,g=pm [(1000+x,some 3001),(1000+y,some 3003)]:=⟨_,rfl⟩;have qx:g (1000+x)=some 3001:=by rw[hg];simp[pm]
  have qy:g (1000+y)=some 3003:=by rw[hg];simp only[pm];rw[Ad (by omega)];simp
  have qo: ∀u,u≠1000+x->u≠1000+y->g u=some u:=by intro u G z;rw[hg];simp only[pm];rw[Ad (by omega),Ad (by omega)]
  have a9: ∀i,i<n->Je a.2 i (k+1)=if i=x\/i=y then Je a.2 i k++[(k:Int)] else Je a.2 i k:=by
   intro i O;simp only[Je,hb];by_cases G:i=x
   .subst G;rw[Ak (by omega),Ad (by omega),Ak (.inl rfl),CQ]
   .by_cases z:i=y
    .subst z;rw[Ad (by omega),Ak (by omega),Ak (.inr rfl),Fs]
    .rw[Ad (by omega),Ad (by omega),Ad (by omega)];simp
  refine⟨⟨by omega,by omega,trivial⟩,?_,?_,?_⟩
  .rw[kK,<-hg];simp only[Iz,cY];refine kW _ _ (pM [0,2,1] 1000 n (by simp) (by simp)) ?_;have au: ∀u∈[0,2,1]++(List.range n).map (1000+ ·),u<2000:=by
    intro u hu;rcases B5.1 hu with hu|hu
    .simp at hu;omega
    .obtain⟨i,O,rfl⟩:=BZ.1 hu
     have:=CX.1 O
     show 1000+i<2000;omega
   have hc: ∀u,u<2000->(u=1000+x/\g u=some 3001)\/(u=1000+y/\g u=some 3003)\/g u=some u:=by
    intro u _;by_cases G:u=1000+x
    .exact .inl ⟨G,G▸qx⟩
    .by_cases z:u=1000+y
     .exact .inr (.inl ⟨z,z▸qy⟩)
     .exact .inr (.inr (qo u G z))
   intro u hu v hv m av aw;have bd:=au u hu;have be:=au v hv;rcases hc u bd with ⟨e1,e2⟩|⟨e1,e2⟩|e2<;>rcases hc v be with ⟨f1,f2⟩|⟨f1,f2⟩|f2<;>rw[e2] at av<;>rw[f2] at aw<;>simp only[AP] at av aw<;>omega
  .have q0:pm [(1000+x,some 3001),(1000+y,some 3003)] 0=some 0:=by rw[<-hg];exact qo 0 (by omega) (by omega)
   simp only[Jw,AC];simp only[ZZ,simprocAttr,Ab,Az,newNC.ca,newNC.H1,EX,q0];rw[AF (by omega) (by omega)];simp
  .have q0:pm [(1000+x,some 3001),(1000+y,some 3003)] 0=some 0:=by rw[<-hg];exact qo 0 (by omega) (by omega)
   have q1:pm [(1000+x,some 3001),(1000+y,some 3003)] 1=some 1:=by rw[<-hg];exact qo 1 (by omega) (by omega)
   have q2:pm [(1000+x,some 3001),(1000+y,some 3003)] 2=some 2:=by rw[<-hg];exact qo 2 (by omega) (by omega)
   have ad:=qx;have af:=qy;have ac:=qo;rw[hg] at ad af ac;simp only[Gf,jY];refine⟨?_,?_,?_,λi O=> ?_⟩
   .simp only[ZZ,simprocAttr,Ab,Az,newNC.ca,newNC.H1,EX,q0,q1,q2]
   .simp only[ZZ,simprocAttr,Ab,Az,newNC.ca,newNC.H1,EX,q0,q1,q2]
   .simp only[ZZ,simprocAttr,Ab,Az,newNC.ca,newNC.H1,EX,q0,q1,q2];rw[YI];refine⟨by simp,λi r1 r2 G z=> ?_⟩;simp only[DX,DN] at G;obtain⟨i',ah,rfl⟩:=G;obtain⟨aq,ao⟩:=B9.1 ah;rw[YZ] at aq;rw[ZeG] at ao;subst ao;rw[a8,show b.A.toNat=x by omega] at z;by_cases aj:i=y
    .subst aj;rw[EE (by simp;omega)] at z;obtain rfl:=A8 z;simp only[DB,mt,af,ET,EN]
    .rw[Ep (by omega)] at z;by_cases ai:i=x
     .subst ai;rw[EE (by simp;omega)] at z;obtain rfl:=A8 z;simp only[DB,mt,ad,ET,EN]
     .rw[Ep (by omega),DX,Lm aq] at z;obtain rfl:=A8 z;simp only[DB,mt,ac (1000+i) (by omega) (by omega),ET,EN]
   .show Du _ _ true (.arr 2 1 ((Je a.2 i (k+1)).map Af)) _;rw[a9 i O];by_cases aj:i=y
    .subst aj;rw[af,Ak (.inr rfl)];simp only[ZZ,simprocAttr,Ab,Az,newNC.ca,newNC.H1,EX];simp[Af]
    .by_cases ai:i=x
     .subst ai;rw[ad,Ak (.inl rfl)];simp only[ZZ,simprocAttr,Ab,Az,newNC.ca,newNC.H1,EX];simp[Af]
     .rw[ac (1000+i) (by omega) (by omega),Ad (by omega)];have e: ∀(H:Au),hget H (1000+i)=some (true,.arr 2 1 ((Je a.2 i k).map Af))->Lz [(1000+x,some 3001),(1000+y,some 3003)] true (.arr 2 1 ((Je a.2 i k).map Af)) (hget H (1000+i)):=by
       intro H hH;rw[hH];exact⟨rfl,by simp only[Ft]⟩
      refine e _ ?_;simp only[hget,BF _ _ (show 1≠1000+i by omega),BF _ _ (show 3003≠1000+i by omega),BF _ _ (show 3002≠1000+i by omega),BF _ _ (show 3001≠1000+i by omega),BF _ _ (show 3000≠1000+i by omega),BF _ _ (show 0≠1000+i by omega),BF _ _ (show 2≠1000+i by omega),Co];rw[Pd _ _ _ (by omega),Pd _ _ _ (by omega),Pd _ _ _ (by omega),Pd _ _ _ (by omega),Kx _ _ _ _ O]
 .have ba:k=a.2.length:=by omega
  subst ba;rw[ZB (T:=2) (λi=>Je a.2 i a.2.length)]
  .simp[D4]
  .intro i O;have e:EX (1000+i)=false:=by simp only[EX,BF _ _ (show 1000+i≠0 by omega),BF _ _ (show 1000+i≠2 by omega),SL]
   simp[Qc,Av,hget,e]
  .intro i O;simp only[hget,BF _ _ (show 1≠1000+i by omega),BF _ _ (show 0≠1000+i by omega),BF _ _ (show 2≠1000+i by omega),Co];exact Kx _ _ _ _ O
 simp[newNC.H1] at hp;rcases hp with rfl|rfl
 .exact .inr ⟨by omega,by simp,rfl,rfl⟩
 .exact .inr ⟨by omega,by simp,rfl,rfl⟩
def K7(p:Int)(b:Ag)(f:Int):Int:=if b.A=p then f else if b.B=p then -f else 0
def DC(n:Bp)(p:Int):Int:=(List.zipWith (K7 p) n.Bonds n.Flow).sum
def O4(p:Int): ∀(bs:List Ag) (O:List Int) (j:Nat) (b:Ag) (f f':Int),bs[j]? =some b->O[j]? =some f->(List.zipWith (K7 p) bs (O.set j f')).sum=(List.zipWith (K7 p) bs O).sum - K7 p b f+K7 p b f'
 |[],_,_,_,_,_,h,_=>by simp at h
 |_::_,[],_,_,_,_,_,h=>by simp at h
 |x::r,y::s,0,b,f,f',z,G=>by
  simp only[Gw,AP] at z G;subst z;subst G;simp only[sC,mA,SM];omega
 |x::r,y::s,j+1,b,f,f',z,G=>by
  have:=O4 p r s j b f f' (by simpa using z) (by simpa using G)
  simp only[sB,mA,SM,this];omega
def Qzc{n:Bp}(hn:DL n){v:Nat}{r:List Int}(hr:n.At[v]? =some r){i:Int}(O:i∈r)(p:Int):DC (IV n v i) p=DC n p+(if (v:Int)=p then 1 else if (DF n v i).2=p then -1 else 0):=by
 obtain⟨h0,b,z,hv⟩:=hn.at_ v r hr i O;have Z:=hn.ne b (Bd z);have Q:=(B9.1 z).1;obtain⟨f,hf⟩: ∃f,n.Flow[i.toNat]? =some f:=⟨_,Bk (by rw[hn.fl];exact Q)⟩;simp only[DC,IV,z,DF];rw[O4 p _ _ _ b f _ z hf,hf];simp only[AJ,K7];rcases hv with h|h
 .simp only[Ak h]
  repeat' split
  all_goals omega
 .have G: ¬b.A=v:=by omega
  simp only[Ad G]
  repeat' split
  all_goals omega
def Ma(p:Int): ∀(bs:List Ag) (O:List Int),(∀(i:Nat) b f,bs[i]? =some b->O[i]? =some f-> -b.Strength<=f/\f<=b.Strength)->(∀b∈bs,0<=b.Strength)->(List.zipWith (K7 p) bs O).sum<=(bs.map Ag.Strength).sum
 |[],_,_,_=>by simp
 |x::r,[],_,z=>by
  have Q:=Ma p r [] (λi b f _ h=>by simp at h) (λb G=>z b (Cs _ G));have h2:=z x (Ct ..);simp only[Zec,Zfh,Bm,SM] at Q⊢;omega
 |x::r,y::s,Z,z=>by
  have Q:=Ma p r s (λi b f h h'=>Z (i+1) b f (by simpa using h) (by simpa using h')) (λb G=>z b (Cs _ G));have h2:=z x (Ct ..);have h3:=Z 0 x y rfl rfl;simp only[mA,Bm,SM,K7];split
  .omega
  .split<;>omega
def V9{n:Bp}(hn:DL n)(G:Ju n)(p:Int):DC n p<=(n.Bonds.map Ag.Strength).sum:=Ma p _ _ G (λb z=>(hn.st b z).1)
def WN{n:Bp}(hn:DL n)(hc:Ju n){q:Int}{st qu:List Int}(z:st.length=n.Cnt.toNat)(hP:Gz n q (st,qu)){p:Int}(aa:0<=p)(ab:p<n.Cnt){d:Nat}(hd:st[p.toNat]? =some (d:Int)): ∀k,k<d->DC (Cj n st p (k+1)).1 p=DC n p+1:=by
 have step: ∀k,k<d->DC (Cj n st p (k+1)).1 p=DC (Cj n st p k).1 p+(if k=0 then 1 else 0):=by
  intro k Q;have Z:=qC hn hc z hP aa ab hd k (by omega);obtain⟨m,r,hm,hr,hg,G,af⟩:=Qk0 hn z hP Q Z;have ac:(Cj n st p k).1.At[m]? =some r:=by rw[Z.at_];exact hr
  have e:(Cj n st p (k+1)).1=IV (Cj n st p k).1 m (HG (Cj n st p k).1 st m).2:=by simp only[Cj,hm]
  rw[e,Qzc Z.ok ac hg.1,hg.2.2.1];have O:=hg.2.2.2.1;rw[B1,G,AJ] at O;have ad:(HG (Cj n st p k).1 st m).1≠p:=by
   intro he;rw[he,hd,AJ] at O;omega
  by_cases h0:k=0
  .subst h0
   have:(m:Int)=p:=by rw[<-hm];rfl
   rw[Ak this,Ak rfl]
  .have:(m:Int)≠p:=by
    intro he
    have:m=p.toNat:=by omega
    rw[this,hd] at G
    have:=A8 G
    omega
   rw[Ad this,Ad ad,Ad h0]
 intro k Q;induction k with
 |zero=>rw[step 0 Q];simp[Cj]
 |succ k ih=>rw[step (k+1) Q,Ad (by omega),ih (by omega)];omega
def Qr2(bs:List Ag)(i:Nat)(z:Int): ∀k,z∈Je bs i k↔ ∃(j:Nat) (b:Ag),j<k/\z=j/\bs[j]? =some b/\(b.A=i\/b.B=i)
 |0=>by simp[Je]
 |k+1=>by
  have ih:=Qr2 bs i z k;simp only[Je,B5,ih];constructor
  .rintro (⟨j,b,Z,O,Q,G⟩|h)
   .exact⟨j,b,by omega,O,Q,G⟩
   .cases hb:bs[k]? with
    |none=>rw[hb] at h;simp at h
    |some b=>
     rw[hb] at h;simp only[B5] at h;refine⟨k,b,by omega,?_,hb,?_⟩
     .rcases h with h|h<;>split at h<;>simp at h<;>exact h
     .rcases h with h|h
      .split at h
       .exact .inl (by assumption)
       .simp at h
      .split at h
       .exact .inr (by assumption)
       .simp at h
  .rintro⟨j,b,Z,O,Q,G⟩;by_cases hj:j=k
   .subst hj;refine .inr ?_;rw[Q];simp only[B5];rcases G with G|G
    .exact .inl (by rw[Ak G,O];exact BN.2 rfl)
    .exact .inr (by rw[Ak G,O];exact BN.2 rfl)
   .exact .inl ⟨j,b,by omega,O,Q,G⟩
def R3(bs:List Ag):Prop:= ∀b∈bs,0<=b.Strength/\b.Strength<=1000000
def Qxo{n:Int}{bs:List Ag}(v:Nat)(z:v<n.toNat):(D4 n bs).At[v]? =some (Je bs v bs.length):=by
 simp only[D4,DX,Lm z,CR]
def N1{n:Int}{bs:List Ag}(h:dK (n,bs))(hs:R3 bs):DL (D4 n bs)/\Ju (D4 n bs):=by
 obtain⟨h0,h1,h2,G,Z⟩:=h;simp only at h0 h1 h2 G Z;have hz: ∀(i:Nat) f,(D4 n bs).Flow[i]? =some f->f=0:=by
  intro i f hf;exact Pt (Bd hf)
 refine⟨⟨h0,by show n<=1000000;omega,by simp[D4],by simp[D4];omega,G,?_,?_,hs,?_,Z⟩,?_⟩
 .intro v r Q i O;have hv:v<n.toNat:=by
   have:=(B9.1 Q).1
   simpa[D4] using this
  rw[Qxo v hv] at Q;obtain rfl:=A8 Q;obtain⟨j,b,g1,g2,g3,g4⟩:=(Qr2 bs v i bs.length).1 O;exact⟨by omega,b,by rw[g2,B1];exact g3,g4⟩
 .intro x hx;obtain⟨i,O⟩:=EK.1 hx
  have:=hz i x O
  omega
 .intro i b z;have hl:=(B9.1 z).1;have aa:=G b (Bd z);refine⟨⟨_,Qxo _ (by omega),(Qr2 bs _ _ _).2 ⟨i,b,hl,rfl,z,.inl (by omega)⟩⟩,⟨_,Qxo _ (by omega),(Qr2 bs _ _ _).2 ⟨i,b,hl,rfl,z,.inr (by omega)⟩⟩⟩
 .intro i b f z hf
  have:=hz i f hf
  have:=hs b (Bd z)
  omega
def Qtg{n:Int}{bs:List Ag}(p:Int):DC (D4 n bs) p=0:=by
 simp only[DC,D4]
 have: ∀(l:List Ag) (m:Nat),(List.zipWith (K7 p) l (List.replicate m 0)).sum=0:=by
  intro l;induction l with
  |nil=>intro m;simp
  |cons x r ih=>
   intro m;cases m with
   |zero=>simp
   |succ m=>
    simp only[Zew,mA,SM,ih m,K7];split
    .rfl
    .split<;>rfl
 exact this _ _
def Hv(p q:Int):Nat->Bp->Bp×Int
 |0,n=>(n,0)
 |m+1,n=>if (FK n p q).2=true then ((Hv p q m (FK n p q).1).1,(Hv p q m (FK n p q).1).2+1) else (n,0)
def E7(n:Int)(bs:List Ag)(p q:Int):Bp×Int:=Hv p q ((bs.map Ag.Strength).sum.toNat+1) (D4 n bs)
def MQ{n:Bp}(hn:DL n)(hc:Ju n){p q:Int}(O:0<=p)(Q:p<n.Cnt)(Z:0<=q)(aa:q<n.Cnt)(ab:p≠q)(hg:(FK n p q).2=true):
 DL (FK n p q).1/\Ju (FK n p q).1/\(FK n p q).1.Cnt=n.Cnt/\(FK n p q).1.Bonds=n.Bonds/\(FK n p q).1.At=n.At/\DC (FK n p q).1 p=DC n p+1:=by
 have z:=xK hn Z aa;have hP:Gz n q (FJ n q,(CV n q n.Cnt.toNat).2):=OG hn Z aa n.Cnt.toNat;obtain⟨x,hx⟩: ∃x,(FJ n q)[p.toNat]? =some x:=⟨_,Bk (by omega)⟩;simp only[FK,hx,AJ] at hg⊢;by_cases h:x<0
 .rw[Ak h] at hg;simp at hg
 .obtain⟨d,rfl⟩: ∃d:Nat,x=d:=⟨x.toNat,by omega⟩;rw[Ad h,B1];have hd:0<d:=by
   rcases sD d with h0|h0
   .subst h0
    have:=hP.uniq p.toNat hx
    omega
   .exact h0
  have G:=qC hn hc z hP O Q hx d (AW _);have ho:=WN hn hc z hP O Q hx (d - 1) (by omega);rw[show d - 1+1=d by omega] at ho;exact⟨G.ok,G.cap,G.cnt,G.bs,G.at_,ho⟩
abbrev sU:=Int×List Ag×Int×Int
def flC.net(a:sU):Bp:=(E7 a.1 a.2.1 a.2.2.1 a.2.2.2).1
def flC.ca(a:sU):List AV:=[.im (.int .i64 a.1),.im (.sl false 3 (a.2.1.map Ag.c)),.im (.int .i64 a.2.2.1),.im (.int .i64 a.2.2.2)]
def flC.H1(a:sU):Au:=[(0,(true,.cells 250 [.im (.int .i64 a.1),.im (.sl false 3 (a.2.1.map Ag.c)),.im (.sl false 1 ((D4 a.1 a.2.1).At.map C9)),.own 2])),(2,(true,.arr 2 1 ((flC.net a).Flow.map Af)))]
def flC.r0(a:sU):AV:= .tup [.ptr 0 0,.im (.int .i64 (E7 a.1 a.2.1 a.2.2.1 a.2.2.2).2)]
def flC.pre(a:sU):Prop:=dK (a.1,a.2.1)/\R3 a.2.1/\0<=a.2.2.1/\a.2.2.1<a.1/\0<=a.2.2.2/\a.2.2.2<a.1/\a.2.2.1≠a.2.2.2
def flC.row:AO:=AM flC.ca (λ_=>[]) 0 flC.pre (λ_=>false) flC.r0 flC.H1 3010
def flC.ok:AS 180 flC.row:=by
 refine ow (tC newNC.ok (tC growC.ok tN)) Tryz.func180 (exB:=EX) (R:=λa r=>r=flC.r0 a) (λ_=>rfl)
  (λa=>by simp[flC.ca,flC.H1,EX,AL,AV.bel,AH,Cz,Df,Ah.nms,AE,AV.nms,Av,hget]) (λa p hp=> ?_) (λa r h=>by subst h;exact ED.refl _) ?_
 rotate_left
 intro a ab;simp only[Tryz.f180,Option.getD,flC.ca,flC.H1,EX];simp only[ZZ,simprocAttr,Ab,Az,flC.ca,flC.H1,EX];obtain⟨G,ad,aa,ak,ac,am,ag⟩:=ab;obtain⟨Z,z⟩:=N1 G ad;have ah:=Qtg (n:=a.1) (bs:=a.2.1) a.2.2.1;refine AM.os (a.1,a.2.1) [] G (λj=>by simp[Av,hget]) rfl rfl ?_ ?_
 .simp only[ZZ,simprocAttr,Ab,Az,flC.ca,flC.H1,EX,newNC.ca,Bt]
 .simp only[ZZ,simprocAttr,Ab,Az,flC.ca,flC.H1,EX,newNC.H1,sub];obtain⟨F,hF⟩: ∃F,F=(a.2.1.map Ag.Strength).sum.toNat+1:=⟨_,rfl⟩;refine Bc.old ⟨{k:Nat×Bp//DL k.2/\Ju k.2/\k.2.Cnt=a.1/\k.2.Bonds=a.2.1/\k.2.At=(D4 a.1 a.2.1).At/\DC k.2 a.2.2.1=k.1/\k.1<=F/\E7 a.1 a.2.1 a.2.2.1 a.2.2.2=((Hv a.2.2.1 a.2.2.2 (F - k.1) k.2).1,(Hv a.2.2.1 a.2.2.2 (F - k.1) k.2).2+k.1)},λk=>⟨[(11,.im (.int .i64 k.1.1)),(10,.ptr 0 0),(2,.im (.int .i64 a.2.2.1)),(3,.im (.int .i64 a.2.2.2))],[(0,(true,.cells 250 [.im (.int .i64 a.1),.im (.sl false 3 (a.2.1.map Ag.c)),.im (.sl false 1 ((D4 a.1 a.2.1).At.map C9)),.own 2])),(2,(true,.arr 2 1 (k.1.2.Flow.map Af)))],3010⟩,λk=>F - k.1.1,λk=>⟨by simp[ZG],AW _⟩,⟨⟨(0,D4 a.1 a.2.1),Z,z,rfl,rfl,rfl,ah,Cx _,by simp[E7,hF]⟩,by simp only[ZZ,simprocAttr,Ab,Az,flC.ca,flC.H1,EX,sub]⟩,λk=> ?_⟩;obtain⟨⟨k,N⟩,i1,i2,i3,i4,i5,i6,i7,O⟩:=k;simp only at i1 i2 i3 i4 i5 i6 i7 O;have af:=V9 i1 i2 a.2.2.1;rw[i4,i6] at af;have aj:k<F:=by omega
  have ai:F<=1000000000001:=by
   have h2: ∀(l:List Ag),(∀b∈l,b.Strength<=1000000)->(l.map Ag.Strength).sum<=1000000*(l.length:Int):=by
    intro l;induction l with
    |nil=>intro _;simp
    |cons x r ih=>
     intro h;have h3:=ih (λb hb=>h b (Cs _ hb));have h4:=h x (Ct ..);simp only[Bm,SM,Dp];omega
   have h3:=h2 a.2.1 (λb hb=>(ad b hb).2);have h4:=G.2.2.1;simp only at h4;omega
  obtain⟨m,hm⟩: ∃m,F - k=m+1:=⟨F - k - 1,by omega⟩;rw[hm,Hv] at O;simp only[ZZ,simprocAttr,Ab,Az,flC.ca,flC.H1,EX,sub,AQ];refine AM.os (N,a.2.2.1,a.2.2.2) [0,2] ⟨i1,i2,aa,by simp only;omega,ac,by simp only;omega⟩ (λj=>tJ _ j) rfl rfl ?_ ?_
  .simp only[ZZ,simprocAttr,Ab,Az,flC.ca,flC.H1,EX,growC.ca,Eu,GN,Bt];rw[i3,i4,i5];exact⟨rfl,rfl,rfl⟩
  .simp only[ZZ,simprocAttr,Ab,Az,flC.ca,flC.H1,EX,growC.H1,growC.r0,KA,sub,AQ];refine⟨λQ=> ?_,λQ=> ?_⟩
   .rw[Ak Q] at O;obtain⟨g1,g2,g3,g4,g5,g6⟩:=MQ i1 i2 aa (by omega) ac (by omega) ag Q;refine⟨⟨(k+1,(FK N a.2.2.1 a.2.2.2).1),g1,g2,g3.trans i3,g4.trans i4,g5.trans i5,by simp only;omega,by simp only;omega,?_⟩,by simp only;omega,?_,rfl⟩
    .simp only;rw[show F - (k+1)=m by omega,O];simp only[EM,I7];omega
    .rw[AF (by omega) (by omega)];simp only;omega
   .rw[Ad Q] at O;have e:(FK N a.2.2.1 a.2.2.2).1=N:=by
     revert Q;simp only[FK];split
     .intro _;rfl
     .intro h;simp at h
    refine⟨?_,?_⟩
    .simp only[flC.r0,O];simp
    .rw[e];simp only[flC.net,O]
 simp[flC.H1] at hp;rcases hp with rfl|rfl
 .exact .inr ⟨by omega,by simp,rfl,rfl⟩
 .exact .inr ⟨by omega,by simp,rfl,rfl⟩
def Ro:D->Option Int
 | .int .u64 n=>some n
 |_=>none
def Qs3: ∀d x,Ro d=some x->Le d (.int .u64 x):=by
 intro d x h;unfold Ro at h;split at h
 .simp only[AP] at h;subst h;exact Le.refl _
 .cases h
def Qw1{a:Int}(h0:0<=a)(G:a<4294967296):Hd .u64 a 4294967295=a:=by
 simp only[Hd];obtain⟨n,rfl⟩: ∃n:Nat,a=n:=⟨a.toNat,by omega⟩;have hn:n<4294967296:=by omega
 have:(BitVec.ofInt IntKind.u64.bits (n:Int) &&& BitVec.ofInt IntKind.u64.bits 4294967295).toNat=n:=by
  have e:IntKind.u64.bits=64:=rfl;rw[e];simp only[BitVec.toNat_and,BitVec.toNat_ofInt];rw[show ((n:Int) % ((2^64:Nat):Int)).toNat=n by omega,show ((4294967295:Int) % ((2^64:Nat):Int)).toNat=2^32 - 1 by decide];rw[Nat.and_two_pow_sub_one_eq_mod];omega
 rw[this];unfold IntKind.wrap;have e:IntKind.u64.bits=64:=rfl;have z:IntKind.u64.signed=false:=rfl;simp only[e,z,Gx,Dx,CY];omega
def Kr{a:Int}(h0:0<=a)(G:a<18446744073709551616):IntKind.u64.wrap a=a:=by
 unfold IntKind.wrap;have e:IntKind.u64.bits=64:=rfl;have z:IntKind.u64.signed=false:=rfl;simp only[e,z,Gx,Dx,CY];omega
def M8{a:Int}(h0:0<=a)(z:a<4294967296):a.fdiv (2^min 32 IntKind.u64.bits)=0:=by
 have e:IntKind.u64.bits=64:=rfl;rw[e,show (2:Int)^min 32 64=4294967296 by decide,Zez _ (by decide)];omega
def mul64.fv(a:Int×Int):Int×Int:=(λ_ y=>(0,y)) (a.1) (a.2)
def mul64.row:AO:=vK (b2 qU qU) (r2 (RK.mk (Ro) (D.int .u64) (Qs3)) (RK.mk (Ro) (D.int .u64) (Qs3))) (λa=>a.1=1/\0<=a.2/\a.2<=1000000) mul64.fv
def mul64.q:=B2 (R:=mul64.row) rfl
def mul64.ok:AS 267 mul64.row:=by
 refine vw tN Tryz.func267 ?_;intro a z;simp only[Tryz.f267,Option.getD];simp only[ZZ,simprocAttr,Ab,mul64.fv];obtain⟨O,G,Q⟩:=z;rw[O,Qw1 (by omega) (by omega),Qw1 (by omega) (by omega),M8 (by omega) (by omega),M8 G (by omega),Int.zero_mul,Int.one_mul,Int.zero_mul,Int.mul_zero];simp only[Kr G (show a.2<18446744073709551616 by omega),M8 G (show a.2<4294967296 by omega),Kr (Gy 0) (by decide),Zfu,M8 (Gy 0) (by decide),Qw1 (Gy 0) (by decide)];rfl
def mul_.fv(a:Int×Int):Int×Int:=(λ_ y=>(0,y)) (a.1) (a.2)
def mul_.row:AO:=vK (b2 qU qU) (r2 (RK.mk (Ro) (D.int .u64) (Qs3)) (RK.mk (Ro) (D.int .u64) (Qs3))) (λa=>a.1=1/\0<=a.2/\a.2<=1000000) mul_.fv
def mul_.q:=B2 (R:=mul_.row) rfl
def mul_.ok:AS 265 mul_.row:=by
 refine vw (tC mul64.ok tN) Tryz.func265 ?_;intro a z;simp only[Tryz.f265,Option.getD];simp only[ZZ,simprocAttr,Ab,mul_.fv,mul64.q,mul64.fv];exact⟨z,rfl⟩
def Ew(x:Int)(m n:Nat):List (List D):=List.replicate m [.int .i64 x]++List.replicate (n - m) [.int .i64 0]
def VS(x:Int){m n:Nat}(h:m<=n):(Ew x m n).length=n:=by simp[Ew];omega
def VT(x:Int)(n:Nat):Ew x (min 1 n) n=List.take (min 1 n) [[.int .i64 x]]++List.drop (min 1 n) (List.replicate n [.int .i64 0]):=by
 cases n with
 |zero=>rfl
 |succ n=>
  rw[show min 1 (n+1)=1 by omega];simp[Ew]
def O5(x:Int)(k m n:Nat):B7 B8 (List.take k (Ew x m n)):=by
 intro r z
 have:=Zdv z
 rcases B5.1 this with h|h<;>rw[Pt h]<;>rfl
def Q4(x:Int){m n:Nat}(h:m<n):List.take m (Ew x m n)++List.take (min m (n - m)) (List.take m (Ew x m n))++List.drop (m+min m (n - m)) (Ew x m n)=Ew x (m+min m (n - m)) n:=by
 have e:List.take m (Ew x m n)=List.replicate m [.int .i64 x]:=by simp[Ew]
 rw[e];have z:List.drop (m+min m (n - m)) (Ew x m n)=List.replicate (n - (m+min m (n - m))) [.int .i64 0]:=by
  simp only[Ew];rw[Xp,Ei (by simp),Fs,Mn,List.drop_replicate];congr 1;omega
 rw[z,Ew,<-List.replicate_append_replicate];congr 2;rw[List.take_replicate];congr 1;omega
def rept.ca(a:Int×Int):List AV:=[.own 0,.im (.int .i64 a.2)]
def rept.H0(a:Int×Int):Au:=[(0,(true,.arr 3 1 [[.int .i64 a.1]]))]
def rept.H1(a:Int×Int):Au:=[(1,(true,.arr 3 1 (List.replicate a.2.toNat [.int .i64 a.1])))]
def rept.pre(a:Int×Int):Prop:=0<=a.2/\a.2<=1000000
def rept.row:AO:=AM rept.ca rept.H0 1 rept.pre (λ_=>false) (λ_=> .own 1) rept.H1 20
def YX:=J @mul_.q @mul_.fv.eq_1
def rept.ok:AS 260 rept.row:=by
 refine VA (tC mul_.ok tN) Tryz.func260 (exB:=λj=>j==1) (R:=λa r=>r= .own 1) (λ_=>rfl)
  (λa=>by simp[rept.ca,rept.H0,rept.H1,AL,AV.bel,AH,Cz,Df,Ah.nms,AE,AV.nms,Av,hget]) (λa p hp=> ?_) (λa r h=>by subst h;exact ED.refl _) ?_
 rotate_left
 intro a G;simp only[Tryz.f260,Option.getD,rept.ca,rept.H0,rept.H1];simp only[ZZ,simprocAttr,Ab,YX,AR,Az,rept.ca,rept.H0,rept.H1];obtain⟨h0,Z⟩:=G;rw[Ad (by omega)];simp only[ZZ,simprocAttr,Ab,YX,AR,Az,rept.ca,rept.H0,rept.H1,Kr (show (0:Int)<=1 by decide) (show (1:Int)<18446744073709551616 by decide),Kr h0 (show a.2<18446744073709551616 by omega)];refine⟨⟨h0,Z⟩,?_⟩;rw[Ad (by omega)];simp only[ZZ,simprocAttr,Ab,YX,AR,Az,rept.ca,rept.H0,rept.H1,AF (show -9223372036854775808<=a.2 by omega) (show a.2<=9223372036854775807 by omega)];refine⟨h0,Gy _,by omega,?_⟩;obtain⟨n,hn⟩: ∃n:Nat,a.2=n:=⟨a.2.toNat,by omega⟩;obtain⟨x,hx⟩: ∃x,x=a.1:=⟨_,rfl⟩;simp only[hn,B1,Mn,<-hx];rw[hn] at h0 Z;refine Bc.old ⟨{m:Nat//m<=n/\(m=0->n=0)},λm=>⟨[(8,.im (.int .i64 m.1)),(7,.own 1)],[(1,(true,.arr 3 1 (Ew x m.1 n))),(0,(true,.arr 3 1 [[.int .i64 x]]))],2⟩,λm=>n - m.1,λm=>⟨by simp[ZG],by simp⟩,⟨⟨min 1 n,by omega,by omega⟩,?_⟩,λm=> ?_⟩
 .simp only[ZZ,simprocAttr,Ab,YX,AR,Az,rept.ca,rept.H0,rept.H1,sub];exact (VT x n).symm
 obtain⟨m,Q,ab⟩:=m;have z:=VS x Q;simp only[ZZ,simprocAttr,Ab,YX,AR,Az,rept.ca,rept.H0,rept.H1,sub,AQ,z];intro aa;refine⟨λhm=>⟨by omega,false,?_⟩,λhm=> ?_⟩
 .simp only[ZZ,simprocAttr,Ab,YX,AR,Az,rept.ca,rept.H0,rept.H1,z];refine⟨by omega,false,?_⟩;simp only[ZZ,simprocAttr,Ab,YX,AR,Az,rept.ca,rept.H0,rept.H1,z,sub];obtain⟨k,hk⟩: ∃k,min (List.take ((m:Int) - 0).toNat (Ew x m n)).length ((n:Int) - m).toNat=k:=⟨_,rfl⟩;have O:k=min m (n - m):=by rw[<-hk,Cp,z];omega
  rw[hk,show ((m:Int) - 0).toNat=m by omega];refine⟨O5 x _ _ _,⟨m+k,by omega,by omega⟩,by simp only;omega,by rw[AF (by omega) (by omega)];simp only;omega,?_⟩;subst O;exact Q4 x hm
 .refine⟨[],[],⟨[(4,.own 1)],[(1,(true,.arr 3 1 (Ew x m n))),(0,(true,.arr 3 1 [[.int .i64 x]]))],2⟩,?_,by simp[ZG],by simp,?_⟩
  .simp only[Ao];simp only[ZZ,simprocAttr,Ab,YX,AR,Az,rept.ca,rept.H0,rept.H1,AU,AT]
  .simp only[ZZ,simprocAttr,Ab,YX,AR,Az,rept.ca,rept.H0,rept.H1]
   have:m=n:=by omega
   subst this;simp[Ew]
 simp[rept.H1] at hp;subst hp;exact .inr ⟨by omega,by omega,rfl,rfl⟩
def Qyw(x:Bq)(u v:Int):Int:=(x.Room[u.toNat]?.getD [])[v.toNat]?.getD 0
def Qzr(x:Bq)(u v:Int):Int:=(x.Flow[u.toNat]?.getD [])[v.toNat]?.getD 0
def Xh(x:Bq)(u v:Int):Bool:=decide (Qzr x u v<Qyw x u v)
structure Lj(x:Bq)(n:Nat):Prop where
 r:x.Room.length=n
 f:x.Flow.length=n
 rr: ∀l∈x.Room,l.length=n
 ff: ∀l∈x.Flow,l.length=n
def HT(x:Bq)(u:Int)(s:List Int×List Int)(v:Nat):List Int×List Int:=
 if s.1[v]?.getD 0<0/\Xh x u v=true then (s.1.set v u,s.2++[(v:Int)]) else s
def Dn(x:Bq)(u:Int)(s:List Int×List Int):Nat->List Int×List Int
 |0=>s
 |k+1=>HT x u (Dn x u s k) k
def Dz(x:Bq)(n:Nat)(p:Int):Nat->List Int×List Int
 |0=>((List.replicate n (-1)).set p.toNat p,[p])
 |k+1=>match (Dz x n p k).2[k]? with
  |none=>Dz x n p k
  |some u=>Dn x u (Dz x n p k) n
structure Hq(x:Bq)(n:Nat)(p:Int)(s:List Int×List Int):Prop where
 len:s.1.length=n
 q: ∀v∈s.2,0<=v/\v<n
 nd:s.2.Nodup
 hd:s.2[0]? =some p
 pp:s.1[p.toNat]? =some p
 mem: ∀(v:Nat) (y:Int),s.1[v]? =some y->(0<=y↔(v:Int)∈s.2)
 prev: ∀(i:Nat) (v:Int),s.2[i]? =some v->0<i-> ∃(j:Nat) (u:Int),j<i/\s.2[j]? =some u/\s.1[v.toNat]? =some u/\Xh x u v=true
def Qtz: ∀(n:Nat) (l:List Int),l.Nodup->(∀v∈l,0<=v/\v<n)->l.length<=n
 |0,[],_,_=>AW _
 |0,x::r,_,h=>by have:=h x (Ct ..);omega
 |n+1,l,h,G=>by
  have Q:=Qtz n (l.erase (n:Int)) (h.erase _) (λv O=>by
   have z:=(h.mem_erase_iff).1 O;have Z:=G v z.2
   have:=z.1
   omega)
  have z:=List.length_erase (a:=(n:Int)) (l:=l);split at z<;>omega
def Qr3{x:Bq}{n:Nat}{p:Int}{s:List Int×List Int}(h:Hq x n p s):s.2.length<=n:=Qtz n s.2 h.nd h.q
def pI{x:Bq}{n:Nat}{p:Int}{s:List Int×List Int}(h:Hq x n p s){u:Int}{k v:Nat}(hu:s.2[k]? =some u)(hv:v<n):Hq x n p (HT x u s v)/\ ∃r,(HT x u s v).2=s.2++r:=by
 simp only[HT];split
 .rename_i hc;obtain⟨ac,ad⟩:=hc;have O:v<s.1.length:=by rw[h.len];exact hv
  obtain⟨y,hy⟩: ∃y,s.1[v]? =some y:=⟨_,Bk O⟩;rw[hy,AJ] at ac;have Q:(v:Int)∉s.2:=λhm=>by have:=(h.mem v y hy).2 hm;omega
  have aa:p∈s.2:=Bd h.hd;have ah:p.toNat≠v:=by
   intro he
   have:=h.q p aa
   exact Q (by rw[show (v:Int)=p by omega];exact aa)
  have ai:=h.q u (Bd hu);refine⟨⟨by simpa using h.len,λw G=> ?_,?_,?_,?_,λw z hz=> ?_,λi w G hi=> ?_⟩,_,rfl⟩
  .rcases B5.1 G with G|G
   .exact h.q w G
   .rw[BN] at G;subst G;omega
  .rw[RD];refine⟨h.nd,by simp,λa ha b hb=> ?_⟩;rw[BN] at hb;subst hb;exact λhe=>Q (he▸ha)
  .have:=h.hd
   rw[Eh (B9.1 this).1];exact this
  .simp only;rw[Ep (Fi ah)];exact h.pp
  .simp only at hz⊢;rw[B5,BN];by_cases ab:v=w
   .subst ab;rw[EE O] at hz;obtain rfl:=A8 hz;exact⟨λ_=> .inr rfl,λ_=>ai.1⟩
   .rw[Ep ab] at hz;rw[h.mem w z hz];constructor
    .exact .inl
    .rintro (h1|h1)
     .exact h1
     .omega
  .simp only at G⊢;by_cases ag:i<s.2.length
   .rw[Eh ag] at G;obtain⟨j,z,h1,h2,h3,h4⟩:=h.prev i w G hi;refine⟨j,z,h1,by rw[Eh (by omega)];exact h2,?_,h4⟩;have aj:=h.q w (Bd G);rw[Ep]
    .exact h3
    .intro he;exact Q (by rw[show (v:Int)=w by omega];exact Bd G)
   .have af:i=s.2.length:=by
     have:=(B9.1 G).1
     simp only[CS,Dp,Hx] at this;omega
    subst af;rw[Fe (AW _),I6,Gw] at G;obtain rfl:=A8 G;have Z:=(B9.1 hu).1;refine⟨k,u,Z,by rw[Eh Z];exact hu,?_,ad⟩;rw[B1,EE O]
 .exact⟨h,[],by simp⟩
def Qoj(x:Bq)(u:Int)(s:List Int×List Int)(v w:Nat)(y:Int)(h:s.1[w]? =some y)(h0:0<=y):(HT x u s v).1[w]? =some y:=by
 simp only[HT];split
 .rename_i z;rw[Ep]
  .exact h
  .intro G;subst G
   have:=z.1
   rw[h,AJ] at this;omega
 .exact h
def Qvl(x:Bq)(u:Int)(s:List Int×List Int)(w:Nat)(y:Int)(h:s.1[w]? =some y)(h0:0<=y): ∀k,(Dn x u s k).1[w]? =some y
 |0=>h
 |k+1=>Qoj x u _ k w y (Qvl x u s w y h h0 k) h0
def zZ{x:Bq}{n:Nat}{p:Int}{s:List Int×List Int}(h:Hq x n p s){u:Int}{i:Nat}(G:s.2[i]? =some u): ∀k,k<=n->Hq x n p (Dn x u s k)/\ ∃r,(Dn x u s k).2=s.2++r
 |0,_=>⟨h,[],by simp[Dn]⟩
 |k+1,hk=>by
  obtain⟨Z,r,Q⟩:=zZ h G k (by omega);have O:=(B9.1 G).1;obtain⟨h2,r',z⟩:=pI Z (u:=u) (k:=i) (v:=k) (by rw[Q,Eh O];exact G) (by omega);exact⟨h2,r++r',by rw[Dn,z,Q,HY]⟩
def Qz6{x:Bq}{n:Nat}{p:Int}{s:List Int×List Int}(h:Hq x n p s){u:Int}{i:Nat}(G:s.2[i]? =some u): ∀k,k<=n-> ∀v,v<k->Xh x u v=true-> ∃y,(Dn x u s k).1[v]? =some y/\0<=y
 |0,_,v,hv,_=>by omega
 |k+1,hk,v,hv,hf=>by
  by_cases Q:v<k
  .obtain⟨y,h1,Z⟩:=Qz6 h G k (by omega) v Q hf;exact⟨y,Qoj x u _ k v y h1 Z,Z⟩
  .have:v=k:=by omega
   subst this;have hP:=(zZ h G v (by omega)).1;obtain⟨y,hy⟩: ∃y,(Dn x u s v).1[v]? =some y:=⟨_,Bk (by rw[hP.len];omega)⟩;by_cases z:0<=y
   .exact⟨y,Qoj x u _ v v y hy z,z⟩
   .have O:=h.q u (Bd G);refine⟨u,?_,O.1⟩;rw[Dn,HT,Ak ⟨by rw[hy,AJ];omega,hf⟩];exact EE (by rw[hP.len];omega)
def SA{x:Bq}{n:Nat}{p:Int}(h0:0<=p)(Q:p<n): ∀k,Hq x n p (Dz x n p k)
 |0=>by
  have hq:p.toNat<(List.replicate n (-1:Int)).length:=by rw[Mn];omega
  refine⟨by simp[Dz],λv z=> ?_,by simp[Dz],rfl,EE hq,λv y G=> ?_,λi v z hi=> ?_⟩
  .simp only[Dz,BN] at z;subst z;omega
  .simp only[Dz,BN] at G⊢;by_cases O:p.toNat=v
   .subst O;rw[EE hq] at G;obtain rfl:=A8 G;omega
   .rw[Ep O] at G
    have:=Pt (Bd G)
    omega
  .simp only[Dz] at z;cases i with
   |zero=>omega
   |succ i=>simp at z
 |k+1=>by
  have ih:=SA (x:=x) h0 Q k;simp only[Dz];split
  .exact ih
  .rename_i u Z;exact (zZ ih Z n (AW _)).1
def sY(x:Bq)(n:Nat)(p:Int)(w:Nat)(y:Int)(h0:0<=y)(k:Nat)(h:(Dz x n p k).1[w]? =some y): ∀m,(Dz x n p (k+m)).1[w]? =some y
 |0=>h
 |m+1=>by
  have ih:=sY x n p w y h0 k h m;rw[show k+(m+1)=k+m+1 by omega,Dz];split
  .exact ih
  .exact Qvl x _ _ w y ih h0 n
def WQ(x:Bq){n:Nat}{p:Int}(h0:0<=p)(z:p<n)(k:Nat): ∃r,(Dz x n p (k+1)).2=(Dz x n p k).2++r:=by
 rw[Dz];split
 .exact⟨[],by simp⟩
 .rename_i u G;exact (zZ (SA (x:=x) h0 z k) G n (AW _)).2
def O2(x:Bq)(n:Nat)(p:Int): ∀(m k:Nat),(Dz x n p k).2.length<=k->Dz x n p (k+m)=Dz x n p k
 |0,k,_=>rfl
 |m+1,k,h=>by
  have z:Dz x n p (k+1)=Dz x n p k:=by
   rw[Dz,Hy h]
  have G:=O2 x n p m (k+1) (by rw[z];omega);rw[show k+(m+1)=k+1+m by omega,G,z]
def Qzh(x:Bq){n:Nat}{p:Int}(h0:0<=p)(G:p<n): ∀(k:Nat) (j:Nat) (u:Int),j<k->(Dz x n p k).2[j]? =some u-> ∀v,v<n->Xh x u v=true-> ∃y,(Dz x n p k).1[v]? =some y/\0<=y
 |0,j,_,hj,_,_,_,_=>by omega
 |k+1,j,u,hj,z,v,Z,hf=>by
  obtain⟨r,hr⟩:=WQ x h0 G k;by_cases Q:j<(Dz x n p k).2.length
  .rw[hr,Eh Q] at z;by_cases O:j<k
   .obtain⟨y,g1,g2⟩:=Qzh x h0 G k j u O z v Z hf;exact⟨y,sY x n p v y g2 k g1 1,g2⟩
   .have:j=k:=by omega
    subst this;obtain⟨y,g1,g2⟩:=Qz6 (SA (x:=x) h0 G j) z n (AW _) v Z hf;exact⟨y,by rw[Dz,z];exact g1,g2⟩
  .have e:Dz x n p (k+1)=Dz x n p k:=by
    rw[Dz,Hy (by omega)]
   rw[e] at z
   have:=(B9.1 z).1
   omega
def BC(x:Bq)(n:Nat)(p:Int):List Int×List Int:=Dz x n p n
def Qww(x:Bq){n:Nat}{p:Int}(h0:0<=p)(G:p<n){u v:Nat}{y:Int}(hu:(BC x n p).1[u]? =some y)(hy:0<=y)(hv:v<n)(hf:Xh x u v=true): ∃z,(BC x n p).1[v]? =some z/\0<=z:=by
 have O:=SA (x:=x) h0 G n;have hm:=(O.mem u y hu).1 hy;obtain⟨j,Q⟩:=EK.1 hm;have hl:=Qr3 O;have Z:=(B9.1 Q).1;exact Qzh x h0 G n j u (by omega) Q v hv hf
def DW(z:List Int)(q:Int):Nat->Int
 |0=>q
 |k+1=>z[(DW z q k).toNat]?.getD 0
def zN(z:List Int)(p q:Int)(n:Nat):Nat:=((List.range (n+1)).find? λk=>decide (DW z q k=p)).getD 0
def IX(z:List Int)(q:Int)(k:Nat):List Int:=(List.range (k+1)).map (DW z q)
def CN(x:Bq)(n:Nat)(p q:Int):List Int:=
 if (BC x n p).1[q.toNat]?.getD 0<0 then [] else (IX (BC x n p).1 q (zN (BC x n p).1 p q n)).reverse
def yG{x:Bq}{n:Nat}{p:Int}{s:List Int×List Int}(h:Hq x n p s){q:Int}{i:Nat}(hq:s.2[i]? =some q): ∀k,(∀j,j<k->DW s.1 q j≠p)-> ∃j,j+k<=i/\s.2[j]? =some (DW s.1 q k)
 |0,_=>⟨i,by omega,hq⟩
 |k+1,z=>by
  obtain⟨j,h1,G⟩:=yG h hq k (λj hj=>z j (by omega));have O:0<j:=by
   rcases sD j with h0|h0
   .subst h0;rw[h.hd] at G;exact absurd (A8 G).symm (z k (by omega))
   .exact h0
  obtain⟨j',u,g1,g2,Q,Z⟩:=h.prev j _ G O;exact⟨j',by omega,by rw[DW,Q,AJ];exact g2⟩
def P7{x:Bq}{n:Nat}{p:Int}{s:List Int×List Int}(h:Hq x n p s){q:Int}{i:Nat}(hq:s.2[i]? =some q){k:Nat}(z: ∀j,j<k+1->DW s.1 q j≠p):Xh x (DW s.1 q (k+1)) (DW s.1 q k)=true/\ ∃y,s.1[(DW s.1 q k).toNat]? =some y/\DW s.1 q (k+1)=y:=by
 obtain⟨j,h1,G⟩:=yG h hq k (λj hj=>z j (by omega));have O:0<j:=by
  rcases sD j with h0|h0
  .subst h0;rw[h.hd] at G;exact absurd (A8 G).symm (z k (by omega))
  .exact h0
 obtain⟨j',u,g1,g2,Q,Z⟩:=h.prev j _ G O;have e:DW s.1 q (k+1)=u:=by rw[DW,Q,AJ]
 exact⟨by rw[e];exact Z,u,Q,e⟩
def Qq3{x:Bq}{n:Nat}{p:Int}{s:List Int×List Int}(h:Hq x n p s){q:Int}{i:Nat}(hq:s.2[i]? =some q): ∃d,d<=i/\DW s.1 q d=p/\ ∀j,j<d->DW s.1 q j≠p:=by
 have Q: ∀m,(∃d,d<=m/\DW s.1 q d=p/\ ∀j,j<d->DW s.1 q j≠p)\/ ∀j,j<=m->DW s.1 q j≠p:=by
  intro m;induction m with
  |zero=>
   by_cases h0:DW s.1 q 0=p
   .exact .inl ⟨0,AW _,h0,λj G=>by omega⟩
   .exact .inr λj G=>by rw[show j=0 by omega];exact h0
  |succ m ih=>
   rcases ih with ⟨d,z,Z,h3⟩|ih
   .exact .inl ⟨d,by omega,Z,h3⟩
   .by_cases h0:DW s.1 q (m+1)=p
    .exact .inl ⟨m+1,AW _,h0,λj G=>ih j (by omega)⟩
    .refine .inr λj G=> ?_
     by_cases O:j<=m
     .exact ih j O
     .rw[show j=m+1 by omega];exact h0
 rcases Q i with z|z
 .exact z
 .obtain⟨j,g1,g2⟩:=yG h hq (i+1) (λj G=>z j (by omega));omega
def Qqr{z:List Int}{p q:Int}{n d:Nat}(hd:d<=n)(G:DW z q d=p)(O: ∀j,j<d->DW z q j≠p):zN z p q n=d:=by
 have: ∀(m s:Nat),s<=d->d<s+m->((List.range' s m).find? λk=>decide (DW z q k=p))=some d:=by
  intro m;induction m with
  |zero=>intro s Q Z;omega
  |succ m ih=>
   intro s Q Z;rw[List.range'_succ,Zeu];by_cases hs:s=d
   .subst hs;simp[G]
   .rw[show decide (DW z q s=p)=false from Zeb (O s (by omega))];exact ih (s+1) (by omega) (by omega)
 rw[zN,Zen,this _ 0 (by omega) (by omega),AJ]
def EB(l:List Int):Nat->List Int
 |0=>l
 |i+1=>((EB l i).set i ((EB l i)[l.length - 1 - i]?.getD 0)).set (l.length - 1 - i) ((EB l i)[i]?.getD 0)
def yS(l:List Int): ∀i,(EB l i).length=l.length
 |0=>rfl
 |i+1=>by simp only[EB,I4,yS l i]
def tQ(l:List Int): ∀i,2*i<=l.length-> ∀k,k<l.length->(EB l i)[k]? =if k<i\/l.length - i<=k then l[l.length - 1 - k]? else l[k]?
 |0,_,k,Q=>by simp only[EB];rw[Ad (by omega)]
 |i+1,hi,k,Q=>by
  have ih:=tQ l i (by omega);have Z:=yS l i;have g1:(EB l i)[l.length - 1 - i]?.getD 0=l[l.length - 1 - i]?.getD 0:=by rw[ih _ (by omega),Ad (by omega)]
  have g2:(EB l i)[i]?.getD 0=l[i]?.getD 0:=by rw[ih _ (by omega),Ad (by omega)]
  have gd: ∀j,j<l.length->some (l[j]?.getD 0)=l[j]? :=λj hj=>by rw[Bk hj];rfl
  rw[EB,g1,g2];by_cases z:l.length - 1 - i=k
  .subst z;rw[EE (by rw[I4,Z];omega),Ak (by omega),gd _ (by omega)];congr 1;omega
  .rw[Ep z];by_cases G:i=k
   .subst G;rw[EE (by rw[Z];omega),Ak (by omega),gd _ (by omega)]
   .rw[Ep G,ih k Q];by_cases O:k<i\/l.length - i<=k
    .rw[Ak O,Ak (by omega)]
    .rw[Ad O,Ad (by omega)]
def uQ(l:List Int){i:Nat}(G:2*i<=l.length)(O:l.length<=2*i+1):EB l i=l.reverse:=by
 apply Ja;intro k;by_cases z:k<l.length
 .rw[tQ l i G k z,Zff z];by_cases h:k<i\/l.length - i<=k
  .rw[Ak h]
  .rw[Ad h];congr 1;omega
 .rw[Hy (by rw[yS];omega),Hy (by rw[rX];omega)]
def cV(l:List Int)(i:Nat)(x:Int):(l.map Af).set i [.int .i64 x]=(l.set i x).map Af:=by rw[SR];rfl
def revC.ca(_:List Int):List AV:=[.own 0]
def revC.H0(a:List Int):Au:=[(0,(true,.arr 3 1 (a.map Af)))]
def revC.H1(a:List Int):Au:=[(0,(true,.arr 3 1 (a.reverse.map Af)))]
def revC.row:AO:=AM revC.ca revC.H0 1 (λ_=>True) (λj=>j==0) (λ_=> .im (.tup [])) revC.H1 0
def revC.ok:AS 262 revC.row:=by
 refine ow tN Tryz.func262 (exB:=λ_=>false) (R:=λ_ r=>r= .im (.tup [])) (λ_=>rfl)
  (λa=>by simp[revC.ca,revC.H0,revC.H1,AL,AV.bel,AH,Cz,Df,Ah.nms,AE,AV.nms,Av,hget]) (λa p hp=> ?_) (λa r h=>by subst h;exact ED.refl _) ?_
 rotate_left
 intro a Q;simp only[Tryz.f262,Option.getD,revC.ca,revC.H0,revC.H1];simp only[ZZ,simprocAttr,Ab,Az,revC.ca,revC.H0,revC.H1];intro aa;rw[AF (by omega) (by omega)];refine Bc.old ⟨{i:Nat//2*i<=a.length},λi=>⟨[(2,.im (.int .i64 i.1)),(3,.im (.int .i64 ((a.length:Int) - 1 - i.1))),(0,.own 0)],[(0,(true,.arr 3 1 ((EB a i.1).map Af)))],1⟩,λi=>a.length - i.1,λi=>⟨by simp[ZG],by simp⟩,⟨⟨0,by simp⟩,?_⟩,λi=> ?_⟩
 .simp only[ZZ,simprocAttr,Ab,Az,revC.ca,revC.H0,revC.H1,sub];exact⟨by omega,by rw[EB]⟩
 obtain⟨i,Z⟩:=i;have O:=yS a i;simp only[ZZ,simprocAttr,Ab,Az,revC.ca,revC.H0,revC.H1,sub,AQ,O,cV,I4];refine⟨λG=>⟨by omega,by omega,by omega,λx hx=>⟨by omega,by omega,λy hy=>⟨by omega,by omega,λz hz=>⟨by omega,by omega,by omega,λu hu=> ?_⟩⟩⟩⟩,λG=> ?_⟩
 .refine⟨⟨i+1,by omega⟩,by simp only;omega,?_⟩;have w1:IntKind.i64.wrap ((a.length:Int) - 1 - i - 1)=(a.length:Int) - 1 - i - 1:=AF (by omega) (by omega);have w2:IntKind.i64.wrap ((i:Int)+1)=(i:Int)+1:=AF (by omega) (by omega);simp only[w1,w2];refine⟨⟨by omega,by omega⟩,?_⟩;simp only[EB];rw[show a.length - 1 - i=((a.length:Int) - 1 - i).toNat by omega,hx,hy];rfl
 .rw[uQ a Z (by omega)]
 simp[revC.H1] at hp;subst hp;exact .inl ⟨by omega,rfl,rfl⟩
def clonC.ca(a:List Ar):List AV:=[.im (.sl false 3 (a.map Ar.c))]
def clonC.H1(a:List Ar):Au:=[(0,(true,.arr 136 3 (a.map Ar.c)))]
def clonC.row:AO:=AM clonC.ca (λ_=>[]) 0 (λa=>a.length<=1000000) (λ_=>false) (λ_=> .own 0) clonC.H1 20
def clonC.ok:AS 167 clonC.row:=by
 refine VA tN Tryz.func167 (exB:=λj=>j==0) (R:=λ_ r=>r= .own 0) (λ_=>rfl)
  (λa=>by simp[clonC.ca,clonC.H1,AL,AV.bel,AH,Cz,Df,Ah.nms,AE,AV.nms,Av,hget]) (λa p hp=> ?_) (λa r h=>by subst h;exact ED.refl _) ?_
 rotate_left
 intro a z;simp only[Tryz.f167,Option.getD,clonC.ca,clonC.H1];simp only[ZZ,simprocAttr,Ab,AR,Az,clonC.ca,clonC.H1];intro b G;split
 .rename_i h;have h0:=G h;refine⟨[],[(0,some 1)],⟨[(2,.own 0)],clonC.H1 a,1⟩,?_,by simp[clonC.H1,ZG],by simp,?_⟩
  .simp only[Ao,clonC.H1,h0];simp only[ZZ,simprocAttr,Ab,AR,Az,clonC.ca,clonC.H1,AU,AT]
  .simp only[ZZ,simprocAttr,Ab,AR,Az,clonC.ca,clonC.H1]
 .refine⟨by omega,[],[(0,some 2)],⟨[(2,.own 0)],clonC.H1 a,1⟩,?_,by simp[clonC.H1,ZG],by simp,?_⟩
  .simp only[Ao,clonC.H1];simp only[ZZ,simprocAttr,Ab,AR,Az,clonC.ca,clonC.H1,AU,AT]
  .simp only[ZZ,simprocAttr,Ab,AR,Az,clonC.ca,clonC.H1]
 simp[clonC.H1] at hp;subst hp;exact .inr ⟨by omega,by omega,rfl,rfl⟩
def clobC.ca(a:List Ag):List AV:=[.im (.sl false 3 (a.map Ag.c))]
def clobC.H1(a:List Ag):Au:=[(0,(true,.arr 215 3 (a.map Ag.c)))]
def clobC.row:AO:=AM clobC.ca (λ_=>[]) 0 (λa=>a.length<=1000000) (λ_=>false) (λ_=> .own 0) clobC.H1 20
def clobC.ok:AS 223 clobC.row:=by
 refine VA tN Tryz.func223 (exB:=λj=>j==0) (R:=λ_ r=>r= .own 0) (λ_=>rfl)
  (λa=>by simp[clobC.ca,clobC.H1,AL,AV.bel,AH,Cz,Df,Ah.nms,AE,AV.nms,Av,hget]) (λa p hp=> ?_) (λa r h=>by subst h;exact ED.refl _) ?_
 rotate_left
 intro a z;simp only[Tryz.f223,Option.getD,clobC.ca,clobC.H1];simp only[ZZ,simprocAttr,Ab,AR,Az,clobC.ca,clobC.H1];intro b G;split
 .rename_i h;have h0:=G h;refine⟨[],[(0,some 1)],⟨[(2,.own 0)],clobC.H1 a,1⟩,?_,by simp[clobC.H1,ZG],by simp,?_⟩
  .simp only[Ao,clobC.H1,h0];simp only[ZZ,simprocAttr,Ab,AR,Az,clobC.ca,clobC.H1,AU,AT]
  .simp only[ZZ,simprocAttr,Ab,AR,Az,clobC.ca,clobC.H1]
 .refine⟨by omega,[],[(0,some 2)],⟨[(2,.own 0)],clobC.H1 a,1⟩,?_,by simp[clobC.H1,ZG],by simp,?_⟩
  .simp only[Ao,clobC.H1];simp only[ZZ,simprocAttr,Ab,AR,Az,clobC.ca,clobC.H1,AU,AT]
  .simp only[ZZ,simprocAttr,Ab,AR,Az,clobC.ca,clobC.H1]
 simp[clobC.H1] at hp;subst hp;exact .inr ⟨by omega,by omega,rfl,rfl⟩
def freeC.fv(a:Bq×Int×Int):Bool:=(Xh) (a.1) (a.2.1) (a.2.2)
def freeC.row:AO:=H5 (b3 (qP 2 Bq.d_le) qI qI) rB (λa=>Lj a.1 a.1.Room.length/\0<=a.2.1/\a.2.1<a.1.Room.length/\0<=a.2.2/\a.2.2<a.1.Room.length) freeC.fv
def freeC.q:=FE (R:=freeC.row) rfl
def freeC.ok:AS 261 freeC.row:=by
 refine LX tN Tryz.func261 ?_;intro a z;simp only[Tryz.f261,Option.getD];simp only[ZZ,simprocAttr,Ab,freeC.fv,C8,D.sc,D.scs,Cm,Be];obtain⟨G,O,h3,Q,Z⟩:=z;have hf:=G.f;refine⟨O,h3,λr hr=>⟨Q,by rw[G.rr r (Bd hr)];exact Z,λx hx=>⟨O,by omega,λs hs=>⟨Q,by rw[G.ff s (Bd hs)];exact Z,λy hy=> ?_⟩⟩⟩⟩;simp only[Xh,Qyw,Qzr,hr,hs,hx,hy,AJ]
def cO:D->Option (List Int)
 | .sl true _ rows=>AX Dj rows
 | .sl false _ (r::rows)=>AX Dj (r::rows)
 |_=>none
def cP: ∀d x,cO d=some x->Le d (.sl true 1 (x.map Af)):=by
 intro d x h;unfold cO at h;split at h
 .rename_i k rows;have h1:=E0 (nz:=true) (k:=k) (Ej Ez _ _ h) (k':=1) (by simp[Af]);intro ok hp v Q;have O:=h1 ok hp v Q;simp only[Ae.rd] at O Q⊢;rcases O with O|⟨b,p,cap,vs,T,fr,g1,g2,g3,g4,g5,g6,g7⟩
  .rcases Q with ⟨q1,G⟩|⟨b',p',z,aa,T',Z,q1,G,q3,q4,q5,q6,q7⟩
   .exact .inl ⟨q1,O.2⟩
   .obtain⟨ao,e⟩:=zA O.1;rw[e] at q1;simp only[Value.slice.injEq] at q1;exact absurd (Pv.1 q1.2.1.symm) (G trivial)
  .rcases Q with ⟨q1,G⟩|⟨b',p',z,aa,T',Z,q1,G,q3,q4,q5,q6,q7⟩
   .rw[Qr7 q1] at g1;cases g1
   .refine .inr ⟨b,p,cap,vs,T,fr,g1,λ_ h0=> ?_,g3,g4,g5,g6,g7⟩;rw[q1] at g1;simp only[Value.slice.injEq] at g1;rw[h0,Hx] at g1;exact G trivial (Pv.1 g1.2.1)
 .rename_i k r rows;have h1:=E0 (nz:=false) (k:=k) (Ej Ez _ _ h) (k':=1) (by simp[Af]);intro ok hp v Q;have O:=h1 ok hp v Q;simp only[Ae.rd] at O Q⊢;rcases O with O|⟨b,p,cap,vs,T,fr,g1,g2,g3,g4,g5,g6,g7⟩
  .rcases Q with ⟨q1,G⟩|⟨b',p',z,aa,T',Z,q1,G,q3,q4,q5,q6,q7⟩
   .cases G
   .obtain⟨ao,e⟩:=zA O.1;rw[e] at q1;simp only[Value.slice.injEq,Dp] at q1;omega
  .rcases Q with ⟨q1,G⟩|⟨b',p',z,aa,T',Z,q1,G,q3,q4,q5,q6,q7⟩
   .cases G
   .refine .inr ⟨b,p,cap,vs,T,fr,g1,λ_ h0=> ?_,g3,g4,g5,g6,g7⟩;rw[q1] at g1;simp only[Value.slice.injEq,Dp] at g1;rw[h0,Hx] at g1;omega
 .cases h
def zF(n:Nat)(x:Int):List.replicate n [D.int .i64 x]=(List.replicate n x).map Af:=by rw[List.map_replicate];rfl
def WO{k:Nat}{l:List Int}(h:l≠[]):cO (.sl false k (l.map Af))=some l:=by
 cases l with
 |nil=>exact absurd rfl h
 |cons x r=>exact qN (x::r)
def dI(v:Int):D:= .int .i64 v
def rept.H0_dom(a:Int×Int)(j:Nat):Av (rept.H0 a) j=true↔j<1:=by
 simp only[Av,rept.H0,hget];by_cases h0:j=0
 .subst h0;simp
 .have z:(0==j)=false:=by simp;omega
  simp[z];omega
def revC.H0_dom(a:List Int)(j:Nat):Av (revC.H0 a) j=true↔j<1:=by
 simp only[Av,revC.H0,hget];by_cases h0:j=0
 .subst h0;simp
 .have z:(0==j)=false:=by simp;omega
  simp[z];omega
def RT:Xj Tryz.prog 304=some 3:=by kernel_rfl
def wayC.rc:D->Option (List Int):=cO
def wayC.re:(List Int)->D:=λb=>D.sl true 1 (b.map Af)
def wayC.rle: ∀d b,wayC.rc d=some b->Le d (wayC.re b):=cP
def wayC.fv(a:Bq×Int×Int):List Int:=(λx p q=>CN x x.Room.length p q) (a.1) (a.2.1) (a.2.2)
def wayC.row:AO:=H5 (b3 (qP 2 Bq.d_le) qI qI) (RK.mk wayC.rc wayC.re wayC.rle) (λa=>Lj a.1 a.1.Room.length/\a.1.Room.length<=1000/\0<=a.2.1/\a.2.1<a.1.Room.length/\0<=a.2.2/\a.2.2<a.1.Room.length) wayC.fv
def wayC.q:=FE (R:=wayC.row) rfl
def R8:=J @wayC.fv.eq_1<|J @wayC.rc.eq_1<|J @freeC.q @freeC.fv.eq_1
def wayC.ok:AS 251 wayC.row:=by
 refine LX (tC freeC.ok (tC rept.ok (tC revC.ok tN))) Tryz.func251 ?_;intro a ak;simp only[Tryz.f251,Option.getD];simp only[ZZ,simprocAttr,Ab,R8,C8,D.sc,D.scs,Cm,Be];obtain⟨aj,hn,ad,af,am,ax⟩:=ak;obtain⟨x,hx⟩: ∃x,x=a.1:=⟨_,rfl⟩;obtain⟨p,hp⟩: ∃p,p=a.2.1:=⟨_,rfl⟩;obtain⟨q,hq⟩: ∃q,q=a.2.2:=⟨_,rfl⟩;obtain⟨n,hnn⟩: ∃n,n=x.Room.length:=⟨_,rfl⟩;simp only[<-hx,<-hp,<-hq,<-hnn] at aj hn ad af am ax⊢;intro bf;refine AM.os (-1,(n:Int)) [1] ⟨by simp only;omega,by simp only;omega⟩ (λj=>rept.H0_dom _ j) rfl rfl ?_ ?_
 .simp only[ZZ,simprocAttr,Ab,R8,C8,D.sc,D.scs,Cm,Be,RT,rept.ca,rept.H0,Bt,Cl]
 simp only[ZZ,simprocAttr,Ab,R8,C8,D.sc,D.scs,Cm,Be,RT,rept.H1,sub,B1,Mn,cV,zF];refine⟨by omega,by omega,ad,af,by omega,λ_ _=> ?_⟩;refine Bc.old ⟨{k:Nat//k<=(Dz x n p k).2.length},λk=>⟨[(9,.ch 22),(8,.own 2),(7,.im (.int .i64 n)),(0,.ptr 0 0),(1,.im (.int .i64 p)),(2,.im (.int .i64 q))],[(2,(true,.arr 3 1 ((Dz x n p k.1).1.map Af))),(22,(true,.chan (((Dz x n p k.1).2.drop k.1).map dI) n)),(0,(false,.view [.sl false 1 (x.Room.map C9),.sl false 1 (x.Flow.map C9)]))],23⟩,λk=>n - k.1,λk=>⟨by simp[ZG],by simp⟩,⟨⟨0,by simp⟩,?_⟩,λk=> ?_⟩
 .simp only[ZZ,simprocAttr,Ab,R8,C8,D.sc,D.scs,Cm,Be,RT,sub];simp[Dz,dI]
 obtain⟨k,hk⟩:=k;have Z:=SA (x:=x) ad af k;have bg:=Qr3 Z;simp only[ZZ,simprocAttr,Ab,R8,C8,D.sc,D.scs,Cm,Be,RT,sub,AQ,FN,Dt];refine⟨λav=> ?_,λav=> ?_⟩
 .have aw:k<(Dz x n p k).2.length:=by omega
  obtain⟨u,hu⟩: ∃u,(Dz x n p k).2[k]? =some u:=⟨_,Bk aw⟩;have a8:=Z.q u (Bd hu);rw[Gr hu];refine⟨by simp,λd r ag=> ?_⟩;simp only[Bm,eV] at ag;obtain⟨rfl,rfl⟩:=ag;simp only[dI];obtain⟨s,hs⟩: ∃s,s=Dz x n p k:=⟨_,rfl⟩;simp only[<-hs] at hu Z⊢;refine Bc.old ⟨{i:Nat//i<=n},λi=>⟨[(36,.im (.int .i64 i.1)),(35,.im (.int .i64 n)),(10,.im (.int .i64 u)),(9,.ch 22),(8,.own 2),(7,.im (.int .i64 n)),(0,.ptr 0 0),(1,.im (.int .i64 p)),(2,.im (.int .i64 q))],[(2,(true,.arr 3 1 ((Dn x u s i.1).1.map Af))),(22,(true,.chan (((Dn x u s i.1).2.drop (k+1)).map dI) n)),(0,(false,.view [.sl false 1 (x.Room.map C9),.sl false 1 (x.Flow.map C9)]))],23⟩,λi=>n - i.1,λi=>⟨by simp[ZG],by simp⟩,⟨⟨0,by simp⟩,?_⟩,λi=> ?_⟩
  .simp only[ZZ,simprocAttr,Ab,R8,C8,D.sc,D.scs,Cm,Be,RT,sub,Dn]
  obtain⟨i,hi⟩:=i;obtain⟨hQ,e,he⟩:=zZ Z hu i hi;have a9:=Qr3 hQ;have ay:=hQ.len;simp only[ZZ,simprocAttr,Ab,R8,C8,D.sc,D.scs,Cm,Be,RT,sub,AQ,FN,Dt,ay,cV];refine⟨λaq=>⟨by omega,by omega,λy hy=>⟨λO=>⟨⟨hnn▸aj,a8.1,by omega,by omega⟩,λhf=>⟨by omega,by omega,λy2 _=>⟨by omega,⟨i+1,by omega⟩,by simp only;omega,by rw[AF (by omega) (by omega)];simp only;omega,?_⟩⟩,λhf=>⟨⟨i+1,by omega⟩,by simp only;omega,by rw[AF (by omega) (by omega)];simp only;omega,?_⟩⟩,λO=>⟨⟨i+1,by omega⟩,by simp only;omega,by rw[AF (by omega) (by omega)];simp only;omega,?_⟩⟩⟩,λaq=> ?_⟩
  .have Q:Dn x u s (i+1)=((Dn x u s i).1.set i u,(Dn x u s i).2++[(i:Int)]):=by
    rw[Dn,HT,Ak ⟨by rw[hy,AJ];exact O,hf⟩]
   have bd:=(B9.1 hu).1;simp only[Q];refine⟨trivial,?_⟩;rw[ZdB (by rw[he,CS];omega),Fg];rfl
  .have Q:Dn x u s (i+1)=Dn x u s i:=by
    rw[Dn,HT,Ad (λh=>hf h.2)]
   simp only[Q];exact⟨trivial,trivial⟩
  .have Q:Dn x u s (i+1)=Dn x u s i:=by
    rw[Dn,HT,Ad (λh=>O (by have:=h.1;rw[hy,AJ] at this;exact this))]
   simp only[Q];exact⟨trivial,trivial⟩
  .have au:i=n:=by omega
   have Q:Dz x n p (k+1)=Dn x u s i:=by rw[Dz,<-hs,hu,au]
   refine⟨⟨k+1,by rw[Q,he,CS];have:=(B9.1 hu).1;omega⟩,by simp only;omega,?_⟩;simp only[Q];exact⟨trivial,trivial⟩
 .have be:(Dz x n p k).2.length=k:=by omega
  have hE:Dz x n p k=BC x n p:=by
   have:=O2 x n p (n - k) k (by omega)
   rw[show k+(n - k)=n by omega] at this;exact this.symm
  have ai:=Z.len;refine⟨am,by omega,by omega,λy hy=>⟨λO=> ?_,λO=> ?_⟩⟩
  .simp only[CN,<-hE,hy,AJ];rw[Ak O];rfl
  have az:q∈(Dz x n p k).2:=by
   have:=(Z.mem q.toNat y hy).1 (by omega)
   rwa [show (q.toNat:Int)=q by omega] at this
  obtain⟨i,hi⟩:=EK.1 az;obtain⟨d,ba,ab,aa⟩:=Qq3 Z hi;have bb:=(B9.1 hi).1;have a0:zN (Dz x n p k).1 p q n=d:=Qqr (by omega) ab aa;have hW:CN x n p q=(IX (Dz x n p k).1 q d).reverse:=by
   simp only[CN,<-hE,hy,AJ];rw[Ad O,a0]
  obtain⟨G,hpar⟩: ∃G,G=(Dz x n p k).1:=⟨_,rfl⟩;simp only[<-hpar] at ai ab aa hW⊢;refine Bc.ren ⟨{j:Nat//j<=d},λj=>⟨[(13,.im (.int .i64 (DW G q j.1))),(12,.own 24),(8,.own 2),(1,.im (.int .i64 p))],[(24,(true,.arr 3 1 ((IX G q j.1).map Af))),(2,(true,.arr 3 1 (G.map Af)))],25⟩,λj=>d - j.1,λj=>⟨by simp[ZG],by simp⟩,⟨⟨0,by omega⟩,[(24,some 23)],?_⟩,λj=> ?_⟩
  .simp only[Ao];simp only[ZZ,simprocAttr,Ab,R8,C8,D.sc,D.scs,Cm,Be,RT,AU,AT];exact⟨rfl,rfl⟩
  obtain⟨j,hj⟩:=j;have ao:(IX G q j).length=j+1:=by simp[IX]
  simp only[ZZ,simprocAttr,Ab,R8,C8,D.sc,D.scs,Cm,Be,RT,sub,AQ,ao];refine⟨λac=> ?_,λac=> ?_⟩
  .have ah:j<d:=by
    rcases Ff j d with h|h
    .exact h
    .exact absurd (by rw[show j=d by omega];exact ab) ac
   obtain⟨j2,g1,g2⟩:=yG Z hi j (λj' bc=>by rw[<-hpar];exact aa j' (by omega));rw[<-hpar] at g2;have an:=Z.q _ (Bd g2);refine⟨an.1,by omega,by omega,λz hz=>⟨by omega,⟨j+1,by omega⟩,[(24,some 26)],by simp only;omega,?_⟩⟩;have Q:DW G q (j+1)=z:=by rw[DW,hz,AJ]
   have e2:IX G q (j+1)=IX G q j++[z]:=by
    simp only[IX];rw[Zev,Fg,Bm,BY,Q]
   simp only[Ao];simp only[ZZ,simprocAttr,Ab,R8,C8,D.sc,D.scs,Cm,Be,RT,AU,AT,Q,e2,Fg]
  .have ah:j=d:=by
    have h1:=I3.1 ac;rcases Ff j d with h|h
    .exact absurd h1 (aa j h)
    .omega
   subst ah;refine AM.os (IX G q j) [24] trivial (λi=>revC.H0_dom _ i) rfl rfl ?_ ?_
   .simp only[ZZ,simprocAttr,Ab,R8,C8,D.sc,D.scs,Cm,Be,RT,revC.ca,revC.H0,Bt,Cl]
   .simp only[ZZ,simprocAttr,Ab,R8,C8,D.sc,D.scs,Cm,Be,RT,revC.H1,sub,Cl];rw[hW];exact WO (by simp[IX])
def FO(n:Int):List D:=[.int .u8 n]
def Yw(x:Int):(FO x).length=1:=rfl
def Tq:List D->Option Int
 |[.int .u8 n]=>some n
 |_=>none
def Yp: ∀ds x,Tq ds=some x->Dh ds (FO x):=by
 intro ds x h;unfold Tq at h;split at h
 .simp only[AP] at h;subst h;exact⟨Le.refl _,trivial⟩
 .cases h
def mR(x:Int):Tq (FO x)=some x:=rfl
def Tr(l:List Int):AX Tq (l.map FO)=some l:=Kt mR l
structure Dc where
 code:List Int
 at':Int
 seed:Int
def PE(l:List Int):Prop:= ∀b∈l,0<=b/\b<=255
def EY(m:Int)(x:Dc):Prop:=PE x.code/\0<=x.at'/\x.at'<=m
def EY.mono{m n:Int}{x:Dc}(h:EY m x)(z:m<=n):EY n x:=⟨h.1,h.2.1,Zfc h.2.2 z⟩
def Hh(x:Dc):Int:=if x.at'<x.code.length then (x.code[x.at'.toNat]?).getD 0 else 0
def sdR(s b:Int):Int:=IntKind.u64.wrap (IntKind.u64.wrap (IntKind.u64.wrap (s*6364136223846793005)+IntKind.u64.wrap b)+1442695040888963407)
def cK(s:Int):Int:=IntKind.i64.wrap (Hd .u64 (s.fdiv (2^min (40:Int).toNat IntKind.u64.bits)) 255)
def Fb(x:Dc):Int×Dc:=(if x.at'+1<=x.code.length then Hh x else cK (sdR x.seed (Hh x)),⟨x.code,x.at'+1,sdR x.seed (Hh x)⟩)
def mU{m:Int}{x:Dc}(h:EY m x):0<=Hh x/\Hh x<=255:=by
 simp only[Hh];split
 .cases hx:x.code[x.at'.toNat]? with
  |none=>simp
  |some b=>exact h.1 b (Bd hx)
 .simp
def mJ(a:Int):0<=Hd .u64 a 255/\Hd .u64 a 255<=255:=by
 have h:(BitVec.ofInt IntKind.u64.bits a &&& BitVec.ofInt IntKind.u64.bits 255).toNat<=255:=by
  have e:IntKind.u64.bits=64:=rfl;rw[e];simp only[BitVec.toNat_and,BitVec.toNat_ofInt];rw[show ((255:Int) % ((2^64:Nat):Int)).toNat=255 by decide];exact Nat.and_le_right
 simp only[Hd];have e:=Kr (a:=(((BitVec.ofInt IntKind.u64.bits a &&& BitVec.ofInt IntKind.u64.bits 255).toNat:Nat):Int)) (by omega) (by omega);rw[e];omega
def aL{m:Int}{x:Dc}(h:EY m x):0<=(Fb x).1/\(Fb x).1<=255:=by
 simp only[Fb];split
 .exact mU h
 .have:=mJ ((sdR x.seed (Hh x)).fdiv (2^min (40:Int).toNat IntKind.u64.bits))
  simp only[cK];rw[AF (by omega) (by omega)];exact this
def Vp{m:Int}{x:Dc}(h:EY m x):EY (m+1) (Fb x).2:=by
 obtain⟨z,G,O⟩:=h;exact⟨z,by simp only[Fb];omega,by simp only[Fb];omega⟩
def AD(x:Dc)(n:Int):Int×Dc:=if n<=1 then (0,x) else ((Fb x).1 % n,(Fb x).2)
def GV(x:Dc)(n:Int):0<=(AD x n).1/\(1<=n->(AD x n).1<n):=by
 simp only[AD];split
 .exact⟨Gy _,λh=>by omega⟩
 .exact⟨Int.emod_nonneg _ (by omega),λ_=>Int.emod_lt_of_pos _ (by omega)⟩
def DK{m:Int}{x:Dc}(h:EY m x)(n:Int):EY (m+1) (AD x n).2:=by
 simp only[AD];split
 .exact h.mono (by omega)
 .exact Vp h
def Am(x:Dc):List AV:=[.im (.sl false 1 (x.code.map FO)),.im (.int .i64 x.at'),.im (.int .u64 x.seed)]
def Ay(x:Dc):Au:=[(0,(true,.cells 125 (Am x)))]
def E6(x:Dc)(j:Nat):Av (Ay x) j=true↔j<1:=by
 simp only[Av,Ay,hget];by_cases z:j=0
 .subst z;simp
 .have:(0==j)=false:=by simpa using λh=>z h.symm
  rw[this];simp;omega
def B3(j:Nat):Bool:=j==0
def nxt_.ca(_:Dc):List AV:=[.ptr 0 0]
def nxt_.H1(x:Dc):Au:=Ay (Fb x).2
def nxt_.row:AO:=AM nxt_.ca Ay 1 (λx=>EY 1000000 x) B3 (λx=> .im (.int .i64 (Fb x).1)) nxt_.H1 0
def nxt_.ok:AS 88 nxt_.row:=by
 refine ow tN Tryz.func88 (exB:=λ_=>false) (R:=λx r=>r= .im (.int .i64 (Fb x).1)) (λ_=>rfl)
  (λa=>by simp[nxt_.ca,Ay,Am,nxt_.H1,B3,AL,AV.bel,AH,Cz,Df,Ah.nms,AE,AV.nms,Av,hget]) (λa p hp=> ?_) (λa r h=>by subst h;exact ED.refl _) ?_
 rotate_left
 intro a z;simp only[Tryz.f88,Option.getD,nxt_.ca,Ay,Am,nxt_.H1,B3];simp(disch:=omega)only[ZZ,simprocAttr,Ab,Az,nxt_.ca,Ay,Am,nxt_.H1,B3]
 .obtain⟨Z,h2,h3⟩:=z;have O:IntKind.i64.wrap (a.at'+1)=a.at'+1:=AF (by omega) (by omega);by_cases c:a.at'<a.code.length
  .rw[Ak c];refine⟨h2,c,λx Q=> ?_⟩;have e:Hh a=x:=by simp only[Hh];rw[Ak c,Q];rfl
   have aa:=Z x (Bd Q);have G:IntKind.i64.wrap x=x:=AF (by omega) (by omega);simp only[FO];simp(disch:=omega)only[ZZ,simprocAttr,Ab,Az,nxt_.ca,Ay,Am,nxt_.H1,B3,O,G];simp only[Fb,e,sdR,cK];split
   .exact⟨rfl,trivial,trivial,trivial⟩
   .exact⟨rfl,trivial,trivial,trivial⟩
  .rw[Ad c];have e:Hh a=0:=by simp only[Hh];rw[Ad c]
   simp(disch:=omega)only[ZZ,simprocAttr,Ab,Az,nxt_.ca,Ay,Am,nxt_.H1,B3,O];simp only[Fb,e,sdR,cK];split
   .exact⟨rfl,trivial,trivial,trivial⟩
   .exact⟨rfl,trivial,trivial,trivial⟩
 simp[nxt_.H1,Ay] at hp;subst hp;exact .inl ⟨by omega,rfl,rfl⟩
def pck_.ca(a:Dc×Int):List AV:=[.ptr 0 0,.im (.int .i64 a.2)]
def pck_.H0(a:Dc×Int):Au:=Ay a.1
def pck_.H1(a:Dc×Int):Au:=Ay (AD a.1 a.2).2
def pck_.row:AO:=AM pck_.ca pck_.H0 1 (λa=>EY 900000 a.1/\a.2<=200) B3 (λa=> .im (.int .i64 (AD a.1 a.2).1)) pck_.H1 0
def pck_.ok:AS 34 pck_.row:=by
 refine ow (tC nxt_.ok tN) Tryz.func34 (exB:=λ_=>false) (R:=λa r=>r= .im (.int .i64 (AD a.1 a.2).1)) (λ_=>rfl)
  (λa=>by simp[pck_.ca,pck_.H0,Ay,Am,pck_.H1,B3,AL,AV.bel,AH,Cz,Df,Ah.nms,AE,AV.nms,Av,hget]) (λa p hp=> ?_) (λa r h=>by subst h;exact ED.refl _) ?_
 rotate_left
 intro a z;simp only[Tryz.f34,Option.getD,pck_.ca,pck_.H0,Ay,Am,pck_.H1,B3];simp(disch:=omega)only[ZZ,simprocAttr,Ab,Az,pck_.ca,pck_.H0,Ay,Am,pck_.H1,B3]
 .obtain⟨O,Z⟩:=z;by_cases c:a.2<=1
  .rw[Ak c];simp only[AD];rw[Ak c];exact⟨rfl,rfl,rfl,rfl⟩
  .rw[Ad c];refine AM.os a.1 [0] (O.mono (by omega)) (λj=>E6 _ j) rfl rfl ?_ ?_
   .simp(disch:=omega)only[ZZ,simprocAttr,Ab,Az,pck_.ca,pck_.H0,Ay,Am,pck_.H1,B3,nxt_.ca,Ay,Am,Bt,Cl]
    try exact⟨rfl,rfl⟩
   have G:AD a.1 a.2=((Fb a.1).1 % a.2,(Fb a.1).2):=Ad c;have Q:=aL O;simp(disch:=omega)only[ZZ,simprocAttr,Ab,Az,pck_.ca,pck_.H0,Ay,Am,pck_.H1,B3,nxt_.H1,Ay,Am,B3,sub,Cl,G];rw[Ad (by omega)];exact⟨by omega,eT Q.1⟩
 simp[pck_.H1,Ay] at hp;subst hp;exact .inl ⟨by omega,rfl,rfl⟩
def one_.H1(a:Dc×Int):Au:=Ay (AD a.1 a.2).2
def one_.row:AO:=AM pck_.ca pck_.H0 1 (λa=>EY 900000 a.1/\a.2<=200) B3 (λa=> .im (.bool (decide ((AD a.1 a.2).1=0)))) one_.H1 0
def one_.ok:AS 80 one_.row:=by
 refine ow (tC pck_.ok tN) Tryz.func80 (exB:=λ_=>false) (R:=λa r=>r= .im (.bool (decide ((AD a.1 a.2).1=0)))) (λ_=>rfl)
  (λa=>by simp[pck_.ca,pck_.H0,Ay,Am,one_.H1,B3,AL,AV.bel,AH,Cz,Df,Ah.nms,AE,AV.nms,Av,hget]) (λa p hp=> ?_) (λa r h=>by subst h;exact ED.refl _) ?_
 rotate_left
 intro a z;simp only[Tryz.f80,Option.getD,pck_.ca,pck_.H0,Ay,Am,one_.H1,B3];simp(disch:=omega)only[ZZ,simprocAttr,Ab,Az,pck_.ca,pck_.H0,Ay,Am,one_.H1,B3]
 .obtain⟨G,O⟩:=z;refine AM.os a [0] ⟨G,O⟩ (λj=>E6 _ j) rfl rfl ?_ ?_
  .simp(disch:=omega)only[ZZ,simprocAttr,Ab,Az,pck_.ca,pck_.H0,Ay,Am,one_.H1,B3,pck_.ca,pck_.H0,Ay,Am,Bt,Cl]
   try exact⟨rfl,rfl⟩
  simp(disch:=omega)only[ZZ,simprocAttr,Ab,Az,pck_.ca,pck_.H0,Ay,Am,one_.H1,B3,pck_.H1,Ay,Am,B3,sub,Cl]
 simp[one_.H1,Ay] at hp;subst hp;exact .inl ⟨by omega,rfl,rfl⟩
def frm_.ca(l:List Int):List AV:=[.im (.sl false 1 (l.map FO))]
def frm_.H1(l:List Int):Au:=Ay ⟨l,0,0⟩
def frm_.row:AO:=AM frm_.ca (λ_=>[]) 0 (λ_=>True) (λ_=>false) (λ_=> .ptr 0 0) frm_.H1 5
def frm_.ok:AS 28 frm_.row:=by
 refine ow tN Tryz.func28 (exB:=λj=>j==0) (R:=λ_ r=>r= .ptr 0 0) (λ_=>rfl)
  (λa=>by simp[frm_.ca,Ay,Am,frm_.H1,AL,AV.bel,AH,Cz,Df,Ah.nms,AE,AV.nms,Av,hget]) (λa p hp=> ?_) (λa r h=>by subst h;exact ED.refl _) ?_
 rotate_left
 intro a z;simp only[Tryz.f28,Option.getD,frm_.ca,Ay,Am,frm_.H1];simp(disch:=omega)only[ZZ,simprocAttr,Ab,Az,frm_.ca,Ay,Am,frm_.H1];simp[frm_.H1,Ay] at hp;subst hp;exact .inr ⟨by omega,by omega,rfl,rfl⟩
def Ly(k:Int):ByteArray:=Ko [48+k]
def dec_.fv(a:Int):ByteArray:=(Ly) a
def dec_.row:AO:=vK (b1 qI) rT (λa=>0<=a/\a<=9) dec_.fv
def dec_.q:=B2 (R:=dec_.row) rfl
def dec_.ok:AS 85 dec_.row:=by
 refine vw tN Tryz.func85 ?_;intro a z;simp only[Tryz.f85,Option.getD];simp(disch:=omega)only[ZZ,simprocAttr,Ab,dec_.fv];refine Bc.old ⟨{q:Nat//q<=1/\(a=0->q=0)},λq=>⟨[(4,.im (.int .i64 (if q.1=0 then a else 0))),(3,.im (.str (if q.1=0 then ByteArray.empty else Ko [48+a]))),(2,.im (.str ByteArray.empty)),(0,.im (.int .i64 a))],[],0⟩,λq=>1 - q.1,λq=>⟨by simp[ZG],by simp⟩,⟨⟨0,by simp⟩,by simp(disch:=omega)only[ZZ,simprocAttr,Ab,dec_.fv,sub];rfl⟩,λq=> ?_⟩;obtain⟨q,aa,O⟩:=q;have Q:a.tmod 10=a:=by rw[eT z.1];omega
 have G:a.tdiv 10=0:=by rw[Zdl z.1];omega
 have Z:IntKind.i64.wrap (48+a)=48+a:=AF (by omega) (by omega);have e4:IntKind.u8.wrap (48+a)=48+a:=by
  unfold IntKind.wrap;have e:IntKind.u8.bits=8:=rfl;have G:IntKind.u8.signed=false:=rfl;simp only[e,G,Gx,Dx,CY];omega
 rcases (by omega:q=0\/q=1) with rfl|rfl
 .simp(disch:=omega)only[ZZ,simprocAttr,Ab,dec_.fv,sub,AQ,Q,G,Z,e4];refine⟨λh0=>⟨λh=>by omega,λ_=>⟨?_,⟨1,by omega,λh=>absurd h h0⟩,by simp,?_,?_⟩⟩,λh0=> ?_⟩
  .show 1+0<=9223372036854775807;omega
  .exact AF (by decide) (by decide)
  .show _++ByteArray.empty=_;simp
  .obtain rfl:a=0:=I3.1 h0;exact⟨λ_=>rfl,λh=>absurd rfl h⟩
 .simp(disch:=omega)only[ZZ,simprocAttr,Ab,dec_.fv,sub,AQ];refine⟨λh=> ?_,λh=>⟨λh1=>by omega,λ_=> ?_⟩⟩
  .exact absurd (O h) (by decide)
  .rfl
end Go.Ae
namespace Go.Ae
open Go Go.Proofs
section
variable {H:Type}{enc:TypeId×Value->H}{W:World}
def VP{P:Program}{t:TypeId}(O:P.underlying t=some (.int .u8)):Rds enc P W t FO (λn:Int=>0<=n/\n<=255):=by
 intro G Q x h _;obtain⟨n,rfl,_,z⟩:=DataW.trod_int O h;refine⟨n,⟨_,_,rfl,rfl,rfl⟩,?_⟩;simp only[Lit.wf,AZ,BA] at z;exact⟨z.1,z.2⟩
def oR:Rds enc Tryz.prog W 22 (λl:List Int=>[.sl false 1 (l.map FO)]) PE:=
 Q2 (c:=FO) Tryz.underlying22 (by kernel_rfl) (by decide) (by decide+kernel) (λ_=>rfl) (VP Tryz.underlying5)
end
end Go.Ae
namespace Go.Ae
open Go.Proofs
def xA(k:Int):(Ly k).size=1:=rfl
def Jh(c:UInt8)(k:Int):ByteArray:=⟨#[c]⟩++Ly k
def Fa(l:List Tile)(i d:Nat)(v:Int):List Tile:=l.modify i λt=>{t with Sides:=t.Sides.set d v}
def D9:Nat->Dc->(List AG×List Tile)×Dc
 |0,x=>(([⟨⟨#[122,101,114,111]⟩,1⟩,⟨⟨#[111,110,101]⟩,1⟩],[⟨⟨#[115,101,101,100]⟩,[0,0,0,0]⟩]),x)
 |k+1,x=>
  let r:=D9 k x
  let n:Int:=(k:Int)+3
  ((r.1.1++[⟨Jh 120 k,2⟩],Fa r.1.2 k 1 n++[⟨Jh 101 k,[1+(AD r.2 2).1,0,0,n]⟩]),(AD r.2 2).2)
def DY(w:Nat)(s:(List AG×List Tile)×Dc):Nat->(List AG×List Tile)×Dc
 |0=>s
 |k+1=>
  let r:=DY w s k
  let n:Int:=(w:Int)+k+3
  ((r.1.1++[⟨Jh 121 k,2⟩],Fa r.1.2 (if k=0 then 0 else w+k) 0 n++[⟨Jh 110 k,[0,1+(AD r.2 2).1,n,0]⟩]),(AD r.2 2).2)
def Gj(s:List Tile×Dc):Nat->List Tile×Dc
 |0=>s
 |k+1=>
  let r:=Gj s k
  let p:=AD r.2 2
  (r.1++[⟨Jh 114 k,[1+p.1,1+(AD p.2 2).1,1+(k:Int) % 2,1+(k:Int)/2]⟩],(AD p.2 2).2)
def EP(x:Dc):An×Dc:=
 let p:=AD x 4
 let q:=AD p.2 4
 let a:=D9 (1+p.1).toNat q.2
 let b:=DY (1+p.1).toNat a (1+q.1).toNat
 let c:=Gj (b.1.2,b.2) 4
 let z:=AD c.2 3
 let u:=AD z.2 2
 let v:=AD u.2 2
 (⟨⟨b.1.1,if z.1=0 then c.1++[⟨⟨#[114,52]⟩,[1,2,1+u.1,1+v.1]⟩] else c.1⟩,⟨[⟨⟨0,0⟩,0⟩]⟩,2⟩,if z.1=0 then v.2 else z.2)
def Fq:Nat->Dc->List Int×Dc
 |0,x=>([],x)
 |k+1,x=>((Fq k x).1++[(AD (Fq k x).2 20).1],(AD (Fq k x).2 20).2)
def L9(code:List Int):List Int:=let p:=AD ⟨code,0,0⟩ 7;(Fq p.1.toNat p.2).1
def NZ{m:Int}{x:Dc}(h:EY m x): ∀k:Nat,EY (m+k) (Fq k x).2
 |0=>by simpa[Fq] using h
 |k+1=>by
  have:=DK (NZ h k) 20
  exact this.mono (by omega)
def wM(x:Dc): ∀k,(Fq k x).1.length=k
 |0=>rfl
 |k+1=>by simp[Fq,wM x k]
def lsc_.fv(a:(List Int)):List Int:=(L9) a
def lsc_.row:AO:=vK (b1 (qS Yp Yw)) (rS Ez Dy) (λa=>PE a) lsc_.fv
def lsc_.q:=B2 (R:=lsc_.row) rfl
def lsc_.ok:AS 20 lsc_.row:=by
 refine vw (tC frm_.ok (tC pck_.ok tN)) Tryz.func20 ?_;intro a O;simp only[Tryz.f20,Option.getD];simp(disch:=omega)only[ZZ,simprocAttr,Ab,lsc_.fv];refine AM.os a [] trivial (λj=>by simp[Av,hget]) rfl rfl ?_ ?_
 .simp(disch:=omega)only[ZZ,simprocAttr,Ab,lsc_.fv,frm_.ca,EJ]
  try exact⟨rfl,rfl⟩
 have h0:EY 0 ⟨a,0,0⟩:=⟨O,Gy _,Gy _⟩;simp(disch:=omega)only[ZZ,simprocAttr,Ab,lsc_.fv,frm_.H1,Ay,Am,sub];refine AM.os (⟨a,0,0⟩,7) [1] ⟨h0.mono (by decide),by simp only;omega⟩ (λj=>E6 _ j) rfl rfl ?_ ?_
 .simp(disch:=omega)only[ZZ,simprocAttr,Ab,lsc_.fv,pck_.ca,pck_.H0,Ay,Am,Bt,Cl]
  try exact⟨rfl,rfl⟩
 simp(disch:=omega)only[ZZ,simprocAttr,Ab,lsc_.fv,pck_.H1,Ay,Am,B3,sub,Cl];obtain⟨p,hp⟩: ∃p,p=AD ⟨a,0,0⟩ 7:=⟨_,rfl⟩;have Q:=GV ⟨a,0,0⟩ 7;have z:=DK h0 7;simp only[L9,<-hp] at Q z⊢;have aa:=Q.1;have ab:=Q.2 (by decide);refine Bc.ren ⟨{k:Nat//k<=p.1.toNat},λk=>⟨[(5,.im (.int .i64 (p.1 - k.1))),(4,.own 7),(3,.ptr 1 0)],[(1,(true,.cells 125 [.im (.sl false 1 ((Fq k.1 p.2).2.code.map FO)),.im (.int .i64 (Fq k.1 p.2).2.at'),.im (.int .u64 (Fq k.1 p.2).2.seed)])),(7,(true,.arr 2 1 ((Fq k.1 p.2).1.map Af)))],8⟩,λk=>p.1.toNat - k.1,λk=>⟨by simp[ZG],by simp⟩,⟨⟨0,Cx _⟩,[(7,some 6)],?_⟩,λk=> ?_⟩
 .simp only[Ao,Fq];simp(disch:=omega)only[ZZ,simprocAttr,Ab,lsc_.fv,AU,AT,BY]
  try simp
 obtain⟨k,hk⟩:=k;have hl:=wM p.2 k;have G:=NZ z k;simp(disch:=omega)only[ZZ,simprocAttr,Ab,lsc_.fv,sub,AQ];refine⟨λZ=> ?_,λZ=> ?_⟩
 .refine AM.os ((Fq k p.2).2,20) [1] ⟨G.mono (by omega),by simp only;omega⟩ (λj=>E6 _ j) rfl rfl ?_ ?_
  .simp(disch:=omega)only[ZZ,simprocAttr,Ab,lsc_.fv,pck_.ca,pck_.H0,Ay,Am,Bt,Cl]
   try exact⟨rfl,rfl⟩
  simp(disch:=omega)only[ZZ,simprocAttr,Ab,lsc_.fv,pck_.H1,Ay,Am,B3,sub,Cl];refine⟨by simp[B7,B8,D.one],by omega,⟨k+1,by omega⟩,[(7,some 9)],by simp only;omega,?_⟩;simp only[Ao];simp(disch:=omega)only[ZZ,simprocAttr,Ab,lsc_.fv,AU,AT];refine⟨?_,?_,?_⟩
  .rw[AF (by omega) (by omega)];omega
  .exact⟨rfl,rfl,rfl⟩
  .simp[Fq,Af]
 .rw[show k=p.1.toNat by omega]
def Yr(h:Nat->Option Aq)(kx:Nat->Option Nat)(n:Nat): ∀(rows:List (List D)),AA (AA (Bx h kx (n+1))) (rows.map λr=>r.map AV.im)=some (rows.map λr=>r.map AV.im)
 |[]=>rfl
 |r::G=>by
  have z: ∀l:List D,AA (Bx h kx (n+1)) (l.map AV.im)=some (l.map AV.im):=by
   intro l;induction l with
   |nil=>rfl
   |cons d l ih=>simp only[Bm,AA,Bx,ih,kp]
  simp only[Bm,AA,z,Yr h kx n G,kp]
def oT(σ:Nat->Nat)(r:List D):Bn σ (r.map AV.im)=r.map AV.im:=by
 induction r with
 |nil=>rfl
 |cons d l ih=>simp only[Bm,Bn,AV.ren,ih]
def NO(σ:Nat->Nat)(rows:List (List D)):(rows.map λr=>r.map AV.im).map (Bn σ)=rows.map λr=>r.map AV.im:=by
 rw[Xw];refine SO λr _=>oT σ r
def Bf(s:An):Au:=[(1,(true,.arr 133 2 (s.Set.Glues.map AG.c))),(2,(true,.arrA 135 2 (Bo (s.Set.Tiles.map Tile.c)))),(3,(true,.arr 136 3 (s.Seed.Tiles.map Ar.c)))]
def Bg(s:An):AV:= .agg [.own 1,.own 2,.own 3,.im (.int .i64 s.Temperature)]
def wld_.ca(_:Dc):List AV:=[.ptr 0 0]
def Yo(z:List Int)(n:Nat)(v:Int):(z.map Af).set n [D.int .i64 v]=(z.set n v).map Af:=(SR (f:=Af)).symm
def Yv{π:List (Nat×Option Nat)}{a b:List (List AV)}{x y:List AV}(h:Fu π a b)(z:DB π x y):Fu π (a++[x]) (b++[y]):=by
 induction a generalizing b with
 |nil=>cases b with
  |nil=>exact⟨z,trivial⟩
  |cons=>exact h.elim
 |cons u a ih=>cases b with
  |nil=>exact h.elim
  |cons v b=>exact⟨h.1,ih h.2⟩
end Go.Ae
