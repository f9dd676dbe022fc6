/- Lemmas. Conditions: none. -/
import Derived.Test.YtogafbdeamcpnaaGreatDoorP07
import Derived.ProofKit
import Derived.SizedLaws
import Derived.OpenShut
import Derived.Test.YtogafbdeamcpnaaGreatDoorRows
import Derived.Carry
import Derived.WalkKit
set_option linter.all false
set_option maxHeartbeats 8000000
set_option maxRecDepth 100000
namespace Go.Ae
open Go Go.Proofs
section
variable {H:Type}{enc:TypeId×Value->H}{P:Program}{W:World}
def EM{H:Type}(enc:TypeId×Value->H)(P:Program)(W:World)(t:TypeId){α:Type}(c:α->List D)(Q:α->Prop):Prop:=
 ∀(fuel:Nat) (cs:List Value) (x:DataW H×List MemPlace),DataW.trod enc P W 0 (λ_=>true) true fuel t cs=some x->(x.1.weights P t).all (· <=reachBytes)=true->
  ∃y:α,rdl (λb=>b<W.heap.size) (λb=>W.heap[b]?) (c y) cs/\Q y
def EM.to{t:TypeId}{α β:Type}{c:α->List D}{Q:α->Prop}{c':β->List D}{Q':β->Prop}(h:EM enc P W t c Q)(f:α->β)(hc: ∀y,c' (f y)=c y)(hQ: ∀y,Q y->Q' (f y)):EM enc P W t c' Q':=by
 intro z G x O Z;obtain⟨y,g1,g2⟩:=h z G x O Z;exact⟨f y,by rw[hc];exact g1,hQ y g2⟩
def iB{t:TypeId}(G:P.underlying t=some (.int .i64)):EM enc P W t (λn:Int=>[.int .i64 n]) (λ_=>True):=by
 intro z O x h _;obtain⟨n,rfl,_,_⟩:=DataW.trod_int G h;exact⟨n,⟨_,_,rfl,rfl,rfl⟩,trivial⟩
def Mh{t:TypeId}(O:P.underlying t=some .string):EM enc P W t (λs:ByteArray=>[.str s]) (λs=>s.size<=140737488355328):=by
 intro z Z x h Q;obtain⟨s,rfl,rfl,_⟩:=DataW.trod_string O h;refine⟨s,⟨_,_,rfl,rfl,rfl⟩,?_⟩;have G:=Dp.1 Q s.data.toList.length (by simp[DataW.weights]);rw[Ch,E8] at G;have h2:s.data.size=s.size:=rfl;have h3:reachBytes<=140737488355328:=by decide
 omega
def vO{ok:Nat->Prop}{hp:Nat->Option Obj}: ∀(a:List D) (x:List Value) {b:List D} {y:List Value},rdl ok hp a x->rdl ok hp b y->rdl ok hp (a++b) (x++y)
 |[],x,b,y,z,G=>by
  simp only[rdl] at z;subst z;exact G
 |d::a,x,b,y,z,G=>by
  simp only[rdl] at z;obtain⟨v,r,rfl,O,Q⟩:=z;exact⟨v,r++y,rfl,O,vO a r Q G⟩
def Qzi{ok:Nat->Prop}{hp:Nat->Option Obj}: ∀(a:List D) (x:List Value) (y:List Value),rdl ok hp a x->rdp ok hp a (x++y)
 |[],x,y,z=>trivial
 |d::a,x,y,z=>by
  simp only[rdl] at z;obtain⟨v,r,rfl,G,O⟩:=z;exact⟨v,r++y,rfl,G,Qzi a r y O⟩
def pick{α:Type}{R:Nat->α->Prop}: ∀(n:Nat),(∀i,i<n-> ∃y,R i y)-> ∃l:List α,l.length=n/\ ∀i y,l[i]? =some y->R i y
 |0,_=>⟨[],rfl,λi y h=>by simp at h⟩
 |n+1,h=>by
  obtain⟨l,Q,Z⟩:=pick n (λi O=>h i (by omega));obtain⟨y,hy⟩:=h n (by omega);refine⟨l++[y],by simp[Q],λi z G=> ?_⟩;rcases EO i n with O|O
  .rw[E7 (by omega)] at G;exact Z i z G
  .rw[Fo (by omega)] at G
   have:i - l.length=0:=by
    rcases jD (i - l.length) with h0|h0
    .exact h0
    .rw[F7 (by simp;omega)] at G;cases G
   rw[this] at G;obtain rfl:=AE G
   have:i=n:=by omega
   rw[this];exact hy
def Qz1{ok:Nat->Prop}{hp:Nat->Option Obj}{α:Type}{c:α->List D}{k:Nat}(hc: ∀y,(c y).length=k): ∀(l:List α) (L:List Value),(∀i y,l[i]? =some y->rdp ok hp (c y) (L.drop (i*k)))->rdr ok hp k (l.map c) L
 |[],L,_=>trivial
 |y::r,L,h=>by
  refine⟨hc y,?_,Qz1 hc r (L.drop k) (λi z G=> ?_)⟩
  .have:=h 0 y rfl
   rwa [dK,GN] at this
  .have:=h (i+1) z G
   rwa [Ey,show k+i*k=(i+1)*k by rw[Fi,Iq,rV]]
def Qy9{a:Addr}{k:Nat}{cs:List Value}(hk:0<k)(h:W.cells? 0 a k=some cs):a.spot=none/\ ∃Z T fr,W.heap[a.block]? =some (.cells Z T fr)/\ ∃r,Z.toList.drop a.off=cs++r/\cs.length=k:=by
 unfold World.cells? at h;rw[Ao (CF _)] at h;have hl:=mapM_some_length h;rw[Zc] at hl;have hg: ∀i,i<k->W.cell? (a.add i)=cs[i]? :=λi Q=>mapM_some_get h i i (by rw[HK Q])
 have h0:=hg 0 hk;rw[Bh (by omega)] at h0;have O:a.spot=none:=by
  cases hs:a.spot with
  |none=>rfl
  |some s=>
   exfalso
   have:(a.add 0).spot.isSome=true:=by
    unfold Addr.add
    split<;>simp_all
   unfold World.cell? at h0;split at h0
   .rw[Ao this] at h0;cases h0
   .cases h0
 refine⟨O,?_⟩;obtain⟨b,off,sp⟩:=a;simp only at O;subst O;have z: ∀i,(⟨b,off,none⟩:Addr).add i=⟨b,off+i,none⟩:=λi=>Ps b off i
 rw[z] at h0;unfold World.cell? at h0;simp only at h0;split at h0
 .rename_i Z T fr hb;simp only[Zb,CE,Cy] at h0;refine⟨Z,T,fr,hb,(Z.toList.drop off).drop k,?_,hl⟩;have G: ∀i,i<k->Z[off+i]? =cs[i]? :=by
   intro i Q
   have:=hg i Q
   rw[z] at this;simp only[World.cell?,hb,Zb,CE,Cy] at this;exact this
  apply JE;intro i;rw[HN,G4];rcases EO i k with Q|Q
  .rw[E7 (by omega)];exact G i Q
  .rw[Fo (by omega),HN,HN,G4];congr 1;show off+i=off+(k+(i - cs.length));omega
 .cases h0
def oY{t e:TypeId}{α:Type}{c:α->List D}{Q:α->Prop}{k:Nat}(ht:P.underlying t=some (.slice e))(hk:P.cellsOf e=k)(ah:0<k)(hb:1<=P.bytesOf e)(hc: ∀y,(c y).length=k)(h:EM enc P W e c Q):
 EM enc P W t (λl:List α=>[.sl false k (l.map c)]) (λl=> ∀y∈l,Q y):=by
 intro ax cs x hx hw;rcases DataW.trod_slice ht hx with ⟨rfl,rfl⟩|⟨a,len,cap,O,an,m,rfl,rfl,rfl,_,aq,_,az,ab,Z,_⟩
 .exact⟨[],⟨_,_,rfl,.inl ⟨.inl rfl,rfl⟩,rfl⟩,by simp⟩
 obtain⟨a0,Z⟩:=Z rfl;simp only[DataW.weights,ht,Je,rP,AS,Ch,FM] at hw;obtain⟨w1,w2,_⟩:=hw;have ai:len<=Kr:=by
  have:=Nat.mul_le_mul_left (O.length+an.length) hb
  simp only[reachBytes,Kr] at w1⊢;omega
 by_cases af:cap=0
 .subst af
  have:len=0:=by omega
  subst this;exact⟨[],⟨_,_,rfl,.inl ⟨.inr ⟨rfl,a,rfl⟩,rfl⟩,rfl⟩,by simp⟩
 have ac: ∀i,i<cap-> ∃cs,W.cells? 0 (a.add (i*k)) k=some cs:=by
  intro i hi;rw[hk] at ab Z;rcases EO i len with h1|h1
  .have:=ab i h1
   rw[Bh (by omega)] at this;cases hq:W.cells? 0 (a.add (i*k)) k with
   |none=>rw[hq] at this;cases this
   |some cs=>exact⟨cs,rfl⟩
  .have:=Z (i - len) (by omega)
   rw[show len+(i - len)=i by omega,Bh (by omega)] at this;cases hq:W.cells? 0 (a.add (i*k)) k with
   |none=>rw[hq] at this;cases this
   |some cs=>exact⟨cs,rfl⟩
 obtain⟨ay,ag⟩:=ac 0 (by omega);obtain⟨am,vs,T,fr,G,_⟩:=Qy9 ah ag;have ak:a.spot=none:=by
  cases hs:a.spot with
  |none=>rfl
  |some s=>
   exfalso
   have:(a.add (0*k)).spot.isSome=true:=by
    unfold Addr.add
    split<;>simp_all
   rw[am] at this;cases this
 obtain⟨b,off,sp⟩:=a;simp only at ak;subst ak;have aa: ∀i,(⟨b,off,none⟩:Addr).add i=⟨b,off+i,none⟩:=λi=>Ps b off i
 rw[aa] at G;simp only at G;have au: ∀i,i<len-> ∃y:α,rdp (λb=>b<W.heap.size) (λb=>W.heap[b]?) (c y) ((vs.toList.drop off).drop (i*k))/\Q y:=by
  intro i hi;have h1:=ab i hi;rw[hk,Bh (by omega)] at h1;cases hq:W.cells? 0 ((⟨b,off,none⟩:Addr).add (i*k)) k with
  |none=>rw[hq] at h1;cases h1
  |some ci=>
   rw[hq,EN] at h1;obtain⟨_,aw,T',ao,hh,r,hr,_⟩:=Qy9 ah hq;rw[aa] at hh hr;simp only at hh hr;rw[G] at hh;obtain⟨rfl,rfl,rfl⟩:vs=aw/\T=T'/\fr=ao:=by
    have:=AE hh
    simp only[Obj.cells.injEq] at this;exact this
   have av:(O[i].1.weights P e).all (· <=reachBytes)=true:=by
    rw[Dp] at w2⊢;intro n hn;refine w2 n ?_
    have: ∀(l:List (DataW H)) (d:DataW H),d∈l-> ∀n∈d.weights P e,n∈DataW.weightsAll P e l:=by
     intro l;induction l with
     |nil=>intro d hd;cases hd
     |cons z r ih=>
      intro d hd n hn;simp only[DataW.weightsAll,Br];rcases Bi.1 hd with rfl|hd
      .exact .inl hn
      .exact .inr (ih d hd n hn)
    exact this _ O[i].1 (Bm.2 ⟨O[i],Q4 _,rfl⟩) n hn
   obtain⟨y,g1,g2⟩:=h m ci O[i] h1 av;refine⟨y,?_,g2⟩;rw[Ey,hr];exact Qzi _ _ _ g1
 obtain⟨l,hl,aj⟩:=pick (R:=λi y=>rdp (λb=>b<W.heap.size) (λb=>W.heap[b]?) (c y) ((vs.toList.drop off).drop (i*k))/\Q y) len au;have ad:b<W.heap.size:=by
  rcases EO b W.heap.size with h|h
  .exact h
  .rw[Wy h] at G;cases G
 refine⟨l,⟨_,_,rfl,.inr ⟨b,off,cap,vs,T,fr,by rw[FM,hl],by simp,by rw[FM,hl];exact aq,by rw[FM,hl];exact ai,ad,G,Qz1 hc l _ (λi y hy=>(aj i y hy).1)⟩,rfl⟩,λy hy=> ?_⟩;obtain⟨i,hi⟩:=List.getElem?_of_mem hy;exact (aj i y hi).2
def fO{t:TypeId}{α0:Type}{c0:α0->List D}{Z:α0->Prop}{G:Field}(ht:P.underlying t=some (.struct #[G]))(o0:G.offset=0)(hn:P.cellsOf t=P.cellsOf G.type)(h0:EM enc P W G.type c0 Z):
 EM enc P W t (λy:α0=>c0 (y)) (λy=>Z (y)):=by
 intro aa O x h hw;obtain⟨xs,m,rfl,rfl,hl,Q,hf⟩:=DataW.trod_struct ht h;have hx: ∀i,i<1-> ∃z,xs[i]? =some z:=λi hi=>⟨_,Bh (by rw[Q];exact hi)⟩
 simp only[DataW.weights,ht] at hw;obtain⟨z0,e0⟩:=hx 0 (by decide);obtain⟨y0,r0,q0⟩:=h0 m _ z0 ((hf 0 G rfl).trans e0) (Dp.2 λk hk=>Dp.1 hw k (DataW.weights_mem_each (j:=0) (t:=G.type) (d:=z0.1) rfl (by rw[D9,e0];rfl) k hk));rw[o0] at r0;refine⟨(y0),?_,q0⟩;simp only;have e:O=(O.drop (0)).take (P.cellsOf G.type):=by
  have ab:O.length=P.cellsOf G.type:=hl.trans hn;rw[GN,DB (by omega)]
 rw[e];exact r0
def qH{t:TypeId}{α0:Type}{c0:α0->List D}{Q0:α0->Prop}{G:Field}{α1:Type}{c1:α1->List D}{Q1:α1->Prop}{O:Field}(ht:P.underlying t=some (.struct #[G,O]))(o0:G.offset=0)(o1:O.offset=P.cellsOf G.type)(hn:P.cellsOf t=P.cellsOf G.type+P.cellsOf O.type)(h0:EM enc P W G.type c0 Q0)(h1:EM enc P W O.type c1 Q1):
 EM enc P W t (λy:α0×α1=>c0 (y.1)++(c1 (y.2))) (λy=>Q0 (y.1)/\Q1 (y.2)):=by
 intro ab Q x h hw;obtain⟨xs,m,rfl,rfl,hl,aa,hf⟩:=DataW.trod_struct ht h;have hx: ∀i,i<2-> ∃z,xs[i]? =some z:=λi hi=>⟨_,Bh (by rw[aa];exact hi)⟩
 simp only[DataW.weights,ht] at hw;obtain⟨z0,e0⟩:=hx 0 (by decide);obtain⟨y0,r0,q0⟩:=h0 m _ z0 ((hf 0 G rfl).trans e0) (Dp.2 λk Z=>Dp.1 hw k (DataW.weights_mem_each (j:=0) (t:=G.type) (d:=z0.1) rfl (by rw[D9,e0];rfl) k Z));rw[o0] at r0;obtain⟨z1,e1⟩:=hx 1 (by decide);obtain⟨y1,r1,q1⟩:=h1 m _ z1 ((hf 1 O rfl).trans e1) (Dp.2 λk Z=>Dp.1 hw k (DataW.weights_mem_each (j:=1) (t:=O.type) (d:=z1.1) rfl (by rw[D9,e1];rfl) k Z));rw[o1] at r1;refine⟨(y0,y1),?_,q0,q1⟩;simp only;have e:Q=(Q.drop (0)).take (P.cellsOf G.type)++((Q.drop (P.cellsOf G.type)).take (P.cellsOf O.type)):=by
  have ac:Q.length=P.cellsOf G.type+P.cellsOf O.type:=hl.trans hn;rw[GN];rw[DB (l:=Q.drop (P.cellsOf G.type)) (by rw[Cx];omega)];rw[KA]
 rw[e];exact vO _ _ r0 (r1)
def fP{t:TypeId}{α0:Type}{c0:α0->List D}{Q0:α0->Prop}{G:Field}{α1:Type}{c1:α1->List D}{Q1:α1->Prop}{O:Field}{α2:Type}{c2:α2->List D}{Q2:α2->Prop}{Z:Field}(ht:P.underlying t=some (.struct #[G,O,Z]))(o0:G.offset=0)(o1:O.offset=P.cellsOf G.type)(o2:Z.offset=P.cellsOf G.type+P.cellsOf O.type)(hn:P.cellsOf t=P.cellsOf G.type+P.cellsOf O.type+P.cellsOf Z.type)(h0:EM enc P W G.type c0 Q0)(h1:EM enc P W O.type c1 Q1)(h2:EM enc P W Z.type c2 Q2):
 EM enc P W t (λy:α0×α1×α2=>c0 (y.1)++(c1 (y.2.1)++(c2 (y.2.2)))) (λy=>Q0 (y.1)/\Q1 (y.2.1)/\Q2 (y.2.2)):=by
 intro ab Q x h hw;obtain⟨xs,m,rfl,rfl,hl,aa,hf⟩:=DataW.trod_struct ht h;have hx: ∀i,i<3-> ∃z,xs[i]? =some z:=λi hi=>⟨_,Bh (by rw[aa];exact hi)⟩
 simp only[DataW.weights,ht] at hw;obtain⟨z0,e0⟩:=hx 0 (by decide);obtain⟨y0,r0,q0⟩:=h0 m _ z0 ((hf 0 G rfl).trans e0) (Dp.2 λk hk=>Dp.1 hw k (DataW.weights_mem_each (j:=0) (t:=G.type) (d:=z0.1) rfl (by rw[D9,e0];rfl) k hk));rw[o0] at r0;obtain⟨z1,e1⟩:=hx 1 (by decide);obtain⟨y1,r1,q1⟩:=h1 m _ z1 ((hf 1 O rfl).trans e1) (Dp.2 λk hk=>Dp.1 hw k (DataW.weights_mem_each (j:=1) (t:=O.type) (d:=z1.1) rfl (by rw[D9,e1];rfl) k hk));rw[o1] at r1;obtain⟨z2,e2⟩:=hx 2 (by decide);obtain⟨y2,r2,q2⟩:=h2 m _ z2 ((hf 2 Z rfl).trans e2) (Dp.2 λk hk=>Dp.1 hw k (DataW.weights_mem_each (j:=2) (t:=Z.type) (d:=z2.1) rfl (by rw[D9,e2];rfl) k hk));rw[o2] at r2;refine⟨(y0,y1,y2),?_,q0,q1,q2⟩;simp only;have e:Q=(Q.drop (0)).take (P.cellsOf G.type)++((Q.drop (P.cellsOf G.type)).take (P.cellsOf O.type)++((Q.drop (P.cellsOf G.type+P.cellsOf O.type)).take (P.cellsOf Z.type))):=by
  have ac:Q.length=P.cellsOf G.type+P.cellsOf O.type+P.cellsOf Z.type:=hl.trans hn;rw[GN];rw[DB (l:=Q.drop (P.cellsOf G.type+P.cellsOf O.type)) (by rw[Cx];omega)];rw[show Q.drop (P.cellsOf G.type+P.cellsOf O.type)=(Q.drop (P.cellsOf G.type)).drop (P.cellsOf O.type) by rw[Ey],KA];rw[KA]
 rw[e];exact vO _ _ r0 (vO _ _ r1 (r2))
end
section
variable {H:Type}{enc:TypeId×Value->H}{W:World}
def Tb:EM enc Tryz.prog W 98 Ab.c (λ_=>True):=
 (qH Tryz.underlying98 rfl (by kernel_rfl) (by kernel_rfl) (iB Tryz.underlying2) (iB Tryz.underlying2)).to (λy=>(⟨y.1,y.2⟩:Ab)) (λ_=>rfl) (λ_ _=>trivial)
def XE:EM enc Tryz.prog W 31 (λl:List Ab=>[.sl false 2 (l.map Ab.c)]) (λl=> ∀y∈l,True):=
 oY Tryz.underlying31 (by kernel_rfl) (by decide) (by decide+kernel) (λ_=>rfl) Tb
def XD:EM enc Tryz.prog W 147 Ak.c (λ_=>True):=
 (qH Tryz.underlying147 rfl (by kernel_rfl) (by kernel_rfl) Tb (iB Tryz.underlying2)).to (λy=>(⟨y.1,y.2⟩:Ak)) (λ_=>rfl) (λ_ _=>trivial)
def tU:EM enc Tryz.prog W 198 Ar.c (λg=>g.Name.size<=140737488355328):=
 (qH Tryz.underlying198 rfl (by kernel_rfl) (by kernel_rfl) (Mh Tryz.underlying9) (iB Tryz.underlying2)).to (λy=>(⟨y.1,y.2⟩:Ar)) (λ_=>rfl) (λ_ h=>h.1)
def ZB:EM enc Tryz.prog W 32 (λl:List Int=>[.sl false 1 (l.map Al)]) (λl=> ∀y∈l,True):=
 oY (c:=Al) Tryz.underlying32 (by kernel_rfl) (by decide) (by decide+kernel) (λ_=>rfl) (iB Tryz.underlying2)
def tV:EM enc Tryz.prog W 201 Tile.c (λg=>g.Name.size<=140737488355328):=
 (qH Tryz.underlying201 rfl (by kernel_rfl) (by kernel_rfl) (Mh Tryz.underlying9) ZB).to (λy=>(⟨y.1,y.2⟩:Tile)) (λ_=>rfl) (λ_ h=>h.1)
def fM:EM enc Tryz.prog W 22 (λl:List Ar=>[.sl false 2 (l.map Ar.c)]) (λl=> ∀y∈l,y.Name.size<=140737488355328):=
 oY Tryz.underlying22 (by kernel_rfl) (by decide) (by decide+kernel) (λ_=>rfl) tU
def fN:EM enc Tryz.prog W 23 (λl:List Tile=>[.sl false 2 (l.map Tile.c)]) (λl=> ∀y∈l,y.Name.size<=140737488355328):=
 oY Tryz.underlying23 (by kernel_rfl) (by decide) (by decide+kernel) (λ_=>rfl) tV
def Ta:EM enc Tryz.prog W 26 (λl:List Ak=>[.sl false 3 (l.map Ak.c)]) (λl=> ∀y∈l,True):=
 oY Tryz.underlying26 (by kernel_rfl) (by decide) (by decide+kernel) (λ_=>rfl) XD
def rSet:EM enc Tryz.prog W 25 AB.c Om:=
 (qH Tryz.underlying25 rfl (by kernel_rfl) (by kernel_rfl) fM fN).to (λy=>(⟨y.1,y.2⟩:AB)) (λ_=>rfl) (λ_ h=>h)
def tS:EM enc Tryz.prog W 28 Ah.c (λ_=>True):=
 (fO Tryz.underlying28 rfl (by kernel_rfl) Ta).to (λy=>(⟨y⟩:Ah)) (λ_=>rfl) (λ_ _=>trivial)
def rSys:EM enc Tryz.prog W 30 Az.c (λs=>Om s.Set):=
 (fP Tryz.underlying30 rfl (by kernel_rfl) (by kernel_rfl) (by kernel_rfl) rSet tS (iB Tryz.underlying2)).to (λy=>(⟨y.1,y.2.1,y.2.2⟩:Az)) (λ_=>rfl) (λ_ h=>h.1)
end
end Go.Ae
namespace Go.Ae
open Go Go.Proofs Go.RowKit
def sI(W:World):Ay:=⟨λ_=>none,λb=>b<W.heap.size,λ_=>none,W⟩
def sH(W:World):AX:=AX.mk0 W (λ_=>False) (λb=>b<W.heap.size)
def wf0(W:World)(z:GP (λb=>b<W.heap.size) (λb=>W.heap[b]?)):Wf (sH W) (sI W):=
 ⟨rfl,rfl,rfl,AN _,λ_ _ _=>rfl,λ_ h=>h,λ_ h=> .inl h,λ_ h=>h,λo e h=>(by cases h),λo e l h=>(by cases h),λo o' e e' l l' h=>(by cases h),z.mono λ_ _ hb G=>⟨⟨hb,λh=>h.elim⟩,G⟩⟩
def QP{P:Program}{g:FuncId}{row:A7}(Q:AA P g row){W:World}(hg:GP (λb=>b<W.heap.size) (λb=>W.heap[b]?)){args:Array Value}{ds:List D}(O:row (ds.map .im) (λ_=>none) 0 (λr _=>r= .im (.bool true)))
 (G:rdl (λb=>b<W.heap.size) (λb=>W.heap[b]?) ds args.toList):Calls P g args W λe W'=>e= .returned (.bool true)/\Below W.heap.size W W':=by
 obtain⟨_,r,E,Z,rfl⟩:=Q _ _ _ _ O;refine Z (sH W) (sI W) args _ (wf0 W hg) (λ_ _=>rfl) (λ_ _=>rfl) (λn e h=>(by cases h)) ((Ia _ _).2 G) ?_;intro v S' z _ _ hc;simp only[Aa,rd] at hc;subst hc;exact⟨rfl,z.os,z.tape,z.output,z.size,λk hk=>z.keep k hk (λh=>h)⟩
end Go.Ae
namespace Go.Ae
mutual
def HU:AV->Bool
 | .im d=>d.sc
 | .own _=>true
 | .agg z=>Ee z
 | .tup z=>Ee z
 | .any| .ptr _ _| .eptr _ _ _| .mp _| .ch _| .it _| .osl _ _ _| .clo _ _ _=>false
def Ee:List AV->Bool
 |[]=>true
 |x::r=>HU x && Ee r
end
def Jm:Ad->Bool
 | .arr _ _ rows=>rows.all λr=>r.all D.sc
 | .arrA _ _ rows=>rows.all Ee
 | .cells _ z=>Ee z
 | .map _ _| .chan _ _| .iter _ _| .view _=>false
def FF{m:Nat}: ∀{rows:List (List AV)},m∈B2 rows↔ ∃r∈rows,m∈AC r
 |[]=>by simp[B2]
 |r::z=>by simp[B2,FF (rows:=z)]
section
variable {S1 S':Ay}{F:Nat->Prop}
mutual
def aB(Q: ∀n,F n->S'.h n=S1.h n)(Z: ∀n,F n->S'.ρ n=S1.ρ n): ∀(x:AV) (v:Value),HU x=true->(∀m∈x.nms,F m)->Aa S1 x v->Aa S' x v
 | .im d,v,z,_,hc=>by
   simp only[Aa] at hc⊢;exact Mb (by simpa[HU] using z) hc
 | .own o,v,_,G,hc=>by
   simp only[Aa] at hc⊢;have h0:F o:=G o (by simp[AV.nms]);rw[Q o h0,Z o h0];exact hc
 | .agg O,v,z,G,hc=>by
   simp only[Aa] at hc⊢;obtain⟨vs,rfl,h⟩:=hc;exact⟨vs,rfl,Vt Q Z O _ (by simpa[HU] using z) (by simpa[AV.nms] using G) h⟩
 | .tup O,v,z,G,hc=>by
   simp only[Aa] at hc⊢;obtain⟨vs,rfl,h⟩:=hc;exact⟨vs,rfl,Vt Q Z O _ (by simpa[HU] using z) (by simpa[AV.nms] using G) h⟩
 | .any,_,z,_,_| .ptr _ _,_,z,_,_| .eptr _ _ _,_,z,_,_| .mp _,_,z,_,_| .ch _,_,z,_,_| .it _,_,z,_,_| .osl _ _ _,_,z,_,_| .clo _ _ _,_,z,_,_=>by simp[HU] at z
def Vt(G: ∀n,F n->S'.h n=S1.h n)(Q: ∀n,F n->S'.ρ n=S1.ρ n): ∀(xs:List AV) (vs:List Value),Ee xs=true->(∀m∈AC xs,F m)->AM S1 xs vs->AM S' xs vs
 |[],vs,_,_,hc=>by simpa only[AM] using hc
 |x::r,vs,z,O,hc=>by
  simp only[AM] at hc⊢;obtain⟨v,q,rfl,Z,h2⟩:=hc;simp only[Ee,AS] at z;exact⟨v,q,rfl,aB G Q x v z.1 (λm h=>O m (by simp[AC,h])) Z,Vt G Q r q z.2 (λm h=>O m (by simp[AC,h])) h2⟩
end
def lO(G: ∀n,F n->S'.h n=S1.h n)(Q: ∀n,F n->S'.ρ n=S1.ρ n): ∀(xs:List AV) (vs:List Value),Ee xs=true->(∀m∈AC xs,F m)->Cn S1 xs vs->Cn S' xs vs
 |[],vs,_,_,_=>trivial
 |x::r,vs,z,O,hc=>by
  simp only[Cn] at hc⊢;obtain⟨v,q,rfl,Z,h2⟩:=hc;simp only[Ee,AS] at z;exact⟨v,q,rfl,aB G Q x v z.1 (λm h=>O m (by simp[AC,h])) Z,lO G Q r q z.2 (λm h=>O m (by simp[AC,h])) h2⟩
def lN{k:Nat}(O: ∀n,F n->S'.h n=S1.h n)(Z: ∀n,F n->S'.ρ n=S1.ρ n): ∀(z:List (List AV)) (vs:List Value),z.all Ee=true->(∀r∈z,∀m∈AC r,F m)->BB S1 k z vs->BB S' k z vs
 |[],vs,_,_,_=>trivial
 |r::z,vs,G,Q,hc=>by
  simp only[BB] at hc⊢;simp only[Je,AS] at G;exact⟨hc.1,lO O Z r _ G.1 (Q r (BM ..)) hc.2.1,lN O Z z _ G.2 (λq hq=>Q q (BR _ hq)) hc.2.2⟩
def Mf{ok ok':Nat->Prop}{hp hp':Nat->Option Obj}{k:Nat}: ∀(z:List (List D)) (vs:List Value),(z.all λr=>r.all D.sc)=true->rdr ok hp k z vs->rdr ok' hp' k z vs
 |[],_,_,_=>trivial
 |r::z,vs,G,hc=>by
  simp only[rdr] at hc⊢;simp only[Je,AS] at G;exact⟨hc.1,Kg r _ G.1 hc.2.1,Mf z _ G.2 hc.2.2⟩
def SF(hh: ∀n,F n->S'.h n=S1.h n)(hr: ∀n,F n->S'.ρ n=S1.ρ n)(hp:S'.hp=S1.hp)(l:Option Fj): ∀(e:Ad),Jm e=true->(∀m∈e.nms,F m)->Au S1 l e->Au S' l e
 | .arr T k rows,z,_,hc=>by
   cases l with
   |none=>simpa only[Au] using hc
   |some lc=>
    simp only[Au] at hc⊢;obtain⟨G,O,vs,Q,Z,h5⟩:=hc;exact⟨G,O,vs,by rw[hp];exact Q,Z,Mf _ _ z h5⟩
 | .arrA T k rows,z,hm,hc=>by
   cases l with
   |none=>simpa only[Au] using hc
   |some lc=>
    simp only[Au] at hc⊢;obtain⟨G,O,vs,Q,Z,h5⟩:=hc;refine⟨G,O,vs,by rw[hp];exact Q,Z,lN hh hr _ _ z (λr ab m aa=>hm m ?_) h5⟩;simp only[Ad.nms];exact FF.2 ⟨r,ab,aa⟩
 | .cells T cs,z,hm,hc=>by
   simp only[Au] at hc⊢;obtain⟨lc,vs,G,O,Q,Z⟩:=hc;exact⟨lc,vs,G,O,by rw[hp];exact Q,Vt hh hr _ _ z (λm h=>hm m (by simpa[Ad.nms] using h)) Z⟩
 | .map _ _,z,_,_| .chan _ _,z,_,_| .iter _ _,z,_,_| .view _,z,_,_=>by simp[Jm] at z
end
def PW{A:Type}(ar:List PK->Option A)(pre:A->Prop)(r0:A->AV)(H1:A->Ap)(cnt nx:Nat)(u:List Nat)(K:Ai):Option (List PK)->Prop
 |some z=>DK (λa=>pre a/\K ((r0 a).ren (BT (λj=>j) 0 nx)) {use:=u,new:=AW (BT (λj=>j) 0 nx) (H1 a),cnt:=cnt}) (ar z)
 |none=>False
def DQ{A:Type}(ar:List PK->Option A)(pre:A->Prop)(r0:A->AV)(H1:A->Ap)(cnt:Nat):A7:=λargs h nx K=>PW ar pre r0 H1 cnt nx (EG h args) K (Ce h args)
def XA(ds:List D):List PK:=ds.map PK.val
def lS{S:Ay}: ∀(ds:List D) (vs:List Value),Es S (XA ds) vs->AM S (ds.map .im) vs
 |[],vs,h=>by simpa only[XA,GR,Es,AM] using h
 |d::r,vs,h=>by
  simp only[XA,Bd,Es,AM] at h⊢;obtain⟨v,q,rfl,z,G⟩:=h;exact⟨v,q,rfl,by simpa only[Aa,Js] using z,lS r q G⟩
def Mi(σ:Nat->Nat): ∀(ds:List D),AL σ (ds.map AV.im)=ds.map AV.im
 |[]=>rfl
 |d::r=>by simp only[Bd,AL,AV.ren,Mi σ r]
mutual
def Tk(σ:Nat->Nat): ∀x:AV,HU x=true->HU (x.ren σ)=true/\ ∀m∈(x.ren σ).nms,∃j∈x.nms,m=σ j
 | .im d,h=>⟨by simpa only[AV.ren] using h,by simp[AV.ren,AV.nms]⟩
 | .own o,_=>⟨by simp[AV.ren,HU],by simp[AV.ren,AV.nms]⟩
 | .agg z,h=>by
   obtain⟨G,O⟩:=Nd σ z (by simpa[HU] using h);exact⟨by simpa[AV.ren,HU] using G,by simpa[AV.ren,AV.nms] using O⟩
 | .tup z,h=>by
   obtain⟨G,O⟩:=Nd σ z (by simpa[HU] using h);exact⟨by simpa[AV.ren,HU] using G,by simpa[AV.ren,AV.nms] using O⟩
 | .any,h| .ptr _ _,h| .eptr _ _ _,h| .mp _,h| .ch _,h| .it _,h| .osl _ _ _,h| .clo _ _ _,h=>by simp[HU] at h
def Nd(σ:Nat->Nat): ∀xs:List AV,Ee xs=true->Ee (AL σ xs)=true/\ ∀m∈AC (AL σ xs),∃j∈AC xs,m=σ j
 |[],_=>⟨rfl,by simp[AL,AC]⟩
 |x::r,h=>by
  simp only[Ee,AS] at h;obtain⟨O,Q⟩:=Tk σ x h.1;obtain⟨Z,h4⟩:=Nd σ r h.2;refine⟨by simp only[AL,Ee,O,Z,Zi],λm z=> ?_⟩;simp only[AL,AC,Br] at z⊢;rcases z with z|z
  .obtain⟨j,G,e⟩:=Q m z;exact⟨j,.inl G,e⟩
  .obtain⟨j,G,e⟩:=h4 m z;exact⟨j,.inr G,e⟩
end
def XI(σ:Nat->Nat): ∀e:Ad,Jm e=true->Jm (e.ren σ)=true/\ ∀m∈(e.ren σ).nms,∃j∈e.nms,m=σ j
 | .arr T k rows,h=>⟨by simpa only[Ad.ren] using h,by simp[Ad.ren,Ad.nms]⟩
 | .arrA T k rows,h=>by
   simp only[Jm,Dp] at h;refine⟨?_,?_⟩
   .simp only[Ad.ren,Jm,List.all_map,Dp];exact λr G=>(Nd σ r (h r G)).1
   .intro m z;simp only[Ad.ren,Ad.nms] at z⊢;obtain⟨q,hq,z⟩:=FF.1 z;obtain⟨r,G,rfl⟩:=Bm.1 hq;obtain⟨j,hj,e⟩:=(Nd σ r (h r G)).2 m z;exact⟨j,FF.2 ⟨r,G,hj⟩,e⟩
 | .cells T O,h=>by
   obtain⟨Q,Z⟩:=Nd σ O (by simpa[Jm] using h);exact⟨by simpa[Ad.ren,Jm] using Q,by simpa[Ad.ren,Ad.nms] using Z⟩
 | .map _ _,h| .chan _ _,h| .iter _ _,h| .view _,h=>by simp[Jm] at h
def lY{P:Program}{g:FuncId}{A:Type}{ag:A->List AV}{ca:A->List D}{pre:A->Prop}{klB:Nat->Bool}{r0:A->AV}{H1:A->Ap}{cnt:Nat}
 (av:Ix P g=true)(bd:AA P g (AF ag (λ_=>[]) 0 pre klB r0 H1 cnt))(au: ∀a,ag a=(ca a).map AV.im)
 {ar:List PK->Option A}(bc: ∀ps a,ar ps=some a->BA ps (XA (ca a)))
 (ay: ∀a,HU (r0 a)=true/\ ∀m∈(r0 a).nms,m<cnt)
 (hH1: ∀a,∀p∈H1 a,p.1<cnt/\p.2.1=true/\Jm p.2.2=true/\ ∀m∈p.2.2.nms,m<cnt):
 AA P g (DQ ar pre r0 H1 cnt):=by
 intro args h nx K z;unfold DQ at z;cases hp:Ce h args with
 |none=>rw[hp] at z;exact z.elim
 |some ps=>
  rw[hp] at z;simp only[PW] at z;cases ha:ar ps with
  |none=>rw[ha] at z;exact z.elim
  |some a=>
   rw[ha] at z;simp only[DK] at z;obtain⟨ax,hK⟩:=z;refine⟨Nn av,_,_,?_,hK⟩;intro C S vs RR hW az ab ac am ah;have be:=Qtx hW args ps vs.toList (λm hm=>az m (JF _ hm)) hp am;have a9:=xZ hW;obtain⟨σ,hσ⟩: ∃σ:Nat->Nat,σ=BT (λj=>j) 0 nx:=⟨_,rfl⟩;have hσj: ∀j,σ j=nx+j:=λj=>by rw[hσ];simp[BT]
   rw[<-hσ] at ah;obtain⟨_,r,E,hT,rfl,rfl⟩:=bd (ag a) (λ_=>none) nx (λr E=>r=(r0 a).ren σ/\E={use:=[],kill:=[],new:=AW σ (H1 a),cnt:=cnt})
    ⟨a,λj=>j,[],[],ax,by rw[au,Mi],trivial,⟨by simp[Am,hget],by simp[Am,hget],by simp[Am,hget],by simp,by simp[Am,hget]⟩,by rw[hσ],by rw[hσ]⟩
   have ba:AM S.froz (ag a) vs.toList:=by rw[au];exact lS _ _ ((bc ps a ha).c be)
   refine hT (Zv S) S.froz vs RR a9 (by simp) (λn hn=> ?_) (λn e Q m hm hF=> ?_) ba ?_
   .have:=ab n hn
    show (S.h n).map _=none;rw[this];rfl
   .obtain⟨e0,G,rfl⟩:=hC Q;exact ac n e0 G m hm hF
   intro v S1 Z bb _ aw;have ai: ∀n e,hget (AW σ (H1 a)) n=some e->Fr nx cnt n/\e.1=true/\Jm e.2=true/\ ∀m∈e.2.nms,Fr nx cnt m:=by
    intro n e Q;obtain⟨j,e0,G,O,rfl⟩:=rG Q;obtain⟨g1,g2,g3,g4⟩:=hH1 a _ G;obtain⟨q1,q2⟩:=XI σ e0.2 g3;refine⟨by rw[<-O,hσj];exact⟨by omega,by omega⟩,g2,q1,λm hm=> ?_⟩;obtain⟨i,hi,rfl⟩:=q2 m hm
    have:=g4 i hi
    rw[hσj];exact⟨by omega,by omega⟩
   have ao:S.w.heap.size<=S1.w.heap.size:=Z.size;have aa: ∀b,b<S.w.heap.size->S1.w.heap[b]? =S.w.heap[b]? :=λb hb=>Z.keep b hb (λh=>h)
   have aq: ∀n,Fr nx cnt n->S.h n=none:=ab
   let E':Bk:={use:=EG h args,kill:=[],new:=AW σ (H1 a),cnt:=cnt}
   have aj: ∀n,E'.appf S.h n=match hget (AW σ (H1 a)) n with
    |some e=>some e
    |none=>S.h n:=λn=>by simp only[E',Bk.appf];rfl
   have a0: ∀n,S1.h n=match hget (AW σ (H1 a)) n with
    |some e=>some e
    |none=>S.froz.h n:=λn=>by rw[bb];simp only[Bk.appf];rfl
   let S':Ay:=⟨λn=>if nx<=n/\n<nx+cnt then S1.ρ n else S.ρ n,S.ok,E'.appf S.h,S1.w⟩
   have ak: ∀n,S'.h n=E'.appf S.h n:=λ_=>rfl
   have aF: ∀n,Fr nx cnt n->S'.h n=S1.h n:=by
    intro n hn;rw[ak,aj,a0];cases hget (AW σ (H1 a)) n with
    |some e=>rfl
    |none=>
     show S.h n=(S.h n).map _;rw[aq n hn];rfl
   have aR: ∀n,Fr nx cnt n->S'.ρ n=S1.ρ n:=λn hn=>Ao hn
   have oF: ∀n,¬Fr nx cnt n->S'.h n=S.h n:=by
    intro n hn;rw[ak,aj];cases hq:hget (AW σ (H1 a)) n with
    |some e=>exact absurd (ai n e hq).1 hn
    |none=>rfl
   have oR: ∀n,¬Fr nx cnt n->S'.ρ n=S.ρ n:=λn hn=>Ag hn
   have hp':Bx (λn=> ¬Fr nx cnt n) S S':=⟨λb hb=>⟨hb,aa b (hW.oks b hb)⟩,λo ho e' an=>⟨e',by rw[<-oF o ho];exact an,oR o ho,rfl,rfl⟩⟩;have nF: ∀n e,S.h n=some e-> ¬Fr nx cnt n:=λn e Q hn=>by rw[aq n hn] at Q;cases Q
   have split: ∀o e,S'.h o=some e->(Fr nx cnt o/\S1.h o=some e/\S'.ρ o=S1.ρ o/\e.1=true/\Jm e.2=true/\ ∀m∈e.2.nms,Fr nx cnt m)\/(S.h o=some e/\S'.ρ o=S.ρ o):=by
    intro o e Q;by_cases hn:Fr nx cnt o
    .left;have G:S1.h o=some e:=by rw[<-aF o hn];exact Q
     have O:=Q;rw[ak,aj] at O;cases hq:hget (AW σ (H1 a)) o with
     |some e1=>
      rw[hq] at O;obtain rfl:=AE O;exact⟨hn,G,aR o hn,(ai o _ hq).2⟩
     |none=>
      rw[hq] at O;exact absurd hn (nF o e O)
    .right;exact⟨by rw[<-oF o hn];exact Q,oR o hn⟩
   have af: ∀o e l,S1.h o=some e->S1.ρ o=some l->e.1=true->l.b<S1.w.heap.size/\S.w.heap.size<=l.b:=by
    intro o e l Q hl hm;obtain⟨O,h3⟩:=Z.loc o e l Q hl;rw[hm] at h3;simp only[BI] at h3;exact⟨O,h3.2.elim (λh=>h) (λh=>h.elim)⟩
   have a8:Wf C S':=by
    refine⟨Z.os.trans hW.os,Z.tape.trans hW.tape,Z.output.trans hW.output,Dt hW.size ao,?_,hW.ok0,hW.ok1,λb hb=>FL (hW.oks b hb) ao,?_,?_,?_,hW.gl⟩
    .intro b hb hM;exact (aa b (FL hb hW.size)).trans (hW.keep b hb hM)
    .intro o e Q;rcases split o e Q with ⟨_,G,O,_,h4,h5⟩|⟨G,O⟩
     .rw[O];exact SF aF aR rfl _ e.2 h4 h5 (Z.obj o e G)
     .rw[O];exact H8 hp' (λlc hl=>aa lc.b (hW.loc o e lc G hl).1) _ (λm hm hF=>ac o e G m hm hF) (hW.obj o e G)
    .intro o e l Q hl;rcases split o e Q with ⟨_,G,O,h3,_⟩|⟨G,O⟩
     .rw[O] at hl;obtain⟨b1,b2⟩:=af o e l G hl h3;refine⟨b1,?_⟩;rw[h3];simp only[BI];exact⟨λhk=>by have:=hW.oks _ hk;omega,.inl (Dt hW.size b2)⟩
     .rw[O] at hl;obtain⟨b1,b2⟩:=hW.loc o e l G hl;exact⟨FL b1 ao,b2⟩
    .intro o o' e e' l l' Q an hl ad hb hm;rcases split o e Q with ⟨_,G,O,h3,_⟩|⟨G,O⟩<;>rcases split o' e' an with ⟨_,k1,k2,k3,_⟩|⟨k1,k2⟩<;>rw[O] at hl<;>rw[k2] at ad
     .exact Z.inj o o' e e' l l' G k1 hl ad hb hm
     .have:=(af o e l G hl h3).2
      have:=(hW.loc o' e' l' k1 ad).1
      omega
     .have:=(af o' e' l' k1 ad k3).2
      have:=(hW.loc o e l G hl).1
      omega
     .exact hW.inj o o' e e' l l' G k1 hl ad hb hm
   obtain⟨q1,q2⟩:=Tk σ (r0 a) (ay a).1;refine ah v S' a8 rfl hp' (aB aF aR _ v q1 (λm hm=> ?_) aw);obtain⟨j,hj,rfl⟩:=q2 m hm
   have:=(ay a).2 j hj
   rw[hσj];exact⟨by omega,by omega⟩
end Go.Ae
