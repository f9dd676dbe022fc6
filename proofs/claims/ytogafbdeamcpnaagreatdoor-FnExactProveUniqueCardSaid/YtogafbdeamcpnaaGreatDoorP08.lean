/- Lemmas. Conditions: none. -/
import Derived.Test.YtogafbdeamcpnaaGreatDoorP07
import Derived.ProofKit
import Derived.SizedLaws
import Derived.OpenShut
import Derived.Test.YtogafbdeamcpnaaGreatDoorRows
import Derived.Carry
import Derived.WalkKit
set_option linter.all false
set_option maxHeartbeats 8000000
set_option maxRecDepth 100000
namespace Go.Ae
open Go Go.Proofs
section
variable {H:Type}{enc:TypeId×Value->H}{P:Program}{W:World}
def Fi{H:Type}(enc:TypeId×Value->H)(P:Program)(W:World)(t:TypeId){α:Type}(c:α->List D)(Q:α->Prop):Prop:=
 ∀(fuel:Nat) (cs:List Value) (x:DataW H×List MemPlace),DataW.trod enc P W 0 (λ_=>true) true fuel t cs=some x->(x.1.weights P t).all (· <=reachBytes)=true->
  ∃y:α,rdl (λb=>b<W.heap.size) (λb=>W.heap[b]?) (c y) cs/\Q y
def Fi.to{t:TypeId}{α β:Type}{c:α->List D}{Q:α->Prop}{c':β->List D}{Q':β->Prop}(h:Fi enc P W t c Q)(f:α->β)(hc: ∀y,c' (f y)=c y)(hQ: ∀y,Q y->Q' (f y)):Fi enc P W t c' Q':=by
 intro z G x O Z;obtain⟨y,g1,g2⟩:=h z G x O Z;exact⟨f y,by rw[hc];exact g1,hQ y g2⟩
def lO{t:TypeId}(G:P.underlying t=some (.int .i64)):Fi enc P W t (λn:Int=>[.int .i64 n]) (λ_=>True):=by
 intro z O x h _;obtain⟨n,rfl,_,_⟩:=DataW.trod_int G h;exact⟨n,⟨_,_,rfl,rfl,rfl⟩,trivial⟩
def MM{t:TypeId}(O:P.underlying t=some .string):Fi enc P W t (λs:ByteArray=>[.str s]) (λs=>s.size<=140737488355328):=by
 intro z Z x h Q;obtain⟨s,rfl,rfl,_⟩:=DataW.trod_string O h;refine⟨s,⟨_,_,rfl,rfl,rfl⟩,?_⟩;have G:=D3.1 Q s.data.toList.length (by simp[DataW.weights]);rw[BL,EJ] at G;have h2:s.data.size=s.size:=rfl;have h3:reachBytes<=140737488355328:=by decide
 omega
def zI{ok:Nat->Prop}{hp:Nat->Option Obj}: ∀(a:List D) (x:List Value) {b:List D} {y:List Value},rdl ok hp a x->rdl ok hp b y->rdl ok hp (a++b) (x++y)
 |[],x,b,y,z,G=>by
  simp only[rdl] at z;subst z;exact G
 |d::a,x,b,y,z,G=>by
  simp only[rdl] at z;obtain⟨v,r,rfl,O,Q⟩:=z;exact⟨v,r++y,rfl,O,zI a r Q G⟩
def Qzi{ok:Nat->Prop}{hp:Nat->Option Obj}: ∀(a:List D) (x:List Value) (y:List Value),rdl ok hp a x->rdp ok hp a (x++y)
 |[],x,y,z=>trivial
 |d::a,x,y,z=>by
  simp only[rdl] at z;obtain⟨v,r,rfl,G,O⟩:=z;exact⟨v,r++y,rfl,G,Qzi a r y O⟩
def pick{α:Type}{R:Nat->α->Prop}: ∀(n:Nat),(∀i,i<n-> ∃y,R i y)-> ∃l:List α,l.length=n/\ ∀i y,l[i]? =some y->R i y
 |0,_=>⟨[],rfl,λi y h=>by simp at h⟩
 |n+1,h=>by
  obtain⟨l,Q,Z⟩:=pick n (λi O=>h i (by omega));obtain⟨y,hy⟩:=h n (by omega);refine⟨l++[y],by simp[Q],λi z G=> ?_⟩;rcases Fj i n with O|O
  .rw[ED (by omega)] at G;exact Z i z G
  .rw[F4 (by omega)] at G
   have:i - l.length=0:=by
    rcases mT (i - l.length) with h0|h0
    .exact h0
    .rw[FG (by simp;omega)] at G;cases G
   rw[this] at G;obtain rfl:=AD G
   have:i=n:=by omega
   rw[this];exact hy
def Qz1{ok:Nat->Prop}{hp:Nat->Option Obj}{α:Type}{c:α->List D}{k:Nat}(hc: ∀y,(c y).length=k): ∀(l:List α) (L:List Value),(∀i y,l[i]? =some y->rdp ok hp (c y) (L.drop (i*k)))->rdr ok hp k (l.map c) L
 |[],L,_=>trivial
 |y::r,L,h=>by
  refine⟨hc y,?_,Qz1 hc r (L.drop k) (λi z G=> ?_)⟩
  .have:=h 0 y rfl
   rwa [gE,Hh] at this
  .have:=h (i+1) z G
   rwa [EF,show k+i*k=(i+1)*k by rw[F5,IH,vY]]
def Qy9{a:Addr}{k:Nat}{cs:List Value}(hk:0<k)(h:W.cells? 0 a k=some cs):a.spot=none/\ ∃Z T fr,W.heap[a.block]? =some (.cells Z T fr)/\ ∃r,Z.toList.drop a.off=cs++r/\cs.length=k:=by
 unfold World.cells? at h;rw[An (Cz _)] at h;have hl:=mapM_some_length h;rw[aH] at hl;have hg: ∀i,i<k->W.cell? (a.add i)=cs[i]? :=λi Q=>mapM_some_get h i i (by rw[HN Q])
 have h0:=hg 0 hk;rw[Bk (by omega)] at h0;have O:a.spot=none:=by
  cases hs:a.spot with
  |none=>rfl
  |some s=>
   exfalso
   have:(a.add 0).spot.isSome=true:=by
    unfold Addr.add
    split<;>simp_all
   unfold World.cell? at h0;split at h0
   .rw[An this] at h0;cases h0
   .cases h0
 refine⟨O,?_⟩;obtain⟨b,off,sp⟩:=a;simp only at O;subst O;have z: ∀i,(⟨b,off,none⟩:Addr).add i=⟨b,off+i,none⟩:=λi=>Qa b off i
 rw[z] at h0;unfold World.cell? at h0;simp only at h0;split at h0
 .rename_i Z T fr hb;simp only[aE,Df,CK] at h0;refine⟨Z,T,fr,hb,(Z.toList.drop off).drop k,?_,hl⟩;have G: ∀i,i<k->Z[off+i]? =cs[i]? :=by
   intro i Q
   have:=hg i Q
   rw[z] at this;simp only[World.cell?,hb,aE,Df,CK] at this;exact this
  apply Kr;intro i;rw[Iv,Hc];rcases Fj i k with Q|Q
  .rw[ED (by omega)];exact G i Q
  .rw[F4 (by omega),Iv,Iv,Hc];congr 1;show off+i=off+(k+(i - cs.length));omega
 .cases h0
def zN{t e:TypeId}{α:Type}{c:α->List D}{Q:α->Prop}{k:Nat}(ht:P.underlying t=some (.slice e))(hk:P.cellsOf e=k)(ah:0<k)(hb:1<=P.bytesOf e)(hc: ∀y,(c y).length=k)(h:Fi enc P W e c Q):
 Fi enc P W t (λl:List α=>[.sl false k (l.map c)]) (λl=> ∀y∈l,Q y):=by
 intro ax cs x hx hw;rcases DataW.trod_slice ht hx with ⟨rfl,rfl⟩|⟨a,len,cap,O,an,m,rfl,rfl,rfl,_,aq,_,az,ab,Z,_⟩
 .exact⟨[],⟨_,_,rfl,.inl ⟨.inl rfl,rfl⟩,rfl⟩,by simp⟩
 obtain⟨a0,Z⟩:=Z rfl;simp only[DataW.weights,ht,Lw,vP,AS,BL,He] at hw;obtain⟨w1,w2,_⟩:=hw;have ai:len<=Lc:=by
  have:=Nat.mul_le_mul_left (O.length+an.length) hb
  simp only[reachBytes,Lc] at w1⊢;omega
 by_cases af:cap=0
 .subst af
  have:len=0:=by omega
  subst this;exact⟨[],⟨_,_,rfl,.inl ⟨.inr ⟨rfl,a,rfl⟩,rfl⟩,rfl⟩,by simp⟩
 have ac: ∀i,i<cap-> ∃cs,W.cells? 0 (a.add (i*k)) k=some cs:=by
  intro i hi;rw[hk] at ab Z;rcases Fj i len with h1|h1
  .have:=ab i h1
   rw[Bk (by omega)] at this;cases hq:W.cells? 0 (a.add (i*k)) k with
   |none=>rw[hq] at this;cases this
   |some cs=>exact⟨cs,rfl⟩
  .have:=Z (i - len) (by omega)
   rw[show len+(i - len)=i by omega,Bk (by omega)] at this;cases hq:W.cells? 0 (a.add (i*k)) k with
   |none=>rw[hq] at this;cases this
   |some cs=>exact⟨cs,rfl⟩
 obtain⟨ay,ag⟩:=ac 0 (by omega);obtain⟨am,vs,T,fr,G,_⟩:=Qy9 ah ag;have ak:a.spot=none:=by
  cases hs:a.spot with
  |none=>rfl
  |some s=>
   exfalso
   have:(a.add (0*k)).spot.isSome=true:=by
    unfold Addr.add
    split<;>simp_all
   rw[am] at this;cases this
 obtain⟨b,off,sp⟩:=a;simp only at ak;subst ak;have aa: ∀i,(⟨b,off,none⟩:Addr).add i=⟨b,off+i,none⟩:=λi=>Qa b off i
 rw[aa] at G;simp only at G;have au: ∀i,i<len-> ∃y:α,rdp (λb=>b<W.heap.size) (λb=>W.heap[b]?) (c y) ((vs.toList.drop off).drop (i*k))/\Q y:=by
  intro i hi;have h1:=ab i hi;rw[hk,Bk (by omega)] at h1;cases hq:W.cells? 0 ((⟨b,off,none⟩:Addr).add (i*k)) k with
  |none=>rw[hq] at h1;cases h1
  |some ci=>
   rw[hq,Eg] at h1;obtain⟨_,aw,T',ao,hh,r,hr,_⟩:=Qy9 ah hq;rw[aa] at hh hr;simp only at hh hr;rw[G] at hh;obtain⟨rfl,rfl,rfl⟩:vs=aw/\T=T'/\fr=ao:=by
    have:=AD hh
    simp only[Obj.cells.injEq] at this;exact this
   have av:(O[i].1.weights P e).all (· <=reachBytes)=true:=by
    rw[D3] at w2⊢;intro n hn;refine w2 n ?_
    have: ∀(l:List (DataW H)) (d:DataW H),d∈l-> ∀n∈d.weights P e,n∈DataW.weightsAll P e l:=by
     intro l;induction l with
     |nil=>intro d hd;cases hd
     |cons z r ih=>
      intro d hd n hn;simp only[DataW.weightsAll,Bx];rcases Bm.1 hd with rfl|hd
      .exact .inl hn
      .exact .inr (ih d hd n hn)
    exact this _ O[i].1 (Bv.2 ⟨O[i],Ro _,rfl⟩) n hn
   obtain⟨y,g1,g2⟩:=h m ci O[i] h1 av;refine⟨y,?_,g2⟩;rw[EF,hr];exact Qzi _ _ _ g1
 obtain⟨l,hl,aj⟩:=pick (R:=λi y=>rdp (λb=>b<W.heap.size) (λb=>W.heap[b]?) (c y) ((vs.toList.drop off).drop (i*k))/\Q y) len au;have ad:b<W.heap.size:=by
  rcases Fj b W.heap.size with h|h
  .exact h
  .rw[Xp h] at G;cases G
 refine⟨l,⟨_,_,rfl,.inr ⟨b,off,cap,vs,T,fr,by rw[He,hl],by simp,by rw[He,hl];exact aq,by rw[He,hl];exact ai,ad,G,Qz1 hc l _ (λi y hy=>(aj i y hy).1)⟩,rfl⟩,λy hy=> ?_⟩;obtain⟨i,hi⟩:=List.getElem?_of_mem hy;exact (aj i y hi).2
def jP{t:TypeId}{α0:Type}{c0:α0->List D}{Z:α0->Prop}{G:Field}(ht:P.underlying t=some (.struct #[G]))(o0:G.offset=0)(hn:P.cellsOf t=P.cellsOf G.type)(h0:Fi enc P W G.type c0 Z):
 Fi enc P W t (λy:α0=>c0 (y)) (λy=>Z (y)):=by
 intro aa O x h hw;obtain⟨xs,m,rfl,rfl,hl,Q,hf⟩:=DataW.trod_struct ht h;have hx: ∀i,i<1-> ∃z,xs[i]? =some z:=λi hi=>⟨_,Bk (by rw[Q];exact hi)⟩
 simp only[DataW.weights,ht] at hw;obtain⟨z0,e0⟩:=hx 0 (by decide);obtain⟨y0,r0,q0⟩:=h0 m _ z0 ((hf 0 G rfl).trans e0) (D3.2 λk hk=>D3.1 hw k (DataW.weights_mem_each (j:=0) (t:=G.type) (d:=z0.1) rfl (by rw[D2,e0];rfl) k hk));rw[o0] at r0;refine⟨(y0),?_,q0⟩;simp only;have e:O=(O.drop (0)).take (P.cellsOf G.type):=by
  have ab:O.length=P.cellsOf G.type:=hl.trans hn;rw[Hh,DQ (by omega)]
 rw[e];exact r0
def uM{t:TypeId}{α0:Type}{c0:α0->List D}{Q0:α0->Prop}{G:Field}{α1:Type}{c1:α1->List D}{Q1:α1->Prop}{O:Field}(ht:P.underlying t=some (.struct #[G,O]))(o0:G.offset=0)(o1:O.offset=P.cellsOf G.type)(hn:P.cellsOf t=P.cellsOf G.type+P.cellsOf O.type)(h0:Fi enc P W G.type c0 Q0)(h1:Fi enc P W O.type c1 Q1):
 Fi enc P W t (λy:α0×α1=>c0 (y.1)++(c1 (y.2))) (λy=>Q0 (y.1)/\Q1 (y.2)):=by
 intro ab Q x h hw;obtain⟨xs,m,rfl,rfl,hl,aa,hf⟩:=DataW.trod_struct ht h;have hx: ∀i,i<2-> ∃z,xs[i]? =some z:=λi hi=>⟨_,Bk (by rw[aa];exact hi)⟩
 simp only[DataW.weights,ht] at hw;obtain⟨z0,e0⟩:=hx 0 (by decide);obtain⟨y0,r0,q0⟩:=h0 m _ z0 ((hf 0 G rfl).trans e0) (D3.2 λk Z=>D3.1 hw k (DataW.weights_mem_each (j:=0) (t:=G.type) (d:=z0.1) rfl (by rw[D2,e0];rfl) k Z));rw[o0] at r0;obtain⟨z1,e1⟩:=hx 1 (by decide);obtain⟨y1,r1,q1⟩:=h1 m _ z1 ((hf 1 O rfl).trans e1) (D3.2 λk Z=>D3.1 hw k (DataW.weights_mem_each (j:=1) (t:=O.type) (d:=z1.1) rfl (by rw[D2,e1];rfl) k Z));rw[o1] at r1;refine⟨(y0,y1),?_,q0,q1⟩;simp only;have e:Q=(Q.drop (0)).take (P.cellsOf G.type)++((Q.drop (P.cellsOf G.type)).take (P.cellsOf O.type)):=by
  have ac:Q.length=P.cellsOf G.type+P.cellsOf O.type:=hl.trans hn;rw[Hh];rw[DQ (l:=Q.drop (P.cellsOf G.type)) (by rw[CG];omega)];rw[Oi]
 rw[e];exact zI _ _ r0 (r1)
def jQ{t:TypeId}{α0:Type}{c0:α0->List D}{Q0:α0->Prop}{G:Field}{α1:Type}{c1:α1->List D}{Q1:α1->Prop}{O:Field}{α2:Type}{c2:α2->List D}{Q2:α2->Prop}{Z:Field}(ht:P.underlying t=some (.struct #[G,O,Z]))(o0:G.offset=0)(o1:O.offset=P.cellsOf G.type)(o2:Z.offset=P.cellsOf G.type+P.cellsOf O.type)(hn:P.cellsOf t=P.cellsOf G.type+P.cellsOf O.type+P.cellsOf Z.type)(h0:Fi enc P W G.type c0 Q0)(h1:Fi enc P W O.type c1 Q1)(h2:Fi enc P W Z.type c2 Q2):
 Fi enc P W t (λy:α0×α1×α2=>c0 (y.1)++(c1 (y.2.1)++(c2 (y.2.2)))) (λy=>Q0 (y.1)/\Q1 (y.2.1)/\Q2 (y.2.2)):=by
 intro ab Q x h hw;obtain⟨xs,m,rfl,rfl,hl,aa,hf⟩:=DataW.trod_struct ht h;have hx: ∀i,i<3-> ∃z,xs[i]? =some z:=λi hi=>⟨_,Bk (by rw[aa];exact hi)⟩
 simp only[DataW.weights,ht] at hw;obtain⟨z0,e0⟩:=hx 0 (by decide);obtain⟨y0,r0,q0⟩:=h0 m _ z0 ((hf 0 G rfl).trans e0) (D3.2 λk hk=>D3.1 hw k (DataW.weights_mem_each (j:=0) (t:=G.type) (d:=z0.1) rfl (by rw[D2,e0];rfl) k hk));rw[o0] at r0;obtain⟨z1,e1⟩:=hx 1 (by decide);obtain⟨y1,r1,q1⟩:=h1 m _ z1 ((hf 1 O rfl).trans e1) (D3.2 λk hk=>D3.1 hw k (DataW.weights_mem_each (j:=1) (t:=O.type) (d:=z1.1) rfl (by rw[D2,e1];rfl) k hk));rw[o1] at r1;obtain⟨z2,e2⟩:=hx 2 (by decide);obtain⟨y2,r2,q2⟩:=h2 m _ z2 ((hf 2 Z rfl).trans e2) (D3.2 λk hk=>D3.1 hw k (DataW.weights_mem_each (j:=2) (t:=Z.type) (d:=z2.1) rfl (by rw[D2,e2];rfl) k hk));rw[o2] at r2;refine⟨(y0,y1,y2),?_,q0,q1,q2⟩;simp only;have e:Q=(Q.drop (0)).take (P.cellsOf G.type)++((Q.drop (P.cellsOf G.type)).take (P.cellsOf O.type)++((Q.drop (P.cellsOf G.type+P.cellsOf O.type)).take (P.cellsOf Z.type))):=by
  have ac:Q.length=P.cellsOf G.type+P.cellsOf O.type+P.cellsOf Z.type:=hl.trans hn;rw[Hh];rw[DQ (l:=Q.drop (P.cellsOf G.type+P.cellsOf O.type)) (by rw[CG];omega)];rw[show Q.drop (P.cellsOf G.type+P.cellsOf O.type)=(Q.drop (P.cellsOf G.type)).drop (P.cellsOf O.type) by rw[EF],Oi];rw[Oi]
 rw[e];exact zI _ _ r0 (zI _ _ r1 (r2))
end
section
variable {H:Type}{enc:TypeId×Value->H}{W:World}
def jN:Fi enc Tryz.prog W 98 Ab.c (λ_=>True):=
 (uM Tryz.underlying98 rfl (by kernel_rfl) (by kernel_rfl) (lO Tryz.underlying2) (lO Tryz.underlying2)).to (λy=>(⟨y.1,y.2⟩:Ab)) (λ_=>rfl) (λ_ _=>trivial)
def YE:Fi enc Tryz.prog W 147 Al.c (λ_=>True):=
 (uM Tryz.underlying147 rfl (by kernel_rfl) (by kernel_rfl) jN (lO Tryz.underlying2)).to (λy=>(⟨y.1,y.2⟩:Al)) (λ_=>rfl) (λ_ _=>trivial)
def xS:Fi enc Tryz.prog W 198 Ar.c (λg=>g.Name.size<=140737488355328):=
 (uM Tryz.underlying198 rfl (by kernel_rfl) (by kernel_rfl) (MM Tryz.underlying9) (lO Tryz.underlying2)).to (λy=>(⟨y.1,y.2⟩:Ar)) (λ_=>rfl) (λ_ h=>h.1)
def bK:Fi enc Tryz.prog W 32 (λl:List Int=>[.sl false 1 (l.map Aj)]) (λl=> ∀y∈l,True):=
 zN (c:=Aj) Tryz.underlying32 (by kernel_rfl) (by decide) (by decide+kernel) (λ_=>rfl) (lO Tryz.underlying2)
def xT:Fi enc Tryz.prog W 201 Tile.c (λg=>g.Name.size<=140737488355328):=
 (uM Tryz.underlying201 rfl (by kernel_rfl) (by kernel_rfl) (MM Tryz.underlying9) bK).to (λy=>(⟨y.1,y.2⟩:Tile)) (λ_=>rfl) (λ_ h=>h.1)
def jM:Fi enc Tryz.prog W 22 (λl:List Ar=>[.sl false 2 (l.map Ar.c)]) (λl=> ∀y∈l,y.Name.size<=140737488355328):=
 zN Tryz.underlying22 (by kernel_rfl) (by decide) (by decide+kernel) (λ_=>rfl) xS
def jO:Fi enc Tryz.prog W 23 (λl:List Tile=>[.sl false 2 (l.map Tile.c)]) (λl=> ∀y∈l,y.Name.size<=140737488355328):=
 zN Tryz.underlying23 (by kernel_rfl) (by decide) (by decide+kernel) (λ_=>rfl) xT
def Uf:Fi enc Tryz.prog W 26 (λl:List Al=>[.sl false 3 (l.map Al.c)]) (λl=> ∀y∈l,True):=
 zN Tryz.underlying26 (by kernel_rfl) (by decide) (by decide+kernel) (λ_=>rfl) YE
def rSet:Fi enc Tryz.prog W 25 AC.c OX:=
 (uM Tryz.underlying25 rfl (by kernel_rfl) (by kernel_rfl) jM jO).to (λy=>(⟨y.1,y.2⟩:AC)) (λ_=>rfl) (λ_ h=>h)
def rAsm:Fi enc Tryz.prog W 28 Ak.c (λ_=>True):=
 (jP Tryz.underlying28 rfl (by kernel_rfl) Uf).to (λy=>(⟨y⟩:Ak)) (λ_=>rfl) (λ_ _=>trivial)
def rSys:Fi enc Tryz.prog W 30 Ax.c (λs=>OX s.Set):=
 (jQ Tryz.underlying30 rfl (by kernel_rfl) (by kernel_rfl) (by kernel_rfl) rSet rAsm (lO Tryz.underlying2)).to (λy=>(⟨y.1,y.2.1,y.2.2⟩:Ax)) (λ_=>rfl) (λ_ h=>h.1)
end
end Go.Ae
namespace Go.Ae
open Go Go.Proofs Go.RowKit
def wL(W:World):A9:=⟨λ_=>none,λb=>b<W.heap.size,λ_=>none,W⟩
def wK(W:World):AW:=AW.mk0 W (λ_=>False) (λb=>b<W.heap.size)
def wf0(W:World)(z:GP (λb=>b<W.heap.size) (λb=>W.heap[b]?)):Wf (wK W) (wL W):=
 ⟨rfl,rfl,rfl,AQ _,λ_ _ _=>rfl,λ_ h=>h,λ_ h=> .inl h,λ_ h=>h,λo e h=>(by cases h),λo e l h=>(by cases h),λo o' e e' l l' h=>(by cases h),z.mono λ_ _ hb G=>⟨⟨hb,λh=>h.elim⟩,G⟩⟩
def RC{P:Program}{g:FuncId}{row:AA}(Q:AB P g row){W:World}(hg:GP (λb=>b<W.heap.size) (λb=>W.heap[b]?)){args:Array Value}{ds:List D}(O:row (ds.map .im) (λ_=>none) 0 (λr _=>r= .im (.bool true)))
 (G:rdl (λb=>b<W.heap.size) (λb=>W.heap[b]?) ds args.toList):Calls P g args W λe W'=>e= .returned (.bool true)/\Below W.heap.size W W':=by
 obtain⟨_,r,E,Z,rfl⟩:=Q _ _ _ _ O;refine Z (wK W) (wL W) args _ (wf0 W hg) (λ_ _=>rfl) (λ_ _=>rfl) (λn e h=>(by cases h)) ((I2 _ _).2 G) ?_;intro v S' z _ _ hc;simp only[Aa,rd] at hc;subst hc;exact⟨rfl,z.os,z.tape,z.output,z.size,λk hk=>z.keep k hk (λh=>h)⟩
end Go.Ae
namespace Go.Ae
mutual
def Jp:AV->Bool
 | .im d=>d.sc
 | .own _=>true
 | .agg z=>Ey z
 | .tup z=>Ey z
 | .any| .ptr _ _| .eptr _ _ _| .mp _| .ch _| .it _| .osl _ _ _| .clo _ _ _=>false
def Ey:List AV->Bool
 |[]=>true
 |x::r=>Jp x && Ey r
end
def JI:Ad->Bool
 | .arr _ _ rows=>rows.all λr=>r.all D.sc
 | .arrA _ _ rows=>rows.all Ey
 | .cells _ z=>Ey z
 | .map _ _| .chan _ _| .iter _ _| .view _=>false
def Gg{m:Nat}: ∀{rows:List (List AV)},m∈B7 rows↔ ∃r∈rows,m∈AH r
 |[]=>by simp[B7]
 |r::z=>by simp[B7,Gg (rows:=z)]
section
variable {S1 S':A9}{F:Nat->Prop}
mutual
def cO(Q: ∀n,F n->S'.h n=S1.h n)(Z: ∀n,F n->S'.ρ n=S1.ρ n): ∀(x:AV) (v:Value),Jp x=true->(∀m∈x.nms,F m)->Aa S1 x v->Aa S' x v
 | .im d,v,z,_,hc=>by
   simp only[Aa] at hc⊢;exact MG (by simpa[Jp] using z) hc
 | .own o,v,_,G,hc=>by
   simp only[Aa] at hc⊢;have h0:F o:=G o (by simp[AV.nms]);rw[Q o h0,Z o h0];exact hc
 | .agg O,v,z,G,hc=>by
   simp only[Aa] at hc⊢;obtain⟨vs,rfl,h⟩:=hc;exact⟨vs,rfl,Wo Q Z O _ (by simpa[Jp] using z) (by simpa[AV.nms] using G) h⟩
 | .tup O,v,z,G,hc=>by
   simp only[Aa] at hc⊢;obtain⟨vs,rfl,h⟩:=hc;exact⟨vs,rfl,Wo Q Z O _ (by simpa[Jp] using z) (by simpa[AV.nms] using G) h⟩
 | .any,_,z,_,_| .ptr _ _,_,z,_,_| .eptr _ _ _,_,z,_,_| .mp _,_,z,_,_| .ch _,_,z,_,_| .it _,_,z,_,_| .osl _ _ _,_,z,_,_| .clo _ _ _,_,z,_,_=>by simp[Jp] at z
def Wo(G: ∀n,F n->S'.h n=S1.h n)(Q: ∀n,F n->S'.ρ n=S1.ρ n): ∀(xs:List AV) (vs:List Value),Ey xs=true->(∀m∈AH xs,F m)->AN S1 xs vs->AN S' xs vs
 |[],vs,_,_,hc=>by simpa only[AN] using hc
 |x::r,vs,z,O,hc=>by
  simp only[AN] at hc⊢;obtain⟨v,q,rfl,Z,h2⟩:=hc;simp only[Ey,AS] at z;exact⟨v,q,rfl,cO G Q x v z.1 (λm h=>O m (by simp[AH,h])) Z,Wo G Q r q z.2 (λm h=>O m (by simp[AH,h])) h2⟩
end
def pC(G: ∀n,F n->S'.h n=S1.h n)(Q: ∀n,F n->S'.ρ n=S1.ρ n): ∀(xs:List AV) (vs:List Value),Ey xs=true->(∀m∈AH xs,F m)->Cy S1 xs vs->Cy S' xs vs
 |[],vs,_,_,_=>trivial
 |x::r,vs,z,O,hc=>by
  simp only[Cy] at hc⊢;obtain⟨v,q,rfl,Z,h2⟩:=hc;simp only[Ey,AS] at z;exact⟨v,q,rfl,cO G Q x v z.1 (λm h=>O m (by simp[AH,h])) Z,pC G Q r q z.2 (λm h=>O m (by simp[AH,h])) h2⟩
def pB{k:Nat}(O: ∀n,F n->S'.h n=S1.h n)(Z: ∀n,F n->S'.ρ n=S1.ρ n): ∀(z:List (List AV)) (vs:List Value),z.all Ey=true->(∀r∈z,∀m∈AH r,F m)->BH S1 k z vs->BH S' k z vs
 |[],vs,_,_,_=>trivial
 |r::z,vs,G,Q,hc=>by
  simp only[BH] at hc⊢;simp only[Lw,AS] at G;exact⟨hc.1,pC O Z r _ G.1 (Q r (BT ..)) hc.2.1,pB O Z z _ G.2 (λq hq=>Q q (BX _ hq)) hc.2.2⟩
def MK{ok ok':Nat->Prop}{hp hp':Nat->Option Obj}{k:Nat}: ∀(z:List (List D)) (vs:List Value),(z.all λr=>r.all D.sc)=true->rdr ok hp k z vs->rdr ok' hp' k z vs
 |[],_,_,_=>trivial
 |r::z,vs,G,hc=>by
  simp only[rdr] at hc⊢;simp only[Lw,AS] at G;exact⟨hc.1,KP r _ G.1 hc.2.1,MK z _ G.2 hc.2.2⟩
def TF(hh: ∀n,F n->S'.h n=S1.h n)(hr: ∀n,F n->S'.ρ n=S1.ρ n)(hp:S'.hp=S1.hp)(l:Option F8): ∀(e:Ad),JI e=true->(∀m∈e.nms,F m)->Aw S1 l e->Aw S' l e
 | .arr T k rows,z,_,hc=>by
   cases l with
   |none=>simpa only[Aw] using hc
   |some lc=>
    simp only[Aw] at hc⊢;obtain⟨G,O,vs,Q,Z,h5⟩:=hc;exact⟨G,O,vs,by rw[hp];exact Q,Z,MK _ _ z h5⟩
 | .arrA T k rows,z,hm,hc=>by
   cases l with
   |none=>simpa only[Aw] using hc
   |some lc=>
    simp only[Aw] at hc⊢;obtain⟨G,O,vs,Q,Z,h5⟩:=hc;refine⟨G,O,vs,by rw[hp];exact Q,Z,pB hh hr _ _ z (λr ab m aa=>hm m ?_) h5⟩;simp only[Ad.nms];exact Gg.2 ⟨r,ab,aa⟩
 | .cells T cs,z,hm,hc=>by
   simp only[Aw] at hc⊢;obtain⟨lc,vs,G,O,Q,Z⟩:=hc;exact⟨lc,vs,G,O,by rw[hp];exact Q,Wo hh hr _ _ z (λm h=>hm m (by simpa[Ad.nms] using h)) Z⟩
 | .map _ _,z,_,_| .chan _ _,z,_,_| .iter _ _,z,_,_| .view _,z,_,_=>by simp[JI] at z
end
def W8{A:Type}(ar:List PK->Option A)(pre:A->Prop)(r0:A->AV)(H1:A->Av)(cnt nx:Nat)(u:List Nat)(K:Ah):Option (List PK)->Prop
 |some z=>Eo (λa=>pre a/\K ((r0 a).ren (Cm (λj=>j) 0 nx)) {use:=u,new:=AY (Cm (λj=>j) 0 nx) (H1 a),cnt:=cnt}) (ar z)
 |none=>False
def Fb{A:Type}(ar:List PK->Option A)(pre:A->Prop)(r0:A->AV)(H1:A->Av)(cnt:Nat):AA:=λargs h nx K=>W8 ar pre r0 H1 cnt nx (Fv h args) K (CB h args)
def YA(ds:List D):List PK:=ds.map PK.val
def pK{S:A9}: ∀(ds:List D) (vs:List Value),EC S (YA ds) vs->AN S (ds.map .im) vs
 |[],vs,h=>by simpa only[YA,Gq,EC,AN] using h
 |d::r,vs,h=>by
  simp only[YA,Bd,EC,AN] at h⊢;obtain⟨v,q,rfl,z,G⟩:=h;exact⟨v,q,rfl,by simpa only[Aa,JP] using z,pK r q G⟩
def MN(σ:Nat->Nat): ∀(ds:List D),AL σ (ds.map AV.im)=ds.map AV.im
 |[]=>rfl
 |d::r=>by simp only[Bd,AL,AV.ren,MN σ r]
mutual
def Un(σ:Nat->Nat): ∀x:AV,Jp x=true->Jp (x.ren σ)=true/\ ∀m∈(x.ren σ).nms,∃j∈x.nms,m=σ j
 | .im d,h=>⟨by simpa only[AV.ren] using h,by simp[AV.ren,AV.nms]⟩
 | .own o,_=>⟨by simp[AV.ren,Jp],by simp[AV.ren,AV.nms]⟩
 | .agg z,h=>by
   obtain⟨G,O⟩:=NM σ z (by simpa[Jp] using h);exact⟨by simpa[AV.ren,Jp] using G,by simpa[AV.ren,AV.nms] using O⟩
 | .tup z,h=>by
   obtain⟨G,O⟩:=NM σ z (by simpa[Jp] using h);exact⟨by simpa[AV.ren,Jp] using G,by simpa[AV.ren,AV.nms] using O⟩
 | .any,h| .ptr _ _,h| .eptr _ _ _,h| .mp _,h| .ch _,h| .it _,h| .osl _ _ _,h| .clo _ _ _,h=>by simp[Jp] at h
def NM(σ:Nat->Nat): ∀xs:List AV,Ey xs=true->Ey (AL σ xs)=true/\ ∀m∈AH (AL σ xs),∃j∈AH xs,m=σ j
 |[],_=>⟨rfl,by simp[AL,AH]⟩
 |x::r,h=>by
  simp only[Ey,AS] at h;obtain⟨O,Q⟩:=Un σ x h.1;obtain⟨Z,h4⟩:=NM σ r h.2;refine⟨by simp only[AL,Ey,O,Z,gB],λm z=> ?_⟩;simp only[AL,AH,Bx] at z⊢;rcases z with z|z
  .obtain⟨j,G,e⟩:=Q m z;exact⟨j,.inl G,e⟩
  .obtain⟨j,G,e⟩:=h4 m z;exact⟨j,.inr G,e⟩
end
def YI(σ:Nat->Nat): ∀e:Ad,JI e=true->JI (e.ren σ)=true/\ ∀m∈(e.ren σ).nms,∃j∈e.nms,m=σ j
 | .arr T k rows,h=>⟨by simpa only[Ad.ren] using h,by simp[Ad.ren,Ad.nms]⟩
 | .arrA T k rows,h=>by
   simp only[JI,D3] at h;refine⟨?_,?_⟩
   .simp only[Ad.ren,JI,List.all_map,D3];exact λr G=>(NM σ r (h r G)).1
   .intro m z;simp only[Ad.ren,Ad.nms] at z⊢;obtain⟨q,hq,z⟩:=Gg.1 z;obtain⟨r,G,rfl⟩:=Bv.1 hq;obtain⟨j,hj,e⟩:=(NM σ r (h r G)).2 m z;exact⟨j,Gg.2 ⟨r,G,hj⟩,e⟩
 | .cells T O,h=>by
   obtain⟨Q,Z⟩:=NM σ O (by simpa[JI] using h);exact⟨by simpa[Ad.ren,JI] using Q,by simpa[Ad.ren,Ad.nms] using Z⟩
 | .map _ _,h| .chan _ _,h| .iter _ _,h| .view _,h=>by simp[JI] at h
def pR{P:Program}{g:FuncId}{A:Type}{ag:A->List AV}{ca:A->List D}{pre:A->Prop}{klB:Nat->Bool}{r0:A->AV}{H1:A->Av}{cnt:Nat}
 (av:IN P g=true)(bd:AB P g (AE ag (λ_=>[]) 0 pre klB r0 H1 cnt))(au: ∀a,ag a=(ca a).map AV.im)
 {ar:List PK->Option A}(bc: ∀ps a,ar ps=some a->BN ps (YA (ca a)))
 (ay: ∀a,Jp (r0 a)=true/\ ∀m∈(r0 a).nms,m<cnt)
 (hH1: ∀a,∀p∈H1 a,p.1<cnt/\p.2.1=true/\JI p.2.2=true/\ ∀m∈p.2.2.nms,m<cnt):
 AB P g (Fb ar pre r0 H1 cnt):=by
 intro args h nx K z;unfold Fb at z;cases hp:CB h args with
 |none=>rw[hp] at z;exact z.elim
 |some ps=>
  rw[hp] at z;simp only[W8] at z;cases ha:ar ps with
  |none=>rw[ha] at z;exact z.elim
  |some a=>
   rw[ha] at z;simp only[Eo] at z;obtain⟨ax,hK⟩:=z;refine⟨Oa av,_,_,?_,hK⟩;intro C S vs RR hW az ab ac am ah;have be:=Qtx hW args ps vs.toList (λm hm=>az m (Kv _ hm)) hp am;have a9:=Qxy hW;obtain⟨σ,hσ⟩: ∃σ:Nat->Nat,σ=Cm (λj=>j) 0 nx:=⟨_,rfl⟩;have hσj: ∀j,σ j=nx+j:=λj=>by rw[hσ];simp[Cm]
   rw[<-hσ] at ah;obtain⟨_,r,E,hT,rfl,rfl⟩:=bd (ag a) (λ_=>none) nx (λr E=>r=(r0 a).ren σ/\E={use:=[],kill:=[],new:=AY σ (H1 a),cnt:=cnt})
    ⟨a,λj=>j,[],[],ax,by rw[au,MN],trivial,⟨by simp[Ao,hget],by simp[Ao,hget],by simp[Ao,hget],by simp,by simp[Ao,hget]⟩,by rw[hσ],by rw[hσ]⟩
   have ba:AN S.froz (ag a) vs.toList:=by rw[au];exact pK _ _ ((bc ps a ha).c be)
   refine hT (aV S) S.froz vs RR a9 (by simp) (λn hn=> ?_) (λn e Q m hm hF=> ?_) ba ?_
   .have:=ab n hn
    show (S.h n).map _=none;rw[this];rfl
   .obtain⟨e0,G,rfl⟩:=lL Q;exact ac n e0 G m hm hF
   intro v S1 Z bb _ aw;have ai: ∀n e,hget (AY σ (H1 a)) n=some e->Fr nx cnt n/\e.1=true/\JI e.2=true/\ ∀m∈e.2.nms,Fr nx cnt m:=by
    intro n e Q;obtain⟨j,e0,G,O,rfl⟩:=vG Q;obtain⟨g1,g2,g3,g4⟩:=hH1 a _ G;obtain⟨q1,q2⟩:=YI σ e0.2 g3;refine⟨by rw[<-O,hσj];exact⟨by omega,by omega⟩,g2,q1,λm hm=> ?_⟩;obtain⟨i,hi,rfl⟩:=q2 m hm
    have:=g4 i hi
    rw[hσj];exact⟨by omega,by omega⟩
   have ao:S.w.heap.size<=S1.w.heap.size:=Z.size;have aa: ∀b,b<S.w.heap.size->S1.w.heap[b]? =S.w.heap[b]? :=λb hb=>Z.keep b hb (λh=>h)
   have aq: ∀n,Fr nx cnt n->S.h n=none:=ab
   let E':Br:={use:=Fv h args,kill:=[],new:=AY σ (H1 a),cnt:=cnt}
   have aj: ∀n,E'.appf S.h n=match hget (AY σ (H1 a)) n with
    |some e=>some e
    |none=>S.h n:=λn=>by simp only[E',Br.appf];rfl
   have a0: ∀n,S1.h n=match hget (AY σ (H1 a)) n with
    |some e=>some e
    |none=>S.froz.h n:=λn=>by rw[bb];simp only[Br.appf];rfl
   let S':A9:=⟨λn=>if nx<=n/\n<nx+cnt then S1.ρ n else S.ρ n,S.ok,E'.appf S.h,S1.w⟩
   have ak: ∀n,S'.h n=E'.appf S.h n:=λ_=>rfl
   have aF: ∀n,Fr nx cnt n->S'.h n=S1.h n:=by
    intro n hn;rw[ak,aj,a0];cases hget (AY σ (H1 a)) n with
    |some e=>rfl
    |none=>
     show S.h n=(S.h n).map _;rw[aq n hn];rfl
   have aR: ∀n,Fr nx cnt n->S'.ρ n=S1.ρ n:=λn hn=>An hn
   have oF: ∀n,¬Fr nx cnt n->S'.h n=S.h n:=by
    intro n hn;rw[ak,aj];cases hq:hget (AY σ (H1 a)) n with
    |some e=>exact absurd (ai n e hq).1 hn
    |none=>rfl
   have oR: ∀n,¬Fr nx cnt n->S'.ρ n=S.ρ n:=λn hn=>Af hn
   have hp':B3 (λn=> ¬Fr nx cnt n) S S':=⟨λb hb=>⟨hb,aa b (hW.oks b hb)⟩,λo ho e' an=>⟨e',by rw[<-oF o ho];exact an,oR o ho,rfl,rfl⟩⟩;have nF: ∀n e,S.h n=some e-> ¬Fr nx cnt n:=λn e Q hn=>by rw[aq n hn] at Q;cases Q
   have split: ∀o e,S'.h o=some e->(Fr nx cnt o/\S1.h o=some e/\S'.ρ o=S1.ρ o/\e.1=true/\JI e.2=true/\ ∀m∈e.2.nms,Fr nx cnt m)\/(S.h o=some e/\S'.ρ o=S.ρ o):=by
    intro o e Q;by_cases hn:Fr nx cnt o
    .left;have G:S1.h o=some e:=by rw[<-aF o hn];exact Q
     have O:=Q;rw[ak,aj] at O;cases hq:hget (AY σ (H1 a)) o with
     |some e1=>
      rw[hq] at O;obtain rfl:=AD O;exact⟨hn,G,aR o hn,(ai o _ hq).2⟩
     |none=>
      rw[hq] at O;exact absurd hn (nF o e O)
    .right;exact⟨by rw[<-oF o hn];exact Q,oR o hn⟩
   have af: ∀o e l,S1.h o=some e->S1.ρ o=some l->e.1=true->l.b<S1.w.heap.size/\S.w.heap.size<=l.b:=by
    intro o e l Q hl hm;obtain⟨O,h3⟩:=Z.loc o e l Q hl;rw[hm] at h3;simp only[BM] at h3;exact⟨O,h3.2.elim (λh=>h) (λh=>h.elim)⟩
   have a8:Wf C S':=by
    refine⟨Z.os.trans hW.os,Z.tape.trans hW.tape,Z.output.trans hW.output,D9 hW.size ao,?_,hW.ok0,hW.ok1,λb hb=>Gr (hW.oks b hb) ao,?_,?_,?_,hW.gl⟩
    .intro b hb hM;exact (aa b (Gr hb hW.size)).trans (hW.keep b hb hM)
    .intro o e Q;rcases split o e Q with ⟨_,G,O,_,h4,h5⟩|⟨G,O⟩
     .rw[O];exact TF aF aR rfl _ e.2 h4 h5 (Z.obj o e G)
     .rw[O];exact Ih hp' (λlc hl=>aa lc.b (hW.loc o e lc G hl).1) _ (λm hm hF=>ac o e G m hm hF) (hW.obj o e G)
    .intro o e l Q hl;rcases split o e Q with ⟨_,G,O,h3,_⟩|⟨G,O⟩
     .rw[O] at hl;obtain⟨b1,b2⟩:=af o e l G hl h3;refine⟨b1,?_⟩;rw[h3];simp only[BM];exact⟨λhk=>by have:=hW.oks _ hk;omega,.inl (D9 hW.size b2)⟩
     .rw[O] at hl;obtain⟨b1,b2⟩:=hW.loc o e l G hl;exact⟨Gr b1 ao,b2⟩
    .intro o o' e e' l l' Q an hl ad hb hm;rcases split o e Q with ⟨_,G,O,h3,_⟩|⟨G,O⟩<;>rcases split o' e' an with ⟨_,k1,k2,k3,_⟩|⟨k1,k2⟩<;>rw[O] at hl<;>rw[k2] at ad
     .exact Z.inj o o' e e' l l' G k1 hl ad hb hm
     .have:=(af o e l G hl h3).2
      have:=(hW.loc o' e' l' k1 ad).1
      omega
     .have:=(af o' e' l' k1 ad k3).2
      have:=(hW.loc o e l G hl).1
      omega
     .exact hW.inj o o' e e' l l' G k1 hl ad hb hm
   obtain⟨q1,q2⟩:=Un σ (r0 a) (ay a).1;refine ah v S' a8 rfl hp' (cO aF aR _ v q1 (λm hm=> ?_) aw);obtain⟨j,hj,rfl⟩:=q2 m hm
   have:=(ay a).2 j hj
   rw[hσj];exact⟨by omega,by omega⟩
end Go.Ae
