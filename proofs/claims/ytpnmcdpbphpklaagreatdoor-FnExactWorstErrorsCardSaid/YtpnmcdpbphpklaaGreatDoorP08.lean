/- Lemmas. Conditions: none. -/
import Derived.Test.YtpnmcdpbphpklaaGreatDoorP07
import Derived.ProofKit
import Derived.SizedLaws
import Derived.OpenShut
import Derived.Test.YtpnmcdpbphpklaaGreatDoorRows
import Derived.Carry
import Derived.WalkKit
set_option linter.all false
set_option maxHeartbeats 8000000
set_option maxRecDepth 100000
namespace Go.Ae
open Go Go.Proofs
section
variable {H:Type}{enc:TypeId×Value->H}{P:Program}{W:World}
def Fi{H:Type}(enc:TypeId×Value->H)(P:Program)(W:World)(t:TypeId){α:Type}(c:α->List D)(Q:α->Prop):Prop:=
 ∀(z:Nat) (cs:List Value) (x:DataW H×List MemPlace),DataW.trod enc P W 0 (λ_=>true) true z t cs=some x->(x.1.weights P t).all (· <=reachBytes)=true->
  ∃y:α,rdl (λb=>b<W.heap.size) (λb=>W.heap[b]?) (c y) cs/\Q y
def Fi.to{t:TypeId}{α β:Type}{c:α->List D}{Q:α->Prop}{c':β->List D}{Q':β->Prop}(h:Fi enc P W t c Q)(f:α->β)(hc: ∀y,c' (f y)=c y)(Z: ∀y,Q y->Q' (f y)):Fi enc P W t c' Q':=by
 intro z cs x G O;obtain⟨y,g1,g2⟩:=h z cs x G O;exact⟨f y,by rw[hc];exact g1,Z y g2⟩
def Zw{t:TypeId}(G:P.underlying t=some (.int .i64)):Fi enc P W t (λn:Int=>[.int .i64 n]) (λ_=>True):=by
 intro z cs x h _;obtain⟨n,rfl,_,_⟩:=DataW.trod_int G h;exact⟨n,⟨_,_,rfl,rfl,rfl⟩,trivial⟩
def Mw{t:TypeId}(O:P.underlying t=some .string):Fi enc P W t (λs:ByteArray=>[.str s]) (λs=>s.size<=140737488355328):=by
 intro z cs x h Q;obtain⟨s,rfl,rfl,_⟩:=DataW.trod_string O h;refine⟨s,⟨_,_,rfl,rfl,rfl⟩,?_⟩;have G:=DV.1 Q s.data.toList.length (by simp[DataW.weights]);rw[Bo,Dm] at G;have Z:s.data.size=s.size:=rfl;have h3:reachBytes<=140737488355328:=by decide
 omega
def yM{ok:Nat->Prop}{hp:Nat->Option Obj}: ∀(a:List D) (x:List Value) {b:List D} {y:List Value},rdl ok hp a x->rdl ok hp b y->rdl ok hp (a++b) (x++y)
 |[],x,b,y,z,G=>by
  simp only[rdl] at z;subst z;exact G
 |d::a,x,b,y,z,G=>by
  simp only[rdl] at z;obtain⟨v,r,rfl,O,Q⟩:=z;exact⟨v,r++y,rfl,O,yM a r Q G⟩
def Qzi{ok:Nat->Prop}{hp:Nat->Option Obj}: ∀(a:List D) (x:List Value) (y:List Value),rdl ok hp a x->rdp ok hp a (x++y)
 |[],x,y,z=>trivial
 |d::a,x,y,z=>by
  simp only[rdl] at z;obtain⟨v,r,rfl,G,O⟩:=z;exact⟨v,r++y,rfl,G,Qzi a r y O⟩
def pick{α:Type}{R:Nat->α->Prop}: ∀(n:Nat),(∀i,i<n-> ∃y,R i y)-> ∃l:List α,l.length=n/\ ∀i y,l[i]? =some y->R i y
 |0,_=>⟨[],rfl,λi y h=>by simp at h⟩
 |n+1,h=>by
  obtain⟨l,Q,Z⟩:=pick n (λi O=>h i (by omega));obtain⟨y,hy⟩:=h n (by omega);refine⟨l++[y],by simp[Q],λi z G=> ?_⟩;rcases EI i n with O|O
  .rw[DQ (by omega)] at G;exact Z i z G
  .rw[E7 (by omega)] at G
   have:i - l.length=0:=by
    rcases mF (i - l.length) with h0|h0
    .exact h0
    .rw[Fz (by simp;omega)] at G;cases G
   rw[this] at G;obtain rfl:=Aw G
   have:i=n:=by omega
   rw[this];exact hy
def Qz1{ok:Nat->Prop}{hp:Nat->Option Obj}{α:Type}{c:α->List D}{k:Nat}(G: ∀y,(c y).length=k): ∀(l:List α) (L:List Value),(∀i y,l[i]? =some y->rdp ok hp (c y) (L.drop (i*k)))->rdr ok hp k (l.map c) L
 |[],L,_=>trivial
 |y::r,L,h=>by
  refine⟨G y,?_,Qz1 G r (L.drop k) (λi z O=> ?_)⟩
  .have:=h 0 y rfl
   rwa [fO,FR] at this
  .have:=h (i+1) z O
   rwa [DX,show k+i*k=(i+1)*k by rw[Fk,I5,fN]]
def Qy9{a:Addr}{k:Nat}{cs:List Value}(hk:0<k)(h:W.cells? 0 a k=some cs):a.spot=none/\ ∃vs T Q,W.heap[a.block]? =some (.cells vs T Q)/\ ∃r,vs.toList.drop a.off=cs++r/\cs.length=k:=by
 unfold World.cells? at h;rw[Ai (BP _)] at h;have hl:=mapM_some_length h;rw[Xa] at hl;have hg: ∀i,i<k->W.cell? (a.add i)=cs[i]? :=λi O=>mapM_some_get h i i (by rw[Qa O])
 have h0:=hg 0 hk;rw[Bd (by omega)] at h0;have hsp:a.spot=none:=by
  cases hs:a.spot with
  |none=>rfl
  |some s=>
   exfalso
   have:(a.add 0).spot.isSome=true:=by
    unfold Addr.add
    split<;>simp_all
   unfold World.cell? at h0;split at h0
   .rw[Ai this] at h0;cases h0
   .cases h0
 refine⟨hsp,?_⟩;obtain⟨b,off,sp⟩:=a;simp only at hsp;subst hsp;have z: ∀i,(⟨b,off,none⟩:Addr).add i=⟨b,off+i,none⟩:=λi=>NB b off i
 rw[z] at h0;unfold World.cell? at h0;simp only at h0;split at h0
 .rename_i vs T Q Z;simp only[Xc,CN,Cu] at h0;refine⟨vs,T,Q,Z,(vs.toList.drop off).drop k,?_,hl⟩;have G: ∀i,i<k->vs[off+i]? =cs[i]? :=by
   intro i O
   have:=hg i O
   rw[z] at this;simp only[World.cell?,Z,Xc,CN,Cu] at this;exact this
  apply NP;intro i;rw[Ez,GU];rcases EI i k with O|O
  .rw[DQ (by omega)];exact G i O
  .rw[E7 (by omega),Ez,Ez,GU];congr 1;show off+i=off+(k+(i - cs.length));omega
 .cases h0
def yS{t e:TypeId}{α:Type}{c:α->List D}{Q:α->Prop}{k:Nat}(ht:P.underlying t=some (.slice e))(hk:P.cellsOf e=k)(ah:0<k)(hb:1<=P.bytesOf e)(hc: ∀y,(c y).length=k)(h:Fi enc P W e c Q):
 Fi enc P W t (λl:List α=>[.sl false k (l.map c)]) (λl=> ∀y∈l,Q y):=by
 intro aw cs x hx hw;rcases DataW.trod_slice ht hx with ⟨rfl,rfl⟩|⟨a,len,cap,O,am,m,rfl,rfl,rfl,_,ao,_,ay,ab,Z,_⟩
 .exact⟨[],⟨_,_,rfl,.inl ⟨.inl rfl,rfl⟩,rfl⟩,by simp⟩
 obtain⟨az,Z⟩:=Z rfl;simp only[DataW.weights,ht,KP,uZ,AO,Bo,EJ] at hw;obtain⟨w1,w2,_⟩:=hw;have ai:len<=Hq:=by
  have:=ZeH (O.length+am.length) hb
  simp only[reachBytes,Hq] at w1⊢;omega
 by_cases af:cap=0
 .subst af
  have:len=0:=by omega
  subst this;exact⟨[],⟨_,_,rfl,.inl ⟨.inr ⟨rfl,a,rfl⟩,rfl⟩,rfl⟩,by simp⟩
 have ac: ∀i,i<cap-> ∃cs,W.cells? 0 (a.add (i*k)) k=some cs:=by
  intro i hi;rw[hk] at ab Z;rcases EI i len with h1|h1
  .have:=ab i h1
   rw[Bd (by omega)] at this;cases hq:W.cells? 0 (a.add (i*k)) k with
   |none=>rw[hq] at this;cases this
   |some cs=>exact⟨cs,rfl⟩
  .have:=Z (i - len) (by omega)
   rw[show len+(i - len)=i by omega,Bd (by omega)] at this;cases hq:W.cells? 0 (a.add (i*k)) k with
   |none=>rw[hq] at this;cases this
   |some cs=>exact⟨cs,rfl⟩
 obtain⟨ax,ag⟩:=ac 0 (by omega);obtain⟨ak,vs,T,fr,G,_⟩:=Qy9 ah ag;have hsp:a.spot=none:=by
  cases hs:a.spot with
  |none=>rfl
  |some s=>
   exfalso
   have:(a.add (0*k)).spot.isSome=true:=by
    unfold Addr.add
    split<;>simp_all
   rw[ak] at this;cases this
 obtain⟨b,off,sp⟩:=a;simp only at hsp;subst hsp;have aa: ∀i,(⟨b,off,none⟩:Addr).add i=⟨b,off+i,none⟩:=λi=>NB b off i
 rw[aa] at G;simp only at G;have aq: ∀i,i<len-> ∃y:α,rdp (λb=>b<W.heap.size) (λb=>W.heap[b]?) (c y) ((vs.toList.drop off).drop (i*k))/\Q y:=by
  intro i hi;have h1:=ab i hi;rw[hk,Bd (by omega)] at h1;cases hq:W.cells? 0 ((⟨b,off,none⟩:Addr).add (i*k)) k with
  |none=>rw[hq] at h1;cases h1
  |some ci=>
   rw[hq,H3] at h1;obtain⟨_,av,T',an,hh,r,hr,_⟩:=Qy9 ah hq;rw[aa] at hh hr;simp only at hh hr;rw[G] at hh;obtain⟨rfl,rfl,rfl⟩:vs=av/\T=T'/\fr=an:=by
    have:=Aw hh
    simp only[Obj.cells.injEq] at this;exact this
   have au:(O[i].1.weights P e).all (· <=reachBytes)=true:=by
    rw[DV] at w2⊢;intro n hn;refine w2 n ?_
    have: ∀(l:List (DataW H)) (d:DataW H),d∈l-> ∀n∈d.weights P e,n∈DataW.weightsAll P e l:=by
     intro l;induction l with
     |nil=>intro d hd;cases hd
     |cons z r ih=>
      intro d hd n hn;simp only[DataW.weightsAll,Bp];rcases Bx.1 hd with rfl|hd
      .exact .inl hn
      .exact .inr (ih d hd n hn)
    exact this _ O[i].1 (BI.2 ⟨O[i],Rh _,rfl⟩) n hn
   obtain⟨y,g1,g2⟩:=h m ci O[i] h1 au;refine⟨y,?_,g2⟩;rw[DX,hr];exact Qzi _ _ _ g1
 obtain⟨l,hl,aj⟩:=pick (R:=λi y=>rdp (λb=>b<W.heap.size) (λb=>W.heap[b]?) (c y) ((vs.toList.drop off).drop (i*k))/\Q y) len aq;have ad:b<W.heap.size:=by
  rcases EI b W.heap.size with h|h
  .exact h
  .rw[Rb h] at G;cases G
 refine⟨l,⟨_,_,rfl,.inr ⟨b,off,cap,vs,T,fr,by rw[EJ,hl],by simp,by rw[EJ,hl];exact ao,by rw[EJ,hl];exact ai,ad,G,Qz1 hc l _ (λi y hy=>(aj i y hy).1)⟩,rfl⟩,λy hy=> ?_⟩;obtain⟨i,hi⟩:=List.getElem?_of_mem hy;exact (aj i y hi).2
def iP{t:TypeId}{α0:Type}{c0:α0->List D}{Q:α0->Prop}{G:Field}(ht:P.underlying t=some (.struct #[G]))(o0:G.offset=0)(hn:P.cellsOf t=P.cellsOf G.type)(h0:Fi enc P W G.type c0 Q):
 Fi enc P W t (λy:α0=>c0 (y)) (λy=>Q (y)):=by
 intro aa cs x h hw;obtain⟨xs,m,rfl,rfl,hl,O,hf⟩:=DataW.trod_struct ht h;have hx: ∀i,i<1-> ∃z,xs[i]? =some z:=λi hi=>⟨_,Bd (by rw[O];exact hi)⟩
 simp only[DataW.weights,ht] at hw;obtain⟨z0,Z⟩:=hx 0 (by decide);obtain⟨y0,r0,q0⟩:=h0 m _ z0 ((hf 0 G rfl).trans Z) (DV.2 λk hk=>DV.1 hw k (DataW.weights_mem_each (j:=0) (t:=G.type) (d:=z0.1) rfl (by rw[Ef,Z];rfl) k hk));rw[o0] at r0;refine⟨(y0),?_,q0⟩;simp only;have e:cs=(cs.drop (0)).take (P.cellsOf G.type):=by
  have ab:cs.length=P.cellsOf G.type:=hl.trans hn;rw[FR,DP (by omega)]
 rw[e];exact r0
def tG{t:TypeId}{α0:Type}{c0:α0->List D}{Q0:α0->Prop}{G:Field}{α1:Type}{c1:α1->List D}{Q1:α1->Prop}{O:Field}(ht:P.underlying t=some (.struct #[G,O]))(o0:G.offset=0)(o1:O.offset=P.cellsOf G.type)(hn:P.cellsOf t=P.cellsOf G.type+P.cellsOf O.type)(h0:Fi enc P W G.type c0 Q0)(h1:Fi enc P W O.type c1 Q1):
 Fi enc P W t (λy:α0×α1=>c0 (y.1)++(c1 (y.2))) (λy=>Q0 (y.1)/\Q1 (y.2)):=by
 intro ab cs x h Z;obtain⟨xs,m,rfl,rfl,hl,aa,hf⟩:=DataW.trod_struct ht h;have hx: ∀i,i<2-> ∃z,xs[i]? =some z:=λi hi=>⟨_,Bd (by rw[aa];exact hi)⟩
 simp only[DataW.weights,ht] at Z;obtain⟨z0,e0⟩:=hx 0 (by decide);obtain⟨y0,r0,q0⟩:=h0 m _ z0 ((hf 0 G rfl).trans e0) (DV.2 λk Q=>DV.1 Z k (DataW.weights_mem_each (j:=0) (t:=G.type) (d:=z0.1) rfl (by rw[Ef,e0];rfl) k Q));rw[o0] at r0;obtain⟨z1,e1⟩:=hx 1 (by decide);obtain⟨y1,r1,q1⟩:=h1 m _ z1 ((hf 1 O rfl).trans e1) (DV.2 λk Q=>DV.1 Z k (DataW.weights_mem_each (j:=1) (t:=O.type) (d:=z1.1) rfl (by rw[Ef,e1];rfl) k Q));rw[o1] at r1;refine⟨(y0,y1),?_,q0,q1⟩;simp only;have e:cs=(cs.drop (0)).take (P.cellsOf G.type)++((cs.drop (P.cellsOf G.type)).take (P.cellsOf O.type)):=by
  have ac:cs.length=P.cellsOf G.type+P.cellsOf O.type:=hl.trans hn;rw[FR];rw[DP (l:=cs.drop (P.cellsOf G.type)) (by rw[Ch];omega)];rw[HZ]
 rw[e];exact yM _ _ r0 (r1)
def iQ{t:TypeId}{α0:Type}{c0:α0->List D}{Q0:α0->Prop}{G:Field}{α1:Type}{c1:α1->List D}{Q1:α1->Prop}{O:Field}{α2:Type}{c2:α2->List D}{Q2:α2->Prop}{Q:Field}(ht:P.underlying t=some (.struct #[G,O,Q]))(o0:G.offset=0)(o1:O.offset=P.cellsOf G.type)(o2:Q.offset=P.cellsOf G.type+P.cellsOf O.type)(hn:P.cellsOf t=P.cellsOf G.type+P.cellsOf O.type+P.cellsOf Q.type)(h0:Fi enc P W G.type c0 Q0)(h1:Fi enc P W O.type c1 Q1)(h2:Fi enc P W Q.type c2 Q2):
 Fi enc P W t (λy:α0×α1×α2=>c0 (y.1)++(c1 (y.2.1)++(c2 (y.2.2)))) (λy=>Q0 (y.1)/\Q1 (y.2.1)/\Q2 (y.2.2)):=by
 intro ab cs x h hw;obtain⟨xs,m,rfl,rfl,hl,aa,hf⟩:=DataW.trod_struct ht h;have hx: ∀i,i<3-> ∃z,xs[i]? =some z:=λi hi=>⟨_,Bd (by rw[aa];exact hi)⟩
 simp only[DataW.weights,ht] at hw;obtain⟨z0,e0⟩:=hx 0 (by decide);obtain⟨y0,r0,q0⟩:=h0 m _ z0 ((hf 0 G rfl).trans e0) (DV.2 λk Z=>DV.1 hw k (DataW.weights_mem_each (j:=0) (t:=G.type) (d:=z0.1) rfl (by rw[Ef,e0];rfl) k Z));rw[o0] at r0;obtain⟨z1,e1⟩:=hx 1 (by decide);obtain⟨y1,r1,q1⟩:=h1 m _ z1 ((hf 1 O rfl).trans e1) (DV.2 λk Z=>DV.1 hw k (DataW.weights_mem_each (j:=1) (t:=O.type) (d:=z1.1) rfl (by rw[Ef,e1];rfl) k Z));rw[o1] at r1;obtain⟨z2,e2⟩:=hx 2 (by decide);obtain⟨y2,r2,q2⟩:=h2 m _ z2 ((hf 2 Q rfl).trans e2) (DV.2 λk Z=>DV.1 hw k (DataW.weights_mem_each (j:=2) (t:=Q.type) (d:=z2.1) rfl (by rw[Ef,e2];rfl) k Z));rw[o2] at r2;refine⟨(y0,y1,y2),?_,q0,q1,q2⟩;simp only;have e:cs=(cs.drop (0)).take (P.cellsOf G.type)++((cs.drop (P.cellsOf G.type)).take (P.cellsOf O.type)++((cs.drop (P.cellsOf G.type+P.cellsOf O.type)).take (P.cellsOf Q.type))):=by
  have ac:cs.length=P.cellsOf G.type+P.cellsOf O.type+P.cellsOf Q.type:=hl.trans hn;rw[FR];rw[DP (l:=cs.drop (P.cellsOf G.type+P.cellsOf O.type)) (by rw[Ch];omega)];rw[show cs.drop (P.cellsOf G.type+P.cellsOf O.type)=(cs.drop (P.cellsOf G.type)).drop (P.cellsOf O.type) by rw[DX],HZ];rw[HZ]
 rw[e];exact yM _ _ r0 (yM _ _ r1 (r2))
end
section
variable {H:Type}{enc:TypeId×Value->H}{W:World}
def iN:Fi enc Tryz.prog W 60 Ac.c (λ_=>True):=
 (tG Tryz.underlying60 rfl (by kernel_rfl) (by kernel_rfl) (Zw Tryz.underlying2) (Zw Tryz.underlying2)).to (λy=>(⟨y.1,y.2⟩:Ac)) (λ_=>rfl) (λ_ _=>trivial)
def Yu:Fi enc Tryz.prog W 128 Aj.c (λ_=>True):=
 (tG Tryz.underlying128 rfl (by kernel_rfl) (by kernel_rfl) iN (Zw Tryz.underlying2)).to (λy=>(⟨y.1,y.2⟩:Aj)) (λ_=>rfl) (λ_ _=>trivial)
def xA:Fi enc Tryz.prog W 186 Av.c (λg=>g.Name.size<=140737488355328):=
 (tG Tryz.underlying186 rfl (by kernel_rfl) (by kernel_rfl) (Mw Tryz.underlying9) (Zw Tryz.underlying2)).to (λy=>(⟨y.1,y.2⟩:Av)) (λ_=>rfl) (λ_ h=>h.1)
def xB:Fi enc Tryz.prog W 56 (λl:List Int=>[.sl false 1 (l.map Ao)]) (λl=> ∀y∈l,True):=
 yS (c:=Ao) Tryz.underlying56 (by kernel_rfl) (by decide) (by decide+kernel) (λ_=>rfl) (Zw Tryz.underlying2)
def xC:Fi enc Tryz.prog W 189 Tile.c (λg=>g.Name.size<=140737488355328):=
 (tG Tryz.underlying189 rfl (by kernel_rfl) (by kernel_rfl) (Mw Tryz.underlying9) xB).to (λy=>(⟨y.1,y.2⟩:Tile)) (λ_=>rfl) (λ_ h=>h.1)
def iM:Fi enc Tryz.prog W 22 (λl:List Av=>[.sl false 2 (l.map Av.c)]) (λl=> ∀y∈l,y.Name.size<=140737488355328):=
 yS Tryz.underlying22 (by kernel_rfl) (by decide) (by decide+kernel) (λ_=>rfl) xA
def iO:Fi enc Tryz.prog W 23 (λl:List Tile=>[.sl false 2 (l.map Tile.c)]) (λl=> ∀y∈l,y.Name.size<=140737488355328):=
 yS Tryz.underlying23 (by kernel_rfl) (by decide) (by decide+kernel) (λ_=>rfl) xC
def TJ:Fi enc Tryz.prog W 26 (λl:List Aj=>[.sl false 3 (l.map Aj.c)]) (λl=> ∀y∈l,True):=
 yS Tryz.underlying26 (by kernel_rfl) (by decide) (by decide+kernel) (λ_=>rfl) Yu
def rSet:Fi enc Tryz.prog W 25 A8.c OB:=
 (tG Tryz.underlying25 rfl (by kernel_rfl) (by kernel_rfl) iM iO).to (λy=>(⟨y.1,y.2⟩:A8)) (λ_=>rfl) (λ_ h=>h)
def wZ:Fi enc Tryz.prog W 28 Ab.c (λ_=>True):=
 (iP Tryz.underlying28 rfl (by kernel_rfl) TJ).to (λy=>(⟨y⟩:Ab)) (λ_=>rfl) (λ_ _=>trivial)
def rSys:Fi enc Tryz.prog W 30 Am.c (λs=>OB s.Set):=
 (iQ Tryz.underlying30 rfl (by kernel_rfl) (by kernel_rfl) (by kernel_rfl) rSet wZ (Zw Tryz.underlying2)).to (λy=>(⟨y.1,y.2.1,y.2.2⟩:Am)) (λ_=>rfl) (λ_ h=>h.1)
end
end Go.Ae
namespace Go.Ae
open Go Go.Proofs Go.RowKit
def vV(W:World):Au:=⟨λ_=>none,λb=>b<W.heap.size,λ_=>none,W⟩
def vU(W:World):AT:=AT.mk0 W (λ_=>False) (λb=>b<W.heap.size)
def wf0(W:World)(G:GP (λb=>b<W.heap.size) (λb=>W.heap[b]?)):Wf (vU W) (vV W):=
 ⟨rfl,rfl,rfl,AF _,AF _,λ_ _ _=>rfl,λ_ h=>h,λ_ h=> .inl h,λ_ h=>h,λo e h=>(by cases h),λo e l h=>(by cases h),λo o' e e' l l' h=>(by cases h),G.mono λ_ _ z O=>⟨⟨z,λh=>h.elim⟩,O⟩⟩
def R2{P:Program}{g:FuncId}{row:Ax}(Q:Ga P g row){W:World}(hg:GP (λb=>b<W.heap.size) (λb=>W.heap[b]?)){args:Array Value}{ds:List D}(O:row (ds.map .im) (λ_=>none) 0 (λr _=>r= .im (.bool true)))
 (G:rdl (λb=>b<W.heap.size) (λb=>W.heap[b]?) ds args.toList):Calls P g args W λe W'=>e= .returned (.bool true)/\Below W.heap.size W W':=by
 obtain⟨_,r,E,hT,rfl⟩:=Q _ _ _ _ O;refine hT (vU W) (vV W) args _ (wf0 W hg) (λ_ _=>rfl) (λ_ _=>rfl) (λn e h=>(by cases h)) ((Il _ _).2 G) ?_;intro v S' z _ _ Z;simp only[Aa,rd] at Z;subst Z;exact⟨rfl,z.os,z.tape,z.output,z.size,λk hk=>z.keep k hk (λh=>h)⟩
end Go.Ae
