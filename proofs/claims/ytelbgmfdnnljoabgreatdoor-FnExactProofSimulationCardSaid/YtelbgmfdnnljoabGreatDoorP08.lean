/- Lemmas. Conditions: none. -/
import Derived.Test.YtelbgmfdnnljoabGreatDoorP07
import Derived.ProofKit
import Derived.SizedLaws
import Derived.OpenShut
import Derived.Test.YtelbgmfdnnljoabGreatDoorRows
import Derived.Carry
import Derived.WalkKit
set_option linter.all false
set_option maxHeartbeats 8000000
set_option maxRecDepth 100000
namespace Go.Ae
open Go Go.Proofs
section
variable {H:Type}{enc:TypeId×Value->H}{P:Program}{W:World}
def F7{H:Type}(enc:TypeId×Value->H)(P:Program)(W:World)(t:TypeId){α:Type}(c:α->List D)(Q:α->Prop):Prop:=
 ∀(z:Nat) (cs:List Value) (x:DataW H×List MemPlace),DataW.trod enc P W 0 (λ_=>true) true z t cs=some x->(x.1.weights P t).all (· <=reachBytes)=true->
  ∃y:α,rdl (λb=>b<W.heap.size) (λb=>W.heap[b]?) (c y) cs/\Q y
def F7.to{t:TypeId}{α β:Type}{c:α->List D}{Q:α->Prop}{c':β->List D}{Q':β->Prop}(h:F7 enc P W t c Q)(f:α->β)(hc: ∀y,c' (f y)=c y)(hQ: ∀y,Q y->Q' (f y)):F7 enc P W t c' Q':=by
 intro z O x Z h2;obtain⟨y,g1,g2⟩:=h z O x Z h2;exact⟨f y,by rw[hc];exact g1,hQ y g2⟩
def fM{t:TypeId}(O:P.underlying t=some (.int .i64)):F7 enc P W t (λn:Int=>[.int .i64 n]) (λ_=>True):=by
 intro z Q x h _;obtain⟨n,rfl,_,_⟩:=DataW.trod_int O h;exact⟨n,⟨_,_,rfl,rfl,rfl⟩,trivial⟩
def Nn{t:TypeId}(Q:P.underlying t=some .string):F7 enc P W t (λs:ByteArray=>[.str s]) (λs=>s.size<=140737488355328):=by
 intro z cs x h Z;obtain⟨s,rfl,rfl,_⟩:=DataW.trod_string Q h;refine⟨s,⟨_,_,rfl,rfl,rfl⟩,?_⟩;have O:=CR.1 Z s.data.toList.length (by simp[DataW.weights]);rw[CF,Fi] at O;have h2:s.data.size=s.size:=rfl;have h3:reachBytes<=140737488355328:=by decide
 omega
def zC{ok:Nat->Prop}{hp:Nat->Option Obj}: ∀(a:List D) (x:List Value) {b:List D} {y:List Value},rdl ok hp a x->rdl ok hp b y->rdl ok hp (a++b) (x++y)
 |[],x,b,y,z,O=>by
  simp only[rdl] at z;subst z;exact O
 |d::a,x,b,y,z,O=>by
  simp only[rdl] at z;obtain⟨v,r,rfl,Q,Z⟩:=z;exact⟨v,r++y,rfl,Q,zC a r Z O⟩
def Qzi{ok:Nat->Prop}{hp:Nat->Option Obj}: ∀(a:List D) (x:List Value) (y:List Value),rdl ok hp a x->rdp ok hp a (x++y)
 |[],x,y,z=>trivial
 |d::a,x,y,z=>by
  simp only[rdl] at z;obtain⟨v,r,rfl,O,Q⟩:=z;exact⟨v,r++y,rfl,O,Qzi a r y Q⟩
def pick{α:Type}{R:Nat->α->Prop}: ∀(n:Nat),(∀i,i<n-> ∃y,R i y)-> ∃l:List α,l.length=n/\ ∀i y,l[i]? =some y->R i y
 |0,_=>⟨[],rfl,λi y h=>by simp at h⟩
 |n+1,h=>by
  obtain⟨l,Z,h2⟩:=pick n (λi Q=>h i (by omega));obtain⟨y,hy⟩:=h n (by omega);refine⟨l++[y],by simp[Z],λi z O=> ?_⟩;rcases Gd i n with Q|Q
  .rw[Io (by omega)] at O;exact h2 i z O
  .rw[Kc (by omega)] at O
   have:i - l.length=0:=by
    rcases mV (i - l.length) with h0|h0
    .exact h0
    .rw[Ir (by simp;omega)] at O;cases O
   rw[this] at O;obtain rfl:=AJ O
   have:i=n:=by omega
   rw[this];exact hy
def Qz1{ok:Nat->Prop}{hp:Nat->Option Obj}{α:Type}{c:α->List D}{k:Nat}(O: ∀y,(c y).length=k): ∀(l:List α) (L:List Value),(∀i y,l[i]? =some y->rdp ok hp (c y) (L.drop (i*k)))->rdr ok hp k (l.map c) L
 |[],L,_=>trivial
 |y::r,L,h=>by
  refine⟨O y,?_,Qz1 O r (L.drop k) (λi z Q=> ?_)⟩
  .have:=h 0 y rfl
   rwa [Kf,GJ] at this
  .have:=h (i+1) z Q
   rwa [Es,show k+i*k=(i+1)*k by rw[DB,Fk,mZ]]
def Qy9{a:Addr}{k:Nat}{cs:List Value}(hk:0<k)(h:W.cells? 0 a k=some cs):a.spot=none/\ ∃vs T fr,W.heap[a.block]? =some (.cells vs T fr)/\ ∃r,vs.toList.drop a.off=cs++r/\cs.length=k:=by
 unfold World.cells? at h;rw[Ai (C5 _)] at h;have hl:=mapM_some_length h;rw[Jp] at hl;have hg: ∀i,i<k->W.cell? (a.add i)=cs[i]? :=λi Z=>mapM_some_get h i i (by rw[Ga Z])
 have h0:=hg 0 hk;rw[BA (by omega)] at h0;have Q:a.spot=none:=by
  cases hs:a.spot with
  |none=>rfl
  |some s=>
   exfalso
   have:(a.add 0).spot.isSome=true:=by
    unfold Addr.add
    split<;>simp_all
   unfold World.cell? at h0;split at h0
   .rw[Ai this] at h0;cases h0
   .cases h0
 refine⟨Q,?_⟩;obtain⟨b,off,sp⟩:=a;simp only at Q;subst Q;have z: ∀i,(⟨b,off,none⟩:Addr).add i=⟨b,off+i,none⟩:=λi=>O3 b off i
 rw[z] at h0;unfold World.cell? at h0;simp only at h0;split at h0
 .rename_i vs T fr hb;simp only[gQ,Df,CO] at h0;refine⟨vs,T,fr,hb,(vs.toList.drop off).drop k,?_,hl⟩;have O: ∀i,i<k->vs[off+i]? =cs[i]? :=by
   intro i Z
   have:=hg i Z
   rw[z] at this;simp only[World.cell?,hb,gQ,Df,CO] at this;exact this
  apply RH;intro i;rw[XC,KS];rcases Gd i k with Z|Z
  .rw[Io (by omega)];exact O i Z
  .rw[Kc (by omega),XC,XC,KS];congr 1;show off+i=off+(k+(i - cs.length));omega
 .cases h0
def zI{t e:TypeId}{α:Type}{c:α->List D}{Q:α->Prop}{k:Nat}(ht:P.underlying t=some (.slice e))(hk:P.cellsOf e=k)(ai:0<k)(hb:1<=P.bytesOf e)(hc: ∀y,(c y).length=k)(h:F7 enc P W e c Q):
 F7 enc P W t (λl:List α=>[.sl false k (l.map c)]) (λl=> ∀y∈l,Q y):=by
 intro ay cs x hx hw;rcases DataW.trod_slice ht hx with ⟨rfl,rfl⟩|⟨a,len,cap,Z,ao,m,rfl,rfl,rfl,_,au,_,a0,ac,aa,_⟩
 .exact⟨[],⟨_,_,rfl,.inl ⟨.inl rfl,rfl⟩,rfl⟩,by simp⟩
 obtain⟨a8,aa⟩:=aa rfl;simp only[DataW.weights,ht,EZ,QM,AY,CF,GL] at hw;obtain⟨w1,w2,_⟩:=hw;have aj:len<=JT:=by
  have:=Zes (Z.length+ao.length) hb
  simp only[reachBytes,JT] at w1⊢;omega
 by_cases ag:cap=0
 .subst ag
  have:len=0:=by omega
  subst this;exact⟨[],⟨_,_,rfl,.inl ⟨.inr ⟨rfl,a,rfl⟩,rfl⟩,rfl⟩,by simp⟩
 have ad: ∀i,i<cap-> ∃cs,W.cells? 0 (a.add (i*k)) k=some cs:=by
  intro i hi;rw[hk] at ac aa;rcases Gd i len with h1|h1
  .have:=ac i h1
   rw[BA (by omega)] at this;cases hq:W.cells? 0 (a.add (i*k)) k with
   |none=>rw[hq] at this;cases this
   |some cs=>exact⟨cs,rfl⟩
  .have:=aa (i - len) (by omega)
   rw[show len+(i - len)=i by omega,BA (by omega)] at this;cases hq:W.cells? 0 (a.add (i*k)) k with
   |none=>rw[hq] at this;cases this
   |some cs=>exact⟨cs,rfl⟩
 obtain⟨az,ah⟩:=ad 0 (by omega);obtain⟨an,vs,T,fr,O,_⟩:=Qy9 ai ah;have am:a.spot=none:=by
  cases hs:a.spot with
  |none=>rfl
  |some s=>
   exfalso
   have:(a.add (0*k)).spot.isSome=true:=by
    unfold Addr.add
    split<;>simp_all
   rw[an] at this;cases this
 obtain⟨b,off,sp⟩:=a;simp only at am;subst am;have ab: ∀i,(⟨b,off,none⟩:Addr).add i=⟨b,off+i,none⟩:=λi=>O3 b off i
 rw[ab] at O;simp only at O;have av: ∀i,i<len-> ∃y:α,rdp (λb=>b<W.heap.size) (λb=>W.heap[b]?) (c y) ((vs.toList.drop off).drop (i*k))/\Q y:=by
  intro i hi;have h1:=ac i hi;rw[hk,BA (by omega)] at h1;cases hq:W.cells? 0 ((⟨b,off,none⟩:Addr).add (i*k)) k with
  |none=>rw[hq] at h1;cases h1
  |some ci=>
   rw[hq,Gw] at h1;obtain⟨_,ax,T',aq,hh,r,hr,_⟩:=Qy9 ai hq;rw[ab] at hh hr;simp only at hh hr;rw[O] at hh;obtain⟨rfl,rfl,rfl⟩:vs=ax/\T=T'/\fr=aq:=by
    have:=AJ hh
    simp only[Obj.cells.injEq] at this;exact this
   have aw:(Z[i].1.weights P e).all (· <=reachBytes)=true:=by
    rw[CR] at w2⊢;intro n hn;refine w2 n ?_
    have: ∀(l:List (DataW H)) (d:DataW H),d∈l-> ∀n∈d.weights P e,n∈DataW.weightsAll P e l:=by
     intro l;induction l with
     |nil=>intro d hd;cases hd
     |cons z r ih=>
      intro d hd n hn;simp only[DataW.weightsAll,B7];rcases Br.1 hd with rfl|hd
      .exact .inl hn
      .exact .inr (ih d hd n hn)
    exact this _ Z[i].1 (Bl.2 ⟨Z[i],RI _,rfl⟩) n hn
   obtain⟨y,g1,g2⟩:=h m ci Z[i] h1 aw;refine⟨y,?_,g2⟩;rw[Es,hr];exact Qzi _ _ _ g1
 obtain⟨l,hl,ak⟩:=pick (R:=λi y=>rdp (λb=>b<W.heap.size) (λb=>W.heap[b]?) (c y) ((vs.toList.drop off).drop (i*k))/\Q y) len av;have af:b<W.heap.size:=by
  rcases Gd b W.heap.size with h|h
  .exact h
  .rw[XB h] at O;cases O
 refine⟨l,⟨_,_,rfl,.inr ⟨b,off,cap,vs,T,fr,by rw[GL,hl],by simp,by rw[GL,hl];exact au,by rw[GL,hl];exact aj,af,O,Qz1 hc l _ (λi y hy=>(ak i y hy).1)⟩,rfl⟩,λy hy=> ?_⟩;obtain⟨i,hi⟩:=List.getElem?_of_mem hy;exact (ak i y hi).2
def jQ{t:TypeId}{α0:Type}{c0:α0->List D}{Q0:α0->Prop}{O:Field}(ht:P.underlying t=some (.struct #[O]))(o0:O.offset=0)(hn:P.cellsOf t=P.cellsOf O.type)(h0:F7 enc P W O.type c0 Q0):
 F7 enc P W t (λy:α0=>c0 (y)) (λy=>Q0 (y)):=by
 intro aa Q x h hw;obtain⟨xs,m,rfl,rfl,hl,Z,hf⟩:=DataW.trod_struct ht h;have hx: ∀i,i<1-> ∃z,xs[i]? =some z:=λi hi=>⟨_,BA (by rw[Z];exact hi)⟩
 simp only[DataW.weights,ht] at hw;obtain⟨z0,e0⟩:=hx 0 (by decide);obtain⟨y0,r0,q0⟩:=h0 m _ z0 ((hf 0 O rfl).trans e0) (CR.2 λk hk=>CR.1 hw k (DataW.weights_mem_each (j:=0) (t:=O.type) (d:=z0.1) rfl (by rw[D3,e0];rfl) k hk));rw[o0] at r0;refine⟨(y0),?_,q0⟩;simp only;have e:Q=(Q.drop (0)).take (P.cellsOf O.type):=by
  have ab:Q.length=P.cellsOf O.type:=hl.trans hn;rw[GJ,F9 (by omega)]
 rw[e];exact r0
def uC{t:TypeId}{α0:Type}{c0:α0->List D}{Q0:α0->Prop}{O:Field}{α1:Type}{c1:α1->List D}{Q1:α1->Prop}{Q:Field}(ht:P.underlying t=some (.struct #[O,Q]))(o0:O.offset=0)(o1:Q.offset=P.cellsOf O.type)(hn:P.cellsOf t=P.cellsOf O.type+P.cellsOf Q.type)(h0:F7 enc P W O.type c0 Q0)(h1:F7 enc P W Q.type c1 Q1):
 F7 enc P W t (λy:α0×α1=>c0 (y.1)++(c1 (y.2))) (λy=>Q0 (y.1)/\Q1 (y.2)):=by
 intro ab Z x h hw;obtain⟨xs,m,rfl,rfl,hl,aa,hf⟩:=DataW.trod_struct ht h;have hx: ∀i,i<2-> ∃z,xs[i]? =some z:=λi hi=>⟨_,BA (by rw[aa];exact hi)⟩
 simp only[DataW.weights,ht] at hw;obtain⟨z0,e0⟩:=hx 0 (by decide);obtain⟨y0,r0,q0⟩:=h0 m _ z0 ((hf 0 O rfl).trans e0) (CR.2 λk hk=>CR.1 hw k (DataW.weights_mem_each (j:=0) (t:=O.type) (d:=z0.1) rfl (by rw[D3,e0];rfl) k hk));rw[o0] at r0;obtain⟨z1,e1⟩:=hx 1 (by decide);obtain⟨y1,r1,q1⟩:=h1 m _ z1 ((hf 1 Q rfl).trans e1) (CR.2 λk hk=>CR.1 hw k (DataW.weights_mem_each (j:=1) (t:=Q.type) (d:=z1.1) rfl (by rw[D3,e1];rfl) k hk));rw[o1] at r1;refine⟨(y0,y1),?_,q0,q1⟩;simp only;have e:Z=(Z.drop (0)).take (P.cellsOf O.type)++((Z.drop (P.cellsOf O.type)).take (P.cellsOf Q.type)):=by
  have ac:Z.length=P.cellsOf O.type+P.cellsOf Q.type:=hl.trans hn;rw[GJ];rw[F9 (l:=Z.drop (P.cellsOf O.type)) (by rw[CI];omega)];rw[RG]
 rw[e];exact zC _ _ r0 (r1)
def jR{t:TypeId}{α0:Type}{c0:α0->List D}{Q0:α0->Prop}{O:Field}{α1:Type}{c1:α1->List D}{Q1:α1->Prop}{Q:Field}{α2:Type}{c2:α2->List D}{Q2:α2->Prop}{f2:Field}(ht:P.underlying t=some (.struct #[O,Q,f2]))(o0:O.offset=0)(o1:Q.offset=P.cellsOf O.type)(o2:f2.offset=P.cellsOf O.type+P.cellsOf Q.type)(hn:P.cellsOf t=P.cellsOf O.type+P.cellsOf Q.type+P.cellsOf f2.type)(h0:F7 enc P W O.type c0 Q0)(h1:F7 enc P W Q.type c1 Q1)(h2:F7 enc P W f2.type c2 Q2):
 F7 enc P W t (λy:α0×α1×α2=>c0 (y.1)++(c1 (y.2.1)++(c2 (y.2.2)))) (λy=>Q0 (y.1)/\Q1 (y.2.1)/\Q2 (y.2.2)):=by
 intro ab Z x h hw;obtain⟨xs,m,rfl,rfl,hl,aa,hf⟩:=DataW.trod_struct ht h;have hx: ∀i,i<3-> ∃z,xs[i]? =some z:=λi hi=>⟨_,BA (by rw[aa];exact hi)⟩
 simp only[DataW.weights,ht] at hw;obtain⟨z0,e0⟩:=hx 0 (by decide);obtain⟨y0,r0,q0⟩:=h0 m _ z0 ((hf 0 O rfl).trans e0) (CR.2 λk hk=>CR.1 hw k (DataW.weights_mem_each (j:=0) (t:=O.type) (d:=z0.1) rfl (by rw[D3,e0];rfl) k hk));rw[o0] at r0;obtain⟨z1,e1⟩:=hx 1 (by decide);obtain⟨y1,r1,q1⟩:=h1 m _ z1 ((hf 1 Q rfl).trans e1) (CR.2 λk hk=>CR.1 hw k (DataW.weights_mem_each (j:=1) (t:=Q.type) (d:=z1.1) rfl (by rw[D3,e1];rfl) k hk));rw[o1] at r1;obtain⟨z2,e2⟩:=hx 2 (by decide);obtain⟨y2,r2,q2⟩:=h2 m _ z2 ((hf 2 f2 rfl).trans e2) (CR.2 λk hk=>CR.1 hw k (DataW.weights_mem_each (j:=2) (t:=f2.type) (d:=z2.1) rfl (by rw[D3,e2];rfl) k hk));rw[o2] at r2;refine⟨(y0,y1,y2),?_,q0,q1,q2⟩;simp only;have e:Z=(Z.drop (0)).take (P.cellsOf O.type)++((Z.drop (P.cellsOf O.type)).take (P.cellsOf Q.type)++((Z.drop (P.cellsOf O.type+P.cellsOf Q.type)).take (P.cellsOf f2.type))):=by
  have ac:Z.length=P.cellsOf O.type+P.cellsOf Q.type+P.cellsOf f2.type:=hl.trans hn;rw[GJ];rw[F9 (l:=Z.drop (P.cellsOf O.type+P.cellsOf Q.type)) (by rw[CI];omega)];rw[show Z.drop (P.cellsOf O.type+P.cellsOf Q.type)=(Z.drop (P.cellsOf O.type)).drop (P.cellsOf Q.type) by rw[Es],RG];rw[RG]
 rw[e];exact zC _ _ r0 (zC _ _ r1 (r2))
end
section
variable {H:Type}{enc:TypeId×Value->H}{W:World}
def jO:F7 enc Tryz.prog W 132 AC.c (λ_=>True):=
 (uC Tryz.underlying132 rfl (by kernel_rfl) (by kernel_rfl) (fM Tryz.underlying2) (fM Tryz.underlying2)).to (λy=>(⟨y.1,y.2⟩:AC)) (λ_=>rfl) (λ_ _=>trivial)
def YR:F7 enc Tryz.prog W 134 Al.c (λ_=>True):=
 (uC Tryz.underlying134 rfl (by kernel_rfl) (by kernel_rfl) jO (fM Tryz.underlying2)).to (λy=>(⟨y.1,y.2⟩:Al)) (λ_=>rfl) (λ_ _=>trivial)
def xL:F7 enc Tryz.prog W 110 Ad.c (λg=>g.Name.size<=140737488355328):=
 (uC Tryz.underlying110 rfl (by kernel_rfl) (by kernel_rfl) (Nn Tryz.underlying9) (fM Tryz.underlying2)).to (λy=>(⟨y.1,y.2⟩:Ad)) (λ_=>rfl) (λ_ h=>h.1)
def xM:F7 enc Tryz.prog W 41 (λl:List Int=>[.sl false 1 (l.map Ak)]) (λl=> ∀y∈l,True):=
 zI (c:=Ak) Tryz.underlying41 (by kernel_rfl) (by decide) (by decide+kernel) (λ_=>rfl) (fM Tryz.underlying2)
def xN:F7 enc Tryz.prog W 113 Tile.c (λg=>g.Name.size<=140737488355328):=
 (uC Tryz.underlying113 rfl (by kernel_rfl) (by kernel_rfl) (Nn Tryz.underlying9) xM).to (λy=>(⟨y.1,y.2⟩:Tile)) (λ_=>rfl) (λ_ h=>h.1)
def jN:F7 enc Tryz.prog W 22 (λl:List Ad=>[.sl false 2 (l.map Ad.c)]) (λl=> ∀y∈l,y.Name.size<=140737488355328):=
 zI Tryz.underlying22 (by kernel_rfl) (by decide) (by decide+kernel) (λ_=>rfl) xL
def jP:F7 enc Tryz.prog W 23 (λl:List Tile=>[.sl false 2 (l.map Tile.c)]) (λl=> ∀y∈l,y.Name.size<=140737488355328):=
 zI Tryz.underlying23 (by kernel_rfl) (by decide) (by decide+kernel) (λ_=>rfl) xN
def Uy:F7 enc Tryz.prog W 26 (λl:List Al=>[.sl false 3 (l.map Al.c)]) (λl=> ∀y∈l,True):=
 zI Tryz.underlying26 (by kernel_rfl) (by decide) (by decide+kernel) (λ_=>rfl) YR
def rSet:F7 enc Tryz.prog W 25 Ap.c P0:=
 (uC Tryz.underlying25 rfl (by kernel_rfl) (by kernel_rfl) jN jP).to (λy=>(⟨y.1,y.2⟩:Ap)) (λ_=>rfl) (λ_ h=>h)
def rAsm:F7 enc Tryz.prog W 28 AB.c (λ_=>True):=
 (jQ Tryz.underlying28 rfl (by kernel_rfl) Uy).to (λy=>(⟨y⟩:AB)) (λ_=>rfl) (λ_ _=>trivial)
def rSys:F7 enc Tryz.prog W 30 A9.c (λs=>P0 s.Set):=
 (jR Tryz.underlying30 rfl (by kernel_rfl) (by kernel_rfl) (by kernel_rfl) rSet rAsm (fM Tryz.underlying2)).to (λy=>(⟨y.1,y.2.1,y.2.2⟩:A9)) (λ_=>rfl) (λ_ h=>h.1)
end
end Go.Ae
namespace Go.Ae
open Go Go.Proofs Go.RowKit
def wI(W:World):A7:=⟨λ_=>none,λb=>b<W.heap.size,λ_=>none,W⟩
def wH(W:World):Bb:=Bb.mk0 W (λ_=>False) (λb=>b<W.heap.size)
def wf0(W:World)(O:GP (λb=>b<W.heap.size) (λb=>W.heap[b]?)):Wf (wH W) (wI W):=
 ⟨rfl,rfl,rfl,AU _,AU _,λ_ _ _=>rfl,λ_ h=>h,λ_ h=> .inl h,λ_ h=>h,λo e h=>(by cases h),λo e l h=>(by cases h),λo o' e e' l l' h=>(by cases h),O.mono λ_ _ z Q=>⟨⟨z,λh=>h.elim⟩,Q⟩⟩
def Si{P:Program}{g:FuncId}{row:AF}(Z:HC P g row){W:World}(hg:GP (λb=>b<W.heap.size) (λb=>W.heap[b]?)){args:Array Value}{ds:List D}(Q:row (ds.map .im) (λ_=>none) 0 (λr _=>r= .im (.bool true)))
 (O:rdl (λb=>b<W.heap.size) (λb=>W.heap[b]?) ds args.toList):Calls P g args W λe W'=>e= .returned (.bool true)/\Below W.heap.size W W':=by
 obtain⟨_,r,E,hT,rfl⟩:=Z _ _ _ _ Q;refine hT (wH W) (wI W) args _ (wf0 W hg) (λ_ _=>rfl) (λ_ _=>rfl) (λn e h=>(by cases h)) ((IW _ _).2 O) ?_;intro v S' z _ _ hc;simp only[Aa,rd] at hc;subst hc;exact⟨rfl,z.os,z.tape,z.output,z.size,λk hk=>z.keep k hk (λh=>h)⟩
end Go.Ae
