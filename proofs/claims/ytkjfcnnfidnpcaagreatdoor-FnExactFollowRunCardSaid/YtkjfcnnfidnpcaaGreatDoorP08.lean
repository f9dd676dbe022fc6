/- Lemmas. Conditions: none. -/
import Derived.Test.YtkjfcnnfidnpcaaGreatDoorP07
import Derived.ProofKit
import Derived.SizedLaws
import Derived.OpenShut
import Derived.Test.YtkjfcnnfidnpcaaGreatDoorRows
import Derived.Carry
import Derived.WalkKit
set_option linter.all false
set_option maxHeartbeats 8000000
set_option maxRecDepth 100000
namespace Go.Ae
open Go Go.Proofs
section
variable {H:Type}{enc:TypeId×Value->H}{P:Program}{W:World}
def En{H:Type}(enc:TypeId×Value->H)(P:Program)(W:World)(t:TypeId){α:Type}(c:α->List D)(Q:α->Prop):Prop:=
 ∀(fuel:Nat) (cs:List Value) (x:DataW H×List MemPlace),DataW.trod enc P W 0 (λ_=>true) true fuel t cs=some x->(x.1.weights P t).all (· <=reachBytes)=true->
  ∃y:α,rdl (λb=>b<W.heap.size) (λb=>W.heap[b]?) (c y) cs/\Q y
def En.to{t:TypeId}{α β:Type}{c:α->List D}{Q:α->Prop}{c':β->List D}{Q':β->Prop}(h:En enc P W t c Q)(f:α->β)(hc: ∀y,c' (f y)=c y)(hQ: ∀y,Q y->Q' (f y)):En enc P W t c' Q':=by
 intro z cs x O Z;obtain⟨y,g1,g2⟩:=h z cs x O Z;exact⟨f y,by rw[hc];exact g1,hQ y g2⟩
def Zz{t:TypeId}(O:P.underlying t=some (.int .i64)):En enc P W t (λn:Int=>[.int .i64 n]) (λ_=>True):=by
 intro z cs x h _;obtain⟨n,rfl,_,_⟩:=DataW.trod_int O h;exact⟨n,⟨_,_,rfl,rfl,rfl⟩,trivial⟩
def MF{t:TypeId}(Q:P.underlying t=some .string):En enc P W t (λs:ByteArray=>[.str s]) (λs=>s.size<=140737488355328):=by
 intro z cs x h Z;obtain⟨s,rfl,rfl,_⟩:=DataW.trod_string Q h;refine⟨s,⟨_,_,rfl,rfl,rfl⟩,?_⟩;have O:=C6.1 Z s.data.toList.length (by simp[DataW.weights]);rw[B3,Dn] at O;have h2:s.data.size=s.size:=rfl;have h3:reachBytes<=140737488355328:=by decide
 omega
def eL{ok:Nat->Prop}{hp:Nat->Option Obj}: ∀(a:List D) (x:List Value) {b:List D} {y:List Value},rdl ok hp a x->rdl ok hp b y->rdl ok hp (a++b) (x++y)
 |[],x,b,y,z,O=>by
  simp only[rdl] at z;subst z;exact O
 |d::a,x,b,y,z,O=>by
  simp only[rdl] at z;obtain⟨v,r,rfl,Q,Z⟩:=z;exact⟨v,r++y,rfl,Q,eL a r Z O⟩
def Qzi{ok:Nat->Prop}{hp:Nat->Option Obj}: ∀(a:List D) (x:List Value) (y:List Value),rdl ok hp a x->rdp ok hp a (x++y)
 |[],x,y,z=>trivial
 |d::a,x,y,z=>by
  simp only[rdl] at z;obtain⟨v,r,rfl,O,Q⟩:=z;exact⟨v,r++y,rfl,O,Qzi a r y Q⟩
def pick{α:Type}{R:Nat->α->Prop}: ∀(n:Nat),(∀i,i<n-> ∃y,R i y)-> ∃l:List α,l.length=n/\ ∀i y,l[i]? =some y->R i y
 |0,_=>⟨[],rfl,λi y h=>by simp at h⟩
 |n+1,h=>by
  obtain⟨l,Z,h2⟩:=pick n (λi Q=>h i (by omega));obtain⟨y,hy⟩:=h n (by omega);refine⟨l++[y],by simp[Z],λi z O=> ?_⟩;rcases EI i n with Q|Q
  .rw[EA (by omega)] at O;exact h2 i z O
  .rw[FQ (by omega)] at O
   have:i - l.length=0:=by
    rcases mV (i - l.length) with h0|h0
    .exact h0
    .rw[Fm (by simp;omega)] at O;cases O
   rw[this] at O;obtain rfl:=A7 O
   have:i=n:=by omega
   rw[this];exact hy
def Qz1{ok:Nat->Prop}{hp:Nat->Option Obj}{α:Type}{c:α->List D}{k:Nat}(O: ∀y,(c y).length=k): ∀(l:List α) (L:List Value),(∀i y,l[i]? =some y->rdp ok hp (c y) (L.drop (i*k)))->rdr ok hp k (l.map c) L
 |[],L,_=>trivial
 |y::r,L,h=>by
  refine⟨O y,?_,Qz1 O r (L.drop k) (λi z Q=> ?_)⟩
  .have:=h 0 y rfl
   rwa [fY,Gd] at this
  .have:=h (i+1) z Q
   rwa [E5,show k+i*k=(i+1)*k by rw[F6,IJ,vU]]
def Qy9{a:Addr}{k:Nat}{cs:List Value}(hk:0<k)(h:W.cells? 0 a k=some cs):a.spot=none/\ ∃vs T Z,W.heap[a.block]? =some (.cells vs T Z)/\ ∃r,vs.toList.drop a.off=cs++r/\cs.length=k:=by
 unfold World.cells? at h;rw[Ak (CR _)] at h;have hl:=mapM_some_length h;rw[ZP] at hl;have hg: ∀i,i<k->W.cell? (a.add i)=cs[i]? :=λi Q=>mapM_some_get h i i (by rw[Ic Q])
 have h0:=hg 0 hk;rw[Bk (by omega)] at h0;have hsp:a.spot=none:=by
  cases hs:a.spot with
  |none=>rfl
  |some s=>
   exfalso
   have:(a.add 0).spot.isSome=true:=by
    unfold Addr.add
    split<;>simp_all
   unfold World.cell? at h0;split at h0
   .rw[Ak this] at h0;cases h0
   .cases h0
 refine⟨hsp,?_⟩;obtain⟨b,off,sp⟩:=a;simp only at hsp;subst hsp;have z: ∀i,(⟨b,off,none⟩:Addr).add i=⟨b,off+i,none⟩:=λi=>PQ b off i
 rw[z] at h0;unfold World.cell? at h0;simp only at h0;split at h0
 .rename_i vs T Z hb;simp only[Rm,CP,CB] at h0;refine⟨vs,T,Z,hb,(vs.toList.drop off).drop k,?_,hl⟩;have O: ∀i,i<k->vs[off+i]? =cs[i]? :=by
   intro i Q
   have:=hg i Q
   rw[z] at this;simp only[World.cell?,hb,Rm,CP,CB] at this;exact this
  apply Kt;intro i;rw[GW,Gc];rcases EI i k with Q|Q
  .rw[EA (by omega)];exact O i Q
  .rw[FQ (by omega),GW,GW,Gc];congr 1;show off+i=off+(k+(i - cs.length));omega
 .cases h0
def zG{t e:TypeId}{α:Type}{c:α->List D}{Q:α->Prop}{k:Nat}(ht:P.underlying t=some (.slice e))(hk:P.cellsOf e=k)(ai:0<k)(hb:1<=P.bytesOf e)(hc: ∀y,(c y).length=k)(h:En enc P W e c Q):
 En enc P W t (λl:List α=>[.sl false k (l.map c)]) (λl=> ∀y∈l,Q y):=by
 intro ax cs x hx hw;rcases DataW.trod_slice ht hx with ⟨rfl,rfl⟩|⟨a,len,cap,Z,an,m,rfl,rfl,rfl,_,aq,_,az,ac,aa,_⟩
 .exact⟨[],⟨_,_,rfl,.inl ⟨.inl rfl,rfl⟩,rfl⟩,by simp⟩
 obtain⟨a0,aa⟩:=aa rfl;simp only[DataW.weights,ht,J8,vM,AL,B3,F7] at hw;obtain⟨w1,w2,_⟩:=hw;have aj:len<=JL:=by
  have:=Nat.mul_le_mul_left (Z.length+an.length) hb
  simp only[reachBytes,JL] at w1⊢;omega
 by_cases ag:cap=0
 .subst ag
  have:len=0:=by omega
  subst this;exact⟨[],⟨_,_,rfl,.inl ⟨.inr ⟨rfl,a,rfl⟩,rfl⟩,rfl⟩,by simp⟩
 have ad: ∀i,i<cap-> ∃cs,W.cells? 0 (a.add (i*k)) k=some cs:=by
  intro i hi;rw[hk] at ac aa;rcases EI i len with h1|h1
  .have:=ac i h1
   rw[Bk (by omega)] at this;cases hq:W.cells? 0 (a.add (i*k)) k with
   |none=>rw[hq] at this;cases this
   |some cs=>exact⟨cs,rfl⟩
  .have:=aa (i - len) (by omega)
   rw[show len+(i - len)=i by omega,Bk (by omega)] at this;cases hq:W.cells? 0 (a.add (i*k)) k with
   |none=>rw[hq] at this;cases this
   |some cs=>exact⟨cs,rfl⟩
 obtain⟨ay,ah⟩:=ad 0 (by omega);obtain⟨am,vs,T,fr,O,_⟩:=Qy9 ai ah;have hsp:a.spot=none:=by
  cases hs:a.spot with
  |none=>rfl
  |some s=>
   exfalso
   have:(a.add (0*k)).spot.isSome=true:=by
    unfold Addr.add
    split<;>simp_all
   rw[am] at this;cases this
 obtain⟨b,off,sp⟩:=a;simp only at hsp;subst hsp;have ab: ∀i,(⟨b,off,none⟩:Addr).add i=⟨b,off+i,none⟩:=λi=>PQ b off i
 rw[ab] at O;simp only at O;have au: ∀i,i<len-> ∃y:α,rdp (λb=>b<W.heap.size) (λb=>W.heap[b]?) (c y) ((vs.toList.drop off).drop (i*k))/\Q y:=by
  intro i hi;have h1:=ac i hi;rw[hk,Bk (by omega)] at h1;cases hq:W.cells? 0 ((⟨b,off,none⟩:Addr).add (i*k)) k with
  |none=>rw[hq] at h1;cases h1
  |some ci=>
   rw[hq,FR] at h1;obtain⟨_,aw,T',ao,hh,r,hr,_⟩:=Qy9 ai hq;rw[ab] at hh hr;simp only at hh hr;rw[O] at hh;obtain⟨rfl,rfl,rfl⟩:vs=aw/\T=T'/\fr=ao:=by
    have:=A7 hh
    simp only[Obj.cells.injEq] at this;exact this
   have av:(Z[i].1.weights P e).all (· <=reachBytes)=true:=by
    rw[C6] at w2⊢;intro n hn;refine w2 n ?_
    have: ∀(l:List (DataW H)) (d:DataW H),d∈l-> ∀n∈d.weights P e,n∈DataW.weightsAll P e l:=by
     intro l;induction l with
     |nil=>intro d hd;cases hd
     |cons z r ih=>
      intro d hd n hn;simp only[DataW.weightsAll,Bs];rcases Be.1 hd with rfl|hd
      .exact .inl hn
      .exact .inr (ih d hd n hn)
    exact this _ Z[i].1 (Bh.2 ⟨Z[i],Rn _,rfl⟩) n hn
   obtain⟨y,g1,g2⟩:=h m ci Z[i] h1 av;refine⟨y,?_,g2⟩;rw[E5,hr];exact Qzi _ _ _ g1
 obtain⟨l,hl,ak⟩:=pick (R:=λi y=>rdp (λb=>b<W.heap.size) (λb=>W.heap[b]?) (c y) ((vs.toList.drop off).drop (i*k))/\Q y) len au;have af:b<W.heap.size:=by
  rcases EI b W.heap.size with h|h
  .exact h
  .rw[WY h] at O;cases O
 refine⟨l,⟨_,_,rfl,.inr ⟨b,off,cap,vs,T,fr,by rw[F7,hl],by simp,by rw[F7,hl];exact aq,by rw[F7,hl];exact aj,af,O,Qz1 hc l _ (λi y hy=>(ak i y hy).1)⟩,rfl⟩,λy hy=> ?_⟩;obtain⟨i,hi⟩:=List.getElem?_of_mem hy;exact (ak i y hi).2
def jI{t:TypeId}{α0:Type}{c0:α0->List D}{Z:α0->Prop}{O:Field}(ht:P.underlying t=some (.struct #[O]))(o0:O.offset=0)(hn:P.cellsOf t=P.cellsOf O.type)(h0:En enc P W O.type c0 Z):
 En enc P W t (λy:α0=>c0 (y)) (λy=>Z (y)):=by
 intro aa cs x h hw;obtain⟨xs,m,rfl,rfl,hl,Q,hf⟩:=DataW.trod_struct ht h;have hx: ∀i,i<1-> ∃z,xs[i]? =some z:=λi hi=>⟨_,Bk (by rw[Q];exact hi)⟩
 simp only[DataW.weights,ht] at hw;obtain⟨z0,e0⟩:=hx 0 (by decide);obtain⟨y0,r0,q0⟩:=h0 m _ z0 ((hf 0 O rfl).trans e0) (C6.2 λk hk=>C6.1 hw k (DataW.weights_mem_each (j:=0) (t:=O.type) (d:=z0.1) rfl (by rw[Du,e0];rfl) k hk));rw[o0] at r0;refine⟨(y0),?_,q0⟩;simp only;have e:cs=(cs.drop (0)).take (P.cellsOf O.type):=by
  have ab:cs.length=P.cellsOf O.type:=hl.trans hn;rw[Gd,D8 (by omega)]
 rw[e];exact r0
def uF{t:TypeId}{α0:Type}{c0:α0->List D}{Q0:α0->Prop}{O:Field}{α1:Type}{c1:α1->List D}{Q1:α1->Prop}{Q:Field}(ht:P.underlying t=some (.struct #[O,Q]))(o0:O.offset=0)(o1:Q.offset=P.cellsOf O.type)(hn:P.cellsOf t=P.cellsOf O.type+P.cellsOf Q.type)(h0:En enc P W O.type c0 Q0)(h1:En enc P W Q.type c1 Q1):
 En enc P W t (λy:α0×α1=>c0 (y.1)++(c1 (y.2))) (λy=>Q0 (y.1)/\Q1 (y.2)):=by
 intro ab cs x h hw;obtain⟨xs,m,rfl,rfl,hl,aa,hf⟩:=DataW.trod_struct ht h;have hx: ∀i,i<2-> ∃z,xs[i]? =some z:=λi hi=>⟨_,Bk (by rw[aa];exact hi)⟩
 simp only[DataW.weights,ht] at hw;obtain⟨z0,e0⟩:=hx 0 (by decide);obtain⟨y0,r0,q0⟩:=h0 m _ z0 ((hf 0 O rfl).trans e0) (C6.2 λk Z=>C6.1 hw k (DataW.weights_mem_each (j:=0) (t:=O.type) (d:=z0.1) rfl (by rw[Du,e0];rfl) k Z));rw[o0] at r0;obtain⟨z1,e1⟩:=hx 1 (by decide);obtain⟨y1,r1,q1⟩:=h1 m _ z1 ((hf 1 Q rfl).trans e1) (C6.2 λk Z=>C6.1 hw k (DataW.weights_mem_each (j:=1) (t:=Q.type) (d:=z1.1) rfl (by rw[Du,e1];rfl) k Z));rw[o1] at r1;refine⟨(y0,y1),?_,q0,q1⟩;simp only;have e:cs=(cs.drop (0)).take (P.cellsOf O.type)++((cs.drop (P.cellsOf O.type)).take (P.cellsOf Q.type)):=by
  have ac:cs.length=P.cellsOf O.type+P.cellsOf Q.type:=hl.trans hn;rw[Gd];rw[D8 (l:=cs.drop (P.cellsOf O.type)) (by rw[Cj];omega)];rw[Kv]
 rw[e];exact eL _ _ r0 (r1)
def jJ{t:TypeId}{α0:Type}{c0:α0->List D}{Q0:α0->Prop}{O:Field}{α1:Type}{c1:α1->List D}{Q1:α1->Prop}{Q:Field}{α2:Type}{c2:α2->List D}{Q2:α2->Prop}{Z:Field}(ht:P.underlying t=some (.struct #[O,Q,Z]))(o0:O.offset=0)(o1:Q.offset=P.cellsOf O.type)(o2:Z.offset=P.cellsOf O.type+P.cellsOf Q.type)(hn:P.cellsOf t=P.cellsOf O.type+P.cellsOf Q.type+P.cellsOf Z.type)(h0:En enc P W O.type c0 Q0)(h1:En enc P W Q.type c1 Q1)(h2:En enc P W Z.type c2 Q2):
 En enc P W t (λy:α0×α1×α2=>c0 (y.1)++(c1 (y.2.1)++(c2 (y.2.2)))) (λy=>Q0 (y.1)/\Q1 (y.2.1)/\Q2 (y.2.2)):=by
 intro ab cs x h hw;obtain⟨xs,m,rfl,rfl,hl,aa,hf⟩:=DataW.trod_struct ht h;have hx: ∀i,i<3-> ∃z,xs[i]? =some z:=λi hi=>⟨_,Bk (by rw[aa];exact hi)⟩
 simp only[DataW.weights,ht] at hw;obtain⟨z0,e0⟩:=hx 0 (by decide);obtain⟨y0,r0,q0⟩:=h0 m _ z0 ((hf 0 O rfl).trans e0) (C6.2 λk hk=>C6.1 hw k (DataW.weights_mem_each (j:=0) (t:=O.type) (d:=z0.1) rfl (by rw[Du,e0];rfl) k hk));rw[o0] at r0;obtain⟨z1,e1⟩:=hx 1 (by decide);obtain⟨y1,r1,q1⟩:=h1 m _ z1 ((hf 1 Q rfl).trans e1) (C6.2 λk hk=>C6.1 hw k (DataW.weights_mem_each (j:=1) (t:=Q.type) (d:=z1.1) rfl (by rw[Du,e1];rfl) k hk));rw[o1] at r1;obtain⟨z2,e2⟩:=hx 2 (by decide);obtain⟨y2,r2,q2⟩:=h2 m _ z2 ((hf 2 Z rfl).trans e2) (C6.2 λk hk=>C6.1 hw k (DataW.weights_mem_each (j:=2) (t:=Z.type) (d:=z2.1) rfl (by rw[Du,e2];rfl) k hk));rw[o2] at r2;refine⟨(y0,y1,y2),?_,q0,q1,q2⟩;simp only;have e:cs=(cs.drop (0)).take (P.cellsOf O.type)++((cs.drop (P.cellsOf O.type)).take (P.cellsOf Q.type)++((cs.drop (P.cellsOf O.type+P.cellsOf Q.type)).take (P.cellsOf Z.type))):=by
  have ac:cs.length=P.cellsOf O.type+P.cellsOf Q.type+P.cellsOf Z.type:=hl.trans hn;rw[Gd];rw[D8 (l:=cs.drop (P.cellsOf O.type+P.cellsOf Q.type)) (by rw[Cj];omega)];rw[show cs.drop (P.cellsOf O.type+P.cellsOf Q.type)=(cs.drop (P.cellsOf O.type)).drop (P.cellsOf Q.type) by rw[E5],Kv];rw[Kv]
 rw[e];exact eL _ _ r0 (eL _ _ r1 (r2))
def jK{t:TypeId}{α0:Type}{c0:α0->List D}{Q0:α0->Prop}{O:Field}{α1:Type}{c1:α1->List D}{Q1:α1->Prop}{Q:Field}{α2:Type}{c2:α2->List D}{Q2:α2->Prop}{Z:Field}{α3:Type}{c3:α3->List D}{Q3:α3->Prop}{f3:Field}(ht:P.underlying t=some (.struct #[O,Q,Z,f3]))(o0:O.offset=0)(o1:Q.offset=P.cellsOf O.type)(o2:Z.offset=P.cellsOf O.type+P.cellsOf Q.type)(o3:f3.offset=P.cellsOf O.type+P.cellsOf Q.type+P.cellsOf Z.type)(hn:P.cellsOf t=P.cellsOf O.type+P.cellsOf Q.type+P.cellsOf Z.type+P.cellsOf f3.type)(h0:En enc P W O.type c0 Q0)(h1:En enc P W Q.type c1 Q1)(h2:En enc P W Z.type c2 Q2)(h3:En enc P W f3.type c3 Q3):
 En enc P W t (λy:α0×α1×α2×α3=>c0 (y.1)++(c1 (y.2.1)++(c2 (y.2.2.1)++(c3 (y.2.2.2))))) (λy=>Q0 (y.1)/\Q1 (y.2.1)/\Q2 (y.2.2.1)/\Q3 (y.2.2.2)):=by
 intro ab cs x h hw;obtain⟨xs,m,rfl,rfl,hl,aa,hf⟩:=DataW.trod_struct ht h;have hx: ∀i,i<4-> ∃z,xs[i]? =some z:=λi hi=>⟨_,Bk (by rw[aa];exact hi)⟩
 simp only[DataW.weights,ht] at hw;obtain⟨z0,e0⟩:=hx 0 (by decide);obtain⟨y0,r0,q0⟩:=h0 m _ z0 ((hf 0 O rfl).trans e0) (C6.2 λk hk=>C6.1 hw k (DataW.weights_mem_each (j:=0) (t:=O.type) (d:=z0.1) rfl (by rw[Du,e0];rfl) k hk));rw[o0] at r0;obtain⟨z1,e1⟩:=hx 1 (by decide);obtain⟨y1,r1,q1⟩:=h1 m _ z1 ((hf 1 Q rfl).trans e1) (C6.2 λk hk=>C6.1 hw k (DataW.weights_mem_each (j:=1) (t:=Q.type) (d:=z1.1) rfl (by rw[Du,e1];rfl) k hk));rw[o1] at r1;obtain⟨z2,e2⟩:=hx 2 (by decide);obtain⟨y2,r2,q2⟩:=h2 m _ z2 ((hf 2 Z rfl).trans e2) (C6.2 λk hk=>C6.1 hw k (DataW.weights_mem_each (j:=2) (t:=Z.type) (d:=z2.1) rfl (by rw[Du,e2];rfl) k hk));rw[o2] at r2;obtain⟨z3,e3⟩:=hx 3 (by decide);obtain⟨y3,r3,q3⟩:=h3 m _ z3 ((hf 3 f3 rfl).trans e3) (C6.2 λk hk=>C6.1 hw k (DataW.weights_mem_each (j:=3) (t:=f3.type) (d:=z3.1) rfl (by rw[Du,e3];rfl) k hk));rw[o3] at r3;refine⟨(y0,y1,y2,y3),?_,q0,q1,q2,q3⟩;simp only;have e:cs=(cs.drop (0)).take (P.cellsOf O.type)++((cs.drop (P.cellsOf O.type)).take (P.cellsOf Q.type)++((cs.drop (P.cellsOf O.type+P.cellsOf Q.type)).take (P.cellsOf Z.type)++((cs.drop (P.cellsOf O.type+P.cellsOf Q.type+P.cellsOf Z.type)).take (P.cellsOf f3.type)))):=by
  have ac:cs.length=P.cellsOf O.type+P.cellsOf Q.type+P.cellsOf Z.type+P.cellsOf f3.type:=hl.trans hn;rw[Gd];rw[D8 (l:=cs.drop (P.cellsOf O.type+P.cellsOf Q.type+P.cellsOf Z.type)) (by rw[Cj];omega)];rw[show cs.drop (P.cellsOf O.type+P.cellsOf Q.type+P.cellsOf Z.type)=(cs.drop (P.cellsOf O.type+P.cellsOf Q.type)).drop (P.cellsOf Z.type) by rw[E5],Kv];rw[show cs.drop (P.cellsOf O.type+P.cellsOf Q.type)=(cs.drop (P.cellsOf O.type)).drop (P.cellsOf Q.type) by rw[E5],Kv];rw[Kv]
 rw[e];exact eL _ _ r0 (eL _ _ r1 (eL _ _ r2 (r3)))
end
section
variable {H:Type}{enc:TypeId×Value->H}{W:World}
def jG:En enc Tryz.prog W 188 Ab.c (λ_=>True):=
 (uF Tryz.underlying188 rfl (by kernel_rfl) (by kernel_rfl) (Zz Tryz.underlying2) (Zz Tryz.underlying2)).to (λy=>(⟨y.1,y.2⟩:Ab)) (λ_=>rfl) (λ_ _=>trivial)
def Yr:En enc Tryz.prog W 190 Ah.c (λ_=>True):=
 (uF Tryz.underlying190 rfl (by kernel_rfl) (by kernel_rfl) jG (Zz Tryz.underlying2)).to (λy=>(⟨y.1,y.2⟩:Ah)) (λ_=>rfl) (λ_ _=>trivial)
def xM:En enc Tryz.prog W 163 Am.c (λg=>g.Name.size<=140737488355328):=
 (uF Tryz.underlying163 rfl (by kernel_rfl) (by kernel_rfl) (MF Tryz.underlying9) (Zz Tryz.underlying2)).to (λy=>(⟨y.1,y.2⟩:Am)) (λ_=>rfl) (λ_ h=>h.1)
def TR:En enc Tryz.prog W 31 (λl:List Int=>[.sl false 1 (l.map Aj)]) (λl=> ∀y∈l,True):=
 zG (c:=Aj) Tryz.underlying31 (by kernel_rfl) (by decide) (by decide+kernel) (λ_=>rfl) (Zz Tryz.underlying2)
def xO:En enc Tryz.prog W 166 Tile.c (λg=>g.Name.size<=140737488355328):=
 (uF Tryz.underlying166 rfl (by kernel_rfl) (by kernel_rfl) (MF Tryz.underlying9) TR).to (λy=>(⟨y.1,y.2⟩:Tile)) (λ_=>rfl) (λ_ h=>h.1)
def jF:En enc Tryz.prog W 22 (λl:List Am=>[.sl false 2 (l.map Am.c)]) (λl=> ∀y∈l,y.Name.size<=140737488355328):=
 zG Tryz.underlying22 (by kernel_rfl) (by decide) (by decide+kernel) (λ_=>rfl) xM
def jH:En enc Tryz.prog W 23 (λl:List Tile=>[.sl false 2 (l.map Tile.c)]) (λl=> ∀y∈l,y.Name.size<=140737488355328):=
 zG Tryz.underlying23 (by kernel_rfl) (by decide) (by decide+kernel) (λ_=>rfl) xO
def TS:En enc Tryz.prog W 26 (λl:List Ah=>[.sl false 3 (l.map Ah.c)]) (λl=> ∀y∈l,True):=
 zG Tryz.underlying26 (by kernel_rfl) (by decide) (by decide+kernel) (λ_=>rfl) Yr
def rSet:En enc Tryz.prog W 25 Az.c FH:=
 (uF Tryz.underlying25 rfl (by kernel_rfl) (by kernel_rfl) jF jH).to (λy=>(⟨y.1,y.2⟩:Az)) (λ_=>rfl) (λ_ h=>h)
def rAsm:En enc Tryz.prog W 28 Af.c (λ_=>True):=
 (jI Tryz.underlying28 rfl (by kernel_rfl) TS).to (λy=>(⟨y⟩:Af)) (λ_=>rfl) (λ_ _=>trivial)
def xN:En enc Tryz.prog W 30 AG.c (λs=>FH s.Set):=
 (jJ Tryz.underlying30 rfl (by kernel_rfl) (by kernel_rfl) (by kernel_rfl) rSet rAsm (Zz Tryz.underlying2)).to (λy=>(⟨y.1,y.2.1,y.2.2⟩:AG)) (λ_=>rfl) (λ_ h=>h.1)
def rSim:En enc Tryz.prog W 33 AF.c (λs=>FH s.Big.Set/\FH s.Small.Set):=
 (jK Tryz.underlying33 rfl (by kernel_rfl) (by kernel_rfl) (by kernel_rfl) (by kernel_rfl) xN xN (Zz Tryz.underlying2) TR).to (λy=>(⟨y.1,y.2.1,y.2.2.1,y.2.2.2⟩:AF)) (λ_=>rfl) (λ_ h=>⟨h.1,h.2.1⟩)
end
end Go.Ae
namespace Go.Ae
open Go Go.Proofs Go.RowKit
def wF(W:World):Ax:=⟨λ_=>none,λb=>b<W.heap.size,λ_=>none,W⟩
def wE(W:World):AY:=AY.mk0 W (λ_=>False) (λb=>b<W.heap.size)
def wf0(W:World)(O:GP (λb=>b<W.heap.size) (λb=>W.heap[b]?)):Wf (wE W) (wF W):=
 ⟨rfl,rfl,rfl,AN _,λ_ _ _=>rfl,λ_ h=>h,λ_ h=> .inl h,λ_ h=>h,λo e h=>(by cases h),λo e l h=>(by cases h),λo o' e e' l l' h=>(by cases h),O.mono λ_ _ z Q=>⟨⟨z,λh=>h.elim⟩,Q⟩⟩
def R6{P:Program}{g:FuncId}{row:Ay}(Z:Jw P g row){W:World}(hg:GP (λb=>b<W.heap.size) (λb=>W.heap[b]?)){args:Array Value}{ds:List D}(Q:row (ds.map .im) (λ_=>none) 0 (λr _=>r= .im (.bool true)))
 (O:rdl (λb=>b<W.heap.size) (λb=>W.heap[b]?) ds args.toList):Calls P g args W λe W'=>e= .returned (.bool true)/\Below W.heap.size W W':=by
 obtain⟨_,r,E,hT,rfl⟩:=Z _ _ _ _ Q;refine hT (wE W) (wF W) args _ (wf0 W hg) (λ_ _=>rfl) (λ_ _=>rfl) (λn e h=>(by cases h)) ((Ip _ _).2 O) ?_;intro v S' z _ _ hc;simp only[Aa,rd] at hc;subst hc;exact⟨rfl,z.os,z.tape,z.output,z.size,λk hk=>z.keep k hk (λh=>h)⟩
end Go.Ae
namespace Go.Ae
mutual
def Il:AV->Bool
 | .im d=>d.sc
 | .own _=>true
 | .agg cs=>Ez cs
 | .tup cs=>Ez cs
 | .any| .ptr _ _| .eptr _ _ _| .mp _| .ch _| .it _| .osl _ _ _| .clo _ _ _=>false
def Ez:List AV->Bool
 |[]=>true
 |x::r=>Il x && Ez r
end
def JF:Ac->Bool
 | .arr _ _ rows=>rows.all λr=>r.all D.sc
 | .arrA _ _ rows=>rows.all Ez
 | .cells _ cs=>Ez cs
 | .map _ _| .chan _ _| .iter _ _| .view _=>false
def Ff{m:Nat}: ∀{rows:List (List AV)},m∈B9 rows↔ ∃r∈rows,m∈AB r
 |[]=>by simp[B9]
 |r::z=>by simp[B9,Ff (rows:=z)]
section
variable {S1 S':Ax}{F:Nat->Prop}
mutual
def cC(Z: ∀n,F n->S'.h n=S1.h n)(hr: ∀n,F n->S'.ρ n=S1.ρ n): ∀(x:AV) (v:Value),Il x=true->(∀m∈x.nms,F m)->Aa S1 x v->Aa S' x v
 | .im d,v,z,_,O=>by
   simp only[Aa] at O⊢;exact M9 (by simpa[Il] using z) O
 | .own o,v,_,Q,O=>by
   simp only[Aa] at O⊢;have h0:F o:=Q o (by simp[AV.nms]);rw[Z o h0,hr o h0];exact O
 | .agg cs,v,z,Q,O=>by
   simp only[Aa] at O⊢;obtain⟨vs,rfl,h⟩:=O;exact⟨vs,rfl,VQ Z hr cs _ (by simpa[Il] using z) (by simpa[AV.nms] using Q) h⟩
 | .tup cs,v,z,Q,O=>by
   simp only[Aa] at O⊢;obtain⟨vs,rfl,h⟩:=O;exact⟨vs,rfl,VQ Z hr cs _ (by simpa[Il] using z) (by simpa[AV.nms] using Q) h⟩
 | .any,_,z,_,_| .ptr _ _,_,z,_,_| .eptr _ _ _,_,z,_,_| .mp _,_,z,_,_| .ch _,_,z,_,_| .it _,_,z,_,_| .osl _ _ _,_,z,_,_| .clo _ _ _,_,z,_,_=>by simp[Il] at z
def VQ(Q: ∀n,F n->S'.h n=S1.h n)(hr: ∀n,F n->S'.ρ n=S1.ρ n): ∀(xs:List AV) (vs:List Value),Ez xs=true->(∀m∈AB xs,F m)->AM S1 xs vs->AM S' xs vs
 |[],vs,_,_,z=>by simpa only[AM] using z
 |x::r,vs,O,Z,z=>by
  simp only[AM] at z⊢;obtain⟨v,q,rfl,h1,h2⟩:=z;simp only[Ez,AL] at O;exact⟨v,q,rfl,cC Q hr x v O.1 (λm h=>Z m (by simp[AB,h])) h1,VQ Q hr r q O.2 (λm h=>Z m (by simp[AB,h])) h2⟩
end
def pB(Q: ∀n,F n->S'.h n=S1.h n)(hr: ∀n,F n->S'.ρ n=S1.ρ n): ∀(xs:List AV) (vs:List Value),Ez xs=true->(∀m∈AB xs,F m)->Cv S1 xs vs->Cv S' xs vs
 |[],vs,_,_,_=>trivial
 |x::r,vs,z,Z,O=>by
  simp only[Cv] at O⊢;obtain⟨v,q,rfl,h1,h2⟩:=O;simp only[Ez,AL] at z;exact⟨v,q,rfl,cC Q hr x v z.1 (λm h=>Z m (by simp[AB,h])) h1,pB Q hr r q z.2 (λm h=>Z m (by simp[AB,h])) h2⟩
def pA{k:Nat}(Z: ∀n,F n->S'.h n=S1.h n)(hr: ∀n,F n->S'.ρ n=S1.ρ n): ∀(z:List (List AV)) (vs:List Value),z.all Ez=true->(∀r∈z,∀m∈AB r,F m)->BG S1 k z vs->BG S' k z vs
 |[],vs,_,_,_=>trivial
 |r::z,vs,Q,hm,O=>by
  simp only[BG] at O⊢;simp only[J8,AL] at Q;exact⟨O.1,pB Z hr r _ Q.1 (hm r (BR ..)) O.2.1,pA Z hr z _ Q.2 (λq hq=>hm q (BQ _ hq)) O.2.2⟩
def MD{ok ok':Nat->Prop}{hp hp':Nat->Option Obj}{k:Nat}: ∀(z:List (List D)) (vs:List Value),(z.all λr=>r.all D.sc)=true->rdr ok hp k z vs->rdr ok' hp' k z vs
 |[],_,_,_=>trivial
 |r::z,vs,Q,O=>by
  simp only[rdr] at O⊢;simp only[J8,AL] at Q;exact⟨O.1,KS r _ Q.1 O.2.1,MD z _ Q.2 O.2.2⟩
def T6(hh: ∀n,F n->S'.h n=S1.h n)(hr: ∀n,F n->S'.ρ n=S1.ρ n)(hp:S'.hp=S1.hp)(l:Option F1): ∀(e:Ac),JF e=true->(∀m∈e.nms,F m)->Ap S1 l e->Ap S' l e
 | .arr T k rows,O,_,z=>by
   cases l with
   |none=>simpa only[Ap] using z
   |some lc=>
    simp only[Ap] at z⊢;obtain⟨Q,Z,vs,h3,h4,h5⟩:=z;exact⟨Q,Z,vs,by rw[hp];exact h3,h4,MD _ _ O h5⟩
 | .arrA T k rows,O,hm,z=>by
   cases l with
   |none=>simpa only[Ap] using z
   |some lc=>
    simp only[Ap] at z⊢;obtain⟨Q,Z,vs,h3,h4,h5⟩:=z;refine⟨Q,Z,vs,by rw[hp];exact h3,h4,pA hh hr _ _ O (λr ab m aa=>hm m ?_) h5⟩;simp only[Ac.nms];exact Ff.2 ⟨r,ab,aa⟩
 | .cells T cs,O,hm,z=>by
   simp only[Ap] at z⊢;obtain⟨lc,vs,Q,Z,h3,h4⟩:=z;exact⟨lc,vs,Q,Z,by rw[hp];exact h3,VQ hh hr _ _ O (λm h=>hm m (by simpa[Ac.nms] using h)) h4⟩
 | .map _ _,O,_,_| .chan _ _,O,_,_| .iter _ _,O,_,_| .view _,O,_,_=>by simp[JF] at O
end
def Wh{A:Type}(ar:List PK->Option A)(pre:A->Prop)(r0:A->AV)(H1:A->Ao)(cnt nx:Nat)(u:List Nat)(K:Ai):Option (List PK)->Prop
 |some z=>EB (λa=>pre a/\K ((r0 a).ren (BW (λj=>j) 0 nx)) {use:=u,new:=AZ (BW (λj=>j) 0 nx) (H1 a),cnt:=cnt}) (ar z)
 |none=>False
def Fg{A:Type}(ar:List PK->Option A)(pre:A->Prop)(r0:A->AV)(H1:A->Ao)(cnt:Nat):Ay:=λargs h nx K=>Wh ar pre r0 H1 cnt nx (Fx h args) K (Ct h args)
def Yo(ds:List D):List PK:=ds.map PK.val
def pG{S:Ax}: ∀(ds:List D) (vs:List Value),EH S (Yo ds) vs->AM S (ds.map .im) vs
 |[],vs,h=>by simpa only[Yo,GX,EH,AM] using h
 |d::r,vs,h=>by
  simp only[Yo,Bg,EH,AM] at h⊢;obtain⟨v,q,rfl,z,O⟩:=h;exact⟨v,q,rfl,by simpa only[Aa,JO] using z,pG r q O⟩
def MG(σ:Nat->Nat): ∀(ds:List D),AJ σ (ds.map AV.im)=ds.map AV.im
 |[]=>rfl
 |d::r=>by simp only[Bg,AJ,AV.ren,MG σ r]
mutual
def Ua(σ:Nat->Nat): ∀x:AV,Il x=true->Il (x.ren σ)=true/\ ∀m∈(x.ren σ).nms,∃j∈x.nms,m=σ j
 | .im d,h=>⟨by simpa only[AV.ren] using h,by simp[AV.ren,AV.nms]⟩
 | .own o,_=>⟨by simp[AV.ren,Il],by simp[AV.ren,AV.nms]⟩
 | .agg cs,h=>by
   obtain⟨z,O⟩:=NF σ cs (by simpa[Il] using h);exact⟨by simpa[AV.ren,Il] using z,by simpa[AV.ren,AV.nms] using O⟩
 | .tup cs,h=>by
   obtain⟨z,O⟩:=NF σ cs (by simpa[Il] using h);exact⟨by simpa[AV.ren,Il] using z,by simpa[AV.ren,AV.nms] using O⟩
 | .any,h| .ptr _ _,h| .eptr _ _ _,h| .mp _,h| .ch _,h| .it _,h| .osl _ _ _,h| .clo _ _ _,h=>by simp[Il] at h
def NF(σ:Nat->Nat): ∀xs:List AV,Ez xs=true->Ez (AJ σ xs)=true/\ ∀m∈AB (AJ σ xs),∃j∈AB xs,m=σ j
 |[],_=>⟨rfl,by simp[AJ,AB]⟩
 |x::r,h=>by
  simp only[Ez,AL] at h;obtain⟨Q,Z⟩:=Ua σ x h.1;obtain⟨h3,h4⟩:=NF σ r h.2;refine⟨by simp only[AJ,Ez,Q,h3,fW],λm z=> ?_⟩;simp only[AJ,AB,Bs] at z⊢;rcases z with z|z
  .obtain⟨j,O,e⟩:=Z m z;exact⟨j,.inl O,e⟩
  .obtain⟨j,O,e⟩:=h4 m z;exact⟨j,.inr O,e⟩
end
def Yu(σ:Nat->Nat): ∀e:Ac,JF e=true->JF (e.ren σ)=true/\ ∀m∈(e.ren σ).nms,∃j∈e.nms,m=σ j
 | .arr T k rows,h=>⟨by simpa only[Ac.ren] using h,by simp[Ac.ren,Ac.nms]⟩
 | .arrA T k rows,h=>by
   simp only[JF,C6] at h;refine⟨?_,?_⟩
   .simp only[Ac.ren,JF,List.all_map,C6];exact λr O=>(NF σ r (h r O)).1
   .intro m z;simp only[Ac.ren,Ac.nms] at z⊢;obtain⟨q,hq,z⟩:=Ff.1 z;obtain⟨r,O,rfl⟩:=Bh.1 hq;obtain⟨j,hj,e⟩:=(NF σ r (h r O)).2 m z;exact⟨j,Ff.2 ⟨r,O,hj⟩,e⟩
 | .cells T cs,h=>by
   obtain⟨Q,Z⟩:=NF σ cs (by simpa[JF] using h);exact⟨by simpa[Ac.ren,JF] using Q,by simpa[Ac.ren,Ac.nms] using Z⟩
 | .map _ _,h| .chan _ _,h| .iter _ _,h| .view _,h=>by simp[JF] at h
def pO{P:Program}{g:FuncId}{A:Type}{ah:A->List AV}{ca:A->List D}{pre:A->Prop}{klB:Nat->Bool}{r0:A->AV}{H1:A->Ao}{cnt:Nat}
 (aw:GZ P g=true)(be:Jw P g (AA ah (λ_=>[]) 0 pre klB r0 H1 cnt))(av: ∀a,ah a=(ca a).map AV.im)
 {ar:List PK->Option A}(bd: ∀ps a,ar ps=some a->BE ps (Yo (ca a)))
 (az: ∀a,Il (r0 a)=true/\ ∀m∈(r0 a).nms,m<cnt)
 (hH1: ∀a,∀p∈H1 a,p.1<cnt/\p.2.1=true/\JF p.2.2=true/\ ∀m∈p.2.2.nms,m<cnt):
 Jw P g (Fg ar pre r0 H1 cnt):=by
 intro args h nx K z;unfold Fg at z;cases hp:Ct h args with
 |none=>rw[hp] at z;exact z.elim
 |some ps=>
  rw[hp] at z;simp only[Wh] at z;cases ha:ar ps with
  |none=>rw[ha] at z;exact z.elim
  |some a=>
   rw[ha] at z;simp only[EB] at z;obtain⟨ay,hK⟩:=z;refine⟨Lq aw,_,_,?_,hK⟩;intro C S vs RR hW a0 ac ad an ai;have bf:=Qtx hW args ps vs.toList (λm hm=>a0 m (II _ hm)) hp an;have ba:=Qxy hW;obtain⟨σ,hσ⟩: ∃σ:Nat->Nat,σ=BW (λj=>j) 0 nx:=⟨_,rfl⟩;have hσj: ∀j,σ j=nx+j:=λj=>by rw[hσ];simp[BW]
   rw[<-hσ] at ai;obtain⟨_,r,E,hT,rfl,rfl⟩:=be (ah a) (λ_=>none) nx (λr E=>r=(r0 a).ren σ/\E={use:=[],kill:=[],new:=AZ σ (H1 a),cnt:=cnt})
    ⟨a,λj=>j,[],[],ay,by rw[av,MG],trivial,⟨by simp[Al,hget],by simp[Al,hget],by simp[Al,hget],by simp,by simp[Al,hget]⟩,by rw[hσ],by rw[hσ]⟩
   have bb:AM S.froz (ah a) vs.toList:=by rw[av];exact pG _ _ ((bd ps a ha).c bf)
   refine hT (aJ S) S.froz vs RR ba (by simp) (λn hn=> ?_) (λn e Z m hm hF=> ?_) bb ?_
   .have:=ac n hn
    show (S.h n).map _=none;rw[this];rfl
   .obtain⟨e0,O,rfl⟩:=lI Z;exact ad n e0 O m hm hF
   intro v S1 aa bc _ ax;have aj: ∀n e,hget (AZ σ (H1 a)) n=some e->Fr nx cnt n/\e.1=true/\JF e.2=true/\ ∀m∈e.2.nms,Fr nx cnt m:=by
    intro n e Z;obtain⟨j,e0,O,Q,rfl⟩:=uZ Z;obtain⟨g1,g2,g3,g4⟩:=hH1 a _ O;obtain⟨q1,q2⟩:=Yu σ e0.2 g3;refine⟨by rw[<-Q,hσj];exact⟨by omega,by omega⟩,g2,q1,λm hm=> ?_⟩;obtain⟨i,hi,rfl⟩:=q2 m hm
    have:=g4 i hi
    rw[hσj];exact⟨by omega,by omega⟩
   have aq:S.w.heap.size<=S1.w.heap.size:=aa.size;have ab: ∀b,b<S.w.heap.size->S1.w.heap[b]? =S.w.heap[b]? :=λb hb=>aa.keep b hb (λh=>h)
   have au: ∀n,Fr nx cnt n->S.h n=none:=ac
   let E':Bo:={use:=Fx h args,kill:=[],new:=AZ σ (H1 a),cnt:=cnt}
   have ak: ∀n,E'.appf S.h n=match hget (AZ σ (H1 a)) n with
    |some e=>some e
    |none=>S.h n:=λn=>by simp only[E',Bo.appf];rfl
   have a8: ∀n,S1.h n=match hget (AZ σ (H1 a)) n with
    |some e=>some e
    |none=>S.froz.h n:=λn=>by rw[bc];simp only[Bo.appf];rfl
   let S':Ax:=⟨λn=>if nx<=n/\n<nx+cnt then S1.ρ n else S.ρ n,S.ok,E'.appf S.h,S1.w⟩
   have am: ∀n,S'.h n=E'.appf S.h n:=λ_=>rfl
   have aF: ∀n,Fr nx cnt n->S'.h n=S1.h n:=by
    intro n hn;rw[am,ak,a8];cases hget (AZ σ (H1 a)) n with
    |some e=>rfl
    |none=>
     show S.h n=(S.h n).map _;rw[au n hn];rfl
   have aR: ∀n,Fr nx cnt n->S'.ρ n=S1.ρ n:=λn hn=>Ak hn
   have oF: ∀n,¬Fr nx cnt n->S'.h n=S.h n:=by
    intro n hn;rw[am,ak];cases hq:hget (AZ σ (H1 a)) n with
    |some e=>exact absurd (aj n e hq).1 hn
    |none=>rfl
   have oR: ∀n,¬Fr nx cnt n->S'.ρ n=S.ρ n:=λn hn=>Ad hn
   have hp':B4 (λn=> ¬Fr nx cnt n) S S':=⟨λb hb=>⟨hb,ab b (hW.oks b hb)⟩,λo ho e' ao=>⟨e',by rw[<-oF o ho];exact ao,oR o ho,rfl,rfl⟩⟩;have nF: ∀n e,S.h n=some e-> ¬Fr nx cnt n:=λn e Z hn=>by rw[au n hn] at Z;cases Z
   have split: ∀o e,S'.h o=some e->(Fr nx cnt o/\S1.h o=some e/\S'.ρ o=S1.ρ o/\e.1=true/\JF e.2=true/\ ∀m∈e.2.nms,Fr nx cnt m)\/(S.h o=some e/\S'.ρ o=S.ρ o):=by
    intro o e Z;by_cases hn:Fr nx cnt o
    .left;have O:S1.h o=some e:=by rw[<-aF o hn];exact Z
     have Q:=Z;rw[am,ak] at Q;cases hq:hget (AZ σ (H1 a)) o with
     |some e1=>
      rw[hq] at Q;obtain rfl:=A7 Q;exact⟨hn,O,aR o hn,(aj o _ hq).2⟩
     |none=>
      rw[hq] at Q;exact absurd hn (nF o e Q)
    .right;exact⟨by rw[<-oF o hn];exact Z,oR o hn⟩
   have ag: ∀o e l,S1.h o=some e->S1.ρ o=some l->e.1=true->l.b<S1.w.heap.size/\S.w.heap.size<=l.b:=by
    intro o e l Z hl hm;obtain⟨Q,h3⟩:=aa.loc o e l Z hl;rw[hm] at h3;simp only[BM] at h3;exact⟨Q,h3.2.elim (λh=>h) (λh=>h.elim)⟩
   have a9:Wf C S':=by
    refine⟨aa.os.trans hW.os,aa.tape.trans hW.tape,aa.output.trans hW.output,DR hW.size aq,?_,hW.ok0,hW.ok1,λb hb=>Gh (hW.oks b hb) aq,?_,?_,?_,hW.gl⟩
    .intro b hb hM;exact (ab b (Gh hb hW.size)).trans (hW.keep b hb hM)
    .intro o e Z;rcases split o e Z with ⟨_,O,Q,_,h4,h5⟩|⟨O,Q⟩
     .rw[Q];exact T6 aF aR rfl _ e.2 h4 h5 (aa.obj o e O)
     .rw[Q];exact HR hp' (λlc hl=>ab lc.b (hW.loc o e lc O hl).1) _ (λm hm hF=>ad o e O m hm hF) (hW.obj o e O)
    .intro o e l Z hl;rcases split o e Z with ⟨_,O,Q,h3,_⟩|⟨O,Q⟩
     .rw[Q] at hl;obtain⟨b1,b2⟩:=ag o e l O hl h3;refine⟨b1,?_⟩;rw[h3];simp only[BM];exact⟨λhk=>by have:=hW.oks _ hk;omega,.inl (DR hW.size b2)⟩
     .rw[Q] at hl;obtain⟨b1,b2⟩:=hW.loc o e l O hl;exact⟨Gh b1 aq,b2⟩
    .intro o o' e e' l l' Z ao hl af hb hm;rcases split o e Z with ⟨_,O,Q,h3,_⟩|⟨O,Q⟩<;>rcases split o' e' ao with ⟨_,k1,k2,k3,_⟩|⟨k1,k2⟩<;>rw[Q] at hl<;>rw[k2] at af
     .exact aa.inj o o' e e' l l' O k1 hl af hb hm
     .have:=(ag o e l O hl h3).2
      have:=(hW.loc o' e' l' k1 af).1
      omega
     .have:=(ag o' e' l' k1 af k3).2
      have:=(hW.loc o e l O hl).1
      omega
     .exact hW.inj o o' e e' l l' O k1 hl af hb hm
   obtain⟨q1,q2⟩:=Ua σ (r0 a) (az a).1;refine ai v S' a9 rfl hp' (cC aF aR _ v q1 (λm hm=> ?_) ax);obtain⟨j,hj,rfl⟩:=q2 m hm
   have:=(az a).2 j hj
   rw[hσj];exact⟨by omega,by omega⟩
end Go.Ae
