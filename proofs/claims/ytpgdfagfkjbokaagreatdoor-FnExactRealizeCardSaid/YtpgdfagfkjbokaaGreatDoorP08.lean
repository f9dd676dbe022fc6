/- Lemmas. Conditions: none. -/
import Derived.Test.YtpgdfagfkjbokaaGreatDoorP07
import Derived.ProofKit
import Derived.SizedLaws
import Derived.OpenShut
import Derived.Test.YtpgdfagfkjbokaaGreatDoorRows
import Derived.Carry
import Derived.WalkKit
set_option linter.all false
set_option maxHeartbeats 8000000
set_option maxRecDepth 100000
namespace Go.Ae
open Go Go.Proofs
section
variable {H:Type}{enc:TypeId×Value->H}{P:Program}{W:World}
def Em{H:Type}(enc:TypeId×Value->H)(P:Program)(W:World)(t:TypeId){α:Type}(c:α->List D)(Q:α->Prop):Prop:=
 ∀(z:Nat) (cs:List Value) (x:DataW H×List MemPlace),DataW.trod enc P W 0 (λ_=>true) true z t cs=some x->(x.1.weights P t).all (· <=reachBytes)=true->
  ∃y:α,rdl (λb=>b<W.heap.size) (λb=>W.heap[b]?) (c y) cs/\Q y
def Em.to{t:TypeId}{α β:Type}{c:α->List D}{Q:α->Prop}{c':β->List D}{Q':β->Prop}(h:Em enc P W t c Q)(f:α->β)(hc: ∀y,c' (f y)=c y)(hQ: ∀y,Q y->Q' (f y)):Em enc P W t c' Q':=by
 intro z cs x O Z;obtain⟨y,g1,g2⟩:=h z cs x O Z;exact⟨f y,by rw[hc];exact g1,hQ y g2⟩
def WL{t:TypeId}(O:P.underlying t=some (.int .i64)):Em enc P W t (λn:Int=>[.int .i64 n]) (λ_=>True):=by
 intro z cs x h _;obtain⟨n,rfl,_,_⟩:=DataW.trod_int O h;exact⟨n,⟨_,_,rfl,rfl,rfl⟩,trivial⟩
def MD{t:TypeId}(Q:P.underlying t=some .string):Em enc P W t (λs:ByteArray=>[.str s]) (λs=>s.size<=140737488355328):=by
 intro z cs x h Z;obtain⟨s,rfl,rfl,_⟩:=DataW.trod_string Q h;refine⟨s,⟨_,_,rfl,rfl,rfl⟩,?_⟩;have O:=CA.1 Z s.data.toList.length (by simp[DataW.weights]);rw[Bq,Dg] at O;have h2:s.data.size=s.size:=rfl;have h3:reachBytes<=140737488355328:=by decide
 omega
def fG{ok:Nat->Prop}{hp:Nat->Option Obj}: ∀(a:List D) (x:List Value) {b:List D} {y:List Value},rdl ok hp a x->rdl ok hp b y->rdl ok hp (a++b) (x++y)
 |[],x,b,y,z,O=>by
  simp only[rdl] at z;subst z;exact O
 |d::a,x,b,y,z,O=>by
  simp only[rdl] at z;obtain⟨v,r,rfl,Q,Z⟩:=z;exact⟨v,r++y,rfl,Q,fG a r Z O⟩
def Qzi{ok:Nat->Prop}{hp:Nat->Option Obj}: ∀(a:List D) (x:List Value) (y:List Value),rdl ok hp a x->rdp ok hp a (x++y)
 |[],x,y,z=>trivial
 |d::a,x,y,z=>by
  simp only[rdl] at z;obtain⟨v,r,rfl,O,Q⟩:=z;exact⟨v,r++y,rfl,O,Qzi a r y Q⟩
def pick{α:Type}{R:Nat->α->Prop}: ∀(n:Nat),(∀i,i<n-> ∃y,R i y)-> ∃l:List α,l.length=n/\ ∀i y,l[i]? =some y->R i y
 |0,_=>⟨[],rfl,λi y h=>by simp at h⟩
 |n+1,h=>by
  obtain⟨l,Z,h2⟩:=pick n (λi Q=>h i (by omega));obtain⟨y,hy⟩:=h n (by omega);refine⟨l++[y],by simp[Z],λi z O=> ?_⟩;rcases ER i n with Q|Q
  .rw[Dj (by omega)] at O;exact h2 i z O
  .rw[E3 (by omega)] at O
   have:i - l.length=0:=by
    rcases gJ (i - l.length) with h0|h0
    .exact h0
    .rw[E9 (by simp;omega)] at O;cases O
   rw[this] at O;obtain rfl:=Ay O
   have:i=n:=by omega
   rw[this];exact hy
def Qz1{ok:Nat->Prop}{hp:Nat->Option Obj}{α:Type}{c:α->List D}{k:Nat}(O: ∀y,(c y).length=k): ∀(l:List α) (L:List Value),(∀i y,l[i]? =some y->rdp ok hp (c y) (L.drop (i*k)))->rdr ok hp k (l.map c) L
 |[],L,_=>trivial
 |y::r,L,h=>by
  refine⟨O y,?_,Qz1 O r (L.drop k) (λi z Q=> ?_)⟩
  .have:=h 0 y rfl
   rwa [gR,F8] at this
  .have:=h (i+1) z Q
   rwa [DU,show k+i*k=(i+1)*k by rw[F2,IT,nS]]
def Qy9{a:Addr}{k:Nat}{cs:List Value}(hk:0<k)(h:W.cells? 0 a k=some cs):a.spot=none/\ ∃vs T Z,W.heap[a.block]? =some (.cells vs T Z)/\ ∃r,vs.toList.drop a.off=cs++r/\cs.length=k:=by
 unfold World.cells? at h;rw[Ai (CC _)] at h;have hl:=mapM_some_length h;rw[aM] at hl;have hg: ∀i,i<k->W.cell? (a.add i)=cs[i]? :=λi Q=>mapM_some_get h i i (by rw[Iw Q])
 have h0:=hg 0 hk;rw[Bi (by omega)] at h0;have hsp:a.spot=none:=by
  cases hs:a.spot with
  |none=>rfl
  |some s=>
   exfalso
   have:(a.add 0).spot.isSome=true:=by
    unfold Addr.add
    split<;>simp_all
   unfold World.cell? at h0;split at h0
   .rw[Ai this] at h0;cases h0
   .cases h0
 refine⟨hsp,?_⟩;obtain⟨b,off,sp⟩:=a;simp only at hsp;subst hsp;have z: ∀i,(⟨b,off,none⟩:Addr).add i=⟨b,off+i,none⟩:=λi=>PZ b off i
 rw[z] at h0;unfold World.cell? at h0;simp only at h0;split at h0
 .rename_i vs T Z hb;simp only[Rk,CE,Cr] at h0;refine⟨vs,T,Z,hb,(vs.toList.drop off).drop k,?_,hl⟩;have O: ∀i,i<k->vs[off+i]? =cs[i]? :=by
   intro i Q
   have:=hg i Q
   rw[z] at this;simp only[World.cell?,hb,Rk,CE,Cr] at this;exact this
  apply Io;intro i;rw[EQ,Gd];rcases ER i k with Q|Q
  .rw[Dj (by omega)];exact O i Q
  .rw[E3 (by omega),EQ,EQ,Gd];congr 1;show off+i=off+(k+(i - cs.length));omega
 .cases h0
def Qkh{t e:TypeId}{α:Type}{c:α->List D}{Q:α->Prop}{k:Nat}(ht:P.underlying t=some (.slice e))(hk:P.cellsOf e=k)(ai:0<k)(hb:1<=P.bytesOf e)(hc: ∀y,(c y).length=k)(h:Em enc P W e c Q):
 Em enc P W t (λl:List α=>[.sl false k (l.map c)]) (λl=> ∀y∈l,Q y):=by
 intro ax cs x hx hw;rcases DataW.trod_slice ht hx with ⟨rfl,rfl⟩|⟨a,len,cap,Z,an,m,rfl,rfl,rfl,_,aq,_,az,ac,aa,_⟩
 .exact⟨[],⟨_,_,rfl,.inl ⟨.inl rfl,rfl⟩,rfl⟩,by simp⟩
 obtain⟨a0,aa⟩:=aa rfl;simp only[DataW.weights,ht,JL,nJ,AN,Bq,Fc] at hw;obtain⟨w1,w2,_⟩:=hw;have aj:len<=Hy:=by
  have:=Zev (Z.length+an.length) hb
  simp only[reachBytes,Hy] at w1⊢;omega
 by_cases ag:cap=0
 .subst ag
  have:len=0:=by omega
  subst this;exact⟨[],⟨_,_,rfl,.inl ⟨.inr ⟨rfl,a,rfl⟩,rfl⟩,rfl⟩,by simp⟩
 have ad: ∀i,i<cap-> ∃cs,W.cells? 0 (a.add (i*k)) k=some cs:=by
  intro i hi;rw[hk] at ac aa;rcases ER i len with h1|h1
  .have:=ac i h1
   rw[Bi (by omega)] at this;cases hq:W.cells? 0 (a.add (i*k)) k with
   |none=>rw[hq] at this;cases this
   |some cs=>exact⟨cs,rfl⟩
  .have:=aa (i - len) (by omega)
   rw[show len+(i - len)=i by omega,Bi (by omega)] at this;cases hq:W.cells? 0 (a.add (i*k)) k with
   |none=>rw[hq] at this;cases this
   |some cs=>exact⟨cs,rfl⟩
 obtain⟨ay,ah⟩:=ad 0 (by omega);obtain⟨am,vs,T,fr,O,_⟩:=Qy9 ai ah;have hsp:a.spot=none:=by
  cases hs:a.spot with
  |none=>rfl
  |some s=>
   exfalso
   have:(a.add (0*k)).spot.isSome=true:=by
    unfold Addr.add
    split<;>simp_all
   rw[am] at this;cases this
 obtain⟨b,off,sp⟩:=a;simp only at hsp;subst hsp;have ab: ∀i,(⟨b,off,none⟩:Addr).add i=⟨b,off+i,none⟩:=λi=>PZ b off i
 rw[ab] at O;simp only at O;have au: ∀i,i<len-> ∃y:α,rdp (λb=>b<W.heap.size) (λb=>W.heap[b]?) (c y) ((vs.toList.drop off).drop (i*k))/\Q y:=by
  intro i hi;have h1:=ac i hi;rw[hk,Bi (by omega)] at h1;cases hq:W.cells? 0 ((⟨b,off,none⟩:Addr).add (i*k)) k with
  |none=>rw[hq] at h1;cases h1
  |some ci=>
   rw[hq,G7] at h1;obtain⟨_,aw,T',ao,hh,r,hr,_⟩:=Qy9 ai hq;rw[ab] at hh hr;simp only at hh hr;rw[O] at hh;obtain⟨rfl,rfl,rfl⟩:vs=aw/\T=T'/\fr=ao:=by
    have:=Ay hh
    simp only[Obj.cells.injEq] at this;exact this
   have av:(Z[i].1.weights P e).all (· <=reachBytes)=true:=by
    rw[CA] at w2⊢;intro n hn;refine w2 n ?_
    have: ∀(l:List (DataW H)) (d:DataW H),d∈l-> ∀n∈d.weights P e,n∈DataW.weightsAll P e l:=by
     intro l;induction l with
     |nil=>intro d hd;cases hd
     |cons z r ih=>
      intro d hd n hn;simp only[DataW.weightsAll,Bn];rcases Bh.1 hd with rfl|hd
      .exact .inl hn
      .exact .inr (ih d hd n hn)
    exact this _ Z[i].1 (Bo.2 ⟨Z[i],Rm _,rfl⟩) n hn
   obtain⟨y,g1,g2⟩:=h m ci Z[i] h1 av;refine⟨y,?_,g2⟩;rw[DU,hr];exact Qzi _ _ _ g1
 obtain⟨l,hl,ak⟩:=pick (R:=λi y=>rdp (λb=>b<W.heap.size) (λb=>W.heap[b]?) (c y) ((vs.toList.drop off).drop (i*k))/\Q y) len au;have af:b<W.heap.size:=by
  rcases ER b W.heap.size with h|h
  .exact h
  .rw[Xm h] at O;cases O
 refine⟨l,⟨_,_,rfl,.inr ⟨b,off,cap,vs,T,fr,by rw[Fc,hl],by simp,by rw[Fc,hl];exact aq,by rw[Fc,hl];exact aj,af,O,Qz1 hc l _ (λi y hy=>(ak i y hy).1)⟩,rfl⟩,λy hy=> ?_⟩;obtain⟨i,hi⟩:=List.getElem?_of_mem hy;exact (ak i y hi).2
def jW{t:TypeId}{α0:Type}{c0:α0->List D}{Z:α0->Prop}{O:Field}(ht:P.underlying t=some (.struct #[O]))(o0:O.offset=0)(hn:P.cellsOf t=P.cellsOf O.type)(h0:Em enc P W O.type c0 Z):
 Em enc P W t (λy:α0=>c0 (y)) (λy=>Z (y)):=by
 intro aa cs x h hw;obtain⟨xs,m,rfl,rfl,hl,Q,hf⟩:=DataW.trod_struct ht h;have hx: ∀i,i<1-> ∃z,xs[i]? =some z:=λi hi=>⟨_,Bi (by rw[Q];exact hi)⟩
 simp only[DataW.weights,ht] at hw;obtain⟨z0,e0⟩:=hx 0 (by decide);obtain⟨y0,r0,q0⟩:=h0 m _ z0 ((hf 0 O rfl).trans e0) (CA.2 λk hk=>CA.1 hw k (DataW.weights_mem_each (j:=0) (t:=O.type) (d:=z0.1) rfl (by rw[CM,e0];rfl) k hk));rw[o0] at r0;refine⟨(y0),?_,q0⟩;simp only;have e:cs=(cs.drop (0)).take (P.cellsOf O.type):=by
  have ab:cs.length=P.cellsOf O.type:=hl.trans hn;rw[F8,DE (by omega)]
 rw[e];exact r0
def mT{t:TypeId}{α0:Type}{c0:α0->List D}{Q0:α0->Prop}{O:Field}{α1:Type}{c1:α1->List D}{Q1:α1->Prop}{Q:Field}(ht:P.underlying t=some (.struct #[O,Q]))(o0:O.offset=0)(o1:Q.offset=P.cellsOf O.type)(hn:P.cellsOf t=P.cellsOf O.type+P.cellsOf Q.type)(h0:Em enc P W O.type c0 Q0)(h1:Em enc P W Q.type c1 Q1):
 Em enc P W t (λy:α0×α1=>c0 (y.1)++(c1 (y.2))) (λy=>Q0 (y.1)/\Q1 (y.2)):=by
 intro ab cs x h hw;obtain⟨xs,m,rfl,rfl,hl,aa,hf⟩:=DataW.trod_struct ht h;have hx: ∀i,i<2-> ∃z,xs[i]? =some z:=λi hi=>⟨_,Bi (by rw[aa];exact hi)⟩
 simp only[DataW.weights,ht] at hw;obtain⟨z0,e0⟩:=hx 0 (by decide);obtain⟨y0,r0,q0⟩:=h0 m _ z0 ((hf 0 O rfl).trans e0) (CA.2 λk Z=>CA.1 hw k (DataW.weights_mem_each (j:=0) (t:=O.type) (d:=z0.1) rfl (by rw[CM,e0];rfl) k Z));rw[o0] at r0;obtain⟨z1,e1⟩:=hx 1 (by decide);obtain⟨y1,r1,q1⟩:=h1 m _ z1 ((hf 1 Q rfl).trans e1) (CA.2 λk Z=>CA.1 hw k (DataW.weights_mem_each (j:=1) (t:=Q.type) (d:=z1.1) rfl (by rw[CM,e1];rfl) k Z));rw[o1] at r1;refine⟨(y0,y1),?_,q0,q1⟩;simp only;have e:cs=(cs.drop (0)).take (P.cellsOf O.type)++((cs.drop (P.cellsOf O.type)).take (P.cellsOf Q.type)):=by
  have ac:cs.length=P.cellsOf O.type+P.cellsOf Q.type:=hl.trans hn;rw[F8];rw[DE (l:=cs.drop (P.cellsOf O.type)) (by rw[Ce];omega)];rw[Iv]
 rw[e];exact fG _ _ r0 (r1)
def jX{t:TypeId}{α0:Type}{c0:α0->List D}{Q0:α0->Prop}{O:Field}{α1:Type}{c1:α1->List D}{Q1:α1->Prop}{Q:Field}{α2:Type}{c2:α2->List D}{Q2:α2->Prop}{Z:Field}(ht:P.underlying t=some (.struct #[O,Q,Z]))(o0:O.offset=0)(o1:Q.offset=P.cellsOf O.type)(o2:Z.offset=P.cellsOf O.type+P.cellsOf Q.type)(hn:P.cellsOf t=P.cellsOf O.type+P.cellsOf Q.type+P.cellsOf Z.type)(h0:Em enc P W O.type c0 Q0)(h1:Em enc P W Q.type c1 Q1)(h2:Em enc P W Z.type c2 Q2):
 Em enc P W t (λy:α0×α1×α2=>c0 (y.1)++(c1 (y.2.1)++(c2 (y.2.2)))) (λy=>Q0 (y.1)/\Q1 (y.2.1)/\Q2 (y.2.2)):=by
 intro ab cs x h hw;obtain⟨xs,m,rfl,rfl,hl,aa,hf⟩:=DataW.trod_struct ht h;have hx: ∀i,i<3-> ∃z,xs[i]? =some z:=λi hi=>⟨_,Bi (by rw[aa];exact hi)⟩
 simp only[DataW.weights,ht] at hw;obtain⟨z0,e0⟩:=hx 0 (by decide);obtain⟨y0,r0,q0⟩:=h0 m _ z0 ((hf 0 O rfl).trans e0) (CA.2 λk hk=>CA.1 hw k (DataW.weights_mem_each (j:=0) (t:=O.type) (d:=z0.1) rfl (by rw[CM,e0];rfl) k hk));rw[o0] at r0;obtain⟨z1,e1⟩:=hx 1 (by decide);obtain⟨y1,r1,q1⟩:=h1 m _ z1 ((hf 1 Q rfl).trans e1) (CA.2 λk hk=>CA.1 hw k (DataW.weights_mem_each (j:=1) (t:=Q.type) (d:=z1.1) rfl (by rw[CM,e1];rfl) k hk));rw[o1] at r1;obtain⟨z2,e2⟩:=hx 2 (by decide);obtain⟨y2,r2,q2⟩:=h2 m _ z2 ((hf 2 Z rfl).trans e2) (CA.2 λk hk=>CA.1 hw k (DataW.weights_mem_each (j:=2) (t:=Z.type) (d:=z2.1) rfl (by rw[CM,e2];rfl) k hk));rw[o2] at r2;refine⟨(y0,y1,y2),?_,q0,q1,q2⟩;simp only;have e:cs=(cs.drop (0)).take (P.cellsOf O.type)++((cs.drop (P.cellsOf O.type)).take (P.cellsOf Q.type)++((cs.drop (P.cellsOf O.type+P.cellsOf Q.type)).take (P.cellsOf Z.type))):=by
  have ac:cs.length=P.cellsOf O.type+P.cellsOf Q.type+P.cellsOf Z.type:=hl.trans hn;rw[F8];rw[DE (l:=cs.drop (P.cellsOf O.type+P.cellsOf Q.type)) (by rw[Ce];omega)];rw[show cs.drop (P.cellsOf O.type+P.cellsOf Q.type)=(cs.drop (P.cellsOf O.type)).drop (P.cellsOf Q.type) by rw[DU],Iv];rw[Iv]
 rw[e];exact fG _ _ r0 (fG _ _ r1 (r2))
def jY{t:TypeId}{α0:Type}{c0:α0->List D}{Q0:α0->Prop}{O:Field}{α1:Type}{c1:α1->List D}{Q1:α1->Prop}{Q:Field}{α2:Type}{c2:α2->List D}{Q2:α2->Prop}{Z:Field}{α3:Type}{c3:α3->List D}{Q3:α3->Prop}{f3:Field}(ht:P.underlying t=some (.struct #[O,Q,Z,f3]))(o0:O.offset=0)(o1:Q.offset=P.cellsOf O.type)(o2:Z.offset=P.cellsOf O.type+P.cellsOf Q.type)(o3:f3.offset=P.cellsOf O.type+P.cellsOf Q.type+P.cellsOf Z.type)(hn:P.cellsOf t=P.cellsOf O.type+P.cellsOf Q.type+P.cellsOf Z.type+P.cellsOf f3.type)(h0:Em enc P W O.type c0 Q0)(h1:Em enc P W Q.type c1 Q1)(h2:Em enc P W Z.type c2 Q2)(h3:Em enc P W f3.type c3 Q3):
 Em enc P W t (λy:α0×α1×α2×α3=>c0 (y.1)++(c1 (y.2.1)++(c2 (y.2.2.1)++(c3 (y.2.2.2))))) (λy=>Q0 (y.1)/\Q1 (y.2.1)/\Q2 (y.2.2.1)/\Q3 (y.2.2.2)):=by
 intro ab cs x h hw;obtain⟨xs,m,rfl,rfl,hl,aa,hf⟩:=DataW.trod_struct ht h;have hx: ∀i,i<4-> ∃z,xs[i]? =some z:=λi hi=>⟨_,Bi (by rw[aa];exact hi)⟩
 simp only[DataW.weights,ht] at hw;obtain⟨z0,e0⟩:=hx 0 (by decide);obtain⟨y0,r0,q0⟩:=h0 m _ z0 ((hf 0 O rfl).trans e0) (CA.2 λk hk=>CA.1 hw k (DataW.weights_mem_each (j:=0) (t:=O.type) (d:=z0.1) rfl (by rw[CM,e0];rfl) k hk));rw[o0] at r0;obtain⟨z1,e1⟩:=hx 1 (by decide);obtain⟨y1,r1,q1⟩:=h1 m _ z1 ((hf 1 Q rfl).trans e1) (CA.2 λk hk=>CA.1 hw k (DataW.weights_mem_each (j:=1) (t:=Q.type) (d:=z1.1) rfl (by rw[CM,e1];rfl) k hk));rw[o1] at r1;obtain⟨z2,e2⟩:=hx 2 (by decide);obtain⟨y2,r2,q2⟩:=h2 m _ z2 ((hf 2 Z rfl).trans e2) (CA.2 λk hk=>CA.1 hw k (DataW.weights_mem_each (j:=2) (t:=Z.type) (d:=z2.1) rfl (by rw[CM,e2];rfl) k hk));rw[o2] at r2;obtain⟨z3,e3⟩:=hx 3 (by decide);obtain⟨y3,r3,q3⟩:=h3 m _ z3 ((hf 3 f3 rfl).trans e3) (CA.2 λk hk=>CA.1 hw k (DataW.weights_mem_each (j:=3) (t:=f3.type) (d:=z3.1) rfl (by rw[CM,e3];rfl) k hk));rw[o3] at r3;refine⟨(y0,y1,y2,y3),?_,q0,q1,q2,q3⟩;simp only;have e:cs=(cs.drop (0)).take (P.cellsOf O.type)++((cs.drop (P.cellsOf O.type)).take (P.cellsOf Q.type)++((cs.drop (P.cellsOf O.type+P.cellsOf Q.type)).take (P.cellsOf Z.type)++((cs.drop (P.cellsOf O.type+P.cellsOf Q.type+P.cellsOf Z.type)).take (P.cellsOf f3.type)))):=by
  have ac:cs.length=P.cellsOf O.type+P.cellsOf Q.type+P.cellsOf Z.type+P.cellsOf f3.type:=hl.trans hn;rw[F8];rw[DE (l:=cs.drop (P.cellsOf O.type+P.cellsOf Q.type+P.cellsOf Z.type)) (by rw[Ce];omega)];rw[show cs.drop (P.cellsOf O.type+P.cellsOf Q.type+P.cellsOf Z.type)=(cs.drop (P.cellsOf O.type+P.cellsOf Q.type)).drop (P.cellsOf Z.type) by rw[DU],Iv];rw[show cs.drop (P.cellsOf O.type+P.cellsOf Q.type)=(cs.drop (P.cellsOf O.type)).drop (P.cellsOf Q.type) by rw[DU],Iv];rw[Iv]
 rw[e];exact fG _ _ r0 (fG _ _ r1 (fG _ _ r2 (r3)))
end
section
variable {H:Type}{enc:TypeId×Value->H}{W:World}
def TS:Em enc Tryz.prog W 35 Ac.c (λ_=>True):=
 (mT Tryz.underlying35 rfl (by kernel_rfl) (by kernel_rfl) (WL Tryz.underlying2) (WL Tryz.underlying2)).to (λy=>(⟨y.1,y.2⟩:Ac)) (λ_=>rfl) (λ_ _=>trivial)
def Y3:Em enc Tryz.prog W 117 Aj.c (λ_=>True):=
 (mT Tryz.underlying117 rfl (by kernel_rfl) (by kernel_rfl) TS (WL Tryz.underlying2)).to (λy=>(⟨y.1,y.2⟩:Aj)) (λ_=>rfl) (λ_ _=>trivial)
def rOpt:Em enc Tryz.prog W 37 A9.c (λ_=>True):=
 (mT Tryz.underlying37 rfl (by kernel_rfl) (by kernel_rfl) TS (WL Tryz.underlying2)).to (λy=>(⟨y.1,y.2⟩:A9)) (λ_=>rfl) (λ_ _=>trivial)
def yY:Em enc Tryz.prog W 196 Am.c (λg=>g.Name.size<=140737488355328):=
 (mT Tryz.underlying196 rfl (by kernel_rfl) (by kernel_rfl) (MD Tryz.underlying9) (WL Tryz.underlying2)).to (λy=>(⟨y.1,y.2⟩:Am)) (λ_=>rfl) (λ_ h=>h.1)
def bP:Em enc Tryz.prog W 31 (λl:List Int=>[.sl false 1 (l.map Al)]) (λl=> ∀y∈l,True):=
 Qkh (c:=Al) Tryz.underlying31 (by kernel_rfl) (by decide) (by decide+kernel) (λ_=>rfl) (WL Tryz.underlying2)
def zA:Em enc Tryz.prog W 199 Tile.c (λg=>g.Name.size<=140737488355328):=
 (mT Tryz.underlying199 rfl (by kernel_rfl) (by kernel_rfl) (MD Tryz.underlying9) bP).to (λy=>(⟨y.1,y.2⟩:Tile)) (λ_=>rfl) (λ_ h=>h.1)
def jU:Em enc Tryz.prog W 22 (λl:List Am=>[.sl false 2 (l.map Am.c)]) (λl=> ∀y∈l,y.Name.size<=140737488355328):=
 Qkh Tryz.underlying22 (by kernel_rfl) (by decide) (by decide+kernel) (λ_=>rfl) yY
def jV:Em enc Tryz.prog W 23 (λl:List Tile=>[.sl false 2 (l.map Tile.c)]) (λl=> ∀y∈l,y.Name.size<=140737488355328):=
 Qkh Tryz.underlying23 (by kernel_rfl) (by decide) (by decide+kernel) (λ_=>rfl) zA
def TR:Em enc Tryz.prog W 26 (λl:List Aj=>[.sl false 3 (l.map Aj.c)]) (λl=> ∀y∈l,True):=
 Qkh Tryz.underlying26 (by kernel_rfl) (by decide) (by decide+kernel) (λ_=>rfl) Y3
def rSet:Em enc Tryz.prog W 25 Az.c FD:=
 (mT Tryz.underlying25 rfl (by kernel_rfl) (by kernel_rfl) jU jV).to (λy=>(⟨y.1,y.2⟩:Az)) (λ_=>rfl) (λ_ h=>h)
def yX:Em enc Tryz.prog W 28 Ad.c (λ_=>True):=
 (jW Tryz.underlying28 rfl (by kernel_rfl) TR).to (λy=>(⟨y⟩:Ad)) (λ_=>rfl) (λ_ _=>trivial)
def yZ:Em enc Tryz.prog W 30 AM.c (λs=>FD s.Set):=
 (jX Tryz.underlying30 rfl (by kernel_rfl) (by kernel_rfl) (by kernel_rfl) rSet yX (WL Tryz.underlying2)).to (λy=>(⟨y.1,y.2.1,y.2.2⟩:AM)) (λ_=>rfl) (λ_ h=>h.1)
def rSim:Em enc Tryz.prog W 33 AE.c (λs=>FD s.Big.Set/\FD s.Small.Set):=
 (jY Tryz.underlying33 rfl (by kernel_rfl) (by kernel_rfl) (by kernel_rfl) (by kernel_rfl) yZ yZ (WL Tryz.underlying2) bP).to (λy=>(⟨y.1,y.2.1,y.2.2.1,y.2.2.2⟩:AE)) (λ_=>rfl) (λ_ h=>⟨h.1,h.2.1⟩)
end
end Go.Ae
namespace Go.Ae
open Go Go.Proofs Go.RowKit
def xQ(W:World):Au:=⟨λ_=>none,λb=>b<W.heap.size,λ_=>none,W⟩
def xP(W:World):AU:=AU.mk0 W (λ_=>False) (λb=>b<W.heap.size)
def wf0(W:World)(O:GP (λb=>b<W.heap.size) (λb=>W.heap[b]?)):Wf (xP W) (xQ W):=
 ⟨rfl,rfl,rfl,AL _,λ_ _ _=>rfl,λ_ h=>h,λ_ h=> .inl h,λ_ h=>h,λo e h=>(by cases h),λo e l h=>(by cases h),λo o' e e' l l' h=>(by cases h),O.mono λ_ _ z Q=>⟨⟨z,λh=>h.elim⟩,Q⟩⟩
def R9{P:Program}{g:FuncId}{row:A7}(Z:H8 P g row){W:World}(hg:GP (λb=>b<W.heap.size) (λb=>W.heap[b]?)){args:Array Value}{ds:List D}(Q:row (ds.map .im) (λ_=>none) 0 (λr _=>r= .im (.bool true)))
 (O:rdl (λb=>b<W.heap.size) (λb=>W.heap[b]?) ds args.toList):Calls P g args W λe W'=>e= .returned (.bool true)/\Below W.heap.size W W':=by
 obtain⟨_,r,E,hT,rfl⟩:=Z _ _ _ _ Q;refine hT (xP W) (xQ W) args _ (wf0 W hg) (λ_ _=>rfl) (λ_ _=>rfl) (λn e h=>(by cases h)) ((IB _ _).2 O) ?_;intro v S' z _ _ hc;simp only[Aa,rd] at hc;subst hc;exact⟨rfl,z.os,z.tape,z.output,z.size,λk hk=>z.keep k hk (λh=>h)⟩
end Go.Ae
