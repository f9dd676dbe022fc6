/- Lemmas. Conditions: none. -/
import Derived.Test.YtelbgmfdnnljoaaGreatDoorP07
import Derived.ProofKit
import Derived.SizedLaws
import Derived.OpenShut
import Derived.Test.YtelbgmfdnnljoaaGreatDoorRows
import Derived.Carry
import Derived.WalkKit
set_option linter.all false
set_option maxHeartbeats 8000000
set_option maxRecDepth 100000
namespace Go.Ae
open Go Go.Proofs
section
variable {H:Type}{enc:TypeId×Value->H}{P:Program}{W:World}
def Fe{H:Type}(enc:TypeId×Value->H)(P:Program)(W:World)(t:TypeId){α:Type}(c:α->List D)(Q:α->Prop):Prop:=
 ∀(z:Nat) (cs:List Value) (x:DataW H×List MemPlace),DataW.trod enc P W 0 (λ_=>true) true z t cs=some x->(x.1.weights P t).all (· <=reachBytes)=true->
  ∃y:α,rdl (λb=>b<W.heap.size) (λb=>W.heap[b]?) (c y) cs/\Q y
def Fe.to{t:TypeId}{α β:Type}{c:α->List D}{Q:α->Prop}{c':β->List D}{Q':β->Prop}(h:Fe enc P W t c Q)(f:α->β)(hc: ∀y,c' (f y)=c y)(hQ: ∀y,Q y->Q' (f y)):Fe enc P W t c' Q':=by
 intro z G x O Z;obtain⟨y,g1,g2⟩:=h z G x O Z;exact⟨f y,by rw[hc];exact g1,hQ y g2⟩
def cK{t:TypeId}(G:P.underlying t=some (.int .i64)):Fe enc P W t (λn:Int=>[.int .i64 n]) (λ_=>True):=by
 intro z O x h _;obtain⟨n,rfl,_,_⟩:=DataW.trod_int G h;exact⟨n,⟨_,_,rfl,rfl,rfl⟩,trivial⟩
def M4{t:TypeId}(O:P.underlying t=some .string):Fe enc P W t (λs:ByteArray=>[.str s]) (λs=>s.size<=140737488355328):=by
 intro z Z x h Q;obtain⟨s,rfl,rfl,_⟩:=DataW.trod_string O h;refine⟨s,⟨_,_,rfl,rfl,rfl⟩,?_⟩;have G:=CM.1 Q s.data.toList.length (by simp[DataW.weights]);rw[Cy,EE] at G;have h2:s.data.size=s.size:=rfl;have h3:reachBytes<=140737488355328:=by decide
 omega
def vC{ok:Nat->Prop}{hp:Nat->Option Obj}: ∀(a:List D) (x:List Value) {b:List D} {y:List Value},rdl ok hp a x->rdl ok hp b y->rdl ok hp (a++b) (x++y)
 |[],x,b,y,z,G=>by
  simp only[rdl] at z;subst z;exact G
 |d::a,x,b,y,z,G=>by
  simp only[rdl] at z;obtain⟨v,r,rfl,O,Q⟩:=z;exact⟨v,r++y,rfl,O,vC a r Q G⟩
def Qzi{ok:Nat->Prop}{hp:Nat->Option Obj}: ∀(a:List D) (x:List Value) (y:List Value),rdl ok hp a x->rdp ok hp a (x++y)
 |[],x,y,z=>trivial
 |d::a,x,y,z=>by
  simp only[rdl] at z;obtain⟨v,r,rfl,G,O⟩:=z;exact⟨v,r++y,rfl,G,Qzi a r y O⟩
def pick{α:Type}{R:Nat->α->Prop}: ∀(n:Nat),(∀i,i<n-> ∃y,R i y)-> ∃l:List α,l.length=n/\ ∀i y,l[i]? =some y->R i y
 |0,_=>⟨[],rfl,λi y h=>by simp at h⟩
 |n+1,h=>by
  obtain⟨l,Q,Z⟩:=pick n (λi O=>h i (by omega));obtain⟨y,hy⟩:=h n (by omega);refine⟨l++[y],by simp[Q],λi z G=> ?_⟩;rcases FB i n with O|O
  .rw[H6 (by omega)] at G;exact Z i z G
  .rw[J2 (by omega)] at G
   have:i - l.length=0:=by
    rcases jI (i - l.length) with h0|h0
    .exact h0
    .rw[HB (by simp;omega)] at G;cases G
   rw[this] at G;obtain rfl:=AB G
   have:i=n:=by omega
   rw[this];exact hy
def Qz1{ok:Nat->Prop}{hp:Nat->Option Obj}{α:Type}{c:α->List D}{k:Nat}(G: ∀y,(c y).length=k): ∀(l:List α) (L:List Value),(∀i y,l[i]? =some y->rdp ok hp (c y) (L.drop (i*k)))->rdr ok hp k (l.map c) L
 |[],L,_=>trivial
 |y::r,L,h=>by
  refine⟨G y,?_,Qz1 G r (L.drop k) (λi z O=> ?_)⟩
  .have:=h 0 y rfl
   rwa [J5,Gf] at this
  .have:=h (i+1) z O
   rwa [DS,show k+i*k=(i+1)*k by rw[Du,EH,jG]]
def Qy9{a:Addr}{k:Nat}{cs:List Value}(hk:0<k)(h:W.cells? 0 a k=some cs):a.spot=none/\ ∃Z T fr,W.heap[a.block]? =some (.cells Z T fr)/\ ∃r,Z.toList.drop a.off=cs++r/\cs.length=k:=by
 unfold World.cells? at h;rw[Ai (Cz _)] at h;have hl:=mapM_some_length h;rw[I9] at hl;have hg: ∀i,i<k->W.cell? (a.add i)=cs[i]? :=λi Q=>mapM_some_get h i i (by rw[FN Q])
 have h0:=hg 0 hk;rw[B2 (by omega)] at h0;have O:a.spot=none:=by
  cases hs:a.spot with
  |none=>rfl
  |some s=>
   exfalso
   have:(a.add 0).spot.isSome=true:=by
    unfold Addr.add
    split<;>simp_all
   unfold World.cell? at h0;split at h0
   .rw[Ai this] at h0;cases h0
   .cases h0
 refine⟨O,?_⟩;obtain⟨b,off,sp⟩:=a;simp only at O;subst O;have z: ∀i,(⟨b,off,none⟩:Addr).add i=⟨b,off+i,none⟩:=λi=>N7 b off i
 rw[z] at h0;unfold World.cell? at h0;simp only at h0;split at h0
 .rename_i Z T fr hb;simp only[dM,CQ,CA] at h0;refine⟨Z,T,fr,hb,(Z.toList.drop off).drop k,?_,hl⟩;have G: ∀i,i<k->Z[off+i]? =cs[i]? :=by
   intro i Q
   have:=hg i Q
   rw[z] at this;simp only[World.cell?,hb,dM,CQ,CA] at this;exact this
  apply QI;intro i;rw[W8,Kk];rcases FB i k with Q|Q
  .rw[H6 (by omega)];exact G i Q
  .rw[J2 (by omega),W8,W8,Kk];congr 1;show off+i=off+(k+(i - cs.length));omega
 .cases h0
def vI{t e:TypeId}{α:Type}{c:α->List D}{Q:α->Prop}{k:Nat}(ht:P.underlying t=some (.slice e))(hk:P.cellsOf e=k)(ah:0<k)(hb:1<=P.bytesOf e)(hc: ∀y,(c y).length=k)(h:Fe enc P W e c Q):
 Fe enc P W t (λl:List α=>[.sl false k (l.map c)]) (λl=> ∀y∈l,Q y):=by
 intro ax cs x hx hw;rcases DataW.trod_slice ht hx with ⟨rfl,rfl⟩|⟨a,len,cap,O,an,m,rfl,rfl,rfl,_,aq,_,az,ab,Z,_⟩
 .exact⟨[],⟨_,_,rfl,.inl ⟨.inl rfl,rfl⟩,rfl⟩,by simp⟩
 obtain⟨a0,Z⟩:=Z rfl;simp only[DataW.weights,ht,ET,QL,AW,Cy,Gh] at hw;obtain⟨w1,w2,_⟩:=hw;have ai:len<=Jr:=by
  have:=Zeq (O.length+an.length) hb
  simp only[reachBytes,Jr] at w1⊢;omega
 by_cases af:cap=0
 .subst af
  have:len=0:=by omega
  subst this;exact⟨[],⟨_,_,rfl,.inl ⟨.inr ⟨rfl,a,rfl⟩,rfl⟩,rfl⟩,by simp⟩
 have ac: ∀i,i<cap-> ∃cs,W.cells? 0 (a.add (i*k)) k=some cs:=by
  intro i hi;rw[hk] at ab Z;rcases FB i len with h1|h1
  .have:=ab i h1
   rw[B2 (by omega)] at this;cases hq:W.cells? 0 (a.add (i*k)) k with
   |none=>rw[hq] at this;cases this
   |some cs=>exact⟨cs,rfl⟩
  .have:=Z (i - len) (by omega)
   rw[show len+(i - len)=i by omega,B2 (by omega)] at this;cases hq:W.cells? 0 (a.add (i*k)) k with
   |none=>rw[hq] at this;cases this
   |some cs=>exact⟨cs,rfl⟩
 obtain⟨ay,ag⟩:=ac 0 (by omega);obtain⟨am,vs,T,fr,G,_⟩:=Qy9 ah ag;have ak:a.spot=none:=by
  cases hs:a.spot with
  |none=>rfl
  |some s=>
   exfalso
   have:(a.add (0*k)).spot.isSome=true:=by
    unfold Addr.add
    split<;>simp_all
   rw[am] at this;cases this
 obtain⟨b,off,sp⟩:=a;simp only at ak;subst ak;have aa: ∀i,(⟨b,off,none⟩:Addr).add i=⟨b,off+i,none⟩:=λi=>N7 b off i
 rw[aa] at G;simp only at G;have au: ∀i,i<len-> ∃y:α,rdp (λb=>b<W.heap.size) (λb=>W.heap[b]?) (c y) ((vs.toList.drop off).drop (i*k))/\Q y:=by
  intro i hi;have h1:=ab i hi;rw[hk,B2 (by omega)] at h1;cases hq:W.cells? 0 ((⟨b,off,none⟩:Addr).add (i*k)) k with
  |none=>rw[hq] at h1;cases h1
  |some ci=>
   rw[hq,GE] at h1;obtain⟨_,aw,T',ao,hh,r,hr,_⟩:=Qy9 ah hq;rw[aa] at hh hr;simp only at hh hr;rw[G] at hh;obtain⟨rfl,rfl,rfl⟩:vs=aw/\T=T'/\fr=ao:=by
    have:=AB hh
    simp only[Obj.cells.injEq] at this;exact this
   have av:(O[i].1.weights P e).all (· <=reachBytes)=true:=by
    rw[CM] at w2⊢;intro n hn;refine w2 n ?_
    have: ∀(l:List (DataW H)) (d:DataW H),d∈l-> ∀n∈d.weights P e,n∈DataW.weightsAll P e l:=by
     intro l;induction l with
     |nil=>intro d hd;cases hd
     |cons z r ih=>
      intro d hd n hn;simp only[DataW.weightsAll,Bz];rcases Bt.1 hd with rfl|hd
      .exact .inl hn
      .exact .inr (ih d hd n hn)
    exact this _ O[i].1 (Bn.2 ⟨O[i],QJ _,rfl⟩) n hn
   obtain⟨y,g1,g2⟩:=h m ci O[i] h1 av;refine⟨y,?_,g2⟩;rw[DS,hr];exact Qzi _ _ _ g1
 obtain⟨l,hl,aj⟩:=pick (R:=λi y=>rdp (λb=>b<W.heap.size) (λb=>W.heap[b]?) (c y) ((vs.toList.drop off).drop (i*k))/\Q y) len au;have ad:b<W.heap.size:=by
  rcases FB b W.heap.size with h|h
  .exact h
  .rw[W7 h] at G;cases G
 refine⟨l,⟨_,_,rfl,.inr ⟨b,off,cap,vs,T,fr,by rw[Gh,hl],by simp,by rw[Gh,hl];exact aq,by rw[Gh,hl];exact ai,ad,G,Qz1 hc l _ (λi y hy=>(aj i y hy).1)⟩,rfl⟩,λy hy=> ?_⟩;obtain⟨i,hi⟩:=List.getElem?_of_mem hy;exact (aj i y hi).2
def fM{t:TypeId}{α0:Type}{c0:α0->List D}{Z:α0->Prop}{G:Field}(ht:P.underlying t=some (.struct #[G]))(o0:G.offset=0)(hn:P.cellsOf t=P.cellsOf G.type)(h0:Fe enc P W G.type c0 Z):
 Fe enc P W t (λy:α0=>c0 (y)) (λy=>Z (y)):=by
 intro aa O x h hw;obtain⟨xs,m,rfl,rfl,hl,Q,hf⟩:=DataW.trod_struct ht h;have hx: ∀i,i<1-> ∃z,xs[i]? =some z:=λi hi=>⟨_,B2 (by rw[Q];exact hi)⟩
 simp only[DataW.weights,ht] at hw;obtain⟨z0,e0⟩:=hx 0 (by decide);obtain⟨y0,r0,q0⟩:=h0 m _ z0 ((hf 0 G rfl).trans e0) (CM.2 λk hk=>CM.1 hw k (DataW.weights_mem_each (j:=0) (t:=G.type) (d:=z0.1) rfl (by rw[Dt,e0];rfl) k hk));rw[o0] at r0;refine⟨(y0),?_,q0⟩;simp only;have e:O=(O.drop (0)).take (P.cellsOf G.type):=by
  have ab:O.length=P.cellsOf G.type:=hl.trans hn;rw[Gf,F9 (by omega)]
 rw[e];exact r0
def pV{t:TypeId}{α0:Type}{c0:α0->List D}{Q0:α0->Prop}{G:Field}{α1:Type}{c1:α1->List D}{Q1:α1->Prop}{O:Field}(ht:P.underlying t=some (.struct #[G,O]))(o0:G.offset=0)(o1:O.offset=P.cellsOf G.type)(hn:P.cellsOf t=P.cellsOf G.type+P.cellsOf O.type)(h0:Fe enc P W G.type c0 Q0)(h1:Fe enc P W O.type c1 Q1):
 Fe enc P W t (λy:α0×α1=>c0 (y.1)++(c1 (y.2))) (λy=>Q0 (y.1)/\Q1 (y.2)):=by
 intro ab Q x h hw;obtain⟨xs,m,rfl,rfl,hl,aa,hf⟩:=DataW.trod_struct ht h;have hx: ∀i,i<2-> ∃z,xs[i]? =some z:=λi hi=>⟨_,B2 (by rw[aa];exact hi)⟩
 simp only[DataW.weights,ht] at hw;obtain⟨z0,e0⟩:=hx 0 (by decide);obtain⟨y0,r0,q0⟩:=h0 m _ z0 ((hf 0 G rfl).trans e0) (CM.2 λk Z=>CM.1 hw k (DataW.weights_mem_each (j:=0) (t:=G.type) (d:=z0.1) rfl (by rw[Dt,e0];rfl) k Z));rw[o0] at r0;obtain⟨z1,e1⟩:=hx 1 (by decide);obtain⟨y1,r1,q1⟩:=h1 m _ z1 ((hf 1 O rfl).trans e1) (CM.2 λk Z=>CM.1 hw k (DataW.weights_mem_each (j:=1) (t:=O.type) (d:=z1.1) rfl (by rw[Dt,e1];rfl) k Z));rw[o1] at r1;refine⟨(y0,y1),?_,q0,q1⟩;simp only;have e:Q=(Q.drop (0)).take (P.cellsOf G.type)++((Q.drop (P.cellsOf G.type)).take (P.cellsOf O.type)):=by
  have ac:Q.length=P.cellsOf G.type+P.cellsOf O.type:=hl.trans hn;rw[Gf];rw[F9 (l:=Q.drop (P.cellsOf G.type)) (by rw[C6];omega)];rw[QH]
 rw[e];exact vC _ _ r0 (r1)
def fN{t:TypeId}{α0:Type}{c0:α0->List D}{Q0:α0->Prop}{G:Field}{α1:Type}{c1:α1->List D}{Q1:α1->Prop}{O:Field}{α2:Type}{c2:α2->List D}{Q2:α2->Prop}{Z:Field}(ht:P.underlying t=some (.struct #[G,O,Z]))(o0:G.offset=0)(o1:O.offset=P.cellsOf G.type)(o2:Z.offset=P.cellsOf G.type+P.cellsOf O.type)(hn:P.cellsOf t=P.cellsOf G.type+P.cellsOf O.type+P.cellsOf Z.type)(h0:Fe enc P W G.type c0 Q0)(h1:Fe enc P W O.type c1 Q1)(h2:Fe enc P W Z.type c2 Q2):
 Fe enc P W t (λy:α0×α1×α2=>c0 (y.1)++(c1 (y.2.1)++(c2 (y.2.2)))) (λy=>Q0 (y.1)/\Q1 (y.2.1)/\Q2 (y.2.2)):=by
 intro ab Q x h hw;obtain⟨xs,m,rfl,rfl,hl,aa,hf⟩:=DataW.trod_struct ht h;have hx: ∀i,i<3-> ∃z,xs[i]? =some z:=λi hi=>⟨_,B2 (by rw[aa];exact hi)⟩
 simp only[DataW.weights,ht] at hw;obtain⟨z0,e0⟩:=hx 0 (by decide);obtain⟨y0,r0,q0⟩:=h0 m _ z0 ((hf 0 G rfl).trans e0) (CM.2 λk hk=>CM.1 hw k (DataW.weights_mem_each (j:=0) (t:=G.type) (d:=z0.1) rfl (by rw[Dt,e0];rfl) k hk));rw[o0] at r0;obtain⟨z1,e1⟩:=hx 1 (by decide);obtain⟨y1,r1,q1⟩:=h1 m _ z1 ((hf 1 O rfl).trans e1) (CM.2 λk hk=>CM.1 hw k (DataW.weights_mem_each (j:=1) (t:=O.type) (d:=z1.1) rfl (by rw[Dt,e1];rfl) k hk));rw[o1] at r1;obtain⟨z2,e2⟩:=hx 2 (by decide);obtain⟨y2,r2,q2⟩:=h2 m _ z2 ((hf 2 Z rfl).trans e2) (CM.2 λk hk=>CM.1 hw k (DataW.weights_mem_each (j:=2) (t:=Z.type) (d:=z2.1) rfl (by rw[Dt,e2];rfl) k hk));rw[o2] at r2;refine⟨(y0,y1,y2),?_,q0,q1,q2⟩;simp only;have e:Q=(Q.drop (0)).take (P.cellsOf G.type)++((Q.drop (P.cellsOf G.type)).take (P.cellsOf O.type)++((Q.drop (P.cellsOf G.type+P.cellsOf O.type)).take (P.cellsOf Z.type))):=by
  have ac:Q.length=P.cellsOf G.type+P.cellsOf O.type+P.cellsOf Z.type:=hl.trans hn;rw[Gf];rw[F9 (l:=Q.drop (P.cellsOf G.type+P.cellsOf O.type)) (by rw[C6];omega)];rw[show Q.drop (P.cellsOf G.type+P.cellsOf O.type)=(Q.drop (P.cellsOf G.type)).drop (P.cellsOf O.type) by rw[DS],QH];rw[QH]
 rw[e];exact vC _ _ r0 (vC _ _ r1 (r2))
end
section
variable {H:Type}{enc:TypeId×Value->H}{W:World}
def fK:Fe enc Tryz.prog W 139 A7.c (λ_=>True):=
 (pV Tryz.underlying139 rfl (by kernel_rfl) (by kernel_rfl) (cK Tryz.underlying2) (cK Tryz.underlying2)).to (λy=>(⟨y.1,y.2⟩:A7)) (λ_=>rfl) (λ_ _=>trivial)
def XJ:Fe enc Tryz.prog W 141 Al.c (λ_=>True):=
 (pV Tryz.underlying141 rfl (by kernel_rfl) (by kernel_rfl) fK (cK Tryz.underlying2)).to (λy=>(⟨y.1,y.2⟩:Al)) (λ_=>rfl) (λ_ _=>trivial)
def tO:Fe enc Tryz.prog W 121 Ad.c (λg=>g.Name.size<=140737488355328):=
 (pV Tryz.underlying121 rfl (by kernel_rfl) (by kernel_rfl) (M4 Tryz.underlying9) (cK Tryz.underlying2)).to (λy=>(⟨y.1,y.2⟩:Ad)) (λ_=>rfl) (λ_ h=>h.1)
def tP:Fe enc Tryz.prog W 95 (λl:List Int=>[.sl false 1 (l.map Ak)]) (λl=> ∀y∈l,True):=
 vI (c:=Ak) Tryz.underlying95 (by kernel_rfl) (by decide) (by decide+kernel) (λ_=>rfl) (cK Tryz.underlying2)
def tQ:Fe enc Tryz.prog W 123 Tile.c (λg=>g.Name.size<=140737488355328):=
 (pV Tryz.underlying123 rfl (by kernel_rfl) (by kernel_rfl) (M4 Tryz.underlying9) tP).to (λy=>(⟨y.1,y.2⟩:Tile)) (λ_=>rfl) (λ_ h=>h.1)
def fJ:Fe enc Tryz.prog W 22 (λl:List Ad=>[.sl false 2 (l.map Ad.c)]) (λl=> ∀y∈l,y.Name.size<=140737488355328):=
 vI Tryz.underlying22 (by kernel_rfl) (by decide) (by decide+kernel) (λ_=>rfl) tO
def fL:Fe enc Tryz.prog W 23 (λl:List Tile=>[.sl false 2 (l.map Tile.c)]) (λl=> ∀y∈l,y.Name.size<=140737488355328):=
 vI Tryz.underlying23 (by kernel_rfl) (by decide) (by decide+kernel) (λ_=>rfl) tQ
def Tr:Fe enc Tryz.prog W 26 (λl:List Al=>[.sl false 3 (l.map Al.c)]) (λl=> ∀y∈l,True):=
 vI Tryz.underlying26 (by kernel_rfl) (by decide) (by decide+kernel) (λ_=>rfl) XJ
def rSet:Fe enc Tryz.prog W 25 Au.c O4:=
 (pV Tryz.underlying25 rfl (by kernel_rfl) (by kernel_rfl) fJ fL).to (λy=>(⟨y.1,y.2⟩:Au)) (λ_=>rfl) (λ_ h=>h)
def rAsm:Fe enc Tryz.prog W 28 A9.c (λ_=>True):=
 (fM Tryz.underlying28 rfl (by kernel_rfl) Tr).to (λy=>(⟨y⟩:A9)) (λ_=>rfl) (λ_ _=>trivial)
def rSys:Fe enc Tryz.prog W 30 AF.c (λs=>O4 s.Set):=
 (fN Tryz.underlying30 rfl (by kernel_rfl) (by kernel_rfl) (by kernel_rfl) rSet rAsm (cK Tryz.underlying2)).to (λy=>(⟨y.1,y.2.1,y.2.2⟩:AF)) (λ_=>rfl) (λ_ h=>h.1)
end
end Go.Ae
namespace Go.Ae
open Go Go.Proofs Go.RowKit
def sI(W:World):Ay:=⟨λ_=>none,λb=>b<W.heap.size,λ_=>none,W⟩
def sH(W:World):AZ:=AZ.mk0 W (λ_=>False) (λb=>b<W.heap.size)
def wf0(W:World)(G:GP (λb=>b<W.heap.size) (λb=>W.heap[b]?)):Wf (sH W) (sI W):=
 ⟨rfl,rfl,rfl,AP _,AP _,λ_ _ _=>rfl,λ_ h=>h,λ_ h=> .inl h,λ_ h=>h,λo e h=>(by cases h),λo e l h=>(by cases h),λo o' e e' l l' h=>(by cases h),G.mono λ_ _ z O=>⟨⟨z,λh=>h.elim⟩,O⟩⟩
def Ri{P:Program}{g:FuncId}{row:AE}(Q:Hb P g row){W:World}(hg:GP (λb=>b<W.heap.size) (λb=>W.heap[b]?)){args:Array Value}{ds:List D}(O:row (ds.map .im) (λ_=>none) 0 (λr _=>r= .im (.bool true)))
 (G:rdl (λb=>b<W.heap.size) (λb=>W.heap[b]?) ds args.toList):Calls P g args W λe W'=>e= .returned (.bool true)/\Below W.heap.size W W':=by
 obtain⟨_,r,E,hT,rfl⟩:=Q _ _ _ _ O;refine hT (sH W) (sI W) args _ (wf0 W hg) (λ_ _=>rfl) (λ_ _=>rfl) (λn e h=>(by cases h)) ((Ir _ _).2 G) ?_;intro v S' z _ _ Z;simp only[Aa,rd] at Z;subst Z;exact⟨rfl,z.os,z.tape,z.output,z.size,λk hk=>z.keep k hk (λh=>h)⟩
end Go.Ae
