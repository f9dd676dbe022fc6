/- Lemmas. Conditions: none. -/
import Derived.Test.YtldneeclgjaehabGreatDoorP07
import Derived.ProofKit
import Derived.SizedLaws
import Derived.OpenShut
import Derived.Test.YtldneeclgjaehabGreatDoorRows
import Derived.Carry
import Derived.WalkKit
set_option linter.all false
set_option maxHeartbeats 8000000
set_option maxRecDepth 100000
namespace Go.Ae
open Go Go.Proofs
section
variable {H:Type}{enc:TypeId×Value->H}{P:Program}{W:World}
def F7{H:Type}(enc:TypeId×Value->H)(P:Program)(W:World)(t:TypeId){α:Type}(c:α->List D)(Q:α->Prop):Prop:=
 ∀(z:Nat) (cs:LVa) (x:DataW H×List MemPlace),DataW.trod enc P W 0 (λ_=>true) true z t cs=some x->(x.1.weights P t).all (· <=reachBytes)=true->
  ∃y:α,rdl (λb=>b<W.heap.size) (λb=>W.heap[b]?) (c y) cs/\Q y
def F7.to{t:TypeId}{α β:Type}{c:α->List D}{Q:α->Prop}{c':β->List D}{Q':β->Prop}(h:F7 enc P W t c Q)(f:α->β)(hc: ∀y,c' (f y)=c y)(hQ: ∀y,Q y->Q' (f y)):F7 enc P W t c' Q':=by
 intro z O x Z h2;obtain⟨y,g1,g2⟩:=h z O x Z h2;exact⟨f y,by rw[hc];exact g1,hQ y g2⟩
def Yw{t:TypeId}(ht:P.underlying t=some (.int .i64)):F7 enc P W t (λn:Int=>[.int .i64 n]) (λ_=>True):=by
 intro z O x h _;obtain⟨n,rfl,_,_⟩:=DataW.trod_int ht h;exact⟨n,⟨_,_,rfl,rfl,rfl⟩,trivial⟩
def NP{t:TypeId}(ht:P.underlying t=some .string):F7 enc P W t (λs:MM=>[.str s]) (λs=>s.size<=140737488355328):=by
 intro z Z x h Q;obtain⟨s,rfl,rfl,_⟩:=DataW.trod_string ht h;refine⟨s,⟨_,_,rfl,rfl,rfl⟩,?_⟩;have O:=CF.1 Q s.data.toList.length (by simp[DataW.weights]);rw[CK,HA] at O;have h2:s.data.size=s.size:=rfl;have h3:reachBytes<=140737488355328:=auDe;omega
def Qjr{ok:Nat->Prop}{hp:Nat->Option Obj}: ∀(a:List D) (x:LVa) {b:List D} {y:LVa},rdl ok hp a x->rdl ok hp b y->rdl ok hp (a++b) (x++y)
 |[],x,b,y,z,O=>by
  simp only[rdl] at z;subst z;exact O
 |d::a,x,b,y,z,O=>by
  simp only[rdl] at z;obtain⟨v,r,rfl,Q,Z⟩:=z;exact⟨v,r++y,rfl,Q,Qjr a r Z O⟩
def Qzi{ok:Nat->Prop}{hp:Nat->Option Obj}: ∀(a:List D) (x:LVa) (y:LVa),rdl ok hp a x->rdp ok hp a (x++y)
 |[],x,y,z=>trivial
 |d::a,x,y,z=>by
  simp only[rdl] at z;obtain⟨v,r,rfl,O,Q⟩:=z;exact⟨v,r++y,rfl,O,Qzi a r y Q⟩
def pick{α:Type}{R:Nat->α->Prop}: ∀(n:Nat),(∀i,i<n-> ∃y,R i y)-> ∃l:List α,l.length=n/\ ∀i y,l[i]? =some y->R i y
 |0,_=>⟨[],rfl,λi y h=>by simp at h⟩
 |n+1,h=>by
  obtain⟨l,Z,h2⟩:=pick n (λi Q=>h i auOm);obtain⟨y,hy⟩:=h n auOm;refine⟨l++[y],by simp[Z],λi z O=> ?_⟩;rcases Pi i n with Q|Q
  .rw[Db auOm] at O;exact h2 i z O
  .rw[D8 auOm] at O
   have:i - l.length=0:=by
    rcases rL (i - l.length) with h0|h0
    .exact h0
    .rw[Gv (by simp;omega)] at O;cases O
   rw[this] at O;obtain rfl:=AJ O
   have:i=n:=auOm
   rw[this];exact hy
def Qz1{ok:Nat->Prop}{hp:Nat->Option Obj}{α:Type}{c:α->List D}{k:Nat}(O: ∀y,(c y).length=k): ∀(l:List α) (L:LVa),(∀i y,l[i]? =some y->rdp ok hp (c y) (L.drop (i*k)))->rdr ok hp k (l.map c) L
 |[],L,_=>trivial
 |y::r,L,h=>by
  refine⟨O y,?_,Qz1 O r (L.drop k) (λi z Q=> ?_)⟩
  .have:=h 0 y rfl
   rwa [Mu,Mv] at this
  .have:=h (i+1) z Q
   rwa [FW,show k+i*k=(i+1)*k by rw[HQ,Pl,YD]]
def Qy9{a:Addr}{k:Nat}{cs:LVa}(hk:0<k)(h:W.cells? 0 a k=some cs):a.spot=none/\ ∃vs T fr,W.heap[a.block]? =some (.cells vs T fr)/\ ∃r,vs.toList.drop a.off=cs++r/\cs.length=k:=by
 unfold World.cells? at h;rw[Bt (Ir _)] at h;have hl:=mapM_some_length h;rw[Ro] at hl;have hg: ∀i,i<k->W.cell? (a.add i)=cs[i]? :=λi Z=>mapM_some_get h i i (by rw[ER Z])
 have h0:=hg 0 hk;rw[Bk auOm] at h0;have Q:a.spot=none:=by
  cases hs:a.spot with
  |none=>rfl
  |some s=>
   exfalso
   have:(a.add 0).spot.isSome=true:=by
    unfold Addr.add
    split<;>simp_all
   unfold World.cell? at h0;split at h0
   .rw[Bt this] at h0;cases h0
   .cases h0
 refine⟨Q,?_⟩;obtain⟨b,off,sp⟩:=a;simp only at Q;subst Q;have z: ∀i,(⟨b,off,none⟩:Addr).add i=⟨b,off+i,none⟩:=λi=>OX b off i
 rw[z] at h0;unfold World.cell? at h0;simp only at h0;split at h0
 .rename_i vs T fr hb;simp only[rD,BL,HS] at h0;refine⟨vs,T,fr,hb,(vs.toList.drop off).drop k,?_,hl⟩;have O: ∀i,i<k->vs[off+i]? =cs[i]? :=by
   intro i Z
   have:=hg i Z
   rw[z] at this;simp only[World.cell?,hb,rD,BL,HS] at this;exact this
  apply Rn;intro i;rw[lF,YK];rcases Pi i k with Z|Z
  .rw[Db auOm];exact O i Z
  .rw[D8 auOm,lF,lF,YK];congr 1;show off+i=off+(k+(i - cs.length));omega
 .cases h0
def pX{t e:TypeId}{α:Type}{c:α->List D}{Q:α->Prop}{k:Nat}(ht:P.underlying t=some (.slice e))(hk:P.cellsOf e=k)(ai:0<k)(hb:1<=P.bytesOf e)(hc: ∀y,(c y).length=k)(h:F7 enc P W e c Q):
 F7 enc P W t (λl:List α=>[.sl false k (l.map c)]) (λl=> ∀y∈l,Q y):=by
 intro ay cs x hx hw;rcases DataW.trod_slice ht hx with ⟨rfl,rfl⟩|⟨a,len,cap,Z,ao,m,rfl,rfl,rfl,_,au,_,a0,ac,aa,_⟩
 .exact⟨[],⟨_,_,rfl,.inl ⟨.inl rfl,rfl⟩,rfl⟩,auSi⟩
 obtain⟨a8,aa⟩:=aa rfl;simp only[DataW.weights,ht,E6,L2,B1,CK,Dy] at hw;obtain⟨w1,w2,_⟩:=hw;have aj:len<=KN:=by
  have:=Zeg (Z.length+ao.length) hb
  simp only[reachBytes,KN] at w1⊢;omega
 by_cases ag:cap=0
 .subst ag
  have:len=0:=auOm
  subst this;exact⟨[],⟨_,_,rfl,.inl ⟨.inr ⟨rfl,a,rfl⟩,rfl⟩,rfl⟩,auSi⟩
 have ad: ∀i,i<cap-> ∃cs,W.cells? 0 (a.add (i*k)) k=some cs:=by
  intro i hi;rw[hk] at ac aa;rcases Pi i len with h1|h1
  .have:=ac i h1
   rw[Bk auOm] at this;cases hq:W.cells? 0 (a.add (i*k)) k with
   |none=>rw[hq] at this;cases this
   |some cs=>exact⟨cs,rfl⟩
  .have:=aa (i - len) auOm
   rw[show len+(i - len)=i by omega,Bk auOm] at this;cases hq:W.cells? 0 (a.add (i*k)) k with
   |none=>rw[hq] at this;cases this
   |some cs=>exact⟨cs,rfl⟩
 obtain⟨az,ah⟩:=ad 0 auOm;obtain⟨an,vs,T,fr,O,_⟩:=Qy9 ai ah;have am:a.spot=none:=by
  cases hs:a.spot with
  |none=>rfl
  |some s=>
   exfalso
   have:(a.add (0*k)).spot.isSome=true:=by
    unfold Addr.add
    split<;>simp_all
   rw[an] at this;cases this
 obtain⟨b,off,sp⟩:=a;simp only at am;subst am;have ab: ∀i,(⟨b,off,none⟩:Addr).add i=⟨b,off+i,none⟩:=λi=>OX b off i
 rw[ab] at O;simp only at O;have av: ∀i,i<len-> ∃y:α,rdp (λb=>b<W.heap.size) (λb=>W.heap[b]?) (c y) ((vs.toList.drop off).drop (i*k))/\Q y:=by
  intro i hi;have h1:=ac i hi;rw[hk,Bk auOm] at h1;cases hq:W.cells? 0 ((⟨b,off,none⟩:Addr).add (i*k)) k with
  |none=>rw[hq] at h1;cases h1
  |some ci=>
   rw[hq,E7] at h1;obtain⟨_,ax,T',aq,hh,r,hr,_⟩:=Qy9 ai hq;rw[ab] at hh hr;simp only at hh hr;rw[O] at hh;obtain⟨rfl,rfl,rfl⟩:vs=ax/\T=T'/\fr=aq:=by
    have:=AJ hh
    simp only[Obj.cells.injEq] at this;exact this
   have aw:(Z[i].1.weights P e).all (· <=reachBytes)=true:=by
    rw[CF] at w2⊢;intro n hn;refine w2 n ?_
    have: ∀(l:List (DataW H)) (d:DataW H),d∈l-> ∀n∈d.weights P e,n∈DataW.weightsAll P e l:=by
     intro l;induction l with
     |nil=>intro d hd;cases hd
     |cons z r ih=>
      intro d hd n hn;simp only[DataW.weightsAll,BO];rcases B0.1 hd with rfl|hd
      .exact .inl hn
      .exact .inr (ih d hd n hn)
    exact this _ Z[i].1 (BY.2 ⟨Z[i],Rm _,rfl⟩) n hn
   obtain⟨y,g1,g2⟩:=h m ci Z[i] h1 aw;refine⟨y,?_,g2⟩;rw[FW,hr];exact Qzi _ _ _ g1
 obtain⟨l,hl,ak⟩:=pick (R:=λi y=>rdp (λb=>b<W.heap.size) (λb=>W.heap[b]?) (c y) ((vs.toList.drop off).drop (i*k))/\Q y) len av;have af:b<W.heap.size:=by
  rcases Pi b W.heap.size with h|h
  .exact h
  .rw[eH h] at O;cases O
 refine⟨l,⟨_,_,rfl,.inr ⟨b,off,cap,vs,T,fr,by rw[Dy,hl],auSi,by rw[Dy,hl];exact au,by rw[Dy,hl];exact aj,af,O,Qz1 hc l _ (λi y hy=>(ak i y hy).1)⟩,rfl⟩,λy hy=> ?_⟩;obtain⟨i,hi⟩:=List.getElem?_of_mem hy;exact (ak i y hi).2
def nQ{t:TypeId}{α0:Type}{c0:α0->List D}{Q0:α0->Prop}{O:Field}(ht:P.underlying t=some (.struct #[O]))(o0:O.offset=0)(hn:P.cellsOf t=P.cellsOf O.type)(h0:F7 enc P W O.type c0 Q0):
 F7 enc P W t (λy:α0=>c0 (y)) (λy=>Q0 (y)):=by
 intro aa Q x h hw;obtain⟨xs,m,rfl,rfl,hl,Z,hf⟩:=DataW.trod_struct ht h;have hx: ∀i,i<1-> ∃z,xs[i]? =some z:=λi hi=>⟨_,Bk (by rw[Z];exact hi)⟩
 simp only[DataW.weights,ht] at hw;obtain⟨z0,e0⟩:=hx 0 auDe;obtain⟨y0,r0,q0⟩:=h0 m _ z0 ((hf 0 O rfl).trans e0) (CF.2 λk hk=>CF.1 hw k (DataW.weights_mem_each (j:=0) (t:=O.type) (d:=z0.1) rfl (by rw[Dp,e0];rfl) k hk));rw[o0] at r0;refine⟨(y0),?_,q0⟩;simp only;have e:Q=(Q.drop (0)).take (P.cellsOf O.type):=by
  have ab:Q.length=P.cellsOf O.type:=hl.trans hn;rw[Mv,BE auOm]
 rw[e];exact r0
def qM{t:TypeId}{α0:Type}{c0:α0->List D}{Q0:α0->Prop}{O:Field}{α1:Type}{c1:α1->List D}{Q1:α1->Prop}{Q:Field}(ht:P.underlying t=some (.struct #[O,Q]))(o0:O.offset=0)(o1:Q.offset=P.cellsOf O.type)(hn:P.cellsOf t=P.cellsOf O.type+P.cellsOf Q.type)(h0:F7 enc P W O.type c0 Q0)(h1:F7 enc P W Q.type c1 Q1):
 F7 enc P W t (λy:α0×α1=>c0 (y.1)++(c1 (y.2))) (λy=>Q0 (y.1)/\Q1 (y.2)):=by
 intro ab Z x h hw;obtain⟨xs,m,rfl,rfl,hl,aa,hf⟩:=DataW.trod_struct ht h;have hx: ∀i,i<2-> ∃z,xs[i]? =some z:=λi hi=>⟨_,Bk (by rw[aa];exact hi)⟩
 simp only[DataW.weights,ht] at hw;obtain⟨z0,e0⟩:=hx 0 auDe;obtain⟨y0,r0,q0⟩:=h0 m _ z0 ((hf 0 O rfl).trans e0) (CF.2 λk hk=>CF.1 hw k (DataW.weights_mem_each (j:=0) (t:=O.type) (d:=z0.1) rfl (by rw[Dp,e0];rfl) k hk));rw[o0] at r0;obtain⟨z1,e1⟩:=hx 1 auDe;obtain⟨y1,r1,q1⟩:=h1 m _ z1 ((hf 1 Q rfl).trans e1) (CF.2 λk hk=>CF.1 hw k (DataW.weights_mem_each (j:=1) (t:=Q.type) (d:=z1.1) rfl (by rw[Dp,e1];rfl) k hk));rw[o1] at r1;refine⟨(y0,y1),?_,q0,q1⟩;simp only;have e:Z=(Z.drop (0)).take (P.cellsOf O.type)++((Z.drop (P.cellsOf O.type)).take (P.cellsOf Q.type)):=by
  have ac:Z.length=P.cellsOf O.type+P.cellsOf Q.type:=hl.trans hn;rw[Mv];rw[BE (l:=Z.drop (P.cellsOf O.type)) (by rw[CM];omega)];rw[HT]
 rw[e];exact Qjr _ _ r0 (r1)
def Vp{t:TypeId}{α0:Type}{c0:α0->List D}{Q0:α0->Prop}{O:Field}{α1:Type}{c1:α1->List D}{Q1:α1->Prop}{Q:Field}{α2:Type}{c2:α2->List D}{Q2:α2->Prop}{f2:Field}(ht:P.underlying t=some (.struct #[O,Q,f2]))(o0:O.offset=0)(o1:Q.offset=P.cellsOf O.type)(o2:f2.offset=P.cellsOf O.type+P.cellsOf Q.type)(hn:P.cellsOf t=P.cellsOf O.type+P.cellsOf Q.type+P.cellsOf f2.type)(h0:F7 enc P W O.type c0 Q0)(h1:F7 enc P W Q.type c1 Q1)(h2:F7 enc P W f2.type c2 Q2):
 F7 enc P W t (λy:α0×α1×α2=>c0 (y.1)++(c1 (y.2.1)++(c2 (y.2.2)))) (λy=>Q0 (y.1)/\Q1 (y.2.1)/\Q2 (y.2.2)):=by
 intro ab Z x h hw;obtain⟨xs,m,rfl,rfl,hl,aa,hf⟩:=DataW.trod_struct ht h;have hx: ∀i,i<3-> ∃z,xs[i]? =some z:=λi hi=>⟨_,Bk (by rw[aa];exact hi)⟩
 simp only[DataW.weights,ht] at hw;obtain⟨z0,e0⟩:=hx 0 auDe;obtain⟨y0,r0,q0⟩:=h0 m _ z0 ((hf 0 O rfl).trans e0) (CF.2 λk hk=>CF.1 hw k (DataW.weights_mem_each (j:=0) (t:=O.type) (d:=z0.1) rfl (by rw[Dp,e0];rfl) k hk));rw[o0] at r0;obtain⟨z1,e1⟩:=hx 1 auDe;obtain⟨y1,r1,q1⟩:=h1 m _ z1 ((hf 1 Q rfl).trans e1) (CF.2 λk hk=>CF.1 hw k (DataW.weights_mem_each (j:=1) (t:=Q.type) (d:=z1.1) rfl (by rw[Dp,e1];rfl) k hk));rw[o1] at r1;obtain⟨z2,e2⟩:=hx 2 auDe;obtain⟨y2,r2,q2⟩:=h2 m _ z2 ((hf 2 f2 rfl).trans e2) (CF.2 λk hk=>CF.1 hw k (DataW.weights_mem_each (j:=2) (t:=f2.type) (d:=z2.1) rfl (by rw[Dp,e2];rfl) k hk));rw[o2] at r2;refine⟨(y0,y1,y2),?_,q0,q1,q2⟩;simp only;have e:Z=(Z.drop (0)).take (P.cellsOf O.type)++((Z.drop (P.cellsOf O.type)).take (P.cellsOf Q.type)++((Z.drop (P.cellsOf O.type+P.cellsOf Q.type)).take (P.cellsOf f2.type))):=by
  have ac:Z.length=P.cellsOf O.type+P.cellsOf Q.type+P.cellsOf f2.type:=hl.trans hn;rw[Mv];rw[BE (l:=Z.drop (P.cellsOf O.type+P.cellsOf Q.type)) (by rw[CM];omega)];rw[show Z.drop (P.cellsOf O.type+P.cellsOf Q.type)=(Z.drop (P.cellsOf O.type)).drop (P.cellsOf Q.type) by rw[FW],HT];rw[HT]
 rw[e];exact Qjr _ _ r0 (Qjr _ _ r1 (r2))
end
section
variable {H:Type}{enc:TypeId×Value->H}{W:World}
def nO:F7 enc Tryz.prog W 173 AR.c (λ_=>True):=
 (qM Tryz.underlying173 rfl (by kernel_rfl) (by kernel_rfl) (Yw Tryz.underlying2) (Yw Tryz.underlying2)).to (λy=>(⟨y.1,y.2⟩:AR)) (λ_=>rfl) (λ_ _=>trivial)
def aN:F7 enc Tryz.prog W 175 AA.c (λ_=>True):=
 (qM Tryz.underlying175 rfl (by kernel_rfl) (by kernel_rfl) nO (Yw Tryz.underlying2)).to (λy=>(⟨y.1,y.2⟩:AA)) (λ_=>rfl) (λ_ _=>trivial)
def rGlue:F7 enc Tryz.prog W 147 Ac.c (λg=>g.Name.size<=140737488355328):=
 (qM Tryz.underlying147 rfl (by kernel_rfl) (by kernel_rfl) (NP Tryz.underlying9) (Yw Tryz.underlying2)).to (λy=>(⟨y.1,y.2⟩:Ac)) (λ_=>rfl) (λ_ h=>h.1)
def Vg:F7 enc Tryz.prog W 35 (λl:Cz=>[.sl false 1 (l.map Aj)]) (λl=> ∀y∈l,True):=
 pX (c:=Aj) Tryz.underlying35 (by kernel_rfl) auDe (by decide+kernel) (λ_=>rfl) (Yw Tryz.underlying2)
def rTile:F7 enc Tryz.prog W 150 Tile.c (λg=>g.Name.size<=140737488355328):=
 (qM Tryz.underlying150 rfl (by kernel_rfl) (by kernel_rfl) (NP Tryz.underlying9) Vg).to (λy=>(⟨y.1,y.2⟩:Tile)) (λ_=>rfl) (λ_ h=>h.1)
def nL:F7 enc Tryz.prog W 22 (λl:List Ac=>[.sl false 2 (l.map Ac.c)]) (λl=> ∀y∈l,y.Name.size<=140737488355328):=
 pX Tryz.underlying22 (by kernel_rfl) auDe (by decide+kernel) (λ_=>rfl) rGlue
def nP:F7 enc Tryz.prog W 23 (λl:List Tile=>[.sl false 2 (l.map Tile.c)]) (λl=> ∀y∈l,y.Name.size<=140737488355328):=
 pX Tryz.underlying23 (by kernel_rfl) auDe (by decide+kernel) (λ_=>rfl) rTile
def Vh:F7 enc Tryz.prog W 26 (λl:List AA=>[.sl false 3 (l.map AA.c)]) (λl=> ∀y∈l,True):=
 pX Tryz.underlying26 (by kernel_rfl) auDe (by decide+kernel) (λ_=>rfl) aN
def rSet:F7 enc Tryz.prog W 25 AI.c PT:=
 (qM Tryz.underlying25 rfl (by kernel_rfl) (by kernel_rfl) nL nP).to (λy=>(⟨y.1,y.2⟩:AI)) (λ_=>rfl) (λ_ h=>h)
def rAsm:F7 enc Tryz.prog W 28 AP.c (λ_=>True):=
 (nQ Tryz.underlying28 rfl (by kernel_rfl) Vh).to (λy=>(⟨y⟩:AP)) (λ_=>rfl) (λ_ _=>trivial)
def rSys:F7 enc Tryz.prog W 30 AM.c (λs=>PT s.Set):=
 (Vp Tryz.underlying30 rfl (by kernel_rfl) (by kernel_rfl) (by kernel_rfl) rSet rAsm (Yw Tryz.underlying2)).to (λy=>(⟨y.1,y.2.1,y.2.2⟩:AM)) (λ_=>rfl) (λ_ h=>h.1)
end
end Go.Ae
namespace Go.Ae
open Go Go.Proofs Go.RowKit
def zW(W:World):AD:=⟨λ_=>none,λb=>b<W.heap.size,λ_=>none,W⟩
def zI(W:World):Bn:=Bn.mk0 W (λ_=>False) (λb=>b<W.heap.size)
def wf0(W:World)(hg:GP (λb=>b<W.heap.size) (λb=>W.heap[b]?)):Wf (zI W) (zW W):=
 ⟨rfl,rfl,rfl,BN _,BN _,λ_ _ _=>rfl,λ_ h=>h,λ_ h=> .inl h,λ_ h=>h,λo e h=>(by cases h),λo e l h=>(by cases h),λo o' e e' l l' h=>(by cases h),hg.mono λ_ _ z O=>⟨⟨z,λh=>h.elim⟩,O⟩⟩
def SP{P:Program}{g:FuncId}{row:A8}(Z:Ij P g row){W:World}(hg:GP (λb=>b<W.heap.size) (λb=>W.heap[b]?)){args:Array Value}{ds:List D}(Q:row (ds.map .im) (λ_=>none) 0 (λr _=>r= .im (.bool true)))
 (O:rdl (λb=>b<W.heap.size) (λb=>W.heap[b]?) ds args.toList):Calls P g args W λe W'=>e= .returned (.bool true)/\Below W.heap.size W W':=by
 obtain⟨_,r,E,hT,rfl⟩:=Z _ _ _ _ Q;refine hT (zI W) (zW W) args _ (wf0 W hg) (λ_ _=>rfl) (λ_ _=>rfl) (λn e h=>(by cases h)) ((Js _ _).2 O) ?_;intro v S' z _ _ hc;simp only[Ab,rd] at hc;subst hc;exact⟨rfl,z.os,z.tape,z.output,z.size,λk hk=>z.keep k hk (λh=>h)⟩
end Go.Ae
