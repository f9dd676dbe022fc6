/- Lemmas. Conditions: none. -/
import Derived.Test.YtogafbdeamcpnaaGreatDoorP07
import Derived.ProofKit
import Derived.SizedLaws
import Derived.OpenShut
import Derived.Test.YtogafbdeamcpnaaGreatDoorRows
import Derived.Carry
import Derived.WalkKit
set_option linter.all false
set_option maxHeartbeats 8000000
set_option maxRecDepth 100000
namespace Go.Ae
open Go Go.Proofs
section
variable {H:Type}{enc:TypeId×Value->H}{P:Program}{W:World}
def Rds{H:Type}(enc:TypeId×Value->H)(P:Program)(W:World)(t:TypeId){α:Type}(c:α->List D)(Q:α->Prop):Prop:=
 ∀(fuel:Nat) (cs:List Value) (x:DataW H×List MemPlace),DataW.trod enc P W 0 (λ_=>true) true fuel t cs=some x->(x.1.weights P t).all (· <=reachBytes)=true->
  ∃y:α,rdl (λb=>b<W.heap.size) (λb=>W.heap[b]?) (c y) cs/\Q y
def Rds.to{t:TypeId}{α β:Type}{c:α->List D}{Q:α->Prop}{c':β->List D}{Q':β->Prop}(h:Rds enc P W t c Q)(f:α->β)(hc: ∀y,c' (f y)=c y)(hQ: ∀y,Q y->Q' (f y)):Rds enc P W t c' Q':=by
 intro z G x O Z;obtain⟨y,g1,g2⟩:=h z G x O Z;exact⟨f y,by rw[hc];exact g1,hQ y g2⟩
def Mc{t:TypeId}(G:P.underlying t=some (.int .i64)):Rds enc P W t (λn:Int=>[.int .i64 n]) (λ_=>True):=by
 intro z O x h _;obtain⟨n,rfl,_,_⟩:=DataW.trod_int G h;exact⟨n,⟨_,_,rfl,rfl,rfl⟩,trivial⟩
def rds_str{t:TypeId}(Q:P.underlying t=some .string):Rds enc P W t (λs:z=>[.str s]) (λs=>s.size<=140737488355328):=by
 intro G cs x h Z;obtain⟨s,rfl,rfl,_⟩:=DataW.trod_string Q h;refine⟨s,⟨_,_,rfl,rfl,rfl⟩,?_⟩;have O:=BE.1 Z s.data.toList.length (by simp[DataW.weights]);rw[AP,Cm] at O;have h2:s.data.size=s.size:=rfl;have h3:reachBytes<=140737488355328:=by decide
 omega
def Qh{ok:Nat->Prop}{hp:Nat->Option Obj}: ∀(a:List D) (x:List Value) {b:List D} {y:List Value},rdl ok hp a x->rdl ok hp b y->rdl ok hp (a++b) (x++y)
 |[],x,b,y,z,G=>by
  simp only[rdl] at z;subst z;exact G
 |d::a,x,b,y,z,G=>by
  simp only[rdl] at z;obtain⟨v,r,rfl,O,Q⟩:=z;exact⟨v,r++y,rfl,O,Qh a r Q G⟩
def XG{ok:Nat->Prop}{hp:Nat->Option Obj}: ∀(a:List D) (x:List Value) (y:List Value),rdl ok hp a x->rdp ok hp a (x++y)
 |[],x,y,z=>trivial
 |d::a,x,y,z=>by
  simp only[rdl] at z;obtain⟨v,r,rfl,G,O⟩:=z;exact⟨v,r++y,rfl,G,XG a r y O⟩
def pick{α:Type}{R:Nat->α->Prop}: ∀(n:Nat),(∀i,i<n-> ∃y,R i y)-> ∃l:List α,l.length=n/\ ∀i y,l[i]? =some y->R i y
 |0,_=>⟨[],rfl,λi y h=>by simp at h⟩
 |n+1,h=>by
  obtain⟨l,Q,Z⟩:=pick n (λi O=>h i (by omega));obtain⟨y,hy⟩:=h n (by omega);refine⟨l++[y],by simp[Q],λi z G=> ?_⟩;rcases Cz i n with O|O
  .rw[Ci (by omega)] at G;exact Z i z G
  .rw[C8 (by omega)] at G
   have:i - l.length=0:=by
    rcases M7 (i - l.length) with h0|h0
    .exact h0
    .rw[CH (by simp;omega)] at G;cases G
   rw[this] at G;obtain rfl:=Al G
   have:i=n:=by omega
   rw[this];exact hy
def X5{ok:Nat->Prop}{hp:Nat->Option Obj}{α:Type}{c:α->List D}{k:Nat}(hc: ∀y,(c y).length=k): ∀(l:List α) (L:List Value),(∀i y,l[i]? =some y->rdp ok hp (c y) (L.drop (i*k)))->rdr ok hp k (l.map c) L
 |[],L,_=>trivial
 |y::r,L,h=>by
  refine⟨hc y,?_,X5 hc r (L.drop k) (λi z G=> ?_)⟩
  .have:=h 0 y rfl
   rwa [L6,D9] at this
  .have:=h (i+1) z G
   rwa [Cj,show k+i*k=(i+1)*k by rw[C9,Ew,PG]]
def X1{a:Addr}{k:Nat}{cs:List Value}(hk:0<k)(h:W.cells? 0 a k=some cs):a.spot=none/\ ∃Z T fr,W.heap[a.block]? =some (.cells Z T fr)/\ ∃r,Z.toList.drop a.off=cs++r/\cs.length=k:=by
 unfold World.cells? at h;rw[Af (Bj _)] at h;have hl:=mapM_some_length h;rw[J8] at hl;have hg: ∀i,i<k->W.cell? (a.add i)=cs[i]? :=λi Q=>mapM_some_get h i i (by rw[Ee Q])
 have h0:=hg 0 hk;rw[A8 (by omega)] at h0;have O:a.spot=none:=by
  cases hs:a.spot with
  |none=>rfl
  |some s=>
   exfalso
   have:(a.add 0).spot.isSome=true:=by
    unfold Addr.add
    split<;>simp_all
   unfold World.cell? at h0;split at h0
   .rw[Af this] at h0;cases h0
   .cases h0
 refine⟨O,?_⟩;obtain⟨b,off,sp⟩:=a;simp only at O;subst O;have z: ∀i,(⟨b,off,none⟩:Addr).add i=⟨b,off+i,none⟩:=λi=>Gk b off i
 rw[z] at h0;unfold World.cell? at h0;simp only at h0;split at h0
 .rename_i Z T fr hb;simp only[J6,B1,Bp] at h0;refine⟨Z,T,fr,hb,(Z.toList.drop off).drop k,?_,hl⟩;have G: ∀i,i<k->Z[off+i]? =cs[i]? :=by
   intro i Q
   have:=hg i Q
   rw[z] at this;simp only[World.cell?,hb,J6,B1,Bp] at this;exact this
  apply EY;intro i;rw[Eg,Dx];rcases Cz i k with Q|Q
  .rw[Ci (by omega)];exact G i Q
  .rw[C8 (by omega),Eg,Eg,Dx];congr 1;show off+i=off+(k+(i - cs.length));omega
 .cases h0
def Qm{t e:TypeId}{α:Type}{c:α->List D}{Q:α->Prop}{k:Nat}(ht:P.underlying t=some (.slice e))(hk:P.cellsOf e=k)(ai:0<k)(hb:1<=P.bytesOf e)(hc: ∀y,(c y).length=k)(h:Rds enc P W e c Q):
 Rds enc P W t (λl:List α=>[.sl false k (l.map c)]) (λl=> ∀y∈l,Q y):=by
 intro ax cs x hx hw;rcases O.trod_slice ht hx with ⟨rfl,rfl⟩|⟨a,len,cap,Z,ao,m,rfl,rfl,rfl,_,as,_,az,ac,aa,_⟩
 .exact⟨[],⟨_,_,rfl,.inl ⟨.inl rfl,rfl⟩,rfl⟩,by simp⟩
 obtain⟨a0,aa⟩:=aa rfl;simp only[O.weights,ht,Fx,P7,Av,AP,Dz] at hw;obtain⟨w1,w2,_⟩:=hw;have aj:len<=LIM:=by
  have:=Nat.mul_le_mul_left (Z.length+ao.length) hb
  simp only[reachBytes,LIM] at w1⊢;omega
 by_cases ag:cap=0
 .subst ag
  have:len=0:=by omega
  subst this;exact⟨[],⟨_,_,rfl,.inl ⟨.inr ⟨rfl,a,rfl⟩,rfl⟩,rfl⟩,by simp⟩
 have ad: ∀i,i<cap-> ∃cs,W.cells? 0 (a.add (i*k)) k=some cs:=by
  intro i hi;rw[hk] at ac aa;rcases Cz i len with h1|h1
  .have:=ac i h1
   rw[A8 (by omega)] at this;cases hq:W.cells? 0 (a.add (i*k)) k with
   |none=>rw[hq] at this;cases this
   |some cs=>exact⟨cs,rfl⟩
  .have:=aa (i - len) (by omega)
   rw[show len+(i - len)=i by omega,A8 (by omega)] at this;cases hq:W.cells? 0 (a.add (i*k)) k with
   |none=>rw[hq] at this;cases this
   |some cs=>exact⟨cs,rfl⟩
 obtain⟨ay,ah⟩:=ad 0 (by omega);obtain⟨an,vs,T,fr,G,_⟩:=X1 ai ah;have am:a.spot=none:=by
  cases hs:a.spot with
  |none=>rfl
  |some s=>
   exfalso
   have:(a.add (0*k)).spot.isSome=true:=by
    unfold Addr.add
    split<;>simp_all
   rw[an] at this;cases this
 obtain⟨b,off,sp⟩:=a;simp only at am;subst am;have ab: ∀i,(⟨b,off,none⟩:Addr).add i=⟨b,off+i,none⟩:=λi=>Gk b off i
 rw[ab] at G;simp only at G;have au: ∀i,i<len-> ∃y:α,rdp (λb=>b<W.heap.size) (λb=>W.heap[b]?) (c y) ((vs.toList.drop off).drop (i*k))/\Q y:=by
  intro i hi;have h1:=ac i hi;rw[hk,A8 (by omega)] at h1;cases hq:W.cells? 0 ((⟨b,off,none⟩:Addr).add (i*k)) k with
  |none=>rw[hq] at h1;cases h1
  |some ci=>
   rw[hq,Ce] at h1;obtain⟨_,aw,T',aq,hh,r,hr,_⟩:=X1 ai hq;rw[ab] at hh hr;simp only at hh hr;rw[G] at hh;obtain⟨rfl,rfl,rfl⟩:vs=aw/\T=T'/\fr=aq:=by
    have:=Al hh
    simp only[Obj.cells.injEq] at this;exact this
   have av:(Z[i].1.weights P e).all (· <=reachBytes)=true:=by
    rw[BE] at w2⊢;intro n hn;refine w2 n ?_
    have: ∀(l:List (O H)) (d:O H),d∈l-> ∀n∈d.weights P e,n∈O.weightsAll P e l:=by
     intro l;induction l with
     |nil=>intro d hd;cases hd
     |cons z r ih=>
      intro d hd n hn;simp only[O.weightsAll,AG];rcases A9.1 hd with rfl|hd
      .exact .inl hn
      .exact .inr (ih d hd n hn)
    exact this _ Z[i].1 (AF.2 ⟨Z[i],Hk _,rfl⟩) n hn
   obtain⟨y,g1,g2⟩:=h m ci Z[i] h1 av;refine⟨y,?_,g2⟩;rw[Cj,hr];exact XG _ _ _ g1
 obtain⟨l,hl,ak⟩:=pick (R:=λi y=>rdp (λb=>b<W.heap.size) (λb=>W.heap[b]?) (c y) ((vs.toList.drop off).drop (i*k))/\Q y) len au;have af:b<W.heap.size:=by
  rcases Cz b W.heap.size with h|h
  .exact h
  .rw[IT h] at G;cases G
 refine⟨l,⟨_,_,rfl,.inr ⟨b,off,cap,vs,T,fr,by rw[Dz,hl],by simp,by rw[Dz,hl];exact as,by rw[Dz,hl];exact aj,af,G,X5 hc l _ (λi y hy=>(ak i y hy).1)⟩,rfl⟩,λy hy=> ?_⟩;obtain⟨i,hi⟩:=List.getElem?_of_mem hy;exact (ak i y hi).2
def rds_s1{t:TypeId}{α0:Type}{c0:α0->List D}{Z:α0->Prop}{G:Field}(ht:P.underlying t=some (.struct #[G]))(o0:G.offset=0)(hn:P.cellsOf t=P.cellsOf G.type)(h0:Rds enc P W G.type c0 Z):
 Rds enc P W t (λy:α0=>c0 (y)) (λy=>Z (y)):=by
 intro aa O x h hw;obtain⟨xs,m,rfl,rfl,hl,Q,hf⟩:=DataW.trod_struct ht h;have hx: ∀i,i<1-> ∃z,xs[i]? =some z:=λi hi=>⟨_,A8 (by rw[Q];exact hi)⟩
 simp only[DataW.weights,ht] at hw;obtain⟨z0,e0⟩:=hx 0 (by decide);obtain⟨y0,r0,q0⟩:=h0 m _ z0 ((hf 0 G rfl).trans e0) (BE.2 λk hk=>BE.1 hw k (DataW.weights_mem_each (j:=0) (t:=G.type) (d:=z0.1) rfl (by rw[BI,e0];rfl) k hk));rw[o0] at r0;refine⟨(y0),?_,q0⟩;simp only;have e:O=(O.drop (0)).take (P.cellsOf G.type):=by
  have ab:O.length=P.cellsOf G.type:=hl.trans hn;rw[D9,BX (by omega)]
 rw[e];exact r0
def Pj{t:TypeId}{α0:Type}{c0:α0->List D}{Q0:α0->Prop}{G:Field}{α1:Type}{c1:α1->List D}{Q1:α1->Prop}{O:Field}(ht:P.underlying t=some (.struct #[G,O]))(o0:G.offset=0)(o1:O.offset=P.cellsOf G.type)(hn:P.cellsOf t=P.cellsOf G.type+P.cellsOf O.type)(h0:Rds enc P W G.type c0 Q0)(h1:Rds enc P W O.type c1 Q1):
 Rds enc P W t (λy:α0×α1=>c0 (y.1)++(c1 (y.2))) (λy=>Q0 (y.1)/\Q1 (y.2)):=by
 intro ab Q x h hw;obtain⟨xs,m,rfl,rfl,hl,aa,hf⟩:=DataW.trod_struct ht h;have hx: ∀i,i<2-> ∃z,xs[i]? =some z:=λi hi=>⟨_,A8 (by rw[aa];exact hi)⟩
 simp only[DataW.weights,ht] at hw;obtain⟨z0,e0⟩:=hx 0 (by decide);obtain⟨y0,r0,q0⟩:=h0 m _ z0 ((hf 0 G rfl).trans e0) (BE.2 λk Z=>BE.1 hw k (DataW.weights_mem_each (j:=0) (t:=G.type) (d:=z0.1) rfl (by rw[BI,e0];rfl) k Z));rw[o0] at r0;obtain⟨z1,e1⟩:=hx 1 (by decide);obtain⟨y1,r1,q1⟩:=h1 m _ z1 ((hf 1 O rfl).trans e1) (BE.2 λk Z=>BE.1 hw k (DataW.weights_mem_each (j:=1) (t:=O.type) (d:=z1.1) rfl (by rw[BI,e1];rfl) k Z));rw[o1] at r1;refine⟨(y0,y1),?_,q0,q1⟩;simp only;have e:Q=(Q.drop (0)).take (P.cellsOf G.type)++((Q.drop (P.cellsOf G.type)).take (P.cellsOf O.type)):=by
  have ac:Q.length=P.cellsOf G.type+P.cellsOf O.type:=hl.trans hn;rw[D9];rw[BX (l:=Q.drop (P.cellsOf G.type)) (by rw[Bn];omega)];rw[Gc]
 rw[e];exact Qh _ _ r0 (r1)
def rds_s3{t:TypeId}{α0:Type}{c0:α0->List D}{Q0:α0->Prop}{G:Field}{α1:Type}{c1:α1->List D}{Q1:α1->Prop}{O:Field}{α2:Type}{c2:α2->List D}{Q2:α2->Prop}{Z:Field}(ht:P.underlying t=some (.struct #[G,O,Z]))(o0:G.offset=0)(o1:O.offset=P.cellsOf G.type)(o2:Z.offset=P.cellsOf G.type+P.cellsOf O.type)(hn:P.cellsOf t=P.cellsOf G.type+P.cellsOf O.type+P.cellsOf Z.type)(h0:Rds enc P W G.type c0 Q0)(h1:Rds enc P W O.type c1 Q1)(h2:Rds enc P W Z.type c2 Q2):
 Rds enc P W t (λy:α0×α1×α2=>c0 (y.1)++(c1 (y.2.1)++(c2 (y.2.2)))) (λy=>Q0 (y.1)/\Q1 (y.2.1)/\Q2 (y.2.2)):=by
 intro ab Q x h hw;obtain⟨xs,m,rfl,rfl,hl,aa,hf⟩:=DataW.trod_struct ht h;have hx: ∀i,i<3-> ∃z,xs[i]? =some z:=λi hi=>⟨_,A8 (by rw[aa];exact hi)⟩
 simp only[DataW.weights,ht] at hw;obtain⟨z0,e0⟩:=hx 0 (by decide);obtain⟨y0,r0,q0⟩:=h0 m _ z0 ((hf 0 G rfl).trans e0) (BE.2 λk hk=>BE.1 hw k (DataW.weights_mem_each (j:=0) (t:=G.type) (d:=z0.1) rfl (by rw[BI,e0];rfl) k hk));rw[o0] at r0;obtain⟨z1,e1⟩:=hx 1 (by decide);obtain⟨y1,r1,q1⟩:=h1 m _ z1 ((hf 1 O rfl).trans e1) (BE.2 λk hk=>BE.1 hw k (DataW.weights_mem_each (j:=1) (t:=O.type) (d:=z1.1) rfl (by rw[BI,e1];rfl) k hk));rw[o1] at r1;obtain⟨z2,e2⟩:=hx 2 (by decide);obtain⟨y2,r2,q2⟩:=h2 m _ z2 ((hf 2 Z rfl).trans e2) (BE.2 λk hk=>BE.1 hw k (DataW.weights_mem_each (j:=2) (t:=Z.type) (d:=z2.1) rfl (by rw[BI,e2];rfl) k hk));rw[o2] at r2;refine⟨(y0,y1,y2),?_,q0,q1,q2⟩;simp only;have e:Q=(Q.drop (0)).take (P.cellsOf G.type)++((Q.drop (P.cellsOf G.type)).take (P.cellsOf O.type)++((Q.drop (P.cellsOf G.type+P.cellsOf O.type)).take (P.cellsOf Z.type))):=by
  have ac:Q.length=P.cellsOf G.type+P.cellsOf O.type+P.cellsOf Z.type:=hl.trans hn;rw[D9];rw[BX (l:=Q.drop (P.cellsOf G.type+P.cellsOf O.type)) (by rw[Bn];omega)];rw[show Q.drop (P.cellsOf G.type+P.cellsOf O.type)=(Q.drop (P.cellsOf G.type)).drop (P.cellsOf O.type) by rw[Cj],Gc];rw[Gc]
 rw[e];exact Qh _ _ r0 (Qh _ _ r1 (r2))
end
section
variable {H:Type}{enc:TypeId×Value->H}{W:World}
def rPoint:Rds enc Tryz.prog W 98 Aa.c (λ_=>True):=
 (Pj Tryz.underlying98 rfl (by kernel_rfl) (by kernel_rfl) (Mc Tryz.underlying2) (Mc Tryz.underlying2)).to (λy=>(⟨y.1,y.2⟩:Aa)) (λ_=>rfl) (λ_ _=>trivial)
def rPlaced:Rds enc Tryz.prog W 147 Ad.c (λ_=>True):=
 (Pj Tryz.underlying147 rfl (by kernel_rfl) (by kernel_rfl) rPoint (Mc Tryz.underlying2)).to (λy=>(⟨y.1,y.2⟩:Ad)) (λ_=>rfl) (λ_ _=>trivial)
def rGlue:Rds enc Tryz.prog W 198 Glue.c (λg=>g.Name.size<=140737488355328):=
 (Pj Tryz.underlying198 rfl (by kernel_rfl) (by kernel_rfl) (rds_str Tryz.underlying9) (Mc Tryz.underlying2)).to (λy=>(⟨y.1,y.2⟩:Glue)) (λ_=>rfl) (λ_ h=>h.1)
def rInts:Rds enc Tryz.prog W 32 (λl:List Int=>[.sl false 1 (l.map intC)]) (λl=> ∀y∈l,True):=
 Qm (c:=intC) Tryz.underlying32 (by kernel_rfl) (by decide) (by decide+kernel) (λ_=>rfl) (Mc Tryz.underlying2)
def rTile:Rds enc Tryz.prog W 201 Tile.c (λg=>g.Name.size<=140737488355328):=
 (Pj Tryz.underlying201 rfl (by kernel_rfl) (by kernel_rfl) (rds_str Tryz.underlying9) rInts).to (λy=>(⟨y.1,y.2⟩:Tile)) (λ_=>rfl) (λ_ h=>h.1)
def rGlues:Rds enc Tryz.prog W 22 (λl:List Glue=>[.sl false 2 (l.map Glue.c)]) (λl=> ∀y∈l,y.Name.size<=140737488355328):=
 Qm Tryz.underlying22 (by kernel_rfl) (by decide) (by decide+kernel) (λ_=>rfl) rGlue
def rTiles:Rds enc Tryz.prog W 23 (λl:List Tile=>[.sl false 2 (l.map Tile.c)]) (λl=> ∀y∈l,y.Name.size<=140737488355328):=
 Qm Tryz.underlying23 (by kernel_rfl) (by decide) (by decide+kernel) (λ_=>rfl) rTile
def rPlaceds:Rds enc Tryz.prog W 26 (λl:List Ad=>[.sl false 3 (l.map Ad.c)]) (λl=> ∀y∈l,True):=
 Qm Tryz.underlying26 (by kernel_rfl) (by decide) (by decide+kernel) (λ_=>rfl) rPlaced
def rSet:Rds enc Tryz.prog W 25 Aj.c nmOk:=
 (Pj Tryz.underlying25 rfl (by kernel_rfl) (by kernel_rfl) rGlues rTiles).to (λy=>(⟨y.1,y.2⟩:Aj)) (λ_=>rfl) (λ_ h=>h)
def rAsm:Rds enc Tryz.prog W 28 Asm.c (λ_=>True):=
 (rds_s1 Tryz.underlying28 rfl (by kernel_rfl) rPlaceds).to (λy=>(⟨y⟩:Asm)) (λ_=>rfl) (λ_ _=>trivial)
def rSys:Rds enc Tryz.prog W 30 Ah.c (λs=>nmOk s.Set):=
 (rds_s3 Tryz.underlying30 rfl (by kernel_rfl) (by kernel_rfl) (by kernel_rfl) rSet rAsm (Mc Tryz.underlying2)).to (λy=>(⟨y.1,y.2.1,y.2.2⟩:Ah)) (λ_=>rfl) (λ_ h=>h.1)
end
end Go.Ae
namespace Go.Ae
open Go Go.Proofs Go.RowKit
def env0(W:World):Env:=⟨λ_=>none,λb=>b<W.heap.size,λ_=>none,W⟩
def ctx0(W:World):Ctx:=Ctx.mk0 W (λ_=>False) (λb=>b<W.heap.size)
def wf0(W:World)(z:GP (λb=>b<W.heap.size) (λb=>W.heap[b]?)):Wf (ctx0 W) (env0 W):=
 ⟨rfl,rfl,rfl,Ar _,λ_ _ _=>rfl,λ_ h=>h,λ_ h=> .inl h,λ_ h=>h,λo e h=>(by cases h),λo e l h=>(by cases h),λo o' e e' l l' h=>(by cases h),z.mono λ_ _ hb G=>⟨⟨hb,λh=>h.elim⟩,G⟩⟩
def call_law{P:Program}{g:FuncId}{row:Row}(Q:Ak P g row){W:World}(hg:GP (λb=>b<W.heap.size) (λb=>W.heap[b]?)){args:Array Value}{ds:List D}(O:row (ds.map .im) (λ_=>none) 0 (λr _=>r= .im (.bool true)))
 (G:rdl (λb=>b<W.heap.size) (λb=>W.heap[b]?) ds args.toList):Calls P g args W λe W'=>e= .returned (.bool true)/\Below W.heap.size W W':=by
 obtain⟨_,r,E,Z,rfl⟩:=Q _ _ _ _ O;refine Z (ctx0 W) (env0 W) args _ (wf0 W hg) (λ_ _=>rfl) (λ_ _=>rfl) (λn e h=>(by cases h)) ((Eh _ _).2 G) ?_;intro v S' z _ _ hc;simp only[conc,rd] at hc;subst hc;exact⟨rfl,z.os,z.tape,z.output,z.size,λk hk=>z.keep k hk (λh=>h)⟩
end Go.Ae
namespace Go.Ae
mutual
def scV:AV->Bool
 | .im d=>d.sc
 | .own _=>true
 | .agg z=>scVL z
 | .tup z=>scVL z
 | .any| .ptr _ _| .eptr _ _ _| .mp _| .ch _| .it _| .osl _ _ _| .clo _ _ _=>false
def scVL:List AV->Bool
 |[]=>true
 |x::r=>scV x && scVL r
end
def scO:AObj->Bool
 | .arr _ _ rows=>rows.all λr=>r.all D.sc
 | .arrA _ _ rows=>rows.all scVL
 | .cells _ z=>scVL z
 | .map _ _| .chan _ _| .iter _ _| .view _=>false
def CQ{m:Nat}: ∀{rows:List (List AV)},m∈nmsR rows↔ ∃r∈rows,m∈nmsL r
 |[]=>by simp[nmsR]
 |r::z=>by simp[nmsR,CQ (rows:=z)]
section
variable {S1 S':Env}{F:Nat->Prop}
mutual
def JX(Q: ∀n,F n->S'.h n=S1.h n)(Z: ∀n,F n->S'.ρ n=S1.ρ n): ∀(x:AV) (v:Value),scV x=true->(∀m∈x.nms,F m)->conc S1 x v->conc S' x v
 | .im d,v,z,_,hc=>by
   simp only[conc] at hc⊢;exact rd_sc (by simpa[scV] using z) hc
 | .own o,v,_,G,hc=>by
   simp only[conc] at hc⊢;have h0:F o:=G o (by simp[AV.nms]);rw[Q o h0,Z o h0];exact hc
 | .agg O,v,z,G,hc=>by
   simp only[conc] at hc⊢;obtain⟨vs,rfl,h⟩:=hc;exact⟨vs,rfl,HR Q Z O _ (by simpa[scV] using z) (by simpa[AV.nms] using G) h⟩
 | .tup O,v,z,G,hc=>by
   simp only[conc] at hc⊢;obtain⟨vs,rfl,h⟩:=hc;exact⟨vs,rfl,HR Q Z O _ (by simpa[scV] using z) (by simpa[AV.nms] using G) h⟩
 | .any,_,z,_,_| .ptr _ _,_,z,_,_| .eptr _ _ _,_,z,_,_| .mp _,_,z,_,_| .ch _,_,z,_,_| .it _,_,z,_,_| .osl _ _ _,_,z,_,_| .clo _ _ _,_,z,_,_=>by simp[scV] at z
def HR(G: ∀n,F n->S'.h n=S1.h n)(Q: ∀n,F n->S'.ρ n=S1.ρ n): ∀(xs:List AV) (vs:List Value),scVL xs=true->(∀m∈nmsL xs,F m)->Ap S1 xs vs->Ap S' xs vs
 |[],vs,_,_,hc=>by simpa only[Ap] using hc
 |x::r,vs,z,O,hc=>by
  simp only[Ap] at hc⊢;obtain⟨v,q,rfl,Z,h2⟩:=hc;simp only[scVL,Av] at z;exact⟨v,q,rfl,JX G Q x v z.1 (λm h=>O m (by simp[nmsL,h])) Z,HR G Q r q z.2 (λm h=>O m (by simp[nmsL,h])) h2⟩
end
def Ni(G: ∀n,F n->S'.h n=S1.h n)(Q: ∀n,F n->S'.ρ n=S1.ρ n): ∀(xs:List AV) (vs:List Value),scVL xs=true->(∀m∈nmsL xs,F m)->Bg S1 xs vs->Bg S' xs vs
 |[],vs,_,_,_=>trivial
 |x::r,vs,z,O,hc=>by
  simp only[Bg] at hc⊢;obtain⟨v,q,rfl,Z,h2⟩:=hc;simp only[scVL,Av] at z;exact⟨v,q,rfl,JX G Q x v z.1 (λm h=>O m (by simp[nmsL,h])) Z,Ni G Q r q z.2 (λm h=>O m (by simp[nmsL,h])) h2⟩
def Nh{k:Nat}(O: ∀n,F n->S'.h n=S1.h n)(Z: ∀n,F n->S'.ρ n=S1.ρ n): ∀(z:List (List AV)) (vs:List Value),z.all scVL=true->(∀r∈z,∀m∈nmsL r,F m)->AN S1 k z vs->AN S' k z vs
 |[],vs,_,_,_=>trivial
 |r::z,vs,G,Q,hc=>by
  simp only[AN] at hc⊢;simp only[Fx,Av] at G;exact⟨hc.1,Ni O Z r _ G.1 (Q r (AU ..)) hc.2.1,Nh O Z z _ G.2 (λq hq=>Q q (AX _ hq)) hc.2.2⟩
def rdr_scR{ok ok':Nat->Prop}{hp hp':Nat->Option Obj}{k:Nat}: ∀(z:List (List D)) (vs:List Value),(z.all λr=>r.all D.sc)=true->rdr ok hp k z vs->rdr ok' hp' k z vs
 |[],_,_,_=>trivial
 |r::z,vs,G,hc=>by
  simp only[rdr] at hc⊢;simp only[Fx,Av] at G;exact⟨hc.1,rdp_sc r _ G.1 hc.2.1,rdr_scR z _ G.2 hc.2.2⟩
def objc_new(hh: ∀n,F n->S'.h n=S1.h n)(hr: ∀n,F n->S'.ρ n=S1.ρ n)(hp:S'.hp=S1.hp)(l:Option Loc): ∀(e:AObj),scO e=true->(∀m∈e.nms,F m)->objc S1 l e->objc S' l e
 | .arr T k rows,z,_,hc=>by
   cases l with
   |none=>simpa only[objc] using hc
   |some lc=>
    simp only[objc] at hc⊢;obtain⟨G,O,vs,Q,Z,h5⟩:=hc;exact⟨G,O,vs,by rw[hp];exact Q,Z,rdr_scR _ _ z h5⟩
 | .arrA T k rows,z,hm,hc=>by
   cases l with
   |none=>simpa only[objc] using hc
   |some lc=>
    simp only[objc] at hc⊢;obtain⟨G,O,vs,Q,Z,h5⟩:=hc;refine⟨G,O,vs,by rw[hp];exact Q,Z,Nh hh hr _ _ z (λr ab m aa=>hm m ?_) h5⟩;simp only[AObj.nms];exact CQ.2 ⟨r,ab,aa⟩
 | .cells T cs,z,hm,hc=>by
   simp only[objc] at hc⊢;obtain⟨lc,vs,G,O,Q,Z⟩:=hc;exact⟨lc,vs,G,O,by rw[hp];exact Q,HR hh hr _ _ z (λm h=>hm m (by simpa[AObj.nms] using h)) Z⟩
 | .map _ _,z,_,_| .chan _ _,z,_,_| .iter _ _,z,_,_| .view _,z,_,_=>by simp[scO] at z
end
def Il{A:Type}(ar:List PK->Option A)(pre:A->Prop)(r0:A->AV)(H1:A->Ag)(cnt nx:Nat)(u:List Nat)(K:Kont):Option (List PK)->Prop
 |some z=>decK (λa=>pre a/\K ((r0 a).ren (sgx (λj=>j) 0 nx)) {use:=u,new:=renH (sgx (λj=>j) 0 nx) (H1 a),cnt:=cnt}) (ar z)
 |none=>False
def Ct{A:Type}(ar:List PK->Option A)(pre:A->Prop)(r0:A->AV)(H1:A->Ag)(cnt:Nat):Row:=λargs h nx K=>Il ar pre r0 H1 cnt nx (rchL h args) K (pkFL h args)
def pkvs(ds:List D):List PK:=ds.map PK.val
def Np{S:Env}: ∀(ds:List D) (vs:List Value),PKL S (pkvs ds) vs->Ap S (ds.map .im) vs
 |[],vs,h=>by simpa only[pkvs,D2,PKL,Ap] using h
 |d::r,vs,h=>by
  simp only[pkvs,Ay,PKL,Ap] at h⊢;obtain⟨v,q,rfl,z,G⟩:=h;exact⟨v,q,rfl,by simpa only[conc,PKc] using z,Np r q G⟩
def renL_im(σ:Nat->Nat): ∀(ds:List D),renL σ (ds.map AV.im)=ds.map AV.im
 |[]=>rfl
 |d::r=>by simp only[Ay,renL,AV.ren,renL_im σ r]
mutual
def ren_sc(σ:Nat->Nat): ∀x:AV,scV x=true->scV (x.ren σ)=true/\ ∀m∈(x.ren σ).nms,∃j∈x.nms,m=σ j
 | .im d,h=>⟨by simpa only[AV.ren] using h,by simp[AV.ren,AV.nms]⟩
 | .own o,_=>⟨by simp[AV.ren,scV],by simp[AV.ren,AV.nms]⟩
 | .agg z,h=>by
   obtain⟨G,O⟩:=FH σ z (by simpa[scV] using h);exact⟨by simpa[AV.ren,scV] using G,by simpa[AV.ren,AV.nms] using O⟩
 | .tup z,h=>by
   obtain⟨G,O⟩:=FH σ z (by simpa[scV] using h);exact⟨by simpa[AV.ren,scV] using G,by simpa[AV.ren,AV.nms] using O⟩
 | .any,h| .ptr _ _,h| .eptr _ _ _,h| .mp _,h| .ch _,h| .it _,h| .osl _ _ _,h| .clo _ _ _,h=>by simp[scV] at h
def FH(σ:Nat->Nat): ∀xs:List AV,scVL xs=true->scVL (renL σ xs)=true/\ ∀m∈nmsL (renL σ xs),∃j∈nmsL xs,m=σ j
 |[],_=>⟨rfl,by simp[renL,nmsL]⟩
 |x::r,h=>by
  simp only[scVL,Av] at h;obtain⟨O,Q⟩:=ren_sc σ x h.1;obtain⟨Z,h4⟩:=FH σ r h.2;refine⟨by simp only[renL,scVL,O,Z,L3],λm z=> ?_⟩;simp only[renL,nmsL,AG] at z⊢;rcases z with z|z
  .obtain⟨j,G,e⟩:=Q m z;exact⟨j,.inl G,e⟩
  .obtain⟨j,G,e⟩:=h4 m z;exact⟨j,.inr G,e⟩
end
def renO_sc(σ:Nat->Nat): ∀e:AObj,scO e=true->scO (e.ren σ)=true/\ ∀m∈(e.ren σ).nms,∃j∈e.nms,m=σ j
 | .arr T k rows,h=>⟨by simpa only[AObj.ren] using h,by simp[AObj.ren,AObj.nms]⟩
 | .arrA T k rows,h=>by
   simp only[scO,BE] at h;refine⟨?_,?_⟩
   .simp only[AObj.ren,scO,List.all_map,BE];exact λr G=>(FH σ r (h r G)).1
   .intro m z;simp only[AObj.ren,AObj.nms] at z⊢;obtain⟨q,hq,z⟩:=CQ.1 z;obtain⟨r,G,rfl⟩:=AF.1 hq;obtain⟨j,hj,e⟩:=(FH σ r (h r G)).2 m z;exact⟨j,CQ.2 ⟨r,G,hj⟩,e⟩
 | .cells T O,h=>by
   obtain⟨Q,Z⟩:=FH σ O (by simpa[scO] using h);exact⟨by simpa[AObj.ren,scO] using Q,by simpa[AObj.ren,AObj.nms] using Z⟩
 | .map _ _,h| .chan _ _,h| .iter _ _,h| .view _,h=>by simp[scO] at h
def Nw{P:Program}{g:FuncId}{A:Type}{ag:A->List AV}{ca:A->List D}{pre:A->Prop}{klB:Nat->Bool}{r0:A->AV}{H1:A->Ag}{cnt:Nat}
 (au:calb P g=true)(bc:Ak P g (orow ag (λ_=>[]) 0 pre klB r0 H1 cnt))(as: ∀a,ag a=(ca a).map AV.im)
 {ar:List PK->Option A}(bb: ∀ps a,ar ps=some a->LeKL ps (pkvs (ca a)))
 (ax: ∀a,scV (r0 a)=true/\ ∀m∈(r0 a).nms,m<cnt)
 (hH1: ∀a,∀p∈H1 a,p.1<cnt/\p.2.1=true/\scO p.2.2=true/\ ∀m∈p.2.2.nms,m<cnt):
 Ak P g (Ct ar pre r0 H1 cnt):=by
 intro args h nx K z;unfold Ct at z;cases hp:pkFL h args with
 |none=>rw[hp] at z;exact z.elim
 |some ps=>
  rw[hp] at z;simp only[Il] at z;cases ha:ar ps with
  |none=>rw[ha] at z;exact z.elim
  |some a=>
   rw[ha] at z;simp only[decK] at z;obtain⟨aw,hK⟩:=z;refine⟨FW au,_,_,?_,hK⟩;intro C S vs RR hW ay ab ac am ah;have bd:=Uf hW args ps vs.toList (λm hm=>ay m (Fb _ hm)) hp am;have a8:=Rk hW;obtain⟨σ,hσ⟩: ∃σ:Nat->Nat,σ=sgx (λj=>j) 0 nx:=⟨_,rfl⟩;have hσj: ∀j,σ j=nx+j:=λj=>by rw[hσ];simp[sgx]
   rw[<-hσ] at ah;obtain⟨_,r,E,hT,rfl,rfl⟩:=bc (ag a) (λ_=>none) nx (λr E=>r=(r0 a).ren σ/\E={use:=[],kill:=[],new:=renH σ (H1 a),cnt:=cnt})
    ⟨a,λj=>j,[],[],aw,by rw[as,renL_im],trivial,⟨by simp[domB,hget],by simp[domB,hget],by simp[domB,hget],by simp,by simp[domB,hget]⟩,by rw[hσ],by rw[hσ]⟩
   have a9:Ap S.froz (ag a) vs.toList:=by rw[as];exact Np _ _ ((bb ps a ha).c bd)
   refine hT (frozC S) S.froz vs RR a8 (by simp) (λn hn=> ?_) (λn e Q m hm hF=> ?_) a9 ?_
   .have:=ab n hn
    show (S.h n).map _=none;rw[this];rfl
   .obtain⟨e0,G,rfl⟩:=LZ Q;exact ac n e0 G m hm hF
   intro v S1 Z ba _ av;have ai: ∀n e,hget (renH σ (H1 a)) n=some e->Fr nx cnt n/\e.1=true/\scO e.2=true/\ ∀m∈e.2.nms,Fr nx cnt m:=by
    intro n e Q;obtain⟨j,e0,G,O,rfl⟩:=P1 Q;obtain⟨g1,g2,g3,g4⟩:=hH1 a _ G;obtain⟨q1,q2⟩:=renO_sc σ e0.2 g3;refine⟨by rw[<-O,hσj];exact⟨by omega,by omega⟩,g2,q1,λm hm=> ?_⟩;obtain⟨i,hi,rfl⟩:=q2 m hm
    have:=g4 i hi
    rw[hσj];exact⟨by omega,by omega⟩
   have ao:S.w.heap.size<=S1.w.heap.size:=Z.size;have aa: ∀b,b<S.w.heap.size->S1.w.heap[b]? =S.w.heap[b]? :=λb hb=>Z.keep b hb (λh=>h)
   have aq: ∀n,Fr nx cnt n->S.h n=none:=ab
   let E':Eff:={use:=rchL h args,kill:=[],new:=renH σ (H1 a),cnt:=cnt}
   have aj: ∀n,E'.appf S.h n=match hget (renH σ (H1 a)) n with
    |some e=>some e
    |none=>S.h n:=λn=>by simp only[E',Eff.appf];rfl
   have az: ∀n,S1.h n=match hget (renH σ (H1 a)) n with
    |some e=>some e
    |none=>S.froz.h n:=λn=>by rw[ba];simp only[Eff.appf];rfl
   let S':Env:=⟨λn=>if nx<=n/\n<nx+cnt then S1.ρ n else S.ρ n,S.ok,E'.appf S.h,S1.w⟩
   have ak: ∀n,S'.h n=E'.appf S.h n:=λ_=>rfl
   have aF: ∀n,Fr nx cnt n->S'.h n=S1.h n:=by
    intro n hn;rw[ak,aj,az];cases hget (renH σ (H1 a)) n with
    |some e=>rfl
    |none=>
     show S.h n=(S.h n).map _;rw[aq n hn];rfl
   have aR: ∀n,Fr nx cnt n->S'.ρ n=S1.ρ n:=λn hn=>Af hn
   have oF: ∀n,¬Fr nx cnt n->S'.h n=S.h n:=by
    intro n hn;rw[ak,aj];cases hq:hget (renH σ (H1 a)) n with
    |some e=>exact absurd (ai n e hq).1 hn
    |none=>rfl
   have oR: ∀n,¬Fr nx cnt n->S'.ρ n=S.ρ n:=λn hn=>Ab hn
   have hp':Pres (λn=> ¬Fr nx cnt n) S S':=⟨λb hb=>⟨hb,aa b (hW.oks b hb)⟩,λo ho e' an=>⟨e',by rw[<-oF o ho];exact an,oR o ho,rfl,rfl⟩⟩;have nF: ∀n e,S.h n=some e-> ¬Fr nx cnt n:=λn e Q hn=>by rw[aq n hn] at Q;cases Q
   have split: ∀o e,S'.h o=some e->(Fr nx cnt o/\S1.h o=some e/\S'.ρ o=S1.ρ o/\e.1=true/\scO e.2=true/\ ∀m∈e.2.nms,Fr nx cnt m)\/(S.h o=some e/\S'.ρ o=S.ρ o):=by
    intro o e Q;by_cases hn:Fr nx cnt o
    .left;have G:S1.h o=some e:=by rw[<-aF o hn];exact Q
     have O:=Q;rw[ak,aj] at O;cases hq:hget (renH σ (H1 a)) o with
     |some e1=>
      rw[hq] at O;obtain rfl:=Al O;exact⟨hn,G,aR o hn,(ai o _ hq).2⟩
     |none=>
      rw[hq] at O;exact absurd hn (nF o e O)
    .right;exact⟨by rw[<-oF o hn];exact Q,oR o hn⟩
   have af: ∀o e l,S1.h o=some e->S1.ρ o=some l->e.1=true->l.b<S1.w.heap.size/\S.w.heap.size<=l.b:=by
    intro o e l Q hl hm;obtain⟨O,h3⟩:=Z.loc o e l Q hl;rw[hm] at h3;simp only[AQ] at h3;exact⟨O,h3.2.elim (λh=>h) (λh=>h.elim)⟩
   have a0:Wf C S':=by
    refine⟨Z.os.trans hW.os,Z.tape.trans hW.tape,Z.output.trans hW.output,BK hW.size ao,?_,hW.ok0,hW.ok1,λb hb=>CY (hW.oks b hb) ao,?_,?_,?_,hW.gl⟩
    .intro b hb hM;exact (aa b (CY hb hW.size)).trans (hW.keep b hb hM)
    .intro o e Q;rcases split o e Q with ⟨_,G,O,_,h4,h5⟩|⟨G,O⟩
     .rw[O];exact objc_new aF aR rfl _ e.2 h4 h5 (Z.obj o e G)
     .rw[O];exact DU hp' (λlc hl=>aa lc.b (hW.loc o e lc G hl).1) _ (λm hm hF=>ac o e G m hm hF) (hW.obj o e G)
    .intro o e l Q hl;rcases split o e Q with ⟨_,G,O,h3,_⟩|⟨G,O⟩
     .rw[O] at hl;obtain⟨b1,b2⟩:=af o e l G hl h3;refine⟨b1,?_⟩;rw[h3];simp only[AQ];exact⟨λhk=>by have:=hW.oks _ hk;omega,.inl (BK hW.size b2)⟩
     .rw[O] at hl;obtain⟨b1,b2⟩:=hW.loc o e l G hl;exact⟨CY b1 ao,b2⟩
    .intro o o' e e' l l' Q an hl ad hb hm;rcases split o e Q with ⟨_,G,O,h3,_⟩|⟨G,O⟩<;>rcases split o' e' an with ⟨_,k1,k2,k3,_⟩|⟨k1,k2⟩<;>rw[O] at hl<;>rw[k2] at ad
     .exact Z.inj o o' e e' l l' G k1 hl ad hb hm
     .have:=(af o e l G hl h3).2
      have:=(hW.loc o' e' l' k1 ad).1
      omega
     .have:=(af o' e' l' k1 ad k3).2
      have:=(hW.loc o e l G hl).1
      omega
     .exact hW.inj o o' e e' l l' G k1 hl ad hb hm
   obtain⟨q1,q2⟩:=ren_sc σ (r0 a) (ax a).1;refine ah v S' a0 rfl hp' (JX aF aR _ v q1 (λm hm=> ?_) av);obtain⟨j,hj,rfl⟩:=q2 m hm
   have:=(ax a).2 j hj
   rw[hσj];exact⟨by omega,by omega⟩
end Go.Ae
