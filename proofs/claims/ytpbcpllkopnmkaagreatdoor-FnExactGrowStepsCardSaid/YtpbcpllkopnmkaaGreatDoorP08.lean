/- Lemmas. Conditions: none. -/
import Derived.Test.YtpbcpllkopnmkaaGreatDoorP07
import Derived.ProofKit
import Derived.SizedLaws
import Derived.OpenShut
import Derived.Test.YtpbcpllkopnmkaaGreatDoorRows
import Derived.Carry
import Derived.WalkKit
set_option linter.all false
set_option maxHeartbeats 8000000
set_option maxRecDepth 100000
namespace Go.Ae
open Go Go.Proofs
section
variable {H:Type}{enc:TypeId×Value->H}{P:Program}{W:World}
def Rds{H:Type}(enc:TypeId×Value->H)(P:Program)(W:World)(t:TypeId){α:Type}(c:α->List D)(Q:α->Prop):Prop:=
 ∀(fuel:Nat) (cs:List Value) (x:DataW H×List MemPlace),DataW.trod enc P W 0 (fun _=>true) true fuel t cs=some x->(x.1.weights P t).all (· <=reachBytes)=true->
  ∃y:α,rdl (fun b=>b<W.heap.size) (fun b=>W.heap[b]?) (c y) cs/\Q y
theorem Rds.to{t:TypeId}{α β:Type}{c:α->List D}{Q:α->Prop}{c':β->List D}{Q':β->Prop}(h:Rds enc P W t c Q)(f:α->β)(hc: ∀y,c' (f y)=c y)(hQ: ∀y,Q y->Q' (f y)):Rds enc P W t c' Q':=by
 intro fuel cs x h1 h2;obtain⟨y,g1,g2⟩:=h fuel cs x h1 h2;exact⟨f y,by rw[hc];exact g1,hQ y g2⟩
theorem Qim{t:TypeId}(ht:P.underlying t=some (.int .i64)):Rds enc P W t (fun n:Int=>[.int .i64 n]) (fun _=>True):=by
 intro fuel cs x h _;obtain⟨n,rfl,_,_⟩:=DataW.trod_int ht h;exact⟨n,⟨_,_,rfl,rfl,rfl⟩,trivial⟩
theorem rds_str{t:TypeId}(ht:P.underlying t=some .string):Rds enc P W t (fun s:ByteArray=>[.str s]) (fun s=>s.size<=140737488355328):=by
 intro fuel cs x h hw;obtain⟨s,rfl,rfl,_⟩:=DataW.trod_string ht h;refine⟨s,⟨_,_,rfl,rfl,rfl⟩,?_⟩;have h1:=ZaK.1 hw s.data.toList.length (by simp[DataW.weights]);rw[Zay,ZaQ] at h1;have h2:s.data.size=s.size:=rfl;have h3:reachBytes<=140737488355328:=by decide
 omega
theorem Qjr{ok:Nat->Prop}{hp:Nat->Option Obj}: ∀(a:List D) (x:List Value) {b:List D} {y:List Value},rdl ok hp a x->rdl ok hp b y->rdl ok hp (a++b) (x++y)
 |[],x,b,y,h1,h2=>by
  simp only[rdl] at h1;subst h1;exact h2
 |d::a,x,b,y,h1,h2=>by
  simp only[rdl] at h1;obtain⟨v,r,rfl,h3,h4⟩:=h1;exact⟨v,r++y,rfl,h3,Qjr a r h4 h2⟩
theorem Qzi{ok:Nat->Prop}{hp:Nat->Option Obj}: ∀(a:List D) (x:List Value) (y:List Value),rdl ok hp a x->rdp ok hp a (x++y)
 |[],x,y,h1=>trivial
 |d::a,x,y,h1=>by
  simp only[rdl] at h1;obtain⟨v,r,rfl,h3,h4⟩:=h1;exact⟨v,r++y,rfl,h3,Qzi a r y h4⟩
theorem pick{α:Type}{R:Nat->α->Prop}: ∀(n:Nat),(∀i,i<n-> ∃y,R i y)-> ∃l:List α,l.length=n/\ ∀i y,l[i]? =some y->R i y
 |0,_=>⟨[],rfl,fun i y h=>by simp at h⟩
 |n+1,h=>by
  obtain⟨l,h1,h2⟩:=pick n (fun i hi=>h i (by omega));obtain⟨y,hy⟩:=h n (by omega);refine⟨l++[y],by simp[h1],fun i z hz=> ?_⟩;rcases ZbE i n with hi|hi
  .rw[ZaC (by omega)] at hz;exact h2 i z hz
  .rw[ZaG (by omega)] at hz
   have:i - l.length=0:=by
    rcases ZcZ (i - l.length) with h0|h0
    .exact h0
    .rw[ZaT (by simp;omega)] at hz;cases hz
   rw[this] at hz;obtain rfl:=Zaa hz
   have:i=n:=by omega
   rw[this];exact hy
theorem Qz1{ok:Nat->Prop}{hp:Nat->Option Obj}{α:Type}{c:α->List D}{k:Nat}(hc: ∀y,(c y).length=k): ∀(l:List α) (L:List Value),(∀i y,l[i]? =some y->rdp ok hp (c y) (L.drop (i*k)))->rdr ok hp k (l.map c) L
 |[],L,_=>trivial
 |y::r,L,h=>by
  refine⟨hc y,?_,Qz1 hc r (L.drop k) (fun i z hz=> ?_)⟩
  .have:=h 0 y rfl
   rwa [ZdJ,ZbK] at this
  .have:=h (i+1) z hz
   rwa [Zbg,show k+i*k=(i+1)*k by rw[ZbR,Zcp,Zes]]
theorem Qy9{a:Addr}{k:Nat}{cs:List Value}(hk:0<k)(h:W.cells? 0 a k=some cs):a.spot=none/\ ∃vs T fr,W.heap[a.block]? =some (.cells vs T fr)/\ ∃r,vs.toList.drop a.off=cs++r/\cs.length=k:=by
 unfold World.cells? at h;rw[Zao (Zbc _)] at h;have hl:=mapM_some_length h;rw[ZcC] at hl;have hg: ∀i,i<k->W.cell? (a.add i)=cs[i]? :=fun i hi=>mapM_some_get h i i (by rw[Zbo hi])
 have h0:=hg 0 hk;rw[Zad (by omega)] at h0;have hsp:a.spot=none:=by
  cases hs:a.spot with
  |none=>rfl
  |some s=>
   exfalso
   have:(a.add 0).spot.isSome=true:=by
    unfold Addr.add
    split<;>simp_all
   unfold World.cell? at h0;split at h0
   .rw[Zao this] at h0;cases h0
   .cases h0
 refine⟨hsp,?_⟩;obtain⟨b,off,sp⟩:=a;simp only at hsp;subst hsp;have hadd: ∀i,(⟨b,off,none⟩:Addr).add i=⟨b,off+i,none⟩:=fun i=>Qdh b off i
 rw[hadd] at h0;unfold World.cell? at h0;simp only at h0;split at h0
 .rename_i vs T fr hb;simp only[Zcx,ZaB,ZbA] at h0;refine⟨vs,T,fr,hb,(vs.toList.drop off).drop k,?_,hl⟩;have hcell: ∀i,i<k->vs[off+i]? =cs[i]? :=by
   intro i hi
   have:=hg i hi
   rw[hadd] at this;simp only[World.cell?,hb,Zcx,ZaB,ZbA] at this;exact this
  apply ZbO;intro i;rw[Zbw,ZaX];rcases ZbE i k with hi|hi
  .rw[ZaC (by omega)];exact hcell i hi
  .rw[ZaG (by omega),Zbw,Zbw,ZaX];congr 1;show off+i=off+(k+(i - cs.length));omega
 .cases h0
theorem Qkh{t e:TypeId}{α:Type}{c:α->List D}{Q:α->Prop}{k:Nat}(ht:P.underlying t=some (.slice e))(hk:P.cellsOf e=k)(hk0:0<k)(hb:1<=P.bytesOf e)(hc: ∀y,(c y).length=k)(h:Rds enc P W e c Q):
 Rds enc P W t (fun l:List α=>[.sl false k (l.map c)]) (fun l=> ∀y∈l,Q y):=by
 intro fuel cs x hx hw;rcases DataW.trod_slice ht hx with ⟨rfl,rfl⟩|⟨a,len,cap,elems,rest,m,rfl,rfl,rfl,_,hlc,_,hel,hes,hrs,_⟩
 .exact⟨[],⟨_,_,rfl,.inl ⟨.inl rfl,rfl⟩,rfl⟩,by simp⟩
 obtain⟨hrl,hrs⟩:=hrs rfl;simp only[DataW.weights,ht,Zcm,ZdN,Zah,Zay,Zbp] at hw;obtain⟨w1,w2,_⟩:=hw;have hlen:len<=LIM:=by
  have:=Nat.mul_le_mul_left (elems.length+rest.length) hb
  simp only[reachBytes,LIM] at w1⊢;omega
 by_cases hcap:cap=0
 .subst hcap
  have:len=0:=by omega
  subst this;exact⟨[],⟨_,_,rfl,.inl ⟨.inr ⟨rfl,a,rfl⟩,rfl⟩,rfl⟩,by simp⟩
 have hall: ∀i,i<cap-> ∃cs,W.cells? 0 (a.add (i*k)) k=some cs:=by
  intro i hi;rw[hk] at hes hrs;rcases ZbE i len with h1|h1
  .have:=hes i h1
   rw[Zad (by omega)] at this;cases hq:W.cells? 0 (a.add (i*k)) k with
   |none=>rw[hq] at this;cases this
   |some cs=>exact⟨cs,rfl⟩
  .have:=hrs (i - len) (by omega)
   rw[show len+(i - len)=i by omega,Zad (by omega)] at this;cases hq:W.cells? 0 (a.add (i*k)) k with
   |none=>rw[hq] at this;cases this
   |some cs=>exact⟨cs,rfl⟩
 obtain⟨cs0,hcs0⟩:=hall 0 (by omega);obtain⟨hsp0,vs,T,fr,hheap,_⟩:=Qy9 hk0 hcs0;have hsp:a.spot=none:=by
  cases hs:a.spot with
  |none=>rfl
  |some s=>
   exfalso
   have:(a.add (0*k)).spot.isSome=true:=by
    unfold Addr.add
    split<;>simp_all
   rw[hsp0] at this;cases this
 obtain⟨b,off,sp⟩:=a;simp only at hsp;subst hsp;have hadd: ∀i,(⟨b,off,none⟩:Addr).add i=⟨b,off+i,none⟩:=fun i=>Qdh b off i
 rw[hadd] at hheap;simp only at hheap;have hpk: ∀i,i<len-> ∃y:α,rdp (fun b=>b<W.heap.size) (fun b=>W.heap[b]?) (c y) ((vs.toList.drop off).drop (i*k))/\Q y:=by
  intro i hi;have h1:=hes i hi;rw[hk,Zad (by omega)] at h1;cases hq:W.cells? 0 ((⟨b,off,none⟩:Addr).add (i*k)) k with
  |none=>rw[hq] at h1;cases h1
  |some ci=>
   rw[hq,Zbl] at h1;obtain⟨_,vs',T',fr',hh,r,hr,_⟩:=Qy9 hk0 hq;rw[hadd] at hh hr;simp only at hh hr;rw[hheap] at hh;obtain⟨rfl,rfl,rfl⟩:vs=vs'/\T=T'/\fr=fr':=by
    have:=Zaa hh
    simp only[Obj.cells.injEq] at this;exact this
   have hwi:(elems[i].1.weights P e).all (· <=reachBytes)=true:=by
    rw[ZaK] at w2⊢;intro n hn;refine w2 n ?_
    have: ∀(l:List (DataW H)) (d:DataW H),d∈l-> ∀n∈d.weights P e,n∈DataW.weightsAll P e l:=by
     intro l;induction l with
     |nil=>intro d hd;cases hd
     |cons z r ih=>
      intro d hd n hn;simp only[DataW.weightsAll,Zaq];rcases Zas.1 hd with rfl|hd
      .exact .inl hn
      .exact .inr (ih d hd n hn)
    exact this _ elems[i].1 (Zaw.2 ⟨elems[i],Zcl _,rfl⟩) n hn
   obtain⟨y,g1,g2⟩:=h m ci elems[i] h1 hwi;refine⟨y,?_,g2⟩;rw[Zbg,hr];exact Qzi _ _ _ g1
 obtain⟨l,hl,hly⟩:=pick (R:=fun i y=>rdp (fun b=>b<W.heap.size) (fun b=>W.heap[b]?) (c y) ((vs.toList.drop off).drop (i*k))/\Q y) len hpk;have hblk:b<W.heap.size:=by
  rcases ZbE b W.heap.size with h|h
  .exact h
  .rw[Zcb h] at hheap;cases hheap
 refine⟨l,⟨_,_,rfl,.inr ⟨b,off,cap,vs,T,fr,by rw[Zbp,hl],by simp,by rw[Zbp,hl];exact hlc,by rw[Zbp,hl];exact hlen,hblk,hheap,Qz1 hc l _ (fun i y hy=>(hly i y hy).1)⟩,rfl⟩,fun y hy=> ?_⟩;obtain⟨i,hi⟩:=List.getElem?_of_mem hy;exact (hly i y hi).2
theorem rds_s1{t:TypeId}{α0:Type}{c0:α0->List D}{Q0:α0->Prop}{f0:Field}(ht:P.underlying t=some (.struct #[f0]))(o0:f0.offset=0)(hn:P.cellsOf t=P.cellsOf f0.type)(h0:Rds enc P W f0.type c0 Q0):
 Rds enc P W t (fun y:α0=>c0 (y)) (fun y=>Q0 (y)):=by
 intro fuel cs x h hw;obtain⟨xs,m,rfl,rfl,hl,hxl,hf⟩:=DataW.trod_struct ht h;have hx: ∀i,i<1-> ∃z,xs[i]? =some z:=fun i hi=>⟨_,Zad (by rw[hxl];exact hi)⟩
 simp only[DataW.weights,ht] at hw;obtain⟨z0,e0⟩:=hx 0 (by decide);obtain⟨y0,r0,q0⟩:=h0 m _ z0 ((hf 0 f0 rfl).trans e0) (ZaK.2 fun k hk=>ZaK.1 hw k (DataW.weights_mem_each (j:=0) (t:=f0.type) (d:=z0.1) rfl (by rw[ZaN,e0];rfl) k hk));rw[o0] at r0;refine⟨(y0),?_,q0⟩;simp only;have e:cs=(cs.drop (0)).take (P.cellsOf f0.type):=by
  have hlen:cs.length=P.cellsOf f0.type:=hl.trans hn;rw[ZbK,ZaE (by omega)]
 rw[e];exact r0
theorem Qqt{t:TypeId}{α0:Type}{c0:α0->List D}{Q0:α0->Prop}{f0:Field}{α1:Type}{c1:α1->List D}{Q1:α1->Prop}{f1:Field}(ht:P.underlying t=some (.struct #[f0,f1]))(o0:f0.offset=0)(o1:f1.offset=P.cellsOf f0.type)(hn:P.cellsOf t=P.cellsOf f0.type+P.cellsOf f1.type)(h0:Rds enc P W f0.type c0 Q0)(h1:Rds enc P W f1.type c1 Q1):
 Rds enc P W t (fun y:α0×α1=>c0 (y.1)++(c1 (y.2))) (fun y=>Q0 (y.1)/\Q1 (y.2)):=by
 intro fuel cs x h hw;obtain⟨xs,m,rfl,rfl,hl,hxl,hf⟩:=DataW.trod_struct ht h;have hx: ∀i,i<2-> ∃z,xs[i]? =some z:=fun i hi=>⟨_,Zad (by rw[hxl];exact hi)⟩
 simp only[DataW.weights,ht] at hw;obtain⟨z0,e0⟩:=hx 0 (by decide);obtain⟨y0,r0,q0⟩:=h0 m _ z0 ((hf 0 f0 rfl).trans e0) (ZaK.2 fun k hk=>ZaK.1 hw k (DataW.weights_mem_each (j:=0) (t:=f0.type) (d:=z0.1) rfl (by rw[ZaN,e0];rfl) k hk));rw[o0] at r0;obtain⟨z1,e1⟩:=hx 1 (by decide);obtain⟨y1,r1,q1⟩:=h1 m _ z1 ((hf 1 f1 rfl).trans e1) (ZaK.2 fun k hk=>ZaK.1 hw k (DataW.weights_mem_each (j:=1) (t:=f1.type) (d:=z1.1) rfl (by rw[ZaN,e1];rfl) k hk));rw[o1] at r1;refine⟨(y0,y1),?_,q0,q1⟩;simp only;have e:cs=(cs.drop (0)).take (P.cellsOf f0.type)++((cs.drop (P.cellsOf f0.type)).take (P.cellsOf f1.type)):=by
  have hlen:cs.length=P.cellsOf f0.type+P.cellsOf f1.type:=hl.trans hn;rw[ZbK];rw[ZaE (l:=cs.drop (P.cellsOf f0.type)) (by rw[ZaD];omega)];rw[ZbN]
 rw[e];exact Qjr _ _ r0 (r1)
theorem rds_s3{t:TypeId}{α0:Type}{c0:α0->List D}{Q0:α0->Prop}{f0:Field}{α1:Type}{c1:α1->List D}{Q1:α1->Prop}{f1:Field}{α2:Type}{c2:α2->List D}{Q2:α2->Prop}{f2:Field}(ht:P.underlying t=some (.struct #[f0,f1,f2]))(o0:f0.offset=0)(o1:f1.offset=P.cellsOf f0.type)(o2:f2.offset=P.cellsOf f0.type+P.cellsOf f1.type)(hn:P.cellsOf t=P.cellsOf f0.type+P.cellsOf f1.type+P.cellsOf f2.type)(h0:Rds enc P W f0.type c0 Q0)(h1:Rds enc P W f1.type c1 Q1)(h2:Rds enc P W f2.type c2 Q2):
 Rds enc P W t (fun y:α0×α1×α2=>c0 (y.1)++(c1 (y.2.1)++(c2 (y.2.2)))) (fun y=>Q0 (y.1)/\Q1 (y.2.1)/\Q2 (y.2.2)):=by
 intro fuel cs x h hw;obtain⟨xs,m,rfl,rfl,hl,hxl,hf⟩:=DataW.trod_struct ht h;have hx: ∀i,i<3-> ∃z,xs[i]? =some z:=fun i hi=>⟨_,Zad (by rw[hxl];exact hi)⟩
 simp only[DataW.weights,ht] at hw;obtain⟨z0,e0⟩:=hx 0 (by decide);obtain⟨y0,r0,q0⟩:=h0 m _ z0 ((hf 0 f0 rfl).trans e0) (ZaK.2 fun k hk=>ZaK.1 hw k (DataW.weights_mem_each (j:=0) (t:=f0.type) (d:=z0.1) rfl (by rw[ZaN,e0];rfl) k hk));rw[o0] at r0;obtain⟨z1,e1⟩:=hx 1 (by decide);obtain⟨y1,r1,q1⟩:=h1 m _ z1 ((hf 1 f1 rfl).trans e1) (ZaK.2 fun k hk=>ZaK.1 hw k (DataW.weights_mem_each (j:=1) (t:=f1.type) (d:=z1.1) rfl (by rw[ZaN,e1];rfl) k hk));rw[o1] at r1;obtain⟨z2,e2⟩:=hx 2 (by decide);obtain⟨y2,r2,q2⟩:=h2 m _ z2 ((hf 2 f2 rfl).trans e2) (ZaK.2 fun k hk=>ZaK.1 hw k (DataW.weights_mem_each (j:=2) (t:=f2.type) (d:=z2.1) rfl (by rw[ZaN,e2];rfl) k hk));rw[o2] at r2;refine⟨(y0,y1,y2),?_,q0,q1,q2⟩;simp only;have e:cs=(cs.drop (0)).take (P.cellsOf f0.type)++((cs.drop (P.cellsOf f0.type)).take (P.cellsOf f1.type)++((cs.drop (P.cellsOf f0.type+P.cellsOf f1.type)).take (P.cellsOf f2.type))):=by
  have hlen:cs.length=P.cellsOf f0.type+P.cellsOf f1.type+P.cellsOf f2.type:=hl.trans hn;rw[ZbK];rw[ZaE (l:=cs.drop (P.cellsOf f0.type+P.cellsOf f1.type)) (by rw[ZaD];omega)];rw[show cs.drop (P.cellsOf f0.type+P.cellsOf f1.type)=(cs.drop (P.cellsOf f0.type)).drop (P.cellsOf f1.type) by rw[Zbg],ZbN];rw[ZbN]
 rw[e];exact Qjr _ _ r0 (Qjr _ _ r1 (r2))
end
section
variable {H:Type}{enc:TypeId×Value->H}{W:World}
theorem rPoint:Rds enc Tryz.prog W 135 Qae.c (fun _=>True):=
 (Qqt Tryz.underlying135 rfl (by kernel_rfl) (by kernel_rfl) (Qim Tryz.underlying2) (Qim Tryz.underlying2)).to (fun y=>(⟨y.1,y.2⟩:Qae)) (fun _=>rfl) (fun _ _=>trivial)
theorem rPlaced:Rds enc Tryz.prog W 137 Qab.c (fun _=>True):=
 (Qqt Tryz.underlying137 rfl (by kernel_rfl) (by kernel_rfl) rPoint (Qim Tryz.underlying2)).to (fun y=>(⟨y.1,y.2⟩:Qab)) (fun _=>rfl) (fun _ _=>trivial)
theorem rGlue:Rds enc Tryz.prog W 112 Glue.c (fun g=>g.Name.size<=140737488355328):=
 (Qqt Tryz.underlying112 rfl (by kernel_rfl) (by kernel_rfl) (rds_str Tryz.underlying9) (Qim Tryz.underlying2)).to (fun y=>(⟨y.1,y.2⟩:Glue)) (fun _=>rfl) (fun _ h=>h.1)
theorem rInts:Rds enc Tryz.prog W 31 (fun l:List Int=>[.sl false 1 (l.map intC)]) (fun l=> ∀y∈l,True):=
 Qkh (c:=intC) Tryz.underlying31 (by kernel_rfl) (by decide) (by decide+kernel) (fun _=>rfl) (Qim Tryz.underlying2)
theorem rTile:Rds enc Tryz.prog W 115 Tile.c (fun g=>g.Name.size<=140737488355328):=
 (Qqt Tryz.underlying115 rfl (by kernel_rfl) (by kernel_rfl) (rds_str Tryz.underlying9) rInts).to (fun y=>(⟨y.1,y.2⟩:Tile)) (fun _=>rfl) (fun _ h=>h.1)
theorem rGlues:Rds enc Tryz.prog W 22 (fun l:List Glue=>[.sl false 2 (l.map Glue.c)]) (fun l=> ∀y∈l,y.Name.size<=140737488355328):=
 Qkh Tryz.underlying22 (by kernel_rfl) (by decide) (by decide+kernel) (fun _=>rfl) rGlue
theorem rTiles:Rds enc Tryz.prog W 23 (fun l:List Tile=>[.sl false 2 (l.map Tile.c)]) (fun l=> ∀y∈l,y.Name.size<=140737488355328):=
 Qkh Tryz.underlying23 (by kernel_rfl) (by decide) (by decide+kernel) (fun _=>rfl) rTile
theorem rPlaceds:Rds enc Tryz.prog W 26 (fun l:List Qab=>[.sl false 3 (l.map Qab.c)]) (fun l=> ∀y∈l,True):=
 Qkh Tryz.underlying26 (by kernel_rfl) (by decide) (by decide+kernel) (fun _=>rfl) rPlaced
theorem rSet:Rds enc Tryz.prog W 25 Qaa.c nmOk:=
 (Qqt Tryz.underlying25 rfl (by kernel_rfl) (by kernel_rfl) rGlues rTiles).to (fun y=>(⟨y.1,y.2⟩:Qaa)) (fun _=>rfl) (fun _ h=>h)
theorem rAsm:Rds enc Tryz.prog W 28 Asm.c (fun _=>True):=
 (rds_s1 Tryz.underlying28 rfl (by kernel_rfl) rPlaceds).to (fun y=>(⟨y⟩:Asm)) (fun _=>rfl) (fun _ _=>trivial)
theorem rSys:Rds enc Tryz.prog W 30 Qar.c (fun s=>nmOk s.Set):=
 (rds_s3 Tryz.underlying30 rfl (by kernel_rfl) (by kernel_rfl) (by kernel_rfl) rSet rAsm (Qim Tryz.underlying2)).to (fun y=>(⟨y.1,y.2.1,y.2.2⟩:Qar)) (fun _=>rfl) (fun _ h=>h.1)
end
end Go.Ae
namespace Go.Ae
open Go Go.Proofs Go.RowKit
def env0(W:World):Env:=⟨fun _=>none,fun b=>b<W.heap.size,fun _=>none,W⟩
def ctx0(W:World):Ctx:=Ctx.mk0 W (fun _=>False) (fun b=>b<W.heap.size)
theorem wf0(W:World)(hg:GP (fun b=>b<W.heap.size) (fun b=>W.heap[b]?)):Wf (ctx0 W) (env0 W):=
 ⟨rfl,rfl,rfl,Zal _,fun _ _ _=>rfl,fun _ h=>h,fun _ h=> .inl h,fun _ h=>h,fun o e h=>(by cases h),fun o e l h=>(by cases h),fun o o' e e' l l' h=>(by cases h),hg.mono fun _ _ hb ho=>⟨⟨hb,fun h=>h.elim⟩,ho⟩⟩
theorem call_law{P:Program}{g:FuncId}{row:Row}(hok:Qas P g row){W:World}(hg:GP (fun b=>b<W.heap.size) (fun b=>W.heap[b]?)){args:Array Value}{ds:List D}(hrow:row (ds.map .im) (fun _=>none) 0 (fun r _=>r= .im (.bool true)))
 (hargs:rdl (fun b=>b<W.heap.size) (fun b=>W.heap[b]?) ds args.toList):Calls P g args W fun e W'=>e= .returned (.bool true)/\Below W.heap.size W W':=by
 obtain⟨_,r,E,hT,rfl⟩:=hok _ _ _ _ hrow;refine hT (ctx0 W) (env0 W) args _ (wf0 W hg) (fun _ _=>rfl) (fun _ _=>rfl) (fun n e h=>(by cases h)) ((Qa6 _ _).2 hargs) ?_;intro v S' hW' _ _ hc;simp only[conc,rd] at hc;subst hc;exact⟨rfl,hW'.os,hW'.tape,hW'.output,hW'.size,fun k hk=>hW'.keep k hk (fun h=>h)⟩
end Go.Ae
namespace Go.Ae
mutual
def scV:AV->Bool
 | .im d=>d.sc
 | .own _=>true
 | .agg cs=>scVL cs
 | .tup cs=>scVL cs
 | .any| .ptr _ _| .eptr _ _ _| .mp _| .ch _| .it _| .osl _ _ _| .clo _ _ _=>false
def scVL:List AV->Bool
 |[]=>true
 |x::r=>scV x && scVL r
end
def scO:AObj->Bool
 | .arr _ _ rows=>rows.all fun r=>r.all D.sc
 | .arrA _ _ rows=>rows.all scVL
 | .cells _ cs=>scVL cs
 | .map _ _| .chan _ _| .iter _ _| .view _=>false
theorem Qadc{m:Nat}: ∀{rows:List (List AV)},m∈nmsR rows↔ ∃r∈rows,m∈nmsL r
 |[]=>by simp[nmsR]
 |r::rs=>by simp[nmsR,Qadc (rows:=rs)]
section
variable {S1 S':Env}{F:Nat->Prop}
mutual
theorem Qaep(hh: ∀n,F n->S'.h n=S1.h n)(hr: ∀n,F n->S'.ρ n=S1.ρ n): ∀(x:AV) (v:Value),scV x=true->(∀m∈x.nms,F m)->conc S1 x v->conc S' x v
 | .im d,v,hs,_,hc=>by
   simp only[conc] at hc⊢;exact rd_sc (by simpa[scV] using hs) hc
 | .own o,v,_,hm,hc=>by
   simp only[conc] at hc⊢;have h0:F o:=hm o (by simp[AV.nms]);rw[hh o h0,hr o h0];exact hc
 | .agg cs,v,hs,hm,hc=>by
   simp only[conc] at hc⊢;obtain⟨vs,rfl,h⟩:=hc;exact⟨vs,rfl,Qadu hh hr cs _ (by simpa[scV] using hs) (by simpa[AV.nms] using hm) h⟩
 | .tup cs,v,hs,hm,hc=>by
   simp only[conc] at hc⊢;obtain⟨vs,rfl,h⟩:=hc;exact⟨vs,rfl,Qadu hh hr cs _ (by simpa[scV] using hs) (by simpa[AV.nms] using hm) h⟩
 | .any,_,hs,_,_| .ptr _ _,_,hs,_,_| .eptr _ _ _,_,hs,_,_| .mp _,_,hs,_,_| .ch _,_,hs,_,_| .it _,_,hs,_,_| .osl _ _ _,_,hs,_,_| .clo _ _ _,_,hs,_,_=>by simp[scV] at hs
theorem Qadu(hh: ∀n,F n->S'.h n=S1.h n)(hr: ∀n,F n->S'.ρ n=S1.ρ n): ∀(xs:List AV) (vs:List Value),scVL xs=true->(∀m∈nmsL xs,F m)->Qa0 S1 xs vs->Qa0 S' xs vs
 |[],vs,_,_,hc=>by simpa only[Qa0] using hc
 |x::r,vs,hs,hm,hc=>by
  simp only[Qa0] at hc⊢;obtain⟨v,q,rfl,h1,h2⟩:=hc;simp only[scVL,Zah] at hs;exact⟨v,q,rfl,Qaep hh hr x v hs.1 (fun m h=>hm m (by simp[nmsL,h])) h1,Qadu hh hr r q hs.2 (fun m h=>hm m (by simp[nmsL,h])) h2⟩
end
theorem Qaev(hh: ∀n,F n->S'.h n=S1.h n)(hr: ∀n,F n->S'.ρ n=S1.ρ n): ∀(xs:List AV) (vs:List Value),scVL xs=true->(∀m∈nmsL xs,F m)->Qbv S1 xs vs->Qbv S' xs vs
 |[],vs,_,_,_=>trivial
 |x::r,vs,hs,hm,hc=>by
  simp only[Qbv] at hc⊢;obtain⟨v,q,rfl,h1,h2⟩:=hc;simp only[scVL,Zah] at hs;exact⟨v,q,rfl,Qaep hh hr x v hs.1 (fun m h=>hm m (by simp[nmsL,h])) h1,Qaev hh hr r q hs.2 (fun m h=>hm m (by simp[nmsL,h])) h2⟩
theorem Qaet{k:Nat}(hh: ∀n,F n->S'.h n=S1.h n)(hr: ∀n,F n->S'.ρ n=S1.ρ n): ∀(rs:List (List AV)) (vs:List Value),rs.all scVL=true->(∀r∈rs,∀m∈nmsL r,F m)->Qbb S1 k rs vs->Qbb S' k rs vs
 |[],vs,_,_,_=>trivial
 |r::rs,vs,hs,hm,hc=>by
  simp only[Qbb] at hc⊢;simp only[Zcm,Zah] at hs;exact⟨hc.1,Qaev hh hr r _ hs.1 (hm r (Zar ..)) hc.2.1,Qaet hh hr rs _ hs.2 (fun q hq=>hm q (Zam _ hq)) hc.2.2⟩
theorem rdr_scR{ok ok':Nat->Prop}{hp hp':Nat->Option Obj}{k:Nat}: ∀(rs:List (List D)) (vs:List Value),(rs.all fun r=>r.all D.sc)=true->rdr ok hp k rs vs->rdr ok' hp' k rs vs
 |[],_,_,_=>trivial
 |r::rs,vs,hs,hc=>by
  simp only[rdr] at hc⊢;simp only[Zcm,Zah] at hs;exact⟨hc.1,rdp_sc r _ hs.1 hc.2.1,rdr_scR rs _ hs.2 hc.2.2⟩
theorem objc_new(hh: ∀n,F n->S'.h n=S1.h n)(hr: ∀n,F n->S'.ρ n=S1.ρ n)(hp:S'.hp=S1.hp)(l:Option Loc): ∀(e:AObj),scO e=true->(∀m∈e.nms,F m)->objc S1 l e->objc S' l e
 | .arr T k rows,hs,_,hc=>by
   cases l with
   |none=>simpa only[objc] using hc
   |some lc=>
    simp only[objc] at hc⊢;obtain⟨h1,h2,vs,h3,h4,h5⟩:=hc;exact⟨h1,h2,vs,by rw[hp];exact h3,h4,rdr_scR _ _ hs h5⟩
 | .arrA T k rows,hs,hm,hc=>by
   cases l with
   |none=>simpa only[objc] using hc
   |some lc=>
    simp only[objc] at hc⊢;obtain⟨h1,h2,vs,h3,h4,h5⟩:=hc;refine⟨h1,h2,vs,by rw[hp];exact h3,h4,Qaet hh hr _ _ hs (fun r hr' m hm'=>hm m ?_) h5⟩;simp only[AObj.nms];exact Qadc.2 ⟨r,hr',hm'⟩
 | .cells T cs,hs,hm,hc=>by
   simp only[objc] at hc⊢;obtain⟨lc,vs,h1,h2,h3,h4⟩:=hc;exact⟨lc,vs,h1,h2,by rw[hp];exact h3,Qadu hh hr _ _ hs (fun m h=>hm m (by simpa[AObj.nms] using h)) h4⟩
 | .map _ _,hs,_,_| .chan _ _,hs,_,_| .iter _ _,hs,_,_| .view _,hs,_,_=>by simp[scO] at hs
end
def Qalb{A:Type}(ar:List PK->Option A)(pre:A->Prop)(r0:A->AV)(H1:A->Qan)(cnt nx:Nat)(u:List Nat)(K:Kont):Option (List PK)->Prop
 |some ps=>decK (fun a=>pre a/\K ((r0 a).ren (sgx (fun j=>j) 0 nx)) {use:=u,new:=renH (sgx (fun j=>j) 0 nx) (H1 a),cnt:=cnt}) (ar ps)
 |none=>False
def Qaex{A:Type}(ar:List PK->Option A)(pre:A->Prop)(r0:A->AV)(H1:A->Qan)(cnt:Nat):Row:=fun args h nx K=>Qalb ar pre r0 H1 cnt nx (rchL h args) K (pkFL h args)
def pkvs(ds:List D):List PK:=ds.map PK.val
theorem Qafn{S:Env}: ∀(ds:List D) (vs:List Value),PKL S (pkvs ds) vs->Qa0 S (ds.map .im) vs
 |[],vs,h=>by simpa only[pkvs,ZaS,PKL,Qa0] using h
 |d::r,vs,h=>by
  simp only[pkvs,Zap,PKL,Qa0] at h⊢;obtain⟨v,q,rfl,h1,h2⟩:=h;exact⟨v,q,rfl,by simpa only[conc,PKc] using h1,Qafn r q h2⟩
theorem renL_im(σ:Nat->Nat): ∀(ds:List D),renL σ (ds.map AV.im)=ds.map AV.im
 |[]=>rfl
 |d::r=>by simp only[Zap,renL,AV.ren,renL_im σ r]
mutual
theorem ren_sc(σ:Nat->Nat): ∀x:AV,scV x=true->scV (x.ren σ)=true/\ ∀m∈(x.ren σ).nms,∃j∈x.nms,m=σ j
 | .im d,h=>⟨by simpa only[AV.ren] using h,by simp[AV.ren,AV.nms]⟩
 | .own o,_=>⟨by simp[AV.ren,scV],by simp[AV.ren,AV.nms]⟩
 | .agg cs,h=>by
   obtain⟨h1,h2⟩:=Qady σ cs (by simpa[scV] using h);exact⟨by simpa[AV.ren,scV] using h1,by simpa[AV.ren,AV.nms] using h2⟩
 | .tup cs,h=>by
   obtain⟨h1,h2⟩:=Qady σ cs (by simpa[scV] using h);exact⟨by simpa[AV.ren,scV] using h1,by simpa[AV.ren,AV.nms] using h2⟩
 | .any,h| .ptr _ _,h| .eptr _ _ _,h| .mp _,h| .ch _,h| .it _,h| .osl _ _ _,h| .clo _ _ _,h=>by simp[scV] at h
theorem Qady(σ:Nat->Nat): ∀xs:List AV,scVL xs=true->scVL (renL σ xs)=true/\ ∀m∈nmsL (renL σ xs),∃j∈nmsL xs,m=σ j
 |[],_=>⟨rfl,by simp[renL,nmsL]⟩
 |x::r,h=>by
  simp only[scVL,Zah] at h;obtain⟨h1,h2⟩:=ren_sc σ x h.1;obtain⟨h3,h4⟩:=Qady σ r h.2;refine⟨by simp only[renL,scVL,h1,h3,Zdw],fun m hm=> ?_⟩;simp only[renL,nmsL,Zaq] at hm⊢;rcases hm with hm|hm
  .obtain⟨j,hj,e⟩:=h2 m hm;exact⟨j,.inl hj,e⟩
  .obtain⟨j,hj,e⟩:=h4 m hm;exact⟨j,.inr hj,e⟩
end
theorem renO_sc(σ:Nat->Nat): ∀e:AObj,scO e=true->scO (e.ren σ)=true/\ ∀m∈(e.ren σ).nms,∃j∈e.nms,m=σ j
 | .arr T k rows,h=>⟨by simpa only[AObj.ren] using h,by simp[AObj.ren,AObj.nms]⟩
 | .arrA T k rows,h=>by
   simp only[scO,ZaK] at h;refine⟨?_,?_⟩
   .simp only[AObj.ren,scO,List.all_map,ZaK];exact fun r hr=>(Qady σ r (h r hr)).1
   .intro m hm;simp only[AObj.ren,AObj.nms] at hm⊢;obtain⟨q,hq,hm⟩:=Qadc.1 hm;obtain⟨r,hr,rfl⟩:=Zaw.1 hq;obtain⟨j,hj,e⟩:=(Qady σ r (h r hr)).2 m hm;exact⟨j,Qadc.2 ⟨r,hr,hj⟩,e⟩
 | .cells T cs,h=>by
   obtain⟨h1,h2⟩:=Qady σ cs (by simpa[scO] using h);exact⟨by simpa[AObj.ren,scO] using h1,by simpa[AObj.ren,AObj.nms] using h2⟩
 | .map _ _,h| .chan _ _,h| .iter _ _,h| .view _,h=>by simp[scO] at h
theorem Qagv{P:Program}{g:FuncId}{A:Type}{cax:A->List AV}{ca:A->List D}{pre:A->Prop}{klB:Nat->Bool}{r0:A->AV}{H1:A->Qan}{cnt:Nat}
 (hcal:calb P g=true)(hok:Qas P g (orow cax (fun _=>[]) 0 pre klB r0 H1 cnt))(hca: ∀a,cax a=(ca a).map AV.im)
 {ar:List PK->Option A}(hle: ∀ps a,ar ps=some a->LeKL ps (pkvs (ca a)))
 (hr0: ∀a,scV (r0 a)=true/\ ∀m∈(r0 a).nms,m<cnt)
 (hH1: ∀a,∀p∈H1 a,p.1<cnt/\p.2.1=true/\scO p.2.2=true/\ ∀m∈p.2.2.nms,m<cnt):
 Qas P g (Qaex ar pre r0 H1 cnt):=by
 intro args h nx K hrow;unfold Qaex at hrow;cases hp:pkFL h args with
 |none=>rw[hp] at hrow;exact hrow.elim
 |some ps=>
  rw[hp] at hrow;simp only[Qalb] at hrow;cases ha:ar ps with
  |none=>rw[ha] at hrow;exact hrow.elim
  |some a=>
   rw[ha] at hrow;simp only[decK] at hrow;obtain⟨hpre,hK⟩:=hrow;refine⟨Qh7 hcal,_,_,?_,hK⟩;intro C S vs RR hW huse hfresh hnames hargs hfin;have hps:=Qtx hW args ps vs.toList (fun m hm=>huse m (Zbx _ hm)) hp hargs;have hWa:=Qxy hW;obtain⟨σ,hσ⟩: ∃σ:Nat->Nat,σ=sgx (fun j=>j) 0 nx:=⟨_,rfl⟩;have hσj: ∀j,σ j=nx+j:=fun j=>by rw[hσ];simp[sgx]
   rw[<-hσ] at hfin;obtain⟨_,r,E,hT,rfl,rfl⟩:=hok (cax a) (fun _=>none) nx (fun r E=>r=(r0 a).ren σ/\E={use:=[],kill:=[],new:=renH σ (H1 a),cnt:=cnt})
    ⟨a,fun j=>j,[],[],hpre,by rw[hca,renL_im],trivial,⟨by simp[domB,hget],by simp[domB,hget],by simp[domB,hget],by simp,by simp[domB,hget]⟩,by rw[hσ],by rw[hσ]⟩
   have hcv:Qa0 S.froz (cax a) vs.toList:=by rw[hca];exact Qafn _ _ ((hle ps a ha).c hps)
   refine hT (frozC S) S.froz vs RR hWa (by simp) (fun n hn=> ?_) (fun n e he m hm hF=> ?_) hcv ?_
   .have:=hfresh n hn
    show (S.h n).map _=none;rw[this];rfl
   .obtain⟨e0,h1,rfl⟩:=Qht he;exact hnames n e0 h1 m hm hF
   intro v S1 hW1 hh1 _ hcv1;have hnew: ∀n e,hget (renH σ (H1 a)) n=some e->Fr nx cnt n/\e.1=true/\scO e.2=true/\ ∀m∈e.2.nms,Fr nx cnt m:=by
    intro n e he;obtain⟨j,e0,h1,h2,rfl⟩:=Qzm he;obtain⟨g1,g2,g3,g4⟩:=hH1 a _ h1;obtain⟨q1,q2⟩:=renO_sc σ e0.2 g3;refine⟨by rw[<-h2,hσj];exact⟨by omega,by omega⟩,g2,q1,fun m hm=> ?_⟩;obtain⟨i,hi,rfl⟩:=q2 m hm
    have:=g4 i hi
    rw[hσj];exact⟨by omega,by omega⟩
   have hsz:S.w.heap.size<=S1.w.heap.size:=hW1.size;have hkeep: ∀b,b<S.w.heap.size->S1.w.heap[b]? =S.w.heap[b]? :=fun b hb=>hW1.keep b hb (fun h=>h)
   have hF0: ∀n,Fr nx cnt n->S.h n=none:=hfresh
   let E':Eff:={use:=rchL h args,kill:=[],new:=renH σ (H1 a),cnt:=cnt}
   have hE': ∀n,E'.appf S.h n=match hget (renH σ (H1 a)) n with
    |some e=>some e
    |none=>S.h n:=fun n=>by simp only[E',Eff.appf];rfl
   have h1h: ∀n,S1.h n=match hget (renH σ (H1 a)) n with
    |some e=>some e
    |none=>S.froz.h n:=fun n=>by rw[hh1];simp only[Eff.appf];rfl
   let S':Env:=⟨fun n=>if nx<=n/\n<nx+cnt then S1.ρ n else S.ρ n,S.ok,E'.appf S.h,S1.w⟩
   have hSh: ∀n,S'.h n=E'.appf S.h n:=fun _=>rfl
   have aF: ∀n,Fr nx cnt n->S'.h n=S1.h n:=by
    intro n hn;rw[hSh,hE',h1h];cases hget (renH σ (H1 a)) n with
    |some e=>rfl
    |none=>
     show S.h n=(S.h n).map _;rw[hF0 n hn];rfl
   have aR: ∀n,Fr nx cnt n->S'.ρ n=S1.ρ n:=fun n hn=>Zao hn
   have oF: ∀n,¬Fr nx cnt n->S'.h n=S.h n:=by
    intro n hn;rw[hSh,hE'];cases hq:hget (renH σ (H1 a)) n with
    |some e=>exact absurd (hnew n e hq).1 hn
    |none=>rfl
   have oR: ∀n,¬Fr nx cnt n->S'.ρ n=S.ρ n:=fun n hn=>Zai hn
   have hp':Pres (fun n=> ¬Fr nx cnt n) S S':=⟨fun b hb=>⟨hb,hkeep b (hW.oks b hb)⟩,fun o ho e' he'=>⟨e',by rw[<-oF o ho];exact he',oR o ho,rfl,rfl⟩⟩;have nF: ∀n e,S.h n=some e-> ¬Fr nx cnt n:=fun n e he hn=>by rw[hF0 n hn] at he;cases he
   have split: ∀o e,S'.h o=some e->(Fr nx cnt o/\S1.h o=some e/\S'.ρ o=S1.ρ o/\e.1=true/\scO e.2=true/\ ∀m∈e.2.nms,Fr nx cnt m)\/(S.h o=some e/\S'.ρ o=S.ρ o):=by
    intro o e he;by_cases hn:Fr nx cnt o
    .left;have h1:S1.h o=some e:=by rw[<-aF o hn];exact he
     have h2:=he;rw[hSh,hE'] at h2;cases hq:hget (renH σ (H1 a)) o with
     |some e1=>
      rw[hq] at h2;obtain rfl:=Zaa h2;exact⟨hn,h1,aR o hn,(hnew o _ hq).2⟩
     |none=>
      rw[hq] at h2;exact absurd hn (nF o e h2)
    .right;exact⟨by rw[<-oF o hn];exact he,oR o hn⟩
   have newB: ∀o e l,S1.h o=some e->S1.ρ o=some l->e.1=true->l.b<S1.w.heap.size/\S.w.heap.size<=l.b:=by
    intro o e l he hl hm;obtain⟨h2,h3⟩:=hW1.loc o e l he hl;rw[hm] at h3;simp only[Zbd] at h3;exact⟨h2,h3.2.elim (fun h=>h) (fun h=>h.elim)⟩
   have hW':Wf C S':=by
    refine⟨hW1.os.trans hW.os,hW1.tape.trans hW.tape,hW1.output.trans hW.output,Zbe hW.size hsz,?_,hW.ok0,hW.ok1,fun b hb=>Zbb (hW.oks b hb) hsz,?_,?_,?_,hW.gl⟩
    .intro b hb hM;exact (hkeep b (Zbb hb hW.size)).trans (hW.keep b hb hM)
    .intro o e he;rcases split o e he with ⟨_,h1,h2,_,h4,h5⟩|⟨h1,h2⟩
     .rw[h2];exact objc_new aF aR rfl _ e.2 h4 h5 (hW1.obj o e h1)
     .rw[h2];exact Qbr hp' (fun lc hl=>hkeep lc.b (hW.loc o e lc h1 hl).1) _ (fun m hm hF=>hnames o e h1 m hm hF) (hW.obj o e h1)
    .intro o e l he hl;rcases split o e he with ⟨_,h1,h2,h3,_⟩|⟨h1,h2⟩
     .rw[h2] at hl;obtain⟨b1,b2⟩:=newB o e l h1 hl h3;refine⟨b1,?_⟩;rw[h3];simp only[Zbd];exact⟨fun hk=>by have:=hW.oks _ hk;omega,.inl (Zbe hW.size b2)⟩
     .rw[h2] at hl;obtain⟨b1,b2⟩:=hW.loc o e l h1 hl;exact⟨Zbb b1 hsz,b2⟩
    .intro o o' e e' l l' he he' hl hl' hb hm;rcases split o e he with ⟨_,h1,h2,h3,_⟩|⟨h1,h2⟩<;>rcases split o' e' he' with ⟨_,k1,k2,k3,_⟩|⟨k1,k2⟩<;>rw[h2] at hl<;>rw[k2] at hl'
     .exact hW1.inj o o' e e' l l' h1 k1 hl hl' hb hm
     .have:=(newB o e l h1 hl h3).2
      have:=(hW.loc o' e' l' k1 hl').1
      omega
     .have:=(newB o' e' l' k1 hl' k3).2
      have:=(hW.loc o e l h1 hl).1
      omega
     .exact hW.inj o o' e e' l l' h1 k1 hl hl' hb hm
   obtain⟨q1,q2⟩:=ren_sc σ (r0 a) (hr0 a).1;refine hfin v S' hW' rfl hp' (Qaep aF aR _ v q1 (fun m hm=> ?_) hcv1);obtain⟨j,hj,rfl⟩:=q2 m hm
   have:=(hr0 a).2 j hj
   rw[hσj];exact⟨by omega,by omega⟩
end Go.Ae
