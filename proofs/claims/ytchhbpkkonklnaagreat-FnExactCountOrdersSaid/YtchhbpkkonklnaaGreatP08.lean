/- Lemmas for fnExactCountOrders_holds. Conditions: none. -/
import Derived.Test.YtchhbpkkonklnaaGreatP07
import Derived.ProofKit
import Derived.SizedLaws
import Derived.OpenShut
set_option linter.all false
set_option maxHeartbeats 8000000
set_option maxRecDepth 100000
namespace Go.Ae
open Go Go.Proofs
section
variable {H:Type}{enc:TypeId×Value->H}{P:Program}{W:World}
def Rds{H:Type}(enc:TypeId×Value->H)(P:Program)(W:World)(t:TypeId){α:Type}(c:α->List D)(Q:α->Prop):Prop:=
 ∀(fuel:Nat) (cs:List Value) (x:DataW H×List MemPlace),DataW.trod enc P W 0 (fun _=>true) true fuel t cs=some x->(x.1.weights P t).all (· <=reachBytes)=true->
  ∃y:α,rdl (fun b=>b<W.heap.size) (fun b=>W.heap[b]?) (c y) cs/\Q y
theorem Rds.to{t:TypeId}{α β:Type}{c:α->List D}{Q:α->Prop}{c':β->List D}{Q':β->Prop}(h:Rds enc P W t c Q)(f:α->β)(hc: ∀y,c' (f y)=c y)(hQ: ∀y,Q y->Q' (f y)):Rds enc P W t c' Q':=by
 intro fuel cs x h1 h2;obtain⟨y,g1,g2⟩:=h fuel cs x h1 h2;exact⟨f y,by rw[hc];exact g1,hQ y g2⟩
theorem Qim{t:TypeId}(ht:P.underlying t=some (.int .i64)):Rds enc P W t (fun n:Int=>[.int .i64 n]) (fun _=>True):=by
 intro fuel cs x h _;obtain⟨n,rfl,_,_⟩:=DataW.trod_int ht h;exact⟨n,⟨_,_,rfl,rfl,rfl⟩,trivial⟩
theorem rds_str{t:TypeId}(ht:P.underlying t=some .string):Rds enc P W t (fun s:ByteArray=>[.str s]) (fun s=>s.size<=140737488355328):=by
 intro fuel cs x h hw;obtain⟨s,rfl,rfl,_⟩:=DataW.trod_string ht h;refine⟨s,⟨_,_,rfl,rfl,rfl⟩,?_⟩;have h1:=ZaR.1 hw s.data.toList.length (by simp[DataW.weights]);rw[Zas,ZaQ] at h1;have h2:s.data.size=s.size:=rfl;have h3:reachBytes<=140737488355328:=by decide
 omega
theorem Qjr{ok:Nat->Prop}{hp:Nat->Option Obj}: ∀(a:List D) (x:List Value) {b:List D} {y:List Value},rdl ok hp a x->rdl ok hp b y->rdl ok hp (a++b) (x++y)
 |[],x,b,y,h1,h2=>by
  simp only[rdl] at h1;subst h1;exact h2
 |d::a,x,b,y,h1,h2=>by
  simp only[rdl] at h1;obtain⟨v,r,rfl,h3,h4⟩:=h1;exact⟨v,r++y,rfl,h3,Qjr a r h4 h2⟩
theorem Qzi{ok:Nat->Prop}{hp:Nat->Option Obj}: ∀(a:List D) (x:List Value) (y:List Value),rdl ok hp a x->rdp ok hp a (x++y)
 |[],x,y,h1=>trivial
 |d::a,x,y,h1=>by
  simp only[rdl] at h1;obtain⟨v,r,rfl,h3,h4⟩:=h1;exact⟨v,r++y,rfl,h3,Qzi a r y h4⟩
theorem pick{α:Type}{R:Nat->α->Prop}: ∀(n:Nat),(∀i,i<n-> ∃y,R i y)-> ∃l:List α,l.length=n/\ ∀i y,l[i]? =some y->R i y
 |0,_=>⟨[],rfl,fun i y h=>by simp at h⟩
 |n+1,h=>by
  obtain⟨l,h1,h2⟩:=pick n (fun i hi=>h i (by omega));obtain⟨y,hy⟩:=h n (by omega);refine⟨l++[y],by simp[h1],fun i z hz=> ?_⟩;rcases Zbu i n with hi|hi
  .rw[ZaI (by omega)] at hz;exact h2 i z hz
  .rw[ZaE (by omega)] at hz
   have:i - l.length=0:=by
    rcases ZcV (i - l.length) with h0|h0
    .exact h0
    .rw[ZaV (by simp;omega)] at hz;cases hz
   rw[this] at hz;obtain rfl:=Zaa hz
   have:i=n:=by omega
   rw[this];exact hy
theorem Qz1{ok:Nat->Prop}{hp:Nat->Option Obj}{α:Type}{c:α->List D}{k:Nat}(hc: ∀y,(c y).length=k): ∀(l:List α) (L:List Value),(∀i y,l[i]? =some y->rdp ok hp (c y) (L.drop (i*k)))->rdr ok hp k (l.map c) L
 |[],L,_=>trivial
 |y::r,L,h=>by
  refine⟨hc y,?_,Qz1 hc r (L.drop k) (fun i z hz=> ?_)⟩
  .have:=h 0 y rfl
   rwa [Zdw,ZbI] at this
  .have:=h (i+1) z hz
   rwa [ZaX,show k+i*k=(i+1)*k by rw[ZbK,Zch,Zeh]]
theorem Qy9{a:Addr}{k:Nat}{cs:List Value}(hk:0<k)(h:W.cells? 0 a k=some cs):a.spot=none/\ ∃vs T fr,W.heap[a.block]? =some (.cells vs T fr)/\ ∃r,vs.toList.drop a.off=cs++r/\cs.length=k:=by
 unfold World.cells? at h;rw[Zam (Zbm _)] at h;have hl:=mapM_some_length h;rw[Zcy] at hl;have hg: ∀i,i<k->W.cell? (a.add i)=cs[i]? :=fun i hi=>mapM_some_get h i i (by rw[ZbR hi])
 have h0:=hg 0 hk;rw[Zac (by omega)] at h0;have hsp:a.spot=none:=by
  cases hs:a.spot with
  |none=>rfl
  |some s=>
   exfalso
   have:(a.add 0).spot.isSome=true:=by
    unfold Addr.add
    split<;>simp_all
   unfold World.cell? at h0;split at h0
   .rw[Zam this] at h0;cases h0
   .cases h0
 refine⟨hsp,?_⟩;obtain⟨b,off,sp⟩:=a;simp only at hsp;subst hsp;have hadd: ∀i,(⟨b,off,none⟩:Addr).add i=⟨b,off+i,none⟩:=fun i=>Qdh b off i
 rw[hadd] at h0;unfold World.cell? at h0;simp only at h0;split at h0
 .rename_i vs T fr hb;simp only[ZcW,Zax,Zbv] at h0;refine⟨vs,T,fr,hb,(vs.toList.drop off).drop k,?_,hl⟩;have hcell: ∀i,i<k->vs[off+i]? =cs[i]? :=by
   intro i hi
   have:=hg i hi
   rw[hadd] at this;simp only[World.cell?,hb,ZcW,Zax,Zbv] at this;exact this
  apply ZbY;intro i;rw[ZbQ,ZaY];rcases Zbu i k with hi|hi
  .rw[ZaI (by omega)];exact hcell i hi
  .rw[ZaE (by omega),ZbQ,ZbQ,ZaY];congr 1;show off+i=off+(k+(i - cs.length));omega
 .cases h0
theorem Qkh{t e:TypeId}{α:Type}{c:α->List D}{Q:α->Prop}{k:Nat}(ht:P.underlying t=some (.slice e))(hk:P.cellsOf e=k)(hk0:0<k)(hb:1<=P.bytesOf e)(hc: ∀y,(c y).length=k)(h:Rds enc P W e c Q):
 Rds enc P W t (fun l:List α=>[.sl false k (l.map c)]) (fun l=> ∀y∈l,Q y):=by
 intro fuel cs x hx hw;rcases DataW.trod_slice ht hx with ⟨rfl,rfl⟩|⟨a,len,cap,elems,rest,m,rfl,rfl,rfl,_,hlc,_,hel,hes,hrs,_⟩
 .exact⟨[],⟨_,_,rfl,.inl ⟨.inl rfl,rfl⟩,rfl⟩,by simp⟩
 obtain⟨hrl,hrs⟩:=hrs rfl;simp only[DataW.weights,ht,Zcm,ZcD,Zah,Zas,ZaM] at hw;obtain⟨w1,w2,_⟩:=hw;have hlen:len<=LIM:=by
  have:=Nat.mul_le_mul_left (elems.length+rest.length) hb
  simp only[reachBytes,LIM] at w1⊢;omega
 by_cases hcap:cap=0
 .subst hcap
  have:len=0:=by omega
  subst this;exact⟨[],⟨_,_,rfl,.inl ⟨.inr ⟨rfl,a,rfl⟩,rfl⟩,rfl⟩,by simp⟩
 have hall: ∀i,i<cap-> ∃cs,W.cells? 0 (a.add (i*k)) k=some cs:=by
  intro i hi;rw[hk] at hes hrs;rcases Zbu i len with h1|h1
  .have:=hes i h1
   rw[Zac (by omega)] at this;cases hq:W.cells? 0 (a.add (i*k)) k with
   |none=>rw[hq] at this;cases this
   |some cs=>exact⟨cs,rfl⟩
  .have:=hrs (i - len) (by omega)
   rw[show len+(i - len)=i by omega,Zac (by omega)] at this;cases hq:W.cells? 0 (a.add (i*k)) k with
   |none=>rw[hq] at this;cases this
   |some cs=>exact⟨cs,rfl⟩
 obtain⟨cs0,hcs0⟩:=hall 0 (by omega);obtain⟨hsp0,vs,T,fr,hheap,_⟩:=Qy9 hk0 hcs0;have hsp:a.spot=none:=by
  cases hs:a.spot with
  |none=>rfl
  |some s=>
   exfalso
   have:(a.add (0*k)).spot.isSome=true:=by
    unfold Addr.add
    split<;>simp_all
   rw[hsp0] at this;cases this
 obtain⟨b,off,sp⟩:=a;simp only at hsp;subst hsp;have hadd: ∀i,(⟨b,off,none⟩:Addr).add i=⟨b,off+i,none⟩:=fun i=>Qdh b off i
 rw[hadd] at hheap;simp only at hheap;have hpk: ∀i,i<len-> ∃y:α,rdp (fun b=>b<W.heap.size) (fun b=>W.heap[b]?) (c y) ((vs.toList.drop off).drop (i*k))/\Q y:=by
  intro i hi;have h1:=hes i hi;rw[hk,Zac (by omega)] at h1;cases hq:W.cells? 0 ((⟨b,off,none⟩:Addr).add (i*k)) k with
  |none=>rw[hq] at h1;cases h1
  |some ci=>
   rw[hq,Zbj] at h1;obtain⟨_,vs',T',fr',hh,r,hr,_⟩:=Qy9 hk0 hq;rw[hadd] at hh hr;simp only at hh hr;rw[hheap] at hh;obtain⟨rfl,rfl,rfl⟩:vs=vs'/\T=T'/\fr=fr':=by
    have:=Zaa hh
    simp only[Obj.cells.injEq] at this;exact this
   have hwi:(elems[i].1.weights P e).all (· <=reachBytes)=true:=by
    rw[ZaR] at w2⊢;intro n hn;refine w2 n ?_
    have: ∀(l:List (DataW H)) (d:DataW H),d∈l-> ∀n∈d.weights P e,n∈DataW.weightsAll P e l:=by
     intro l;induction l with
     |nil=>intro d hd;cases hd
     |cons z r ih=>
      intro d hd n hn;simp only[DataW.weightsAll,Zao];rcases ZaB.1 hd with rfl|hd
      .exact .inl hn
      .exact .inr (ih d hd n hn)
    exact this _ elems[i].1 (ZaK.2 ⟨elems[i],ZbX _,rfl⟩) n hn
   obtain⟨y,g1,g2⟩:=h m ci elems[i] h1 hwi;refine⟨y,?_,g2⟩;rw[ZaX,hr];exact Qzi _ _ _ g1
 obtain⟨l,hl,hly⟩:=pick (R:=fun i y=>rdp (fun b=>b<W.heap.size) (fun b=>W.heap[b]?) (c y) ((vs.toList.drop off).drop (i*k))/\Q y) len hpk;have hblk:b<W.heap.size:=by
  rcases Zbu b W.heap.size with h|h
  .exact h
  .rw[Zcc h] at hheap;cases hheap
 refine⟨l,⟨_,_,rfl,.inr ⟨b,off,cap,vs,T,fr,by rw[ZaM,hl],by simp,by rw[ZaM,hl];exact hlc,by rw[ZaM,hl];exact hlen,hblk,hheap,Qz1 hc l _ (fun i y hy=>(hly i y hy).1)⟩,rfl⟩,fun y hy=> ?_⟩;obtain⟨i,hi⟩:=List.getElem?_of_mem hy;exact (hly i y hi).2
theorem rds_s1{t:TypeId}{α0:Type}{c0:α0->List D}{Q0:α0->Prop}{f0:Field}(ht:P.underlying t=some (.struct #[f0]))(o0:f0.offset=0)(hn:P.cellsOf t=P.cellsOf f0.type)(h0:Rds enc P W f0.type c0 Q0):
 Rds enc P W t (fun y:α0=>c0 (y)) (fun y=>Q0 (y)):=by
 intro fuel cs x h hw;obtain⟨xs,m,rfl,rfl,hl,hxl,hf⟩:=DataW.trod_struct ht h;have hx: ∀i,i<1-> ∃z,xs[i]? =some z:=fun i hi=>⟨_,Zac (by rw[hxl];exact hi)⟩
 simp only[DataW.weights,ht] at hw;obtain⟨z0,e0⟩:=hx 0 (by decide);obtain⟨y0,r0,q0⟩:=h0 m _ z0 ((hf 0 f0 rfl).trans e0) (ZaR.2 fun k hk=>ZaR.1 hw k (DataW.weights_mem_each (j:=0) (t:=f0.type) (d:=z0.1) rfl (by rw[ZaG,e0];rfl) k hk));rw[o0] at r0;refine⟨(y0),?_,q0⟩;simp only;have e:cs=(cs.drop (0)).take (P.cellsOf f0.type):=by
  have hlen:cs.length=P.cellsOf f0.type:=hl.trans hn;rw[ZbI,Zav (by omega)]
 rw[e];exact r0
theorem Qqt{t:TypeId}{α0:Type}{c0:α0->List D}{Q0:α0->Prop}{f0:Field}{α1:Type}{c1:α1->List D}{Q1:α1->Prop}{f1:Field}(ht:P.underlying t=some (.struct #[f0,f1]))(o0:f0.offset=0)(o1:f1.offset=P.cellsOf f0.type)(hn:P.cellsOf t=P.cellsOf f0.type+P.cellsOf f1.type)(h0:Rds enc P W f0.type c0 Q0)(h1:Rds enc P W f1.type c1 Q1):
 Rds enc P W t (fun y:α0×α1=>c0 (y.1)++(c1 (y.2))) (fun y=>Q0 (y.1)/\Q1 (y.2)):=by
 intro fuel cs x h hw;obtain⟨xs,m,rfl,rfl,hl,hxl,hf⟩:=DataW.trod_struct ht h;have hx: ∀i,i<2-> ∃z,xs[i]? =some z:=fun i hi=>⟨_,Zac (by rw[hxl];exact hi)⟩
 simp only[DataW.weights,ht] at hw;obtain⟨z0,e0⟩:=hx 0 (by decide);obtain⟨y0,r0,q0⟩:=h0 m _ z0 ((hf 0 f0 rfl).trans e0) (ZaR.2 fun k hk=>ZaR.1 hw k (DataW.weights_mem_each (j:=0) (t:=f0.type) (d:=z0.1) rfl (by rw[ZaG,e0];rfl) k hk));rw[o0] at r0;obtain⟨z1,e1⟩:=hx 1 (by decide);obtain⟨y1,r1,q1⟩:=h1 m _ z1 ((hf 1 f1 rfl).trans e1) (ZaR.2 fun k hk=>ZaR.1 hw k (DataW.weights_mem_each (j:=1) (t:=f1.type) (d:=z1.1) rfl (by rw[ZaG,e1];rfl) k hk));rw[o1] at r1;refine⟨(y0,y1),?_,q0,q1⟩;simp only;have e:cs=(cs.drop (0)).take (P.cellsOf f0.type)++((cs.drop (P.cellsOf f0.type)).take (P.cellsOf f1.type)):=by
  have hlen:cs.length=P.cellsOf f0.type+P.cellsOf f1.type:=hl.trans hn;rw[ZbI];rw[Zav (l:=cs.drop (P.cellsOf f0.type)) (by rw[Zay];omega)];rw[ZbH]
 rw[e];exact Qjr _ _ r0 (r1)
theorem rds_s3{t:TypeId}{α0:Type}{c0:α0->List D}{Q0:α0->Prop}{f0:Field}{α1:Type}{c1:α1->List D}{Q1:α1->Prop}{f1:Field}{α2:Type}{c2:α2->List D}{Q2:α2->Prop}{f2:Field}(ht:P.underlying t=some (.struct #[f0,f1,f2]))(o0:f0.offset=0)(o1:f1.offset=P.cellsOf f0.type)(o2:f2.offset=P.cellsOf f0.type+P.cellsOf f1.type)(hn:P.cellsOf t=P.cellsOf f0.type+P.cellsOf f1.type+P.cellsOf f2.type)(h0:Rds enc P W f0.type c0 Q0)(h1:Rds enc P W f1.type c1 Q1)(h2:Rds enc P W f2.type c2 Q2):
 Rds enc P W t (fun y:α0×α1×α2=>c0 (y.1)++(c1 (y.2.1)++(c2 (y.2.2)))) (fun y=>Q0 (y.1)/\Q1 (y.2.1)/\Q2 (y.2.2)):=by
 intro fuel cs x h hw;obtain⟨xs,m,rfl,rfl,hl,hxl,hf⟩:=DataW.trod_struct ht h;have hx: ∀i,i<3-> ∃z,xs[i]? =some z:=fun i hi=>⟨_,Zac (by rw[hxl];exact hi)⟩
 simp only[DataW.weights,ht] at hw;obtain⟨z0,e0⟩:=hx 0 (by decide);obtain⟨y0,r0,q0⟩:=h0 m _ z0 ((hf 0 f0 rfl).trans e0) (ZaR.2 fun k hk=>ZaR.1 hw k (DataW.weights_mem_each (j:=0) (t:=f0.type) (d:=z0.1) rfl (by rw[ZaG,e0];rfl) k hk));rw[o0] at r0;obtain⟨z1,e1⟩:=hx 1 (by decide);obtain⟨y1,r1,q1⟩:=h1 m _ z1 ((hf 1 f1 rfl).trans e1) (ZaR.2 fun k hk=>ZaR.1 hw k (DataW.weights_mem_each (j:=1) (t:=f1.type) (d:=z1.1) rfl (by rw[ZaG,e1];rfl) k hk));rw[o1] at r1;obtain⟨z2,e2⟩:=hx 2 (by decide);obtain⟨y2,r2,q2⟩:=h2 m _ z2 ((hf 2 f2 rfl).trans e2) (ZaR.2 fun k hk=>ZaR.1 hw k (DataW.weights_mem_each (j:=2) (t:=f2.type) (d:=z2.1) rfl (by rw[ZaG,e2];rfl) k hk));rw[o2] at r2;refine⟨(y0,y1,y2),?_,q0,q1,q2⟩;simp only;have e:cs=(cs.drop (0)).take (P.cellsOf f0.type)++((cs.drop (P.cellsOf f0.type)).take (P.cellsOf f1.type)++((cs.drop (P.cellsOf f0.type+P.cellsOf f1.type)).take (P.cellsOf f2.type))):=by
  have hlen:cs.length=P.cellsOf f0.type+P.cellsOf f1.type+P.cellsOf f2.type:=hl.trans hn;rw[ZbI];rw[Zav (l:=cs.drop (P.cellsOf f0.type+P.cellsOf f1.type)) (by rw[Zay];omega)];rw[show cs.drop (P.cellsOf f0.type+P.cellsOf f1.type)=(cs.drop (P.cellsOf f0.type)).drop (P.cellsOf f1.type) by rw[ZaX],ZbH];rw[ZbH]
 rw[e];exact Qjr _ _ r0 (Qjr _ _ r1 (r2))
end
end Go.Ae
