/- Lemmas. Conditions: none. -/
import Derived.Test.YtofkcjmhpnkjhaaGreatP07
import Derived.ProofKit
import Derived.SizedLaws
import Derived.OpenShut
import Derived.Test.YtofkcjmhpnkjhaaGreatRows
import Derived.Carry
import Derived.WalkKit
set_option linter.all false
set_option maxHeartbeats 8000000
set_option maxRecDepth 100000
namespace Go.Ae
open Go Go.Proofs
section
variable {H:Type}{enc:TypeId×Value->H}{P:Program}{W:World}
def Rds{H:Type}(enc:TypeId×Value->H)(P:Program)(W:World)(t:TypeId){α:Type}(c:α->List D)(Q:α->Prop):Prop:=
 ∀(fuel:Nat) (cs:List Value) (x:DataW H×List MemPlace),DataW.trod enc P W 0 (fun _=>true) true fuel t cs=some x->(x.1.weights P t).all (· <=reachBytes)=true->
  ∃y:α,rdl (fun b=>b<W.heap.size) (fun b=>W.heap[b]?) (c y) cs/\Q y
theorem Qzi{ok:Nat->Prop}{hp:Nat->Option Obj}: ∀(a:List D) (x:List Value) (y:List Value),rdl ok hp a x->rdp ok hp a (x++y)
 |[],x,y,h1=>trivial
 |d::a,x,y,h1=>by
  simp only[rdl] at h1;obtain⟨v,r,rfl,h3,h4⟩:=h1;exact⟨v,r++y,rfl,h3,Qzi a r y h4⟩
theorem pick{α:Type}{R:Nat->α->Prop}: ∀(n:Nat),(∀i,i<n-> ∃y,R i y)-> ∃l:List α,l.length=n/\ ∀i y,l[i]? =some y->R i y
 |0,_=>⟨[],rfl,fun i y h=>by simp at h⟩
 |n+1,h=>by
  obtain⟨l,h1,h2⟩:=pick n (fun i hi=>h i (by omega));obtain⟨y,hy⟩:=h n (by omega);refine⟨l++[y],by simp[h1],fun i z hz=> ?_⟩;rcases Zbp i n with hi|hi
  .rw[Zav (by omega)] at hz;exact h2 i z hz
  .rw[ZaC (by omega)] at hz
   have:i - l.length=0:=by
    rcases Zdg (i - l.length) with h0|h0
    .exact h0
    .rw[ZaY (by simp;omega)] at hz;cases hz
   rw[this] at hz;obtain rfl:=Zac hz
   have:i=n:=by omega
   rw[this];exact hy
theorem Qz1{ok:Nat->Prop}{hp:Nat->Option Obj}{α:Type}{c:α->List D}{k:Nat}(hc: ∀y,(c y).length=k): ∀(l:List α) (L:List Value),(∀i y,l[i]? =some y->rdp ok hp (c y) (L.drop (i*k)))->rdr ok hp k (l.map c) L
 |[],L,_=>trivial
 |y::r,L,h=>by
  refine⟨hc y,?_,Qz1 hc r (L.drop k) (fun i z hz=> ?_)⟩
  .have:=h 0 y rfl
   rwa [ZdK,Zci] at this
  .have:=h (i+1) z hz
   rwa [Zbh,show k+i*k=(i+1)*k by rw[ZbQ,Zct,ZeB]]
theorem Qy9{a:Addr}{k:Nat}{cs:List Value}(hk:0<k)(h:W.cells? 0 a k=some cs):a.spot=none/\ ∃vs T fr,W.heap[a.block]? =some (.cells vs T fr)/\ ∃r,vs.toList.drop a.off=cs++r/\cs.length=k:=by
 unfold World.cells? at h;rw[Zao (ZaU _)] at h;have hl:=mapM_some_length h;rw[Zcs] at hl;have hg: ∀i,i<k->W.cell? (a.add i)=cs[i]? :=fun i hi=>mapM_some_get h i i (by rw[ZbF hi])
 have h0:=hg 0 hk;rw[Zad (by omega)] at h0;have hsp:a.spot=none:=by
  cases hs:a.spot with
  |none=>rfl
  |some s=>
   exfalso
   have:(a.add 0).spot.isSome=true:=by
    unfold Addr.add
    split<;>simp_all
   unfold World.cell? at h0;split at h0
   .rw[Zao this] at h0;cases h0
   .cases h0
 refine⟨hsp,?_⟩;obtain⟨b,off,sp⟩:=a;simp only at hsp;subst hsp;have hadd: ∀i,(⟨b,off,none⟩:Addr).add i=⟨b,off+i,none⟩:=fun i=>Qdh b off i
 rw[hadd] at h0;unfold World.cell? at h0;simp only at h0;split at h0
 .rename_i vs T fr hb;simp only[ZcT,ZaB,Zby] at h0;refine⟨vs,T,fr,hb,(vs.toList.drop off).drop k,?_,hl⟩;have hcell: ∀i,i<k->vs[off+i]? =cs[i]? :=by
   intro i hi
   have:=hg i hi
   rw[hadd] at this;simp only[World.cell?,hb,ZcT,ZaB,Zby] at this;exact this
  apply ZbM;intro i;rw[Zbz,Zbe];rcases Zbp i k with hi|hi
  .rw[Zav (by omega)];exact hcell i hi
  .rw[ZaC (by omega),Zbz,Zbz,Zbe];congr 1;show off+i=off+(k+(i - cs.length));omega
 .cases h0
theorem rds_slice{t e:TypeId}{α:Type}{c:α->List D}{Q:α->Prop}{k:Nat}(ht:P.underlying t=some (.slice e))(hk:P.cellsOf e=k)(hk0:0<k)(hb:1<=P.bytesOf e)(hc: ∀y,(c y).length=k)(h:Rds enc P W e c Q):
 Rds enc P W t (fun l:List α=>[.sl false k (l.map c)]) (fun l=> ∀y∈l,Q y):=by
 intro fuel cs x hx hw;rcases DataW.trod_slice ht hx with ⟨rfl,rfl⟩|⟨a,len,cap,elems,rest,m,rfl,rfl,rfl,_,hlc,_,hel,hes,hrs,_⟩
 .exact⟨[],⟨_,_,rfl,.inl ⟨.inl rfl,rfl⟩,rfl⟩,by simp⟩
 obtain⟨hrl,hrs⟩:=hrs rfl;simp only[DataW.weights,ht,ZcA,ZbY,Zah,Zar,Zbr] at hw;obtain⟨w1,w2,_⟩:=hw;have hlen:len<=LIM:=by
  have:=Nat.mul_le_mul_left (elems.length+rest.length) hb
  simp only[reachBytes,LIM] at w1⊢;omega
 by_cases hcap:cap=0
 .subst hcap
  have:len=0:=by omega
  subst this;exact⟨[],⟨_,_,rfl,.inl ⟨.inr ⟨rfl,a,rfl⟩,rfl⟩,rfl⟩,by simp⟩
 have hall: ∀i,i<cap-> ∃cs,W.cells? 0 (a.add (i*k)) k=some cs:=by
  intro i hi;rw[hk] at hes hrs;rcases Zbp i len with h1|h1
  .have:=hes i h1
   rw[Zad (by omega)] at this;cases hq:W.cells? 0 (a.add (i*k)) k with
   |none=>rw[hq] at this;cases this
   |some cs=>exact⟨cs,rfl⟩
  .have:=hrs (i - len) (by omega)
   rw[show len+(i - len)=i by omega,Zad (by omega)] at this;cases hq:W.cells? 0 (a.add (i*k)) k with
   |none=>rw[hq] at this;cases this
   |some cs=>exact⟨cs,rfl⟩
 obtain⟨cs0,hcs0⟩:=hall 0 (by omega);obtain⟨hsp0,vs,T,fr,hheap,_⟩:=Qy9 hk0 hcs0;have hsp:a.spot=none:=by
  cases hs:a.spot with
  |none=>rfl
  |some s=>
   exfalso
   have:(a.add (0*k)).spot.isSome=true:=by
    unfold Addr.add
    split<;>simp_all
   rw[hsp0] at this;cases this
 obtain⟨b,off,sp⟩:=a;simp only at hsp;subst hsp;have hadd: ∀i,(⟨b,off,none⟩:Addr).add i=⟨b,off+i,none⟩:=fun i=>Qdh b off i
 rw[hadd] at hheap;simp only at hheap;have hpk: ∀i,i<len-> ∃y:α,rdp (fun b=>b<W.heap.size) (fun b=>W.heap[b]?) (c y) ((vs.toList.drop off).drop (i*k))/\Q y:=by
  intro i hi;have h1:=hes i hi;rw[hk,Zad (by omega)] at h1;cases hq:W.cells? 0 ((⟨b,off,none⟩:Addr).add (i*k)) k with
  |none=>rw[hq] at h1;cases h1
  |some ci=>
   rw[hq,ZbK] at h1;obtain⟨_,vs',T',fr',hh,r,hr,_⟩:=Qy9 hk0 hq;rw[hadd] at hh hr;simp only at hh hr;rw[hheap] at hh;obtain⟨rfl,rfl,rfl⟩:vs=vs'/\T=T'/\fr=fr':=by
    have:=Zac hh
    simp only[Obj.cells.injEq] at this;exact this
   have hwi:(elems[i].1.weights P e).all (· <=reachBytes)=true:=by
    rw[Zbv] at w2⊢;intro n hn;refine w2 n ?_
    have: ∀(l:List (DataW H)) (d:DataW H),d∈l-> ∀n∈d.weights P e,n∈DataW.weightsAll P e l:=by
     intro l;induction l with
     |nil=>intro d hd;cases hd
     |cons z r ih=>
      intro d hd n hn;simp only[DataW.weightsAll,Zan];rcases Zaw.1 hd with rfl|hd
      .exact .inl hn
      .exact .inr (ih d hd n hn)
    exact this _ elems[i].1 (ZaJ.2 ⟨elems[i],Zcf _,rfl⟩) n hn
   obtain⟨y,g1,g2⟩:=h m ci elems[i] h1 hwi;refine⟨y,?_,g2⟩;rw[Zbh,hr];exact Qzi _ _ _ g1
 obtain⟨l,hl,hly⟩:=pick (R:=fun i y=>rdp (fun b=>b<W.heap.size) (fun b=>W.heap[b]?) (c y) ((vs.toList.drop off).drop (i*k))/\Q y) len hpk;have hblk:b<W.heap.size:=by
  rcases Zbp b W.heap.size with h|h
  .exact h
  .rw[Zcd h] at hheap;cases hheap
 refine⟨l,⟨_,_,rfl,.inr ⟨b,off,cap,vs,T,fr,by rw[Zbr,hl],by simp,by rw[Zbr,hl];exact hlc,by rw[Zbr,hl];exact hlen,hblk,hheap,Qz1 hc l _ (fun i y hy=>(hly i y hy).1)⟩,rfl⟩,fun y hy=> ?_⟩;obtain⟨i,hi⟩:=List.getElem?_of_mem hy;exact (hly i y hi).2
end
section
variable {H:Type}{enc:TypeId×Value->H}{W:World}
end
end Go.Ae
namespace Go.Ae
open Go Go.Proofs Go.RowKit
def env0(W:World):Env:=⟨fun _=>none,fun b=>b<W.heap.size,fun _=>none,W⟩
def ctx0(W:World):Ctx:=Ctx.mk0 W (fun _=>False) (fun b=>b<W.heap.size)
theorem wf0(W:World)(hg:GP (fun b=>b<W.heap.size) (fun b=>W.heap[b]?)):Wf (ctx0 W) (env0 W):=
 ⟨rfl,rfl,rfl,Zap _,fun _ _ _=>rfl,fun _ h=>h,fun _ h=> .inl h,fun _ h=>h,fun o e h=>(by cases h),fun o e l h=>(by cases h),fun o o' e e' l l' h=>(by cases h),hg.mono fun _ _ hb ho=>⟨⟨hb,fun h=>h.elim⟩,ho⟩⟩
theorem call_law{P:Program}{g:FuncId}{row:Row}(hok:Qas P g row){W:World}(hg:GP (fun b=>b<W.heap.size) (fun b=>W.heap[b]?)){args:Array Value}{ds:List D}(hrow:row (ds.map .im) (fun _=>none) 0 (fun r _=>r= .im (.bool true)))
 (hargs:rdl (fun b=>b<W.heap.size) (fun b=>W.heap[b]?) ds args.toList):Calls P g args W fun e W'=>e= .returned (.bool true)/\Below W.heap.size W W':=by
 obtain⟨_,r,E,hT,rfl⟩:=hok _ _ _ _ hrow;refine hT (ctx0 W) (env0 W) args _ (wf0 W hg) (fun _ _=>rfl) (fun _ _=>rfl) (fun n e h=>(by cases h)) ((Qa6 _ _).2 hargs) ?_;intro v S' hW' _ _ hc;simp only[conc,rd] at hc;subst hc;exact⟨rfl,hW'.os,hW'.tape,hW'.output,hW'.size,fun k hk=>hW'.keep k hk (fun h=>h)⟩
end Go.Ae
namespace Go.Ae
open Go.Proofs
def Qgu(p:Qae)(k:Int):Qae×Qae:=(⟨p.X/k,p.Y/k⟩,⟨p.X % k,p.Y % k⟩)
def l02Index.fv(a:Qaa×Int):Bool:=(fun s t=>Qau t 0 (s.Tiles.length - 1)) (a.1) (a.2)
def l02Index.row:Row:=vK (b2 (qP 2 Qaa.d_le) qI) rB (fun a=>True) l02Index.fv
def l02Index.q:=vKq (R:=l02Index.row) rfl
theorem l02Index.ok:Qas Tryz.prog 80 l02Index.row:=by
 refine vw (tC l00In.ok tN) Tryz.func80 rfl (by kernel_rfl) ?_;intro a hpre;simp only[Tryz.f80,Option.getD];simp(maxSteps:=9^9)(disch:=omega)only[ZZ,simprocAttr,rch,l02Index.fv,l00In.q,l00In.fv];intro h;rw[Qak (by omega) (by omega)]
def isTile.fv(a:Qaa×Int):Bool:=(fun s t=>Qau t 0 (s.Tiles.length - 1)) (a.1) (a.2)
def isTile.row:Row:=vK (b2 (qR Qaa.d_le) qI) rB (fun a=>True) isTile.fv
def isTile.q:=vKq (R:=isTile.row) rfl
theorem isTile.ok:Qas Tryz.prog 31 isTile.row:=by
 refine vw (tC isIndex.ok tN) Tryz.func31 rfl (by kernel_rfl) ?_;intro a hpre;simp only[Tryz.f31,Option.getD];simp(maxSteps:=9^9)(disch:=omega)only[ZZ,simprocAttr,rch,isTile.fv,isIndex.q,isIndex.fv];intro h;simp only[I64];omega
def opposite_.fv(a:Int):Int:=(fun d=>(d+2) % 4) a
def opposite_.row:Row:=vK (b1 qI) rI (fun a=>0<=a/\a<=3) opposite_.fv
def opposite_.q:=vKq (R:=opposite_.row) rfl
theorem opposite_.ok:Qas Tryz.prog 88 opposite_.row:=by
 refine vw tN Tryz.func88 rfl (by kernel_rfl) ?_;intro a hpre;simp only[Tryz.f88,Option.getD];simp(maxSteps:=9^9)(disch:=omega)only[ZZ,simprocAttr,rch,opposite_.fv];rw[Qak (by omega) (by omega)]
 have:(0:Int)<=a+2:=by omega
 rw[Zck this]
def l01Dir.fv(a:Int):Bool:=(fun d=>Qau d 0 3) a
def l01Dir.row:Row:=vK (b1 qI) rB (fun a=>True) l01Dir.fv
def l01Dir.q:=vKq (R:=l01Dir.row) rfl
theorem l01Dir.ok:Qas Tryz.prog 148 l01Dir.row:=by
 refine vw (tC l00In.ok tN) Tryz.func148 rfl (by kernel_rfl) ?_;intro a hpre;simp only[Tryz.f148,Option.getD];simp(maxSteps:=9^9)(disch:=omega)only[ZZ,simprocAttr,rch,l01Dir.fv,l00In.q,l00In.fv]
def Opposite_.fv(a:Int):Int:=(fun d=>(d+2) % 4) a
def Opposite_.row:Row:=vK (b1 qI) rI (fun a=>0<=a/\a<=3) Opposite_.fv
def Opposite_.q:=vKq (R:=Opposite_.row) rfl
theorem Opposite_.ok:Qas Tryz.prog 126 Opposite_.row:=by
 refine vw (tC l01Dir.ok tN) Tryz.func126 rfl (by kernel_rfl) ?_;intro a hpre;simp only[Tryz.f126,Option.getD];simp(maxSteps:=9^9)(disch:=omega)only[ZZ,simprocAttr,rch,Opposite_.fv,l01Dir.q,l01Dir.fv];have h:Qau a 0 3=true:=by simp[Qau,hpre]
 rw[h,Zaj (by simp),Qak (by omega) (by omega)]
 have:(0:Int)<=a+2:=by omega
 rw[Zck this]
def l07Temperature.fv(a:Int):Bool:=(fun t=>Qau t 1 16) a
def l07Temperature.row:Row:=vK (b1 qI) rB (fun a=>True) l07Temperature.fv
def l07Temperature.q:=vKq (R:=l07Temperature.row) rfl
theorem l07Temperature.ok:Qas Tryz.prog 49 l07Temperature.row:=by
 refine vw (tC l00In.ok tN) Tryz.func49 rfl (by kernel_rfl) ?_;intro a hpre;simp only[Tryz.f49,Option.getD];simp(maxSteps:=9^9)(disch:=omega)only[ZZ,simprocAttr,rch,l07Temperature.fv,l00In.q,l00In.fv]
def isTemperature.fv(a:Int):Bool:=(fun t=>Qau t 1 16) a
def isTemperature.row:Row:=vK (b1 qI) rB (fun a=>True) isTemperature.fv
def isTemperature.q:=vKq (R:=isTemperature.row) rfl
theorem isTemperature.ok:Qas Tryz.prog 97 isTemperature.row:=by
 refine vw (tC within_.ok tN) Tryz.func97 rfl (by kernel_rfl) ?_;intro a hpre;simp only[Tryz.f97,Option.getD];simp(maxSteps:=9^9)(disch:=omega)only[ZZ,simprocAttr,rch,isTemperature.fv,within_.q,within_.fv]
def setP(s:Qaa):Prop:=s.Glues.length<=140737488355328/\(∀t∈s.Tiles,t.Sides.length=4/\ ∀g∈t.Sides,0<=g/\g<=s.Glues.length)/\ ∀g∈s.Glues,1<=g.Strength/\g.Strength<=4
def Qqu(s:Qaa)(tile dir:Int):Int:=((((s.Tiles[tile.toNat]?).map Tile.Sides).getD [])[dir.toNat]?).getD 0
def Qe1(s:Qaa)(g:Int):Int:=if 0<g then ((s.Glues[(g - 1).toNat]?).map Glue.Strength).getD 0 else 0
def Qfn(s:Qaa)(a dir b:Int):Int:=if Qqu s a dir=Qqu s b ((dir+2) % 4) then Qe1 s (Qqu s a dir) else 0
def Qcs(s:Qaa)(t:Int):Prop:=0<=t/\t<s.Tiles.length
def dirOk(d:Int):Prop:=0<=d/\d<=3
theorem Qpn{s:Qaa}{t d:Int}{x:Tile}{g:Int}(hx:s.Tiles[t.toNat]? =some x)(hg:x.Sides[d.toNat]? =some g):Qqu s t d=g:=by
 simp[Qqu,hx,hg]
theorem glue_eq{s:Qaa}{g:Int}{x:Glue}(h:0<g)(hx:s.Glues[(g - 1).toNat]? =some x):Qe1 s g=x.Strength:=by
 simp only[Qe1,Zao h,hx];rfl
theorem glue_no{s:Qaa}{g:Int}(h: ¬0<g):Qe1 s g=0:=by
 simp[Qe1,h]
theorem Qio{s:Qaa}(h:setP s){t:Int}{x:Tile}(hx:s.Tiles[t.toNat]? =some x):x.Sides.length=4:=(h.2.1 x (Zaf hx)).1
theorem Qvv{s:Qaa}(h:setP s){t d:Int}{x:Tile}{g:Int}(hx:s.Tiles[t.toNat]? =some x)(hg:x.Sides[d.toNat]? =some g):0<=g/\g<=s.Glues.length:=(h.2.1 x (Zaf hx)).2 g (Zaf hg)
def l02Strength.fv(a:Qaa×Int):Int:=(Qe1) (a.1) (a.2)
def l02Strength.row:Row:=vK (b2 (qP 2 Qaa.d_le) qI) rI (fun a=>0<=a.2/\a.2<=a.1.Glues.length/\a.1.Glues.length<=140737488355328) l02Strength.fv
def l02Strength.q:=vKq (R:=l02Strength.row) rfl
theorem l02Strength.ok:Qas Tryz.prog 127 l02Strength.row:=by
 refine vw tN Tryz.func127 rfl (by kernel_rfl) ?_;intro a hpre;simp only[Tryz.f127,Option.getD];simp(maxSteps:=9^9)(disch:=omega)only[ZZ,simprocAttr,rch,l02Strength.fv];obtain⟨h1,h2,h3⟩:=hpre
 split<;>rename_i h
 .simp[Qe1,h]
 .rw[Qak (by omega) (by omega)];exact⟨by omega,by omega,fun x hx=>(glue_eq (by omega) hx).symm⟩
def strength_.fv(a:Qaa×Int×Int):Int:=(fun s t d=>Qe1 s (Qqu s t d)) (a.1) (a.2.1) (a.2.2)
def strength_.row:Row:=vK (b3 (qR Qaa.d_le) qI qI) rI (fun a=>setP a.1/\Qcs a.1 a.2.1/\dirOk a.2.2) strength_.fv
def strength_.q:=vKq (R:=strength_.row) rfl
theorem strength_.ok:Qas Tryz.prog 89 strength_.row:=by
 refine vw tN Tryz.func89 rfl (by kernel_rfl) ?_;intro a hpre;simp only[Tryz.f89,Option.getD];simp(maxSteps:=9^9)(disch:=omega)only[ZZ,simprocAttr,rch,strength_.fv];obtain⟨h1,h2,h3⟩:=hpre;refine⟨h2.1,h2.2,fun x hx=>⟨h3.1,?_,fun g hg=> ?_⟩⟩
 .rw[Qio h1 hx];have:=h3.2;omega
 .have hgl:=Qvv h1 hx hg
  have:=h1.1
  rw[Qpn hx hg]
  split<;>rename_i h
  .rw[Qak (by omega) (by omega)];exact⟨by omega,by omega,fun y hy=>(glue_eq h hy).symm⟩
  .exact (glue_no h).symm
def bond_.rc:D->Option (Int):=vInt
def bond_.re:Int->D:=D.int .i64
theorem bond_.rle: ∀d b,bond_.rc d=some b->Le d (bond_.re b):=Qa3
def bond_.ar:List PK->Option (Qaa×Int×Int×Int):=a4 (kR Qaa.d) kI kI kI
def bond_.fv(a:Qaa×Int×Int×Int):Int:=(Qfn) (a.1) (a.2.1) (a.2.2.1) (a.2.2.2)
def bond_.row:Row:=vK (b4 (qR Qaa.d_le) qI qI qI) (RK.mk bond_.rc bond_.re bond_.rle) (fun a=>setP a.1/\Qcs a.1 a.2.1/\dirOk a.2.2.1/\Qcs a.1 a.2.2.2) bond_.fv
def bond_.q:=vKq (R:=bond_.row) rfl
theorem bond_.ok:Qas Tryz.prog 57 bond_.row:=by
 refine vw (tC opposite_.ok (tC strength_.ok tN)) Tryz.func57 rfl (by kernel_rfl) ?_;intro a hpre;simp only[Tryz.f57,Option.getD];simp(maxSteps:=9^9)(disch:=omega)only[ZZ,simprocAttr,rch,bond_.fv,bond_.rc,opposite_.q,opposite_.fv,strength_.q,strength_.fv];obtain⟨h1,h2,h3,h4⟩:=hpre;have h5:=h3.1;have h6:=h3.2;refine⟨h2.1,h2.2,fun x hx=>⟨h3.1,by rw[Qio h1 hx];omega,fun g hg=>⟨h4.1,h4.2,fun y hy=>⟨h3,by omega,by rw[Qio h1 hy];omega,fun g' hg'=> ?_⟩⟩⟩⟩;simp only[Qfn,Qpn hx hg,Qpn hy hg'];split
 .exact⟨⟨h1,h2,h3⟩,rfl⟩
 .rfl
def l02Bond.fv(a:Qaa×Int×Int×Int):Int:=(Qfn) (a.1) (a.2.1) (a.2.2.1) (a.2.2.2)
def l02Bond.row:Row:=vK (b4 (qP 2 Qaa.d_le) qI qI qI) rI (fun a=>setP a.1/\Qcs a.1 a.2.1/\dirOk a.2.2.1/\Qcs a.1 a.2.2.2) l02Bond.fv
def l02Bond.q:=vKq (R:=l02Bond.row) rfl
theorem l02Bond.ok:Qas Tryz.prog 94 l02Bond.row:=by
 refine vw (tC Opposite_.ok (tC l02Strength.ok tN)) Tryz.func94 rfl (by kernel_rfl) ?_;intro a hpre;simp only[Tryz.f94,Option.getD];simp(maxSteps:=9^9)(disch:=omega)only[ZZ,simprocAttr,rch,l02Bond.fv,Opposite_.q,Opposite_.fv,l02Strength.q,l02Strength.fv];obtain⟨h1,h2,h3,h4⟩:=hpre;have h5:=h3.1;have h6:=h3.2;refine⟨h2.1,h2.2,fun x hx=>⟨h3.1,by rw[Qio h1 hx];omega,fun g hg=>⟨h4.1,h4.2,fun y hy=>⟨h3,by omega,by rw[Qio h1 hy];omega,fun g' hg'=> ?_⟩⟩⟩⟩;have hgl:=Qvv h1 hx hg
 have:=h1.1
 simp only[Qfn,Qpn hx hg,Qpn hy hg']
 split<;>rename_i h
 .first|rw[Zaj h]|rfl
 .rw[Zao (Zbc.1 h)];exact⟨⟨hgl.1,hgl.2,h1.1⟩,rfl⟩
def Qaz:Option Qae->List Qab->Bool
 |_,[]=>true
 |q,x::r=>Qbi x.At && (Qau x.Tile 0 159 && ((match q with|none=>true|some p=>Qap p x.At) && Qaz (some x.At) r))
theorem Qbq(q:Option Qae)(x:Qab)(r:List Qab):Qaz q (x::r)=(Qbi x.At && (Qau x.Tile 0 159 && ((match q with|none=>true|some p=>Qap p x.At) && Qaz (some x.At) r))):=by cases q<;>rfl
theorem Qik(q:Option Qae):Qaz q []=true:=by cases q<;>rfl
def Qdb(l:List Qab)(k:Nat):Option Qae:=if k=0 then none else (l[k - 1]?).map (·.At)
theorem Qn2{l:List Qab}{k:Nat}{x:Qab}(hx:l[k]? =some x):Qdb l (k+1)=some x.At:=by
 simp[Qdb,hx]
theorem Qd3{A:Type}{l:List A}{k:Nat}{x:A}(hx:l[k]? =some x):l.drop k=x::l.drop (k+1):=by
 have hl:k<l.length:=(Zai.1 hx).1;rw[Zcv hl];rw[Zad hl] at hx;rw[Zac hx]
def hasForm_.fv(a:Asm):Bool:=(fun a=>Qaz none a.Tiles && decide (a.Tiles.length<=500)) a
def hasForm_.row:Row:=vK (b1 (qR Asm.d_le)) rB (fun a=>True) hasForm_.fv
def hasForm_.q:=vKq (R:=hasForm_.row) rfl
def Yab:=J @hasForm_.fv.eq_1<|J @ValidPoint.q<|J @ValidPoint.fv.eq_1<|J @isIndex.q<|J @isIndex.fv.eq_1<|J @impl_LessPoint.q @impl_LessPoint.fv.eq_1
theorem hasForm_.ok:Qas Tryz.prog 130 hasForm_.row:=by
 refine vw (tC ValidPoint.ok (tC isIndex.ok (tC impl_LessPoint.ok tN))) Tryz.func130 rfl (by kernel_rfl) ?_;intro a hpre;simp only[Tryz.f130,Option.getD];simp(maxSteps:=9^9)(disch:=omega)only[ZZ,simprocAttr,rch,Yab];intro hlen;refine Qay.old ⟨{k:Nat//k<=a.Tiles.length/\Qaz (Qdb a.Tiles k) (a.Tiles.drop k)=Qaz none a.Tiles},fun k=>⟨[(8,.im (.int .i64 k.1)),(7,.im (.int .i64 a.Tiles.length)),(6,.im (.sl false 3 (a.Tiles.map Qab.c))),(1,.ptr 0 0),(2,.im (.bool false))],[(0,(true,.cells 30 [.im (.sl false 3 (a.Tiles.map Qab.c))]))],1⟩,fun k=>a.Tiles.length - k.1,fun k=>⟨by simp[Qad.good,belT,belH,Qam,AV.bel,belL],Zap _⟩,⟨⟨0,by simp[Qdb]⟩,by simp(maxSteps:=9^9)(disch:=omega)only[ZZ,simprocAttr,rch,Yab,sub]⟩,fun k=> ?_⟩;obtain⟨k,hk1,hk2⟩:=k;simp(maxSteps:=9^9)(disch:=omega)only[ZZ,simprocAttr,rch,Yab,sub,Qal];refine⟨fun hk=>⟨hk,fun x hx=> ?_⟩,fun hk=> ?_⟩
 .rw[Qd3 hx,Qbq] at hk2;have hno:(Qbi x.At && (Qau x.Tile 0 159 && (match Qdb a.Tiles k with|none=>true|some p=>Qap p x.At)))=false->false=(Qaz none a.Tiles && decide (a.Tiles.length<=500)):=by
   intro h;rw[<-hk2];revert h;cases Qbi x.At<;>cases Qau x.Tile 0 159<;>cases (match Qdb a.Tiles k with|none=>true|some p=>Qap p x.At)<;>simp
  have hyes:(Qbi x.At && (Qau x.Tile 0 159 && (match Qdb a.Tiles k with|none=>true|some p=>Qap p x.At)))=true->Qaz (Qdb a.Tiles (k+1)) (a.Tiles.drop (k+1))=Qaz none a.Tiles:=by
   intro h;rw[<-hk2,Qn2 hx];simp only[Zah] at h;simp[h.1,h.2.1,h.2.2]
  refine⟨fun h1=>⟨by simp[I64],⟨fun h2=>⟨fun h3=> ?_,fun h3=> ?_⟩,fun h2=>hno (by simp[h2])⟩⟩,fun h1=>hno (by simp[h1])⟩
  .rw[Qak (x:=(k:Int) - 1) (by omega) (by omega)];refine⟨by omega,by omega,fun y hy=> ?_⟩;have hp:Qdb a.Tiles k=some y.At:=by
    have e:((k:Int) - 1).toNat=k - 1:=by omega
    rw[e] at hy;simp[Qdb,hy,show k≠0 by omega]
   rw[hp] at hno hyes;exact⟨fun h4=>hno (by simp[h4]),fun h4=>Qb6 hk (by omega) ⟨by omega,hyes (by simp[h1,h2];simpa using h4)⟩⟩
  .have hp:Qdb a.Tiles k=none:=by simp[Qdb,show k=0 by omega]
   rw[hp] at hyes;exact Qb6 hk (by omega) ⟨by omega,hyes (by simp[h1,h2])⟩
 .rw[Zax (by omega),Qik] at hk2;simp only[<-hk2,Zbj]
  grind
def l03Form.fv(a:Asm):Bool:=(fun a=>Qaz none a.Tiles && decide (a.Tiles.length<=500)) a
def l03Form.row:Row:=vK (b1 (qP 1 Asm.d_le)) rB (fun a=>True) l03Form.fv
def l03Form.q:=vKq (R:=l03Form.row) rfl
def Yac:=J @l03Form.fv.eq_1<|J @l01Point.q<|J @l01Point.fv.eq_1<|J @l00In.q<|J @l00In.fv.eq_1<|J @l_LessPoint.q @l_LessPoint.fv.eq_1
theorem l03Form.ok:Qas Tryz.prog 79 l03Form.row:=by
 refine vw (tC l01Point.ok (tC l00In.ok (tC l_LessPoint.ok tN))) Tryz.func79 rfl (by kernel_rfl) ?_;intro a hpre;simp only[Tryz.f79,Option.getD];simp(maxSteps:=9^9)(disch:=omega)only[ZZ,simprocAttr,rch,Yac];intro hlen;simp only[Qal];refine⟨fun h=> ?_,fun h=> ?_⟩
 .have: ¬a.Tiles.length<=500:=by omega
  simp[this]
 refine Qay.old ⟨{k:Nat//k<=a.Tiles.length/\Qaz (Qdb a.Tiles k) (a.Tiles.drop k)=Qaz none a.Tiles},fun k=>⟨[(3,.im (.int .i64 k.1)),(0,.ptr 0 0),(2,.im (.bool false))],[(0,(false,.view [.sl false 3 (a.Tiles.map Qab.c)]))],1⟩,fun k=>a.Tiles.length - k.1,fun k=>⟨by simp[Qad.good,belT,belH,Qam,AV.bel,belL],Zap _⟩,⟨⟨0,by simp[Qdb]⟩,by simp(maxSteps:=9^9)(disch:=omega)only[ZZ,simprocAttr,rch,Yac,sub]⟩,fun k=> ?_⟩;obtain⟨k,hk1,hk2⟩:=k;simp(maxSteps:=9^9)(disch:=omega)only[ZZ,simprocAttr,rch,Yac,sub,Qal];intro _;refine⟨fun hk=>⟨hk,fun x hx=> ?_⟩,fun hk=> ?_⟩
 .rw[Qd3 hx,Qbq] at hk2;have hno:(Qbi x.At && (Qau x.Tile 0 159 && (match Qdb a.Tiles k with|none=>true|some p=>Qap p x.At)))=false->false=(Qaz none a.Tiles && decide (a.Tiles.length<=500)):=by
   intro h;rw[<-hk2];revert h;cases Qbi x.At<;>cases Qau x.Tile 0 159<;>cases (match Qdb a.Tiles k with|none=>true|some p=>Qap p x.At)<;>simp
  have hyes:(Qbi x.At && (Qau x.Tile 0 159 && (match Qdb a.Tiles k with|none=>true|some p=>Qap p x.At)))=true->Qaz (Qdb a.Tiles (k+1)) (a.Tiles.drop (k+1))=Qaz none a.Tiles:=by
   intro h;rw[<-hk2,Qn2 hx];simp only[Zah] at h;simp[h.1,h.2.1,h.2.2]
  refine⟨fun h1=>⟨fun h2=>⟨fun h3=> ?_,fun h3=> ?_⟩,fun h2=>hno (by simp[h2])⟩,fun h1=>hno (by simp[h1])⟩
  .rw[Qak (x:=(k:Int) - 1) (by omega) (by omega)];refine⟨by omega,by omega,fun y hy=> ?_⟩;have hp:Qdb a.Tiles k=some y.At:=by
    have e:((k:Int) - 1).toNat=k - 1:=by omega
    rw[e] at hy;simp[Qdb,hy,show k≠0 by omega]
   rw[hp] at hno hyes;exact⟨fun h4=>hno (by simp[h4]),fun h4=>Qb6 hk (by omega) ⟨by omega,hyes (by simp[h1,h2];simpa using h4)⟩⟩
  .have hp:Qdb a.Tiles k=none:=by simp[Qdb,show k=0 by omega]
   rw[hp] at hyes;exact Qb6 hk (by omega) ⟨by omega,hyes (by simp[h1,h2])⟩
 .rw[Zax (by omega),Qik] at hk2;simp only[<-hk2,Zbj]
  grind
theorem Asm_eq(a b:Asm):a=b↔a.Tiles=b.Tiles:=by
 obtain⟨x⟩:=a;obtain⟨y⟩:=b;simp
theorem Qrb(x y:Qab):(x.At.X==y.At.X && (x.At.Y==y.At.Y && x.Tile==y.Tile))=decide (x=y):=by
 obtain⟨⟨a,b⟩,c⟩:=x;obtain⟨⟨d,e⟩,f⟩:=y;rw[ZcN];simp[ZeI]
def l03Same.fv(a:Asm×Asm):Bool:=(fun a b=>decide (a=b)) (a.1) (a.2)
def l03Same.row:Row:=vK (b2 (qP 1 Asm.d_le) (qP 1 Asm.d_le)) rB (fun a=>True) l03Same.fv
def l03Same.q:=vKq (R:=l03Same.row) rfl
theorem l03Same.ok:Qas Tryz.prog 35 l03Same.row:=by
 refine vw tN Tryz.func35 rfl (by kernel_rfl) ?_;intro a hpre;simp only[Tryz.f35,Option.getD];simp(maxSteps:=9^9)(disch:=omega)only[ZZ,simprocAttr,rch,l03Same.fv];simp only[Qal];refine⟨fun hl=> ?_,fun hl=> ?_⟩
 .have:a.1≠a.2:=fun h=>hl (by rw[h])
  simp[this]
 have hl:a.1.Tiles.length=a.2.Tiles.length:=by omega
 refine Qay.old ⟨{k:Nat//k<=a.1.Tiles.length/\a.1.Tiles.take k=a.2.Tiles.take k},fun k=>⟨[(5,.im (.int .i64 k.1)),(4,.im (.bool false)),(0,.ptr 0 0),(1,.ptr 1 0)],[(0,(false,.view [.sl false 3 (a.1.Tiles.map Qab.c)])),(1,(false,.view [.sl false 3 (a.2.Tiles.map Qab.c)]))],2⟩,fun k=>a.1.Tiles.length - k.1,fun k=>⟨by simp[Qad.good,belT,belH,Qam,AV.bel,belL],Zap _⟩,⟨⟨0,by simp⟩,by simp(maxSteps:=9^9)(disch:=omega)only[ZZ,simprocAttr,rch,l03Same.fv,sub]⟩,fun k=> ?_⟩;obtain⟨k,hk1,hk2⟩:=k;simp(maxSteps:=9^9)(disch:=omega)only[ZZ,simprocAttr,rch,l03Same.fv,sub,Qal];intro h1;refine⟨fun hk=>⟨hk,fun x hx=>⟨by omega,fun y hy=> ?_⟩⟩,fun hk=> ?_⟩
 .obtain⟨g1,g2⟩:=Qew hl hk1 hk2 hx hy;simp(maxSteps:=9^9)(disch:=omega)only[ZZ,simprocAttr,rch,l03Same.fv,sub,Qrb];refine⟨fun h=> ?_,fun h=>Qb6 hk h1 ⟨by omega,g1 (by simpa using h)⟩⟩
  have:=g2 (by simpa using h)
  simp[Asm_eq,this]
 .rw[ZaL (by omega),ZaL (by omega)] at hk2;simp[Asm_eq,hk2]
def Qaw{A:Type}(p:A->Bool):Nat->List A->Int
 |_,[]=> -1
 |i,x::r=>if p x=true then i else Qaw p (i+1) r
def l02Glue.fv(a:Qaa×ByteArray):Int:=(fun s n=>Qaw (fun g=>decide (g.Name=n)) 0 s.Glues+1) (a.1) (a.2)
def l02Glue.row:Row:=vK (b2 (qP 2 Qaa.d_le) qT) rI (fun a=>True) l02Glue.fv
def l02Glue.q:=vKq (R:=l02Glue.row) rfl
theorem l02Glue.ok:Qas Tryz.prog 77 l02Glue.row:=by
 refine vw tN Tryz.func77 rfl (by kernel_rfl) ?_;intro a hpre;simp only[Tryz.f77,Option.getD];simp(maxSteps:=9^9)(disch:=omega)only[ZZ,simprocAttr,rch,l02Glue.fv];refine Qay.old ⟨{k:Nat//k<=a.1.Glues.length/\Qaw (fun g:Glue=>decide (g.Name=a.2)) k (a.1.Glues.drop k)=Qaw (fun g:Glue=>decide (g.Name=a.2)) 0 a.1.Glues},fun k=>⟨[(5,.im (.int .i64 k.1)),(4,.im (.int .i64 0)),(0,.ptr 0 0),(1,.im (.str a.2))],[(0,(false,.view [.sl false 2 (a.1.Glues.map Glue.c),.sl false 2 (a.1.Tiles.map Tile.c)]))],1⟩,fun k=>a.1.Glues.length - k.1,fun k=>⟨by simp[Qad.good,belT,belH,Qam,AV.bel,belL],Zap _⟩,⟨⟨0,by simp⟩,by simp(maxSteps:=9^9)(disch:=omega)only[ZZ,simprocAttr,rch,l02Glue.fv,sub]⟩,fun k=> ?_⟩;obtain⟨k,hk1,hk2⟩:=k;simp(maxSteps:=9^9)(disch:=omega)only[ZZ,simprocAttr,rch,l02Glue.fv,sub,Qal];intro hn;refine⟨fun hk=>⟨hk,fun x hx=> ?_⟩,fun hk=> ?_⟩
 .rw[Qd3 hx,Qaw] at hk2;refine⟨fun h=> ?_,fun h=>Qb6 hk hn ⟨by omega,by rw[<-hk2,Zaj (by simpa using h)]⟩⟩;rw[Zao (by simpa using h)] at hk2;rw[<-hk2,Qak (by omega) (by omega)]
 .rw[Zax (by omega),Qaw] at hk2;omega
def VA1.fv(a:Qab×Qaa):Bool:=(fun x s=> !Qau x.Tile 0 (s.Tiles.length - 1)) (a.1) (a.2)
def VA1.row:Row:=vK (b2 (qR Qab.d_le) (qP 2 Qaa.d_le)) rB (fun a=>True) VA1.fv
def VA1.q:=vKq (R:=VA1.row) rfl
theorem VA1.ok:Qas Tryz.prog 132 VA1.row:=by
 refine vw (tC isTile.ok tN) Tryz.func132 rfl (by kernel_rfl) ?_;intro a hpre;simp only[Tryz.f132,Option.getD];simp(maxSteps:=9^9)(disch:=omega)only[ZZ,simprocAttr,rch,VA1.fv,isTile.q,isTile.fv]
def IdxVA.ar:List PK->Option ((List Qab)×Qaa)
 |[.val (.sl _ _ x0),.val (.fn 132 [] [.ref x1_0])]=>(decR Qab.d x0).bind fun y0=>(Qaa.d (x1_0.take 2)).bind fun y1_0=>some (y0,y1_0)
 |_=>none
def IdxVA.ae(a:(List Qab)×Qaa):List PK:=[.val (.sl false 3 (a.1.map Qab.c)),.val (.fn 132 [] [.ref (Qaa.c a.2)])]
theorem IdxVA.le: ∀ps a,IdxVA.ar ps=some a->LeKL ps (IdxVA.ae a):=by
 intro ps a h;unfold IdxVA.ar at h;split at h
 .simp only[ZaM,Zae] at h;obtain⟨y0,h0,y1_0,h1_0,rfl⟩:=h;exact⟨Qbf (Qa2 Qab.d_le _ _ h0) (by simp only[ZaJ];rintro r ⟨y,_,rfl⟩;rfl),Qos ⟨Qil (LeP.trans_take (Qaa.d_le _ _ h1_0)),trivial⟩,trivial⟩
 .cases h
def IdxVA.fv(a:(List Qab)×Qaa):Int:=(fun l s=>Qaw (fun x=> !Qau x.Tile 0 (s.Tiles.length - 1)) 0 l) (a.1) (a.2)
def IdxVA.row:Row:=vrow IdxVA.ar (fun a=>True) (fun a=>(D.int .i64) (IdxVA.fv a))
def IdxVA.q:=vq IdxVA.row rfl
theorem IdxVA.ok:Qas Tryz.prog 153 IdxVA.row:=by
 refine Qaj Qaq (tC VA1.ok tN) Tryz.func153 rfl (by kernel_rfl) (by kernel_rfl) (ar:=IdxVA.ar) (ae:=IdxVA.ae) IdxVA.le (n:=2) (fun _=>rfl) (by decide) (rc:=(vInt)) (re:=(D.int .i64)) (Qa3) (f:=IdxVA.fv) ?_;intro a hpre;simp only[Tryz.f153,Option.getD];simp(maxSteps:=9^9)(disch:=omega)only[ZZ,simprocAttr,rch,IdxVA.ae,IdxVA.fv,VA1.q,VA1.fv];intro hn;refine Qay.old ⟨{k:Nat//k<=a.1.length/\Qaw (fun x:Qab=> !Qau x.Tile 0 (a.2.Tiles.length - 1)) k (a.1.drop k)=Qaw (fun x:Qab=> !Qau x.Tile 0 (a.2.Tiles.length - 1)) 0 a.1},fun k=>⟨[(8,.im (.int .i64 k.1)),(7,.im (.int .i64 a.1.length)),(6,.im (.sl false 3 (a.1.map Qab.c))),(4,.im (.int .i64 0)),(0,.im (.sl false 3 (a.1.map Qab.c))),(1,.im (.fn 132 [] [.ref (Qaa.c a.2)]))],[],0⟩,fun k=>a.1.length - k.1,fun k=>⟨by simp[Qad.good,belT,belH,Qam,AV.bel,belL],Zap _⟩,⟨⟨0,by simp⟩,by simp(maxSteps:=9^9)(disch:=omega)only[ZZ,simprocAttr,rch,IdxVA.ae,IdxVA.fv,VA1.q,VA1.fv,sub]⟩,fun k=> ?_⟩;obtain⟨k,hk1,hk2⟩:=k;simp(maxSteps:=9^9)(disch:=omega)only[ZZ,simprocAttr,rch,IdxVA.ae,IdxVA.fv,VA1.q,VA1.fv,sub,Qal];refine⟨fun hk=>⟨hk,fun x hx=> ?_⟩,fun hk=> ?_⟩
 .rw[Qd3 hx,Qaw] at hk2;refine⟨fun h=> ?_,fun h=>Qb6 hk hn ⟨by omega,by rw[<-hk2,Zaj (by simpa using h)]⟩⟩;rw[Zao (by simpa using h)] at hk2;exact hk2
 .rw[Zax (by omega),Qaw] at hk2;exact hk2
theorem Qyg{A:Type}(p:A->Bool): ∀(l:List A) (i:Nat),(0<=Qaw p i l↔l.any p=true)/\ -1<=Qaw p i l/\Qaw p i l<(i+l.length:Nat)\/(l=[]/\Qaw p i l= -1):=by
 intro l;induction l with
 |nil=>intro i;exact .inr ⟨rfl,rfl⟩
 |cons x r ih=>
  intro i;refine .inl ?_;simp only[Qaw,List.any_cons,ZaE]
  split<;>rename_i h
  .simp[h];omega
  .rcases ih (i+1) with ⟨h1,h2,h3⟩|⟨rfl,h2⟩
   .simp only[ZcV] at h;rw[h,Zef];exact⟨h1,h2,by omega⟩
   .simp[h2,h];omega
theorem idx_any{A:Type}(p:A->Bool)(l:List A):decide (0<=Qaw p 0 l)=l.any p:=by
 rw[ZcN];rcases Qyg p l 0 with ⟨h1,_⟩|⟨rfl,h2⟩
 .simpa using h1
 .simp[h2]
def ContVA.ar:List PK->Option ((List Qab)×Qaa)
 |[.val (.sl _ _ x0),.val (.fn 132 [] [.ref x1_0])]=>(decR Qab.d x0).bind fun y0=>(Qaa.d (x1_0.take 2)).bind fun y1_0=>some (y0,y1_0)
 |_=>none
def ContVA.ae(a:(List Qab)×Qaa):List PK:=[.val (.sl false 3 (a.1.map Qab.c)),.val (.fn 132 [] [.ref (Qaa.c a.2)])]
theorem ContVA.le: ∀ps a,ContVA.ar ps=some a->LeKL ps (ContVA.ae a):=by
 intro ps a h;unfold ContVA.ar at h;split at h
 .simp only[ZaM,Zae] at h;obtain⟨y0,h0,y1_0,h1_0,rfl⟩:=h;exact⟨Qbf (Qa2 Qab.d_le _ _ h0) (by simp only[ZaJ];rintro r ⟨y,_,rfl⟩;rfl),Qos ⟨Qil (LeP.trans_take (Qaa.d_le _ _ h1_0)),trivial⟩,trivial⟩
 .cases h
def ContVA.fv(a:(List Qab)×Qaa):Bool:=(fun l s=>l.any (fun x=> !Qau x.Tile 0 (s.Tiles.length - 1))) (a.1) (a.2)
def ContVA.row:Row:=vrow ContVA.ar (fun a=>True) (fun a=>(D.bool) (ContVA.fv a))
def ContVA.q:=vq ContVA.row rfl
theorem ContVA.ok:Qas Tryz.prog 131 ContVA.row:=by
 refine Qaj Qaq (tC IdxVA.ok tN) Tryz.func131 rfl (by kernel_rfl) (by kernel_rfl) (ar:=ContVA.ar) (ae:=ContVA.ae) ContVA.le (n:=2) (fun _=>rfl) (by decide) (rc:=(Qa8)) (re:=(D.bool)) (Qat) (f:=ContVA.fv) ?_;intro a hpre;simp only[Tryz.f131,Option.getD];simp(maxSteps:=9^9)(disch:=omega)only[ZZ,simprocAttr,rch,ContVA.ae,ContVA.fv,IdxVA.q,IdxVA.ar,IdxVA.fv];exact idx_any _ _
def l03Ok.fv(a:Qaa×Asm):Bool:=(fun s a=>(Qaz none a.Tiles && decide (a.Tiles.length<=500)) && a.Tiles.all (fun x=>Qau x.Tile 0 (s.Tiles.length - 1))) (a.1) (a.2)
def l03Ok.row:Row:=vK (b2 (qP 2 Qaa.d_le) (qP 1 Asm.d_le)) rB (fun a=>True) l03Ok.fv
def l03Ok.q:=vKq (R:=l03Ok.row) rfl
def Yad:=J @l03Ok.fv.eq_1<|J @l03Form.q<|J @l03Form.fv.eq_1<|J @l02Index.q @l02Index.fv.eq_1
theorem l03Ok.ok:Qas Tryz.prog 48 l03Ok.row:=by
 refine vw (tC l03Form.ok (tC l02Index.ok tN)) Tryz.func48 rfl (by kernel_rfl) ?_;intro a hpre;simp only[Tryz.f48,Option.getD];simp(maxSteps:=9^9)(disch:=omega)only[ZZ,simprocAttr,rch,Yad];simp only[Qal];refine⟨fun h=>by simp[h],fun h=> ?_⟩;simp only[ZaZ] at h;refine Qay.old ⟨{k:Nat//k<=a.2.Tiles.length/\(a.2.Tiles.drop k).all (fun x=>Qau x.Tile 0 (a.1.Tiles.length - 1))=a.2.Tiles.all (fun x=>Qau x.Tile 0 (a.1.Tiles.length - 1))},fun k=>⟨[(5,.im (.int .i64 k.1)),(4,.im (.bool false)),(0,.ptr 0 0),(1,.ptr 1 0)],[(0,(false,.view (Qaa.c a.1))),(1,(false,.view (Asm.c a.2)))],2⟩,fun k=>a.2.Tiles.length - k.1,fun k=>⟨by simp[Qad.good,belT,belH,Qam,AV.bel,belL],Zap _⟩,⟨⟨0,by simp⟩,by simp(maxSteps:=9^9)(disch:=omega)only[ZZ,simprocAttr,rch,Yad,sub]⟩,fun k=> ?_⟩;obtain⟨k,hk1,hk2⟩:=k;simp(maxSteps:=9^9)(disch:=omega)only[ZZ,simprocAttr,rch,Yad,sub,Qal];intro hn;refine⟨fun hk=>⟨hk,fun x hx=> ?_⟩,fun hk=> ?_⟩
 .rw[Qd3 hx,ZcA] at hk2;refine⟨fun h1=> ?_,fun h1=>Qb6 hk hn ⟨by omega,?_⟩⟩
  .rw[h1] at hk2;simp only[Zbu] at hk2;rw[h,<-hk2];rfl
  .simp only[ZaZ] at h1;rw[h1,Zbj] at hk2;exact hk2
 .rw[Zax (by omega)] at hk2;rw[h,<-hk2];rfl
theorem Qeu{a b c:Qae}(h1:Qap a b=true)(h2:Qap b c=true):Qap a c=true:=by
 simp only[Qap,ZbX,Zah,Zar] at*;omega
theorem Qku(a:Qae):Qap a a=false:=by simp[Qap]
theorem Qe4: ∀(l:List Qab) (q:Option Qae),Qaz q l=true->(∀p,q=some p-> ∀(i:Nat) (x:Qab),l[i]? =some x->Qap p x.At=true)/\
 ∀(i j:Nat) (x y:Qab),i<j->l[i]? =some x->l[j]? =some y->Qap x.At y.At=true
 |[],q,_=>⟨fun _ _ i x h=>by simp at h,fun i j x y _ h=>by simp at h⟩
 |z::r,q,h=>by
  rw[Qbq] at h;simp only[Zah] at h;obtain⟨_,_,h3,h4⟩:=h;obtain⟨i1,i2⟩:=Qe4 r (some z.At) h4;refine⟨?_,?_⟩
  .rintro p rfl i x hx;cases i with
   |zero=>
    simp only[ZaV,Zae] at hx;subst hx;exact h3
   |succ i=>
    simp only[Zba] at hx;exact Qeu h3 (i1 _ rfl i x hx)
  .intro i j x y hij hx hy;cases j with
   |zero=>omega
   |succ j=>
    simp only[Zba] at hy;cases i with
    |zero=>
     simp only[ZaV,Zae] at hx;subst hx;exact i1 _ rfl j y hy
    |succ i=>
     simp only[Zba] at hx;exact i2 i j x y (by omega) hx hy
theorem Qtf{A:Type}(p:A->Bool): ∀(l:List A) (o k:Nat) (x:A),l[k]? =some x->p x=true->(∀i y,i<k->l[i]? =some y->p y=false)->Qaw p o l=((o+k:Nat):Int)
 |[],o,k,x,h,_,_=>by simp at h
 |z::r,o,k,x,h,hp,hn=>by
  simp only[Qaw];cases k with
  |zero=>
   simp only[ZaV,Zae] at h;subst h;rw[Zao hp];rfl
  |succ k=>
   have:=hn 0 z (by omega) (by simp)
   rw[Zaj (by simp[this])];rw[Qtf p r (o+1) k x (by simpa using h) hp (fun i y hi hy=>hn (i+1) y (by omega) (by simpa using hy))];congr 1;omega
theorem Qrf{A:Type}(p:A->Bool): ∀(l:List A) (o:Nat),(∀(i:Nat) (y:A),l[i]? =some y->p y=false)->Qaw p o l= -1
 |[],o,_=>rfl
 |z::r,o,hn=>by
  simp only[Qaw]
  have:=hn 0 z (by simp)
  rw[Zaj (by simp[this])];exact Qrf p r (o+1) (fun i y hy=>hn (i+1) y (by simpa using hy))
def l03Index.fv(a:Asm×Qae):Int:=(fun a p=>Qaw (fun x=>decide (x.At=p)) 0 a.Tiles) (a.1) (a.2)
def l03Index.row:Row:=vK (b2 (qP 1 Asm.d_le) (qR Qae.d_le)) rI (fun a=>Qaz none a.1.Tiles=true) l03Index.fv
def l03Index.q:=vKq (R:=l03Index.row) rfl
def Yae:=J @l03Index.fv.eq_1 (J @l_LessPoint.q @l_LessPoint.fv.eq_1)
theorem l03Index.ok:Qas Tryz.prog 124 l03Index.row:=by
 refine vw (tC l_LessPoint.ok tN) Tryz.func124 rfl (by kernel_rfl) ?_;intro a hpre;simp only[Tryz.f124,Option.getD];simp(maxSteps:=9^9)(disch:=omega)only[ZZ,simprocAttr,rch,Yae];intro hn;refine Qay.old ⟨{p:Nat×Nat//p.1<=p.2/\p.2<=a.1.Tiles.length/\(∀i x,i<p.1->a.1.Tiles[i]? =some x->Qap x.At a.2=true)/\(∀i x,p.2<=i->a.1.Tiles[i]? =some x->Qap x.At a.2=false)},fun p=>⟨[(5,.im (.int .i64 p.1.1)),(6,.im (.int .i64 p.1.2)),(4,.im (.int .i64 0)),(3,.ptr 1 0),(0,.ptr 0 0)],[(1,(true,.cells 69 [.im (.int .i64 a.2.X),.im (.int .i64 a.2.Y)])),(0,(false,.view [.sl false 3 (a.1.Tiles.map Qab.c)]))],2⟩,fun p=>p.1.2 - p.1.1,fun p=>⟨by simp[Qad.good,belT,belH,Qam,AV.bel,belL],Zap _⟩,⟨⟨(0,a.1.Tiles.length),by simp,by simp,by simp,?_⟩,by simp(maxSteps:=9^9)(disch:=omega)only[ZZ,simprocAttr,rch,Yae,sub]⟩,fun p=> ?_⟩
 .intro i x hi hx
  have:=(Zai.1 hx).1
  simp only at hi;omega
 obtain⟨⟨lo,hi⟩,h1,h2,h3,h4⟩:=p;simp only at h1 h2 h3 h4;simp(maxSteps:=9^9)(disch:=omega)only[ZZ,simprocAttr,rch,Yae,sub,Qal];obtain⟨_,hsort⟩:=Qe4 _ _ hpre;have hne: ∀(i:Nat) (x:Qab),i<lo->a.1.Tiles[i]? =some x->x.At≠a.2:=by
  intro i x hi hx he
  have:=h3 i x hi hx
  rw[he,Qku] at this;cases this
 refine⟨fun hlt=> ?_,fun hlt=>⟨fun hl=>⟨hl,fun x hx=>⟨fun he=> ?_,fun he=> ?_⟩⟩,fun hl=> ?_⟩⟩
 .have hm:IntKind.wrap .i64 ((IntKind.wrap .i64 ((lo:Int)+hi)).tdiv 2)=(((lo+hi)/2:Nat):Int):=by
   rw[Qak (x:=(lo:Int)+hi) (by omega) (by omega),Zdy (by omega),Qak (by omega) (by omega)];omega
  rw[hm];refine⟨by omega,by omega,fun x hx=>⟨fun hb=> ?_,fun hb=> ?_⟩⟩
  .rw[Zam] at hx;refine⟨⟨((lo+hi)/2+1,hi),by simp only;omega,h2,fun i y hi' hy=> ?_,h4⟩,by simp only;omega,?_,rfl⟩
   .simp only at hi';rcases Zbp i ((lo+hi)/2) with h|h
    .exact Qeu (hsort i _ y x h hy hx) hb
    .have:i=(lo+hi)/2:=by omega
     subst this;rw[hx] at hy;exact Zac hy▸hb
   .rw[Qak (by omega) (by omega)];simp only;omega
  .rw[Zam] at hx;refine⟨⟨(lo,(lo+hi)/2),by simp only;omega,by simp only;omega,h3,fun i y hi' hy=> ?_⟩,by simp only;omega,rfl,rfl⟩;simp only at hi';rcases Zbp ((lo+hi)/2) i with h|h
   .cases hl:Qap y.At a.2 with
    |false=>rfl
    |true=>exact absurd (Qeu (hsort _ i x y h hx hy) hl) hb
   .have:i=(lo+hi)/2:=by omega
    subst this;rw[hx] at hy;obtain rfl:=Zac hy;simpa using hb
 .have hxe:x.At=a.2:=by
   obtain⟨e1,e2⟩:=he;have e1:x.At.X=a.2.X:=by simpa using e1
   have e2:x.At.Y=a.2.Y:=by simpa using e2
   rw[<-Qae.eta x.At,<-Qae.eta a.2,e1,e2]
  rw[Qtf _ a.1.Tiles 0 lo x hx (by simp[hxe]) (fun i y hi hy=>by simp[hne i y hi hy])];simp
 .refine (Qrf _ _ _ ?_).symm;intro i y hy;rcases Zdu i lo with h|h|h
  .simp[hne i y h hy]
  .subst h;rw[hx] at hy;obtain rfl:=Zac hy;simp only[Zbb];intro h9;exact he (by simp[h9])
  .simp only[Zbb];intro h9;have h10:=hsort lo i x y h hx hy;rw[h9] at h10
   have:=h4 lo x (by omega) hx
   rw[this] at h10;cases h10
 .refine (Qrf _ _ _ ?_).symm;intro i y hy
  have:=(Zai.1 hy).1
  simp[hne i y (by omega) hy]
def Qfz(p:Qae)(t:Int):Bool->List Qab->List Qab
 |_,[]=>[]
 |false,x::r=>if Qap p x.At=true then ⟨p,t⟩::x::Qfz p t true r else x::Qfz p t false r
 |true,x::r=>x::Qfz p t true r
def Qcx(p:Qae):List Qab->Bool
 |[]=>false
 |x::r=>if Qap p x.At=true then true else Qcx p r
def putA(a:Asm)(p:Qae)(t:Int):Asm:=⟨Qfz p t false a.Tiles++(if Qcx p a.Tiles=true then [] else [⟨p,t⟩])⟩
theorem Qpu(p:Qae)(t:Int): ∀(l:List Qab),Qfz p t true l=l
 |[]=>rfl
 |x::r=>by simp only[Qfz,Qpu p t r]
theorem Qiz(p:Qae)(t:Int)(x:Qab): ∀(l:List Qab),Qfz p t false (l++[x])=Qfz p t false l++(if Qcx p l=true then [x] else if Qap p x.At=true then [⟨p,t⟩,x] else [x])
 |[]=>by simp only[Zbi,Qfz,Qcx];split<;>simp[Qfz]
 |y::r=>by
  simp only[ZaA,Qfz,Qcx];split
  .rw[Qpu,Qpu];simp
  .rw[Qiz p t x r];simp
theorem Qfy(p:Qae)(x:Qab): ∀(l:List Qab),Qcx p (l++[x])=(Qcx p l||Qap p x.At)
 |[]=>by simp only[Zbi,Qcx];split<;>simp_all
 |y::r=>by
  simp only[ZaA,Qcx];split
  .simp
  .exact Qfy p x r
theorem Qua(p:Qae)(t:Int): ∀(l:List Qab),(Qfz p t false l).length<=l.length+1
 |[]=>by simp[Qfz]
 |y::r=>by
  simp only[Qfz];split
  .rw[Qpu];simp
  .have:=Qua p t r
   simp;omega
def l03Put.fv(a:Asm×Qae×Int):Asm:=(putA) (a.1) (a.2.1) (a.2.2)
def l03Put.row:Row:=vK (b3 (qP 1 Asm.d_le) (qR Qae.d_le) qI) (rA Asm.d_le) (fun a=>a.1.Tiles.length<=1000000) l03Put.fv
def l03Put.q:=vKq (R:=l03Put.row) rfl
def Yaf:=J @l03Put.fv.eq_1 (J @l_LessPoint.q @l_LessPoint.fv.eq_1)
theorem l03Put.ok:Qas Tryz.prog 86 l03Put.row:=by
 refine vw (tC l_LessPoint.ok tN) Tryz.func86 rfl (by kernel_rfl) ?_;intro a hpre;simp only[Tryz.f86,Option.getD];simp(maxSteps:=9^9)(disch:=omega)only[ZZ,simprocAttr,rch,Yaf];refine Qay.ren ⟨{k:Nat//k<=a.1.Tiles.length},fun k=>⟨[(9,.im (.int .i64 k.1)),(8,.im (.bool (Qcx a.2.1 (a.1.Tiles.take k.1)))),(7,.ptr 3 0),(6,.ptr 2 0),(4,.ptr 1 0),(0,.ptr 0 0),(2,.im (.int .i64 a.2.2))],[(3,(true,.cells 30 [.own 4])),(4,(true,.arr 116 3 ((Qfz a.2.1 a.2.2 false (a.1.Tiles.take k.1)).map Qab.c))),(2,(true,.cells 30 [.im (.sl true 0 [])])),(1,(true,.cells 69 [.im (.int .i64 a.2.1.X),.im (.int .i64 a.2.1.Y)])),(0,(false,.view [.sl false 3 (a.1.Tiles.map Qab.c)]))],5⟩,fun k=>a.1.Tiles.length - k.1,fun k=>⟨by simp[Qad.good,belT,belH,Qam,AV.bel,belL],by simp⟩,⟨⟨0,by simp⟩,[(4,none)],?_⟩,fun k=> ?_⟩
 .simp only[subP];simp(maxSteps:=9^9)(disch:=omega)only[ZZ,simprocAttr,rch,Yaf,Zab,Zaa,Zbk,Qfz,Qcx,ZaG]
  try simp
 obtain⟨k,hk1⟩:=k;simp(maxSteps:=9^9)(disch:=omega)only[ZZ,simprocAttr,rch,Yaf,Qal];intro _;have hlen:=Qua a.2.1 a.2.2 (a.1.Tiles.take k);have htk:(a.1.Tiles.take k).length<=k:=by simp;omega
 refine⟨fun hk=>⟨fun hd=>⟨hk,fun x hx=>⟨fun hl=> ?_,fun hl=> ?_⟩⟩,fun hd=> ?_⟩,fun hk=> ?_⟩
 .have htk1:a.1.Tiles.take (k+1)=a.1.Tiles.take k++[x]:=by rw[ZbO,hx];rfl
  refine⟨by simp[OneR,allD,D.one],by omega,hk,fun y hy=>⟨by simp[OneR,allD,D.one],by simp;omega,⟨⟨k+1,by omega⟩,[(4,some 8)],by simp only;omega,?_⟩⟩⟩;rw[hx] at hy;obtain rfl:=Zac hy;simp only[subP];simp(maxSteps:=9^9)(disch:=omega)only[ZZ,simprocAttr,rch,Yaf];refine⟨by simp,⟨?_,?_⟩,?_⟩
  .rw[Qak (by omega) (by omega)];omega
  .rw[htk1,Qfy,hd,hl];rfl
  .rw[htk1,Qiz,hd,hl];simp[Qab.c]
 .have htk1:a.1.Tiles.take (k+1)=a.1.Tiles.take k++[x]:=by rw[ZbO,hx];rfl
  refine⟨hk,fun y hy=>⟨by simp[OneR,allD,D.one],by omega,⟨⟨k+1,by omega⟩,[(4,some 6)],by simp only;omega,?_⟩⟩⟩;rw[hx] at hy;obtain rfl:=Zac hy;simp only[ZcV] at hl;simp only[subP];simp(maxSteps:=9^9)(disch:=omega)only[ZZ,simprocAttr,rch,Yaf];refine⟨by simp,⟨?_,?_⟩,?_⟩
  .rw[Qak (by omega) (by omega)];omega
  .rw[htk1,Qfy,hd,hl];rfl
  .rw[htk1,Qiz,hd,hl];simp[Qab.c]
 .simp only[ZaZ] at hd;refine⟨hk,fun x hx=>⟨by simp[OneR,allD,D.one],by omega,⟨⟨k+1,by omega⟩,[(4,some 6)],by simp only;omega,?_⟩⟩⟩;have htk1:a.1.Tiles.take (k+1)=a.1.Tiles.take k++[x]:=by rw[ZbO,hx];rfl
  simp only[subP];simp(maxSteps:=9^9)(disch:=omega)only[ZZ,simprocAttr,rch,Yaf];refine⟨by simp,⟨?_,?_⟩,?_⟩
  .rw[Qak (by omega) (by omega)];omega
  .rw[htk1,Qfy,hd];rfl
  .rw[htk1,Qiz,hd];simp[Qab.c]
 .rw[ZaL (by omega)] at hlen htk⊢;refine⟨fun hd=>⟨by simp[OneR,allD,D.one],by omega,?_⟩,fun hd=> ?_⟩
  .have e:List.map Qab.c (Qfz a.2.1 a.2.2 false a.1.Tiles)++[[D.int .i64 a.2.1.X,D.int .i64 a.2.1.Y,D.int .i64 a.2.2]]=List.map Qab.c (Qfz a.2.1 a.2.2 false a.1.Tiles++[⟨a.2.1,a.2.2⟩]):=by simp[Qab.c]
   rw[e,Qab.d_R];simp[putA,hd]
  .simp only[ZaZ] at hd;simp[putA,hd]
def atA(a:Asm)(p:Qae):Int:=((a.Tiles.find? (fun x=>decide (x.At=p))).map Qab.Tile).getD (-1)
theorem Qep{A:Type}(p:A->Bool): ∀(l:List A) (o:Nat),(l.find? p=none/\Qaw p o l= -1)\/ ∃(i:Nat) (x:A),l.find? p=some x/\Qaw p o l=((o+i:Nat):Int)/\l[i]? =some x
 |[],o=> .inl ⟨rfl,rfl⟩
 |z::r,o=>by
  simp only[Qaw,Zem];cases h:p z
  .rcases Qep p r (o+1) with ⟨h1,h2⟩|⟨i,x,h1,h2,h3⟩
   .exact .inl ⟨by simpa using h1,by simpa using h2⟩
   .exact .inr ⟨i+1,x,by simpa using h1,by simp[h2];omega,by simpa using h3⟩
  .exact .inr ⟨0,z,rfl,by simp,by simp⟩
def l03At.fv(a:Asm×Qae):Int:=(atA) (a.1) (a.2)
def l03At.row:Row:=vK (b2 (qP 1 Asm.d_le) (qR Qae.d_le)) rI (fun a=>Qaz none a.1.Tiles=true) l03At.fv
def l03At.q:=vKq (R:=l03At.row) rfl
theorem l03At.ok:Qas Tryz.prog 93 l03At.row:=by
 refine vw (tC l03Index.ok tN) Tryz.func93 rfl (by kernel_rfl) ?_;intro a hpre;simp only[Tryz.f93,Option.getD];simp(maxSteps:=9^9)(disch:=omega)only[ZZ,simprocAttr,rch,l03At.fv,l03Index.q,l03Index.fv];refine⟨hpre,?_⟩;rcases Qep (fun x=>decide (x.At=a.2)) a.1.Tiles 0 with ⟨h1,h2⟩|⟨i,x,h1,h2,h3⟩
 .rw[h2,Zao (by omega)];simp[atA,h1]
 .have hi:=(Zai.1 h3).1;rw[h2,Zaj (by omega)];refine⟨by omega,by omega,fun y hy=> ?_⟩
  have:((0+i:Nat):Int).toNat=i:=by omega
  rw[this,h3] at hy;obtain rfl:=Zac hy;simp[atA,h1]
def l02Tile.fv(a:Qaa×ByteArray):Int:=(fun s n=>Qaw (fun g=>decide (g.Name=n)) 0 s.Tiles) (a.1) (a.2)
def l02Tile.row:Row:=vK (b2 (qP 2 Qaa.d_le) qT) rI (fun a=>True) l02Tile.fv
def l02Tile.q:=vKq (R:=l02Tile.row) rfl
theorem l02Tile.ok:Qas Tryz.prog 78 l02Tile.row:=by
 refine vw tN Tryz.func78 rfl (by kernel_rfl) ?_;intro a hpre;simp only[Tryz.f78,Option.getD];simp(maxSteps:=9^9)(disch:=omega)only[ZZ,simprocAttr,rch,l02Tile.fv];refine Qay.old ⟨{k:Nat//k<=a.1.Tiles.length/\Qaw (fun g:Tile=>decide (g.Name=a.2)) k (a.1.Tiles.drop k)=Qaw (fun g:Tile=>decide (g.Name=a.2)) 0 a.1.Tiles},fun k=>⟨[(5,.im (.int .i64 k.1)),(4,.im (.int .i64 0)),(0,.ptr 0 0),(1,.im (.str a.2))],[(0,(false,.view (Qaa.c a.1)))],1⟩,fun k=>a.1.Tiles.length - k.1,fun k=>⟨by simp[Qad.good,belT,belH,Qam,AV.bel,belL],Zap _⟩,⟨⟨0,by simp⟩,by simp(maxSteps:=9^9)(disch:=omega)only[ZZ,simprocAttr,rch,l02Tile.fv,sub]⟩,fun k=> ?_⟩;obtain⟨k,hk1,hk2⟩:=k;simp(maxSteps:=9^9)(disch:=omega)only[ZZ,simprocAttr,rch,l02Tile.fv,sub,Qal];intro hn;refine⟨fun hk=>⟨hk,fun x hx=> ?_⟩,fun hk=> ?_⟩
 .rw[Qd3 hx,Qaw] at hk2;refine⟨fun h=> ?_,fun h=>Qb6 hk hn ⟨by omega,by rw[<-hk2,Zaj (by simpa using h)]⟩⟩;rw[Zao (by simpa using h)] at hk2;exact hk2
 .rw[Zax (by omega),Qaw] at hk2;omega
def attA(a:Asm)(o:Opt):Asm×Int:=if 500<=a.Tiles.length then (⟨[]⟩,4) else (putA a o.At o.Tile,0)
def l08Attach.fv(a:Asm×Opt):Asm×Int:=(attA) (a.1) (a.2)
def l08Attach.row:Row:=vK (b2 (qP 1 Asm.d_le) (qR Opt.d_le)) (r2 (rA Asm.d_le) rI) (fun a=>True) l08Attach.fv
def l08Attach.q:=vKq (R:=l08Attach.row) rfl
theorem l08Attach.ok:Qas Tryz.prog 53 l08Attach.row:=by
 refine vw (tC l03Put.ok tN) Tryz.func53 rfl (by kernel_rfl) ?_;intro a hpre;simp only[Tryz.f53,Option.getD];simp(maxSteps:=9^9)(disch:=omega)only[ZZ,simprocAttr,rch,l08Attach.fv,l03Put.q,l03Put.fv];intro _;simp only[Qal];refine⟨fun h=> ?_,fun h=>⟨by omega,?_⟩⟩
 .simp only[attA];rw[Zao (by omega)]
 .simp only[attA];rw[Zaj (by omega)]
def Qabx(s:Qaa)(a:Asm)(p:Qae)(t:Int)(d:Int):Int:=if 0<=atA a (Qf7 p d) then Qfn s t d (atA a (Qf7 p d)) else 0
def Qjm(s:Qaa)(a:Asm)(p:Qae)(t:Int):Nat->Int
 |0=>0
 |k+1=>Qjm s a p t k+Qabx s a p t k
def Qn7(s:Qaa)(a:Asm):Prop:=Qaz none a.Tiles=true/\ ∀x∈a.Tiles,Qcs s x.Tile
theorem Qafx{s:Qaa}{a:Asm}(h:Qn7 s a)(p:Qae)(h0:0<=atA a p):Qcs s (atA a p):=by
 simp only[atA] at h0⊢;cases hf:a.Tiles.find? (fun x=>decide (x.At=p)) with
 |none=>rw[hf] at h0;simp at h0
 |some x=>exact h.2 x (ZcL hf)
theorem Qp1{s:Qaa}(h:setP s)(g:Int):0<=Qe1 s g/\Qe1 s g<=4:=by
 simp only[Qe1];split
 .cases hx:s.Glues[(g - 1).toNat]? with
  |none=>simp
  |some x=>have:=h.2.2 x (Zaf hx);simp;omega
 .omega
theorem termA_b{s:Qaa}(h:setP s)(a:Asm)(p:Qae)(t d:Int):0<=Qabx s a p t d/\Qabx s a p t d<=4:=by
 simp only[Qabx,Qfn];split
 .split
  .exact Qp1 h _
  .omega
 .omega
theorem bindK_b{s:Qaa}(h:setP s)(a:Asm)(p:Qae)(t:Int): ∀(k:Nat),0<=Qjm s a p t k/\Qjm s a p t k<=4*k
 |0=>by simp[Qjm]
 |k+1=>by
  have h1:=bindK_b h a p t k;have h2:=termA_b h a p t k;simp only[Qjm];omega
def l06Binding.fv(a:Qaa×Asm×Qae×Int):Int:=(fun s a p t=>Qjm s a p t 4) (a.1) (a.2.1) (a.2.2.1) (a.2.2.2)
def l06Binding.row:Row:=vK (b4 (qP 2 Qaa.d_le) (qP 1 Asm.d_le) (qR Qae.d_le) qI) rI (fun a=>setP a.1/\Qn7 a.1 a.2.1/\Qdy a.2.2.1/\Qcs a.1 a.2.2.2) l06Binding.fv
def l06Binding.q:=vKq (R:=l06Binding.row) rfl
def Yag:=J @l06Binding.fv.eq_1<|J @l03At.q<|J @l03At.fv.eq_1<|J @l01Step.q<|J @l01Step.fv.eq_1<|J @l02Bond.q @l02Bond.fv.eq_1
theorem l06Binding.ok:Qas Tryz.prog 95 l06Binding.row:=by
 refine vw (tC l03At.ok (tC l01Step.ok (tC l02Bond.ok tN))) Tryz.func95 rfl (by kernel_rfl) ?_;intro a hpre;simp only[Tryz.f95,Option.getD];simp(maxSteps:=9^9)(disch:=omega)only[ZZ,simprocAttr,rch,Yag];obtain⟨h1,h2,h3,h4⟩:=hpre;refine Qay.old ⟨{k:Nat//k<=4},fun k=>⟨[(10,.im (.int .i64 k.1)),(9,.im (.int .i64 (Qjm a.1 a.2.1 a.2.2.1 a.2.2.2 k.1))),(8,.im (.int .i64 0)),(6,.ptr 2 0),(0,.ptr 0 0),(1,.ptr 1 0),(3,.im (.int .i64 a.2.2.2))],[(2,(true,.cells 69 [.im (.int .i64 a.2.2.1.X),.im (.int .i64 a.2.2.1.Y)])),(0,(false,.view (Qaa.c a.1))),(1,(false,.view (Asm.c a.2.1)))],3⟩,fun k=>4 - k.1,fun k=>⟨by simp[Qad.good,belT,belH,Qam,AV.bel,belL],Zap _⟩,⟨⟨0,by simp⟩,by simp(maxSteps:=9^9)(disch:=omega)only[ZZ,simprocAttr,rch,Yag,sub,Qjm]⟩,fun k=> ?_⟩;obtain⟨k,hk1⟩:=k;simp(maxSteps:=9^9)(disch:=omega)only[ZZ,simprocAttr,rch,Yag,sub,Qal];have hb:=bindK_b h1 a.2.1 a.2.2.1 a.2.2.2 k;have ht:=termA_b h1 a.2.1 a.2.2.1 a.2.2.2 k;refine⟨fun hk=>⟨⟨h3,by omega⟩,h2.1,fun hp=>⟨⟨h1,h4,⟨by omega,by omega⟩,Qafx h2 _ hp⟩,⟨⟨k+1,by omega⟩,by simp only;omega,?_,?_⟩⟩,fun hp=>⟨⟨k+1,by omega⟩,by simp only;omega,?_,?_⟩⟩,fun hk=> ?_⟩
 .rw[Qak (by omega) (by omega)];simp only;omega
 .simp only[Qjm];simp only[Qabx,Zao hp] at ht⊢;rw[Qak (by omega) (by omega)]
 .rw[Qak (by omega) (by omega)];simp only;omega
 .simp only[Qjm,Qabx,Zaj hp];omega
 .have:k=4:=by omega
  rw[this]
theorem Qkc{p:Qae}(h:Qbi p=true):Qdy p:=by
 simp only[Qbi,Qau,Zah,Zar] at h;simp only[Qdy];omega
theorem Qh6: ∀(l:List Qab) (q:Option Qae),Qaz q l=true-> ∀x∈l,Qbi x.At=true/\Qau x.Tile 0 159=true
 |[],_,_,x,hx=>by cases hx
 |z::r,q,h,x,hx=>by
  rw[Qbq] at h;simp only[Zah] at h;rcases Zaw.1 hx with rfl|hx
  .exact⟨h.1,h.2.1⟩
  .exact Qh6 r _ h.2.2.2 x hx
def nbA(a:Asm)(i d:Int):Int:=Qaw (fun x=>decide (x.At=Qf7 ((a.Tiles[i.toNat]?.map Qab.At).getD ⟨0,0⟩) d)) 0 a.Tiles
def l06Neighbor.fv(a:Asm×Int×Int):Int:=(nbA) (a.1) (a.2.1) (a.2.2)
def l06Neighbor.row:Row:=vK (b3 (qP 1 Asm.d_le) qI qI) rI (fun a=>Qaz none a.1.Tiles=true/\0<=a.2.1/\a.2.1<a.1.Tiles.length/\0<=a.2.2/\a.2.2<=3) l06Neighbor.fv
def l06Neighbor.q:=vKq (R:=l06Neighbor.row) rfl
theorem l06Neighbor.ok:Qas Tryz.prog 120 l06Neighbor.row:=by
 refine vw (tC l01Step.ok (tC l03Index.ok tN)) Tryz.func120 rfl (by kernel_rfl) ?_;intro a hpre;simp only[Tryz.f120,Option.getD];simp(maxSteps:=9^9)(disch:=omega)only[ZZ,simprocAttr,rch,l06Neighbor.fv,l01Step.q,l01Step.fv,l03Index.q,l03Index.fv];obtain⟨h1,h2,h3,h4,h5⟩:=hpre;refine⟨h2,h3,fun x hx=>⟨⟨Qkc (Qh6 _ _ h1 x (Zaf hx)).1,h4,h5⟩,h1,?_⟩⟩;simp only[nbA];rw[hx];rfl
def l08Can.fv(a:Qar×Asm×Opt):Bool:=(fun s a o=>Qbi o.At && (Qau o.Tile 0 (s.Set.Tiles.length - 1) && (decide (Qaw (fun x=>decide (x.At=o.At)) 0 a.Tiles<0) && decide (s.Temperature<=Qjm s.Set a o.At o.Tile 4)))) (a.1) (a.2.1) (a.2.2)
def l08Can.row:Row:=vK (b3 (qP 4 Qar.d_le) (qP 1 Asm.d_le) (qR Opt.d_le)) rB (fun a=>setP a.1.Set/\Qn7 a.1.Set a.2.1) l08Can.fv
def l08Can.q:=vKq (R:=l08Can.row) rfl
theorem l08Can.ok:Qas Tryz.prog 128 l08Can.row:=by
 refine vw (tC l01Point.ok (tC l02Index.ok (tC l03Index.ok (tC l06Binding.ok tN)))) Tryz.func128 rfl (by kernel_rfl) ?_;intro a hpre;simp only[Tryz.f128,Option.getD];simp(maxSteps:=9^9)(disch:=omega)only[ZZ,simprocAttr,rch,l08Can.fv,l01Point.q,l01Point.fv,l02Index.q,l02Index.fv,l03Index.q,l03Index.fv,l06Binding.q,l06Binding.fv];obtain⟨h1,h2⟩:=hpre;cases e1:Qbi a.2.2.At
 .simp
 cases e2:Qau a.2.2.Tile 0 (a.1.Set.Tiles.length - 1)
 .simp
 rw[Zao rfl,Zao rfl];refine⟨h2.1,?_⟩
 split<;>rename_i h
 .refine⟨⟨h1,h2,Qkc e1,?_⟩,by simp[h]⟩;simp only[Qau,Zah,Zar] at e2;simp only[Qcs];omega
 .simp[h]
def Qb7(s:Qaa):Nat->List Glue->Bool
 |_,[]=>true
 |i,g::r=>(Qei g.Name && (Qau g.Strength 1 4 && decide (Qaw (fun x=>decide (x.Name=g.Name)) 0 s.Glues=i))) && Qb7 s (i+1) r
def Qby(s:Qaa):Nat->List Tile->Bool
 |_,[]=>true
 |i,x::r=>(Qei x.Name && (decide (x.Sides.length=4) && (decide (Qaw (fun y=>decide (y.Name=x.Name)) 0 s.Tiles=i) && x.Sides.all (fun g=>Qau g 0 s.Glues.length)))) && Qby s (i+1) r
def Qcl(s:Qaa):Bool:=(decide (s.Glues.length<=200) && Qau s.Tiles.length 1 160) && (Qb7 s 0 s.Glues && Qby s 0 s.Tiles)
def l02Ok.fv(a:Qaa):Bool:=(Qcl) a
def l02Ok.row:Row:=vK (b1 (qP 2 Qaa.d_le)) rB (fun a=>True) l02Ok.fv
def l02Ok.q:=vKq (R:=l02Ok.row) rfl
def Yah:=J @l02Ok.fv.eq_1<|J @spec_IsName.q<|J @spec_IsName.fv.eq_1<|J @l00In.q<|J @l00In.fv.eq_1<|J @l02Glue.q<|J @l02Glue.fv.eq_1<|J @l02Tile.q @l02Tile.fv.eq_1
theorem l02Ok.ok:Qas Tryz.prog 47 l02Ok.row:=by
 refine vw (tC spec_IsName.ok (tC l00In.ok (tC l02Glue.ok (tC l02Tile.ok tN)))) Tryz.func47 rfl (by kernel_rfl) ?_;intro a hpre;simp only[Tryz.f47,Option.getD];simp(maxSteps:=9^9)(disch:=omega)only[ZZ,simprocAttr,rch,Yah];intro hg;simp only[Qal];refine⟨fun c1 ht=>⟨fun c2 _=>⟨fun c3=> ?_,fun c3=> ?_⟩,fun c2=> ?_⟩,fun c1=> ?_⟩
 .have: ¬(a.Tiles.length:Int)<=160:=by omega
  simp[Qcl,Qau,this]
 .have c0:Qcl a=(Qb7 a 0 a.Glues && Qby a 0 a.Tiles):=by
   have e1:a.Glues.length<=200:=by omega
   have e2:(1:Int)<=a.Tiles.length:=by omega
   have e3:(a.Tiles.length:Int)<=160:=by omega
   simp[Qcl,Qau,e1,e2,e3]
  refine Qay.old ⟨{k:Nat//k<=a.Glues.length/\Qb7 a k (a.Glues.drop k)=Qb7 a 0 a.Glues},fun k=>⟨[(3,.im (.int .i64 k.1)),(2,.im (.bool false)),(0,.ptr 0 0)],[(0,(false,.view (Qaa.c a)))],1⟩,fun k=>a.Glues.length - k.1,fun k=>⟨by simp[Qad.good,belT,belH,Qam,AV.bel,belL],Zap _⟩,⟨⟨0,by simp⟩,by simp(maxSteps:=9^9)(disch:=omega)only[ZZ,simprocAttr,rch,Yah,sub]⟩,fun k=> ?_⟩;obtain⟨k,hk1,hk2⟩:=k;simp(maxSteps:=9^9)(disch:=omega)only[ZZ,simprocAttr,rch,Yah,sub,Qal];intro _;refine⟨fun hk=>⟨hk,fun x hx=> ?_⟩,fun hk=> ?_⟩
  .rw[Qd3 hx,Qb7] at hk2;have hno:(Qei x.Name && (Qau x.Strength 1 4 && decide (Qaw (fun g:Glue=>decide (g.Name=x.Name)) 0 a.Glues=k)))=false->false=Qcl a:=by
    intro h;rw[h,Zbu] at hk2;rw[c0,<-hk2];rfl
   refine⟨fun h1=>⟨fun h2=>⟨fun h3=> ?_,fun h3=>Qb6 hk hg ⟨by omega,?_⟩⟩,fun h2=>hno (by simp[h2])⟩,fun h1=>hno (by simp[h1])⟩
   .rw[Qak (by omega) (by omega)] at h3;exact hno (by simp;intro _ _;omega)
   .rw[Zbc,Qak (by omega) (by omega)] at h3;have h4:Qaw (fun g:Glue=>decide (g.Name=x.Name)) 0 a.Glues=k:=by omega
    rw[h1,h2,h4] at hk2;simpa using hk2
  .rw[Zax (by omega),Qb7] at hk2;have c9:Qcl a=Qby a 0 a.Tiles:=by rw[c0,<-hk2,Zbj]
   refine Qay.old ⟨{k:Nat//k<=a.Tiles.length/\Qby a k (a.Tiles.drop k)=Qby a 0 a.Tiles},fun k=>⟨[(5,.im (.int .i64 k.1)),(2,.im (.bool false)),(0,.ptr 0 0)],[(0,(false,.view (Qaa.c a)))],1⟩,fun k=>a.Tiles.length - k.1,fun k=>⟨by simp[Qad.good,belT,belH,Qam,AV.bel,belL],Zap _⟩,⟨⟨0,by simp⟩,by simp(maxSteps:=9^9)(disch:=omega)only[ZZ,simprocAttr,rch,Yah,sub]⟩,fun k=> ?_⟩;obtain⟨k,hk1,hk2⟩:=k;simp(maxSteps:=9^9)(disch:=omega)only[ZZ,simprocAttr,rch,Yah,sub,Qal];intro _;refine⟨fun hk=>⟨hk,fun x hx=> ?_⟩,fun hk=> ?_⟩
   .rw[Qd3 hx,Qby] at hk2;have hno:(Qei x.Name && (decide (x.Sides.length=4) && (decide (Qaw (fun y:Tile=>decide (y.Name=x.Name)) 0 a.Tiles=k) && x.Sides.all (fun g=>Qau g 0 a.Glues.length))))=false->false=Qcl a:=by
     intro h;rw[h,Zbu] at hk2;rw[c9,<-hk2]
    refine⟨fun h1 hs=>⟨fun h2=>⟨fun h3=>hno (by simp[h3]),fun h3=> ?_⟩,fun h2=>hno (by simp;intro _ h9;omega)⟩,fun h1=>hno (by simp[h1])⟩;rw[Zbc] at h3;have h2':x.Sides.length=4:=by omega
    refine Qay.old ⟨{j:Nat//j<=4/\(x.Sides.drop j).all (fun g=>Qau g 0 a.Glues.length)=x.Sides.all (fun g=>Qau g 0 a.Glues.length)},fun j=>⟨[(7,.im (.int .i64 j.1)),(5,.im (.int .i64 k)),(6,.ptr 1 0),(2,.im (.bool false)),(0,.ptr 0 0)],[(1,(true,.cells 130 ((Tile.c x).map .im))),(0,(false,.view (Qaa.c a)))],2⟩,fun j=>4 - j.1,fun j=>⟨by simp[Qad.good,belT,belH,Qam,AV.bel,belL,Tile.c],by simp⟩,⟨⟨0,by simp⟩,by simp(maxSteps:=9^9)(disch:=omega)only[ZZ,simprocAttr,rch,Yah,sub]⟩,fun j=> ?_⟩;obtain⟨j,hj1,hj2⟩:=j;simp(maxSteps:=9^9)(disch:=omega)only[ZZ,simprocAttr,rch,Yah,sub,Qal];refine⟨fun hj=>⟨by omega,fun y hy=> ?_⟩,fun hj=>Qb6 hk ht ⟨by omega,?_⟩⟩
    .rw[Qd3 hy,ZcA] at hj2;refine⟨fun h=>hno ?_,fun h=>⟨⟨j+1,by omega,?_⟩,by simp only;omega,?_⟩⟩
     .rw[h,Zbu] at hj2;rw[<-hj2];simp
     .rw[ZaZ] at h;rw[h,Zbj] at hj2;exact hj2
     .rw[Qak (by omega) (by omega)];simp only;omega
    .rw[Zax (by omega)] at hj2;rw[<-hk2,<-hj2,h1,h2',h3];simp
   .rw[Zax (by omega),Qby] at hk2;rw[c9,<-hk2]
 .have: ¬(1:Int)<=a.Tiles.length:=by omega
  simp[Qcl,Qau,this]
 .have: ¬a.Glues.length<=200:=by omega
  simp[Qcl,this]
def VS1.fv(a:Int×Qaa):Bool:=(fun g s=> !Qau g 0 s.Glues.length) (a.1) (a.2)
def VS1.row:Row:=vK (b2 qI (qP 2 Qaa.d_le)) rB (fun a=>True) VS1.fv
def VS1.q:=vKq (R:=VS1.row) rfl
theorem VS1.ok:Qas Tryz.prog 151 VS1.row:=by
 refine vw (tC within_.ok tN) Tryz.func151 rfl (by kernel_rfl) ?_;intro a hpre;simp only[Tryz.f151,Option.getD];simp(maxSteps:=9^9)(disch:=omega)only[ZZ,simprocAttr,rch,VS1.fv,within_.q,within_.fv];intro _;trivial
def IdxVS.ar:List PK->Option ((List Int)×Qaa)
 |[.val (.sl _ _ x0),.val (.fn 151 [] [.ref x1_0])]=>(decR intD x0).bind fun y0=>(Qaa.d (x1_0.take 2)).bind fun y1_0=>some (y0,y1_0)
 |_=>none
def IdxVS.ae(a:(List Int)×Qaa):List PK:=[.val (.sl false 1 (a.1.map intC)),.val (.fn 151 [] [.ref (Qaa.c a.2)])]
theorem IdxVS.le: ∀ps a,IdxVS.ar ps=some a->LeKL ps (IdxVS.ae a):=by
 intro ps a h;unfold IdxVS.ar at h;split at h
 .simp only[ZaM,Zae] at h;obtain⟨y0,h0,y1_0,h1_0,rfl⟩:=h;exact⟨Qbf (Qa2 Qb3 _ _ h0) (by simp only[ZaJ];rintro r ⟨y,_,rfl⟩;rfl),Qos ⟨Qil (LeP.trans_take (Qaa.d_le _ _ h1_0)),trivial⟩,trivial⟩
 .cases h
def IdxVS.fv(a:(List Int)×Qaa):Int:=(fun l s=>Qaw (fun g=> !Qau g 0 s.Glues.length) 0 l) (a.1) (a.2)
def IdxVS.row:Row:=vrow IdxVS.ar (fun a=>True) (fun a=>(D.int .i64) (IdxVS.fv a))
def IdxVS.q:=vq IdxVS.row rfl
theorem IdxVS.ok:Qas Tryz.prog 172 IdxVS.row:=by
 refine Qaj Qaq (tC VS1.ok tN) Tryz.func172 rfl (by kernel_rfl) (by kernel_rfl) (ar:=IdxVS.ar) (ae:=IdxVS.ae) IdxVS.le (n:=2) (fun _=>rfl) (by decide) (rc:=(vInt)) (re:=(D.int .i64)) (Qa3) (f:=IdxVS.fv) ?_;intro a hpre;simp only[Tryz.f172,Option.getD];simp(maxSteps:=9^9)(disch:=omega)only[ZZ,simprocAttr,rch,IdxVS.ae,IdxVS.fv,VS1.q,VS1.fv];intro hn;refine Qay.old ⟨{k:Nat//k<=a.1.length/\Qaw (fun g:Int=> !Qau g 0 a.2.Glues.length) k (a.1.drop k)=Qaw (fun g:Int=> !Qau g 0 a.2.Glues.length) 0 a.1},fun k=>⟨[(8,.im (.int .i64 k.1)),(7,.im (.int .i64 a.1.length)),(6,.im (.sl false 1 (a.1.map intC))),(4,.im (.int .i64 0)),(0,.im (.sl false 1 (a.1.map intC))),(1,.im (.fn 151 [] [.ref (Qaa.c a.2)]))],[],0⟩,fun k=>a.1.length - k.1,fun k=>⟨by simp[Qad.good,belT,belH,Qam,AV.bel,belL],Zap _⟩,⟨⟨0,by simp⟩,by simp(maxSteps:=9^9)(disch:=omega)only[ZZ,simprocAttr,rch,IdxVS.ae,IdxVS.fv,VS1.q,VS1.fv,sub]⟩,fun k=> ?_⟩;obtain⟨k,hk1,hk2⟩:=k;simp(maxSteps:=9^9)(disch:=omega)only[ZZ,simprocAttr,rch,IdxVS.ae,IdxVS.fv,VS1.q,VS1.fv,sub,Qal];refine⟨fun hk=>⟨hk,fun x hx=> ?_⟩,fun hk=> ?_⟩
 .rw[Qd3 hx,Qaw] at hk2;refine⟨fun h=> ?_,fun h=>Qb6 hk hn ⟨by omega,by rw[<-hk2,Zaj (by simpa using h)]⟩⟩;rw[Zao (by simpa using h)] at hk2;exact hk2
 .rw[Zax (by omega),Qaw] at hk2;exact hk2
def ContVS.ar:List PK->Option ((List Int)×Qaa)
 |[.val (.sl _ _ x0),.val (.fn 151 [] [.ref x1_0])]=>(decR intD x0).bind fun y0=>(Qaa.d (x1_0.take 2)).bind fun y1_0=>some (y0,y1_0)
 |_=>none
def ContVS.ae(a:(List Int)×Qaa):List PK:=[.val (.sl false 1 (a.1.map intC)),.val (.fn 151 [] [.ref (Qaa.c a.2)])]
theorem ContVS.le: ∀ps a,ContVS.ar ps=some a->LeKL ps (ContVS.ae a):=by
 intro ps a h;unfold ContVS.ar at h;split at h
 .simp only[ZaM,Zae] at h;obtain⟨y0,h0,y1_0,h1_0,rfl⟩:=h;exact⟨Qbf (Qa2 Qb3 _ _ h0) (by simp only[ZaJ];rintro r ⟨y,_,rfl⟩;rfl),Qos ⟨Qil (LeP.trans_take (Qaa.d_le _ _ h1_0)),trivial⟩,trivial⟩
 .cases h
def ContVS.fv(a:(List Int)×Qaa):Bool:=(fun l s=>l.any (fun g=> !Qau g 0 s.Glues.length)) (a.1) (a.2)
def ContVS.row:Row:=vrow ContVS.ar (fun a=>True) (fun a=>(D.bool) (ContVS.fv a))
def ContVS.q:=vq ContVS.row rfl
theorem ContVS.ok:Qas Tryz.prog 150 ContVS.row:=by
 refine Qaj Qaq (tC IdxVS.ok tN) Tryz.func150 rfl (by kernel_rfl) (by kernel_rfl) (ar:=ContVS.ar) (ae:=ContVS.ae) ContVS.le (n:=2) (fun _=>rfl) (by decide) (rc:=(Qa8)) (re:=(D.bool)) (Qat) (f:=ContVS.fv) ?_;intro a hpre;simp only[Tryz.f150,Option.getD];simp(maxSteps:=9^9)(disch:=omega)only[ZZ,simprocAttr,rch,ContVS.ae,ContVS.fv,IdxVS.q,IdxVS.ar,IdxVS.fv];exact idx_any _ _
def Ql8(ns:List ByteArray):List (D×D):=ns.map fun n=>(.str n,.bool true)
theorem beqB(n m:ByteArray):(n==m)=decide (n=m):=by
 rw[Qpj]
theorem lk_seen(n:ByteArray): ∀(ns:List ByteArray),(n∈ns->lk (Ql8 ns) (.str n)=some (.bool true))/\(n∉ns->lk (Ql8 ns) (.str n)=none)
 |[]=>⟨fun h=>by simp at h,fun _=>rfl⟩
 |m::r=>by
  obtain⟨i1,i2⟩:=lk_seen n r;simp only[Ql8] at i1 i2;simp only[Ql8,Zaq,lk,D.beq,Zaw,beqB];by_cases h:n=m
  .simp[h]
  .simp only[h,ZdL,ZaS,false_or];exact⟨i1,i2⟩
theorem Qum(n:ByteArray)(ns:List ByteArray)(Ks:D->Prop)(Kn:Prop):LkVC (Ql8 ns) (.str n) Ks Kn=((n∈ns->Ks (.bool true))/\(n∉ns->Kn)):=by
 obtain⟨i1,i2⟩:=lk_seen n ns;apply propext;unfold LkVC;constructor
 .rintro⟨h1,h2⟩;exact⟨fun h=>h1 _ (i1 h),fun h=>h2 (i2 h)⟩
 .rintro⟨h1,h2⟩;by_cases h:n∈ns
  .refine⟨fun v hv=> ?_,fun hv=> ?_⟩
   .rw[i1 h] at hv;exact Zac hv▸h1 h
   .rw[i1 h] at hv;cases hv
  .refine⟨fun v hv=> ?_,fun _=>h2 h⟩;rw[i2 h] at hv;cases hv
theorem Qru(n:ByteArray): ∀(ns:List ByteArray),n∉ns->upd (Ql8 ns) (.str n) (.bool true)=Ql8 (ns++[n])
 |[],_=>rfl
 |m::r,h=>by
  simp only[Zaw,not_or] at h
  have:=Qru n r h.2
  simp only[Ql8] at this;simp only[Ql8,Zaq,upd,D.beq,beqB,h.1,ZdL,ZaS,ZaA,this]
theorem Qaa4{A:Type}(f:A->ByteArray)(l:List A)(k:Nat)(x:A)(hx:l[k]? =some x):Qaw (fun y=>decide (f y=f x)) 0 l=(k:Int)↔f x∉(l.take k).map f:=by
 constructor
 .intro h hm;obtain⟨y,hy,he⟩:=ZaJ.1 hm;obtain⟨i,hi,hyi⟩:=ZcD.1 hy;have hik:i<k:=by simp at hi;omega
  have hly:l[i]? =some y:=by
   rw[<-hyi,List.getElem_take];exact Zad _
  have hmin: ∀(l:List A) (o i:Nat) (y:A),l[i]? =some y->(decide (f y=f x))=true->Qaw (fun y=>decide (f y=f x)) o l<=((o+i:Nat):Int):=by
   intro l;induction l with
   |nil=>intro o i y h;simp at h
   |cons z r ih=>
    intro o i y h hp;simp only[Qaw];split
    .omega
    .rename_i hz;cases i with
     |zero=>
      simp only[ZaV,Zae] at h;subst h;exact absurd hp hz
     |succ i=>
      have:=ih (o+1) i y (by simpa using h) hp
      omega
  have:=hmin l 0 i y hly (by simpa using he)
  omega
 .intro h;rw[Qtf _ l 0 k x hx (by simp) ?_]
  .simp
  .intro i y hi hy;simp only[Zbb];intro he;apply h;rw[<-he];refine ZaJ.2 ⟨y,?_,rfl⟩;exact Zaf (i:=i) (by rw[ZcB,Zao hi];exact hy)
def Qf6(s:Qaa):Prop:=(∀g∈s.Glues,g.Name.size<=140737488355328)/\ ∀t∈s.Tiles,t.Name.size<=140737488355328
def ValidSet_.fv(a:Qaa):Bool:=(Qcl) a
def ValidSet_.row:Row:=vK (b1 (qR Qaa.d_le)) rB (fun a=>Qf6 a) ValidSet_.fv
def ValidSet_.q:=vKq (R:=ValidSet_.row) rfl
def Yai:=J @ValidSet_.fv.eq_1<|J @within_.q<|J @within_.fv.eq_1<|J @impl_IsName.q<|J @impl_IsName.fv.eq_1<|J @ContVS.q @ContVS.fv.eq_1
theorem ValidSet_.ok:Qas Tryz.prog 129 ValidSet_.row:=by
 refine vw (tC within_.ok (tC impl_IsName.ok (tC ContVS.ok tN))) Tryz.func129 rfl (by kernel_rfl) ?_;intro a hpre;simp only[Tryz.f129,Option.getD];simp(maxSteps:=9^9)(disch:=omega)only[ZZ,simprocAttr,rch,Yai,ContVS.ar];obtain⟨hp1,hp2⟩:=hpre;intro hg;simp only[Qal];refine⟨fun c1 ht=>⟨fun c2=> ?_,fun c2 _=> ?_⟩,fun c1=> ?_⟩
 .simp[Qcl,c2]
 .rw[ZaZ] at c2;have c0:Qcl a=(Qb7 a 0 a.Glues && Qby a 0 a.Tiles):=by
   have e1:a.Glues.length<=200:=by omega
   simp[Qcl,e1,c2]
  refine Qay.old ⟨{k:Nat//k<=a.Glues.length/\Qb7 a k (a.Glues.drop k)=Qb7 a 0 a.Glues},fun k=>⟨[(24,.im (.int .i64 k.1)),(23,.im (.int .i64 a.Glues.length)),(22,.im (.sl false 2 (a.Glues.map Glue.c))),(3,.mp 1),(1,.ptr 0 0),(2,.im (.bool false))],[(1,(true,.map ⟨false,[.str]⟩ (Ql8 ((a.Glues.take k.1).map Glue.Name)))),(0,(true,.cells 27 ((Qaa.c a).map .im)))],2⟩,fun k=>a.Glues.length - k.1,fun k=>⟨by simp[Qad.good,belT,belH,Qam,AV.bel,belL,Qaa.c],Zap _⟩,⟨⟨0,by simp⟩,by simp(maxSteps:=9^9)(disch:=omega)only[ZZ,simprocAttr,rch,Yai,ContVS.ar,sub,Ql8,Zbk]⟩,fun k=> ?_⟩;obtain⟨k,hk1,hk2⟩:=k;simp(maxSteps:=9^9)(disch:=omega)only[ZZ,simprocAttr,rch,Yai,ContVS.ar,sub,Qal,Qum];refine⟨fun hk=>⟨hk,fun x hx=>⟨hp1 x (Zaf hx),?_⟩⟩,fun hk _=> ?_⟩
  .rw[Qd3 hx,Qb7] at hk2;have hu:=Qaa4 Glue.Name a.Glues k x hx;have hno:(Qei x.Name && (Qau x.Strength 1 4 && decide (Qaw (fun g:Glue=>decide (g.Name=x.Name)) 0 a.Glues=k)))=false->false=Qcl a:=by
    intro h;rw[h,Zbu] at hk2;rw[c0,<-hk2];rfl
   refine⟨fun h1=>⟨fun h2=>hno ?_,fun h2=>⟨fun h3=>hno (by simp[h3]),fun h3=>⟨⟨k+1,by omega,?_⟩,by simp only;omega,?_,?_⟩⟩⟩,fun h1=>hno (by simp[h1])⟩
   .simp only[ZdY,Zbb];exact .inr (.inr fun h9=>(hu.1 h9) h2)
   .rw[ZaZ] at h3;rw[h1,h3,hu.2 h2] at hk2;simpa using hk2
   .rw[Qak (by omega) (by omega)];simp only;omega
   .rw[Qru _ _ h2,ZbO,hx];simp
  .rw[Zax (by omega),Qb7] at hk2;have c9:Qcl a=Qby a 0 a.Tiles:=by rw[c0,<-hk2,Zbj]
   refine Qay.frz [0] ⟨{k:Nat//k<=a.Tiles.length/\Qby a k (a.Tiles.drop k)=Qby a 0 a.Tiles},fun k=>⟨[(52,.im (.int .i64 k.1)),(51,.im (.int .i64 a.Tiles.length)),(50,.im (.sl false 2 (a.Tiles.map Tile.c))),(6,.mp 2),(1,.ptr 0 0),(2,.im (.bool false))],[(2,(true,.map ⟨false,[.str]⟩ (Ql8 ((a.Tiles.take k.1).map Tile.Name)))),(0,(false,.cells 27 ((Qaa.c a).map .im)))],3⟩,fun k=>a.Tiles.length - k.1,fun k=>⟨by simp[Qad.good,belT,belH,Qam,AV.bel,belL,Qaa.c],Zap _⟩,⟨⟨0,by simp⟩,by simp(maxSteps:=9^9)(disch:=omega)only[ZZ,simprocAttr,rch,Yai,ContVS.ar,sub,Ql8,Zbk]⟩,fun k=> ?_⟩;obtain⟨k,hk1,hk2⟩:=k;simp(maxSteps:=9^9)(disch:=omega)only[ZZ,simprocAttr,rch,Yai,ContVS.ar,sub,Qal,Qum];refine⟨fun hk=>⟨hk,fun x hx=>⟨hp2 x (Zaf hx),?_⟩⟩,fun hk=> ?_⟩
   .rw[Qd3 hx,Qby] at hk2;have hu:=Qaa4 Tile.Name a.Tiles k x hx;have hno:(Qei x.Name && (decide (x.Sides.length=4) && (decide (Qaw (fun y:Tile=>decide (y.Name=x.Name)) 0 a.Tiles=k) && x.Sides.all (fun g=>Qau g 0 a.Glues.length))))=false->false=Qcl a:=by
     intro h;rw[h,Zbu] at hk2;rw[c9,<-hk2]
    have hany:(x.Sides.any fun g=> !Qau g 0 a.Glues.length)= !x.Sides.all (fun g=>Qau g 0 a.Glues.length):=by
     simp[List.not_all_eq_any_not]
    rw[hany];refine⟨fun h1=>⟨fun h2=>hno ?_,fun h2 _=>⟨fun h3=>hno ?_,fun h3=>⟨fun h4=>hno ?_,fun h4=>⟨⟨k+1,by omega,?_⟩,by simp only;omega,?_,?_⟩⟩⟩⟩,fun h1=>hno (by simp[h1])⟩
    .simp only[ZdY,Zbb];exact .inr (.inr (.inl fun h9=>(hu.1 h9) h2))
    .have: ¬x.Sides.length=4:=by omega
     simp[this]
    .simp only[ZbZ] at h4;simp only[h4,ZdA]
    .have h5:x.Sides.length=4:=by omega
     simp only[ZbZ,ZaZ] at h4;rw[h1,h5,hu.2 h2,h4] at hk2;simpa using hk2
    .rw[Qak (by omega) (by omega)];simp only;omega
    .rw[Qru _ _ h2,ZbO,hx];simp
   .rw[Zax (by omega),Qby] at hk2;rw[c9,<-hk2]
 .have: ¬a.Glues.length<=200:=by omega
  simp[Qcl,this]
def Qcp(s:Qaa)(a:Asm):Bool:=(Qaz none a.Tiles && decide (a.Tiles.length<=500)) && a.Tiles.all (fun x=>Qau x.Tile 0 (s.Tiles.length - 1))
def ValidAssembly_.fv(a:Qaa×Asm):Bool:=(fun s a=>Qcl s && Qcp s a) (a.1) (a.2)
def ValidAssembly_.row:Row:=vK (b2 (qR Qaa.d_le) (qR Asm.d_le)) rB (fun a=>Qf6 a.1) ValidAssembly_.fv
def ValidAssembly_.q:=vKq (R:=ValidAssembly_.row) rfl
theorem ValidAssembly_.ok:Qas Tryz.prog 96 ValidAssembly_.row:=by
 refine vw (tC ValidSet_.ok (tC hasForm_.ok (tC ContVA.ok tN))) Tryz.func96 rfl (by kernel_rfl) ?_;intro a hpre;simp only[Tryz.f96,Option.getD];simp(maxSteps:=9^9)(disch:=omega)only[ZZ,simprocAttr,rch,ValidAssembly_.fv,ValidSet_.q,ValidSet_.fv,hasForm_.q,hasForm_.fv,ContVA.q,ContVA.ar,ContVA.fv];refine⟨hpre,?_⟩
 split<;>rename_i h1
 .split<;>rename_i h2
  .simp[h1,Qcp,h2.1,h2.2,List.not_any_eq_all_not]
  .have h3:(Qaz none a.2.Tiles && decide (a.2.Tiles.length<=500))=false:=by
    rw[Zcg];intro h;simp only[Zah,Zar] at h;exact h2 h
   simp[Qcp,h3]
 .simp[h1]
def comparePlaced.fv(a:Qab×Qae):Int:=(fun a p=>Qgr [cmpI a.At.Y p.Y,cmpI a.At.X p.X]) (a.1) (a.2)
def comparePlaced.row:Row:=vK (b2 (qR Qab.d_le) (qR Qae.d_le)) rI (fun a=>True) comparePlaced.fv
def comparePlaced.q:=vKq (R:=comparePlaced.row) rfl
theorem comparePlaced.ok:Qas Tryz.prog 182 comparePlaced.row:=by
 refine vw (tC comparePoints.ok tN) Tryz.func182 rfl (by kernel_rfl) ?_;intro a hpre;simp only[Tryz.f182,Option.getD];simp(maxSteps:=9^9)(disch:=omega)only[ZZ,simprocAttr,rch,comparePlaced.fv,comparePoints.q,comparePoints.fv]
def befP(l:List Qab)(p:Qae):Nat:=(l.takeWhile (fun x=>Qap x.At p)).length
theorem Qyx(p:Qae): ∀(l:List Qab) (lo:Nat),lo<=l.length->(∀(i:Nat) (x:Qab),i<lo->l[i]? =some x->Qap x.At p=true)->(∀(i:Nat) (x:Qab),lo<=i->l[i]? =some x->Qap x.At p=false)->befP l p=lo
 |[],lo,h,_,_=>by simp at h;simp[befP,h]
 |x::r,0,_,_,h=>by
  have:=h 0 x (by omega) (by simp)
  simp[befP,Zda,this]
 |x::r,lo+1,hl,h1,h2=>by
  have h3:=h1 0 x (by omega) (by simp);have h4:=Qyx p r lo (by simpa using hl) (fun i y hi hy=>h1 (i+1) y (by omega) (by simpa using hy)) (fun i y hi hy=>h2 (i+1) y (by omega) (by simpa using hy));simp only[befP] at h4;simp[befP,Zda,h3,h4]
theorem cmp_less(a b:Qae):(Qgr [cmpI a.Y b.Y,cmpI a.X b.X]<0)↔Qap a b=true:=by
 simp only[Qap,Qgr,cmpI]
 grind
theorem cmp_eq(a b:Qae):(Qgr [cmpI a.Y b.Y,cmpI a.X b.X]=0)↔a=b:=by
 obtain⟨x,y⟩:=a;obtain⟨z,w⟩:=b;simp only[Qgr,cmpI,Qae.mk.injEq]
 grind
theorem midU(lo hi:Nat)(h:lo+hi<=562949953421312):IntKind.wrap .i64 ((IntKind.wrap .u64 (IntKind.wrap .i64 ((lo:Int)+hi))).fdiv (2^min 1 IntKind.u64.bits))=(((lo+hi)/2:Nat):Int):=by
 rw[Qak (x:=(lo:Int)+hi) (by omega) (by omega)];have e1:IntKind.wrap .u64 ((lo:Int)+hi)=(lo:Int)+hi:=by
  simp only[IntKind.wrap,IntKind.signed,IntKind.bits];simp;omega
 have e2:(2:Int)^min 1 IntKind.u64.bits=2:=by decide
 rw[e1,e2,Zes _ (by omega),Qak (by omega) (by omega)];omega
def BinP.ar:List PK->Option ((List Qab)×Qae×Unit)
 |[.val (.sl _ _ x0),.val (.agg x1),.val (.fn 182 [] [])]=>(decR Qab.d x0).bind fun y0=>(Qae.d x1).bind fun y1=>some (y0,y1,())
 |_=>none
def BinP.ae(a:(List Qab)×Qae×Unit):List PK:=[.val (.sl false 3 (a.1.map Qab.c)),.val (.agg (Qae.c a.2.1)),.val (.fn 182 [] [])]
theorem BinP.le: ∀ps a,BinP.ar ps=some a->LeKL ps (BinP.ae a):=by
 intro ps a h;unfold BinP.ar at h;split at h
 .simp only[ZaM,Zae] at h;obtain⟨y0,h0,y1,h1,rfl⟩:=h;exact⟨Qbf (Qa2 Qab.d_le _ _ h0) (by simp only[ZaJ];rintro r ⟨y,_,rfl⟩;rfl),Qav (Qae.d_le _ _ h1),LeK.refl _,trivial⟩
 .cases h
def BinP.fv(a:(List Qab)×Qae×Unit):Int×Bool:=(fun l p _=>((befP l p:Int),l.any (fun x=>decide (x.At=p)))) (a.1) (a.2.1) (a.2.2)
def BinP.row:Row:=vrow BinP.ar (fun a=>Qaz none a.1=true) (fun a=>(fun b=>D.tup [(D.int .i64) (b.1),(D.bool) (b.2)]) (BinP.fv a))
def BinP.q:=vq BinP.row rfl
def Yaj:=J @BinP.ae.eq_1<|J @BinP.fv.eq_1<|J @comparePlaced.q @comparePlaced.fv.eq_1
theorem BinP.ok:Qas Tryz.prog 181 BinP.row:=by
 refine Qaj Qaq (tC comparePlaced.ok tN) Tryz.func181 rfl (by kernel_rfl) (by kernel_rfl) (ar:=BinP.ar) (ae:=BinP.ae) BinP.le (n:=3) (fun _=>rfl) (by decide) (rc:=(Qfa (vInt) (Qa8))) (re:=(fun b=>D.tup [(D.int .i64) (b.1),(D.bool) (b.2)])) (Qbz (Qa3) (Qat)) (f:=BinP.fv) ?_;intro a hpre;simp only[Tryz.f181,Option.getD];simp(maxSteps:=9^9)(disch:=omega)only[ZZ,simprocAttr,rch,Yaj];intro hn;refine Qay.old ⟨{p:Nat×Nat//p.1<=p.2/\p.2<=a.1.length/\(∀i x,i<p.1->a.1[i]? =some x->Qap x.At a.2.1=true)/\(∀i x,p.2<=i->a.1[i]? =some x->Qap x.At a.2.1=false)},fun p=>⟨[(9,.im (.int .i64 p.1.1)),(10,.im (.int .i64 p.1.2)),(8,.im (.int .i64 a.1.length)),(6,.im (.int .i64 0)),(7,.im (.bool false)),(4,.ptr 0 0),(0,.im (.sl false 3 (a.1.map Qab.c))),(2,.im (.fn 182 [] []))],[(0,(true,.cells 69 [.im (.int .i64 a.2.1.X),.im (.int .i64 a.2.1.Y)]))],1⟩,fun p=>p.1.2 - p.1.1,fun p=>⟨by simp[Qad.good,belT,belH,Qam,AV.bel,belL],Zap _⟩,⟨⟨(0,a.1.length),by simp,by simp,by simp,?_⟩,by simp(maxSteps:=9^9)(disch:=omega)only[ZZ,simprocAttr,rch,Yaj,sub]⟩,fun p=> ?_⟩
 .intro i x hi hx
  have:=(Zai.1 hx).1
  simp only at hi;omega
 obtain⟨⟨lo,hi⟩,h1,h2,h3,h4⟩:=p;simp only at h1 h2 h3 h4;simp(maxSteps:=9^9)(disch:=omega)only[ZZ,simprocAttr,rch,Yaj,sub,Qal];obtain⟨_,hsort⟩:=Qe4 _ _ hpre;have hne: ∀(i:Nat) (x:Qab),i<lo->a.1[i]? =some x->x.At≠a.2.1:=by
  intro i x hi hx he
  have:=h3 i x hi hx
  rw[he,Qku] at this;cases this
 rw[midU lo hi (by omega)];simp only[cmp_less,cmp_eq];refine⟨fun hlt=> ?_,fun hlt=>⟨fun hl=>⟨hl,fun x hx=> ?_⟩,fun hl=> ?_⟩⟩
 .refine⟨by omega,by omega,fun x hx=>⟨fun hb=> ?_,fun hb=> ?_⟩⟩
  .rw[Zam] at hx;refine⟨⟨((lo+hi)/2+1,hi),by simp only;omega,h2,fun i y hi' hy=> ?_,h4⟩,by simp only;omega,?_,rfl⟩
   .simp only at hi';rcases Zbp i ((lo+hi)/2) with h|h
    .exact Qeu (hsort i _ y x h hy hx) hb
    .have:i=(lo+hi)/2:=by omega
     subst this;rw[hx] at hy;exact Zac hy▸hb
   .rw[Qak (by omega) (by omega)];simp only;omega
  .rw[Zam] at hx;refine⟨⟨(lo,(lo+hi)/2),by simp only;omega,by simp only;omega,h3,fun i y hi' hy=> ?_⟩,by simp only;omega,rfl,rfl⟩;simp only at hi';rcases Zbp ((lo+hi)/2) i with h|h
   .cases hl:Qap y.At a.2.1 with
    |false=>rfl
    |true=>exact absurd (Qeu (hsort _ i x y h hx hy) hl) hb
   .have:i=(lo+hi)/2:=by omega
    subst this;rw[hx] at hy;obtain rfl:=Zac hy;simpa using hb
 .have hbef:=Qyx a.2.1 a.1 lo (by omega) h3 (fun i y hi' hy=>h4 i y (by omega) hy);refine⟨by rw[hbef],?_⟩;rw[ZcN];simp only[Zar,Zeb];refine⟨fun he=>⟨x,Zaf hx,he⟩,?_⟩;rintro⟨y,hy,he⟩;obtain⟨i,hi',hyi⟩:=ZcD.1 hy;have hyi':a.1[i]? =some y:=by rw[Zad hi',hyi]
  rcases Zdu i lo with h|h|h
  .exact absurd he (hne i y h hyi')
  .subst h;rw[hx] at hyi';exact Zac hyi'▸he
  .have h10:=hsort lo i x y h hx hyi';rw[he] at h10
   have:=h4 lo x (by omega) hx
   rw[this] at h10;cases h10
 .have hbef:=Qyx a.2.1 a.1 lo (by omega) h3 (fun i y hi' hy=>h4 i y (by omega) hy);refine⟨by rw[hbef],?_⟩;symm;simp only[List.any_eq_false,Zar];intro y hy he;obtain⟨i,hi',hyi⟩:=ZcD.1 hy;have hyi':a.1[i]? =some y:=by rw[Zad hi',hyi]
  exact hne i y (by omega) hyi' he
theorem bef_found{l:List Qab}{p:Qae}(h:Qaz none l=true){i:Nat}{x:Qab}(hx:l[i]? =some x)(he:x.At=p):befP l p=i:=by
 obtain⟨_,hsort⟩:=Qe4 _ _ h;have hi:=(Zai.1 hx).1;refine Qyx p l i (by omega) (fun j y hj hy=> ?_) (fun j y hj hy=> ?_)
 .have:=hsort j i y x hj hy hx
  rwa [he] at this
 .rcases Zbp i j with h1|h1
  .have h2:=hsort i j x y h1 hx hy;rw[he] at h2;cases h3:Qap y.At p with
   |false=>rfl
   |true=>
    have:=Qeu h2 h3
    rw[Qku] at this;cases this
  .have:j=i:=by omega
   subst this;rw[hx] at hy;obtain rfl:=Zac hy;rw[he,Qku]
theorem any_find{l:List Qab}{p:Qae}(h:Qaz none l=true):(l.any (fun x=>decide (x.At=p))=true/\ ∃x,l[befP l p]? =some x/\x.At=p/\l.find? (fun x=>decide (x.At=p))=some x/\Qaw (fun x=>decide (x.At=p)) 0 l=(befP l p:Int))\/
 (l.any (fun x=>decide (x.At=p))=false/\l.find? (fun x=>decide (x.At=p))=none/\Qaw (fun x=>decide (x.At=p)) 0 l= -1):=by
 rcases Qep (fun x=>decide (x.At=p)) l 0 with ⟨h1,h2⟩|⟨i,x,h1,h2,h3⟩
 .refine .inr ⟨?_,h1,h2⟩;simpa[ZcR] using h1
 .have he:x.At=p:=by simpa using ZcO h1
  have hb:=bef_found h h3 he;refine .inl ⟨?_,x,by rw[hb];exact h3,he,h1,by rw[h2,hb,ZbR]⟩;simp only[Zeb,Zar];exact⟨x,Zaf h3,he⟩
def placeAt.rc:D->Option (Int):=vInt
def placeAt.re:Int->D:=D.int .i64
theorem placeAt.rle: ∀d b,placeAt.rc d=some b->Le d (placeAt.re b):=Qa3
def placeAt.ar:List PK->Option (Asm×Qae):=a2 (kR Asm.d) (kR Qae.d)
def placeAt.fv(a:Asm×Qae):Int:=(fun a p=>Qaw (fun x=>decide (x.At=p)) 0 a.Tiles) (a.1) (a.2)
def placeAt.row:Row:=vK (b2 (qR Asm.d_le) (qR Qae.d_le)) (RK.mk placeAt.rc placeAt.re placeAt.rle) (fun a=>Qaz none a.1.Tiles=true) placeAt.fv
def placeAt.q:=vKq (R:=placeAt.row) rfl
theorem placeAt.ok:Qas Tryz.prog 176 placeAt.row:=by
 refine vw (tC BinP.ok tN) Tryz.func176 rfl (by kernel_rfl) ?_;intro a hpre;simp only[Tryz.f176,Option.getD];simp(maxSteps:=9^9)(disch:=omega)only[ZZ,simprocAttr,rch,placeAt.fv,placeAt.rc,BinP.q,BinP.ar,BinP.fv];refine⟨hpre,?_⟩;rcases any_find (p:=a.2) hpre with ⟨h1,x,h2,h3,h4,h5⟩|⟨h1,h2,h3⟩
 .rw[Zao h1,h5]
 .rw[h1,Zaj (by simp),h3]
def lkP{β:Type}:List (Qae×β)->Qae->Option β
 |[],_=>none
 |(k,v)::r,p=>if p=k then some v else lkP r p
theorem pt_beq(p q:Qae):D.beql (Qae.c p) (Qae.c q)=decide (p=q):=by
 cases p;cases q;simp only[Qae.c,D.beql,D.beq,Qae.mk.injEq,ZaX];rw[ZcN];simp
theorem lk_pt{β:Type}(e:Qae×β->D×D)(g:β->D)(he: ∀p,e p=(.agg (Qae.c p.1),g p.2))(x y:Int): ∀(l:List (Qae×β)),lk (l.map e) (.agg [.int .i64 x,.int .i64 y])=(lkP l ⟨x,y⟩).map g
 |[]=>rfl
 |q::r=>by
  have h1:D.beq (.agg [.int .i64 x,.int .i64 y]) (.agg (Qae.c q.1))=decide ((⟨x,y⟩:Qae)=q.1):=pt_beq ⟨x,y⟩ q.1;obtain⟨k,v⟩:=q;simp only[Zaq,he,lk,lkP,h1];by_cases h:(⟨x,y⟩:Qae)=k
  .simp[h]
  .simp[h,lk_pt e g he x y r]
theorem lkVC_pt{β:Type}(e:Qae×β->D×D)(g:β->D)(he: ∀p,e p=(.agg (Qae.c p.1),g p.2))(x y:Int)(l:List (Qae×β))(Ks:D->Prop)(Kn:Prop):
 LkVC (l.map e) (.agg [.int .i64 x,.int .i64 y]) Ks Kn=((∀v,lkP l ⟨x,y⟩=some v->Ks (g v))/\(lkP l ⟨x,y⟩=none->Kn)):=by
 apply propext;unfold LkVC;rw[lk_pt e g he];constructor
 .rintro⟨h1,h2⟩;exact⟨fun v hv=>h1 _ (by rw[hv];rfl),fun h=>h2 (by rw[h];rfl)⟩
 .rintro⟨h1,h2⟩;refine⟨fun v hv=> ?_,fun h=>h2 (by simpa using h)⟩;simp only[Zay] at hv;obtain⟨w,hw,rfl⟩:=hv;exact h1 w hw
theorem lkVC_pi(x y:Int)(l:List (Qae×Int))(Ks:D->Prop)(Kn:Prop):LkVC (l.map Qbe) (.agg [.int .i64 x,.int .i64 y]) Ks Kn=((∀v,lkP l ⟨x,y⟩=some v->Ks (.int .i64 v))/\(lkP l ⟨x,y⟩=none->Kn)):=
 lkVC_pt Qbe (.int .i64) (fun _=>rfl) x y l Ks Kn
def Qbw(l:List (Qae×Int))(p:Qae):Int:=(lkP l p).getD (-1)
def catC.fv(a:Cry×Qae):Int:=(fun c p=>Qbw c.Tl p) (a.1) (a.2)
def catC.row:Row:=vKF (b2 (qP 6 Cry.d_le) (qR Qae.d_le)) rI (fun a=>True) catC.fv
def catC.q:=vKFq (R:=catC.row) rfl
theorem catC.ok:Qas Tryz.prog 55 catC.row:=by
 refine vwF tN Tryz.func55 rfl (by kernel_rfl) ?_;intro a hpre;simp only[Tryz.f55,Option.getD];simp(maxSteps:=9^9)(disch:=omega)only[ZZ,simprocAttr,rch,catC.fv,ORC,D.sc,D.scs,scL,decD];simp(maxSteps:=9^9)(disch:=omega)only[ZZ,simprocAttr,rch,catC.fv,ORC,D.sc,D.scs,scL,decD,lkVC_pi];simp only[Qbw];exact⟨fun v hv=>by rw[show lkP a.1.Tl a.2=some v from hv];rfl,fun hv=>by rw[show lkP a.1.Tl a.2=none from hv];rfl⟩
def Quh(s:Qaa)(f:Qae->Int)(p:Qae)(t:Int)(d:Int):Int:=if 0<=f (Qf7 p d) then Qfn s t d (f (Qf7 p d)) else 0
def Qhs(s:Qaa)(f:Qae->Int)(p:Qae)(t:Int):Nat->Int
 |0=>0
 |k+1=>Qhs s f p t k+Quh s f p t k
theorem Qae8(s:Qaa)(a:Asm)(p:Qae)(t:Int): ∀k,Qhs s (atA a) p t k=Qjm s a p t k
 |0=>rfl
 |k+1=>by simp only[Qhs,Qjm,Qae8 s a p t k];rfl
def inF(s:Qaa)(f:Qae->Int):Prop:= ∀p,0<=f p->Qcs s (f p)
theorem Qxd{s:Qaa}(h:setP s)(f:Qae->Int)(p:Qae)(t d:Int):0<=Quh s f p t d/\Quh s f p t d<=4:=by
 simp only[Quh,Qfn];split
 .split
  .exact Qp1 h _
  .omega
 .omega
theorem Qwy{s:Qaa}(h:setP s)(f:Qae->Int)(p:Qae)(t:Int): ∀(k:Nat),0<=Qhs s f p t k/\Qhs s f p t k<=4*k
 |0=>by simp[Qhs]
 |k+1=>by
  have h1:=Qwy h f p t k;have h2:=Qxd h f p t k;simp only[Qhs];omega
def bindC.ar:List PK->Option (Qaa×Qae×Int×Cry)
 |[.val (.agg x0),.val (.agg x1),.val (.int .i64 x2),.val (.fn 55 [.ref x3] [])]=>(Qaa.d x0).bind fun y0=>(Qae.d x1).bind fun y1=>(Cry.d (x3.take 6)).bind fun y3=>some (y0,y1,x2,y3)
 |_=>none
def bindC.ae(a:Qaa×Qae×Int×Cry):List PK:=[.val (.agg (Qaa.c a.1)),.val (.agg (Qae.c a.2.1)),.val (.int .i64 a.2.2.1),.val (.fn 55 [.ref (Cry.c a.2.2.2)] [])]
theorem bindC.le: ∀ps a,bindC.ar ps=some a->LeKL ps (bindC.ae a):=by
 intro ps a h;unfold bindC.ar at h;split at h
 .simp only[ZaM,Zae] at h;obtain⟨y0,h0,y1,h1,y3,h3,rfl⟩:=h;exact⟨Qav (Qaa.d_le _ _ h0),Qav (Qae.d_le _ _ h1),LeK.refl _,le_fn1 ⟨Qil (LeP.trans_take (Cry.d_le _ _ h3)),trivial⟩,trivial⟩
 .cases h
def bindC.fv(a:Qaa×Qae×Int×Cry):Int:=(fun s p t c=>Qhs s (Qbw c.Tl) p t 4) (a.1) (a.2.1) (a.2.2.1) (a.2.2.2)
def bindC.row:Row:=Qfi bindC.ar (fun a=>setP a.1/\inF a.1 (Qbw a.2.2.2.Tl)/\Qdy a.2.1/\Qcs a.1 a.2.2.1) (fun a=>(D.int .i64) (bindC.fv a))
def bindC.q:=vqF bindC.row rfl
def Yak:=J @bindC.ae.eq_1<|J @bindC.fv.eq_1<|J @step_.q<|J @step_.fv.eq_1<|J @step_.re.eq_1<|J @bond_.q<|J @bond_.fv.eq_1<|J @bond_.re.eq_1<|J @catC.q @catC.fv.eq_1
theorem bindC.ok:Qas Tryz.prog 67 bindC.row:=by
 refine Qbn Qaq (tC step_.ok (tC bond_.ok (tC catC.ok tN))) Tryz.func67 rfl (by kernel_rfl) (by kernel_rfl) (ar:=bindC.ar) (ae:=bindC.ae) bindC.le (n:=4) (fun _=>rfl) (by decide) (rc:=(vInt)) (re:=(D.int .i64)) (Qa3) (f:=bindC.fv) ?_;intro a hpre;simp only[Tryz.f67,Option.getD];simp(maxSteps:=9^9)(disch:=omega)only[ZZ,simprocAttr,rch,Yak,ORC,D.sc,D.scs,scL,decD];obtain⟨h1,h2,h3,h4⟩:=hpre;refine Qay.old ⟨{k:Nat//k<=4},fun k=>⟨[(12,.im (.int .i64 k.1)),(9,.im (.int .i64 (Qhs a.1 (Qbw a.2.2.2.Tl) a.2.1 a.2.2.1 k.1))),(8,.im (.int .i64 0)),(5,.ptr 1 0),(4,.ptr 0 0),(2,.im (.int .i64 a.2.2.1)),(3,.im (.fn 55 [.ref (Cry.c a.2.2.2)] []))],[(1,(true,.cells 69 [.im (.int .i64 a.2.1.X),.im (.int .i64 a.2.1.Y)])),(0,(true,.cells 27 ((Qaa.c a.1).map .im)))],2⟩,fun k=>4 - k.1,fun k=>⟨by simp[Qad.good,belT,belH,Qam,AV.bel,belL,Qaa.c],Zap _⟩,⟨⟨0,by simp⟩,by simp(maxSteps:=9^9)(disch:=omega)only[ZZ,simprocAttr,rch,Yak,ORC,D.sc,D.scs,scL,decD,sub,Qhs]⟩,fun k=> ?_⟩;obtain⟨k,hk1⟩:=k;simp(maxSteps:=9^9)(disch:=omega)only[ZZ,simprocAttr,rch,Yak,ORC,D.sc,D.scs,scL,decD,sub,Qal];have hb:=Qwy h1 (Qbw a.2.2.2.Tl) a.2.1 a.2.2.1 k;have ht:=Qxd h1 (Qbw a.2.2.2.Tl) a.2.1 a.2.2.1 k;refine⟨fun hk=>⟨⟨h3,by omega⟩,fun hp=>⟨⟨h1,h4,⟨by omega,by omega⟩,h2 _ hp⟩,⟨⟨k+1,by omega⟩,by simp only;omega,?_,?_⟩⟩,fun hp=>⟨⟨k+1,by omega⟩,by simp only;omega,?_,?_⟩⟩,fun hk=> ?_⟩
 .rw[Qak (by omega) (by omega)];simp only;omega
 .simp only[Qhs];simp only[Quh,Zao hp] at ht⊢;rw[Qak (by omega) (by omega)]
 .rw[Qak (by omega) (by omega)];simp only;omega
 .simp only[Qhs,Quh,Zaj hp];omega
 .have:k=4:=by omega
  rw[this]
def binding_.row:Row:=orR bindC.row noRow
theorem binding_.ok:Qas Tryz.prog 67 binding_.row:=orR_ok bindC.ok noRow_ok
def Qpg(s:Qar)(f:Qae->Int)(p:Qae)(t:Int):Bool:=Qbi p && (decide (f p<0) && decide (s.Temperature<=Qhs s.Set f p t 4))
def fitsC.fv(a:Cry×Qae×Int):Bool:=(fun c p t=>Qpg c.Sys (Qbw c.Tl) p t) (a.1) (a.2.1) (a.2.2)
def fitsC.row:Row:=vKF (b3 (qP 6 Cry.d_le) (qR Qae.d_le) qI) rB (fun a=>setP a.1.Sys.Set/\inF a.1.Sys.Set (Qbw a.1.Tl)/\Qcs a.1.Sys.Set a.2.2) fitsC.fv
def fitsC.q:=vKFq (R:=fitsC.row) rfl
theorem fitsC.ok:Qas Tryz.prog 32 fitsC.row:=by
 refine vwF (tC ValidPoint.ok (tC catC.ok (tC binding_.ok tN))) Tryz.func32 rfl (by kernel_rfl) ?_;intro a hpre;simp only[Tryz.f32,Option.getD];simp(maxSteps:=9^9)(disch:=omega)only[ZZ,simprocAttr,rch,fitsC.fv,ValidPoint.q,ValidPoint.fv,catC.q,catC.fv,binding_.row,orR,bindC.q,bindC.ar,bindC.fv,ORC,D.sc,D.scs,scL,decD];obtain⟨h1,h2,h3⟩:=hpre;cases e1:Qbi a.2.1
 .simp[Qpg,e1]
 .rw[Zao rfl]
  split<;>rename_i h
  .exact .inl ⟨⟨h1,h2,Qkc e1,h3⟩,by simp[Qpg,e1,h]⟩
  .simp[Qpg,e1,h]
def updP{β:Type}:List (Qae×β)->Qae->β->List (Qae×β)
 |[],p,v=>[(p,v)]
 |(k,w)::r,p,v=>if p=k then (p,v)::r else (k,w)::updP r p v
def delP{β:Type}:List (Qae×β)->Qae->List (Qae×β)
 |[],_=>[]
 |(k,w)::r,p=>if p=k then r else (k,w)::delP r p
theorem upd_pt{β:Type}(e:Qae×β->D×D)(g:β->D)(he: ∀p,e p=(.agg (Qae.c p.1),g p.2))(x y:Int)(v:β): ∀(l:List (Qae×β)),upd (l.map e) (.agg [.int .i64 x,.int .i64 y]) (g v)=(updP l ⟨x,y⟩ v).map e
 |[]=>by simp[upd,updP,he,Qae.c]
 |q::r=>by
  have h1:D.beq (.agg [.int .i64 x,.int .i64 y]) (.agg (Qae.c q.1))=decide ((⟨x,y⟩:Qae)=q.1):=pt_beq ⟨x,y⟩ q.1;obtain⟨k,w⟩:=q;simp only[Zaq,he,upd,updP,h1];by_cases h:(⟨x,y⟩:Qae)=k
  .simp[h,he,Qae.c];exact⟨by rw[<-h],by rw[<-h]⟩
  .simp[h,he,upd_pt e g he x y v r]
theorem del_pt{β:Type}(e:Qae×β->D×D)(g:β->D)(he: ∀p,e p=(.agg (Qae.c p.1),g p.2))(x y:Int): ∀(l:List (Qae×β)),del (l.map e) (.agg [.int .i64 x,.int .i64 y])=(delP l ⟨x,y⟩).map e
 |[]=>rfl
 |q::r=>by
  have h1:D.beq (.agg [.int .i64 x,.int .i64 y]) (.agg (Qae.c q.1))=decide ((⟨x,y⟩:Qae)=q.1):=pt_beq ⟨x,y⟩ q.1;obtain⟨k,w⟩:=q;simp only[Zaq,he,del,delP,h1];by_cases h:(⟨x,y⟩:Qae)=k
  .simp[h]
  .simp[h,he,del_pt e g he x y r]
theorem upd_ps(x y:Int)(v:List Int)(l:List (Qae×List Int)):upd (l.map Qbc) (.agg [.int .i64 x,.int .i64 y]) (.sl false 1 (v.map intC))=(updP l ⟨x,y⟩ v).map Qbc:=
 upd_pt Qbc (fun v=> .sl false 1 (v.map intC)) (fun _=>rfl) x y v l
theorem upd_pi(x y v:Int)(l:List (Qae×Int)):upd (l.map Qbe) (.agg [.int .i64 x,.int .i64 y]) (.int .i64 v)=(updP l ⟨x,y⟩ v).map Qbe:=
 upd_pt Qbe (.int .i64) (fun _=>rfl) x y v l
theorem del_ps(x y:Int)(l:List (Qae×List Int)):del (l.map Qbc) (.agg [.int .i64 x,.int .i64 y])=(delP l ⟨x,y⟩).map Qbc:=
 del_pt Qbc (fun v=> .sl false 1 (v.map intC)) (fun _=>rfl) x y l
def Qm0(s:Qar)(f:Qae->Int)(q:Qae):Nat->List Int
 |0=>[]
 |k+1=>Qm0 s f q k++(if Qpg s f q k=true then [(k:Int)] else [])
theorem Qus(s:Qar)(f:Qae->Int)(q:Qae): ∀k,(Qm0 s f q k).length<=k
 |0=>by simp[Qm0]
 |k+1=>by
  have:=Qus s f q k
  simp only[Qm0,Zaz]
  split<;>simp<;>omega
def lookS(s:Qar)(f:Qae->Int)(op:List (Qae×List Int))(q:Qae):List (Qae×List Int):=
 if Qm0 s f q s.Set.Tiles.length=[] then delP op q else updP op q (Qm0 s f q s.Set.Tiles.length)
def Qrz(s:Qar)(f:Qae->Int)(op:List (Qae×List Int))(p:Qae):Nat->List (Qae×List Int)
 |0=>op
 |k+1=>lookS s f (Qrz s f op p k) (Qf7 p k)
def Qbk(s:Qar):List AV:=[.im (.sl false 2 (s.Set.Glues.map Glue.c)),.im (.sl false 2 (s.Set.Tiles.map Tile.c)),.im (.sl false 3 (s.Seed.Tiles.map Qab.c)),.im (.int .i64 s.Temperature),.mp 1,.mp 2]
def cryH(c:Cry):Qan:=[(0,(true,.cells 82 (Qbk c.Sys))),(1,(true,.map ⟨true,[.int .i64,.int .i64]⟩ (c.Tl.map Qbe))),(2,(true,.map ⟨true,[.int .i64,.int .i64]⟩ (c.Op.map Qbc)))]
theorem Qack(c:Cry)(j:Nat):domB (cryH c) j=true↔j<3:=by
 simp only[domB,cryH,hget];by_cases h0:j=0
 .subst h0;simp
 .by_cases h1:j=1
  .subst h1;simp
  .by_cases h2:j=2
   .subst h2;simp
   .have e0:(0==j)=false:=by simp;omega
    have e1:(1==j)=false:=by simp;omega
    have e2:(2==j)=false:=by simp;omega
    simp[e0,e1,e2];omega
def Qacu(c:Cry):Prop:=setP c.Sys.Set/\inF c.Sys.Set (Qbw c.Tl)/\c.Sys.Set.Tiles.length<=1000000
def lookC.ca(a:Cry×Qae):List AV:=[.ptr 0 0,.im (.agg [.int .i64 a.2.X,.int .i64 a.2.Y])]
def lookC.H1(a:Cry×Qae):Qan:=[(2,(true,.map ⟨true,[.int .i64,.int .i64]⟩ ((Qrz a.1.Sys (Qbw a.1.Tl) a.1.Op a.2 4).map Qbc)))]
def kl2(j:Nat):Bool:=j==2
def lookC.row:Row:=orow lookC.ca (fun a=>cryH a.1) 3 (fun a=>Qacu a.1/\Qdy a.2) kl2 (fun _=> .im (.tup [])) lookC.H1 0
def Yal:=J @step_.q<|J @step_.fv.eq_1<|J @step_.re.eq_1<|J @fitsC.q @fitsC.fv.eq_1
theorem lookC.ok:Qas Tryz.prog 65 lookC.row:=by
 refine ow (tC step_.ok (tC fitsC.ok tN)) Tryz.func65 rfl (by kernel_rfl) (exB:=fun _=>false) (R:=fun _ r=>r= .im (.tup [])) (fun _=>rfl)
  (fun a=>by simp[lookC.ca,cryH,Qbk,lookC.H1,kl2,belL,AV.bel,belH,Qam,Qc2,AObj.nms,nmsL,AV.nms,domB,hget]) (fun a p hp=> ?_) (fun a r h=>by subst h;exact LeV.refl _) ?_
 rotate_left
 intro a hpre;simp only[Tryz.f65,Option.getD,lookC.ca,cryH,Qbk,lookC.H1,kl2];simp(maxSteps:=9^9)(disch:=omega)only[ZZ,simprocAttr,rch,Yal,ORB,lookC.ca,cryH,Qbk,lookC.H1,kl2];obtain⟨⟨hp1,hp2,hp4⟩,hp3⟩:=hpre;refine Qay.old ⟨{k:Nat//k<=4},fun k=>⟨[(8,.im (.int .i64 k.1)),(3,.ptr 3 0),(0,.ptr 0 0)],[(3,(true,.cells 69 [.im (.int .i64 a.2.X),.im (.int .i64 a.2.Y)])),(0,(true,.cells 82 (Qbk a.1.Sys))),(1,(true,.map ⟨true,[.int .i64,.int .i64]⟩ (a.1.Tl.map Qbe))),(2,(true,.map ⟨true,[.int .i64,.int .i64]⟩ ((Qrz a.1.Sys (Qbw a.1.Tl) a.1.Op a.2 k.1).map Qbc)))],4⟩,fun k=>4 - k.1,fun k=>⟨by simp[Qad.good,belT,belH,Qam,AV.bel,belL,Qbk],Zap _⟩,⟨⟨0,by simp⟩,by simp(maxSteps:=9^9)(disch:=omega)only[ZZ,simprocAttr,rch,Yal,ORB,lookC.ca,cryH,Qbk,lookC.H1,kl2,sub,Qrz,Qbk]⟩,fun k=> ?_⟩;obtain⟨k,hk1⟩:=k;simp only[Qbk];simp(maxSteps:=9^9)(disch:=omega)only[ZZ,simprocAttr,rch,Yal,ORB,lookC.ca,cryH,Qbk,lookC.H1,kl2,sub,Qal];have hq:Qdy a.2:=hp3;refine⟨fun hk=>⟨⟨hp3,by omega⟩,fun hn=> ?_⟩,fun hk=> ?_⟩
 .refine Qay.ren ⟨{j:Nat//j<=a.1.Sys.Set.Tiles.length},fun j=>⟨[(21,.im (.int .i64 j.1)),(20,.im (.int .i64 a.1.Sys.Set.Tiles.length)),(6,.own 6),(5,.ptr 4 0),(8,.im (.int .i64 k)),(3,.ptr 3 0),(0,.ptr 0 0)],[(6,(true,.arr 2 1 ((Qm0 a.1.Sys (Qbw a.1.Tl) (Qf7 a.2 k) j.1).map intC))),(4,(true,.cells 69 [.im (.int .i64 (Qf7 a.2 k).X),.im (.int .i64 (Qf7 a.2 k).Y)])),(3,(true,.cells 69 [.im (.int .i64 a.2.X),.im (.int .i64 a.2.Y)])),(0,(true,.cells 82 (Qbk a.1.Sys))),(1,(true,.map ⟨true,[.int .i64,.int .i64]⟩ (a.1.Tl.map Qbe))),(2,(true,.map ⟨true,[.int .i64,.int .i64]⟩ ((Qrz a.1.Sys (Qbw a.1.Tl) a.1.Op a.2 k).map Qbc)))],7⟩,fun j=>a.1.Sys.Set.Tiles.length - j.1,fun j=>⟨by simp[Qad.good,belT,belH,Qam,AV.bel,belL,Qbk],by simp⟩,⟨⟨0,by simp⟩,[(6,some 5)],?_⟩,fun j=> ?_⟩
  .simp only[subP,Qbk];simp(maxSteps:=9^9)(disch:=omega)only[ZZ,simprocAttr,rch,Yal,ORB,lookC.ca,cryH,Qbk,lookC.H1,kl2,Zab,Zaa,Qm0,ZaG]
   try simp
  obtain⟨j,hj1⟩:=j;simp only[Qbk];simp(maxSteps:=9^9)(disch:=omega)only[ZZ,simprocAttr,rch,Yal,ORB,lookC.ca,cryH,Qbk,lookC.H1,kl2,Qal,sub];have hlen:=Qus a.1.Sys (Qbw a.1.Tl) (Qf7 a.2 k) j;refine⟨fun hj=>⟨⟨hp1,hp2,by omega,by omega⟩,fun hf=>⟨by omega,⟨j+1,by omega⟩,[(6,some 8)],by simp only;omega,?_⟩,fun hf=>⟨⟨j+1,by omega⟩,[(6,some 6)],by simp only;omega,?_⟩⟩,fun hj=> ?_⟩
  .simp only[subP];simp(maxSteps:=9^9)(disch:=omega)only[ZZ,simprocAttr,rch,Yal,ORB,lookC.ca,cryH,Qbk,lookC.H1,kl2,Zab,Zaa];refine⟨?_,?_⟩
   .rw[Qak (by omega) (by omega)];omega
   .simp[Qm0,hf,intC]
  .simp only[subP];simp(maxSteps:=9^9)(disch:=omega)only[ZZ,simprocAttr,rch,Yal,ORB,lookC.ca,cryH,Qbk,lookC.H1,kl2,Zab,Zaa];refine⟨?_,?_⟩
   .rw[Qak (by omega) (by omega)];omega
   .simp[Qm0,hf]
  have hj2:j=a.1.Sys.Set.Tiles.length:=by omega
  subst hj2;rw[upd_ps,del_ps];have hl:(0:Int)<((Qm0 a.1.Sys (Qbw a.1.Tl) (Qf7 a.2 k) a.1.Sys.Set.Tiles.length).length:Int)↔Qm0 a.1.Sys (Qbw a.1.Tl) (Qf7 a.2 k) a.1.Sys.Set.Tiles.length≠[]:=by
   rw[<-ZcH];omega
  intro _;refine⟨fun h0=>⟨⟨k+1,by omega⟩,by simp only;omega,?_,?_⟩,fun h0=>⟨⟨k+1,by omega⟩,by simp only;omega,?_,?_⟩⟩
  .rw[Qak (by omega) (by omega)];simp only;omega
  .simp only[Qrz,lookS];rw[Zaj (hl.1 h0)]
  .rw[Qak (by omega) (by omega)];simp only;omega
  .simp only[Qrz,lookS];rw[Zao (Zbc.1 (fun h=>h0 (hl.2 h)))]
 .have:k=4:=by omega
  subst this;simp[kl2]
 simp[lookC.H1] at hp;subst hp;exact .inl ⟨by omega,rfl,rfl⟩
theorem Qyq{β:Type}(p q:Qae)(v:β): ∀(l:List (Qae×β)),lkP (updP l p v) q=if q=p then some v else lkP l q
 |[]=>by simp[updP,lkP]
 |(k,w)::r=>by
  simp only[updP];by_cases h:p=k
  .subst h;rw[Zao rfl];simp only[lkP];by_cases h2:q=p
   .rw[Zao h2,Zao h2]
   .rw[Zaj h2,Zaj h2,Zaj h2]
  .rw[Zaj h];simp only[lkP,Qyq p q v r];by_cases h2:q=k
   .rw[Zao h2,Zao h2,Zaj (fun h3=>h (h3.symm.trans h2))]
   .rw[Zaj h2,Zaj h2]
def tlUp(l:List Qab):List (Qae×Int):=l.foldl (fun t x=>updP t x.At x.Tile) []
theorem tlUp_snoc(l:List Qab)(x:Qab):tlUp (l++[x])=updP (tlUp l) x.At x.Tile:=by simp[tlUp]
def opUp(s:Qar)(f:Qae->Int)(l:List Qab):List (Qae×List Int):=l.foldl (fun o x=>Qrz s f o x.At 4) []
theorem opUp_snoc(s:Qar)(f:Qae->Int)(l:List Qab)(x:Qab):opUp s f (l++[x])=Qrz s f (opUp s f l) x.At 4:=by simp[opUp]
theorem tlUp_in{s:Qaa}: ∀(l:List Qab),(∀x∈l,Qcs s x.Tile)->inF s (Qbw (tlUp l)):=by
 intro l;have key: ∀(l:List Qab) (t:List (Qae×Int)),(∀p v,lkP t p=some v->Qcs s v)->(∀x∈l,Qcs s x.Tile)-> ∀p v,lkP (l.foldl (fun t x=>updP t x.At x.Tile) t) p=some v->Qcs s v:=by
  intro l;induction l with
  |nil=>intro t h _;exact h
  |cons x r ih=>
   intro t h hx;refine ih _ ?_ (fun y hy=>hx y (Zas _ hy));intro p v hv;rw[Qyq] at hv;split at hv
   .cases hv;exact hx x (Zat ..)
   .exact h p v hv
 intro h p hp
 have:=key l [] (by intro p v h;simp[lkP] at h) h p
 simp only[Qbw,tlUp] at hp⊢;cases hq:lkP (l.foldl (fun t x=>updP t x.At x.Tile) []) p with
 |none=>rw[hq] at hp;simp at hp
 |some v=>exact this v hq
theorem Qwe{α:Type}{l:List α}{k:Nat}{x:α}(h:l[k]? =some x):l.take (k+1)=l.take k++[x]:=by rw[ZbO,h];rfl
def Qui(s:Qar)(a:Asm):Cry:=⟨s,tlUp a.Tiles,opUp s (Qbw (tlUp a.Tiles)) a.Tiles⟩
def newC.ca(a:Qar×Asm):List AV:=[.im (.agg (Qar.c a.1)),.im (.agg (Asm.c a.2))]
def newC.H1(a:Qar×Asm):Qan:=[(4,(true,.cells 82 [.im (.sl false 2 (a.1.Set.Glues.map Glue.c)),.im (.sl false 2 (a.1.Set.Tiles.map Tile.c)),.im (.sl false 3 (a.1.Seed.Tiles.map Qab.c)),.im (.int .i64 a.1.Temperature),.mp 2,.mp 3])),
 (2,(true,.map ⟨true,[.int .i64,.int .i64]⟩ ((Qui a.1 a.2).Tl.map Qbe))),(3,(true,.map ⟨true,[.int .i64,.int .i64]⟩ ((Qui a.1 a.2).Op.map Qbc)))]
def newC.pre(a:Qar×Asm):Prop:=setP a.1.Set/\a.1.Set.Tiles.length<=1000000/\ ∀x∈a.2.Tiles,Qcs a.1.Set x.Tile/\Qdy x.At
def newC.ex(j:Nat):Bool:=j==2||(j==3||j==4)
def noB(_:Nat):Bool:=false
def newC.row:Row:=orow newC.ca (fun _=>[]) 0 newC.pre noB (fun _=> .ptr 4 0) newC.H1 5
theorem newC.ok:Qas Tryz.prog 30 newC.row:=by
 refine ow (tC lookC.ok tN) Tryz.func30 rfl (by kernel_rfl) (exB:=newC.ex) (R:=fun _ r=>r= .ptr 4 0) (fun _=>rfl)
  (fun a=>by simp[newC.ca,newC.H1,newC.ex,noB,Qar.c,Asm.c,belL,AV.bel,belH,Qam,Qc2,AObj.nms,nmsL,AV.nms,domB,hget]) (fun a p hp=> ?_) (fun a r h=>by subst h;exact LeV.refl _) ?_
 rotate_left
 intro a hpre;simp only[Tryz.f30,Option.getD,newC.ca,newC.H1,newC.ex,noB,Qar.c,Asm.c];simp(maxSteps:=9^9)(disch:=omega)only[ZZ,simprocAttr,rch,ORB,newC.ca,newC.H1,newC.ex,noB,Qar.c,Asm.c];obtain⟨hp1,hp2,hp3⟩:=hpre;intro hn;refine Qay.old ⟨{k:Nat//k<=a.2.Tiles.length},fun k=>⟨[(18,.im (.int .i64 k.1)),(17,.im (.int .i64 a.2.Tiles.length)),(16,.im (.sl false 3 (a.2.Tiles.map Qab.c))),(5,.ptr 4 0),(4,.im .nilp),(3,.ptr 1 0)],[(4,(true,.cells 82 [.im (.sl false 2 (a.1.Set.Glues.map Glue.c)),.im (.sl false 2 (a.1.Set.Tiles.map Tile.c)),.im (.sl false 3 (a.1.Seed.Tiles.map Qab.c)),.im (.int .i64 a.1.Temperature),.mp 2,.mp 3])),(3,(true,.map ⟨true,[.int .i64,.int .i64]⟩ ([]))),(2,(true,.map ⟨true,[.int .i64,.int .i64]⟩ ((tlUp (a.2.Tiles.take k.1)).map Qbe))),(1,(true,.cells 30 [.im (.sl false 3 (a.2.Tiles.map Qab.c))]))],5⟩,fun k=>a.2.Tiles.length - k.1,fun k=>⟨by simp[Qad.good,belT,belH,Qam,AV.bel,belL],Zap _⟩,⟨⟨0,by simp⟩,by simp(maxSteps:=9^9)(disch:=omega)only[ZZ,simprocAttr,rch,ORB,newC.ca,newC.H1,newC.ex,noB,Qar.c,Asm.c,sub,tlUp,Zbk,ZdD]⟩,fun k=> ?_⟩;obtain⟨k,hk1⟩:=k;simp(maxSteps:=9^9)(disch:=omega)only[ZZ,simprocAttr,rch,ORB,newC.ca,newC.H1,newC.ex,noB,Qar.c,Asm.c,sub,Qal];refine⟨fun hk=>⟨hk,fun x hx=> ?_⟩,fun hk=> ?_⟩
 .refine⟨⟨k+1,by omega⟩,by simp only;omega,?_,?_⟩
  .rw[Qak (by omega) (by omega)];simp only;omega
  .rw[upd_pi,Qwe hx,tlUp_snoc]
 rw[ZaL (by omega)];intro _;refine Qay.old ⟨{k:Nat//k<=a.2.Tiles.length},fun k=>⟨[(34,.im (.int .i64 k.1)),(33,.im (.int .i64 a.2.Tiles.length)),(32,.im (.sl false 3 (a.2.Tiles.map Qab.c))),(5,.ptr 4 0),(4,.im .nilp),(3,.ptr 1 0)],[(4,(true,.cells 82 [.im (.sl false 2 (a.1.Set.Glues.map Glue.c)),.im (.sl false 2 (a.1.Set.Tiles.map Tile.c)),.im (.sl false 3 (a.1.Seed.Tiles.map Qab.c)),.im (.int .i64 a.1.Temperature),.mp 2,.mp 3])),(3,(true,.map ⟨true,[.int .i64,.int .i64]⟩ ((opUp a.1 (Qbw (tlUp a.2.Tiles)) (a.2.Tiles.take k.1)).map Qbc))),(2,(true,.map ⟨true,[.int .i64,.int .i64]⟩ ((tlUp a.2.Tiles).map Qbe))),(1,(true,.cells 30 [.im (.sl false 3 (a.2.Tiles.map Qab.c))]))],5⟩,fun k=>a.2.Tiles.length - k.1,fun k=>⟨by simp[Qad.good,belT,belH,Qam,AV.bel,belL],Zap _⟩,⟨⟨0,by simp⟩,by simp(maxSteps:=9^9)(disch:=omega)only[ZZ,simprocAttr,rch,ORB,newC.ca,newC.H1,newC.ex,noB,Qar.c,Asm.c,sub,opUp,Zbk,ZdD]⟩,fun k=> ?_⟩;obtain⟨k,hk1⟩:=k;simp(maxSteps:=9^9)(disch:=omega)only[ZZ,simprocAttr,rch,ORB,newC.ca,newC.H1,newC.ex,noB,Qar.c,Asm.c,sub,Qal];refine⟨fun hk=>⟨hk,fun x hx=> ?_⟩,fun hk=> ?_⟩
 .refine orow.os (⟨a.1,tlUp a.2.Tiles,opUp a.1 (Qbw (tlUp a.2.Tiles)) (a.2.Tiles.take k)⟩,x.At) [4,2,3] ⟨⟨hp1,tlUp_in _ (fun y hy=>(hp3 y hy).1),hp2⟩,(hp3 x (Zaf hx)).2⟩ (fun j=>Qack _ j) rfl rfl ?_ ?_
  .simp(maxSteps:=9^9)(disch:=omega)only[ZZ,simprocAttr,rch,ORB,newC.ca,newC.H1,newC.ex,noB,Qar.c,Asm.c,lookC.ca,cryH,Qbk,ZaQ]
  .simp(maxSteps:=9^9)(disch:=omega)only[ZZ,simprocAttr,rch,ORB,newC.ca,newC.H1,newC.ex,noB,Qar.c,Asm.c,lookC.H1,kl2,sub];refine⟨⟨k+1,by omega⟩,by simp only;omega,?_,?_⟩
   .rw[Qak (by omega) (by omega)];simp only;omega
   .rw[Qwe hx,opUp_snoc]
 .rw[ZaL (by omega)];exact⟨rfl,rfl⟩
 simp[newC.H1] at hp;rcases hp with rfl|rfl|rfl
 .exact .inr ⟨by omega,by simp,rfl,rfl⟩
 .exact .inr ⟨by omega,by simp,rfl,rfl⟩
 .exact .inr ⟨by omega,by simp,rfl,rfl⟩
theorem cryOf_pre{a:Qar×Asm}(h:newC.pre a):Qacu (Qui a.1 a.2):=⟨h.1,tlUp_in _ (fun y hy=>(h.2.2 y hy).1),h.2.1⟩
def Qda(a:Asm)(i:Int):Int:=(a.Tiles[i.toNat]?.map Qab.Tile).getD (-1)
def Qs7(s:Qaa)(a:Asm)(i:Nat)(d:Int):List Bond:=
 if 0<=nbA a i d then if 0<Qfn s (Qda a i) d (Qda a (nbA a i d)) then [⟨i,nbA a i d,Qfn s (Qda a i) d (Qda a (nbA a i d))⟩] else [] else []
def Qez(s:Qaa)(a:Asm)(i:Nat):Nat->List Bond
 |0=>[]
 |k+1=>Qez s a i k++Qs7 s a i (1 - k)
def Qel(s:Qaa)(a:Asm):Nat->List Bond
 |0=>[]
 |k+1=>Qel s a k++Qez s a k 2
theorem bndOf_len(s:Qaa)(a:Asm)(i:Nat)(d:Int):(Qs7 s a i d).length<=1:=by
 simp only[Qs7];split
 .split<;>simp
 .simp
theorem Ql7(s:Qaa)(a:Asm)(i:Nat): ∀k,(Qez s a i k).length<=k
 |0=>by simp[Qez]
 |k+1=>by
  have h1:=Ql7 s a i k;have h2:=bndOf_len s a i (1 - k);simp only[Qez,Zaz];omega
theorem Qh3(s:Qaa)(a:Asm): ∀k,(Qel s a k).length<=2*k
 |0=>by simp[Qel]
 |k+1=>by
  have h1:=Qh3 s a k;have h2:=Ql7 s a k 2;simp only[Qel,Zaz];omega
theorem idx_lt{A:Type}(p:A->Bool)(l:List A):Qaw p 0 l<(l.length:Int):=by
 rcases Qep p l 0 with ⟨_,h⟩|⟨i,x,_,h,h2⟩
 .omega
 .have:=(Zai.1 h2).1
  omega
theorem nbA_lt(a:Asm)(i d:Int):nbA a i d<(a.Tiles.length:Int):=idx_lt _ _
def l06Bonds.fv(a:Qaa×Asm):List Bond:=(fun s a=>Qel s a a.Tiles.length) (a.1) (a.2)
def l06Bonds.row:Row:=vK (b2 (qP 2 Qaa.d_le) (qP 1 Asm.d_le)) (rS Bond.d_le Bond.c_n) (fun a=>setP a.1/\Qn7 a.1 a.2/\a.2.Tiles.length<=1000000) l06Bonds.fv
def l06Bonds.q:=vKq (R:=l06Bonds.row) rfl
def Yam:=J @l06Bonds.fv.eq_1<|J @l06Neighbor.q<|J @l06Neighbor.fv.eq_1<|J @l02Bond.q @l02Bond.fv.eq_1
theorem l06Bonds.ok:Qas Tryz.prog 82 l06Bonds.row:=by
 refine vw (tC l06Neighbor.ok (tC l02Bond.ok tN)) Tryz.func82 rfl (by kernel_rfl) ?_;intro a hpre;simp only[Tryz.f82,Option.getD];simp(maxSteps:=9^9)(disch:=omega)only[ZZ,simprocAttr,rch,Yam];obtain⟨h1,h2,h3⟩:=hpre;refine Qay.ren ⟨{k:Nat//k<=a.2.Tiles.length},fun k=>⟨[(6,.im (.int .i64 k.1)),(5,.own 4),(0,.ptr 0 0),(1,.ptr 1 0)],[(4,(true,.arr 175 3 ((Qel a.1 a.2 k.1).map Bond.c))),(0,(false,.view (Qaa.c a.1))),(1,(false,.view (Asm.c a.2)))],5⟩,fun k=>a.2.Tiles.length - k.1,fun k=>⟨by simp[Qad.good,belT,belH,Qam,AV.bel,belL],by simp⟩,⟨⟨0,by simp⟩,[(4,some 3)],?_⟩,fun k=> ?_⟩
 .simp only[subP];simp(maxSteps:=9^9)(disch:=omega)only[ZZ,simprocAttr,rch,Yam,Zab,Zaa,Qel,ZaG]
 obtain⟨k,hk1⟩:=k;simp(maxSteps:=9^9)(disch:=omega)only[ZZ,simprocAttr,rch,Yam,sub,Qal];intro hlen;refine⟨fun hk=> ?_,fun hk=> ?_⟩
 .refine Qay.ren ⟨{j:Nat//j<=2},fun j=>⟨[(7,.im (.int .i64 (1 - (j.1:Int)))),(6,.im (.int .i64 k)),(5,.own 5),(0,.ptr 0 0),(1,.ptr 1 0)],[(5,(true,.arr 175 3 ((Qel a.1 a.2 k++Qez a.1 a.2 k j.1).map Bond.c))),(0,(false,.view (Qaa.c a.1))),(1,(false,.view (Asm.c a.2)))],6⟩,fun j=>2 - j.1,fun j=>⟨by simp[Qad.good,belT,belH,Qam,AV.bel,belL],by simp⟩,⟨⟨0,by simp⟩,[(5,some 4)],?_⟩,fun j=> ?_⟩
  .simp only[subP];simp(maxSteps:=9^9)(disch:=omega)only[ZZ,simprocAttr,rch,Yam,Zab,Zaa,Qez,ZaK]
   try simp
  obtain⟨j,hj1⟩:=j;simp(maxSteps:=9^9)(disch:=omega)only[ZZ,simprocAttr,rch,Yam,sub,Qal,Qag,Qac,Qaf,allD,D.one,ZaX,Zcl,Zdi];have hnl:=nbA_lt a.2 k (1 - j);have hl1:=Qh3 a.1 a.2 k;have hl2:=Ql7 a.1 a.2 k j;refine⟨fun hd=>⟨⟨h2.1,hk,hd,by omega⟩,fun hn=>⟨⟨j+1,by omega⟩,[(5,some 5)],by simp only;omega,?_⟩,fun hn=>⟨hk,fun x hx=>⟨by omega,hnl,fun y hy=>⟨⟨h1,h2.2 x (Zaf hx),⟨by omega,by omega⟩,h2.2 y (Zaf hy)⟩,fun hb=>⟨by simp only[Zaz];omega,⟨j+1,by omega⟩,[(5,some 7)],by simp only;omega,?_⟩,fun hb=>⟨⟨j+1,by omega⟩,[(5,some 5)],by simp only;omega,?_⟩⟩⟩⟩⟩,fun hd=>⟨⟨k+1,by omega⟩,[(4,some 5)],by simp only;omega,?_⟩⟩
  .simp only[subP];simp(maxSteps:=9^9)(disch:=omega)only[ZZ,simprocAttr,rch,Yam,Zab,Zaa];refine⟨?_,?_⟩
   .rw[Qak (by omega) (by omega)];omega
   .simp only[Qez,Qs7];rw[Zaj (by omega),ZaK]
  .simp only[subP];simp(maxSteps:=9^9)(disch:=omega)only[ZZ,simprocAttr,rch,Yam,Zab,Zaa];refine⟨?_,?_⟩
   .rw[Qak (by omega) (by omega)];omega
   .have e1:Qda a.2 k=x.Tile:=by simp[Qda,hx]
    have e2:Qda a.2 (nbA a.2 k (1 - j))=y.Tile:=by simp only[Qda];rw[hy];rfl
    simp only[Qez,Qs7];rw[Zao (by omega),e1,e2,Zao hb];simp[Bond.c]
  .simp only[subP];simp(maxSteps:=9^9)(disch:=omega)only[ZZ,simprocAttr,rch,Yam,Zab,Zaa];refine⟨?_,?_⟩
   .rw[Qak (by omega) (by omega)];omega
   .have e1:Qda a.2 k=x.Tile:=by simp[Qda,hx]
    have e2:Qda a.2 (nbA a.2 k (1 - j))=y.Tile:=by simp only[Qda];rw[hy];rfl
    simp only[Qez,Qs7];rw[Zao (by omega),e1,e2,Zaj hb,ZaK]
  .simp only[subP];simp(maxSteps:=9^9)(disch:=omega)only[ZZ,simprocAttr,rch,Yam,Zab,Zaa];have hj2:j=2:=by omega
   subst hj2;refine⟨?_,?_⟩
   .rw[Qak (by omega) (by omega)];omega
   .simp only[Qel]
 .have:k=a.2.Tiles.length:=by omega
  rw[this]
def befL:List Int->List Int->Bool
 |x::r,y::s=>if x=y then befL r s else decide (x<y)
 |_,_=>false
def befW(v:Int)(l:List Int)(w:Int)(m:List Int):Bool:=if v=w then if l.length=m.length then befL l m else decide (l.length<m.length) else decide (v<w)
def l07Before.fv(a:Int×(List Int)×Int×(List Int)):Bool:=(befW) (a.1) (a.2.1) (a.2.2.1) (a.2.2.2)
def l07Before.row:Row:=vK (b4 qI (qS Qb3 Qant) qI (qS Qb3 Qant)) rB (fun a=>True) l07Before.fv
def l07Before.q:=vKq (R:=l07Before.row) rfl
theorem l07Before.ok:Qas Tryz.prog 123 l07Before.row:=by
 refine vw tN Tryz.func123 rfl (by kernel_rfl) ?_;intro a hpre;simp only[Tryz.f123,Option.getD];simp(maxSteps:=9^9)(disch:=omega)only[ZZ,simprocAttr,rch,l07Before.fv]
 split<;>rename_i h
 .simp only[befW];rw[Zaj h]
 intro hl1 hl2
 split<;>rename_i h2
 .intro _ _;simp only[befW];rw[Zao (Zbc.1 h),Zaj (by omega)]
 have hn:a.2.1.length=a.2.2.2.length:=by omega
 have hb:befW a.1 a.2.1 a.2.2.1 a.2.2.2=befL a.2.1 a.2.2.2:=by simp only[befW];rw[Zao (Zbc.1 h),Zao hn]
 rw[hb];refine Qay.old ⟨{k:Nat//k<=a.2.1.length/\befL (a.2.1.drop k) (a.2.2.2.drop k)=befL a.2.1 a.2.2.2},fun k=>⟨[(9,.im (.int .i64 k.1)),(8,.im (.bool false)),(0,.im (.int .i64 a.1)),(1,.im (.sl false 1 (a.2.1.map intC))),(2,.im (.int .i64 a.2.2.1)),(3,.im (.sl false 1 (a.2.2.2.map intC)))],[],0⟩,fun k=>a.2.1.length - k.1,fun k=>⟨by simp[Qad.good,belT,belH,Qam,AV.bel,belL],Zap _⟩,⟨⟨0,by simp⟩,by simp(maxSteps:=9^9)(disch:=omega)only[ZZ,simprocAttr,rch,l07Before.fv,sub]⟩,fun k=> ?_⟩;obtain⟨k,hk1,hk2⟩:=k;simp(maxSteps:=9^9)(disch:=omega)only[ZZ,simprocAttr,rch,l07Before.fv,sub,Qal];intro _;refine⟨fun hk=>⟨hk,fun x hx=>⟨by omega,fun y hy=>⟨fun hne=>⟨hk,fun x' hx'=>⟨by omega,fun y' hy'=> ?_⟩⟩,fun he=> ?_⟩⟩⟩,fun hk=> ?_⟩
 .rw[hx] at hx';rw[hy] at hy';obtain rfl:=Zac hx';obtain rfl:=Zac hy';rw[Qd3 hx,Qd3 hy,befL,Zaj hne] at hk2;exact hk2
 .rw[Qd3 hx,Qd3 hy,befL,Zao (Zbc.1 he)] at hk2;refine⟨⟨k+1,by omega,hk2⟩,by simp only;omega,?_⟩;rw[Qak (by omega) (by omega)];simp only;omega
 .rw[Zax (by omega),befL] at hk2
  .exact hk2
  .intros;simp_all
theorem Qix{l:List Qab}(h:Qaz none l=true):(l.map Qab.At).Nodup:=by
 have hs:=(Qe4 _ _ h).2;clear h;revert hs;induction l with
 |nil=>intro _;simp
 |cons x r ih=>
  intro hs;simp only[Zaq,Zcq];refine⟨fun hm=> ?_,ih (fun i j a b hij ha hb=>hs (i+1) (j+1) a b (by omega) (by simpa using ha) (by simpa using hb))⟩;obtain⟨y,hy,he⟩:=ZaJ.1 hm;obtain⟨i,hi⟩:=ZaP.1 hy
  have:=hs 0 (i+1) x y (by omega) rfl (by simpa using hi)
  rw[he,Qku] at this;cases this
theorem Qafa:imR []=[]:=rfl
theorem Qxu(n:Nat)(rows:List (List D)):(imR rows).all (belL n)=true:=by
 simp only[imR,List.all_map,Zbv,Function.comp];intro r hr;clear hr;induction r with
 |nil=>simp[belL]
 |cons x r ih=>simp[belL,AV.bel,ih]
theorem fzAL_im(F:List Nat)(H:Qan): ∀(r:List D),fzAL F H (r.map .im)=r.map .im
 |[]=>rfl
 |x::r=>by simp only[Zaq,fzAL,AV.fzA,fzAL_im F H r]
theorem Qaja(F:List Nat)(H:Qan): ∀(rows:List (List D)),fzAR F H (imR rows)=imR rows
 |[]=>rfl
 |x::r=>by
  have:=Qaja F H r
  simp only[imR] at this;simp only[imR,Zaq,fzAR,fzAL_im,this]
theorem Qzl(F:List Nat)(H:Qan): ∀(a b:List (List AV)),fzAR F H (a++b)=fzAR F H a++fzAR F H b
 |[],b=>rfl
 |x::r,b=>by simp only[ZaA,fzAR,Qzl F H r b]
theorem mtL_im(π:List (Nat×Option Nat)): ∀(r:List D),mtL π (r.map .im) (r.map .im)
 |[]=>by simp[mtL]
 |x::r=>by simp only[Zaq,mtL,mt,mtL_im π r,Zcl]
theorem Qzo(π:List (Nat×Option Nat)): ∀(rows:List (List D)),mtR π (imR rows) (imR rows)
 |[]=>by simp[mtR,imR]
 |x::r=>by
  have:=Qzo π r
  simp only[imR] at this;simp only[imR,Zaq,mtR,mtL_im,this,Zcl]
theorem Qzb(F:List Nat)(H:Qan)(rows:List (List D)):fzAR F H (rows.map fun r=>r.map AV.im)=rows.map fun r=>r.map AV.im:=Qaja F H rows
theorem Qsg(π:List (Nat×Option Nat))(rows:List (List D)):mtR π (rows.map fun r=>r.map AV.im) (rows.map fun r=>r.map AV.im)=True:=ZdV (Qzo π rows)
theorem Qaeq(n:Nat)(rows:List (List D)):(rows.map fun r=>r.map AV.im).all (belL n)=true:=Qxu n rows
theorem Qtl{α β:Type}{f:α->Option β}{g:β->α}(h: ∀y,f (g y)=some y): ∀(l:List β),mapO f (l.map g)=some l
 |[]=>rfl
 |x::r=>by simp only[Zaq,mapO,h,Qtl h r]
theorem Qae4(h:Nat->Option Ent)(kx:Nat->Option Nat)(n:Nat)(rows:List (List D)):mapO (mapO fun x=>asDO (cvt h kx (n+1) x)) (rows.map fun r=>r.map AV.im)=some rows:=
 Qtl (g:=fun r=>r.map AV.im) (fun y=>Qtl (g:=AV.im) (fun _=>rfl) y) rows
def Qhq{A:Type}(f:A->A):Nat->List A->List A
 |0,l=>l
 |_+1,[]=>[]
 |k+1,x::r=>f x::Qhq f k r
theorem Qwq{A:Type}(f:A->A): ∀(k:Nat) (l:List A),(Qhq f k l).length=l.length
 |0,_=>rfl
 |_+1,[]=>rfl
 |k+1,x::r=>by simp only[Qhq,ZaE,Qwq f k r]
theorem Qoo{A:Type}(f:A->A): ∀(k:Nat) (l:List A),(Qhq f k l)[k]? =l[k]?
 |0,_=>rfl
 |_+1,[]=>by simp[Qhq]
 |k+1,x::r=>by simp only[Qhq,Zba,Qoo f k r]
theorem Qn5{A:Type}(f:A->A): ∀(k:Nat) (l:List A) (x:A),l[k]? =some x->(Qhq f k l).set k (f x)=Qhq f (k+1) l
 |0,[],x,h=>by simp at h
 |0,y::r,x,h=>by
  simp only[ZaV,Zae] at h;subst h;simp[Qhq]
 |k+1,[],x,h=>by simp at h
 |k+1,y::r,x,h=>by
  have:=Qn5 f k r x (by simpa using h)
  rw[Qhq,Qhq,Zdd,this]
theorem Qabf{A:Type}(f:A->A)(k:Nat)(l:List A)(x:A)(h:l[k]? =some x)(hf:f x=x):Qhq f (k+1) l=Qhq f k l:=by
 rw[<-Qn5 f k l x h,hf];have h1:(Qhq f k l)[k]? =some x:=by rw[Qoo,h]
 obtain⟨h2,h3⟩:=Zai.1 h1;rw[<-h3];exact List.set_getElem_self h2
theorem Qvd{A:Type}(f:A->A): ∀(k:Nat) (l:List A),l.length<=k->Qhq f k l=l.map f
 |0,[],_=>rfl
 |0,x::r,h=>by simp at h
 |_+1,[],_=>rfl
 |k+1,x::r,h=>by simp only[Qhq,Zaq,Qvd f k r (by simpa using h)]
def Qtc:Nat->List Int
 |0=>[]
 |k+1=>Qtc k++[(k:Int)]
theorem Qff: ∀k,(Qtc k).length=k
 |0=>rfl
 |k+1=>by simp[Qtc,Qff k]
def Qja(x y v:Int):Int:=if v=maxI x y then minI x y else v
def Qnr(own:List Int)(b:Bond):List Int:=own.map (Qja (own[b.A.toNat]?.getD 0) (own[b.B.toNat]?.getD 0))
def ownK(n:Nat)(bs:List Bond):Nat->List Int
 |0=>Qtc n
 |k+1=>match bs[k]? with
  |some b=>Qnr (ownK n bs k) b
  |none=>ownK n bs k
theorem Qto(n:Nat)(bs:List Bond): ∀k,(ownK n bs k).length=n
 |0=>Qff n
 |k+1=>by
  simp only[ownK];split
  .simp[Qnr,Qto n bs k]
  .exact Qto n bs k
def grpK(own:List Int)(i:Nat):Nat->List Int
 |0=>[]
 |k+1=>grpK own i k++(if own[i+k]? =some (i:Int) then [((i+k:Nat):Int)] else [])
theorem Qsd(own:List Int)(i:Nat): ∀k,(grpK own i k).length<=k
 |0=>by simp[grpK]
 |k+1=>by
  have:=Qsd own i k
  simp only[grpK,Zaz]
  split<;>simp<;>omega
def Qa7(own:List Int)(n:Nat):Nat->List (List Int)
 |0=>[]
 |k+1=>Qa7 own n k++(if own[k]? =some (k:Int) then [grpK own k (n - k)] else [])
theorem Qig(own:List Int)(n:Nat): ∀k,(Qa7 own n k).length<=k
 |0=>by simp[Qa7]
 |k+1=>by
  have:=Qig own n k
  simp only[Qa7,Zaz]
  split<;>simp<;>omega
def Qf2(n:Int)(bs:List Bond):List (List Int):=Qa7 (ownK n.toNat bs bs.length) n.toNat n.toNat
def Qdm(n:Int)(bs:List Bond):Prop:= ∀b∈bs,0<=b.A/\b.A<n/\0<=b.B/\b.B<n
def l06Groups.fv(a:Int×(List Bond)):List (List Int):=(Qf2) (a.1) (a.2)
def l06Groups.row:Row:=vK (b2 qI (qS Bond.d_le Bond.c_n)) (rS Qj4 Qaoj) (fun a=>0<=a.1/\a.1<=1000000/\Qdm a.1 a.2) l06Groups.fv
def l06Groups.q:=vKq (R:=l06Groups.row) rfl
def Yan:=J @l06Groups.fv.eq_1<|J @l00Min.q<|J @l00Min.fv.eq_1<|J @l00Max.q @l00Max.fv.eq_1
theorem l06Groups.ok:Qas Tryz.prog 118 l06Groups.row:=by
 refine vw (tC l00Min.ok (tC l00Max.ok tN)) Tryz.func118 rfl (by kernel_rfl) ?_;intro a hpre;simp only[Tryz.f118,Option.getD];simp(maxSteps:=9^9)(disch:=omega)only[ZZ,simprocAttr,rch,Yan];obtain⟨hn0,hn1,hbs⟩:=hpre;obtain⟨n,hn⟩: ∃n:Nat,a.1=n:=⟨a.1.toNat,by omega⟩;simp only[Qf2,hn,Zam];rw[hn] at hn0 hn1 hbs;refine Qay.ren ⟨{k:Nat//k<=n},fun k=>⟨[(6,.im (.int .i64 k.1)),(5,.own 2),(0,.im (.int .i64 n)),(1,.im (.sl false 3 (a.2.map Bond.c)))],[(2,(true,.arr 2 1 ((Qtc k.1).map intC)))],3⟩,fun k=>n - k.1,fun k=>⟨by simp[Qad.good,belT,belH,Qam,AV.bel,belL],by simp⟩,⟨⟨0,by simp⟩,[(2,some 1)],?_⟩,fun k=> ?_⟩
 .simp only[subP];simp(maxSteps:=9^9)(disch:=omega)only[ZZ,simprocAttr,rch,Yan,Zab,Zaa,Qtc,ZaG,hn]
  try simp
 obtain⟨k,hk1⟩:=k;simp(maxSteps:=9^9)(disch:=omega)only[ZZ,simprocAttr,rch,Yan,sub,Qal,Qag,Qac,Qaf,allD,D.one,ZaX,Zcl,Zdi];have hkl:=Qff k;refine⟨fun hk=>⟨by rw[hkl];omega,⟨k+1,by omega⟩,[(2,some 4)],by simp only;omega,?_⟩,fun hk=> ?_⟩
 .simp only[subP];simp(maxSteps:=9^9)(disch:=omega)only[ZZ,simprocAttr,rch,Yan,Zab,Zaa];refine⟨by rw[Qak (by omega) (by omega)];omega,by simp[Qtc,intC]⟩
 have hkn:n=k:=by omega
 subst hkn;clear hkl hk hk1;refine Qay.old ⟨{k:Nat//k<=a.2.length},fun k=>⟨[(7,.im (.int .i64 k.1)),(5,.own 2),(0,.im (.int .i64 n)),(1,.im (.sl false 3 (a.2.map Bond.c)))],[(2,(true,.arr 2 1 ((ownK n a.2 k.1).map intC)))],3⟩,fun k=>a.2.length - k.1,fun k=>⟨by simp[Qad.good,belT,belH,Qam,AV.bel,belL],by simp⟩,⟨⟨0,by simp⟩,by simp(maxSteps:=9^9)(disch:=omega)only[ZZ,simprocAttr,rch,Yan,sub,ownK]⟩,fun k=> ?_⟩;obtain⟨k,hk1⟩:=k;have hol:=Qto n a.2 k;simp(maxSteps:=9^9)(disch:=omega)only[ZZ,simprocAttr,rch,Yan,sub,Qal,hol];intro _;refine⟨fun hk=>⟨hk,fun b hb=> ?_⟩,fun hk=> ?_⟩
 .obtain⟨b1,b2,b3,b4⟩:=hbs b (Zaf hb);refine⟨b1,b2,by omega,fun x hx=>⟨hk,fun b' hb'=> ?_⟩⟩;rw[hb] at hb';obtain rfl:=Zac hb';refine⟨b3,b4,by omega,fun y hy=> ?_⟩;refine Qay.old ⟨{j:Nat//j<=n},fun j=>⟨[(10,.im (.int .i64 j.1)),(9,.im (.int .i64 y)),(8,.im (.int .i64 x)),(7,.im (.int .i64 k)),(5,.own 2),(0,.im (.int .i64 n)),(1,.im (.sl false 3 (a.2.map Bond.c)))],[(2,(true,.arr 2 1 ((Qhq (Qja x y) j.1 (ownK n a.2 k)).map intC)))],3⟩,fun j=>n - j.1,fun j=>⟨by simp[Qad.good,belT,belH,Qam,AV.bel,belL],by simp⟩,⟨⟨0,by simp⟩,by simp(maxSteps:=9^9)(disch:=omega)only[ZZ,simprocAttr,rch,Yan,sub,Qhq]⟩,fun j=> ?_⟩;obtain⟨j,hj1⟩:=j;have hml:=Qwq (Qja x y) j (ownK n a.2 k);rw[hol] at hml;have hmg:=Qoo (Qja x y) j (ownK n a.2 k);simp(maxSteps:=9^9)(disch:=omega)only[ZZ,simprocAttr,rch,Yan,sub,Qal,hml];intro _;refine⟨fun hj=>⟨hj,hj,fun v hv=> ?_⟩,fun hj=> ?_⟩
  .have hv0:=hv;rw[hmg] at hv;refine⟨fun he=>⟨hj,hj,fun v' hv'=>⟨⟨j+1,by omega⟩,by simp only;omega,by rw[Qak (by omega) (by omega)];simp only;omega,?_⟩⟩,fun he=>⟨⟨j+1,by omega⟩,by simp only;omega,by rw[Qak (by omega) (by omega)];simp only;omega,?_⟩⟩
   .rw[<-Qn5 _ _ _ _ hv,ZcY];simp only[Qja,he,ZaQ,intC]
   .rw[Qabf _ _ _ _ hv (by simp only[Qja];rw[Zaj he])]
  .refine⟨⟨k+1,by omega⟩,by simp only;omega,by rw[Qak (by omega) (by omega)];simp only;omega,?_⟩;rw[Qvd _ _ _ (by omega)];simp only[ownK,hb,Qnr,hx,hy,Zag]
 have hkb:k=a.2.length:=by omega
 subst hkb;clear hk hk1 hbs;refine Qay.frr ⟨{k:Nat//k<=n},fun k=>⟨[(12,.im (.int .i64 k.1)),(11,.own 4),(5,.own 2),(0,.im (.int .i64 n))],[(4,(true,.arrA 37 1 (imR ((Qa7 (ownK n a.2 a.2.length) n k.1).map Qcd)))),(2,(true,.arr 2 1 ((ownK n a.2 a.2.length).map intC)))],5⟩,fun k=>n - k.1,fun k=>⟨by simp[Qad.good,belT,belH,Qam,AV.bel,belL,Qxu],by simp⟩,⟨⟨0,by simp⟩,[],[(4,some 3)],?_⟩,fun k=> ?_⟩
 .simp only[subP];simp(maxSteps:=9^9)(disch:=omega)only[ZZ,simprocAttr,rch,Yan,Zab,Zaa,Qa7,ZaG,Qafa]
  try simp
 obtain⟨k,hk1⟩:=k;obtain⟨own,hown⟩: ∃own,own=ownK n a.2 a.2.length:=⟨_,rfl⟩;simp only[<-hown] at hol⊢;have hgl:=Qig own n k;simp(maxSteps:=9^9)(disch:=omega)only[ZZ,simprocAttr,rch,Yan,sub,Qal,hol];refine⟨fun hk=>⟨hk,hk,fun x hx=>⟨fun he=>⟨⟨k+1,by omega⟩,[],[(4,some 4)],by simp only;omega,?_⟩,fun he=> ?_⟩⟩,fun hk=> ?_⟩
 .have e1:Qa7 own n (k+1)=Qa7 own n k:=by
   simp only[Qa7];rw[Zaj (by rw[hx];simpa using he),ZaK]
  simp only[subP];simp(maxSteps:=9^9)(disch:=omega)only[ZZ,simprocAttr,rch,Yan,Zab,Zaa,Qzb,Qsg,e1];rw[Qak (by omega) (by omega)];simp
 .have he:=Zbc.1 he;refine Qay.ren ⟨{m:Nat//m<=n - k},fun m=>⟨[(14,.im (.int .i64 ((k+m.1:Nat):Int))),(13,.own 6),(12,.im (.int .i64 k)),(11,.own 4),(5,.own 2),(0,.im (.int .i64 n))],[(6,(true,.arr 2 1 ((grpK own k m.1).map intC))),(4,(true,.arrA 37 1 (imR ((Qa7 own n k).map Qcd)))),(2,(true,.arr 2 1 (own.map intC)))],7⟩,fun m=>n - k - m.1,fun m=>⟨by simp[Qad.good,belT,belH,Qam,AV.bel,belL,Qxu],by simp⟩,⟨⟨0,by simp⟩,[(6,some 5)],?_⟩,fun m=> ?_⟩
  .simp only[subP];simp(maxSteps:=9^9)(disch:=omega)only[ZZ,simprocAttr,rch,Yan,Zab,Zaa,grpK,ZaG,Qsg]
   try simp
  obtain⟨m,hm1⟩:=m;have hgm:=Qsd own k m;simp(maxSteps:=9^9)(disch:=omega)only[ZZ,simprocAttr,rch,Yan,sub,Qal,hol,Qag,Qac,Qaf,allD,D.one,ZaX,Zcl,Zdi];refine⟨fun hm=>⟨hm,hm,fun v hv=>⟨fun h=>⟨by omega,⟨m+1,by omega⟩,[(6,some 8)],by simp only;omega,?_⟩,fun h=>⟨⟨m+1,by omega⟩,[(6,some 6)],by simp only;omega,?_⟩⟩⟩,fun hm=>⟨by simp[belL,AV.bel],by omega,by rw[ZbY,Qaeq];simp[belL,AV.bel],⟨k+1,by omega⟩,[6],[(4,some 8)],by simp only;omega,?_⟩⟩
  .simp only[subP];simp(maxSteps:=9^9)(disch:=omega)only[ZZ,simprocAttr,rch,Yan,Zab,Zaa,Qsg];refine⟨?_,?_⟩
   .rw[Qak (by omega) (by omega)];omega
   .subst h;simp only[grpK];rw[Zao hv];simp[intC]
  .simp only[subP];simp(maxSteps:=9^9)(disch:=omega)only[ZZ,simprocAttr,rch,Yan,Zab,Zaa,Qsg];refine⟨?_,?_⟩
   .rw[Qak (by omega) (by omega)];omega
   .simp only[grpK];rw[Zaj (by rw[hv];simpa using h),ZaK]
  .have hmn:m=n - k:=by omega
   have e1:Qa7 own n (k+1)=Qa7 own n k++[grpK own k m]:=by
    simp only[Qa7];rw[Zao (by rw[hx,he]),hmn]
   simp only[subP];simp(maxSteps:=9^9)(disch:=omega)only[ZZ,simprocAttr,rch,Yan,Zab,Zaa,Qzl,Qzb,e1,ZaT,Zaq,ZaG];rw[Qak (by omega) (by omega)];refine⟨by simp,?_⟩
   have:=Qzo [(4,some 8)] ((Qa7 own n k).map Qcd++[[D.sl false 1 ((grpK own k m).map intC)]])
   simpa only[imR,ZaT,Zaq,ZaG] using this
 .have:k=n:=by omega
  subst this;simp(maxSteps:=9^9)(disch:=omega)only[ZZ,simprocAttr,rch,Yan,Qae4]
end Go.Ae
namespace Go.Ae
def famH(b n:Nat)(f:Nat->Ent):Qan:=(List.range n).map fun i=>(b+i,f i)
theorem famH_succ(b n:Nat)(f:Nat->Ent):famH b (n+1) f=famH b n f++[(b+n,f n)]:=by
 simp only[famH,Zen,ZaT,Zaq,ZaG]
theorem Qm4(b:Nat)(f:Nat->Ent)(m:Nat): ∀(n:Nat),hget (famH b n f) m=if b<=m/\m<b+n then some (f (m - b)) else none
 |0=>by rw[Zaj (by omega)];rfl
 |n+1=>by
  rw[famH_succ,Qm2,Qm4 b f m n];simp only[hget];by_cases h:b<=m/\m<b+n
  .rw[Zao h,Zao (by omega)]
  .rw[Zaj h];by_cases h2:b+n=m
   .subst h2;rw[Zao (by omega),show b+n - b=n by omega];simp
   .have:(b+n==m)=false:=by simpa using h2
    rw[this,Zaj (by omega)];rfl
theorem Qcy(b n:Nat)(f:Nat->Ent)(j:Nat)(h:j<n):hget (famH b n f) (b+j)=some (f j):=by
 rw[Qm4,Zao (by omega),show b+j - b=j by omega]
theorem Qmh(b n:Nat)(f:Nat->Ent)(m:Nat)(h:m<b\/b+n<=m):hget (famH b n f) m=none:=by
 rw[Qm4,Zaj (by omega)]
theorem Qeg(m:Nat)(ks:List Nat): ∀(x:Qan),hget (hdel x ks) m=if ks.contains m then none else hget x m
 |[]=>by simp[hdel,hget]
 |(q,e)::r=>by
  simp only[hdel];have ih:=Qeg m ks r;cases hq:ks.contains q
  .simp only[ZaS,hget];cases hqm:q==m
   .simpa using ih
   .have:q=m:=by simpa using hqm
    subst this;simp only[Zbf,hq];rfl
  .simp only[Zbf,ih,hget];cases hqm:q==m
   .simp
   .have:q=m:=by simpa using hqm
    subst this;rw[Zao hq,Zao hq]
theorem Qadi(b n:Nat)(f:Nat->Ent)(ks:List Nat)(h: ∀k∈ks,k<b\/b+n<=k):hdel (famH b n f) ks=famH b n f:=by
 have: ∀(l:List Nat),(∀i∈l,i<n)->hdel (l.map fun i=>(b+i,f i)) ks=l.map fun i=>(b+i,f i):=by
  intro l;induction l with
  |nil=>intro _;rfl
  |cons i r ih=>
   intro hl;have hi:=hl i (Zat ..);have hc:ks.contains (b+i)=false:=by
    rw[Zcg];intro hc
    have:=h _ (Zbq.1 hc)
    omega
   simp only[Zaq,hdel,hc,ZaS,ih (fun j hj=>hl j (Zas _ hj))]
 exact this _ (fun i hi=>ZaI.1 hi)
theorem Qns(π:List (Nat×Option Nat))(s:Qad)(y:Qan): ∀(x:Qan),Qgb π s (x++y)=(Qgb π s x/\Qgb π s y)
 |[]=>by simp[Qgb]
 |(q,(mu,e))::r=>by simp only[ZaA,Qgb,Qns π s y r,ZeI]
theorem Qgn(π:List (Nat×Option Nat))(s:Qad)(b n:Nat)(f:Nat->Ent):Qgb π s (famH b n f)↔ ∀i,i<n->entN s π (f i).1 (f i).2 (pm π (b+i)):=by
 have: ∀(l:List Nat),Qgb π s (l.map fun i=>(b+i,f i))↔ ∀i∈l,entN s π (f i).1 (f i).2 (pm π (b+i)):=by
  intro l;induction l with
  |nil=>simp[Qgb]
  |cons i r ih=>simp only[Zaq,Qgb,ih,Zaw,ZeP]
 rw[famH,this];simp only[ZaI]
def Qg1:Qan->List Nat
 |[]=>[]
 |(n,_)::r=>n::Qg1 r
theorem Qi7(π:List (Nat×Option Nat)): ∀(H:Qan),imP π H=(Qg1 H).map (pm π)
 |[]=>rfl
 |(n,e)::r=>by simp only[imP,Qg1,Zaq,Qi7 π r]
theorem Qe0(b n:Nat)(f:Nat->Ent):Qg1 (famH b n f)=(List.range n).map (b+ ·):=by
 have: ∀(l:List Nat),Qg1 (l.map fun i=>(b+i,f i))=l.map (b+ ·):=by
  intro l;induction l with
  |nil=>rfl
  |cons i r ih=>simp only[Zaq,Qg1,ih]
 exact this _
theorem Ql1(g:Nat->Option Nat): ∀(l:List Nat),l.Nodup->(∀x∈l,∀y∈l,∀m,g x=some m->g y=some m->x=y)->nodS (l.map g)=true
 |[],_,_=>rfl
 |x::r,h,hi=>by
  simp only[Zcq] at h;have ih:=Ql1 g r h.2 (fun a ha b hb=>hi a (Zas _ ha) b (Zas _ hb));simp only[Zaq];cases hx:g x with
  |none=>simpa only[nodS] using ih
  |some m=>
   simp only[nodS,ih,ZaX,ZbZ];rw[Zcg];intro hc;obtain⟨y,hy,hgy⟩:=ZaJ.1 (Zbq.1 hc)
   have:=hi x (Zat ..) y (Zas _ hy) m hx hgy
   exact h.1 (this▸hy)
theorem Ql2(π:List (Nat×Option Nat)): ∀(a b:List (List AV)),mtR π a b↔a.length=b.length/\ ∀(i:Nat) x y,a[i]? =some x->b[i]? =some y->mtL π x y
 |[],[]=>by simp[mtR]
 |[],_::_=>by simp[mtR]
 |_::_,[]=>by simp[mtR]
 |x::r,y::s=>by
  simp only[mtR,Ql2 π r s,ZaE,Nat.add_right_cancel_iff];constructor
  .rintro⟨h1,h2,h3⟩;refine⟨h2,fun i x' y' hx hy=> ?_⟩;cases i with
   |zero=>
    simp only[ZaV,Zae] at hx hy;subst hx;subst hy;exact h1
   |succ i=>exact h3 i x' y' (by simpa using hx) (by simpa using hy)
  .rintro⟨h2,h3⟩;exact⟨h3 0 x y rfl rfl,h2,fun i x' y' hx hy=>h3 (i+1) x' y' (by simpa using hx) (by simpa using hy)⟩
theorem Qi1(nx b:Nat)(f:Nat->Ent)(hf: ∀i,belH nx [(b+i,f i)]=true)(n:Nat):belH nx (famH b n f)=true:=by
 have happ: ∀(x y:Qan),belH nx (x++y)=(belH nx x && belH nx y):=by
  intro x y;induction x with
  |nil=>simp[belH]
  |cons z r ih=>
   obtain⟨q,mu,e⟩:=z;cases e<;>simp[belH,ih,ZeD]
 have: ∀(l:List Nat),belH nx (l.map fun i=>(b+i,f i))=true:=by
  intro l;induction l with
  |nil=>rfl
  |cons i r ih=>
   have h2:=happ [(b+i,f i)] (r.map fun i=>(b+i,f i));rw[Zaq,show (b+i,f i)::(r.map fun i=>(b+i,f i))=[(b+i,f i)]++(r.map fun i=>(b+i,f i)) from rfl,h2,hf i,ih];rfl
 exact this _
theorem Qd8(nx b n:Nat)(f:Nat->Ent)(h:b+n<=nx):Qam nx (famH b n f)=true:=by
 have: ∀(l:List Nat),(∀i∈l,i<n)->Qam nx (l.map fun i=>(b+i,f i))=true:=by
  intro l;induction l with
  |nil=>intro _;rfl
  |cons i r ih=>
   intro hl;simp only[Zaq,Qam,ih (fun j hj=>hl j (Zas _ hj)),ZaX];rw[ZbW]
   have:=hl i (Zat ..)
   omega
 exact this _ (fun i hi=>ZaI.1 hi)
def famP(b n:Nat):List (Nat×Option Nat):=(List.range n).map fun i=>(b+i,none)
theorem Qlz(b n m:Nat):pm (famP b n) m=if b<=m/\m<b+n then none else some m:=by
 have: ∀(l:List Nat),pm (l.map fun i=>(b+i,none)) m=if b<=m/\m - b∈l then none else some m:=by
  intro l;induction l with
  |nil=>simp[pm]
  |cons i r ih=>
   simp only[Zaq,pm,ih,Zaw];by_cases h:b+i=m
   .rw[Zao h,Zao ⟨by omega,.inl (by omega)⟩]
   .rw[Zaj h];by_cases h2:b<=m/\m - b∈r
    .rw[Zao h2,Zao ⟨h2.1,.inr h2.2⟩]
    .rw[Zaj h2,Zaj (by rintro⟨h3,h4|h4⟩;exact h (by omega);exact h2 ⟨h3,h4⟩)]
 rw[famP,this];simp only[ZaI];by_cases h:b<=m/\m<b+n
 .rw[Zao h,Zao (by omega)]
 .rw[Zaj h,Zaj (by omega)]
theorem geP_famP(lo b n:Nat)(h:lo<=b):geP lo (famP b n):=by
 have: ∀(l:List Nat),geP lo (l.map fun i=>(b+i,none)):=by
  intro l;induction l with
  |nil=>trivial
  |cons i r ih=>simp only[Zaq,geP];exact⟨by omega,ih⟩
 exact this _
theorem beq_band(k b j:Nat)(h:k<b):(k==b+j)=false:=by simp;omega
theorem beq_band2(k b j:Nat)(h:k<b):(b+j==k)=false:=by simp;omega
end Go.Ae
namespace Go.Ae
open Go.Proofs
def Qb9(n:Net)(v i:Int):Int×Int:=match n.Bonds[i.toNat]? with
 |some b=>if b.A=v then (b.Strength - n.Flow[i.toNat]?.getD 0,b.B) else (b.Strength+n.Flow[i.toNat]?.getD 0,b.A)
 |none=>(0,0)
structure Qcf(n:Net):Prop where
 c0:0<=n.Cnt
 c1:n.Cnt<=1000000
 fl:n.Flow.length=n.Bonds.length
 al:(n.At.length:Int)=n.Cnt
 bs:Qdm n.Cnt n.Bonds
 at_: ∀(v:Nat) (r:List Int),n.At[v]? =some r-> ∀i∈r,0<=i/\ ∃b,n.Bonds[i.toNat]? =some b/\(b.A=v\/b.B=v)
 f: ∀x∈n.Flow,-1000000<=x/\x<=1000000
 st: ∀b∈n.Bonds,0<=b.Strength/\b.Strength<=1000000
 all: ∀(i:Nat) b,n.Bonds[i]? =some b->(∃r,n.At[b.A.toNat]? =some r/\(i:Int)∈r)/\ ∃r,n.At[b.B.toNat]? =some r/\(i:Int)∈r
 ne: ∀b∈n.Bonds,b.A≠b.B
def roomC.fv(a:Net×Int×Int):Int×Int:=(Qb9) (a.1) (a.2.1) (a.2.2)
def roomC.row:Row:=vKF (b3 (qP 4 Net.d_le) qI qI) (r2 rI rI) (fun a=>Qcf a.1/\0<=a.2.2/\a.2.2<a.1.Bonds.length) roomC.fv
def roomC.q:=vKFq (R:=roomC.row) rfl
theorem roomC.ok:Qas Tryz.prog 170 roomC.row:=by
 refine vwF tN Tryz.func170 rfl (by kernel_rfl) ?_;intro a hpre;simp only[Tryz.f170,Option.getD];simp(maxSteps:=9^9)(disch:=omega)only[ZZ,simprocAttr,rch,roomC.fv,ORC,D.sc,D.scs,scL,decD];obtain⟨h1,h2,h3⟩:=hpre;have hfl:=h1.fl;refine⟨h2,h3,fun b hb=> ?_⟩;have hst:=h1.st b (Zaf hb)
 split<;>rename_i h
 .refine⟨h2,by omega,fun f hf=> ?_⟩;have hff:=h1.f f (Zaf hf);rw[Qak (by omega) (by omega)];simp only[Qb9,hb,hf,Zag];rw[Zao h]
 .refine⟨h2,by omega,fun f hf=> ?_⟩;have hff:=h1.f f (Zaf hf);rw[Qak (by omega) (by omega)];simp only[Qb9,hb,hf,Zag];rw[Zaj h]
def Qbg(n:Net)(v i:Int):Int:=match n.Bonds[i.toNat]? with
 |some b=>b.A+b.B - v
 |none=>0
def bfs1(n:Net)(v:Int)(s:List Int×List Int)(i:Int):List Int×List Int:=
 if s.1[(Qbg n v i).toNat]?.getD 0<0/\0<(Qb9 n (Qbg n v i) i).1 then (s.1.set (Qbg n v i).toNat (s.1[v.toNat]?.getD 0+1),s.2++[Qbg n v i]) else s
def Qbu(n:Net)(q:Int):Nat->List Int×List Int
 |0=>((List.replicate n.Cnt.toNat (-1)).set q.toNat 0,[q])
 |k+1=>match (Qbu n q k).2[k]? with
  |none=>Qbu n q k
  |some v=>(n.At[v.toNat]?.getD []).foldl (bfs1 n v) (Qbu n q k)
def Qcb(n:Net)(q:Int):List Int:=(Qbu n q n.Cnt.toNat).1
structure Qkd(n:Net)(s:List Int×List Int):Prop where
 len:s.1.length=n.Cnt.toNat
 rng: ∀x∈s.1,-1<=x/\x<=s.2.length
 q: ∀x∈s.2,0<=x/\x<n.Cnt
 cnt:(s.1.filter (fun x=>decide (0<=x))).length=s.2.length
theorem Qlu{A:Type}(p:A->Bool): ∀(l:List A) (w:Nat) (x y:A),l[w]? =some x->p x=false->p y=true->((l.set w y).filter p).length=(l.filter p).length+1
 |[],w,x,y,h,_,_=>by simp at h
 |z::r,0,x,y,h,hx,hy=>by
  simp only[ZaV,Zae] at h;subst h;simp[ZeM,hx,hy]
 |z::r,w+1,x,y,h,hx,hy=>by
  have:=Qlu p r w x y (by simpa using h) hx hy
  simp only[Zdd,ZeM];split
  .simp only[ZaE,this]
  .exact this
theorem Qkx{n:Net}(h0:0<=n.Cnt){s:List Int×List Int}(h:Qkd n s):(s.2.length:Int)<=n.Cnt:=by
 have h1:=h.cnt;have h2:=ZeY (fun x=>decide (0<=x)) s.1;have h3:=h.len;omega
theorem Qhm{n:Net}(hn:Qcf n){v:Nat}{r:List Int}(hr:n.At[v]? =some r){i:Int}(hi:i∈r):0<=i/\i<n.Bonds.length/\0<=Qbg n v i/\Qbg n v i<n.Cnt:=by
 obtain⟨h0,b,hb,hv⟩:=hn.at_ v r hr i hi;have hbb:=hn.bs b (Zaf hb);have hl:=(Zai.1 hb).1;simp only[Qbg,hb];omega
theorem Qtm{n:Net}(hn:Qcf n){v:Nat}{r:List Int}(hr:n.At[v]? =some r){i:Int}(hi:i∈r){s:List Int×List Int}(hs:Qkd n s):Qkd n (bfs1 n v s i):=by
 obtain⟨_,_,o1,o2⟩:=Qhm hn hr hi;simp only[bfs1];split
 .rename_i h;have hlt:(Qbg n v i).toNat<s.1.length:=by rw[hs.len];omega
  obtain⟨x,hx⟩: ∃x,s.1[(Qbg n v i).toNat]? =some x:=⟨_,Zad hlt⟩;have hx0:x<0:=by have:=h.1;rw[hx] at this;simpa using this
  have hvb:0<=s.1[(v:Int).toNat]?.getD 0+1/\s.1[(v:Int).toNat]?.getD 0+1<=s.2.length+1:=by
   cases hv:s.1[(v:Int).toNat]? with
   |none=>simp;omega
   |some y=>have:=hs.rng y (Zaf hv);simp only[Zag];omega
  refine⟨by simpa using hs.len,fun y hy=> ?_,fun y hy=> ?_,?_⟩
  .simp only[Zaz,ZaE,ZbB];rcases ZbU hy with hy|hy
   .have:=hs.rng y hy;omega
   .subst hy;omega
  .rcases Zan.1 hy with hy|hy
   .exact hs.q y hy
   .rw[Zal] at hy;subst hy;exact⟨o1,o2⟩
  .rw[Qlu _ _ _ x _ hx (by rw[Zbb];omega) (by rw[Zar];exact hvb.1),hs.cnt];simp
 .exact hs
theorem Qs1{n:Net}(hn:Qcf n){v:Nat}{r:List Int}(hr:n.At[v]? =some r): ∀(l:List Int) (s:List Int×List Int),(∀i∈l,i∈r)->Qkd n s->Qkd n (l.foldl (bfs1 n v) s)
 |[],s,_,hs=>hs
 |i::l,s,hl,hs=>Qs1 hn hr l _ (fun j hj=>hl j (Zas _ hj)) (Qtm hn hr (hl i (Zat ..)) hs)
theorem Qg5{n:Net}(hn:Qcf n){q:Int}(h0:0<=q)(h1:q<n.Cnt): ∀k,Qkd n (Qbu n q k)
 |0=>by
  have hq:q.toNat<n.Cnt.toNat:=by omega
  refine⟨by simp[Qbu],fun x hx=> ?_,fun x hx=> ?_,?_⟩
  .simp only[Qbu] at hx⊢;rcases ZbU hx with hx|hx
   .have:=Zbw hx;simp;omega
   .subst hx;simp
  .simp only[Qbu,Zal] at hx;subst hx;exact⟨h0,h1⟩
  .simp only[Qbu];rw[Qlu _ _ _ (-1) _ (by rw[Zbx,Zao hq]) (by simp) (by simp)]
   have:(List.replicate n.Cnt.toNat (-1:Int)).filter (fun x=>decide (0<=x))=[]:=by
    rw[List.filter_eq_nil_iff];intro x hx;rw[Zbw hx];simp
   rw[this];rfl
 |k+1=>by
  have ih:=Qg5 hn h0 h1 k;simp only[Qbu];split
  .exact ih
  .rename_i v hv;have hvq:=ih.q v (Zaf hv);obtain⟨m,rfl⟩: ∃m:Nat,v=m:=⟨v.toNat,by omega⟩;have hm:m<n.At.length:=by have:=hn.al;omega
   obtain⟨r,hr⟩: ∃r,n.At[m]? =some r:=⟨_,Zad hm⟩;simp only[Zam,hr,Zag];exact Qs1 hn hr r _ (fun _ h=>h) ih
theorem bfs_end(n:Net)(q:Int): ∀(m k:Nat),(Qbu n q k).2.length<=k->Qbu n q (k+m)=Qbu n q k
 |0,k,_=>rfl
 |m+1,k,h=>by
  have h1:Qbu n q (k+1)=Qbu n q k:=by
   rw[Qbu,ZaY h]
  have h2:=bfs_end n q m (k+1) (by rw[h1];omega);rw[show k+(m+1)=k+1+m by omega,h2,h1]
theorem Qwn(n:Net)(v:Int): ∀(l:List Int) (s:List Int×List Int),s.2.length<=(l.foldl (bfs1 n v) s).2.length
 |[],s=>Zap _
 |i::l,s=>by
  have h1:s.2.length<=(bfs1 n v s i).2.length:=by
   simp only[bfs1];split
   .simp
   .exact Zap _
  exact Zbd h1 (Qwn n v l _)
def stepsC.fv(a:Net×Int):List Int:=(Qcb) (a.1) (a.2)
def stepsC.row:Row:=vKF (b2 (qP 4 Net.d_le) qI) (rS Qb3 Qant) (fun a=>Qcf a.1/\0<=a.2/\a.2<a.1.Cnt) stepsC.fv
def stepsC.q:=vKFq (R:=stepsC.row) rfl
def Yao:=J @stepsC.fv.eq_1 (J @roomC.q @roomC.fv.eq_1)
theorem stepsC.ok:Qas Tryz.prog 147 stepsC.row:=by
 refine vwF (tC roomC.ok tN) Tryz.func147 rfl (by kernel_rfl) ?_;intro a hpre;simp only[Tryz.f147,Option.getD];simp(maxSteps:=9^9)(disch:=omega)only[ZZ,simprocAttr,rch,Yao,ORC,D.sc,D.scs,scL,decD];obtain⟨hn,hq0,hq1⟩:=hpre;have hc1:=hn.c1;obtain⟨c,hc⟩: ∃c:Nat,a.1.Cnt=c:=⟨a.1.Cnt.toNat,by omega⟩;refine Qay.ren ⟨{k:Nat//k<=c},fun k=>⟨[(6,.im (.int .i64 k.1)),(5,.own 3),(0,.ptr 0 0),(1,.im (.int .i64 a.2))],[(3,(true,.arr 2 1 ((List.replicate k.1 (-1:Int)).map intC))),(0,(false,.view (Net.c a.1)))],4⟩,fun k=>c - k.1,fun k=>⟨by simp[Qad.good,belT,belH,Qam,AV.bel,belL],by simp⟩,⟨⟨0,by simp⟩,[(3,some 2)],?_⟩,fun k=> ?_⟩
 .simp only[subP];simp(maxSteps:=9^9)(disch:=omega)only[ZZ,simprocAttr,rch,Yao,ORC,D.sc,D.scs,scL,decD,Zab,Zaa,List.replicate_zero,ZaG]
  try simp
 obtain⟨k,hk1⟩:=k;simp(maxSteps:=9^9)(disch:=omega)only[ZZ,simprocAttr,rch,Yao,ORC,D.sc,D.scs,scL,decD,sub,Qal,hc,ZbC];refine⟨fun hk=>⟨by omega,⟨k+1,by omega⟩,[(3,some 5)],by simp only;omega,?_⟩,fun hk=> ?_⟩
 .simp only[subP];simp(maxSteps:=9^9)(disch:=omega)only[ZZ,simprocAttr,rch,Yao,ORC,D.sc,D.scs,scL,decD,Zab,Zaa];refine⟨by rw[Qak (by omega) (by omega)];omega,?_⟩;rw[Zff];simp[intC]
 have hkc:c=k:=by omega
 subst hkc;refine⟨hq0,by omega,by omega,fun _ _=> ?_⟩;have hal:=hn.al;have hinv:=Qg5 hn hq0 hq1;refine Qay.ren ⟨{k:Nat//k<=(Qbu a.1 a.2 k).2.length},fun k=>⟨[(8,.im (.int .i64 k.1)),(7,.own 5),(5,.own 3),(0,.ptr 0 0),(1,.im (.int .i64 a.2))],[(5,(true,.arr 2 1 ((Qbu a.1 a.2 k.1).2.map intC))),(3,(true,.arr 2 1 ((Qbu a.1 a.2 k.1).1.map intC))),(0,(false,.view (Net.c a.1)))],6⟩,fun k=>c - k.1,fun k=>⟨by simp[Qad.good,belT,belH,Qam,AV.bel,belL],by simp⟩,⟨⟨0,by simp⟩,[(5,some 4)],?_⟩,fun k=> ?_⟩
 .simp only[subP];simp(maxSteps:=9^9)(disch:=omega)only[ZZ,simprocAttr,rch,Yao,ORC,D.sc,D.scs,scL,decD,Zab,Zaa,hc,Qbu];simp[hc,intC,ZcY]
 obtain⟨k,hk1⟩:=k;have hi:=hinv k;have hil:=hi.len;have hql:=Qkx (by omega) hi;simp(maxSteps:=9^9)(disch:=omega)only[ZZ,simprocAttr,rch,Yao,ORC,D.sc,D.scs,scL,decD,sub,Qal,hc,hil];intro _;refine⟨fun hk=>⟨hk,hk,fun v hv=> ?_⟩,fun hk=> ?_⟩
 .have hvq:=hi.q v (Zaf hv);obtain⟨m,rfl⟩: ∃m:Nat,v=m:=⟨v.toNat,by omega⟩;have hm:m<a.1.At.length:=by omega
  obtain⟨r,hr⟩: ∃r,a.1.At[m]? =some r:=⟨_,Zad hm⟩;have hrow:Qbu a.1 a.2 (k+1)=r.foldl (bfs1 a.1 m) (Qbu a.1 a.2 k):=by
   simp only[Qbu,hv,Zam,hr,Zag]
  refine Qay.ren ⟨{j:Nat//j<=r.length},fun j=>⟨[(10,.im (.int .i64 j.1)),(9,.im (.int .i64 m)),(8,.im (.int .i64 k)),(7,.own 6),(5,.own 3),(0,.ptr 0 0),(1,.im (.int .i64 a.2))],[(6,(true,.arr 2 1 (((r.take j.1).foldl (bfs1 a.1 m) (Qbu a.1 a.2 k)).2.map intC))),(3,(true,.arr 2 1 (((r.take j.1).foldl (bfs1 a.1 m) (Qbu a.1 a.2 k)).1.map intC))),(0,(false,.view (Net.c a.1)))],7⟩,fun j=>r.length - j.1,fun j=>⟨by simp[Qad.good,belT,belH,Qam,AV.bel,belL],by simp⟩,⟨⟨0,by simp⟩,[(6,some 5)],?_⟩,fun j=> ?_⟩
  .simp only[subP];simp(maxSteps:=9^9)(disch:=omega)only[ZZ,simprocAttr,rch,Yao,ORC,D.sc,D.scs,scL,decD,Zab,Zaa,hc,Zbk,ZdD]
   try simp
  obtain⟨j,hj1⟩:=j;have hs:=Qs1 hn hr (r.take j) _ (fun i hi=>Zdh hi) hi;obtain⟨s,hsd⟩: ∃s,s=(r.take j).foldl (bfs1 a.1 m) (Qbu a.1 a.2 k):=⟨_,rfl⟩;rw[<-hsd] at hs;have hsl:=hs.len;have hsq:=Qkx (by omega) hs;simp only[<-hsd];have hnet:(⟨(c:Int),a.1.Bonds,a.1.At,a.1.Flow⟩:Net)=a.1:=by rw[<-hc]
  simp(maxSteps:=9^9)(disch:=omega)only[ZZ,simprocAttr,rch,Yao,ORC,D.sc,D.scs,scL,decD,sub,Qal,hc,hnet,hsl,Qag,Qac,Qaf,allD,D.one,ZaX,Zcl,Zdi];refine⟨hm,fun r' hr'=> ?_⟩;rw[hr] at hr';obtain rfl:=Zac hr';intro hrl;refine⟨fun hj=>⟨hm,fun r' hr'=> ?_⟩,fun hj=> ?_⟩
  .rw[hr] at hr';obtain rfl:=Zac hr';refine⟨hj,fun i hi0=> ?_⟩;have him:=Zaf hi0;obtain⟨i0,i1,o0,o1⟩:=Qhm hn hr him;have hstep:(r.take (j+1)).foldl (bfs1 a.1 m) (Qbu a.1 a.2 k)=bfs1 a.1 m s i:=by
    rw[ZbO,hi0,ZdU,<-hsd];rfl
   refine⟨i0,i1,fun b hb=>⟨i0,i1,fun b' hb'=> ?_⟩⟩;rw[hb] at hb';obtain rfl:=Zac hb';have hbb:=hn.bs b (Zaf hb);have hw:IntKind.wrap .i64 (IntKind.wrap .i64 (b.A+b.B) - m)=Qbg a.1 m i:=by
    rw[Qak (x:=b.A+b.B) (by omega) (by omega),Qak (by omega) (by omega)];simp only[Qbg,hb]
   rw[hw];have hlt:(Qbg a.1 m i).toNat<c:=by omega
   refine⟨⟨hn,i0,i1⟩,o0,by omega,hlt,fun x hx=>⟨fun hx0=>⟨fun hrm=>⟨by omega,by omega,fun y hy=>⟨o0,by omega,hlt,fun _ _=>⟨by omega,⟨j+1,by omega⟩,[(6,some 8)],by simp only;omega,?_⟩⟩⟩,fun hrm=>⟨⟨j+1,by omega⟩,[(6,some 6)],by simp only;omega,?_⟩⟩,fun hx0=>⟨⟨j+1,by omega⟩,[(6,some 6)],by simp only;omega,?_⟩⟩⟩
   .have e1:bfs1 a.1 m s i=(s.1.set (Qbg a.1 m i).toNat (y+1),s.2++[Qbg a.1 m i]):=by
     simp only[bfs1];rw[Zao ⟨by rw[hx];exact hx0,hrm⟩,Zam,hy];rfl
    have hyb:=hs.rng y (Zaf hy);simp only[subP,hstep,e1];simp(maxSteps:=9^9)(disch:=omega)only[ZZ,simprocAttr,rch,Yao,ORC,D.sc,D.scs,scL,decD,Zab,Zaa,hc];rw[Qak (x:=y+1) (by omega) (by omega)];refine⟨by rw[Qak (by omega) (by omega)];omega,?_,?_⟩
    .simp[intC]
    .simp[intC,ZcY]
   .have e1:bfs1 a.1 m s i=s:=by
     simp only[bfs1];rw[Zaj (fun h=>hrm h.2)]
    simp only[subP,hstep,e1];simp(maxSteps:=9^9)(disch:=omega)only[ZZ,simprocAttr,rch,Yao,ORC,D.sc,D.scs,scL,decD,Zab,Zaa,hc];rw[Qak (by omega) (by omega)];simp
   .have e1:bfs1 a.1 m s i=s:=by
     simp only[bfs1];rw[Zaj (fun h=>hx0 (by have:=h.1;rw[hx] at this;exact this))]
    simp only[subP,hstep,e1];simp(maxSteps:=9^9)(disch:=omega)only[ZZ,simprocAttr,rch,Yao,ORC,D.sc,D.scs,scL,decD,Zab,Zaa,hc];rw[Qak (by omega) (by omega)];simp
  .have hjl:j=r.length:=by omega
   subst hjl;rw[ZbP] at hsd;refine⟨⟨k+1,by
    have:=Qwn a.1 m r (Qbu a.1 a.2 k)
    rw[hrow];omega⟩,[(5,some 6)],by simp only;omega,?_⟩
   simp only[subP,hrow,<-hsd];simp(maxSteps:=9^9)(disch:=omega)only[ZZ,simprocAttr,rch,Yao,ORC,D.sc,D.scs,scL,decD,Zab,Zaa,hc];rw[Qak (by omega) (by omega)];simp
 .rw[Qcb,hc,Zam]
  have:=bfs_end a.1 a.2 (c - k) k (by omega)
  rw[show k+(c - k)=c by omega] at this;rw[this]
def Qwo(l:List Int):Nat->List Int
 |0=>[]
 |k+1=>Qwo l k++(if 0<=l[k]?.getD (-1) then [(k:Int)] else [])
theorem Qu8(l:List Int): ∀k,(Qwo l k).length<=k
 |0=>Zap _
 |k+1=>by
  have:=Qu8 l k
  simp only[Qwo,Zaz]
  split<;>simp<;>omega
def Qw9(n:Net)(q:Int):List Int:=Qwo (Qcb n q) n.Cnt.toNat
theorem Qgs{n:Net}(hn:Qcf n){q:Int}(h0:0<=q)(h1:q<n.Cnt):(Qcb n q).length=n.Cnt.toNat:=(Qg5 hn h0 h1 _).len
def sideC.fv(a:Net×Int):List Int:=(Qw9) (a.1) (a.2)
def sideC.row:Row:=vKF (b2 (qP 4 Net.d_le) qI) (rS Qb3 Qant) (fun a=>Qcf a.1/\0<=a.2/\a.2<a.1.Cnt) sideC.fv
def sideC.q:=vKFq (R:=sideC.row) rfl
def Yap:=J @sideC.fv.eq_1 (J @stepsC.q @stepsC.fv.eq_1)
theorem sideC.ok:Qas Tryz.prog 122 sideC.row:=by
 refine vwF (tC stepsC.ok tN) Tryz.func122 rfl (by kernel_rfl) ?_;intro a hpre;simp only[Tryz.f122,Option.getD];simp(maxSteps:=9^9)(disch:=omega)only[ZZ,simprocAttr,rch,Yap,ORC,D.sc,D.scs,scL,decD];refine⟨hpre,?_⟩;obtain⟨hn,hq0,hq1⟩:=hpre;have hc1:=hn.c1;obtain⟨c,hc⟩: ∃c:Nat,a.1.Cnt=c:=⟨a.1.Cnt.toNat,by omega⟩;have hsl:=Qgs hn hq0 hq1;rw[hc,Zam] at hsl;simp only[Qw9,hc,Zam];obtain⟨l,hl⟩: ∃l,l=Qcb a.1 a.2:=⟨_,rfl⟩;simp only[<-hl] at hsl⊢;refine Qay.ren ⟨{k:Nat//k<=c},fun k=>⟨[(7,.im (.int .i64 k.1)),(6,.own 3),(5,.im (.sl false 1 (l.map intC))),(0,.ptr 0 0)],[(3,(true,.arr 2 1 ((Qwo l k.1).map intC))),(0,(false,.view (Net.c a.1)))],4⟩,fun k=>c - k.1,fun k=>⟨by simp[Qad.good,belT,belH,Qam,AV.bel,belL],by simp⟩,⟨⟨0,by simp⟩,[(3,some 2)],?_⟩,fun k=> ?_⟩
 .simp only[subP];simp(maxSteps:=9^9)(disch:=omega)only[ZZ,simprocAttr,rch,Yap,ORC,D.sc,D.scs,scL,decD,Zab,Zaa,hc,Qwo,ZaG]
  try simp
 obtain⟨k,hk1⟩:=k;have hkl:=Qu8 l k;simp(maxSteps:=9^9)(disch:=omega)only[ZZ,simprocAttr,rch,Yap,ORC,D.sc,D.scs,scL,decD,sub,Qal,hc,hsl,Qag,Qac,Qaf,allD,D.one,ZaX,Zcl,Zdi];refine⟨fun hk=>⟨hk,fun x hx=>⟨fun h=>⟨by omega,⟨k+1,by omega⟩,[(3,some 5)],by simp only;omega,?_⟩,fun h=>⟨⟨k+1,by omega⟩,[(3,some 3)],by simp only;omega,?_⟩⟩⟩,fun hk=> ?_⟩
 .simp only[subP];simp(maxSteps:=9^9)(disch:=omega)only[ZZ,simprocAttr,rch,Yap,ORC,D.sc,D.scs,scL,decD,Zab,Zaa,hc];refine⟨by rw[Qak (by omega) (by omega)];omega,?_⟩;simp only[Qwo,hx,Zag];rw[Zao h];simp[intC]
 .simp only[subP];simp(maxSteps:=9^9)(disch:=omega)only[ZZ,simprocAttr,rch,Yap,ORC,D.sc,D.scs,scL,decD,Zab,Zaa,hc];refine⟨by rw[Qak (by omega) (by omega)];omega,?_⟩;simp only[Qwo,hx,Zag];rw[Zaj h,ZaK]
 .rw[show k=c by omega]
def Qhp(n:Net)(v i:Int):Net:=⟨n.Cnt,n.Bonds,n.At,match n.Bonds[i.toNat]? with
 |some b=>n.Flow.set i.toNat (if b.A=v then n.Flow[i.toNat]?.getD 0+1 else n.Flow[i.toNat]?.getD 0 - 1)
 |none=>n.Flow⟩
def Qa9(n:Net):List AV:=[.im (.int .i64 n.Cnt),.im (.sl false 3 (n.Bonds.map Bond.c)),.im (.sl false 1 (n.At.map Qcd)),.own 1]
def netH(n:Net):Qan:=[(0,(true,.cells 205 (Qa9 n))),(1,(true,.arr 2 1 (n.Flow.map intC)))]
theorem Qaah(n:Net)(j:Nat):domB (netH n) j=true↔j<2:=by
 simp only[domB,netH,hget];by_cases h0:j=0
 .subst h0;simp
 .by_cases h1:j=1
  .subst h1;simp
  .have e0:(0==j)=false:=by simp;omega
   have e1:(1==j)=false:=by simp;omega
   simp[e0,e1];omega
def kl1(j:Nat):Bool:=j==1
def pushC.ca(a:Net×Int×Int):List AV:=[.ptr 0 0,.im (.int .i64 a.2.1),.im (.int .i64 a.2.2)]
def pushC.H1(a:Net×Int×Int):Qan:=[(1,(true,.arr 2 1 ((Qhp a.1 a.2.1 a.2.2).Flow.map intC)))]
def pushC.row:Row:=orow pushC.ca (fun a=>netH a.1) 2 (fun a=>Qcf a.1/\0<=a.2.2/\a.2.2<a.1.Bonds.length) kl1 (fun _=> .im (.tup [])) pushC.H1 0
theorem pushC.ok:Qas Tryz.prog 171 pushC.row:=by
 refine ow tN Tryz.func171 rfl (by kernel_rfl) (exB:=fun _=>false) (R:=fun _ r=>r= .im (.tup [])) (fun _=>rfl)
  (fun a=>by simp[pushC.ca,netH,Qa9,pushC.H1,kl1,belL,AV.bel,belH,Qam,Qc2,AObj.nms,nmsL,AV.nms,domB,hget]) (fun a p hp=> ?_) (fun a r h=>by subst h;exact LeV.refl _) ?_
 rotate_left
 intro a hpre;simp only[Tryz.f171,Option.getD,pushC.ca,netH,Qa9,pushC.H1,kl1];simp(maxSteps:=9^9)(disch:=omega)only[ZZ,simprocAttr,rch,ORB,pushC.ca,netH,Qa9,pushC.H1,kl1];obtain⟨hn,h0,h1⟩:=hpre;have hfl:=hn.fl;refine⟨h0,h1,fun b hb=> ?_⟩
 split<;>rename_i h
 .refine⟨h0,by omega,by omega,fun f hf=>⟨h0,by omega,by omega,fun _ _=> ?_⟩⟩;have hff:=hn.f f (Zaf hf);rw[Qak (by omega) (by omega)];simp only[Qhp,hb,hf,Zag,Zao h,ZcY];rfl
 .refine⟨h0,by omega,by omega,fun f hf=>⟨h0,by omega,by omega,fun _ _=> ?_⟩⟩;have hff:=hn.f f (Zaf hf);rw[Qak (by omega) (by omega)];simp only[Qhp,hb,hf,Zag,Zaj h,ZcY];rfl
 simp[pushC.H1] at hp;subst hp;exact .inl ⟨by omega,rfl,rfl⟩
structure bfsP(n:Net)(q:Int)(s:List Int×List Int):Prop where
 zero:s.1[q.toNat]? =some 0
 uniq: ∀(w:Nat),s.1[w]? =some 0->w=q.toNat
 prev: ∀(w:Nat) (x:Int),s.1[w]? =some x->0<x-> ∃(v:Nat) (r:List Int) (i:Int),s.1[v]? =some (x - 1)/\n.At[v]? =some r/\i∈r/\Qbg n v i=w/\0<(Qb9 n w i).1
 qs: ∀v∈s.2,∃y,s.1[v.toNat]? =some y/\0<=y
theorem Qh0(n:Net)(v:Int)(s:List Int×List Int)(i:Int)(u:Nat)(y:Int)(h:s.1[u]? =some y)(h0:0<=y):(bfs1 n v s i).1[u]? =some y:=by
 simp only[bfs1];split
 .rename_i hc;have hne:(Qbg n v i).toNat≠u:=by
   intro he;rw[he,h] at hc
   have:=hc.1
   simp at this;omega
  simp only;rw[ZaF hne];exact h
 .exact h
theorem Qor(n:Net)(v:Int)(u:Nat)(y:Int)(h0:0<=y): ∀(l:List Int) (s:List Int×List Int),s.1[u]? =some y->(l.foldl (bfs1 n v) s).1[u]? =some y
 |[],_,h=>h
 |i::l,s,h=>Qor n v u y h0 l _ (Qh0 n v s i u y h h0)
theorem bfs1_P{n:Net}(hn:Qcf n){q:Int}{v:Nat}{r:List Int}(hr:n.At[v]? =some r){i:Int}(hi:i∈r){s:List Int×List Int}(hs:Qkd n s)(hp:bfsP n q s){y:Int}(hv:s.1[v]? =some y)(hy:0<=y):bfsP n q (bfs1 n v s i):=by
 obtain⟨_,_,o1,o2⟩:=Qhm hn hr hi;have keep:=fun u z h h0=>Qh0 n v s i u z h h0
 have hlt:(Qbg n v i).toNat<s.1.length:=by rw[hs.len];omega
 by_cases hc:s.1[(Qbg n v i).toNat]?.getD 0<0/\0<(Qb9 n (Qbg n v i) i).1
 .have e1:bfs1 n v s i=(s.1.set (Qbg n v i).toNat (y+1),s.2++[Qbg n v i]):=by
   simp only[bfs1];rw[Zao hc,Zam,hv];rfl
  have hget: ∀(w:Nat) (x:Int),(bfs1 n v s i).1[w]? =some x->(w=(Qbg n v i).toNat/\x=y+1)\/s.1[w]? =some x:=by
   intro w x hx;rw[e1] at hx;simp only at hx;by_cases hw:(Qbg n v i).toNat=w
   .subst hw;rw[ZaD hlt] at hx;exact .inl ⟨rfl,(Zac hx).symm⟩
   .rw[ZaF hw] at hx;exact .inr hx
  refine⟨keep _ _ hp.zero (by omega),fun w hw=> ?_,fun w x hx h0=> ?_,fun u hu=> ?_⟩
  .rcases hget w 0 hw with ⟨_,h⟩|h
   .omega
   .exact hp.uniq w h
  .rcases hget w x hx with ⟨h1,h2⟩|h
   .refine⟨v,r,i,keep _ _ (by rw[hv];congr 1;omega) (by omega),hr,hi,by omega,?_⟩
    have:(w:Int)=Qbg n v i:=by omega
    rw[this];exact hc.2
   .obtain⟨v',r',i',g1,g2,g3,g4,g5⟩:=hp.prev w x h h0;exact⟨v',r',i',keep _ _ g1 (by omega),g2,g3,g4,g5⟩
  .rw[e1] at hu;rcases Zan.1 hu with hu|hu
   .obtain⟨z,h1,h2⟩:=hp.qs u hu;exact⟨z,keep _ _ h1 h2,h2⟩
   .rw[Zal] at hu;subst hu;refine⟨y+1,?_,by omega⟩;rw[e1];exact ZaD hlt
 .have e1:bfs1 n v s i=s:=by simp only[bfs1];rw[Zaj hc]
  rw[e1];exact hp
theorem bfsR_P{n:Net}(hn:Qcf n){q:Int}{v:Nat}{r:List Int}(hr:n.At[v]? =some r){y:Int}(hy:0<=y): ∀(l:List Int) (s:List Int×List Int),(∀i∈l,i∈r)->Qkd n s->bfsP n q s->s.1[v]? =some y->bfsP n q (l.foldl (bfs1 n v) s)
 |[],s,_,_,hp,_=>hp
 |i::l,s,hl,hs,hp,hv=>bfsR_P hn hr hy l _ (fun j hj=>hl j (Zas _ hj)) (Qtm hn hr (hl i (Zat ..)) hs) (bfs1_P hn hr (hl i (Zat ..)) hs hp hv hy) (Qh0 n v s i v y hv hy)
theorem Qabw{n:Net}(hn:Qcf n){q:Int}(h0:0<=q)(h1:q<n.Cnt): ∀k,bfsP n q (Qbu n q k)
 |0=>by
  have hq:q.toNat<n.Cnt.toNat:=by omega
  have hlen:q.toNat<(List.replicate n.Cnt.toNat (-1:Int)).length:=by rw[ZbC];exact hq
  have hget: ∀(w:Nat) (x:Int),((List.replicate n.Cnt.toNat (-1:Int)).set q.toNat 0)[w]? =some x->(w=q.toNat/\x=0)\/x= -1:=by
   intro w x hx;by_cases hw:q.toNat=w
   .subst hw;rw[ZaD hlen] at hx;exact .inl ⟨rfl,(Zac hx).symm⟩
   .rw[ZaF hw] at hx;exact .inr (Zbw (Zaf hx))
  refine⟨ZaD hlen,fun w hw=> ?_,fun w x hx hpos=> ?_,fun v hv=> ?_⟩
  .rcases hget w 0 hw with h|h
   .exact h.1
   .omega
  .rcases hget w x hx with h|h<;>omega
  .simp only[Qbu,Zal] at hv;subst hv;exact⟨0,ZaD hlen,Zch _⟩
 |k+1=>by
  have ih:=Qabw hn h0 h1 k;have hi:=Qg5 hn h0 h1 k;simp only[Qbu];split
  .exact ih
  .rename_i v hv;have hvq:=hi.q v (Zaf hv);obtain⟨m,rfl⟩: ∃m:Nat,v=m:=⟨v.toNat,by omega⟩;have hm:m<n.At.length:=by have:=hn.al;omega
   obtain⟨r,hr⟩: ∃r,n.At[m]? =some r:=⟨_,Zad hm⟩;obtain⟨y,hy,hy0⟩:=ih.qs _ (Zaf hv);simp only[Zam,hr,Zag];exact bfsR_P hn hr hy0 r _ (fun _ h=>h) hi ih (by simpa using hy)
def Qib(n:Net):Prop:= ∀(i:Nat) b f,n.Bonds[i]? =some b->n.Flow[i]? =some f-> -b.Strength<=f/\f<=b.Strength
def Qes(n:Net)(st:List Int)(v:Int)(acc:Int×Int)(i:Int):Int×Int:=
 if 0<(Qb9 n v i).1/\st[(Qb9 n v i).2.toNat]?.getD 0=st[v.toNat]?.getD 0 - 1/\(acc.1<0\/(Qb9 n v i).2<acc.1) then ((Qb9 n v i).2,i) else acc
def Qf5(n:Net)(st:List Int)(v:Int):Int×Int:=(n.At[v.toNat]?.getD []).foldl (Qes n st v) (-1,0)
def Qbd(n:Net)(st:List Int)(p:Int):Nat->Net×Int
 |0=>(n,p)
 |k+1=>(Qhp (Qbd n st p k).1 (Qbd n st p k).2 (Qf5 (Qbd n st p k).1 st (Qbd n st p k).2).2,(Qf5 (Qbd n st p k).1 st (Qbd n st p k).2).1)
def Qd6(n:Net)(p q:Int):Net×Bool:=
 if (Qcb n q)[p.toNat]?.getD 0<0 then (n,false) else ((Qbd n (Qcb n q) p ((Qcb n q)[p.toNat]?.getD 0).toNat).1,true)
theorem Qt4{n:Net}(hn:Qcf n){v:Nat}{r:List Int}(hr:n.At[v]? =some r){i:Int}(hi:i∈r):0<=(Qb9 n v i).2/\(Qb9 n v i).2<n.Cnt:=by
 obtain⟨h0,b,hb,hv⟩:=hn.at_ v r hr i hi;have hbb:=hn.bs b (Zaf hb);simp only[Qb9,hb]
 split<;>simp only<;>omega
def goodP(n:Net)(st:List Int)(v:Int)(r:List Int)(w:Int×Int):Prop:=w.2∈r/\0<(Qb9 n v w.2).1/\(Qb9 n v w.2).2=w.1/\st[w.1.toNat]?.getD 0=st[v.toNat]?.getD 0 - 1/\0<=w.1
theorem Qq8{n:Net}(hn:Qcf n)(st:List Int){v:Nat}{r:List Int}(hr:n.At[v]? =some r): ∀(l:List Int) (acc:Int×Int),(∀i∈l,i∈r)->(acc.1<0\/goodP n st v r acc)->(l.foldl (Qes n st v) acc).1<0\/goodP n st v r (l.foldl (Qes n st v) acc)
 |[],acc,_,h=>h
 |i::l,acc,hl,h=>by
  refine Qq8 hn st hr l _ (fun j hj=>hl j (Zas _ hj)) ?_;simp only[Qes];split
  .rename_i hc;exact .inr ⟨hl i (Zat ..),hc.1,rfl,hc.2.1,(Qt4 hn hr (hl i (Zat ..))).1⟩
  .exact h
theorem pick1_pos{n:Net}(hn:Qcf n)(st:List Int){v:Nat}{r:List Int}(hr:n.At[v]? =some r){i:Int}(hi:i∈r)(acc:Int×Int)(h:0<=acc.1):0<=(Qes n st v acc i).1:=by
 simp only[Qes];split
 .exact (Qt4 hn hr hi).1
 .exact h
theorem Qvo{n:Net}(hn:Qcf n)(st:List Int){v:Nat}{r:List Int}(hr:n.At[v]? =some r): ∀(l:List Int) (acc:Int×Int),(∀i∈l,i∈r)->0<=acc.1->0<=(l.foldl (Qes n st v) acc).1
 |[],_,_,h=>h
 |i::l,acc,hl,h=>Qvo hn st hr l _ (fun j hj=>hl j (Zas _ hj)) (pick1_pos hn st hr (hl i (Zat ..)) acc h)
theorem Qqh{n:Net}(hn:Qcf n)(st:List Int){v:Nat}{r:List Int}(hr:n.At[v]? =some r){i:Int}(h1:0<(Qb9 n v i).1)(h2:st[(Qb9 n v i).2.toNat]?.getD 0=st[(v:Int).toNat]?.getD 0 - 1): ∀(l:List Int) (acc:Int×Int),(∀i∈l,i∈r)->i∈l->0<=(l.foldl (Qes n st v) acc).1
 |[],_,_,h=>by cases h
 |j::l,acc,hl,h=>by
  simp only[Zco];have hl':=fun k hk=>hl k (Zas _ hk)
  rcases Zaw.1 h with rfl|h
  .refine Qvo hn st hr l _ hl' ?_;have hb:=Qt4 hn hr (hl _ (Zat ..));simp only[Qes];split
   .exact hb.1
   .rename_i hc;rcases Int.lt_or_le acc.1 0 with h3|h3
    .exact absurd ⟨h1,h2,.inl h3⟩ hc
    .exact h3
  .exact Qqh hn st hr h1 h2 l _ hl' h
theorem pick_good{n:Net}(hn:Qcf n)(st:List Int){v:Nat}{r:List Int}(hr:n.At[v]? =some r){i:Int}(hi:i∈r)(h1:0<(Qb9 n v i).1)(h2:st[(Qb9 n v i).2.toNat]?.getD 0=st[(v:Int).toNat]?.getD 0 - 1):goodP n st v r (Qf5 n st v):=by
 have e:Qf5 n st v=r.foldl (Qes n st v) (-1,0):=by simp only[Qf5,Zam,hr,Zag]
 rw[e];have h3:=Qqh hn st hr h1 h2 r (-1,0) (fun _ h=>h) hi;rcases Qq8 hn st hr r (-1,0) (fun _ h=>h) (.inl (by decide)) with h|h
 .omega
 .exact h
theorem push_ok{n:Net}(hn:Qcf n)(hc:Qib n){v:Nat}{i:Int}(h0:0<=i)(hr:0<(Qb9 n v i).1):Qcf (Qhp n v i)/\Qib (Qhp n v i):=by
 obtain⟨m,rfl⟩: ∃m:Nat,i=m:=⟨i.toNat,by omega⟩;have hcap:Qib (Qhp n v m):=by
  intro j b f hb hf;simp only[Qhp,Zam] at hb hf;simp only[Qb9,Zam] at hr;cases hbm:n.Bonds[m]? with
  |none=>rw[hbm] at hf;exact hc j b f hb hf
  |some b'=>
   rw[hbm] at hf hr;simp only at hf hr;by_cases hj:m=j
   .subst hj;rw[hb] at hbm;obtain rfl:=Zac hbm;have hml:m<n.Flow.length:=by
     have:=(Zai.1 hf).1
     simpa using this
    rw[ZaD hml] at hf;have hf:=Zac hf;obtain⟨g,hg⟩: ∃g,n.Flow[m]? =some g:=⟨_,Zad hml⟩;have hgc:=hc m b g hb hg;rw[hg] at hf hr;simp only[Zag] at hf hr;split at hf<;>rename_i hA
    .rw[Zao hA] at hr;simp only at hr;omega
    .rw[Zaj hA] at hr;simp only at hr;omega
   .rw[ZaF hj] at hf;exact hc j b f hb hf
 refine⟨⟨hn.c0,hn.c1,?_,hn.al,hn.bs,hn.at_,?_,hn.st,hn.all,hn.ne⟩,hcap⟩
 .have:=hn.fl
  simp only[Qhp];split
  .simpa using this
  .exact this
 .intro x hx;obtain⟨j,hj⟩:=ZaP.1 hx;have hjl:=(Zai.1 hj).1;have hfl:(Qhp n v m).Flow.length=n.Bonds.length:=by
   rw[<-hn.fl];simp only[Qhp];split
   .simp
   .rfl
  obtain⟨b,hb⟩: ∃b,n.Bonds[j]? =some b:=⟨_,Zad (by omega)⟩;have h1:=hcap j b x hb hj;have h2:=hn.st b (Zaf hb);omega
theorem Qabc(n:Net)(v i:Int)(j:Nat)(h:i.toNat≠j):(Qhp n v i).Flow[j]? =n.Flow[j]? :=by
 simp only[Qhp];split
 .exact ZaF h
 .rfl
theorem room_same{n n':Net}(hb:n'.Bonds=n.Bonds)(i:Int)(hf:n'.Flow[i.toNat]? =n.Flow[i.toNat]?)(v:Int):Qb9 n' v i=Qb9 n v i:=by
 simp only[Qb9,hb,hf]
structure walkI(n:Net)(st:List Int)(p:Int)(d k:Nat):Prop where
 ok:Qcf (Qbd n st p k).1
 cap:Qib (Qbd n st p k).1
 cnt:(Qbd n st p k).1.Cnt=n.Cnt
 bs:(Qbd n st p k).1.Bonds=n.Bonds
 at_:(Qbd n st p k).1.At=n.At
 v: ∃m:Nat,(Qbd n st p k).2=m/\(m:Int)<n.Cnt/\st[m]? =some ((d:Int) - k)
 fl: ∀(i:Nat) b,n.Bonds[i]? =some b->st[b.A.toNat]?.getD 0<=(d:Int) - k->st[b.B.toNat]?.getD 0<=(d:Int) - k->(Qbd n st p k).1.Flow[i]? =n.Flow[i]?
theorem Qk0{n:Net}(hn:Qcf n){q:Int}{st qu:List Int}(hlen:st.length=n.Cnt.toNat)(hP:bfsP n q (st,qu)){p:Int}{d k:Nat}(hk:k<d)(hI:walkI n st p d k):
 ∃(m:Nat) (r:List Int),(Qbd n st p k).2=m/\n.At[m]? =some r/\goodP (Qbd n st p k).1 st m r (Qf5 (Qbd n st p k).1 st m)/\st[m]? =some ((d:Int) - k)/\(Qf5 (Qbd n st p k).1 st m).1<n.Cnt:=by
 obtain⟨m,hm,hmc,hst⟩:=hI.v;have hml:m<n.At.length:=by have:=hn.al;omega
 obtain⟨r,hr⟩: ∃r,n.At[m]? =some r:=⟨_,Zad hml⟩;have hr':(Qbd n st p k).1.At[m]? =some r:=by rw[hI.at_];exact hr
 obtain⟨v',r',i,g1,g2,g3,g4,g5⟩:=hP.prev m _ hst (by omega);simp only at g1;obtain⟨hi0,b,hb,hv'⟩:=hn.at_ v' r' g2 i g3;have hbb:=hn.bs b (Zaf hb);have hother:b.A+b.B - v'=m:=by simpa only[Qbg,hb] using g4
 have hall:=hn.all i.toNat b hb;rw[show ((i.toNat:Nat):Int)=i by omega] at hall;have hir:i∈r:=by
  rcases hv' with h|h
  .obtain⟨r2,h2,h3⟩:=hall.2;rw[show b.B.toNat=m by omega,hr] at h2;obtain rfl:=Zac h2;exact h3
  .obtain⟨r2,h2,h3⟩:=hall.1;rw[show b.A.toNat=m by omega,hr] at h2;obtain rfl:=Zac h2;exact h3
 have hne:=hn.ne b (Zaf hb);have hsame:Qb9 (Qbd n st p k).1 m i=Qb9 n m i:=by
  refine room_same hI.bs i (hI.fl i.toNat b hb ?_ ?_) m
  .rcases hv' with h|h
   .rw[show b.A.toNat=v' by omega,g1];simp only[Zag];omega
   .rw[show b.A.toNat=m by omega,hst];simp only[Zag];omega
  .rcases hv' with h|h
   .rw[show b.B.toNat=m by omega,hst];simp only[Zag];omega
   .rw[show b.B.toNat=v' by omega,g1];simp only[Zag];omega
 have h2:(Qb9 n m i).2=v':=by
  simp only[Qb9,hb]
  split<;>simp only<;>omega
 have hg:=pick_good hI.ok st hr' hir (by rw[hsame];exact g5) (by rw[hsame,h2,Zam,g1,Zam,hst];simp only[Zag]);refine⟨m,r,hm,hr,hg,hst,?_⟩
 have:=(Qt4 hI.ok hr' hg.1).2
 rw[hg.2.2.1,hI.cnt] at this;exact this
theorem Qi4{n:Net}(hn:Qcf n)(hc:Qib n){q:Int}{st qu:List Int}(hlen:st.length=n.Cnt.toNat)(hP:bfsP n q (st,qu)){p:Int}(hp0:0<=p)(hp1:p<n.Cnt){d:Nat}(hd:st[p.toNat]? =some (d:Int)): ∀k,k<=d->walkI n st p d k
 |0,_=>⟨hn,hc,rfl,rfl,rfl,⟨p.toNat,by simp only[Qbd];omega,by omega,by rw[hd];simp⟩,fun i b _ _ _=>rfl⟩
 |k+1,hk=>by
  have ih:=Qi4 hn hc hlen hP hp0 hp1 hd k (by omega);obtain⟨m,r,hm,hr,hg,hst,hwc⟩:=Qk0 hn hlen hP (by omega) ih;obtain⟨h1,h2⟩:=push_ok ih.ok ih.cap (i:=(Qf5 (Qbd n st p k).1 st m).2) (ih.ok.at_ m r (by rw[ih.at_];exact hr) _ hg.1).1 hg.2.1;obtain⟨j0,b,hb,hbm⟩:=hn.at_ m r hr _ hg.1;have hw0:=hg.2.2.2.2;have hwl:=hg.2.2.2.1;rw[Zam,hst,Zag] at hwl;obtain⟨z,hz⟩: ∃z,st[(Qf5 (Qbd n st p k).1 st m).1.toNat]? =some z:=⟨_,Zad (by omega)⟩;rw[hz,Zag] at hwl;refine⟨?_,?_,?_,?_,?_,⟨(Qf5 (Qbd n st p k).1 st m).1.toNat,?_,by omega,by rw[hz,hwl];congr 1;omega⟩,?_⟩
  .simp only[Qbd,hm];exact h1
  .simp only[Qbd,hm];exact h2
  .simp only[Qbd,hm];exact ih.cnt
  .simp only[Qbd,hm];exact ih.bs
  .simp only[Qbd,hm];exact ih.at_
  .simp only[Qbd,hm];omega
  .intro i b' hb' hA hB;simp only[Qbd,hm];rw[Qabc]
   .exact ih.fl i b' hb' (by omega) (by omega)
   .intro he;rw[he,hb'] at hb;obtain rfl:=Zac hb;rcases hbm with h|h
    .rw[h,Zam,hst] at hA;simp only[Zag] at hA;omega
    .rw[h,Zam,hst] at hB;simp only[Zag] at hB;omega
def growC.ca(a:Net×Int×Int):List AV:=[.ptr 0 0,.im (.int .i64 a.2.1),.im (.int .i64 a.2.2)]
def growC.H1(a:Net×Int×Int):Qan:=[(1,(true,.arr 2 1 ((Qd6 a.1 a.2.1 a.2.2).1.Flow.map intC)))]
def growC.r0(a:Net×Int×Int):AV:= .im (.bool (Qd6 a.1 a.2.1 a.2.2).2)
def growPre(a:Net×Int×Int):Prop:=Qcf a.1/\Qib a.1/\0<=a.2.1/\a.2.1<a.1.Cnt/\0<=a.2.2/\a.2.2<a.1.Cnt
def growC.row:Row:=orow growC.ca (fun a=>netH a.1) 2 growPre kl1 growC.r0 growC.H1 0
def Yaq:=J @stepsC.q<|J @stepsC.fv.eq_1<|J @roomC.q @roomC.fv.eq_1
theorem growC.ok:Qas Tryz.prog 146 growC.row:=by
 refine ow (tC stepsC.ok (tC roomC.ok (tC pushC.ok tN))) Tryz.func146 rfl (by kernel_rfl) (exB:=fun _=>false) (R:=fun a r=>r=growC.r0 a) (fun _=>rfl)
  (fun a=>by simp[growC.ca,netH,Qa9,growC.H1,kl1,belL,AV.bel,belH,Qam,Qc2,AObj.nms,nmsL,AV.nms,domB,hget]) (fun a p hp=> ?_) (fun a r h=>by subst h;exact LeV.refl _) ?_
 rotate_left
 intro a hpre;simp only[Tryz.f146,Option.getD,growC.ca,netH,Qa9,growC.H1,kl1];simp(maxSteps:=9^9)(disch:=omega)only[ZZ,simprocAttr,rch,Yaq,ORB,growC.ca,netH,Qa9,growC.H1,kl1];obtain⟨hn,hcap,hp0,hp1,hq0,hq1⟩:=hpre;refine⟨⟨hn,hq0,hq1⟩,hp0,?_⟩;have hc1:=hn.c1;have hlen:=Qgs hn hq0 hq1;have hP:=Qabw hn hq0 hq1 a.1.Cnt.toNat;have hrng:=(Qg5 hn hq0 hq1 a.1.Cnt.toNat).rng;have hql:=Qkx hn.c0 (Qg5 hn hq0 hq1 a.1.Cnt.toNat);refine⟨by omega,fun x hx=> ?_⟩
 split<;>rename_i hneg
 .have e:Qd6 a.1 a.2.1 a.2.2=(a.1,false):=by simp only[Qd6];rw[hx];simp only[Zag];rw[Zao hneg]
  exact⟨by simp only[growC.r0,e],by rw[e]⟩
 obtain⟨d,rfl⟩: ∃d:Nat,x=d:=⟨x.toNat,by omega⟩;have e:Qd6 a.1 a.2.1 a.2.2=((Qbd a.1 (Qcb a.1 a.2.2) a.2.1 d).1,true):=by simp only[Qd6];rw[hx];simp only[Zag];rw[Zaj hneg,Zam]
 simp only[growC.r0,e];have hstd:(Qbu a.1 a.2.2 a.1.Cnt.toNat).1=Qcb a.1 a.2.2:=rfl;have hPst:bfsP a.1 a.2.2 (Qcb a.1 a.2.2,(Qbu a.1 a.2.2 a.1.Cnt.toNat).2):=hP;have hdm:=hrng (d:Int) (Zaf hx);clear e hP hneg;obtain⟨st,hst⟩: ∃st,st=Qcb a.1 a.2.2:=⟨_,rfl⟩;rw[hstd] at hrng;simp only[<-hst] at hlen hPst hx hrng⊢;have hwalk:=fun k hk=>Qi4 hn hcap hlen hPst hp0 hp1 hx k hk
 refine Qay.old ⟨{k:Nat//k<=d},fun k=>⟨[(8,.im (.int .i64 (Qbd a.1 st a.2.1 k.1).2)),(7,.im (.sl false 1 (st.map intC))),(0,.ptr 0 0),(1,.im (.int .i64 a.2.1)),(2,.im (.int .i64 a.2.2))],[(0,(true,.cells 205 (Qa9 a.1))),(1,(true,.arr 2 1 ((Qbd a.1 st a.2.1 k.1).1.Flow.map intC)))],2⟩,fun k=>d - k.1,fun k=>⟨by simp[Qad.good,belT,belH,Qam,AV.bel,belL,Qa9],Zap _⟩,⟨⟨0,by simp⟩,by simp(maxSteps:=9^9)(disch:=omega)only[ZZ,simprocAttr,rch,Yaq,ORB,growC.ca,netH,Qa9,growC.H1,kl1,sub,Qbd,Qa9]⟩,fun k=> ?_⟩;obtain⟨k,hk1⟩:=k;have hI:=hwalk k hk1;obtain⟨m,hm,hmc,hsm⟩:=hI.v;simp only[Qa9,hm];simp(maxSteps:=9^9)(disch:=omega)only[ZZ,simprocAttr,rch,Yaq,ORB,growC.ca,netH,Qa9,growC.H1,kl1,sub,Qal];refine⟨fun hne=> ?_,fun he=> ?_⟩
 .have hkd:k<d:=by
   rcases Zbp k d with h|h
   .exact h
   .have:=hPst.uniq m (by rw[hsm];congr 1;omega)
    omega
  obtain⟨m',r,hm',hr,hg,_,hwc⟩:=Qk0 hn hlen hPst hkd hI;rw[hm] at hm';have hmm:m'=m:=by omega
  subst hmm;have hstep:Qbd a.1 st a.2.1 (k+1)=(Qhp (Qbd a.1 st a.2.1 k).1 m' (Qf5 (Qbd a.1 st a.2.1 k).1 st m').2,(Qf5 (Qbd a.1 st a.2.1 k).1 st m').1):=by simp only[Qbd,hm]
  have hpk:Qf5 (Qbd a.1 st a.2.1 k).1 st m'=r.foldl (Qes (Qbd a.1 st a.2.1 k).1 st m') (-1,0):=by simp only[Qf5,Zam,hI.at_,hr,Zag]
  have hok:=hI.ok;have hcnt:=hI.cnt;have hbs:=hI.bs;have hat:=hI.at_;obtain⟨N,hN⟩: ∃N,N=(Qbd a.1 st a.2.1 k).1:=⟨_,rfl⟩;simp only[<-hN] at hstep hpk hok hcnt hbs hat hg hwc⊢;have hrN:N.At[m']? =some r:=by rw[hat];exact hr
  have hnet:(⟨a.1.Cnt,a.1.Bonds,a.1.At,N.Flow⟩:Net)=N:=by rw[<-hcnt,<-hbs,<-hat]
  have hml:m'<a.1.At.length:=(Zai.1 hr).1;refine Qay.old ⟨{j:Nat//j<=r.length},fun j=>⟨[(11,.im (.int .i64 j.1)),(10,.im (.int .i64 ((r.take j.1).foldl (Qes N st m') (-1,0)).2)),(9,.im (.int .i64 ((r.take j.1).foldl (Qes N st m') (-1,0)).1)),(8,.im (.int .i64 m')),(7,.im (.sl false 1 (st.map intC))),(0,.ptr 0 0),(1,.im (.int .i64 a.2.1)),(2,.im (.int .i64 a.2.2))],[(0,(true,.cells 205 (Qa9 a.1))),(1,(true,.arr 2 1 (N.Flow.map intC)))],2⟩,fun j=>r.length - j.1,fun j=>⟨by simp[Qad.good,belT,belH,Qam,AV.bel,belL,Qa9],Zap _⟩,⟨⟨0,by simp⟩,by simp(maxSteps:=9^9)(disch:=omega)only[ZZ,simprocAttr,rch,Yaq,ORB,growC.ca,netH,Qa9,growC.H1,kl1,sub,Qa9,Zbk,ZdD]⟩,fun j=> ?_⟩;obtain⟨j,hj1⟩:=j;obtain⟨acc,hacc⟩: ∃acc,acc=(r.take j).foldl (Qes N st m') (-1,0):=⟨_,rfl⟩;simp only[Qa9,<-hacc];simp(maxSteps:=9^9)(disch:=omega)only[ZZ,simprocAttr,rch,Yaq,ORB,growC.ca,netH,Qa9,growC.H1,kl1,sub,Qal,hnet];refine⟨hml,fun r1 hr1=> ?_⟩;rw[hr] at hr1;obtain rfl:=Zac hr1;intro hrl;refine⟨fun hj=>⟨hml,fun r1 hr1=> ?_⟩,fun hj=> ?_⟩
  .rw[hr] at hr1;obtain rfl:=Zac hr1;refine⟨hj,fun i hi0=> ?_⟩;have him:=Zaf hi0;obtain⟨i0,i1,_,_⟩:=Qhm hok hrN him;have hrb:=Qt4 hok hrN him;have hstepj:(r.take (j+1)).foldl (Qes N st m') (-1,0)=Qes N st m' acc i:=by
    rw[ZbO,hi0,ZdU,<-hacc];rfl
   have hyes:0<(Qb9 N m' i).1->st[(Qb9 N m' i).2.toNat]?.getD 0=st[(m':Int).toNat]?.getD 0 - 1->(acc.1<0\/(Qb9 N m' i).2<acc.1)->Qes N st m' acc i=((Qb9 N m' i).2,i):=by
    intro h1 h2 h3;simp only[Qes];rw[Zao ⟨h1,h2,h3⟩]
   have hw1:IntKind.wrap .i64 ((j:Int)+1)=((j+1:Nat):Int):=by rw[Qak (by omega) (by omega)];omega
   refine⟨⟨hok,i0,i1⟩,fun h1=>⟨hrb.1,by omega,fun x' hx'=>⟨by omega,fun y' hy'=> ?_⟩⟩,fun h1=>⟨⟨j+1,by omega⟩,by simp only;omega,hw1,?_,?_⟩⟩
   .have hyb:=hrng y' (Zaf hy');rw[Qak (x:=y' - 1) (by omega) (by omega)];have hgx:st[(Qb9 N m' i).2.toNat]?.getD 0=x':=by rw[hx'];rfl
    have hgy:st[(m':Int).toNat]?.getD 0=y':=by rw[Zam,hy'];rfl
    refine⟨fun h2=>⟨fun h3=>⟨fun h4=>⟨hml,fun r1 hr1=> ?_⟩,fun h4=>⟨⟨j+1,by omega⟩,by simp only;omega,hw1,?_,?_⟩⟩,fun h3=>⟨hml,fun r1 hr1=> ?_⟩⟩,fun h2=>⟨⟨j+1,by omega⟩,by simp only;omega,hw1,?_,?_⟩⟩
    .rw[hr] at hr1;obtain rfl:=Zac hr1;refine⟨hj,fun i' hi'=>⟨⟨j+1,by omega⟩,by simp only;omega,hw1,?_,?_⟩⟩
     .rw[hi0] at hi';obtain rfl:=Zac hi';simp only[hstepj];rw[hyes h1 (by rw[hgx,hgy,h2]) (.inr h4)]
     .simp only[hstepj];rw[hyes h1 (by rw[hgx,hgy,h2]) (.inr h4)]
    .simp only[hstepj,Qes];rw[Zaj (fun h=>by rcases h.2.2 with h|h<;>omega)]
    .simp only[hstepj,Qes];rw[Zaj (fun h=>by rcases h.2.2 with h|h<;>omega)]
    .rw[hr] at hr1;obtain rfl:=Zac hr1;refine⟨hj,fun i' hi'=>⟨⟨j+1,by omega⟩,by simp only;omega,hw1,?_,?_⟩⟩
     .rw[hi0] at hi';obtain rfl:=Zac hi';simp only[hstepj];rw[hyes h1 (by rw[hgx,hgy,h2]) (.inl (Zbc.1 h3))]
     .simp only[hstepj];rw[hyes h1 (by rw[hgx,hgy,h2]) (.inl (Zbc.1 h3))]
    .simp only[hstepj,Qes];rw[Zaj (fun h=>h2 (by rw[<-hgx,<-hgy];exact h.2.1))]
    .simp only[hstepj,Qes];rw[Zaj (fun h=>h2 (by rw[<-hgx,<-hgy];exact h.2.1))]
   .simp only[hstepj,Qes];rw[Zaj (fun h=>h1 h.1)]
   .simp only[hstepj,Qes];rw[Zaj (fun h=>h1 h.1)]
  .have hjl:j=r.length:=by omega
   subst hjl;rw[ZbP] at hacc;rw[<-hpk] at hacc;subst hacc;have hin:=hok.at_ m' r hrN _ hg.1;obtain⟨i0,i1,_,_⟩:=Qhm hok hrN hg.1;refine orow.os (N,(m':Int),(Qf5 N st m').2) [0,1] ⟨hok,i0,i1⟩ (fun j=>Qaah _ j) rfl rfl ?_ ?_
   .simp(maxSteps:=9^9)(disch:=omega)only[ZZ,simprocAttr,rch,Yaq,ORB,growC.ca,netH,Qa9,growC.H1,kl1,pushC.ca,netH,Qa9,ZaQ];rw[hcnt,hbs,hat];exact⟨rfl,rfl,rfl⟩
   .simp(maxSteps:=9^9)(disch:=omega)only[ZZ,simprocAttr,rch,Yaq,ORB,growC.ca,netH,Qa9,growC.H1,kl1,pushC.H1,kl1,sub];exact⟨⟨k+1,by omega⟩,by simp only;omega,by simp only[hstep],by simp only[hstep]⟩
 .have:k=d:=by
   have h1:=hPst.zero;rw[show a.2.2.toNat=m by omega,hsm] at h1
   have:=Zac h1
   omega
  rw[this]
 simp[growC.H1] at hp;subst hp;exact .inl ⟨by omega,rfl,rfl⟩
theorem Qao(a b:Nat)(h:a≠b):(a==b)=false:=by simpa using h
theorem Qnl{α β γ:Type}{f:α->Option β}{g:γ->α}{k:γ->β}: ∀(l:List γ),(∀i∈l,f (g i)=some (k i))->mapO f (l.map g)=some (l.map k)
 |[],_=>rfl
 |x::r,h=>by simp only[Zaq,mapO,h x (Zat ..),Qnl r (fun i hi=>h i (Zas _ hi))]
theorem fam_cvt{H:Nat->Option Ent}{kx:Nat->Option Nat}{m b n T:Nat}(f:Nat->List Int)(hx: ∀i,i<n->kx (b+i)=none)(hH: ∀i,i<n->H (b+i)=some (true,.arr T 1 ((f i).map intC))):
 mapO (mapO fun x=>asDO (cvt H kx (m+1) x)) ((List.range n).map fun i=>[AV.own (b+i)])=some (((List.range n).map f).map Qcd):=by
 rw[Zdq];refine Qnl _ (fun i hi=> ?_);have hi:=ZaI.1 hi;simp only[mapO,cvt,hx i hi,hH i hi,Qho,kp,ZaO,asDO,AV.asD,Function.comp,Qcd]
theorem Qce(H:Qan)(a b:Nat)(h:a≠b):hget (hdel H [a]) b=hget H b:=by
 rw[Qeg,Zaj];simp;omega
theorem Qjf{α:Type}{a b:Nat}{x y:α}(h:a≠b):(if a=b then x else y)=y:=Zaj h
theorem Qba: ∀(x:Qan),hdel x []=x
 |[]=>rfl
 |(m,e)::r=>by simp[hdel,Qba r]
theorem Qet(L:List Nat)(b n:Nat)(h:L.Nodup)(hb: ∀x∈L,x<b):(L++(List.range n).map (b+ ·)).Nodup:=by
 rw[ZbV];refine⟨h,?_,?_⟩
 .rw[Zbo,Zdk];exact List.Pairwise.imp (fun h h2=>h (by omega)) (Zbo.1 List.nodup_range)
 .intro x hx y hy he;obtain⟨i,_,rfl⟩:=ZaJ.1 hy
  have:=hb x hx
  omega
def atI(bs:List Bond)(i:Nat):Nat->List Int
 |0=>[]
 |k+1=>atI bs i k++(match bs[k]? with
  |some b=>(if b.A=i then [(k:Int)] else [])++(if b.B=i then [(k:Int)] else [])
  |none=>[])
theorem Qwx(bs:List Bond)(i:Nat): ∀k,(atI bs i k).length<=2*k
 |0=>Zap _
 |k+1=>by
  have:=Qwx bs i k
  simp only[atI,Zaz];split
  .simp only[Zaz]
   split<;>split<;>simp<;>omega
  .simp;omega
def newN(n:Int)(bs:List Bond):Net:=⟨n,bs,(List.range n.toNat).map (fun i=>atI bs i bs.length),List.replicate bs.length 0⟩
def newNC.ca(a:Int×List Bond):List AV:=[.im (.int .i64 a.1),.im (.sl false 3 (a.2.map Bond.c))]
def newNC.H1(a:Int×List Bond):Qan:=[(0,(true,.cells 205 [.im (.int .i64 a.1),.im (.sl false 3 (a.2.map Bond.c)),.im (.sl false 1 ((newN a.1 a.2).At.map Qcd)),.own 2])),(2,(true,.arr 2 1 ((newN a.1 a.2).Flow.map intC)))]
def Qhu(a:Int×List Bond):Prop:=0<=a.1/\a.1<=1000/\a.2.length<=1000000/\Qdm a.1 a.2/\ ∀b∈a.2,b.A≠b.B
def exN(j:Nat):Bool:=j==0||j==2
def newNC.row:Row:=orow newNC.ca (fun _=>[]) 0 Qhu (fun _=>false) (fun _=> .ptr 0 0) newNC.H1 3010
theorem newNC.ok:Qas Tryz.prog 145 newNC.row:=by
 refine ow tN Tryz.func145 rfl (by kernel_rfl) (exB:=exN) (R:=fun _ r=>r= .ptr 0 0) (fun _=>rfl)
  (fun a=>by simp[newNC.ca,newNC.H1,exN,belL,AV.bel,belH,Qam,Qc2,AObj.nms,nmsL,AV.nms,domB,hget]) (fun a p hp=> ?_) (fun a r h=>by subst h;exact LeV.refl _) ?_
 rotate_left
 intro a hpre;simp only[Tryz.f145,Option.getD,newNC.ca,newNC.H1,exN];simp(maxSteps:=9^9)(disch:=omega)only[ZZ,simprocAttr,rch,ORB,newNC.ca,newNC.H1,exN];obtain⟨hn0,hn1,hl,hbs,hne⟩:=hpre;refine⟨hn0,Zch _,by omega,fun _=>⟨by omega,?_⟩⟩;obtain⟨n,hn⟩: ∃n:Nat,a.1=n:=⟨a.1.toNat,by omega⟩;rw[hn] at hn0 hn1 hbs;simp only[hn,Zam];refine Qay.ren ⟨{k:Nat//k<=a.2.length},fun k=>⟨[(6,.im (.int .i64 k.1)),(5,.ptr 0 0),(1,.im (.sl false 3 (a.2.map Bond.c)))],(0,(true,.cells 205 [.im (.int .i64 n),.im (.sl false 3 (a.2.map Bond.c)),.own 1,.own 2]))::(2,(true,.arr 2 1 ((List.replicate a.2.length (0:Int)).map intC)))::(1,(true,.arrA 37 1 ((List.range n).map fun i=>[AV.own (1000+i)])))::famH 1000 n (fun i=>(true,.arr 2 1 ((atI a.2 i k.1).map intC))),3000⟩,fun k=>a.2.length - k.1,fun k=>⟨?_,by simp⟩,⟨⟨0,by simp⟩,famP 1000 n,?_⟩,fun k=> ?_⟩
 .simp only[Qad.good,belT,belH,Qam,AV.bel,belL,ZaX,Zbj];rw[Qi1 _ _ _ (fun i=>by simp[belH]),Qd8 _ _ _ _ (by omega)];simp[belL,AV.bel];omega
 .refine⟨geP_famP _ _ _ (by simp),?_,?_,?_⟩
  .rw[Qi7];simp only[Qg1,Qe0];refine Ql1 _ _ (Qet [0,2,1] 1000 n (by simp) (by simp)) ?_;intro x hx y hy m h1 h2;rw[Qlz] at h1 h2;split at h1
   .cases h1
   .split at h2
    .cases h2
    .exact (Zac h1).trans (Zac h2).symm
  .simp only[Qpt,tget];simp(maxSteps:=9^9)(disch:=omega)only[ZZ,simprocAttr,rch,ORB,newNC.ca,newNC.H1,exN,Qlz,Qga];simp[Qga]
  .have p0:pm (famP 1000 n) 0=some 0:=by rw[Qlz,Zaj (by omega)]
   have p1:pm (famP 1000 n) 1=some 1:=by rw[Qlz,Zaj (by omega)]
   have p2:pm (famP 1000 n) 2=some 2:=by rw[Qlz,Zaj (by omega)]
   have pf: ∀i,i<n->pm (famP 1000 n) (1000+i)=none:=by intro i hi;rw[Qlz,Zao (by omega)]
   simp only[Qgb,Qgn];refine⟨?_,?_,?_,fun i hi=> ?_⟩
   .simp(maxSteps:=9^9)(disch:=omega)only[ZZ,simprocAttr,rch,ORB,newNC.ca,newNC.H1,exN,p0,p1,p2]
   .simp(maxSteps:=9^9)(disch:=omega)only[ZZ,simprocAttr,rch,ORB,newNC.ca,newNC.H1,exN,p0,p1,p2];simp[intC]
   .simp(maxSteps:=9^9)(disch:=omega)only[ZZ,simprocAttr,rch,ORB,newNC.ca,newNC.H1,exN,p0,p1,p2];rw[Ql2];refine⟨by simp,fun i x y hx hy=> ?_⟩;simp only[ZaN,Zay] at hx hy;obtain⟨i',hi',rfl⟩:=hx;obtain⟨w,hw,rfl⟩:=hy;have hwe:=Zbw (Zaf hw);subst hwe
    have:=ZaI.1 (Zaf hi')
    simp(maxSteps:=9^9)(disch:=omega)only[ZZ,simprocAttr,rch,ORB,newNC.ca,newNC.H1,exN,pf i' this]
   .rw[pf i hi];simp(maxSteps:=9^9)(disch:=omega)only[ZZ,simprocAttr,rch,ORB,newNC.ca,newNC.H1,exN,atI,ZaG]
 obtain⟨k,hk1⟩:=k;simp(maxSteps:=9^9)(disch:=omega)only[ZZ,simprocAttr,rch,ORB,newNC.ca,newNC.H1,exN,sub,Qal,beq_band,beq_band2,Qba];intro _;refine⟨fun hk=>⟨hk,fun b hb=>⟨hk,fun b' hb'=> ?_⟩⟩,fun hk=> ?_⟩
 .rw[hb] at hb';obtain rfl:=Zac hb';obtain⟨b1,b2,b3,b4⟩:=hbs b (Zaf hb);have hbne:=hne b (Zaf hb);refine⟨b1,by rw[Zcs];exact b2,by rw[Zcs];omega,fun x hx=> ?_⟩;obtain⟨hxl,hxe⟩:=Zai.1 hx;rw[Zcs] at hxl;rw[ZeA] at hxe;have hxn:x<n:=by omega
  refine⟨by omega,?_,?_⟩
  .simp;omega
  have hx3:(1000+x<3000\/3000<=1000+x)=True:=ZdV (by omega);have hx0:(1000+x==0)=false:=Qao _ _ (by omega);have hx1:(1000+x==1)=false:=Qao _ _ (by omega);have hx2:(1000+x==2)=false:=Qao _ _ (by omega);have hlx:=Qwx a.2 x k;simp(maxSteps:=9^9)(disch:=omega)only[ZZ,simprocAttr,rch,ORB,newNC.ca,newNC.H1,exN,sub,Qal,Qjf,Qcy,Qba,hx3,Qao];refine⟨by omega,by omega,?_⟩;refine⟨b1,by rw[Zcs];exact b2,by rw[Zcs];exact hxl,fun _ _=> ?_⟩;have hall1: ∀N,3001<N->((List.map (fun i=>[AV.own (1000+i)]) (List.range n)).set b.A.toNat [AV.own 3001]).all (belL N)=true:=by
   intro N hN;rw[Zbv];intro r hr;rcases ZbU hr with hr|hr
   .obtain⟨i,hi,rfl⟩:=ZaJ.1 hr
    have:=ZaI.1 hi
    simp[belL,AV.bel];omega
   .subst hr;simp[belL,AV.bel];omega
  refine⟨hall1 _ (by omega),⟨by simp,by simp,by simp⟩,hk,fun b' hb'=>⟨hk,fun b'' hb''=> ?_⟩⟩;rw[hb] at hb' hb'';obtain rfl:=Zac hb';obtain rfl:=Zac hb'';obtain⟨y,hy⟩: ∃y:Nat,b.B=y:=⟨b.B.toNat,by omega⟩;have hyx:y≠x:=by omega
  have hyn:y<n:=by omega
  have hyt:b.B.toNat=y:=by omega
  refine⟨b3,by simp;omega,by simp;omega,fun row hrow=> ?_⟩;have hrow2:row=[AV.own (1000+y)]:=by
   rw[hyt,ZaF (by omega),ZaN,ZbF hyn] at hrow;exact (Zac hrow).symm
  subst hrow2;have hy3:(1000+y<3002\/3002<=1000+y)=True:=ZdV (by omega);have hly:=Qwx a.2 y k;simp(maxSteps:=9^9)(disch:=omega)only[ZZ,simprocAttr,rch,ORB,newNC.ca,newNC.H1,exN,sub,Qal,Qjf,Qcy,Qba,hx3,hy3,Qao,Qce];refine⟨by omega,by omega,by omega,b3,by simp;omega,by simp;omega,fun row hrow'=> ?_⟩;rw[hrow] at hrow';obtain rfl:=Zac hrow';simp(maxSteps:=9^9)(disch:=omega)only[ZZ,simprocAttr,rch,ORB,newNC.ca,newNC.H1,exN,sub,Qal,Qjf,Qcy,Qba,hx3,hy3,Qao,Qce];refine⟨?_,⟨by simp,by simp,by simp⟩,⟨k+1,by omega⟩,[(1000+x,some 3001),(1000+y,some 3003)],by simp only;omega,?_⟩
  .rw[Zbv];intro r hr;rcases ZbU hr with hr|hr
   .exact Zbv.1 (hall1 3004 (by omega)) r hr
   .subst hr;simp[belL,AV.bel]
  obtain⟨g,hg⟩: ∃g,g=pm [(1000+x,some 3001),(1000+y,some 3003)]:=⟨_,rfl⟩;have qx:g (1000+x)=some 3001:=by rw[hg];simp[pm]
  have qy:g (1000+y)=some 3003:=by rw[hg];simp only[pm];rw[Zaj (by omega)];simp
  have qo: ∀u,u≠1000+x->u≠1000+y->g u=some u:=by intro u h1 h2;rw[hg];simp only[pm];rw[Zaj (by omega),Zaj (by omega)]
  have hat: ∀i,i<n->atI a.2 i (k+1)=if i=x\/i=y then atI a.2 i k++[(k:Int)] else atI a.2 i k:=by
   intro i hi;simp only[atI,hb];by_cases h1:i=x
   .subst h1;rw[Zao (by omega),Zaj (by omega),Zao (.inl rfl),ZaK]
   .by_cases h2:i=y
    .subst h2;rw[Zaj (by omega),Zao (by omega),Zao (.inr rfl),Zbi]
    .rw[Zaj (by omega),Zaj (by omega),Zaj (by omega)];simp
  refine⟨⟨by omega,by omega,trivial⟩,?_,?_,?_⟩
  .rw[Qi7,<-hg];simp only[Qg1,Qe0];refine Ql1 _ _ (Qet [0,2,1] 1000 n (by simp) (by simp)) ?_;have hlt: ∀u∈[0,2,1]++(List.range n).map (1000+ ·),u<2000:=by
    intro u hu;rcases Zan.1 hu with hu|hu
    .simp at hu;omega
    .obtain⟨i,hi,rfl⟩:=ZaJ.1 hu
     have:=ZaI.1 hi
     show 1000+i<2000;omega
   have hc: ∀u,u<2000->(u=1000+x/\g u=some 3001)\/(u=1000+y/\g u=some 3003)\/g u=some u:=by
    intro u _;by_cases h1:u=1000+x
    .exact .inl ⟨h1,h1▸qx⟩
    .by_cases h2:u=1000+y
     .exact .inr (.inl ⟨h2,h2▸qy⟩)
     .exact .inr (.inr (qo u h1 h2))
   intro u hu v hv m hm1 hm2;have hu2:=hlt u hu;have hv2:=hlt v hv;rcases hc u hu2 with ⟨e1,e2⟩|⟨e1,e2⟩|e2<;>rcases hc v hv2 with ⟨f1,f2⟩|⟨f1,f2⟩|f2<;>rw[e2] at hm1<;>rw[f2] at hm2<;>simp only[Zae] at hm1 hm2<;>omega
  .have q0:pm [(1000+x,some 3001),(1000+y,some 3003)] 0=some 0:=by rw[<-hg];exact qo 0 (by omega) (by omega)
   simp only[Qpt,tget];simp(maxSteps:=9^9)(disch:=omega)only[ZZ,simprocAttr,rch,ORB,newNC.ca,newNC.H1,exN,q0];rw[Qak (by omega) (by omega)];simp
  .have q0:pm [(1000+x,some 3001),(1000+y,some 3003)] 0=some 0:=by rw[<-hg];exact qo 0 (by omega) (by omega)
   have q1:pm [(1000+x,some 3001),(1000+y,some 3003)] 1=some 1:=by rw[<-hg];exact qo 1 (by omega) (by omega)
   have q2:pm [(1000+x,some 3001),(1000+y,some 3003)] 2=some 2:=by rw[<-hg];exact qo 2 (by omega) (by omega)
   have px_x:=qx;have px_y:=qy;have px_o:=qo;rw[hg] at px_x px_y px_o;simp only[Qgb,Qgn];refine⟨?_,?_,?_,fun i hi=> ?_⟩
   .simp(maxSteps:=9^9)(disch:=omega)only[ZZ,simprocAttr,rch,ORB,newNC.ca,newNC.H1,exN,q0,q1,q2]
   .simp(maxSteps:=9^9)(disch:=omega)only[ZZ,simprocAttr,rch,ORB,newNC.ca,newNC.H1,exN,q0,q1,q2]
   .simp(maxSteps:=9^9)(disch:=omega)only[ZZ,simprocAttr,rch,ORB,newNC.ca,newNC.H1,exN,q0,q1,q2];rw[Ql2];refine⟨by simp,fun i r1 r2 h1 h2=> ?_⟩;simp only[ZaN,Zay] at h1;obtain⟨i',hi',rfl⟩:=h1;obtain⟨hil,hie⟩:=Zai.1 hi';rw[Zcs] at hil;rw[ZeA] at hie;subst hie;rw[hyt,show b.A.toNat=x by omega] at h2;by_cases hiy:i=y
    .subst hiy;rw[ZaD (by simp;omega)] at h2;obtain rfl:=Zac h2;simp only[mtL,mt,px_y,ownM,Zcl]
    .rw[ZaF (by omega)] at h2;by_cases hix:i=x
     .subst hix;rw[ZaD (by simp;omega)] at h2;obtain rfl:=Zac h2;simp only[mtL,mt,px_x,ownM,Zcl]
     .rw[ZaF (by omega),ZaN,ZbF hil] at h2;obtain rfl:=Zac h2;simp only[mtL,mt,px_o (1000+i) (by omega) (by omega),ownM,Zcl]
   .show entN _ _ true (.arr 2 1 ((atI a.2 i (k+1)).map intC)) _;rw[hat i hi];by_cases hiy:i=y
    .subst hiy;rw[px_y,Zao (.inr rfl)];simp(maxSteps:=9^9)(disch:=omega)only[ZZ,simprocAttr,rch,ORB,newNC.ca,newNC.H1,exN];simp[intC]
    .by_cases hix:i=x
     .subst hix;rw[px_x,Zao (.inl rfl)];simp(maxSteps:=9^9)(disch:=omega)only[ZZ,simprocAttr,rch,ORB,newNC.ca,newNC.H1,exN];simp[intC]
     .rw[px_o (1000+i) (by omega) (by omega),Zaj (by omega)];have e: ∀(H:Qan),hget H (1000+i)=some (true,.arr 2 1 ((atI a.2 i k).map intC))->entM [(1000+x,some 3001),(1000+y,some 3003)] true (.arr 2 1 ((atI a.2 i k).map intC)) (hget H (1000+i)):=by
       intro H hH;rw[hH];exact⟨rfl,by simp only[mtE]⟩
      refine e _ ?_;simp only[hget,Qao _ _ (show 1≠1000+i by omega),Qao _ _ (show 3003≠1000+i by omega),Qao _ _ (show 3002≠1000+i by omega),Qao _ _ (show 3001≠1000+i by omega),Qao _ _ (show 3000≠1000+i by omega),Qao _ _ (show 0≠1000+i by omega),Qao _ _ (show 2≠1000+i by omega),ZaS];rw[Qce _ _ _ (by omega),Qce _ _ _ (by omega),Qce _ _ _ (by omega),Qce _ _ _ (by omega),Qcy _ _ _ _ hi]
 .have hkl:k=a.2.length:=by omega
  subst hkl;rw[fam_cvt (T:=2) (fun i=>atI a.2 i a.2.length)]
  .simp[newN]
  .intro i hi;have e:exN (1000+i)=false:=by simp only[exN,Qao _ _ (show 1000+i≠0 by omega),Qao _ _ (show 1000+i≠2 by omega),ZcK]
   simp[kxB,domB,hget,e]
  .intro i hi;simp only[hget,Qao _ _ (show 1≠1000+i by omega),Qao _ _ (show 0≠1000+i by omega),Qao _ _ (show 2≠1000+i by omega),ZaS];exact Qcy _ _ _ _ hi
 simp[newNC.H1] at hp;rcases hp with rfl|rfl
 .exact .inr ⟨by omega,by simp,rfl,rfl⟩
 .exact .inr ⟨by omega,by simp,rfl,rfl⟩
def ctr(p:Int)(b:Bond)(f:Int):Int:=if b.A=p then f else if b.B=p then -f else 0
def outQ(n:Net)(p:Int):Int:=(List.zipWith (ctr p) n.Bonds n.Flow).sum
theorem zip_set(p:Int): ∀(bs:List Bond) (fs:List Int) (j:Nat) (b:Bond) (f f':Int),bs[j]? =some b->fs[j]? =some f->(List.zipWith (ctr p) bs (fs.set j f')).sum=(List.zipWith (ctr p) bs fs).sum - ctr p b f+ctr p b f'
 |[],_,_,_,_,_,h,_=>by simp at h
 |_::_,[],_,_,_,_,_,h=>by simp at h
 |x::r,y::s,0,b,f,f',h1,h2=>by
  simp only[ZaV,Zae] at h1 h2;subst h1;subst h2;simp only[Zde,Zcu,Zdf];omega
 |x::r,y::s,j+1,b,f,f',h1,h2=>by
  have:=zip_set p r s j b f f' (by simpa using h1) (by simpa using h2)
  simp only[Zdd,Zcu,Zdf,this];omega
theorem Qzc{n:Net}(hn:Qcf n){v:Nat}{r:List Int}(hr:n.At[v]? =some r){i:Int}(hi:i∈r)(p:Int):outQ (Qhp n v i) p=outQ n p+(if (v:Int)=p then 1 else if (Qb9 n v i).2=p then -1 else 0):=by
 obtain⟨h0,b,hb,hv⟩:=hn.at_ v r hr i hi;have hne:=hn.ne b (Zaf hb);have hl:=(Zai.1 hb).1;obtain⟨f,hf⟩: ∃f,n.Flow[i.toNat]? =some f:=⟨_,Zad (by rw[hn.fl];exact hl)⟩;simp only[outQ,Qhp,hb,Qb9];rw[zip_set p _ _ _ b f _ hb hf,hf];simp only[Zag,ctr];rcases hv with h|h
 .simp only[Zao h]
  repeat' split
  all_goals omega
 .have hA: ¬b.A=v:=by omega
  simp only[Zaj hA]
  repeat' split
  all_goals omega
theorem zip_le(p:Int): ∀(bs:List Bond) (fs:List Int),(∀(i:Nat) b f,bs[i]? =some b->fs[i]? =some f-> -b.Strength<=f/\f<=b.Strength)->(∀b∈bs,0<=b.Strength)->(List.zipWith (ctr p) bs fs).sum<=(bs.map Bond.Strength).sum
 |[],_,_,_=>by simp
 |x::r,[],_,hs=>by
  have h1:=zip_le p r [] (fun i b f _ h=>by simp at h) (fun b hb=>hs b (Zas _ hb));have h2:=hs x (Zat ..);simp only[ZdS,Zfa,Zaq,Zdf] at h1⊢;omega
 |x::r,y::s,hc,hs=>by
  have h1:=zip_le p r s (fun i b f h h'=>hc (i+1) b f (by simpa using h) (by simpa using h')) (fun b hb=>hs b (Zas _ hb));have h2:=hs x (Zat ..);have h3:=hc 0 x y rfl rfl;simp only[Zcu,Zaq,Zdf,ctr];split
  .omega
  .split<;>omega
theorem out_le{n:Net}(hn:Qcf n)(hc:Qib n)(p:Int):outQ n p<=(n.Bonds.map Bond.Strength).sum:=zip_le p _ _ hc (fun b hb=>(hn.st b hb).1)
theorem walk_out{n:Net}(hn:Qcf n)(hc:Qib n){q:Int}{st qu:List Int}(hlen:st.length=n.Cnt.toNat)(hP:bfsP n q (st,qu)){p:Int}(hp0:0<=p)(hp1:p<n.Cnt){d:Nat}(hd:st[p.toNat]? =some (d:Int)): ∀k,k<d->outQ (Qbd n st p (k+1)).1 p=outQ n p+1:=by
 have step: ∀k,k<d->outQ (Qbd n st p (k+1)).1 p=outQ (Qbd n st p k).1 p+(if k=0 then 1 else 0):=by
  intro k hk;have hI:=Qi4 hn hc hlen hP hp0 hp1 hd k (by omega);obtain⟨m,r,hm,hr,hg,hst,hwc⟩:=Qk0 hn hlen hP hk hI;have hr':(Qbd n st p k).1.At[m]? =some r:=by rw[hI.at_];exact hr
  have e:(Qbd n st p (k+1)).1=Qhp (Qbd n st p k).1 m (Qf5 (Qbd n st p k).1 st m).2:=by simp only[Qbd,hm]
  rw[e,Qzc hI.ok hr' hg.1,hg.2.2.1];have hwl:=hg.2.2.2.1;rw[Zam,hst,Zag] at hwl;have hwp:(Qf5 (Qbd n st p k).1 st m).1≠p:=by
   intro he;rw[he,hd,Zag] at hwl;omega
  by_cases h0:k=0
  .subst h0
   have:(m:Int)=p:=by rw[<-hm];rfl
   rw[Zao this,Zao rfl]
  .have:(m:Int)≠p:=by
    intro he
    have:m=p.toNat:=by omega
    rw[this,hd] at hst
    have:=Zac hst
    omega
   rw[Zaj this,Zaj hwp,Zaj h0]
 intro k hk;induction k with
 |zero=>rw[step 0 hk];simp[Qbd]
 |succ k ih=>rw[step (k+1) hk,Zaj (by omega),ih (by omega)];omega
theorem Qr2(bs:List Bond)(i:Nat)(z:Int): ∀k,z∈atI bs i k↔ ∃(j:Nat) (b:Bond),j<k/\z=j/\bs[j]? =some b/\(b.A=i\/b.B=i)
 |0=>by simp[atI]
 |k+1=>by
  have ih:=Qr2 bs i z k;simp only[atI,Zan,ih];constructor
  .rintro (⟨j,b,h1,h2,h3,h4⟩|h)
   .exact⟨j,b,by omega,h2,h3,h4⟩
   .cases hb:bs[k]? with
    |none=>rw[hb] at h;simp at h
    |some b=>
     rw[hb] at h;simp only[Zan] at h;refine⟨k,b,by omega,?_,hb,?_⟩
     .rcases h with h|h<;>split at h<;>simp at h<;>exact h
     .rcases h with h|h
      .split at h
       .exact .inl (by assumption)
       .simp at h
      .split at h
       .exact .inr (by assumption)
       .simp at h
  .rintro⟨j,b,h1,h2,h3,h4⟩;by_cases hj:j=k
   .subst hj;refine .inr ?_;rw[h3];simp only[Zan];rcases h4 with h4|h4
    .exact .inl (by rw[Zao h4,h2];exact Zal.2 rfl)
    .exact .inr (by rw[Zao h4,h2];exact Zal.2 rfl)
   .exact .inl ⟨j,b,by omega,h2,h3,h4⟩
def Qmw(bs:List Bond):Prop:= ∀b∈bs,0<=b.Strength/\b.Strength<=1000000
theorem Qxo{n:Int}{bs:List Bond}(v:Nat)(hv:v<n.toNat):(newN n bs).At[v]? =some (atI bs v bs.length):=by
 simp only[newN,ZaN,ZbF hv,ZaO]
theorem newN_ok{n:Int}{bs:List Bond}(h:Qhu (n,bs))(hs:Qmw bs):Qcf (newN n bs)/\Qib (newN n bs):=by
 obtain⟨h0,h1,h2,h3,h4⟩:=h;simp only at h0 h1 h2 h3 h4;have hz: ∀(i:Nat) f,(newN n bs).Flow[i]? =some f->f=0:=by
  intro i f hf;exact Zbw (Zaf hf)
 refine⟨⟨h0,by show n<=1000000;omega,by simp[newN],by simp[newN];omega,h3,?_,?_,hs,?_,h4⟩,?_⟩
 .intro v r hr i hi;have hv:v<n.toNat:=by
   have:=(Zai.1 hr).1
   simpa[newN] using this
  rw[Qxo v hv] at hr;obtain rfl:=Zac hr;obtain⟨j,b,g1,g2,g3,g4⟩:=(Qr2 bs v i bs.length).1 hi;exact⟨by omega,b,by rw[g2,Zam];exact g3,g4⟩
 .intro x hx;obtain⟨i,hi⟩:=ZaP.1 hx
  have:=hz i x hi
  omega
 .intro i b hb;have hl:=(Zai.1 hb).1;have hbb:=h3 b (Zaf hb);refine⟨⟨_,Qxo _ (by omega),(Qr2 bs _ _ _).2 ⟨i,b,hl,rfl,hb,.inl (by omega)⟩⟩,⟨_,Qxo _ (by omega),(Qr2 bs _ _ _).2 ⟨i,b,hl,rfl,hb,.inr (by omega)⟩⟩⟩
 .intro i b f hb hf
  have:=hz i f hf
  have:=hs b (Zaf hb)
  omega
theorem Qtg{n:Int}{bs:List Bond}(p:Int):outQ (newN n bs) p=0:=by
 simp only[outQ,newN]
 have: ∀(l:List Bond) (m:Nat),(List.zipWith (ctr p) l (List.replicate m 0)).sum=0:=by
  intro l;induction l with
  |nil=>intro m;simp
  |cons x r ih=>
   intro m;cases m with
   |zero=>simp
   |succ m=>
    simp only[Zeo,Zcu,Zdf,ih m,ctr];split
    .rfl
    .split<;>rfl
 exact this _ _
def Qfj(p q:Int):Nat->Net->Net×Int
 |0,n=>(n,0)
 |m+1,n=>if (Qd6 n p q).2=true then ((Qfj p q m (Qd6 n p q).1).1,(Qfj p q m (Qd6 n p q).1).2+1) else (n,0)
def Qcz(n:Int)(bs:List Bond)(p q:Int):Net×Int:=Qfj p q ((bs.map Bond.Strength).sum.toNat+1) (newN n bs)
theorem grow_ok{n:Net}(hn:Qcf n)(hc:Qib n){p q:Int}(hp0:0<=p)(hp1:p<n.Cnt)(hq0:0<=q)(hq1:q<n.Cnt)(hpq:p≠q)(hg:(Qd6 n p q).2=true):
 Qcf (Qd6 n p q).1/\Qib (Qd6 n p q).1/\(Qd6 n p q).1.Cnt=n.Cnt/\(Qd6 n p q).1.Bonds=n.Bonds/\(Qd6 n p q).1.At=n.At/\outQ (Qd6 n p q).1 p=outQ n p+1:=by
 have hlen:=Qgs hn hq0 hq1;have hP:bfsP n q (Qcb n q,(Qbu n q n.Cnt.toNat).2):=Qabw hn hq0 hq1 n.Cnt.toNat;obtain⟨x,hx⟩: ∃x,(Qcb n q)[p.toNat]? =some x:=⟨_,Zad (by omega)⟩;simp only[Qd6,hx,Zag] at hg⊢;by_cases h:x<0
 .rw[Zao h] at hg;simp at hg
 .obtain⟨d,rfl⟩: ∃d:Nat,x=d:=⟨x.toNat,by omega⟩;rw[Zaj h,Zam];have hd:0<d:=by
   rcases Zdg d with h0|h0
   .subst h0
    have:=hP.uniq p.toNat hx
    omega
   .exact h0
  have hI:=Qi4 hn hc hlen hP hp0 hp1 hx d (Zap _);have ho:=walk_out hn hc hlen hP hp0 hp1 hx (d - 1) (by omega);rw[show d - 1+1=d by omega] at ho;exact⟨hI.ok,hI.cap,hI.cnt,hI.bs,hI.at_,ho⟩
abbrev FlA:=Int×List Bond×Int×Int
def flC.net(a:FlA):Net:=(Qcz a.1 a.2.1 a.2.2.1 a.2.2.2).1
def flC.ca(a:FlA):List AV:=[.im (.int .i64 a.1),.im (.sl false 3 (a.2.1.map Bond.c)),.im (.int .i64 a.2.2.1),.im (.int .i64 a.2.2.2)]
def flC.H1(a:FlA):Qan:=[(0,(true,.cells 205 [.im (.int .i64 a.1),.im (.sl false 3 (a.2.1.map Bond.c)),.im (.sl false 1 ((newN a.1 a.2.1).At.map Qcd)),.own 2])),(2,(true,.arr 2 1 ((flC.net a).Flow.map intC)))]
def flC.r0(a:FlA):AV:= .tup [.ptr 0 0,.im (.int .i64 (Qcz a.1 a.2.1 a.2.2.1 a.2.2.2).2)]
def flC.pre(a:FlA):Prop:=Qhu (a.1,a.2.1)/\Qmw a.2.1/\0<=a.2.2.1/\a.2.2.1<a.1/\0<=a.2.2.2/\a.2.2.2<a.1/\a.2.2.1≠a.2.2.2
def flC.row:Row:=orow flC.ca (fun _=>[]) 0 flC.pre (fun _=>false) flC.r0 flC.H1 3010
theorem flC.ok:Qas Tryz.prog 121 flC.row:=by
 refine ow (tC newNC.ok (tC growC.ok tN)) Tryz.func121 rfl (by kernel_rfl) (exB:=exN) (R:=fun a r=>r=flC.r0 a) (fun _=>rfl)
  (fun a=>by simp[flC.ca,flC.H1,exN,belL,AV.bel,belH,Qam,Qc2,AObj.nms,nmsL,AV.nms,domB,hget]) (fun a p hp=> ?_) (fun a r h=>by subst h;exact LeV.refl _) ?_
 rotate_left
 intro a hpre;simp only[Tryz.f121,Option.getD,flC.ca,flC.H1,exN];simp(maxSteps:=9^9)(disch:=omega)only[ZZ,simprocAttr,rch,ORB,flC.ca,flC.H1,exN];obtain⟨hp1,hst,hp0,hpn,hq0,hqn,hpq⟩:=hpre;obtain⟨hok0,hcap0⟩:=newN_ok hp1 hst;have hz0:=Qtg (n:=a.1) (bs:=a.2.1) a.2.2.1;refine orow.os (a.1,a.2.1) [] hp1 (fun j=>by simp[domB,hget]) rfl rfl ?_ ?_
 .simp(maxSteps:=9^9)(disch:=omega)only[ZZ,simprocAttr,rch,ORB,flC.ca,flC.H1,exN,newNC.ca,ZaQ]
 .simp(maxSteps:=9^9)(disch:=omega)only[ZZ,simprocAttr,rch,ORB,flC.ca,flC.H1,exN,newNC.H1,sub];obtain⟨F,hF⟩: ∃F,F=(a.2.1.map Bond.Strength).sum.toNat+1:=⟨_,rfl⟩;refine Qay.old ⟨{k:Nat×Net//Qcf k.2/\Qib k.2/\k.2.Cnt=a.1/\k.2.Bonds=a.2.1/\k.2.At=(newN a.1 a.2.1).At/\outQ k.2 a.2.2.1=k.1/\k.1<=F/\Qcz a.1 a.2.1 a.2.2.1 a.2.2.2=((Qfj a.2.2.1 a.2.2.2 (F - k.1) k.2).1,(Qfj a.2.2.1 a.2.2.2 (F - k.1) k.2).2+k.1)},fun k=>⟨[(11,.im (.int .i64 k.1.1)),(10,.ptr 0 0),(2,.im (.int .i64 a.2.2.1)),(3,.im (.int .i64 a.2.2.2))],[(0,(true,.cells 205 [.im (.int .i64 a.1),.im (.sl false 3 (a.2.1.map Bond.c)),.im (.sl false 1 ((newN a.1 a.2.1).At.map Qcd)),.own 2])),(2,(true,.arr 2 1 (k.1.2.Flow.map intC)))],3010⟩,fun k=>F - k.1.1,fun k=>⟨by simp[Qad.good,belT,belH,Qam,AV.bel,belL],Zap _⟩,⟨⟨(0,newN a.1 a.2.1),hok0,hcap0,rfl,rfl,rfl,hz0,ZaU _,by simp[Qcz,hF]⟩,by simp(maxSteps:=9^9)(disch:=omega)only[ZZ,simprocAttr,rch,ORB,flC.ca,flC.H1,exN,sub]⟩,fun k=> ?_⟩;obtain⟨⟨k,N⟩,i1,i2,i3,i4,i5,i6,i7,i8⟩:=k;simp only at i1 i2 i3 i4 i5 i6 i7 i8;have hle:=out_le i1 i2 a.2.2.1;rw[i4,i6] at hle;have hkF:k<F:=by omega
  have hsum:F<=1000000000001:=by
   have h2: ∀(l:List Bond),(∀b∈l,b.Strength<=1000000)->(l.map Bond.Strength).sum<=1000000*(l.length:Int):=by
    intro l;induction l with
    |nil=>intro _;simp
    |cons x r ih=>
     intro h;have h3:=ih (fun b hb=>h b (Zas _ hb));have h4:=h x (Zat ..);simp only[Zaq,Zdf,ZaE];omega
   have h3:=h2 a.2.1 (fun b hb=>(hst b hb).2);have h4:=hp1.2.2.1;simp only at h4;omega
  obtain⟨m,hm⟩: ∃m,F - k=m+1:=⟨F - k - 1,by omega⟩;rw[hm,Qfj] at i8;simp(maxSteps:=9^9)(disch:=omega)only[ZZ,simprocAttr,rch,ORB,flC.ca,flC.H1,exN,sub,Qal];refine orow.os (N,a.2.2.1,a.2.2.2) [0,2] ⟨i1,i2,hp0,by simp only;omega,hq0,by simp only;omega⟩ (fun j=>Qaah _ j) rfl rfl ?_ ?_
  .simp(maxSteps:=9^9)(disch:=omega)only[ZZ,simprocAttr,rch,ORB,flC.ca,flC.H1,exN,growC.ca,netH,Qa9,ZaQ];rw[i3,i4,i5];exact⟨rfl,rfl,rfl⟩
  .simp(maxSteps:=9^9)(disch:=omega)only[ZZ,simprocAttr,rch,ORB,flC.ca,flC.H1,exN,growC.H1,growC.r0,kl1,sub,Qal];refine⟨fun hg=> ?_,fun hg=> ?_⟩
   .rw[Zao hg] at i8;obtain⟨g1,g2,g3,g4,g5,g6⟩:=grow_ok i1 i2 hp0 (by omega) hq0 (by omega) hpq hg;refine⟨⟨(k+1,(Qd6 N a.2.2.1 a.2.2.2).1),g1,g2,g3.trans i3,g4.trans i4,g5.trans i5,by simp only;omega,by simp only;omega,?_⟩,by simp only;omega,?_,rfl⟩
    .simp only;rw[show F - (k+1)=m by omega,i8];simp only[Zbg,Zdi];omega
    .rw[Qak (by omega) (by omega)];simp only;omega
   .rw[Zaj hg] at i8;have e:(Qd6 N a.2.2.1 a.2.2.2).1=N:=by
     revert hg;simp only[Qd6];split
     .intro _;rfl
     .intro h;simp at h
    refine⟨?_,?_⟩
    .simp only[flC.r0,i8];simp
    .rw[e];simp only[flC.net,i8]
 simp[flC.H1] at hp;rcases hp with rfl|rfl
 .exact .inr ⟨by omega,by simp,rfl,rfl⟩
 .exact .inr ⟨by omega,by simp,rfl,rfl⟩
def vU64:D->Option Int
 | .int .u64 n=>some n
 |_=>none
theorem Qs3: ∀d x,vU64 d=some x->Le d (.int .u64 x):=by
 intro d x h;unfold vU64 at h;split at h
 .simp only[Zae] at h;subst h;exact Le.refl _
 .cases h
theorem Qw1{a:Int}(h0:0<=a)(h1:a<4294967296):andI .u64 a 4294967295=a:=by
 simp only[andI];obtain⟨n,rfl⟩: ∃n:Nat,a=n:=⟨a.toNat,by omega⟩;have hn:n<4294967296:=by omega
 have:(BitVec.ofInt IntKind.u64.bits (n:Int) &&& BitVec.ofInt IntKind.u64.bits 4294967295).toNat=n:=by
  have e:IntKind.u64.bits=64:=rfl;rw[e];simp only[BitVec.toNat_and,BitVec.toNat_ofInt];rw[show ((n:Int) % ((2^64:Nat):Int)).toNat=n by omega,show ((4294967295:Int) % ((2^64:Nat):Int)).toNat=2^32 - 1 by decide];rw[Nat.and_two_pow_sub_one_eq_mod];omega
 rw[this];unfold IntKind.wrap;have e:IntKind.u64.bits=64:=rfl;have e2:IntKind.u64.signed=false:=rfl;simp only[e,e2,Zbu,ZaB,Zby];omega
theorem wrapU{a:Int}(h0:0<=a)(h1:a<18446744073709551616):IntKind.u64.wrap a=a:=by
 unfold IntKind.wrap;have e:IntKind.u64.bits=64:=rfl;have e2:IntKind.u64.signed=false:=rfl;simp only[e,e2,Zbu,ZaB,Zby];omega
theorem fdivU{a:Int}(h0:0<=a)(h1:a<4294967296):a.fdiv (2^min 32 IntKind.u64.bits)=0:=by
 have e:IntKind.u64.bits=64:=rfl;rw[e,show (2:Int)^min 32 64=4294967296 by decide,Zes _ (by decide)];omega
def mul64.fv(a:Int×Int):Int×Int:=(fun _ y=>(0,y)) (a.1) (a.2)
def mul64.row:Row:=vK (b2 qU qU) (r2 (RK.mk (vU64) (D.int .u64) (Qs3)) (RK.mk (vU64) (D.int .u64) (Qs3))) (fun a=>a.1=1/\0<=a.2/\a.2<=1000000) mul64.fv
def mul64.q:=vKq (R:=mul64.row) rfl
theorem mul64.ok:Qas Tryz.prog 189 mul64.row:=by
 refine vw tN Tryz.func189 rfl (by kernel_rfl) ?_;intro a hpre;simp only[Tryz.f189,Option.getD];simp(maxSteps:=9^9)(disch:=omega)only[ZZ,simprocAttr,rch,mul64.fv];obtain⟨h1,h2,h3⟩:=hpre;rw[h1,Qw1 (by omega) (by omega),Qw1 (by omega) (by omega),fdivU (by omega) (by omega),fdivU h2 (by omega),Int.zero_mul,Int.one_mul,Int.zero_mul,Int.mul_zero];simp only[wrapU h2 (show a.2<18446744073709551616 by omega),fdivU h2 (show a.2<4294967296 by omega),wrapU (Zch 0) (by decide),Int.add_zero,fdivU (Zch 0) (by decide),Qw1 (Zch 0) (by decide)];rfl
def mul_.fv(a:Int×Int):Int×Int:=(fun _ y=>(0,y)) (a.1) (a.2)
def mul_.row:Row:=vK (b2 qU qU) (r2 (RK.mk (vU64) (D.int .u64) (Qs3)) (RK.mk (vU64) (D.int .u64) (Qs3))) (fun a=>a.1=1/\0<=a.2/\a.2<=1000000) mul_.fv
def mul_.q:=vKq (R:=mul_.row) rfl
theorem mul_.ok:Qas Tryz.prog 187 mul_.row:=by
 refine vw (tC mul64.ok tN) Tryz.func187 rfl (by kernel_rfl) ?_;intro a hpre;simp only[Tryz.f187,Option.getD];simp(maxSteps:=9^9)(disch:=omega)only[ZZ,simprocAttr,rch,mul_.fv,mul64.q,mul64.fv];exact⟨hpre,rfl⟩
def repR(x:Int)(m n:Nat):List (List D):=List.replicate m [.int .i64 x]++List.replicate (n - m) [.int .i64 0]
theorem repR_len(x:Int){m n:Nat}(h:m<=n):(repR x m n).length=n:=by simp[repR];omega
theorem repR_one(x:Int)(n:Nat):repR x (min 1 n) n=List.take (min 1 n) [[.int .i64 x]]++List.drop (min 1 n) (List.replicate n [.int .i64 0]):=by
 cases n with
 |zero=>rfl
 |succ n=>
  rw[show min 1 (n+1)=1 by omega];simp[repR]
theorem OneR_repR(x:Int)(k m n:Nat):OneR allD (List.take k (repR x m n)):=by
 intro r hr
 have:=Zdh hr
 rcases Zan.1 this with h|h<;>rw[Zbw h]<;>rfl
theorem repR_step(x:Int){m n:Nat}(h:m<n):List.take m (repR x m n)++List.take (min m (n - m)) (List.take m (repR x m n))++List.drop (m+min m (n - m)) (repR x m n)=repR x (m+min m (n - m)) n:=by
 have e:List.take m (repR x m n)=List.replicate m [.int .i64 x]:=by simp[repR]
 rw[e];have e2:List.drop (m+min m (n - m)) (repR x m n)=List.replicate (n - (m+min m (n - m))) [.int .i64 0]:=by
  simp only[repR];rw[Zcx,Zax (by simp),Zbi,ZbC,List.drop_replicate];congr 1;omega
 rw[e2,repR,<-List.replicate_append_replicate];congr 2;rw[List.take_replicate];congr 1;omega
def rept.ca(a:Int×Int):List AV:=[.own 0,.im (.int .i64 a.2)]
def rept.H0(a:Int×Int):Qan:=[(0,(true,.arr 3 1 [[.int .i64 a.1]]))]
def rept.H1(a:Int×Int):Qan:=[(1,(true,.arr 3 1 (List.replicate a.2.toNat [.int .i64 a.1])))]
def rept.pre(a:Int×Int):Prop:=0<=a.2/\a.2<=1000000
def rept.row:Row:=orow rept.ca rept.H0 1 rept.pre (fun _=>false) (fun _=> .own 1) rept.H1 20
def Yar:=J @mul_.q @mul_.fv.eq_1
theorem rept.ok:Qas Tryz.prog 183 rept.row:=by
 refine owN (tC mul_.ok tN) Tryz.func183 rfl (by kernel_rfl) (exB:=fun j=>j==1) (R:=fun a r=>r= .own 1) (fun _=>rfl)
  (fun a=>by simp[rept.ca,rept.H0,rept.H1,belL,AV.bel,belH,Qam,Qc2,AObj.nms,nmsL,AV.nms,domB,hget]) (fun a p hp=> ?_) (fun a r h=>by subst h;exact LeV.refl _) ?_
 rotate_left
 intro a hpre;simp only[Tryz.f183,Option.getD,rept.ca,rept.H0,rept.H1];simp(maxSteps:=9^9)(disch:=omega)only[ZZ,simprocAttr,rch,Yar,Qc7,ORB,rept.ca,rept.H0,rept.H1];obtain⟨h0,h1⟩:=hpre;rw[Zaj (by omega)];simp(maxSteps:=9^9)(disch:=omega)only[ZZ,simprocAttr,rch,Yar,Qc7,ORB,rept.ca,rept.H0,rept.H1,wrapU (show (0:Int)<=1 by decide) (show (1:Int)<18446744073709551616 by decide),wrapU h0 (show a.2<18446744073709551616 by omega)];refine⟨⟨h0,h1⟩,?_⟩;rw[Zaj (by omega)];simp(maxSteps:=9^9)(disch:=omega)only[ZZ,simprocAttr,rch,Yar,Qc7,ORB,rept.ca,rept.H0,rept.H1,Qak (show -9223372036854775808<=a.2 by omega) (show a.2<=9223372036854775807 by omega)];refine⟨h0,Zch _,by omega,?_⟩;obtain⟨n,hn⟩: ∃n:Nat,a.2=n:=⟨a.2.toNat,by omega⟩;obtain⟨x,hx⟩: ∃x,x=a.1:=⟨_,rfl⟩;simp only[hn,Zam,ZbC,<-hx];rw[hn] at h0 h1;refine Qay.old ⟨{m:Nat//m<=n/\(m=0->n=0)},fun m=>⟨[(8,.im (.int .i64 m.1)),(7,.own 1)],[(1,(true,.arr 3 1 (repR x m.1 n))),(0,(true,.arr 3 1 [[.int .i64 x]]))],2⟩,fun m=>n - m.1,fun m=>⟨by simp[Qad.good,belT,belH,Qam,AV.bel,belL],by simp⟩,⟨⟨min 1 n,by omega,by omega⟩,?_⟩,fun m=> ?_⟩
 .simp(maxSteps:=9^9)(disch:=omega)only[ZZ,simprocAttr,rch,Yar,Qc7,ORB,rept.ca,rept.H0,rept.H1,sub];exact (repR_one x n).symm
 obtain⟨m,hm1,hm2⟩:=m;have hrl:=repR_len x hm1;simp(maxSteps:=9^9)(disch:=omega)only[ZZ,simprocAttr,rch,Yar,Qc7,ORB,rept.ca,rept.H0,rept.H1,sub,Qal,hrl];intro hlim;refine⟨fun hm=>⟨by omega,false,?_⟩,fun hm=> ?_⟩
 .simp(maxSteps:=9^9)(disch:=omega)only[ZZ,simprocAttr,rch,Yar,Qc7,ORB,rept.ca,rept.H0,rept.H1,hrl];refine⟨by omega,false,?_⟩;simp(maxSteps:=9^9)(disch:=omega)only[ZZ,simprocAttr,rch,Yar,Qc7,ORB,rept.ca,rept.H0,rept.H1,hrl,sub];obtain⟨k,hk⟩: ∃k,min (List.take ((m:Int) - 0).toNat (repR x m n)).length ((n:Int) - m).toNat=k:=⟨_,rfl⟩;have hk2:k=min m (n - m):=by rw[<-hk,Zau,hrl];omega
  rw[hk,show ((m:Int) - 0).toNat=m by omega];refine⟨OneR_repR x _ _ _,⟨m+k,by omega,by omega⟩,by simp only;omega,by rw[Qak (by omega) (by omega)];simp only;omega,?_⟩;subst hk2;exact repR_step x hm
 .refine⟨[],[],⟨[(4,.own 1)],[(1,(true,.arr 3 1 (repR x m n))),(0,(true,.arr 3 1 [[.int .i64 x]]))],2⟩,?_,by simp[Qad.good,belT,belH,Qam,AV.bel,belL],by simp,?_⟩
  .simp only[subP];simp(maxSteps:=9^9)(disch:=omega)only[ZZ,simprocAttr,rch,Yar,Qc7,ORB,rept.ca,rept.H0,rept.H1,Zab,Zaa]
  .simp(maxSteps:=9^9)(disch:=omega)only[ZZ,simprocAttr,rch,Yar,Qc7,ORB,rept.ca,rept.H0,rept.H1]
   have:m=n:=by omega
   subst this;simp[repR]
 simp[rept.H1] at hp;subst hp;exact .inr ⟨by omega,by omega,rfl,rfl⟩
def Qyw(x:Nwk)(u v:Int):Int:=(x.Room[u.toNat]?.getD [])[v.toNat]?.getD 0
def Qzr(x:Nwk)(u v:Int):Int:=(x.Flow[u.toNat]?.getD [])[v.toNat]?.getD 0
def Qp4(x:Nwk)(u v:Int):Bool:=decide (Qzr x u v<Qyw x u v)
structure Qjx(x:Nwk)(n:Nat):Prop where
 r:x.Room.length=n
 f:x.Flow.length=n
 rr: ∀l∈x.Room,l.length=n
 ff: ∀l∈x.Flow,l.length=n
def way1(x:Nwk)(u:Int)(s:List Int×List Int)(v:Nat):List Int×List Int:=
 if s.1[v]?.getD 0<0/\Qp4 x u v=true then (s.1.set v u,s.2++[(v:Int)]) else s
def wayI(x:Nwk)(u:Int)(s:List Int×List Int):Nat->List Int×List Int
 |0=>s
 |k+1=>way1 x u (wayI x u s k) k
def Qb5(x:Nwk)(n:Nat)(p:Int):Nat->List Int×List Int
 |0=>((List.replicate n (-1)).set p.toNat p,[p])
 |k+1=>match (Qb5 x n p k).2[k]? with
  |none=>Qb5 x n p k
  |some u=>wayI x u (Qb5 x n p k) n
structure wayP(x:Nwk)(n:Nat)(p:Int)(s:List Int×List Int):Prop where
 len:s.1.length=n
 q: ∀v∈s.2,0<=v/\v<n
 nd:s.2.Nodup
 hd:s.2[0]? =some p
 pp:s.1[p.toNat]? =some p
 mem: ∀(v:Nat) (y:Int),s.1[v]? =some y->(0<=y↔(v:Int)∈s.2)
 prev: ∀(i:Nat) (v:Int),s.2[i]? =some v->0<i-> ∃(j:Nat) (u:Int),j<i/\s.2[j]? =some u/\s.1[v.toNat]? =some u/\Qp4 x u v=true
theorem Qtz: ∀(n:Nat) (l:List Int),l.Nodup->(∀v∈l,0<=v/\v<n)->l.length<=n
 |0,[],_,_=>Zap _
 |0,x::r,_,h=>by have:=h x (Zat ..);omega
 |n+1,l,h,hb=>by
  have h1:=Qtz n (l.erase (n:Int)) (h.erase _) (fun v hv=>by
   have h2:=(h.mem_erase_iff).1 hv;have h3:=hb v h2.2
   have:=h2.1
   omega)
  have h2:=List.length_erase (a:=(n:Int)) (l:=l);split at h2<;>omega
theorem Qr3{x:Nwk}{n:Nat}{p:Int}{s:List Int×List Int}(h:wayP x n p s):s.2.length<=n:=Qtz n s.2 h.nd h.q
theorem way1_P{x:Nwk}{n:Nat}{p:Int}{s:List Int×List Int}(h:wayP x n p s){u:Int}{k v:Nat}(hu:s.2[k]? =some u)(hv:v<n):wayP x n p (way1 x u s v)/\ ∃r,(way1 x u s v).2=s.2++r:=by
 simp only[way1];split
 .rename_i hc;obtain⟨hc1,hc2⟩:=hc;have hvl:v<s.1.length:=by rw[h.len];exact hv
  obtain⟨y,hy⟩: ∃y,s.1[v]? =some y:=⟨_,Zad hvl⟩;rw[hy,Zag] at hc1;have hvn:(v:Int)∉s.2:=fun hm=>by have:=(h.mem v y hy).2 hm;omega
  have hpm:p∈s.2:=Zaf h.hd;have hpv:p.toNat≠v:=by
   intro he
   have:=h.q p hpm
   exact hvn (by rw[show (v:Int)=p by omega];exact hpm)
  have hub:=h.q u (Zaf hu);refine⟨⟨by simpa using h.len,fun w hw=> ?_,?_,?_,?_,fun w z hz=> ?_,fun i w hw hi=> ?_⟩,_,rfl⟩
  .rcases Zan.1 hw with hw|hw
   .exact h.q w hw
   .rw[Zal] at hw;subst hw;omega
  .rw[ZbV];refine⟨h.nd,by simp,fun a ha b hb=> ?_⟩;rw[Zal] at hb;subst hb;exact fun he=>hvn (he▸ha)
  .have:=h.hd
   rw[Zav (Zai.1 this).1];exact this
  .simp only;rw[ZaF (Zcz hpv)];exact h.pp
  .simp only at hz⊢;rw[Zan,Zal];by_cases hwv:v=w
   .subst hwv;rw[ZaD hvl] at hz;obtain rfl:=Zac hz;exact⟨fun _=> .inr rfl,fun _=>hub.1⟩
   .rw[ZaF hwv] at hz;rw[h.mem w z hz];constructor
    .exact .inl
    .rintro (h1|h1)
     .exact h1
     .omega
  .simp only at hw⊢;by_cases hil:i<s.2.length
   .rw[Zav hil] at hw;obtain⟨j,z,h1,h2,h3,h4⟩:=h.prev i w hw hi;refine⟨j,z,h1,by rw[Zav (by omega)];exact h2,?_,h4⟩;have hwm:=h.q w (Zaf hw);rw[ZaF]
    .exact h3
    .intro he;exact hvn (by rw[show (v:Int)=w by omega];exact Zaf hw)
   .have hie:i=s.2.length:=by
     have:=(Zai.1 hw).1
     simp only[Zaz,ZaE,ZbB] at this;omega
    subst hie;rw[ZaC (Zap _),Zcj,ZaV] at hw;obtain rfl:=Zac hw;have hkl:=(Zai.1 hu).1;refine⟨k,u,hkl,by rw[Zav hkl];exact hu,?_,hc2⟩;rw[Zam,ZaD hvl]
 .exact⟨h,[],by simp⟩
theorem Qoj(x:Nwk)(u:Int)(s:List Int×List Int)(v w:Nat)(y:Int)(h:s.1[w]? =some y)(h0:0<=y):(way1 x u s v).1[w]? =some y:=by
 simp only[way1];split
 .rename_i hc;rw[ZaF]
  .exact h
  .intro he;subst he
   have:=hc.1
   rw[h,Zag] at this;omega
 .exact h
theorem Qvl(x:Nwk)(u:Int)(s:List Int×List Int)(w:Nat)(y:Int)(h:s.1[w]? =some y)(h0:0<=y): ∀k,(wayI x u s k).1[w]? =some y
 |0=>h
 |k+1=>Qoj x u _ k w y (Qvl x u s w y h h0 k) h0
theorem Qwk{x:Nwk}{n:Nat}{p:Int}{s:List Int×List Int}(h:wayP x n p s){u:Int}{i:Nat}(hu:s.2[i]? =some u): ∀k,k<=n->wayP x n p (wayI x u s k)/\ ∃r,(wayI x u s k).2=s.2++r
 |0,_=>⟨h,[],by simp[wayI]⟩
 |k+1,hk=>by
  obtain⟨h1,r,hr⟩:=Qwk h hu k (by omega);have hul:=(Zai.1 hu).1;obtain⟨h2,r',hr'⟩:=way1_P h1 (u:=u) (k:=i) (v:=k) (by rw[hr,Zav hul];exact hu) (by omega);exact⟨h2,r++r',by rw[wayI,hr',hr,ZbA]⟩
theorem Qz6{x:Nwk}{n:Nat}{p:Int}{s:List Int×List Int}(h:wayP x n p s){u:Int}{i:Nat}(hu:s.2[i]? =some u): ∀k,k<=n-> ∀v,v<k->Qp4 x u v=true-> ∃y,(wayI x u s k).1[v]? =some y/\0<=y
 |0,_,v,hv,_=>by omega
 |k+1,hk,v,hv,hf=>by
  by_cases hvk:v<k
  .obtain⟨y,h1,h2⟩:=Qz6 h hu k (by omega) v hvk hf;exact⟨y,Qoj x u _ k v y h1 h2,h2⟩
  .have:v=k:=by omega
   subst this;have hP:=(Qwk h hu v (by omega)).1;obtain⟨y,hy⟩: ∃y,(wayI x u s v).1[v]? =some y:=⟨_,Zad (by rw[hP.len];omega)⟩;by_cases hy0:0<=y
   .exact⟨y,Qoj x u _ v v y hy hy0,hy0⟩
   .have hub:=h.q u (Zaf hu);refine⟨u,?_,hub.1⟩;rw[wayI,way1,Zao ⟨by rw[hy,Zag];omega,hf⟩];exact ZaD (by rw[hP.len];omega)
theorem Qnt{x:Nwk}{n:Nat}{p:Int}(h0:0<=p)(h1:p<n): ∀k,wayP x n p (Qb5 x n p k)
 |0=>by
  have hq:p.toNat<(List.replicate n (-1:Int)).length:=by rw[ZbC];omega
  refine⟨by simp[Qb5],fun v hv=> ?_,by simp[Qb5],rfl,ZaD hq,fun v y hy=> ?_,fun i v hv hi=> ?_⟩
  .simp only[Qb5,Zal] at hv;subst hv;omega
  .simp only[Qb5,Zal] at hy⊢;by_cases hw:p.toNat=v
   .subst hw;rw[ZaD hq] at hy;obtain rfl:=Zac hy;omega
   .rw[ZaF hw] at hy
    have:=Zbw (Zaf hy)
    omega
  .simp only[Qb5] at hv;cases i with
   |zero=>omega
   |succ i=>simp at hv
 |k+1=>by
  have ih:=Qnt (x:=x) h0 h1 k;simp only[Qb5];split
  .exact ih
  .rename_i u hu;exact (Qwk ih hu n (Zap _)).1
theorem Qaa0(x:Nwk)(n:Nat)(p:Int)(w:Nat)(y:Int)(h0:0<=y)(k:Nat)(h:(Qb5 x n p k).1[w]? =some y): ∀m,(Qb5 x n p (k+m)).1[w]? =some y
 |0=>h
 |m+1=>by
  have ih:=Qaa0 x n p w y h0 k h m;rw[show k+(m+1)=k+m+1 by omega,Qb5];split
  .exact ih
  .exact Qvl x _ _ w y ih h0 n
theorem way_grow(x:Nwk){n:Nat}{p:Int}(h0:0<=p)(h1:p<n)(k:Nat): ∃r,(Qb5 x n p (k+1)).2=(Qb5 x n p k).2++r:=by
 rw[Qb5];split
 .exact⟨[],by simp⟩
 .rename_i u hu;exact (Qwk (Qnt (x:=x) h0 h1 k) hu n (Zap _)).2
theorem way_end(x:Nwk)(n:Nat)(p:Int): ∀(m k:Nat),(Qb5 x n p k).2.length<=k->Qb5 x n p (k+m)=Qb5 x n p k
 |0,k,_=>rfl
 |m+1,k,h=>by
  have h1:Qb5 x n p (k+1)=Qb5 x n p k:=by
   rw[Qb5,ZaY h]
  have h2:=way_end x n p m (k+1) (by rw[h1];omega);rw[show k+(m+1)=k+1+m by omega,h2,h1]
theorem Qzh(x:Nwk){n:Nat}{p:Int}(h0:0<=p)(h1:p<n): ∀(k:Nat) (j:Nat) (u:Int),j<k->(Qb5 x n p k).2[j]? =some u-> ∀v,v<n->Qp4 x u v=true-> ∃y,(Qb5 x n p k).1[v]? =some y/\0<=y
 |0,j,_,hj,_,_,_,_=>by omega
 |k+1,j,u,hj,hu,v,hv,hf=>by
  obtain⟨r,hr⟩:=way_grow x h0 h1 k;by_cases hjl:j<(Qb5 x n p k).2.length
  .rw[hr,Zav hjl] at hu;by_cases hjk:j<k
   .obtain⟨y,g1,g2⟩:=Qzh x h0 h1 k j u hjk hu v hv hf;exact⟨y,Qaa0 x n p v y g2 k g1 1,g2⟩
   .have:j=k:=by omega
    subst this;obtain⟨y,g1,g2⟩:=Qz6 (Qnt (x:=x) h0 h1 j) hu n (Zap _) v hv hf;exact⟨y,by rw[Qb5,hu];exact g1,g2⟩
  .have e:Qb5 x n p (k+1)=Qb5 x n p k:=by
    rw[Qb5,ZaY (by omega)]
   rw[e] at hu
   have:=(Zai.1 hu).1
   omega
def wayE(x:Nwk)(n:Nat)(p:Int):List Int×List Int:=Qb5 x n p n
theorem Qww(x:Nwk){n:Nat}{p:Int}(h0:0<=p)(h1:p<n){u v:Nat}{y:Int}(hu:(wayE x n p).1[u]? =some y)(hy:0<=y)(hv:v<n)(hf:Qp4 x u v=true): ∃z,(wayE x n p).1[v]? =some z/\0<=z:=by
 have hP:=Qnt (x:=x) h0 h1 n;have hm:=(hP.mem u y hu).1 hy;obtain⟨j,hj⟩:=ZaP.1 hm;have hl:=Qr3 hP;have hjl:=(Zai.1 hj).1;exact Qzh x h0 h1 n j u (by omega) hj v hv hf
def Qcg(par:List Int)(q:Int):Nat->Int
 |0=>q
 |k+1=>par[(Qcg par q k).toNat]?.getD 0
def Qpv(par:List Int)(p q:Int)(n:Nat):Nat:=((List.range (n+1)).find? fun k=>decide (Qcg par q k=p)).getD 0
def Qhr(par:List Int)(q:Int)(k:Nat):List Int:=(List.range (k+1)).map (Qcg par q)
def wayN(x:Nwk)(n:Nat)(p q:Int):List Int:=
 if (wayE x n p).1[q.toNat]?.getD 0<0 then [] else (Qhr (wayE x n p).1 q (Qpv (wayE x n p).1 p q n)).reverse
theorem Qkm{x:Nwk}{n:Nat}{p:Int}{s:List Int×List Int}(h:wayP x n p s){q:Int}{i:Nat}(hq:s.2[i]? =some q): ∀k,(∀j,j<k->Qcg s.1 q j≠p)-> ∃j,j+k<=i/\s.2[j]? =some (Qcg s.1 q k)
 |0,_=>⟨i,by omega,hq⟩
 |k+1,hne=>by
  obtain⟨j,h1,h2⟩:=Qkm h hq k (fun j hj=>hne j (by omega));have hj0:0<j:=by
   rcases Zdg j with h0|h0
   .subst h0;rw[h.hd] at h2;exact absurd (Zac h2).symm (hne k (by omega))
   .exact h0
  obtain⟨j',u,g1,g2,g3,g4⟩:=h.prev j _ h2 hj0;exact⟨j',by omega,by rw[Qcg,g3,Zag];exact g2⟩
theorem back_free{x:Nwk}{n:Nat}{p:Int}{s:List Int×List Int}(h:wayP x n p s){q:Int}{i:Nat}(hq:s.2[i]? =some q){k:Nat}(hne: ∀j,j<k+1->Qcg s.1 q j≠p):Qp4 x (Qcg s.1 q (k+1)) (Qcg s.1 q k)=true/\ ∃y,s.1[(Qcg s.1 q k).toNat]? =some y/\Qcg s.1 q (k+1)=y:=by
 obtain⟨j,h1,h2⟩:=Qkm h hq k (fun j hj=>hne j (by omega));have hj0:0<j:=by
  rcases Zdg j with h0|h0
  .subst h0;rw[h.hd] at h2;exact absurd (Zac h2).symm (hne k (by omega))
  .exact h0
 obtain⟨j',u,g1,g2,g3,g4⟩:=h.prev j _ h2 hj0;have e:Qcg s.1 q (k+1)=u:=by rw[Qcg,g3,Zag]
 exact⟨by rw[e];exact g4,u,g3,e⟩
theorem Qq3{x:Nwk}{n:Nat}{p:Int}{s:List Int×List Int}(h:wayP x n p s){q:Int}{i:Nat}(hq:s.2[i]? =some q): ∃d,d<=i/\Qcg s.1 q d=p/\ ∀j,j<d->Qcg s.1 q j≠p:=by
 have key: ∀m,(∃d,d<=m/\Qcg s.1 q d=p/\ ∀j,j<d->Qcg s.1 q j≠p)\/ ∀j,j<=m->Qcg s.1 q j≠p:=by
  intro m;induction m with
  |zero=>
   by_cases h0:Qcg s.1 q 0=p
   .exact .inl ⟨0,Zap _,h0,fun j hj=>by omega⟩
   .exact .inr fun j hj=>by rw[show j=0 by omega];exact h0
  |succ m ih=>
   rcases ih with ⟨d,h1,h2,h3⟩|ih
   .exact .inl ⟨d,by omega,h2,h3⟩
   .by_cases h0:Qcg s.1 q (m+1)=p
    .exact .inl ⟨m+1,Zap _,h0,fun j hj=>ih j (by omega)⟩
    .refine .inr fun j hj=> ?_
     by_cases hjm:j<=m
     .exact ih j hjm
     .rw[show j=m+1 by omega];exact h0
 rcases key i with h1|h1
 .exact h1
 .obtain⟨j,g1,g2⟩:=Qkm h hq (i+1) (fun j hj=>h1 j (by omega));omega
theorem Qqr{par:List Int}{p q:Int}{n d:Nat}(hd:d<=n)(h1:Qcg par q d=p)(h2: ∀j,j<d->Qcg par q j≠p):Qpv par p q n=d:=by
 have: ∀(m s:Nat),s<=d->d<s+m->((List.range' s m).find? fun k=>decide (Qcg par q k=p))=some d:=by
  intro m;induction m with
  |zero=>intro s h3 h4;omega
  |succ m ih=>
   intro s h3 h4;rw[List.range'_succ,Zem];by_cases hs:s=d
   .subst hs;simp[h1]
   .rw[show decide (Qcg par q s=p)=false from Zer (h2 s (by omega))];exact ih (s+1) (by omega) (by omega)
 rw[Qpv,Zed,this _ 0 (by omega) (by omega),Zag]
def revK(l:List Int):Nat->List Int
 |0=>l
 |i+1=>((revK l i).set i ((revK l i)[l.length - 1 - i]?.getD 0)).set (l.length - 1 - i) ((revK l i)[i]?.getD 0)
theorem Qnf(l:List Int): ∀i,(revK l i).length=l.length
 |0=>rfl
 |i+1=>by simp only[revK,ZbG,Qnf l i]
theorem Qaap(l:List Int): ∀i,2*i<=l.length-> ∀k,k<l.length->(revK l i)[k]? =if k<i\/l.length - i<=k then l[l.length - 1 - k]? else l[k]?
 |0,_,k,hk=>by simp only[revK];rw[Zaj (by omega)]
 |i+1,hi,k,hk=>by
  have ih:=Qaap l i (by omega);have hl:=Qnf l i;have g1:(revK l i)[l.length - 1 - i]?.getD 0=l[l.length - 1 - i]?.getD 0:=by rw[ih _ (by omega),Zaj (by omega)]
  have g2:(revK l i)[i]?.getD 0=l[i]?.getD 0:=by rw[ih _ (by omega),Zaj (by omega)]
  have gd: ∀j,j<l.length->some (l[j]?.getD 0)=l[j]? :=fun j hj=>by rw[Zad hj];rfl
  rw[revK,g1,g2];by_cases h1:l.length - 1 - i=k
  .subst h1;rw[ZaD (by rw[ZbG,hl];omega),Zao (by omega),gd _ (by omega)];congr 1;omega
  .rw[ZaF h1];by_cases h2:i=k
   .subst h2;rw[ZaD (by rw[hl];omega),Zao (by omega),gd _ (by omega)]
   .rw[ZaF h2,ih k hk];by_cases h3:k<i\/l.length - i<=k
    .rw[Zao h3,Zao (by omega)]
    .rw[Zaj h3,Zaj (by omega)]
theorem revK_end(l:List Int){i:Nat}(h1:2*i<=l.length)(h2:l.length<=2*i+1):revK l i=l.reverse:=by
 apply ZbM;intro k;by_cases hk:k<l.length
 .rw[Qaap l i h1 k hk,ZeW hk];by_cases h:k<i\/l.length - i<=k
  .rw[Zao h]
  .rw[Zaj h];congr 1;omega
 .rw[ZaY (by rw[Qnf];omega),ZaY (by rw[ZcZ];omega)]
theorem Qdj(l:List Int)(i:Nat)(x:Int):(l.map intC).set i [.int .i64 x]=(l.set i x).map intC:=by rw[ZcY];rfl
def revC.ca(_:List Int):List AV:=[.own 0]
def revC.H0(a:List Int):Qan:=[(0,(true,.arr 3 1 (a.map intC)))]
def revC.H1(a:List Int):Qan:=[(0,(true,.arr 3 1 (a.reverse.map intC)))]
def revC.row:Row:=orow revC.ca revC.H0 1 (fun _=>True) (fun j=>j==0) (fun _=> .im (.tup [])) revC.H1 0
theorem revC.ok:Qas Tryz.prog 185 revC.row:=by
 refine ow tN Tryz.func185 rfl (by kernel_rfl) (exB:=fun _=>false) (R:=fun _ r=>r= .im (.tup [])) (fun _=>rfl)
  (fun a=>by simp[revC.ca,revC.H0,revC.H1,belL,AV.bel,belH,Qam,Qc2,AObj.nms,nmsL,AV.nms,domB,hget]) (fun a p hp=> ?_) (fun a r h=>by subst h;exact LeV.refl _) ?_
 rotate_left
 intro a hpre;simp only[Tryz.f185,Option.getD,revC.ca,revC.H0,revC.H1];simp(maxSteps:=9^9)(disch:=omega)only[ZZ,simprocAttr,rch,ORB,revC.ca,revC.H0,revC.H1];intro hl0;rw[Qak (by omega) (by omega)];refine Qay.old ⟨{i:Nat//2*i<=a.length},fun i=>⟨[(2,.im (.int .i64 i.1)),(3,.im (.int .i64 ((a.length:Int) - 1 - i.1))),(0,.own 0)],[(0,(true,.arr 3 1 ((revK a i.1).map intC)))],1⟩,fun i=>a.length - i.1,fun i=>⟨by simp[Qad.good,belT,belH,Qam,AV.bel,belL],by simp⟩,⟨⟨0,by simp⟩,?_⟩,fun i=> ?_⟩
 .simp(maxSteps:=9^9)(disch:=omega)only[ZZ,simprocAttr,rch,ORB,revC.ca,revC.H0,revC.H1,sub];exact⟨by omega,by rw[revK]⟩
 obtain⟨i,hi⟩:=i;have hrl:=Qnf a i;simp(maxSteps:=9^9)(disch:=omega)only[ZZ,simprocAttr,rch,ORB,revC.ca,revC.H0,revC.H1,sub,Qal,hrl,Qdj,ZbG];refine⟨fun hi2=>⟨by omega,by omega,by omega,fun x hx=>⟨by omega,by omega,fun y hy=>⟨by omega,by omega,fun z hz=>⟨by omega,by omega,by omega,fun u hu=> ?_⟩⟩⟩⟩,fun hi2=> ?_⟩
 .refine⟨⟨i+1,by omega⟩,by simp only;omega,?_⟩;have w1:IntKind.i64.wrap ((a.length:Int) - 1 - i - 1)=(a.length:Int) - 1 - i - 1:=Qak (by omega) (by omega);have w2:IntKind.i64.wrap ((i:Int)+1)=(i:Int)+1:=Qak (by omega) (by omega);simp only[w1,w2];refine⟨⟨by omega,by omega⟩,?_⟩;simp only[revK];rw[show a.length - 1 - i=((a.length:Int) - 1 - i).toNat by omega,hx,hy];rfl
 .rw[revK_end a hi (by omega)]
 simp[revC.H1] at hp;subst hp;exact .inl ⟨by omega,rfl,rfl⟩
def clonC.ca(a:List Qab):List AV:=[.im (.sl false 3 (a.map Qab.c))]
def clonC.H1(a:List Qab):Qan:=[(0,(true,.arr 116 3 (a.map Qab.c)))]
def clonC.row:Row:=orow clonC.ca (fun _=>[]) 0 (fun a=>a.length<=1000000) (fun _=>false) (fun _=> .own 0) clonC.H1 20
theorem clonC.ok:Qas Tryz.prog 99 clonC.row:=by
 refine owN tN Tryz.func99 rfl (by kernel_rfl) (exB:=fun j=>j==0) (R:=fun _ r=>r= .own 0) (fun _=>rfl)
  (fun a=>by simp[clonC.ca,clonC.H1,belL,AV.bel,belH,Qam,Qc2,AObj.nms,nmsL,AV.nms,domB,hget]) (fun a p hp=> ?_) (fun a r h=>by subst h;exact LeV.refl _) ?_
 rotate_left
 intro a hpre;simp only[Tryz.f99,Option.getD,clonC.ca,clonC.H1];simp(maxSteps:=9^9)(disch:=omega)only[ZZ,simprocAttr,rch,Qc7,ORB,clonC.ca,clonC.H1];intro b hb;split
 .rename_i h;have h0:=hb h;refine⟨[],[(0,some 1)],⟨[(2,.own 0)],clonC.H1 a,1⟩,?_,by simp[clonC.H1,Qad.good,belT,belH,Qam,AV.bel,belL],by simp,?_⟩
  .simp only[subP,clonC.H1,h0];simp(maxSteps:=9^9)(disch:=omega)only[ZZ,simprocAttr,rch,Qc7,ORB,clonC.ca,clonC.H1,Zab,Zaa]
  .simp(maxSteps:=9^9)(disch:=omega)only[ZZ,simprocAttr,rch,Qc7,ORB,clonC.ca,clonC.H1]
 .refine⟨by omega,[],[(0,some 2)],⟨[(2,.own 0)],clonC.H1 a,1⟩,?_,by simp[clonC.H1,Qad.good,belT,belH,Qam,AV.bel,belL],by simp,?_⟩
  .simp only[subP,clonC.H1];simp(maxSteps:=9^9)(disch:=omega)only[ZZ,simprocAttr,rch,Qc7,ORB,clonC.ca,clonC.H1,Zab,Zaa]
  .simp(maxSteps:=9^9)(disch:=omega)only[ZZ,simprocAttr,rch,Qc7,ORB,clonC.ca,clonC.H1]
 simp[clonC.H1] at hp;subst hp;exact .inr ⟨by omega,by omega,rfl,rfl⟩
def clobC.ca(a:List Bond):List AV:=[.im (.sl false 3 (a.map Bond.c))]
def clobC.H1(a:List Bond):Qan:=[(0,(true,.arr 175 3 (a.map Bond.c)))]
def clobC.row:Row:=orow clobC.ca (fun _=>[]) 0 (fun a=>a.length<=1000000) (fun _=>false) (fun _=> .own 0) clobC.H1 20
theorem clobC.ok:Qas Tryz.prog 156 clobC.row:=by
 refine owN tN Tryz.func156 rfl (by kernel_rfl) (exB:=fun j=>j==0) (R:=fun _ r=>r= .own 0) (fun _=>rfl)
  (fun a=>by simp[clobC.ca,clobC.H1,belL,AV.bel,belH,Qam,Qc2,AObj.nms,nmsL,AV.nms,domB,hget]) (fun a p hp=> ?_) (fun a r h=>by subst h;exact LeV.refl _) ?_
 rotate_left
 intro a hpre;simp only[Tryz.f156,Option.getD,clobC.ca,clobC.H1];simp(maxSteps:=9^9)(disch:=omega)only[ZZ,simprocAttr,rch,Qc7,ORB,clobC.ca,clobC.H1];intro b hb;split
 .rename_i h;have h0:=hb h;refine⟨[],[(0,some 1)],⟨[(2,.own 0)],clobC.H1 a,1⟩,?_,by simp[clobC.H1,Qad.good,belT,belH,Qam,AV.bel,belL],by simp,?_⟩
  .simp only[subP,clobC.H1,h0];simp(maxSteps:=9^9)(disch:=omega)only[ZZ,simprocAttr,rch,Qc7,ORB,clobC.ca,clobC.H1,Zab,Zaa]
  .simp(maxSteps:=9^9)(disch:=omega)only[ZZ,simprocAttr,rch,Qc7,ORB,clobC.ca,clobC.H1]
 .refine⟨by omega,[],[(0,some 2)],⟨[(2,.own 0)],clobC.H1 a,1⟩,?_,by simp[clobC.H1,Qad.good,belT,belH,Qam,AV.bel,belL],by simp,?_⟩
  .simp only[subP,clobC.H1];simp(maxSteps:=9^9)(disch:=omega)only[ZZ,simprocAttr,rch,Qc7,ORB,clobC.ca,clobC.H1,Zab,Zaa]
  .simp(maxSteps:=9^9)(disch:=omega)only[ZZ,simprocAttr,rch,Qc7,ORB,clobC.ca,clobC.H1]
 simp[clobC.H1] at hp;subst hp;exact .inr ⟨by omega,by omega,rfl,rfl⟩
def freeC.fv(a:Nwk×Int×Int):Bool:=(Qp4) (a.1) (a.2.1) (a.2.2)
def freeC.row:Row:=vKF (b3 (qP 2 Nwk.d_le) qI qI) rB (fun a=>Qjx a.1 a.1.Room.length/\0<=a.2.1/\a.2.1<a.1.Room.length/\0<=a.2.2/\a.2.2<a.1.Room.length) freeC.fv
def freeC.q:=vKFq (R:=freeC.row) rfl
theorem freeC.ok:Qas Tryz.prog 184 freeC.row:=by
 refine vwF tN Tryz.func184 rfl (by kernel_rfl) ?_;intro a hpre;simp only[Tryz.f184,Option.getD];simp(maxSteps:=9^9)(disch:=omega)only[ZZ,simprocAttr,rch,freeC.fv,ORC,D.sc,D.scs,scL,decD];obtain⟨h1,h2,h3,h4,h5⟩:=hpre;have hf:=h1.f;refine⟨h2,h3,fun r hr=>⟨h4,by rw[h1.rr r (Zaf hr)];exact h5,fun x hx=>⟨h2,by omega,fun s hs=>⟨h4,by rw[h1.ff s (Zaf hs)];exact h5,fun y hy=> ?_⟩⟩⟩⟩;simp only[Qp4,Qyw,Qzr,hr,hs,hx,hy,Zag]
def wayD:D->Option (List Int)
 | .sl true _ rows=>decR intD rows
 | .sl false _ (r::rows)=>decR intD (r::rows)
 |_=>none
theorem wayD_le: ∀d x,wayD d=some x->Le d (.sl true 1 (x.map intC)):=by
 intro d x h;unfold wayD at h;split at h
 .rename_i k rows;have h1:=Qbf (nz:=true) (k:=k) (Qa2 Qb3 _ _ h) (k':=1) (by simp[intC]);intro ok hp v hv;have h2:=h1 ok hp v hv;simp only[Ae.rd] at h2 hv⊢;rcases h2 with h2|⟨b,p,cap,vs,T,fr,g1,g2,g3,g4,g5,g6,g7⟩
  .rcases hv with ⟨q1,q2⟩|⟨b',p',cap',vs',T',fr',q1,q2,q3,q4,q5,q6,q7⟩
   .exact .inl ⟨q1,h2.2⟩
   .obtain⟨ao,e⟩:=Qoc h2.1;rw[e] at q1;simp only[Value.slice.injEq] at q1;exact absurd (ZbS.1 q1.2.1.symm) (q2 trivial)
  .rcases hv with ⟨q1,q2⟩|⟨b',p',cap',vs',T',fr',q1,q2,q3,q4,q5,q6,q7⟩
   .rw[Qr7 q1] at g1;cases g1
   .refine .inr ⟨b,p,cap,vs,T,fr,g1,fun _ h0=> ?_,g3,g4,g5,g6,g7⟩;rw[q1] at g1;simp only[Value.slice.injEq] at g1;rw[h0,ZbB] at g1;exact q2 trivial (ZbS.1 g1.2.1)
 .rename_i k r rows;have h1:=Qbf (nz:=false) (k:=k) (Qa2 Qb3 _ _ h) (k':=1) (by simp[intC]);intro ok hp v hv;have h2:=h1 ok hp v hv;simp only[Ae.rd] at h2 hv⊢;rcases h2 with h2|⟨b,p,cap,vs,T,fr,g1,g2,g3,g4,g5,g6,g7⟩
  .rcases hv with ⟨q1,q2⟩|⟨b',p',cap',vs',T',fr',q1,q2,q3,q4,q5,q6,q7⟩
   .cases q2
   .obtain⟨ao,e⟩:=Qoc h2.1;rw[e] at q1;simp only[Value.slice.injEq,ZaE] at q1;omega
  .rcases hv with ⟨q1,q2⟩|⟨b',p',cap',vs',T',fr',q1,q2,q3,q4,q5,q6,q7⟩
   .cases q2
   .refine .inr ⟨b,p,cap,vs,T,fr,g1,fun _ h0=> ?_,g3,g4,g5,g6,g7⟩;rw[q1] at g1;simp only[Value.slice.injEq,ZaE] at g1;rw[h0,ZbB] at g1;omega
 .cases h
theorem Qot(n:Nat)(x:Int):List.replicate n [D.int .i64 x]=(List.replicate n x).map intC:=by rw[List.map_replicate];rfl
theorem wayD_map{k:Nat}{l:List Int}(h:l≠[]):wayD (.sl false k (l.map intC))=some l:=by
 cases l with
 |nil=>exact absurd rfl h
 |cons x r=>exact Qmp (x::r)
def dI(v:Int):D:= .int .i64 v
theorem rept.H0_dom(a:Int×Int)(j:Nat):domB (rept.H0 a) j=true↔j<1:=by
 simp only[domB,rept.H0,hget];by_cases h0:j=0
 .subst h0;simp
 .have e0:(0==j)=false:=by simp;omega
  simp[e0];omega
theorem revC.H0_dom(a:List Int)(j:Nat):domB (revC.H0 a) j=true↔j<1:=by
 simp only[domB,revC.H0,hget];by_cases h0:j=0
 .subst h0;simp
 .have e0:(0==j)=false:=by simp;omega
  simp[e0];omega
theorem CYc:Qp9 Tryz.prog 249=some 3:=by kernel_rfl
def wayC.rc:D->Option (List Int):=wayD
def wayC.re:(List Int)->D:=fun b=>D.sl true 1 (b.map intC)
theorem wayC.rle: ∀d b,wayC.rc d=some b->Le d (wayC.re b):=wayD_le
def wayC.fv(a:Nwk×Int×Int):List Int:=(fun x p q=>wayN x x.Room.length p q) (a.1) (a.2.1) (a.2.2)
def wayC.row:Row:=vKF (b3 (qP 2 Nwk.d_le) qI qI) (RK.mk wayC.rc wayC.re wayC.rle) (fun a=>Qjx a.1 a.1.Room.length/\a.1.Room.length<=1000/\0<=a.2.1/\a.2.1<a.1.Room.length/\0<=a.2.2/\a.2.2<a.1.Room.length) wayC.fv
def wayC.q:=vKFq (R:=wayC.row) rfl
def Yas:=J @wayC.fv.eq_1<|J @wayC.rc.eq_1<|J @freeC.q @freeC.fv.eq_1
theorem wayC.ok:Qas Tryz.prog 177 wayC.row:=by
 refine vwF (tC freeC.ok (tC rept.ok (tC revC.ok tN))) Tryz.func177 rfl (by kernel_rfl) ?_;intro a hpre;simp only[Tryz.f177,Option.getD];simp(maxSteps:=9^9)(disch:=omega)only[ZZ,simprocAttr,rch,Yas,ORC,D.sc,D.scs,scL,decD];obtain⟨hok,hn,hp0,hp1,hq0,hq1⟩:=hpre;obtain⟨x,hx⟩: ∃x,x=a.1:=⟨_,rfl⟩;obtain⟨p,hp⟩: ∃p,p=a.2.1:=⟨_,rfl⟩;obtain⟨q,hq⟩: ∃q,q=a.2.2:=⟨_,rfl⟩;obtain⟨n,hnn⟩: ∃n,n=x.Room.length:=⟨_,rfl⟩;simp only[<-hx,<-hp,<-hq,<-hnn] at hok hn hp0 hp1 hq0 hq1⊢;intro hl0;refine orow.os (-1,(n:Int)) [1] ⟨by simp only;omega,by simp only;omega⟩ (fun j=>rept.H0_dom _ j) rfl rfl ?_ ?_
 .simp(maxSteps:=9^9)(disch:=omega)only[ZZ,simprocAttr,rch,Yas,ORC,D.sc,D.scs,scL,decD,CYc,rept.ca,rept.H0,ZaQ,Zak]
 simp(maxSteps:=9^9)(disch:=omega)only[ZZ,simprocAttr,rch,Yas,ORC,D.sc,D.scs,scL,decD,CYc,rept.H1,sub,Zam,ZbC,Qdj,Qot];refine⟨by omega,by omega,hp0,hp1,by omega,fun _ _=> ?_⟩;refine Qay.old ⟨{k:Nat//k<=(Qb5 x n p k).2.length},fun k=>⟨[(9,.ch 22),(8,.own 2),(7,.im (.int .i64 n)),(0,.ptr 0 0),(1,.im (.int .i64 p)),(2,.im (.int .i64 q))],[(2,(true,.arr 3 1 ((Qb5 x n p k.1).1.map intC))),(22,(true,.chan (((Qb5 x n p k.1).2.drop k.1).map dI) n)),(0,(false,.view [.sl false 1 (x.Room.map Qcd),.sl false 1 (x.Flow.map Qcd)]))],23⟩,fun k=>n - k.1,fun k=>⟨by simp[Qad.good,belT,belH,Qam,AV.bel,belL],by simp⟩,⟨⟨0,by simp⟩,?_⟩,fun k=> ?_⟩
 .simp(maxSteps:=9^9)(disch:=omega)only[ZZ,simprocAttr,rch,Yas,ORC,D.sc,D.scs,scL,decD,CYc,sub];simp[Qb5,dI]
 obtain⟨k,hk⟩:=k;have hP:=Qnt (x:=x) hp0 hp1 k;have hle:=Qr3 hP;simp(maxSteps:=9^9)(disch:=omega)only[ZZ,simprocAttr,rch,Yas,ORC,D.sc,D.scs,scL,decD,CYc,sub,Qal,Zbr,ZaH];refine⟨fun hk2=> ?_,fun hk2=> ?_⟩
 .have hk3:k<(Qb5 x n p k).2.length:=by omega
  obtain⟨u,hu⟩: ∃u,(Qb5 x n p k).2[k]? =some u:=⟨_,Zad hk3⟩;have hub:=hP.q u (Zaf hu);rw[Qd3 hu];refine⟨by simp,fun d r hdr=> ?_⟩;simp only[Zaq,Zdj] at hdr;obtain⟨rfl,rfl⟩:=hdr;simp only[dI];obtain⟨s,hs⟩: ∃s,s=Qb5 x n p k:=⟨_,rfl⟩;simp only[<-hs] at hu hP⊢;refine Qay.old ⟨{i:Nat//i<=n},fun i=>⟨[(36,.im (.int .i64 i.1)),(35,.im (.int .i64 n)),(10,.im (.int .i64 u)),(9,.ch 22),(8,.own 2),(7,.im (.int .i64 n)),(0,.ptr 0 0),(1,.im (.int .i64 p)),(2,.im (.int .i64 q))],[(2,(true,.arr 3 1 ((wayI x u s i.1).1.map intC))),(22,(true,.chan (((wayI x u s i.1).2.drop (k+1)).map dI) n)),(0,(false,.view [.sl false 1 (x.Room.map Qcd),.sl false 1 (x.Flow.map Qcd)]))],23⟩,fun i=>n - i.1,fun i=>⟨by simp[Qad.good,belT,belH,Qam,AV.bel,belL],by simp⟩,⟨⟨0,by simp⟩,?_⟩,fun i=> ?_⟩
  .simp(maxSteps:=9^9)(disch:=omega)only[ZZ,simprocAttr,rch,Yas,ORC,D.sc,D.scs,scL,decD,CYc,sub,wayI]
  obtain⟨i,hi⟩:=i;obtain⟨hQ,e,he⟩:=Qwk hP hu i hi;have hqle:=Qr3 hQ;have hql:=hQ.len;simp(maxSteps:=9^9)(disch:=omega)only[ZZ,simprocAttr,rch,Yas,ORC,D.sc,D.scs,scL,decD,CYc,sub,Qal,Zbr,ZaH,hql,Qdj];refine⟨fun hi2=>⟨by omega,by omega,fun y hy=>⟨fun hy0=>⟨⟨hnn▸hok,hub.1,by omega,by omega⟩,fun hf=>⟨by omega,by omega,fun y2 _=>⟨by omega,⟨i+1,by omega⟩,by simp only;omega,by rw[Qak (by omega) (by omega)];simp only;omega,?_⟩⟩,fun hf=>⟨⟨i+1,by omega⟩,by simp only;omega,by rw[Qak (by omega) (by omega)];simp only;omega,?_⟩⟩,fun hy0=>⟨⟨i+1,by omega⟩,by simp only;omega,by rw[Qak (by omega) (by omega)];simp only;omega,?_⟩⟩⟩,fun hi2=> ?_⟩
  .have e1:wayI x u s (i+1)=((wayI x u s i).1.set i u,(wayI x u s i).2++[(i:Int)]):=by
    rw[wayI,way1,Zao ⟨by rw[hy,Zag];exact hy0,hf⟩]
   have hk4:=(Zai.1 hu).1;simp only[e1];refine⟨trivial,?_⟩;rw[Zdo (by rw[he,Zaz];omega),ZaT];rfl
  .have e1:wayI x u s (i+1)=wayI x u s i:=by
    rw[wayI,way1,Zaj (fun h=>hf h.2)]
   simp only[e1];exact⟨trivial,trivial⟩
  .have e1:wayI x u s (i+1)=wayI x u s i:=by
    rw[wayI,way1,Zaj (fun h=>hy0 (by have:=h.1;rw[hy,Zag] at this;exact this))]
   simp only[e1];exact⟨trivial,trivial⟩
  .have hin:i=n:=by omega
   have e1:Qb5 x n p (k+1)=wayI x u s i:=by rw[Qb5,<-hs,hu,hin]
   refine⟨⟨k+1,by rw[e1,he,Zaz];have:=(Zai.1 hu).1;omega⟩,by simp only;omega,?_⟩;simp only[e1];exact⟨trivial,trivial⟩
 .have hkl:(Qb5 x n p k).2.length=k:=by omega
  have hE:Qb5 x n p k=wayE x n p:=by
   have:=way_end x n p (n - k) k (by omega)
   rw[show k+(n - k)=n by omega] at this;exact this.symm
  have hlen:=hP.len;refine⟨hq0,by omega,by omega,fun y hy=>⟨fun hy0=> ?_,fun hy0=> ?_⟩⟩
  .simp only[wayN,<-hE,hy,Zag];rw[Zao hy0];rfl
  have hqm:q∈(Qb5 x n p k).2:=by
   have:=(hP.mem q.toNat y hy).1 (by omega)
   rwa [show (q.toNat:Int)=q by omega] at this
  obtain⟨i,hi⟩:=ZaP.1 hqm;obtain⟨d,hd1,hd2,hd3⟩:=Qq3 hP hi;have hil:=(Zai.1 hi).1;have hst:Qpv (Qb5 x n p k).1 p q n=d:=Qqr (by omega) hd2 hd3;have hW:wayN x n p q=(Qhr (Qb5 x n p k).1 q d).reverse:=by
   simp only[wayN,<-hE,hy,Zag];rw[Zaj hy0,hst]
  obtain⟨par,hpar⟩: ∃par,par=(Qb5 x n p k).1:=⟨_,rfl⟩;simp only[<-hpar] at hlen hd2 hd3 hW⊢;refine Qay.ren ⟨{j:Nat//j<=d},fun j=>⟨[(13,.im (.int .i64 (Qcg par q j.1))),(12,.own 24),(8,.own 2),(1,.im (.int .i64 p))],[(24,(true,.arr 3 1 ((Qhr par q j.1).map intC))),(2,(true,.arr 3 1 (par.map intC)))],25⟩,fun j=>d - j.1,fun j=>⟨by simp[Qad.good,belT,belH,Qam,AV.bel,belL],by simp⟩,⟨⟨0,by omega⟩,[(24,some 23)],?_⟩,fun j=> ?_⟩
  .simp only[subP];simp(maxSteps:=9^9)(disch:=omega)only[ZZ,simprocAttr,rch,Yas,ORC,D.sc,D.scs,scL,decD,CYc,Zab,Zaa];exact⟨rfl,rfl⟩
  obtain⟨j,hj⟩:=j;have hbl:(Qhr par q j).length=j+1:=by simp[Qhr]
  simp(maxSteps:=9^9)(disch:=omega)only[ZZ,simprocAttr,rch,Yas,ORC,D.sc,D.scs,scL,decD,CYc,sub,Qal,hbl];refine⟨fun hne=> ?_,fun hne=> ?_⟩
  .have hjd:j<d:=by
    rcases Zbp j d with h|h
    .exact h
    .exact absurd (by rw[show j=d by omega];exact hd2) hne
   obtain⟨j2,g1,g2⟩:=Qkm hP hi j (fun j' hj'=>by rw[<-hpar];exact hd3 j' (by omega));rw[<-hpar] at g2;have hb2:=hP.q _ (Zaf g2);refine⟨hb2.1,by omega,by omega,fun z hz=>⟨by omega,⟨j+1,by omega⟩,[(24,some 26)],by simp only;omega,?_⟩⟩;have e1:Qcg par q (j+1)=z:=by rw[Qcg,hz,Zag]
   have e2:Qhr par q (j+1)=Qhr par q j++[z]:=by
    simp only[Qhr];rw[Zen,ZaT,Zaq,ZaG,e1]
   simp only[subP];simp(maxSteps:=9^9)(disch:=omega)only[ZZ,simprocAttr,rch,Yas,ORC,D.sc,D.scs,scL,decD,CYc,Zab,Zaa,e1,e2,ZaT]
  .have hjd:j=d:=by
    have h1:=Zbc.1 hne;rcases Zbp j d with h|h
    .exact absurd h1 (hd3 j h)
    .omega
   subst hjd;refine orow.os (Qhr par q j) [24] trivial (fun i=>revC.H0_dom _ i) rfl rfl ?_ ?_
   .simp(maxSteps:=9^9)(disch:=omega)only[ZZ,simprocAttr,rch,Yas,ORC,D.sc,D.scs,scL,decD,CYc,revC.ca,revC.H0,ZaQ,Zak]
   .simp(maxSteps:=9^9)(disch:=omega)only[ZZ,simprocAttr,rch,Yas,ORC,D.sc,D.scs,scL,decD,CYc,revC.H1,sub,Zak];rw[hW];exact wayD_map (by simp[Qhr])
def bytC(n:Int):List D:=[.int .u8 n]
theorem Qarj(x:Int):(bytC x).length=1:=rfl
def bytD:List D->Option Int
 |[.int .u8 n]=>some n
 |_=>none
theorem Qaq6: ∀ds x,bytD ds=some x->LeS ds (bytC x):=by
 intro ds x h;unfold bytD at h;split at h
 .simp only[Zae] at h;subst h;exact⟨Le.refl _,trivial⟩
 .cases h
theorem bytD_c(x:Int):bytD (bytC x)=some x:=rfl
theorem bytD_R(l:List Int):decR bytD (l.map bytC)=some l:=Qb4 bytD_c l
structure Rnd where
 code:List Int
 at':Int
 seed:Int
def bytR(l:List Int):Prop:= ∀b∈l,0<=b/\b<=255
def okR(m:Int)(x:Rnd):Prop:=bytR x.code/\0<=x.at'/\x.at'<=m
theorem okR.mono{m n:Int}{x:Rnd}(h:okR m x)(hm:m<=n):okR n x:=⟨h.1,h.2.1,Int.le_trans h.2.2 hm⟩
def curR(x:Rnd):Int:=if x.at'<x.code.length then (x.code[x.at'.toNat]?).getD 0 else 0
def sdR(s b:Int):Int:=IntKind.u64.wrap (IntKind.u64.wrap (IntKind.u64.wrap (s*6364136223846793005)+IntKind.u64.wrap b)+1442695040888963407)
def topR(s:Int):Int:=IntKind.i64.wrap (andI .u64 (s.fdiv (2^min (40:Int).toNat IntKind.u64.bits)) 255)
def Qaqt(x:Rnd):Int×Rnd:=(if x.at'+1<=x.code.length then curR x else topR (sdR x.seed (curR x)),⟨x.code,x.at'+1,sdR x.seed (curR x)⟩)
theorem curR_b{m:Int}{x:Rnd}(h:okR m x):0<=curR x/\curR x<=255:=by
 simp only[curR];split
 .cases hx:x.code[x.at'.toNat]? with
  |none=>simp
  |some b=>exact h.1 b (Zaf hx)
 .simp
theorem and255(a:Int):0<=andI .u64 a 255/\andI .u64 a 255<=255:=by
 have h:(BitVec.ofInt IntKind.u64.bits a &&& BitVec.ofInt IntKind.u64.bits 255).toNat<=255:=by
  have e:IntKind.u64.bits=64:=rfl;rw[e];simp only[BitVec.toNat_and,BitVec.toNat_ofInt];rw[show ((255:Int) % ((2^64:Nat):Int)).toNat=255 by decide];exact Nat.and_le_right
 simp only[andI];have e:=wrapU (a:=(((BitVec.ofInt IntKind.u64.bits a &&& BitVec.ofInt IntKind.u64.bits 255).toNat:Nat):Int)) (by omega) (by omega);rw[e];omega
theorem nextR_b{m:Int}{x:Rnd}(h:okR m x):0<=(Qaqt x).1/\(Qaqt x).1<=255:=by
 simp only[Qaqt];split
 .exact curR_b h
 .have:=and255 ((sdR x.seed (curR x)).fdiv (2^min (40:Int).toNat IntKind.u64.bits))
  simp only[topR];rw[Qak (by omega) (by omega)];exact this
theorem nextR_ok{m:Int}{x:Rnd}(h:okR m x):okR (m+1) (Qaqt x).2:=by
 obtain⟨h1,h2,h3⟩:=h;exact⟨h1,by simp only[Qaqt];omega,by simp only[Qaqt];omega⟩
def Qaqd(x:Rnd)(n:Int):Int×Rnd:=if n<=1 then (0,x) else ((Qaqt x).1 % n,(Qaqt x).2)
theorem Qaqg(x:Rnd)(n:Int):0<=(Qaqd x n).1/\(1<=n->(Qaqd x n).1<n):=by
 simp only[Qaqd];split
 .exact⟨Zch _,fun h=>by omega⟩
 .exact⟨Int.emod_nonneg _ (by omega),fun _=>Int.emod_lt_of_pos _ (by omega)⟩
theorem Qaqf{m:Int}{x:Rnd}(h:okR m x)(n:Int):okR (m+1) (Qaqd x n).2:=by
 simp only[Qaqd];split
 .exact h.mono (by omega)
 .exact nextR_ok h
def rndC(x:Rnd):List AV:=[.im (.sl false 1 (x.code.map bytC)),.im (.int .i64 x.at'),.im (.int .u64 x.seed)]
def rndH(x:Rnd):Qan:=[(0,(true,.cells 94 (rndC x)))]
theorem Qaqe(x:Rnd)(j:Nat):domB (rndH x) j=true↔j<1:=by
 simp only[domB,rndH,hget];by_cases hj:j=0
 .subst hj;simp
 .have:(0==j)=false:=by simpa using fun h=>hj h.symm
  rw[this];simp;omega
def kn0(j:Nat):Bool:=j==0
def nxt_.ca(_:Rnd):List AV:=[.ptr 0 0]
def nxt_.H1(x:Rnd):Qan:=rndH (Qaqt x).2
def nxt_.row:Row:=orow nxt_.ca rndH 1 (fun x=>okR 1000000 x) kn0 (fun x=> .im (.int .i64 (Qaqt x).1)) nxt_.H1 0
theorem nxt_.ok:Qas Tryz.prog 54 nxt_.row:=by
 refine ow tN Tryz.func54 rfl (by kernel_rfl) (exB:=fun _=>false) (R:=fun x r=>r= .im (.int .i64 (Qaqt x).1)) (fun _=>rfl)
  (fun a=>by simp[nxt_.ca,rndH,rndC,nxt_.H1,kn0,belL,AV.bel,belH,Qam,Qc2,AObj.nms,nmsL,AV.nms,domB,hget]) (fun a p hp=> ?_) (fun a r h=>by subst h;exact LeV.refl _) ?_
 rotate_left
 intro a hpre;simp only[Tryz.f54,Option.getD,nxt_.ca,rndH,rndC,nxt_.H1,kn0];simp(maxSteps:=9^9)(disch:=omega)only[ZZ,simprocAttr,rch,ORB,nxt_.ca,rndH,rndC,nxt_.H1,kn0]
 .obtain⟨h1,h2,h3⟩:=hpre;have hw:IntKind.i64.wrap (a.at'+1)=a.at'+1:=Qak (by omega) (by omega);by_cases c:a.at'<a.code.length
  .rw[Zao c];refine⟨h2,c,fun x hx=> ?_⟩;have e:curR a=x:=by simp only[curR];rw[Zao c,hx];rfl
   have hx2:=h1 x (Zaf hx);have hwx:IntKind.i64.wrap x=x:=Qak (by omega) (by omega);simp only[bytC];simp(maxSteps:=9^9)(disch:=omega)only[ZZ,simprocAttr,rch,ORB,nxt_.ca,rndH,rndC,nxt_.H1,kn0,hw,hwx];simp only[Qaqt,e,sdR,topR];split
   .exact⟨rfl,trivial,trivial,trivial⟩
   .exact⟨rfl,trivial,trivial,trivial⟩
  .rw[Zaj c];have e:curR a=0:=by simp only[curR];rw[Zaj c]
   simp(maxSteps:=9^9)(disch:=omega)only[ZZ,simprocAttr,rch,ORB,nxt_.ca,rndH,rndC,nxt_.H1,kn0,hw];simp only[Qaqt,e,sdR,topR];split
   .exact⟨rfl,trivial,trivial,trivial⟩
   .exact⟨rfl,trivial,trivial,trivial⟩
 simp[nxt_.H1,rndH] at hp;subst hp;exact .inl ⟨by omega,rfl,rfl⟩
def pck_.ca(a:Rnd×Int):List AV:=[.ptr 0 0,.im (.int .i64 a.2)]
def pck_.H0(a:Rnd×Int):Qan:=rndH a.1
def pck_.H1(a:Rnd×Int):Qan:=rndH (Qaqd a.1 a.2).2
def pck_.row:Row:=orow pck_.ca pck_.H0 1 (fun a=>okR 900000 a.1/\a.2<=200) kn0 (fun a=> .im (.int .i64 (Qaqd a.1 a.2).1)) pck_.H1 0
theorem pck_.ok:Qas Tryz.prog 22 pck_.row:=by
 refine ow (tC nxt_.ok tN) Tryz.func22 rfl (by kernel_rfl) (exB:=fun _=>false) (R:=fun a r=>r= .im (.int .i64 (Qaqd a.1 a.2).1)) (fun _=>rfl)
  (fun a=>by simp[pck_.ca,pck_.H0,rndH,rndC,pck_.H1,kn0,belL,AV.bel,belH,Qam,Qc2,AObj.nms,nmsL,AV.nms,domB,hget]) (fun a p hp=> ?_) (fun a r h=>by subst h;exact LeV.refl _) ?_
 rotate_left
 intro a hpre;simp only[Tryz.f22,Option.getD,pck_.ca,pck_.H0,rndH,rndC,pck_.H1,kn0];simp(maxSteps:=9^9)(disch:=omega)only[ZZ,simprocAttr,rch,ORB,pck_.ca,pck_.H0,rndH,rndC,pck_.H1,kn0]
 .obtain⟨h1,h2⟩:=hpre;by_cases c:a.2<=1
  .rw[Zao c];simp only[Qaqd];rw[Zao c];exact⟨rfl,rfl,rfl,rfl⟩
  .rw[Zaj c];refine orow.os a.1 [0] (h1.mono (by omega)) (fun j=>Qaqe _ j) rfl rfl ?_ ?_
   .simp(maxSteps:=9^9)(disch:=omega)only[ZZ,simprocAttr,rch,ORB,pck_.ca,pck_.H0,rndH,rndC,pck_.H1,kn0,nxt_.ca,rndH,rndC,ZaQ,Zak]
    try exact⟨rfl,rfl⟩
   have hp2:Qaqd a.1 a.2=((Qaqt a.1).1 % a.2,(Qaqt a.1).2):=Zaj c;have hb:=nextR_b h1;simp(maxSteps:=9^9)(disch:=omega)only[ZZ,simprocAttr,rch,ORB,pck_.ca,pck_.H0,rndH,rndC,pck_.H1,kn0,nxt_.H1,rndH,rndC,kn0,sub,Zak,hp2];rw[Zaj (by omega)];exact⟨by omega,Zck hb.1⟩
 simp[pck_.H1,rndH] at hp;subst hp;exact .inl ⟨by omega,rfl,rfl⟩
def one_.H1(a:Rnd×Int):Qan:=rndH (Qaqd a.1 a.2).2
def one_.row:Row:=orow pck_.ca pck_.H0 1 (fun a=>okR 900000 a.1/\a.2<=200) kn0 (fun a=> .im (.bool (decide ((Qaqd a.1 a.2).1=0)))) one_.H1 0
theorem one_.ok:Qas Tryz.prog 75 one_.row:=by
 refine ow (tC pck_.ok tN) Tryz.func75 rfl (by kernel_rfl) (exB:=fun _=>false) (R:=fun a r=>r= .im (.bool (decide ((Qaqd a.1 a.2).1=0)))) (fun _=>rfl)
  (fun a=>by simp[pck_.ca,pck_.H0,rndH,rndC,one_.H1,kn0,belL,AV.bel,belH,Qam,Qc2,AObj.nms,nmsL,AV.nms,domB,hget]) (fun a p hp=> ?_) (fun a r h=>by subst h;exact LeV.refl _) ?_
 rotate_left
 intro a hpre;simp only[Tryz.f75,Option.getD,pck_.ca,pck_.H0,rndH,rndC,one_.H1,kn0];simp(maxSteps:=9^9)(disch:=omega)only[ZZ,simprocAttr,rch,ORB,pck_.ca,pck_.H0,rndH,rndC,one_.H1,kn0]
 .obtain⟨h1,h2⟩:=hpre;refine orow.os a [0] ⟨h1,h2⟩ (fun j=>Qaqe _ j) rfl rfl ?_ ?_
  .simp(maxSteps:=9^9)(disch:=omega)only[ZZ,simprocAttr,rch,ORB,pck_.ca,pck_.H0,rndH,rndC,one_.H1,kn0,pck_.ca,pck_.H0,rndH,rndC,ZaQ,Zak]
   try exact⟨rfl,rfl⟩
  simp(maxSteps:=9^9)(disch:=omega)only[ZZ,simprocAttr,rch,ORB,pck_.ca,pck_.H0,rndH,rndC,one_.H1,kn0,pck_.H1,rndH,rndC,kn0,sub,Zak]
 simp[one_.H1,rndH] at hp;subst hp;exact .inl ⟨by omega,rfl,rfl⟩
def frm_.ca(l:List Int):List AV:=[.im (.sl false 1 (l.map bytC))]
def frm_.H1(l:List Int):Qan:=rndH ⟨l,0,0⟩
def frm_.row:Row:=orow frm_.ca (fun _=>[]) 0 (fun _=>True) (fun _=>false) (fun _=> .ptr 0 0) frm_.H1 5
theorem frm_.ok:Qas Tryz.prog 17 frm_.row:=by
 refine ow tN Tryz.func17 rfl (by kernel_rfl) (exB:=fun j=>j==0) (R:=fun _ r=>r= .ptr 0 0) (fun _=>rfl)
  (fun a=>by simp[frm_.ca,rndH,rndC,frm_.H1,belL,AV.bel,belH,Qam,Qc2,AObj.nms,nmsL,AV.nms,domB,hget]) (fun a p hp=> ?_) (fun a r h=>by subst h;exact LeV.refl _) ?_
 rotate_left
 intro a hpre;simp only[Tryz.f17,Option.getD,frm_.ca,rndH,rndC,frm_.H1];simp(maxSteps:=9^9)(disch:=omega)only[ZZ,simprocAttr,rch,ORB,frm_.ca,rndH,rndC,frm_.H1];simp[frm_.H1,rndH] at hp;subst hp;exact .inr ⟨by omega,by omega,rfl,rfl⟩
def digS(k:Int):ByteArray:=strI [48+k]
def dec_.fv(a:Int):ByteArray:=(digS) a
def dec_.row:Row:=vK (b1 qI) rT (fun a=>0<=a/\a<=9) dec_.fv
def dec_.q:=vKq (R:=dec_.row) rfl
theorem dec_.ok:Qas Tryz.prog 74 dec_.row:=by
 refine vw tN Tryz.func74 rfl (by kernel_rfl) ?_;intro a hpre;simp only[Tryz.f74,Option.getD];simp(maxSteps:=9^9)(disch:=omega)only[ZZ,simprocAttr,rch,dec_.fv];refine Qay.old ⟨{q:Nat//q<=1/\(a=0->q=0)},fun q=>⟨[(4,.im (.int .i64 (if q.1=0 then a else 0))),(3,.im (.str (if q.1=0 then ByteArray.empty else strI [48+a]))),(2,.im (.str ByteArray.empty)),(0,.im (.int .i64 a))],[],0⟩,fun q=>1 - q.1,fun q=>⟨by simp[Qad.good,belT,belH,Qam,AV.bel,belL],by simp⟩,⟨⟨0,by simp⟩,by simp(maxSteps:=9^9)(disch:=omega)only[ZZ,simprocAttr,rch,dec_.fv,sub];rfl⟩,fun q=> ?_⟩;obtain⟨q,hq1,hq2⟩:=q;have e1:a.tmod 10=a:=by rw[Zck hpre.1];omega
 have e2:a.tdiv 10=0:=by rw[Zdy hpre.1];omega
 have e3:IntKind.i64.wrap (48+a)=48+a:=Qak (by omega) (by omega);have e4:IntKind.u8.wrap (48+a)=48+a:=by
  unfold IntKind.wrap;have e:IntKind.u8.bits=8:=rfl;have e2:IntKind.u8.signed=false:=rfl;simp only[e,e2,Zbu,ZaB,Zby];omega
 rcases (by omega:q=0\/q=1) with rfl|rfl
 .simp(maxSteps:=9^9)(disch:=omega)only[ZZ,simprocAttr,rch,dec_.fv,sub,Qal,e1,e2,e3,e4];refine⟨fun h0=>⟨fun h=>by omega,fun _=>⟨?_,⟨1,by omega,fun h=>absurd h h0⟩,by simp,?_,?_⟩⟩,fun h0=> ?_⟩
  .show 1+0<=9223372036854775807;omega
  .exact Qak (by decide) (by decide)
  .show _++ByteArray.empty=_;simp
  .obtain rfl:a=0:=Zbc.1 h0;exact⟨fun _=>rfl,fun h=>absurd rfl h⟩
 .simp(maxSteps:=9^9)(disch:=omega)only[ZZ,simprocAttr,rch,dec_.fv,sub,Qal];refine⟨fun h=> ?_,fun h=>⟨fun h1=>by omega,fun _=> ?_⟩⟩
  .exact absurd (hq2 h) (by decide)
  .rfl
end Go.Ae
namespace Go.Ae
open Go Go.Proofs
section
variable {H:Type}{enc:TypeId×Value->H}{W:World}
theorem rds_byte{P:Program}{t:TypeId}(ht:P.underlying t=some (.int .u8)):Rds enc P W t bytC (fun n:Int=>0<=n/\n<=255):=by
 intro fuel cs x h _;obtain⟨n,rfl,_,hw⟩:=DataW.trod_int ht h;refine⟨n,⟨_,_,rfl,rfl,rfl⟩,?_⟩;simp only[Lit.wf,Zah,Zar] at hw;exact⟨hw.1,hw.2⟩
theorem rBytes:Rds enc Tryz.prog W 22 (fun l:List Int=>[.sl false 1 (l.map bytC)]) bytR:=
 rds_slice (c:=bytC) Tryz.underlying22 (by kernel_rfl) (by decide) (by decide+kernel) (fun _=>rfl) (rds_byte Tryz.underlying5)
end
end Go.Ae
