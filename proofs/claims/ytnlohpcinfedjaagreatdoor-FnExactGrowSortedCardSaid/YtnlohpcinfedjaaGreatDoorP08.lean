/- Lemmas. Conditions: none. -/
import Derived.Test.YtnlohpcinfedjaaGreatDoorP07
import Derived.ProofKit
import Derived.SizedLaws
import Derived.OpenShut
import Derived.Test.YtnlohpcinfedjaaGreatDoorRows
import Derived.Carry
import Derived.WalkKit
set_option linter.all false
set_option maxHeartbeats 8000000
set_option maxRecDepth 100000
namespace Go.Ae
open Go Go.Proofs
section
variable {H:Type}{enc:TypeId×Value->H}{P:Program}{W:World}
def Rds{H:Type}(enc:TypeId×Value->H)(P:Program)(W:World)(t:TypeId){α:Type}(c:α->List D)(Q:α->Prop):Prop:=
 ∀(fuel:Nat) (cs:List Value) (x:DataW H×List MemPlace),DataW.trod enc P W 0 (λ_=>true) true fuel t cs=some x->(x.1.weights P t).all (· <=reachBytes)=true->
  ∃y:α,rdl (λb=>b<W.heap.size) (λb=>W.heap[b]?) (c y) cs/\Q y
def Nj{t:TypeId}(G:P.underlying t=some (.int .i64)):Rds enc P W t (λn:Int=>[.int .i64 n]) (λ_=>True):=by
 intro z O x h _;obtain⟨n,rfl,_,_⟩:=DataW.trod_int G h;exact⟨n,⟨_,_,rfl,rfl,rfl⟩,trivial⟩
def Qzi{ok:Nat->Prop}{hp:Nat->Option Obj}: ∀(a:List D) (x:List Value) (y:List Value),rdl ok hp a x->rdp ok hp a (x++y)
 |[],x,y,z=>trivial
 |d::a,x,y,z=>by
  simp only[rdl] at z;obtain⟨v,r,rfl,G,O⟩:=z;exact⟨v,r++y,rfl,G,Qzi a r y O⟩
def pick{α:Type}{R:Nat->α->Prop}: ∀(n:Nat),(∀i,i<n-> ∃y,R i y)-> ∃l:List α,l.length=n/\ ∀i y,l[i]? =some y->R i y
 |0,_=>⟨[],rfl,λi y h=>by simp at h⟩
 |n+1,h=>by
  obtain⟨l,Q,Z⟩:=pick n (λi O=>h i (by omega));obtain⟨y,hy⟩:=h n (by omega);refine⟨l++[y],by simp[Q],λi z G=> ?_⟩;rcases FR i n with O|O
  .rw[F4 (by omega)] at G;exact Z i z G
  .rw[G6 (by omega)] at G
   have:i - l.length=0:=by
    rcases nX (i - l.length) with h0|h0
    .exact h0
    .rw[HK (by simp;omega)] at G;cases G
   rw[this] at G;obtain rfl:=AC G
   have:i=n:=by omega
   rw[this];exact hy
def Qz1{ok:Nat->Prop}{hp:Nat->Option Obj}{α:Type}{c:α->List D}{k:Nat}(G: ∀y,(c y).length=k): ∀(l:List α) (L:List Value),(∀i y,l[i]? =some y->rdp ok hp (c y) (L.drop (i*k)))->rdr ok hp k (l.map c) L
 |[],L,_=>trivial
 |y::r,L,h=>by
  refine⟨G y,?_,Qz1 G r (L.drop k) (λi z O=> ?_)⟩
  .have:=h 0 y rfl
   rwa [iH,Ie] at this
  .have:=h (i+1) z O
   rwa [EC,show k+i*k=(i+1)*k by rw[FB,Jm,nZ]]
def Qy9{a:Addr}{k:Nat}{cs:List Value}(hk:0<k)(h:W.cells? 0 a k=some cs):a.spot=none/\ ∃Z T fr,W.heap[a.block]? =some (.cells Z T fr)/\ ∃r,Z.toList.drop a.off=cs++r/\cs.length=k:=by
 unfold World.cells? at h;rw[Al (BV _)] at h;have hl:=mapM_some_length h;rw[FE] at hl;have hg: ∀i,i<k->W.cell? (a.add i)=cs[i]? :=λi Q=>mapM_some_get h i i (by rw[IH Q])
 have h0:=hg 0 hk;rw[BB (by omega)] at h0;have O:a.spot=none:=by
  cases hs:a.spot with
  |none=>rfl
  |some s=>
   exfalso
   have:(a.add 0).spot.isSome=true:=by
    unfold Addr.add
    split<;>simp_all
   unfold World.cell? at h0;split at h0
   .rw[Al this] at h0;cases h0
   .cases h0
 refine⟨O,?_⟩;obtain⟨b,off,sp⟩:=a;simp only at O;subst O;have z: ∀i,(⟨b,off,none⟩:Addr).add i=⟨b,off+i,none⟩:=λi=>Ow b off i
 rw[z] at h0;unfold World.cell? at h0;simp only at h0;split at h0
 .rename_i Z T fr hb;simp only[nY,Dp,CN] at h0;refine⟨Z,T,fr,hb,(Z.toList.drop off).drop k,?_,hl⟩;have G: ∀i,i<k->Z[off+i]? =cs[i]? :=by
   intro i Q
   have:=hg i Q
   rw[z] at this;simp only[World.cell?,hb,nY,Dp,CN] at this;exact this
  apply QM;intro i;rw[Jf,Hq];rcases FR i k with Q|Q
  .rw[F4 (by omega)];exact G i Q
  .rw[G6 (by omega),Jf,Jf,Hq];congr 1;show off+i=off+(k+(i - cs.length));omega
 .cases h0
def PC{t e:TypeId}{α:Type}{c:α->List D}{Q:α->Prop}{k:Nat}(ht:P.underlying t=some (.slice e))(hk:P.cellsOf e=k)(ah:0<k)(hb:1<=P.bytesOf e)(hc: ∀y,(c y).length=k)(h:Rds enc P W e c Q):
 Rds enc P W t (λl:List α=>[.sl false k (l.map c)]) (λl=> ∀y∈l,Q y):=by
 intro ax cs x hx hw;rcases DataW.trod_slice ht hx with ⟨rfl,rfl⟩|⟨a,len,cap,O,an,m,rfl,rfl,rfl,_,aq,_,az,ab,Z,_⟩
 .exact⟨[],⟨_,_,rfl,.inl ⟨.inl rfl,rfl⟩,rfl⟩,by simp⟩
 obtain⟨a0,Z⟩:=Z rfl;simp only[DataW.weights,ht,EE,nR,Bc,C7,Du] at hw;obtain⟨w1,w2,_⟩:=hw;have ai:len<=IN:=by
  have:=ZeA (O.length+an.length) hb
  simp only[reachBytes,IN] at w1⊢;omega
 by_cases af:cap=0
 .subst af
  have:len=0:=by omega
  subst this;exact⟨[],⟨_,_,rfl,.inl ⟨.inr ⟨rfl,a,rfl⟩,rfl⟩,rfl⟩,by simp⟩
 have ac: ∀i,i<cap-> ∃cs,W.cells? 0 (a.add (i*k)) k=some cs:=by
  intro i hi;rw[hk] at ab Z;rcases FR i len with h1|h1
  .have:=ab i h1
   rw[BB (by omega)] at this;cases hq:W.cells? 0 (a.add (i*k)) k with
   |none=>rw[hq] at this;cases this
   |some cs=>exact⟨cs,rfl⟩
  .have:=Z (i - len) (by omega)
   rw[show len+(i - len)=i by omega,BB (by omega)] at this;cases hq:W.cells? 0 (a.add (i*k)) k with
   |none=>rw[hq] at this;cases this
   |some cs=>exact⟨cs,rfl⟩
 obtain⟨ay,ag⟩:=ac 0 (by omega);obtain⟨am,vs,T,fr,G,_⟩:=Qy9 ah ag;have ak:a.spot=none:=by
  cases hs:a.spot with
  |none=>rfl
  |some s=>
   exfalso
   have:(a.add (0*k)).spot.isSome=true:=by
    unfold Addr.add
    split<;>simp_all
   rw[am] at this;cases this
 obtain⟨b,off,sp⟩:=a;simp only at ak;subst ak;have aa: ∀i,(⟨b,off,none⟩:Addr).add i=⟨b,off+i,none⟩:=λi=>Ow b off i
 rw[aa] at G;simp only at G;have au: ∀i,i<len-> ∃y:α,rdp (λb=>b<W.heap.size) (λb=>W.heap[b]?) (c y) ((vs.toList.drop off).drop (i*k))/\Q y:=by
  intro i hi;have h1:=ab i hi;rw[hk,BB (by omega)] at h1;cases hq:W.cells? 0 ((⟨b,off,none⟩:Addr).add (i*k)) k with
  |none=>rw[hq] at h1;cases h1
  |some ci=>
   rw[hq,G8] at h1;obtain⟨_,aw,T',ao,hh,r,hr,_⟩:=Qy9 ah hq;rw[aa] at hh hr;simp only at hh hr;rw[G] at hh;obtain⟨rfl,rfl,rfl⟩:vs=aw/\T=T'/\fr=ao:=by
    have:=AC hh
    simp only[Obj.cells.injEq] at this;exact this
   have av:(O[i].1.weights P e).all (· <=reachBytes)=true:=by
    rw[Fk] at w2⊢;intro n hn;refine w2 n ?_
    have: ∀(l:List (DataW H)) (d:DataW H),d∈l-> ∀n∈d.weights P e,n∈DataW.weightsAll P e l:=by
     intro l;induction l with
     |nil=>intro d hd;cases hd
     |cons z r ih=>
      intro d hd n hn;simp only[DataW.weightsAll,B2];rcases Bw.1 hd with rfl|hd
      .exact .inl hn
      .exact .inr (ih d hd n hn)
    exact this _ O[i].1 (BF.2 ⟨O[i],RS _,rfl⟩) n hn
   obtain⟨y,g1,g2⟩:=h m ci O[i] h1 av;refine⟨y,?_,g2⟩;rw[EC,hr];exact Qzi _ _ _ g1
 obtain⟨l,hl,aj⟩:=pick (R:=λi y=>rdp (λb=>b<W.heap.size) (λb=>W.heap[b]?) (c y) ((vs.toList.drop off).drop (i*k))/\Q y) len au;have ad:b<W.heap.size:=by
  rcases FR b W.heap.size with h|h
  .exact h
  .rw[XR h] at G;cases G
 refine⟨l,⟨_,_,rfl,.inr ⟨b,off,cap,vs,T,fr,by rw[Du,hl],by simp,by rw[Du,hl];exact aq,by rw[Du,hl];exact ai,ad,G,Qz1 hc l _ (λi y hy=>(aj i y hy).1)⟩,rfl⟩,λy hy=> ?_⟩;obtain⟨i,hi⟩:=List.getElem?_of_mem hy;exact (aj i y hi).2
end
section
variable {H:Type}{enc:TypeId×Value->H}{W:World}
def dA:Rds enc Tryz.prog W 22 (λl:List Int=>[.sl false 1 (l.map Af)]) (λl=> ∀y∈l,True):=
 PC (c:=Af) Tryz.underlying22 (by kernel_rfl) (by decide) (by decide+kernel) (λ_=>rfl) (Nj Tryz.underlying2)
end
end Go.Ae
namespace Go.Ae
open Go Go.Proofs Go.RowKit
def xN(W:World):Ay:=⟨λ_=>none,λb=>b<W.heap.size,λ_=>none,W⟩
def xM(W:World):Ba:=Ba.mk0 W (λ_=>False) (λb=>b<W.heap.size)
def wf0(W:World)(G:GP (λb=>b<W.heap.size) (λb=>W.heap[b]?)):Wf (xM W) (xN W):=
 ⟨rfl,rfl,rfl,AU _,AU _,λ_ _ _=>rfl,λ_ h=>h,λ_ h=> .inl h,λ_ h=>h,λo e h=>(by cases h),λo e l h=>(by cases h),λo o' e e' l l' h=>(by cases h),G.mono λ_ _ z O=>⟨⟨z,λh=>h.elim⟩,O⟩⟩
def Sp{P:Program}{g:FuncId}{row:AG}(Q:H6 P g row){W:World}(hg:GP (λb=>b<W.heap.size) (λb=>W.heap[b]?)){args:Array Value}{ds:List D}(O:row (ds.map .im) (λ_=>none) 0 (λr _=>r= .im (.bool true)))
 (G:rdl (λb=>b<W.heap.size) (λb=>W.heap[b]?) ds args.toList):Calls P g args W λe W'=>e= .returned (.bool true)/\Below W.heap.size W W':=by
 obtain⟨_,r,E,hT,rfl⟩:=Q _ _ _ _ O;refine hT (xM W) (xN W) args _ (wf0 W hg) (λ_ _=>rfl) (λ_ _=>rfl) (λn e h=>(by cases h)) ((IQ _ _).2 G) ?_;intro v S' z _ _ Z;simp only[Aa,rd] at Z;subst Z;exact⟨rfl,z.os,z.tape,z.output,z.size,λk hk=>z.keep k hk (λh=>h)⟩
end Go.Ae
namespace Go.Ae
mutual
def HN:AV->Bool
 | .im d=>d.sc
 | .own _=>true
 | .agg z=>E9 z
 | .tup z=>E9 z
 | .any| .ptr _ _| .eptr _ _ _| .mp _| .ch _| .it _| .osl _ _ _| .clo _ _ _=>false
def E9:List AV->Bool
 |[]=>true
 |x::r=>HN x && E9 r
end
def IM:Ah->Bool
 | .arr _ _ rows=>rows.all λr=>r.all D.sc
 | .arrA _ _ rows=>rows.all E9
 | .cells _ z=>E9 z
 | .map _ _| .chan _ _| .iter _ _| .view _=>false
def Ky{m:Nat}: ∀{rows:List (List AV)},m∈B7 rows↔ ∃r∈rows,m∈Ax r
 |[]=>by simp[B7]
 |r::z=>by simp[B7,Ky (rows:=z)]
section
variable {S1 S':Ay}{F:Nat->Prop}
mutual
def dQ(Z: ∀n,F n->S'.h n=S1.h n)(hr: ∀n,F n->S'.ρ n=S1.ρ n): ∀(x:AV) (v:Value),HN x=true->(∀m∈x.nms,F m)->Aa S1 x v->Aa S' x v
 | .im d,v,z,_,G=>by
   simp only[Aa] at G⊢;exact Nc (by simpa[HN] using z) G
 | .own o,v,_,O,G=>by
   simp only[Aa] at G⊢;have h0:F o:=O o (by simp[AV.nms]);rw[Z o h0,hr o h0];exact G
 | .agg Q,v,z,O,G=>by
   simp only[Aa] at G⊢;obtain⟨vs,rfl,h⟩:=G;exact⟨vs,rfl,WN Z hr Q _ (by simpa[HN] using z) (by simpa[AV.nms] using O) h⟩
 | .tup Q,v,z,O,G=>by
   simp only[Aa] at G⊢;obtain⟨vs,rfl,h⟩:=G;exact⟨vs,rfl,WN Z hr Q _ (by simpa[HN] using z) (by simpa[AV.nms] using O) h⟩
 | .any,_,z,_,_| .ptr _ _,_,z,_,_| .eptr _ _ _,_,z,_,_| .mp _,_,z,_,_| .ch _,_,z,_,_| .it _,_,z,_,_| .osl _ _ _,_,z,_,_| .clo _ _ _,_,z,_,_=>by simp[HN] at z
def WN(O: ∀n,F n->S'.h n=S1.h n)(Z: ∀n,F n->S'.ρ n=S1.ρ n): ∀(xs:List AV) (vs:List Value),E9 xs=true->(∀m∈Ax xs,F m)->AR S1 xs vs->AR S' xs vs
 |[],vs,_,_,z=>by simpa only[AR] using z
 |x::r,vs,G,Q,z=>by
  simp only[AR] at z⊢;obtain⟨v,q,rfl,h1,h2⟩:=z;simp only[E9,Bc] at G;exact⟨v,q,rfl,dQ O Z x v G.1 (λm h=>Q m (by simp[Ax,h])) h1,WN O Z r q G.2 (λm h=>Q m (by simp[Ax,h])) h2⟩
end
def qE(O: ∀n,F n->S'.h n=S1.h n)(Z: ∀n,F n->S'.ρ n=S1.ρ n): ∀(xs:List AV) (vs:List Value),E9 xs=true->(∀m∈Ax xs,F m)->CA S1 xs vs->CA S' xs vs
 |[],vs,_,_,_=>trivial
 |x::r,vs,z,Q,G=>by
  simp only[CA] at G⊢;obtain⟨v,q,rfl,h1,h2⟩:=G;simp only[E9,Bc] at z;exact⟨v,q,rfl,dQ O Z x v z.1 (λm h=>Q m (by simp[Ax,h])) h1,qE O Z r q z.2 (λm h=>Q m (by simp[Ax,h])) h2⟩
def qD{k:Nat}(Q: ∀n,F n->S'.h n=S1.h n)(hr: ∀n,F n->S'.ρ n=S1.ρ n): ∀(z:List (List AV)) (vs:List Value),z.all E9=true->(∀r∈z,∀m∈Ax r,F m)->BG S1 k z vs->BG S' k z vs
 |[],vs,_,_,_=>trivial
 |r::z,vs,O,Z,G=>by
  simp only[BG] at G⊢;simp only[EE,Bc] at O;exact⟨G.1,qE Q hr r _ O.1 (Z r (BS ..)) G.2.1,qD Q hr z _ O.2 (λq hq=>Z q (BW _ hq)) G.2.2⟩
def Nh{ok ok':Nat->Prop}{hp hp':Nat->Option Obj}{k:Nat}: ∀(z:List (List D)) (vs:List Value),(z.all λr=>r.all D.sc)=true->rdr ok hp k z vs->rdr ok' hp' k z vs
 |[],_,_,_=>trivial
 |r::z,vs,O,G=>by
  simp only[rdr] at G⊢;simp only[EE,Bc] at O;exact⟨G.1,Ls r _ O.1 G.2.1,Nh z _ O.2 G.2.2⟩
def U6(hh: ∀n,F n->S'.h n=S1.h n)(hr: ∀n,F n->S'.ρ n=S1.ρ n)(hp:S'.hp=S1.hp)(l:Option FX): ∀(e:Ah),IM e=true->(∀m∈e.nms,F m)->Ap S1 l e->Ap S' l e
 | .arr T k rows,G,_,z=>by
   cases l with
   |none=>simpa only[Ap] using z
   |some lc=>
    simp only[Ap] at z⊢;obtain⟨O,Q,vs,Z,h4,h5⟩:=z;exact⟨O,Q,vs,by rw[hp];exact Z,h4,Nh _ _ G h5⟩
 | .arrA T k rows,G,hm,z=>by
   cases l with
   |none=>simpa only[Ap] using z
   |some lc=>
    simp only[Ap] at z⊢;obtain⟨O,Q,vs,Z,h4,h5⟩:=z;refine⟨O,Q,vs,by rw[hp];exact Z,h4,qD hh hr _ _ G (λr ab m aa=>hm m ?_) h5⟩;simp only[Ah.nms];exact Ky.2 ⟨r,ab,aa⟩
 | .cells T cs,G,hm,z=>by
   simp only[Ap] at z⊢;obtain⟨lc,vs,O,Q,Z,h4⟩:=z;exact⟨lc,vs,O,Q,by rw[hp];exact Z,WN hh hr _ _ G (λm h=>hm m (by simpa[Ah.nms] using h)) h4⟩
 | .map _ _,G,_,_| .chan _ _,G,_,_| .iter _ _,G,_,_| .view _,G,_,_=>by simp[IM] at G
end
def K4{A:Type}(ar:List PK->Option A)(pre:A->Prop)(r0:A->AV)(H1:A->Ar)(cnt nx:Nat)(u:List Nat)(K:Aj):Option (List PK)->Prop
 |some z=>EQ (λa=>pre a/\K ((r0 a).ren (Db (λj=>j) 0 nx)) {use:=u,new:=Bp (Db (λj=>j) 0 nx) (H1 a),cnt:=cnt}) (ar z)
 |none=>False
def Fm{A:Type}(ar:List PK->Option A)(pre:A->Prop)(r0:A->AV)(H1:A->Ar)(cnt:Nat):AG:=λargs h nx K=>K4 ar pre r0 H1 cnt nx (E7 h args) K (Cp h args)
def UK(ds:List D):List PK:=ds.map PK.val
def qH{S:Ay}: ∀(ds:List D) (vs:List Value),EV S (UK ds) vs->AR S (ds.map .im) vs
 |[],vs,h=>by simpa only[UK,Bg,EV,AR] using h
 |d::r,vs,h=>by
  simp only[UK,Bf,EV,AR] at h⊢;obtain⟨v,q,rfl,z,G⟩:=h;exact⟨v,q,rfl,by simpa only[Aa,I4] using z,qH r q G⟩
def Nk(σ:Nat->Nat): ∀(ds:List D),Bd σ (ds.map AV.im)=ds.map AV.im
 |[]=>rfl
 |d::r=>by simp only[Bf,Bd,AV.ren,Nk σ r]
mutual
def UW(σ:Nat->Nat): ∀x:AV,HN x=true->HN (x.ren σ)=true/\ ∀m∈(x.ren σ).nms,∃j∈x.nms,m=σ j
 | .im d,h=>⟨by simpa only[AV.ren] using h,by simp[AV.ren,AV.nms]⟩
 | .own o,_=>⟨by simp[AV.ren,HN],by simp[AV.ren,AV.nms]⟩
 | .agg z,h=>by
   obtain⟨G,O⟩:=Oa σ z (by simpa[HN] using h);exact⟨by simpa[AV.ren,HN] using G,by simpa[AV.ren,AV.nms] using O⟩
 | .tup z,h=>by
   obtain⟨G,O⟩:=Oa σ z (by simpa[HN] using h);exact⟨by simpa[AV.ren,HN] using G,by simpa[AV.ren,AV.nms] using O⟩
 | .any,h| .ptr _ _,h| .eptr _ _ _,h| .mp _,h| .ch _,h| .it _,h| .osl _ _ _,h| .clo _ _ _,h=>by simp[HN] at h
def Oa(σ:Nat->Nat): ∀xs:List AV,E9 xs=true->E9 (Bd σ xs)=true/\ ∀m∈Ax (Bd σ xs),∃j∈Ax xs,m=σ j
 |[],_=>⟨rfl,by simp[Bd,Ax]⟩
 |x::r,h=>by
  simp only[E9,Bc] at h;obtain⟨O,Q⟩:=UW σ x h.1;obtain⟨Z,h4⟩:=Oa σ r h.2;refine⟨by simp only[Bd,E9,O,Z,nU],λm z=> ?_⟩;simp only[Bd,Ax,B2] at z⊢;rcases z with z|z
  .obtain⟨j,G,e⟩:=Q m z;exact⟨j,.inl G,e⟩
  .obtain⟨j,G,e⟩:=h4 m z;exact⟨j,.inr G,e⟩
end
def Zn(σ:Nat->Nat): ∀e:Ah,IM e=true->IM (e.ren σ)=true/\ ∀m∈(e.ren σ).nms,∃j∈e.nms,m=σ j
 | .arr T k rows,h=>⟨by simpa only[Ah.ren] using h,by simp[Ah.ren,Ah.nms]⟩
 | .arrA T k rows,h=>by
   simp only[IM,Fk] at h;refine⟨?_,?_⟩
   .simp only[Ah.ren,IM,List.all_map,Fk];exact λr G=>(Oa σ r (h r G)).1
   .intro m z;simp only[Ah.ren,Ah.nms] at z⊢;obtain⟨q,hq,z⟩:=Ky.1 z;obtain⟨r,G,rfl⟩:=BF.1 hq;obtain⟨j,hj,e⟩:=(Oa σ r (h r G)).2 m z;exact⟨j,Ky.2 ⟨r,G,hj⟩,e⟩
 | .cells T O,h=>by
   obtain⟨Q,Z⟩:=Oa σ O (by simpa[IM] using h);exact⟨by simpa[Ah.ren,IM] using Q,by simpa[Ah.ren,Ah.nms] using Z⟩
 | .map _ _,h| .chan _ _,h| .iter _ _,h| .view _,h=>by simp[IM] at h
def VV{pk:(Nat->Option Au)->List AV->Option (List PK)}(be: ∀{C:Ba} {S:Ay} {h:Nat->Option Au},Wf C S-> ∀(xs:List AV) (ps:List PK) (vs:List Value),(∀m∈E7 h xs,S.h m=h m)->pk h xs=some ps->AR S xs vs->EV S.froz ps vs)
 {P:Program}{g:FuncId}{A:Type}{ag:A->List AV}{ca:A->List D}{pre:A->Prop}{klB:Nat->Bool}{r0:A->AV}{H1:A->Ar}{cnt:Nat}
 (av:GC P g=true)(bd:H6 P g (Az ag (λ_=>[]) 0 pre klB r0 H1 cnt))(au: ∀a,ag a=(ca a).map AV.im)
 {ar:List PK->Option A}(bc: ∀ps a,ar ps=some a->BY ps (UK (ca a)))
 (ay: ∀a,HN (r0 a)=true/\ ∀m∈(r0 a).nms,m<cnt)
 (hH1: ∀a,∀p∈H1 a,p.1<cnt/\p.2.1=true/\IM p.2.2=true/\ ∀m∈p.2.2.nms,m<cnt):
 H6 P g λargs h nx K=>K4 ar pre r0 H1 cnt nx (E7 h args) K (pk h args):=by
 intro args h nx K z;cases hp:pk h args with
 |none=>rw[hp] at z;exact z.elim
 |some ps=>
  rw[hp] at z;simp only[K4] at z;cases ha:ar ps with
  |none=>rw[ha] at z;exact z.elim
  |some a=>
   rw[ha] at z;simp only[EQ] at z;obtain⟨ax,hK⟩:=z;refine⟨Oy av,_,_,?_,hK⟩;intro C S vs RR hW az ab ac am ah;have bf:=be hW args ps vs.toList (λm hm=>az m (IG _ hm)) hp am;have a9:=nK hW;obtain⟨σ,hσ⟩: ∃σ:Nat->Nat,σ=Db (λj=>j) 0 nx:=⟨_,rfl⟩;have hσj: ∀j,σ j=nx+j:=λj=>by rw[hσ];simp[Db]
   rw[<-hσ] at ah;obtain⟨_,r,E,hT,rfl,rfl⟩:=bd (ag a) (λ_=>none) nx (λr E=>r=(r0 a).ren σ/\E={use:=[],kill:=[],new:=Bp σ (H1 a),cnt:=cnt})
    ⟨a,λj=>j,[],[],ax,by rw[au,Nk],trivial,⟨by simp[An,hget],by simp[An,hget],by simp[An,hget],by simp,by simp[An,hget]⟩,by rw[hσ],by rw[hσ]⟩
   have ba:AR S.froz (ag a) vs.toList:=by rw[au];exact qH _ _ ((bc ps a ha).c bf)
   refine hT (cI S) S.froz vs RR a9 (by simp) (λn hn=> ?_) (λn e Z m hm hF=> ?_) ba ?_
   .have:=ab n hn
    show (S.h n).map _=none;rw[this];rfl
   .obtain⟨e0,G,rfl⟩:=mI Z;exact ac n e0 G m hm hF
   intro v S1 Q bb _ aw;have ai: ∀n e,hget (Bp σ (H1 a)) n=some e->Fr nx cnt n/\e.1=true/\IM e.2=true/\ ∀m∈e.2.nms,Fr nx cnt m:=by
    intro n e Z;obtain⟨j,e0,G,O,rfl⟩:=vZ Z;obtain⟨g1,g2,g3,g4⟩:=hH1 a _ G;obtain⟨q1,q2⟩:=Zn σ e0.2 g3;refine⟨by rw[<-O,hσj];exact⟨by omega,by omega⟩,g2,q1,λm hm=> ?_⟩;obtain⟨i,hi,rfl⟩:=q2 m hm
    have:=g4 i hi
    rw[hσj];exact⟨by omega,by omega⟩
   have ao:S.w.heap.size<=S1.w.heap.size:=Q.size;have aa: ∀b,b<S.w.heap.size->S1.w.heap[b]? =S.w.heap[b]? :=λb hb=>Q.keep b hb (λh=>h)
   have aq: ∀n,Fr nx cnt n->S.h n=none:=ab
   let E':B4:={use:=E7 h args,kill:=[],new:=Bp σ (H1 a),cnt:=cnt}
   have aj: ∀n,E'.appf S.h n=match hget (Bp σ (H1 a)) n with
    |some e=>some e
    |none=>S.h n:=λn=>by simp only[E',B4.appf];rfl
   have a0: ∀n,S1.h n=match hget (Bp σ (H1 a)) n with
    |some e=>some e
    |none=>S.froz.h n:=λn=>by rw[bb];simp only[B4.appf];rfl
   let S':Ay:=⟨λn=>if nx<=n/\n<nx+cnt then S1.ρ n else S.ρ n,S.ok,E'.appf S.h,S1.w⟩
   have ak: ∀n,S'.h n=E'.appf S.h n:=λ_=>rfl
   have aF: ∀n,Fr nx cnt n->S'.h n=S1.h n:=by
    intro n hn;rw[ak,aj,a0];cases hget (Bp σ (H1 a)) n with
    |some e=>rfl
    |none=>
     show S.h n=(S.h n).map _;rw[aq n hn];rfl
   have aR: ∀n,Fr nx cnt n->S'.ρ n=S1.ρ n:=λn hn=>Al hn
   have oF: ∀n,¬Fr nx cnt n->S'.h n=S.h n:=by
    intro n hn;rw[ak,aj];cases hq:hget (Bp σ (H1 a)) n with
    |some e=>exact absurd (ai n e hq).1 hn
    |none=>rfl
   have oR: ∀n,¬Fr nx cnt n->S'.ρ n=S.ρ n:=λn hn=>Ag hn
   have hp':BA (λn=> ¬Fr nx cnt n) S S':=⟨λb hb=>⟨hb,aa b (hW.oks b hb)⟩,λo ho e' an=>⟨e',by rw[<-oF o ho];exact an,oR o ho,rfl,rfl⟩⟩;have nF: ∀n e,S.h n=some e-> ¬Fr nx cnt n:=λn e Z hn=>by rw[aq n hn] at Z;cases Z
   have split: ∀o e,S'.h o=some e->(Fr nx cnt o/\S1.h o=some e/\S'.ρ o=S1.ρ o/\e.1=true/\IM e.2=true/\ ∀m∈e.2.nms,Fr nx cnt m)\/(S.h o=some e/\S'.ρ o=S.ρ o):=by
    intro o e Z;by_cases hn:Fr nx cnt o
    .left;have G:S1.h o=some e:=by rw[<-aF o hn];exact Z
     have O:=Z;rw[ak,aj] at O;cases hq:hget (Bp σ (H1 a)) o with
     |some e1=>
      rw[hq] at O;obtain rfl:=AC O;exact⟨hn,G,aR o hn,(ai o _ hq).2⟩
     |none=>
      rw[hq] at O;exact absurd hn (nF o e O)
    .right;exact⟨by rw[<-oF o hn];exact Z,oR o hn⟩
   have af: ∀o e l,S1.h o=some e->S1.ρ o=some l->e.1=true->l.b<S1.w.heap.size/\S.w.heap.size<=l.b:=by
    intro o e l Z hl hm;obtain⟨O,h3⟩:=Q.loc o e l Z hl;rw[hm] at h3;simp only[Bb] at h3;exact⟨O,h3.2.elim (λh=>h) (λh=>h.elim)⟩
   have a8:Wf C S':=by
    refine⟨Q.os.trans hW.os,Q.tape.trans hW.tape,Q.output.trans hW.output,CW hW.dr Q.dr,CW hW.size ao,?_,hW.ok0,hW.ok1,λb hb=>FC (hW.oks b hb) ao,?_,?_,?_,hW.gl⟩
    .intro b hb hM;exact (aa b (FC hb hW.size)).trans (hW.keep b hb hM)
    .intro o e Z;rcases split o e Z with ⟨_,G,O,_,h4,h5⟩|⟨G,O⟩
     .rw[O];exact U6 aF aR rfl _ e.2 h4 h5 (Q.obj o e G)
     .rw[O];exact H9 hp' (λlc hl=>aa lc.b (hW.loc o e lc G hl).1) _ (λm hm hF=>ac o e G m hm hF) (hW.obj o e G)
    .intro o e l Z hl;rcases split o e Z with ⟨_,G,O,h3,_⟩|⟨G,O⟩
     .rw[O] at hl;obtain⟨b1,b2⟩:=af o e l G hl h3;refine⟨b1,?_⟩;rw[h3];simp only[Bb];exact⟨λhk=>by have:=hW.oks _ hk;omega,.inl (CW hW.size b2)⟩
     .rw[O] at hl;obtain⟨b1,b2⟩:=hW.loc o e l G hl;exact⟨FC b1 ao,b2⟩
    .intro o o' e e' l l' Z an hl ad hb hm;rcases split o e Z with ⟨_,G,O,h3,_⟩|⟨G,O⟩<;>rcases split o' e' an with ⟨_,k1,k2,k3,_⟩|⟨k1,k2⟩<;>rw[O] at hl<;>rw[k2] at ad
     .exact Q.inj o o' e e' l l' G k1 hl ad hb hm
     .have:=(af o e l G hl h3).2
      have:=(hW.loc o' e' l' k1 ad).1
      omega
     .have:=(af o' e' l' k1 ad k3).2
      have:=(hW.loc o e l G hl).1
      omega
     .exact hW.inj o o' e e' l l' G k1 hl ad hb hm
   obtain⟨q1,q2⟩:=UW σ (r0 a) (ay a).1;refine ah v S' a8 rfl hp' (dQ aF aR _ v q1 (λm hm=> ?_) aw);obtain⟨j,hj,rfl⟩:=q2 m hm
   have:=(ay a).2 j hj
   rw[hσj];exact⟨by omega,by omega⟩
def dT{P:Program}{g:FuncId}{A:Type}{z:A->List AV}{ca:A->List D}{pre:A->Prop}{klB:Nat->Bool}{r0:A->AV}{H1:A->Ar}{cnt:Nat}
 (G:GC P g=true)(Z:H6 P g (Az z (λ_=>[]) 0 pre klB r0 H1 cnt))(O: ∀a,z a=(ca a).map AV.im)
 {ar:List PK->Option A}(Q: ∀ps a,ar ps=some a->BY ps (UK (ca a)))
 (aa: ∀a,HN (r0 a)=true/\ ∀m∈(r0 a).nms,m<cnt)
 (hH1: ∀a,∀p∈H1 a,p.1<cnt/\p.2.1=true/\IM p.2.2=true/\ ∀m∈p.2.2.nms,m<cnt):
 H6 P g (Fm ar pre r0 H1 cnt):=VV (pk:=Cp) (λhW=>Qtx hW) G Z O Q aa hH1
def kL(h:Nat->Option Au):List AV->Option (List PK)
 |[]=>some []
 |x::r=>Gz (E6 (bk h 9 x)) (kL h r)
def VW{A:Type}(ar:List PK->Option A)(pre:A->Prop)(r0:A->AV)(H1:A->Ar)(cnt:Nat):AG:=λargs h nx K=>K4 ar pre r0 H1 cnt nx (E7 h args) K (kL h args)
def VW.os{A:Type}{ar:List PK->Option A}{pre:A->Prop}{r0:A->AV}{H1:A->Ar}{cnt:Nat}{args:List AV}{h:Nat->Option Au}{nx:Nat}{K:Aj}(ps:List PK)(G:kL h args=some ps)(a:A)(Q:ar ps=some a)(z:pre a)
 (O:K ((r0 a).ren (Db (λj=>j) 0 nx)) {use:=E7 h args,new:=Bp (Db (λj=>j) 0 nx) (H1 a),cnt:=cnt}):VW ar pre r0 H1 cnt args h nx K:=by
 unfold VW;rw[G];simp only[K4,Q,EQ];exact⟨z,O⟩
end Go.Ae
