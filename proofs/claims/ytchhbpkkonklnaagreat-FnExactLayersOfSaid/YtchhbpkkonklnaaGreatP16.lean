/- Lemmas for fnExactLayersOf_holds. Conditions: none. -/
import Derived.Test.YtchhbpkkonklnaaGreatP15
import Derived.Shelf.SortM.Plain
import Derived.Shelf.SortM.SortNone
set_option linter.all false
set_option maxHeartbeats 8000000
set_option maxRecDepth 100000
namespace Go.Proofs
open Go.Shelf
def Tryz.sortI_ren:Go.Shelf.Ren:=⟨fun|5=>68|8=>105|7=>104|19=>141|20=>142|10=>132|11=>133|12=>134|13=>135|14=>136|15=>137|16=>138|17=>139|18=>140|30=>159|31=>160|32=>161|33=>162|34=>163|35=>164|40=>182|n=>n,fun|23=>51|25=>2|3=>3|32=>157|22=>51|0=>0|44=>205|46=>207|4=>4|36=>199|35=>198|41=>146|5=>5|9=>9|53=>220|57=>224|63=>243|64=>244|n=>n,fun|n=>n⟩
theorem Tryz.sortI:Go.Proofs.SlLaysM.n5 Tryz.prog Tryz.sortI_ren:={
 mixed:=by kernel_rfl
 f5:=⟨Tryz.f68.name,by decide,Tryz.func68.trans (ZbH some (by kernel_rfl))⟩
 f7:=⟨Tryz.f104.name,by decide,Tryz.func104.trans (ZbH some (by kernel_rfl))⟩
 f8:=Tryz.func105.trans (ZbH some (by kernel_rfl))
 f10:=⟨Tryz.f132.name,by decide,Tryz.func132.trans (ZbH some (by kernel_rfl))⟩
 f11:=⟨Tryz.f133.name,by decide,Tryz.func133.trans (ZbH some (by kernel_rfl))⟩
 f12:=⟨Tryz.f134.name,by decide,Tryz.func134.trans (ZbH some (by kernel_rfl))⟩
 f13:=⟨Tryz.f135.name,by decide,Tryz.func135.trans (ZbH some (by kernel_rfl))⟩
 f14:=⟨Tryz.f136.name,by decide,Tryz.func136.trans (ZbH some (by kernel_rfl))⟩
 f15:=⟨Tryz.f137.name,by decide,Tryz.func137.trans (ZbH some (by kernel_rfl))⟩
 f16:=⟨Tryz.f138.name,by decide,Tryz.func138.trans (ZbH some (by kernel_rfl))⟩
 f17:=⟨Tryz.f139.name,by decide,Tryz.func139.trans (ZbH some (by kernel_rfl))⟩
 f18:=⟨Tryz.f140.name,by decide,Tryz.func140.trans (ZbH some (by kernel_rfl))⟩
 f19:=Tryz.func141.trans (ZbH some (by kernel_rfl))
 f20:=Tryz.func142.trans (ZbH some (by kernel_rfl))
 f30:=⟨Tryz.f159.name,by decide,Tryz.func159.trans (ZbH some (by kernel_rfl))⟩
 f31:=Tryz.func160.trans (ZbH some (by kernel_rfl))
 f32:=Tryz.func161.trans (ZbH some (by kernel_rfl))
 f33:=⟨Tryz.f162.name,by decide,Tryz.func162.trans (ZbH some (by kernel_rfl))⟩
 f34:=⟨Tryz.f163.name,by decide,Tryz.func163.trans (ZbH some (by kernel_rfl))⟩
 f35:=⟨Tryz.f164.name,by decide,Tryz.func164.trans (ZbH some (by kernel_rfl))⟩
 f40:=⟨Tryz.f182.name,by decide,Tryz.func182.trans (ZbH some (by kernel_rfl))⟩
 t0:=Tryz.underlying0
 a0:=Tryz.isAgg0
 z0:=Tryz.sizeOf0
 v0:=Tryz.zeroValue0
 t3:=Tryz.underlying3
 a3:=Tryz.isAgg3
 z3:=Tryz.sizeOf3
 v3:=Tryz.zeroValue3
 t4:=Tryz.underlying4
 a4:=Tryz.isAgg4
 z4:=Tryz.sizeOf4
 v4:=Tryz.zeroValue4
 t5:=Tryz.underlying5
 a5:=Tryz.isAgg5
 z5:=Tryz.sizeOf5
 v5:=Tryz.zeroValue5
 t9:=Tryz.underlying9
 a9:=Tryz.isAgg9
 z9:=Tryz.sizeOf9
 v9:=Tryz.zeroValue9
 t22:=Tryz.underlying51
 a22:=Tryz.isAgg51
 z22:=Tryz.sizeOf51
 v22:=Tryz.zeroValue51
 t23:=Tryz.underlying51
 a23:=Tryz.isAgg51
 z23:=Tryz.sizeOf51
 v23:=Tryz.zeroValue51
 t25:=Tryz.underlying2
 a25:=Tryz.isAgg2
 z25:=Tryz.sizeOf2
 v25:=Tryz.zeroValue2
 t32:=Tryz.underlying157
 a32:=Tryz.isAgg157
 z32:=Tryz.sizeOf157
 v32:=Tryz.zeroValue157
 t35:=Tryz.underlying198
 a35:=Tryz.isAgg198
 z35:=Tryz.sizeOf198
 v35:=Tryz.zeroValue198
 t36:=Tryz.underlying199
 a36:=Tryz.isAgg199
 z36:=Tryz.sizeOf199
 v36:=Tryz.zeroValue199
 t41:=Tryz.underlying146
 a41:=Tryz.isAgg146
 z41:=Tryz.sizeOf146
 v41:=Tryz.zeroValue146
 t44:=Tryz.underlying205
 a44:=Tryz.isAgg205
 z44:=Tryz.sizeOf205
 v44:=Tryz.zeroValue205
 t46:=Tryz.underlying207
 a46:=Tryz.isAgg207
 z46:=Tryz.sizeOf207
 v46:=Tryz.zeroValue207
 t53:=Tryz.underlying220
 a53:=Tryz.isAgg220
 z53:=Tryz.sizeOf220
 v53:=Tryz.zeroValue220
 t57:=Tryz.underlying224
 a57:=Tryz.isAgg224
 z57:=Tryz.sizeOf224
 v57:=Tryz.zeroValue224
 t63:=Tryz.underlying243
 a63:=Tryz.isAgg243
 z63:=Tryz.sizeOf243
 v63:=Tryz.zeroValue243
 t64:=Tryz.underlying244
 a64:=Tryz.isAgg244
 z64:=Tryz.sizeOf244
 v64:=Tryz.zeroValue244}
end Go.Proofs
namespace Go.Ae
open Go.Proofs Go.Sort Go.Shelf
def sortI(l:List Int):List Int:=l.mergeSort fun x y=>decide (x<=y)
theorem sortI_len(l:List Int):(sortI l).length=l.length:=List.length_mergeSort l
def flI(l:List Int):List Value:=l.map (Value.int .i64)
theorem Qac2{ok:Nat->Prop}{hp:Nat->Option Obj}: ∀(l:List Int) (L:List Value),rdr ok hp 1 (l.map intC) L↔ ∃r,L=flI l++r
 |[],L=>by simp[rdr,flI]
 |x::r,L=>by
  simp only[Zal,rdr,Qac2 r,intC,rdp,rd,flI,Zal];constructor
  .rintro⟨_,⟨v,L1,rfl,rfl,_⟩,q,hq⟩;exact⟨q,by simp only[ZbT,ZbJ] at hq;rw[hq];rfl⟩
  .rintro⟨q,rfl⟩;exact⟨rfl,⟨_,_,rfl,rfl,trivial⟩,q,rfl⟩
theorem Qacs(l:List Int):(flI l).length=l.length:=Zbw ..
def srI.ca(_:List Int):List AV:=[.own 0]
def srI.H0(a:List Int):Qan:=[(0,(true,.arr 2 1 (a.map intC)))]
def srI.H1(a:List Int):Qan:=[(0,(true,.arr 2 1 ((sortI a).map intC)))]
def srI.row:Row:=orow srI.ca srI.H0 1 (fun _=>True) (fun _=>true) (fun _=> .im (.tup [])) srI.H1 0
theorem srI.ok:Qas Tryz.prog 68 srI.row:=by
 rintro args h nx K ⟨a,τ,U,KL,hpre,rfl,hheap,hN,hK⟩;refine⟨Qh7 (by kernel_rfl),_,_,?_,hK⟩;intro C S vs R hW huse hfresh hnames hargs hfin;have hs0:sgx τ 1 nx 0=τ 0:=Zaq (by omega);simp only[srI.ca,renL,AV.ren,hs0,Qa0,conc] at hargs;obtain⟨v0,r0,hv,⟨hone,hown⟩,hr1⟩:=hargs;subst hr1;have hvs:vs= #[v0]:=by apply ZdT;simpa using hv
 subst hvs;have hm:h (τ 0)=some (true,.arr 2 1 (a.map intC)):=by
  have:=hheap.1
  rwa [hs0] at this
 have hd0:domB (srI.H0 a) 0=true:=rfl;have hSm:S.h (τ 0)=some (true,.arr 2 1 (a.map intC)):=by
  rw[huse (τ 0) (ZbC _ (hN.u 0 hd0)),hm]
 have hk0: ∀n,n∈KL↔n=τ 0:=by
  intro n;constructor
  .intro hn;obtain⟨j,h1,_,h3⟩:=hN.k1 n hn
   have:j=0:=by
    simp only[domB,srI.H0,hget] at h1;by_cases hj:j=0
    .exact hj
    .have:(0==j)=false:=by simpa using fun h=>hj h.symm
     rw[this] at h1;cases h1
   rw[h3,this]
  .rintro rfl;exact hN.k2 0 hd0 rfl
 obtain⟨m,hmm⟩: ∃m,m=τ 0:=⟨_,rfl⟩;rw[<-hmm] at hSm hown hk0;have hsl:=sortI_len a;have fin: ∀(w':World),Qjb S m (.arr 2 1 ((sortI a).map intC)) (S.ρ m) [m] w'->
  (Pres (fun n=>S.h m≠none\/n≠m) S (S.one m (.arr 2 1 ((sortI a).map intC)) (S.ρ m) [m] w')->objc (S.one m (.arr 2 1 ((sortI a).map intC)) (S.ρ m) [m] w') (S.ρ m) (.arr 2 1 ((sortI a).map intC)))->R (.returned (.tuple #[])) w':=by
  intro w' hone hob;have hp:=Qg2 hW hone;refine hfin (.tuple #[]) _ (Qqp hW hone (hob hp)) ?_ ⟨hp.ok,fun n _=>hp.nm n (.inl (by rw[hSm];simp))⟩ ⟨#[],rfl,rfl⟩;funext n;simp only[Env.one,Eff.appf,srI.H1,renH,hs0,hget,AObj.ren,<-hmm];by_cases hn:n=m
  .subst hn;simp
  .have h1:(m==n)=false:=by simpa using fun h=>hn h.symm
   have h2:KL.contains n=false:=by
    rw[<-ZcJ,Zbh,hk0];exact hn
   simp only[h1,ZaF,h2,hn,Zbz,Zao]
 have hown':=hown _ hSm;have hobj:=hW.obj _ _ hSm;have hloc:=fun lc=>hW.loc m _ lc hSm
 cases hρ:S.ρ m with
 |none=>
  rw[hρ] at hown' hobj;simp only[objc] at hobj;have ha:a=[]:=by simpa using hobj.2
  subst ha;simp only at hown';rw[hown'];refine (AnyM.slices_Sort_int_none Tryz.sortI none 0 S.w).mono ?_;rintro e w' ⟨rfl,rfl⟩;refine fin S.w (Qacz hSm (fun l hl=>by rw[hρ] at hl;cases hl) (by first|rfl|simp[AObj.len,sortI]) (by first|rfl|simp[AObj.len,sortI])) (fun _=> ?_);rw[hρ];exact⟨by simp[sortI],by simp[sortI]⟩
 |some lc=>
  rw[hρ] at hown' hobj;simp only[objc,AObj.len] at hobj hown';obtain⟨g1,g2,cv,g3,g4,g5⟩:=hobj;obtain⟨hlb,hlk⟩:=hloc lc hρ;rw[Qac2] at g5;obtain⟨rest,g5⟩:=g5;simp only[Zbw] at g1 g2 hown';have hheap:S.w.heap[lc.b]? =some (.cells cv 2 (0,0)):=g3;have hlen:lc.p+a.length<=cv.size:=by omega
  have hget: ∀j,j<a.length->cv[lc.p+j]? =some (Value.int .i64 (a.toArray[j]!)):=by
   intro j hj;have h1:(cv.toList.drop lc.p)[j]? =(flI a++rest)[j]? :=by rw[g5]
   rw[ZbX,Zbg,ZaL (by rw[Qacs];exact hj),flI,ZaG,Zac hj] at h1;rw[h1,getElem!_pos _ _ (by simpa using hj)];simp
  have hH:Holds (Value.int .i64) S.w lc.b lc.p a.toArray:=by
   intro j hj;have hj:j<a.length:=by simpa using hj
   refine⟨?_,?_⟩
   .simp only[World.cell?,hheap,Zcv,ZaC,Zbz,id];exact hget j hj
   .simp only[World.frozen?,hheap];simp
  have hc:=AnyM.slices_Sort_int Tryz.sortI lc.b lc.p lc.cap a S.w hH hlb (by simp only[LIM] at g1⊢;omega);rw[hown'];refine hc.mono ?_;rintro e w' ⟨rfl,n,os,rfl⟩;change R _ (grow (putRow (Value.int .i64) (Sort.ahead S.w n) lc.b lc.p (sortI a).toArray) os);have hsize:S.w.heap.size<=(grow (putRow (Value.int .i64) (Sort.ahead S.w n) lc.b lc.p (sortI a).toArray) os).heap.size:=by
   simp[grow,putRow,mapBlock,Sort.ahead]
  have hb: ∀b,b<S.w.heap.size->(grow (putRow (Value.int .i64) (Sort.ahead S.w n) lc.b lc.p (sortI a).toArray) os).heap[b]? =if lc.b=b then S.w.heap[b]?.map (onCells (putCells (Value.int .i64) lc.p (sortI a).toArray)) else S.w.heap[b]? :=by
   intro b hb;have e0:b<(putRow (Value.int .i64) (Sort.ahead S.w n) lc.b lc.p (sortI a).toArray).heap.size:=by simpa[putRow,mapBlock,Sort.ahead] using hb
   simp only[grow];rw[Zec e0];simp only[putRow,mapBlock,Sort.ahead,ZdM]
  refine fin _ ⟨rfl,rfl,rfl,hsize,?_,.inl (by simp),?_,?_,?_⟩ ?_
  .intro b hb1 hb2;rw[hb b hb1,Zai (hb2 m _ lc (by simp) hSm hρ)]
  .intro lo hlo;rw[hρ] at hlo;obtain rfl:=Zaa hlo;exact⟨Zba hlb hsize,.inr ⟨m,_,lc,by simp,hSm,hρ,rfl⟩⟩
  .intro f hf;rw[hSm] at hf;obtain rfl:=Zaa hf;exact⟨rfl,rfl,by simp[AObj.len,hsl]⟩
  .intro n' f _ hnone;rw[hSm] at hnone;cases hnone
  .intro _;rw[hρ];simp only[objc,Zbw,hsl];refine⟨g1,g2,putCells (Value.int .i64) lc.p (sortI a).toArray cv,?_,by simpa[putCells] using g4,?_⟩
   .simp only[Env.one,Env.hp];rw[hb lc.b hlb,Zaq rfl,hheap];rfl
   .rw[Qac2];refine⟨(cv.toList.drop (lc.p+a.length)),?_⟩;apply ZbU;intro t;rw[ZbX,Zbg,putCells,ZeF];by_cases ht:t<a.length
    .rw[ZaL (by rw[Qacs,hsl];exact ht),flI,ZaG,Zac (by rw[hsl];exact ht),Zbs (show lc.p+t<cv.size by omega)];simp only[ZaM];rw[Zaq ⟨by omega,by simp[hsl];omega⟩,ZcK,getElem!_pos _ _ (by simpa[hsl] using ht)];simp
    .rw[ZaN (by rw[Qacs,hsl];omega),Qacs,hsl,ZbX,Zbg,show lc.p+a.length+(t - a.length)=lc.p+t by omega];cases cv[lc.p+t]? with
     |none=>rfl
     |some x=>simp only[ZaM];rw[Zai (by simp[hsl];omega)]
end Go.Ae
namespace Go.Ae
open Go.Proofs
def seqI(s:Qar)(l:List Opt):Asm×Int×Int:=if Qk1 s=false then (⟨[]⟩,0,1) else if 500<l.length then (⟨[]⟩,0,2) else Qacn s (tlUp s.Seed.Tiles) l 0
theorem Qacl{β:Type}(p:Qae)(v:β): ∀(t:List (Qae×β)),(t.map Prod.fst).Nodup->((updP t p v).map Prod.fst).Nodup/\(∀q,q∈(updP t p v).map Prod.fst->q=p\/q∈t.map Prod.fst)/\(updP t p v).length<=t.length+1
 |[],_=>by simp[updP]
 |(k,w)::r,h=>by
  rw[Zal,ZcF] at h;simp only[updP];by_cases c:p=k
  .subst c;rw[Zaq rfl];refine⟨by rw[Zal,ZcF];exact h,fun q hq=> .inr hq,by simp⟩
  .rw[Zai c];obtain⟨h1,h2,h3⟩:=Qacl p v r h.2;refine⟨?_,?_,by simp only[ZaJ];omega⟩
   .rw[Zal,ZcF];refine⟨fun hk=> ?_,h1⟩;rcases h2 _ hk with hk|hk
    .exact c hk.symm
    .exact h.1 hk
   .intro q hq;rw[Zal] at hq⊢;rcases Zau.1 hq with rfl|hq
    .exact .inr (Zas ..)
    .rcases h2 _ hq with hq|hq
     .exact .inl hq
     .exact .inr (Zap _ hq)
theorem tlUp_keys(l:List Qab):((tlUp l).map Prod.fst).Nodup/\(tlUp l).length<=l.length:=by
 have key: ∀(l:List Qab) (t:List (Qae×Int)),(t.map Prod.fst).Nodup->((l.foldl (fun t x=>updP t x.At x.Tile) t).map Prod.fst).Nodup/\(l.foldl (fun t x=>updP t x.At x.Tile) t).length<=t.length+l.length:=by
  intro l;induction l with
  |nil=>intro t h;exact⟨h,by simp⟩
  |cons x r ih=>
   intro t h;obtain⟨h1,_,h3⟩:=Qacl x.At x.Tile t h;obtain⟨h4,h5⟩:=ih _ h1;exact⟨h4,by simp only[Zde,ZaJ] at h5⊢;omega⟩
 have:=key l [] (by simp)
 exact⟨this.1,by simpa[tlUp] using this.2⟩
theorem Qac7{s:Qar}{l:List Opt}{i:Nat}{o:Opt}(hx:l[i]? =some o)(t:List (Qae×Int)):Qacn s t (l.drop i) i=if (Qau o.Tile 0 (s.Set.Tiles.length - 1) && Qpg s (Qbw t) o.At o.Tile)=false then (⟨[]⟩,(i:Int),5) else if 500<=t.length then (⟨[]⟩,0,4) else Qacn s (updP t o.At o.Tile) (l.drop (i+1)) (i+1):=by
 rw[Qd3 hx,Qacn]
def PlayI_.ar:List PK->Option (Qar×(List Opt)):=a2 (kR Qar.d) (kS Opt.d)
def PlayI_.ae(a:Qar×(List Opt)):List PK:=[.val (.agg (Qar.c a.1)),.val (.sl false 3 (a.2.map Opt.c))]
def PlayI_.fv(a:Qar×(List Opt)):Asm×Int×Int:=(seqI) (a.1) (a.2)
def PlayI_.row:Row:=vrow PlayI_.ar (fun a=>Qf6 a.1.Set) (fun a=>(fun b=>D.tup [(fun b=>D.agg (Asm.c b)) (b.1),(D.int .i64) (b.2.1),(D.int .i64) (b.2.2)]) (PlayI_.fv a))
def PlayI_.q:=vq PlayI_.row rfl
def YaS:=J @PlayI_.ae.eq_1 (J @PlayI_.fv.eq_1 (J @validI_.q (J @validI_.ar.eq_1 (J @validI_.fv.eq_1 (J @isTile.q (J @isTile.ar.eq_1 (J @isTile.fv.eq_1 (J @fitsC.q (J @fitsC.ar.eq_1 @fitsC.fv.eq_1)))))))))
theorem PlayI_.ok:Qas Tryz.prog 88 PlayI_.row:=by
 refine Qaj Qaq (tC validI_.ok (tC newC.ok (tC isTile.ok (tC fitsC.ok (tC putC.ok (tC asmC.ok tN)))))) Tryz.func88 rfl (by kernel_rfl) (by kernel_rfl) (ar:=PlayI_.ar) (ae:=PlayI_.ae) (Qaca (Qab8 Qar.d_le) (Qacb 3 Opt.d_le (fun _=>rfl))) (n:=2) (fun _=>rfl) (by decide) (rc:=(Qac1 (vAgg Asm.d) (vInt) (vInt))) (re:=(fun b=>D.tup [(fun b=>D.agg (Asm.c b)) (b.1),(D.int .i64) (b.2.1),(D.int .i64) (b.2.2)])) (Qact (Qb1 Asm.d_le) (Qa3) (Qa3)) (f:=PlayI_.fv) ?_;intro a hpre;simp only[Tryz.f88,Option.getD];simp (maxSteps:=10^7) (disch:=omega) only[ZZ,simprocAttr,rch,YaS];obtain⟨s,l⟩:=a;simp only at hpre⊢;refine⟨hpre,?_⟩;by_cases c1:Qk1 s=false
 .rw[Zaq c1];simp only[seqI];rw[Zaq c1]
 rw[Zai c1];intro _;by_cases c2:500<l.length
 .rw[Zaq (by omega)];simp only[seqI];rw[Zai c1,Zaq c2]
 rw[Zai (by omega)];have eR:seqI s l=Qacn s (tlUp s.Seed.Tiles) l 0:=by simp only[seqI];rw[Zai c1,Zai c2]
 rw[Zbi,Qacv] at c1;obtain⟨⟨q1,q2,q3,_⟩,q5,q6⟩:=Qacj c1;have hbp:=Qof (s:=s.Set) (a:=s.Seed) (by rw[q5,q6];rfl);have hnp:newC.pre (s,s.Seed):=⟨q1,by simp only;omega,fun y hy=>⟨q2.2 y hy,hbp.1.2.2.2 y hy⟩⟩;have hcp:=cryOf_pre hnp;have hk0:=tlUp_keys s.Seed.Tiles;refine orow.os (s,s.Seed) [] hnp (fun j=>by simp[domB,hget]) rfl rfl ?_ ?_
 .simp (maxSteps:=10^7) (disch:=omega) only[ZZ,simprocAttr,rch,YaS,newC.ca,Qer,Qar.c,Asm.c]
 simp (maxSteps:=10^7) (disch:=omega) only[ZZ,simprocAttr,rch,YaS,newC.H1,sub];intro _;refine Qay.old ⟨{k:Nat×List (Qae×Int)×List (Qae×List Int)//k.1<=l.length/\inF s.Set (Qbw k.2.1)/\(k.2.1.map Prod.fst).Nodup/\k.2.1.length<=1000/\seqI s l=Qacn s k.2.1 (l.drop k.1) k.1},fun k=>⟨[(26,.im (.int .i64 k.1.1)),(25,.im (.int .i64 l.length)),(24,.im (.sl false 3 (l.map Opt.c))),(7,.ptr 6 0),(6,.im (.int .i64 0)),(5,.im (.int .i64 0)),(4,.ptr 1 0),(2,.ptr 0 0)],[(6,(true,.cells 185 [.im (.sl false 2 (s.Set.Glues.map Glue.c)),.im (.sl false 2 (s.Set.Tiles.map Tile.c)),.im (.sl false 3 (s.Seed.Tiles.map Qab.c)),.im (.int .i64 s.Temperature),.mp 4,.mp 5])),
  (4,(true,.map ⟨true,[.int .i64,.int .i64]⟩ (k.1.2.1.map Qbe))),(5,(true,.map ⟨true,[.int .i64,.int .i64]⟩ (k.1.2.2.map Qbc))),(1,(true,.cells 42 [.im (.sl true 0 [])])),(0,(true,.cells 44 ((Qar.c s).map .im)))],7⟩,fun k=>l.length - k.1.1,fun k=>⟨by simp[Qad.good,belT,belH,Qam,AV.bel,belL,Qar.c],by simp⟩,⟨⟨(0,(Qui s s.Seed).Tl,(Qui s s.Seed).Op),by simp only;exact⟨ZbE _,hcp.2.1,hk0.1,Zbl hk0.2 (by omega),eR⟩⟩,by simp (maxSteps:=10^7) (disch:=omega) only[ZZ,simprocAttr,rch,YaS,sub]⟩,fun k=> ?_⟩
 obtain⟨⟨k,tl,op⟩,hk1,hk2,hk3,hk4,hk5⟩:=k;simp only at hk1 hk2 hk3 hk4 hk5;simp (maxSteps:=10^7) (disch:=omega) only[ZZ,simprocAttr,rch,YaS,sub,Qal];refine⟨fun hk=>⟨hk,fun x hx=> ?_⟩,fun hk=> ?_⟩
 .rw[Qac7 hx] at hk5;by_cases d1:Qau x.Tile 0 ((s.Set.Tiles.length:Int) - 1)=true
  case neg=>
   refine⟨fun h=>(d1 h).elim,fun _=> ?_⟩;rw[ZcJ] at d1;rw[hk5,d1,Zbv,Zaq rfl]
  refine⟨fun _=> ?_,fun h=>(h d1).elim⟩;have hti:Qcs s.Set x.Tile:=by
   simp only[Qau,Zaf,Zav] at d1;exact⟨d1.1,by omega⟩
  rw[d1,Zbe] at hk5;refine⟨⟨q1,hk2,hti⟩,fun d2=> ?_,fun d2=>⟨fun d3=> ?_,fun d3=> ?_⟩⟩
  .rw[hk5,Zaq d2]
  .rw[hk5,Zai d2,Zaq (by omega)]
  .rw[Zai d2,Zai (by omega)] at hk5;have hsm:Qdy x.At:=by
    rw[Zbi] at d2;simp only[Qpg,Zaf] at d2;exact Qkc d2.1
   have hcr:Qacu ⟨s,tl,op⟩:=⟨q1,hk2,by simp only;omega⟩;obtain⟨u1,_,u3⟩:=Qacl x.At x.Tile tl hk3;refine orow.os (⟨s,tl,op⟩,x.At,x.Tile) [6,4,5] ⟨hcr,hsm,hti⟩ (fun j=>Qack _ j) rfl rfl ?_ ?_
   .simp (maxSteps:=10^7) (disch:=omega) only[ZZ,simprocAttr,rch,YaS,putC.ca,cryH,Qbk,Zbf,ZaR,Zbm]
   .simp (maxSteps:=10^7) (disch:=omega) only[ZZ,simprocAttr,rch,YaS,putC.H1,kl12,sub,putT,ZaR,Zbm];exact⟨⟨(k+1,updP tl x.At x.Tile,Qrz s (Qbw (updP tl x.At x.Tile)) (delP op x.At) x.At 4),by simp only;exact⟨by omega,putT_in hk2 hti,u1,by omega,hk5⟩⟩,by simp only;omega,by rw[Qak (by omega) (by omega)];simp only;omega,rfl,rfl⟩
 .rw[Zaz (by omega),Qacn] at hk5;refine orow.os ⟨s,tl,op⟩ [6,4,5] ⟨hk3,by simp only;omega⟩ (fun j=>Qack _ j) rfl rfl ?_ ?_
  .simp (maxSteps:=10^7) (disch:=omega) only[ZZ,simprocAttr,rch,YaS,asmC.ca,cryH,Qbk,Zbf,ZaR,Zbm]
  .simp (maxSteps:=10^7) (disch:=omega) only[ZZ,simprocAttr,rch,YaS,asmC.H1,klA,sub,asmT,ZaR,Zbm];rw[hk5]
theorem Qacq(l:List Int):(sortI l).Perm l:=List.mergeSort_perm l _
theorem seq_law(s:Qar)(l:List Opt):seqI s l=seqS s l:=by
 simp only[seqI,seqS,Qacv];by_cases c1:Qjc s=false
 .rw[Zaq c1,Zaq c1]
 rw[Zai c1,Zai c1];rw[Zbi] at c1;obtain⟨⟨q1,q2,q3,_⟩,_⟩:=Qacj c1;rw[Qac5 q3 l (tlUp s.Seed.Tiles) s.Seed s.Seed.Tiles.length 0 (RM.of q2.1 (fun x hx=>(q2.2 x hx).1)) q2]
theorem sortI_pw(l:List Int):(sortI l).Pairwise (fun x y=>x<=y):=by
 have:=List.pairwise_mergeSort (le:=fun (x y:Int)=>decide (x<=y)) (fun a b c h1 h2=>by simp at*;omega) (fun a b=>by simp;omega) l
 exact this.imp (fun h=>by simpa using h)
def Qadf(s:Qaa)(f:Qae->Int)(p:Qae)(t:Int):Nat->Int
 |0=>0
 |k+1=>Qadf s f p t k+(if 0<Quh s f p t k then 2^k else 0)
theorem Qafe(s:Qaa)(f:Qae->Int)(p:Qae)(t:Int): ∀k,0<=Qadf s f p t k/\Qadf s f p t k<2^k
 |0=>by simp[Qadf]
 |k+1=>by
  have:=Qafe s f p t k
  have e:(2:Int)^(k+1)=2^k*2:=Int.pow_succ ..;simp only[Qadf]
  split<;>omega
def Qac9:Asm->List Opt->Asm
 |b,[]=>b
 |b,o::r=>Qac9 (putA b o.At o.Tile) r
theorem Qadp: ∀(l:List Opt) (b:Asm) (o:Opt),Qac9 b (l++[o])=putA (Qac9 b l) o.At o.Tile
 |[],_,_=>rfl
 |x::r,b,o=>by simp only[Zat,Qac9,Qadp r]
def insS(s:Qar):Asm->List Opt->List Int
 |_,[]=>[]
 |b,o::r=>Qadf s.Set (atA b) o.At o.Tile 4::insS s (putA b o.At o.Tile) r
def smsS(s:Qar):Asm->List Opt->List Int
 |_,[]=>[]
 |b,o::r=>Qhs s.Set (atA b) o.At o.Tile 4::smsS s (putA b o.At o.Tile) r
theorem Qad8(s:Qar): ∀(l:List Opt) (b:Asm) (o:Opt),insS s b (l++[o])=insS s b l++[Qadf s.Set (atA (Qac9 b l)) o.At o.Tile 4]
 |[],_,_=>rfl
 |x::r,b,o=>by simp only[Zat,insS,Qad8 s r,Qac9]
theorem Qad9(s:Qar): ∀(l:List Opt) (b:Asm) (o:Opt),smsS s b (l++[o])=smsS s b l++[Qhs s.Set (atA (Qac9 b l)) o.At o.Tile 4]
 |[],_,_=>rfl
 |x::r,b,o=>by simp only[Zat,smsS,Qad9 s r,Qac9]
theorem Qadv(s:Qar): ∀(l:List Opt) (b:Asm),(insS s b l).length=l.length
 |[],_=>rfl
 |x::r,b=>by simp only[insS,ZaJ,Qadv s r]
theorem Qael(s:Qar): ∀(l:List Opt) (b:Asm),(smsS s b l).length=l.length
 |[],_=>rfl
 |x::r,b=>by simp only[smsS,ZaJ,Qael s r]
theorem Qafo(s:Qar): ∀(l:List Opt) (b:Asm) (k:Nat) (o:Opt),l[k]? =some o->(insS s b l)[k]? =some (Qadf s.Set (atA (Qac9 b (l.take k))) o.At o.Tile 4)
 |[],_,k,o,h=>by simp at h
 |x::r,b,0,o,h=>by
  simp only[ZaT,Zab] at h;subst h;simp[insS,Qac9]
 |x::r,b,k+1,o,h=>by
  rw[Zbn] at h;simp only[insS,Zbn,ZbN,Qac9];exact Qafo s r _ k o h
def Qaec(s:Qar)(b:Asm)(l:List Opt):Prop:= ∀k o,l[k]? =some o->canS s (Qac9 b (l.take k)) o=true/\(Qac9 b (l.take k)).Tiles.length<500
theorem Qaez{s:Qar}: ∀(l:List Opt) (b:Asm) (i:Nat),(Qacg s b l i).2.2=0->Qacg s b l i=(Qac9 b l,0,0)/\Qaec s b l
 |[],b,i,_=>⟨rfl,fun k o h=>by simp at h⟩
 |x::r,b,i,h=>by
  simp only[Qacg] at h⊢;by_cases c1:canS s b x=false
  .rw[Zaq c1] at h;simp at h
  rw[Zai c1] at h⊢;by_cases c2:500<=b.Tiles.length
  .rw[Zaq c2] at h;simp at h
  rw[Zai c2] at h⊢;obtain⟨h1,h2⟩:=Qaez r _ _ h;refine⟨h1,fun k o hk=> ?_⟩;cases k with
  |zero=>
   simp only[ZaT,Zab] at hk;subst hk;rw[Zbi] at c1;exact⟨by simpa[Qac9] using c1,by simp only[ZbQ,Qac9];omega⟩
  |succ k=>
   rw[Zbn] at hk;simp only[ZbN,Qac9];exact h2 k o hk
theorem Qafb{s:Qar}(hs:s.Set.Tiles.length<=160){b:Asm}(hb:Qn7 s.Set b){l:List Opt}(h:Qaec s b l): ∀k,k<=l.length->Qn7 s.Set (Qac9 b (l.take k))
 |0,_=>by simpa[Qac9] using hb
 |k+1,hk=>by
  obtain⟨o,ho⟩: ∃o,l[k]? =some o:=⟨_,Zac (by omega)⟩;rw[Qwe ho,Qadp];exact can_in hs (Qafb hs hb h k (by omega)) (h k o ho).1
theorem Qadk{s:Qar}{b:Asm}{o:Opt}(h:canS s b o=true):Qbi o.At=true/\Qdy o.At/\0<=o.Tile/\o.Tile<s.Set.Tiles.length/\Qcs s.Set o.Tile/\(∀x∈b.Tiles,x.At≠o.At):=by
 simp only[canS,Zaf,Zav] at h;obtain⟨d1,d2,d3,_⟩:=h;simp only[Qau,Zaf,Zav] at d2;exact⟨d1,Qkc d1,d2.1,by omega,⟨d2.1,by omega⟩,Qma d3⟩
def hasI(m d:Int):Bool:=decide (andI .i64 (m.fdiv (2^min d.toNat 64)) 1=1)
def bitN(b:Bool)(k:Nat):Int:=if b=true then 2^k else 0
theorem has_bits: ∀b0 b1 b2 b3:Bool,hasI (0+bitN b0 0+bitN b1 1+bitN b2 2+bitN b3 3) 0=b0/\hasI (0+bitN b0 0+bitN b1 1+bitN b2 2+bitN b3 3) 1=b1/\hasI (0+bitN b0 0+bitN b1 1+bitN b2 2+bitN b3 3) 2=b2/\hasI (0+bitN b0 0+bitN b1 1+bitN b2 2+bitN b3 3) 3=b3:=by
 intro b0 b1 b2 b3;cases b0<;>cases b1<;>cases b2<;>cases b3<;>decide
theorem has_mask(s:Qaa)(f:Qae->Int)(p:Qae)(t:Int): ∀d:Nat,d<4->hasI (Qadf s f p t 4) d=decide (0<Quh s f p t d):=by
 intro d hd;have e:Qadf s f p t 4=0+bitN (decide (0<Quh s f p t ((0:Nat):Int))) 0+bitN (decide (0<Quh s f p t ((1:Nat):Int))) 1+bitN (decide (0<Quh s f p t ((2:Nat):Int))) 2+bitN (decide (0<Quh s f p t ((3:Nat):Int))) 3:=by
  simp only[Qadf,bitN,Zav]
 obtain⟨k0,k1,k2,k3⟩:=has_bits (decide (0<Quh s f p t ((0:Nat):Int))) (decide (0<Quh s f p t ((1:Nat):Int))) (decide (0<Quh s f p t ((2:Nat):Int))) (decide (0<Quh s f p t ((3:Nat):Int)));rw[e];rcases (by omega:d=0\/d=1\/d=2\/d=3) with rfl|rfl|rfl|rfl
 .exact k0
 .exact k1
 .exact k2
 .exact k3
theorem or_bit{m:Int}{k:Nat}(hk:k<4)(h0:0<=m)(h1:m<2^k):orI .i64 m (2^k)=m+2^k:=by
 rcases (by omega:k=0\/k=1\/k=2\/k=3) with rfl|rfl|rfl|rfl
 .obtain rfl:m=0:=by omega
  decide
 .rcases (by omega:m=0\/m=1) with rfl|rfl<;>decide
 .rcases (by omega:m=0\/m=1\/m=2\/m=3) with rfl|rfl|rfl|rfl<;>decide
 .rcases (by omega:m=0\/m=1\/m=2\/m=3\/m=4\/m=5\/m=6\/m=7) with rfl|rfl|rfl|rfl|rfl|rfl|rfl|rfl<;>decide
def idxO(l:List Opt)(q:Qae):Int:=Qaw (fun o:Opt=>decide (o.At=q)) 0 l
def ownN(l:List Opt)(m:Int)(p:Qae):Nat->List Int
 |0=>[]
 |d+1=>ownN l m p d++(if hasI m d=true/\0<=idxO l (Qf7 p d) then [idxO l (Qf7 p d)] else [])
def nd1(q:Qae)(m:Int)(p:Qae)(k:Nat):Nat->List Int
 |0=>[]
 |d+1=>nd1 q m p k d++(if hasI m d=true/\Qf7 p d=q then [(k:Int)] else [])
def ndK(l:List Opt)(m:Int)(p:Qae):Nat->List Int
 |0=>[]
 |k+1=>ndK l m p k++nd1 ((l[k]?.map Opt.At).getD ⟨0,0⟩) m p k 4
def Qade(l:List Opt)(ins:List Int):Nat->List (List Int)
 |0=>[]
 |i+1=>Qade l ins i++[ndK l (ins[i]?.getD 0) ((l[i]?.map Opt.At).getD ⟨0,0⟩) i]
theorem Qaf3{p:Qae}{d e:Nat}(hd:d<4)(he:e<4)(h:Qf7 p d=Qf7 p e):d=e:=by
 rcases (by omega:d=0\/d=1\/d=2\/d=3) with rfl|rfl|rfl|rfl<;>
 rcases (by omega:e=0\/e=1\/e=2\/e=3) with rfl|rfl|rfl|rfl<;>
 simp[Qf7] at h<;>omega
theorem Qafg{l:List Opt}{m:Int}{p:Qae}{x:Int}: ∀n,x∈ownN l m p n↔ ∃d,d<n/\hasI m (d:Nat)=true/\0<=x/\idxO l (Qf7 p (d:Nat))=x
 |0=>by simp[ownN]
 |n+1=>by
  simp only[ownN,Zan,Qafg n];constructor
  .rintro (⟨d,h1,h2⟩|h)
   .exact⟨d,by omega,h2⟩
   .split at h
    .rename_i c;rw[Zao] at h;exact⟨n,by omega,c.1,by rw[h];exact c.2,h.symm⟩
    .cases h
  .rintro⟨d,h1,h2,h3,h4⟩;by_cases hdn:d=n
   .subst hdn;right;rw[Zaq ⟨h2,by rw[h4];exact h3⟩,Zao];exact h4.symm
   .exact .inl ⟨d,by omega,h2,h3,h4⟩
theorem Qae6{q:Qae}{m:Int}{p:Qae}{k:Nat}{x:Int}: ∀n,x∈nd1 q m p k n↔x=k/\ ∃d,d<n/\hasI m (d:Nat)=true/\Qf7 p (d:Nat)=q
 |0=>by simp[nd1]
 |n+1=>by
  simp only[nd1,Zan,Qae6 n];constructor
  .rintro (⟨h0,d,h1,h2⟩|h)
   .exact⟨h0,d,by omega,h2⟩
   .split at h
    .rename_i c;rw[Zao] at h;exact⟨h,n,by omega,c⟩
    .cases h
  .rintro⟨h0,d,h1,h2,h3⟩;by_cases hdn:d=n
   .subst hdn;right;rw[Zaq ⟨h2,h3⟩,Zao];exact h0
   .exact .inl ⟨h0,d,by omega,h2,h3⟩
theorem Qaen{q:Qae}{m:Int}{p:Qae}{k:Nat}: ∀n,n<=4->(nd1 q m p k n).length<=1/\((nd1 q m p k n).length=1-> ∃d,d<n/\Qf7 p (d:Nat)=q)
 |0,_=>by simp[nd1]
 |n+1,hn=>by
  obtain⟨h1,h2⟩:=Qaen n (by omega) (q:=q) (m:=m) (p:=p) (k:=k);simp only[nd1];split
  .rename_i c;have h0:(nd1 q m p k n).length=0:=by
    rcases (by omega:(nd1 q m p k n).length=0\/(nd1 q m p k n).length=1) with h|h
    .exact h
    .obtain⟨d,hd,e⟩:=h2 h
     have:=Qaf3 (p:=p) (d:=d) (e:=n) (by omega) (by omega) (e.trans c.2.symm)
     omega
   refine⟨by rw[ZaH,h0];simp,fun _=>⟨n,by omega,c.2⟩⟩
  .rw[ZaK];exact⟨h1,fun h=>by obtain⟨d,hd,e⟩:=h2 h;exact⟨d,by omega,e⟩⟩
theorem Qaem{l:List Opt}{m:Int}{p:Qae}{x:Int}: ∀n,n<=l.length->(x∈ndK l m p n↔ ∃k d,k<n/\d<4/\x=(k:Int)/\hasI m (d:Nat)=true/\l[k]?.map Opt.At=some (Qf7 p (d:Nat)))
 |0,_=>by simp[ndK]
 |n+1,hn=>by
  have hg:l[n]? =some l[n]:=Zac (by omega);simp only[ndK,Zan,Qaem (l:=l) n (by omega),Qae6];constructor
  .rintro (⟨k,d,h1,h2,h3⟩|⟨h0,d,h1,h2,h3⟩)
   .exact⟨k,d,by omega,h2,h3⟩
   .refine⟨n,d,by omega,h1,h0,h2,?_⟩;rw[hg] at h3⊢;simpa using h3.symm
  .rintro⟨k,d,h1,h2,h3,h4,h5⟩;by_cases hkn:k=n
   .subst hkn;right;refine⟨h3,d,h2,h4,?_⟩;rw[h5];rfl
   .exact .inl ⟨k,d,by omega,h2,h3,h4,h5⟩
theorem ndK_pw{l:List Opt}{m:Int}{p:Qae}: ∀n,n<=l.length->(ndK l m p n).Pairwise (fun x y=>x<y)
 |0,_=>by simp[ndK]
 |n+1,hn=>by
  simp only[ndK];rw[List.pairwise_append];refine⟨ndK_pw n (by omega),?_,?_⟩
  .have h:=(Qaen 4 (Zam _) (q:=(l[n]?.map Opt.At).getD ⟨0,0⟩) (m:=m) (p:=p) (k:=n)).1;generalize nd1 ((l[n]?.map Opt.At).getD ⟨0,0⟩) m p n 4=z at h
   match z,h with
   |[],_=>exact List.Pairwise.nil
   |[a],_=>exact List.pairwise_singleton ..
  .intro a ha b hb;rw[Qaem (l:=l) n (by omega)] at ha;rw[Qae6] at hb;obtain⟨k,d,h1,_,h3,_⟩:=ha;rw[h3,hb.1];omega
theorem idxO_get{l:List Opt}(hd:(l.map Opt.At).Nodup){q:Qae}{k:Nat}(h:l[k]?.map Opt.At=some q):idxO l q=k:=by
 rcases Qep (fun o:Opt=>decide (o.At=q)) l 0 with ⟨h1,h2⟩|⟨i,x,h1,h2,h3⟩
 .exfalso;cases hx:l[k]? with
  |none=>rw[hx] at h;cases h
  |some y=>
   rw[hx] at h
   have:=ZcT.1 h1 y (Zae hx)
   simp at this h;exact this h
 .have hxq:x.At=q:=by simpa using ZcO h1
  simp only[idxO,h2]
  have:i=k:=by
   have e1:(l.map Opt.At)[i]? =some q:=by rw[ZaG,h3];simp[hxq]
   have e2:(l.map Opt.At)[k]? =some q:=by rw[ZaG];exact h
   obtain⟨g1,f1⟩:=Zaj.1 e1;obtain⟨g2,f2⟩:=Zaj.1 e2;exact (List.getElem_inj hd).1 (f1.trans f2.symm)
  omega
theorem Qae5{l:List Opt}{q:Qae}{k:Int}(h:idxO l q=k)(h0:0<=k):l[k.toNat]?.map Opt.At=some q:=by
 rcases Qep (fun o:Opt=>decide (o.At=q)) l 0 with ⟨h1,h2⟩|⟨i,x,h1,h2,h3⟩
 .simp only[idxO,h2] at h;omega
 .have hxq:x.At=q:=by simpa using ZcO h1
  simp only[idxO,h2] at h;rw[show k.toNat=i by omega,h3];simp[hxq]
theorem Qaei{x:Qab}: ∀(l:List Opt) (b:Asm),x∈(Qac9 b l).Tiles↔x∈b.Tiles\/ ∃o∈l,x=⟨o.At,o.Tile⟩
 |[],b=>by simp[Qac9]
 |o::r,b=>by
  simp only[Qac9,Qaei r,Qi8,Qlc,Zau];constructor
  .rintro ((h|h)|⟨y,hy,h⟩)
   .exact .inr ⟨o,.inl rfl,h⟩
   .exact .inl h
   .exact .inr ⟨y,.inr hy,h⟩
  .rintro (h|⟨y,rfl|hy,h⟩)
   .exact .inl (.inr h)
   .exact .inl (.inl h)
   .exact .inr ⟨y,hy,h⟩
theorem Qaf6{s:Qar}{b:Asm}{l:List Opt}(h:Qaec s b l):(l.map Opt.At).Nodup:=by
 rw[ZcR,List.pairwise_map,Zdt];intro i j hi hj hij heq;have h1:=(Qadk (h j l[j] (Zac hj)).1).2.2.2.2.2;refine h1 ⟨l[i].At,l[i].Tile⟩ ?_ heq;rw[Qaei];refine .inr ⟨l[i],?_,rfl⟩;rw[Zbx];exact⟨i,by rw[Zdx hij];exact Zac hi⟩
theorem at_mem{a:Asm}{q:Qae}(h:0<=atA a q): ∃x∈a.Tiles,x.At=q:=by
 simp only[atA] at h;cases hf:a.Tiles.find? (fun x=>decide (x.At=q)) with
 |none=>rw[hf] at h;simp at h
 |some x=>exact⟨x,ZcW hf,by simpa using ZcO hf⟩
theorem need_law{s:Qar}{b:Asm}{l:List Opt}(h:Qaec s b l){i:Nat}{o:Opt}(ho:l[i]? =some o):
 sortI (ownN l (Qadf s.Set (atA (Qac9 b (l.take i))) o.At o.Tile 4) o.At 4)=ndK l (Qadf s.Set (atA (Qac9 b (l.take i))) o.At o.Tile 4) o.At i:=by
 obtain⟨m,hm⟩: ∃m,m=Qadf s.Set (atA (Qac9 b (l.take i))) o.At o.Tile 4:=⟨_,rfl⟩;rw[<-hm];have hil:i<l.length:=(Zaj.1 ho).1;have hd:=Qaf6 h;have early: ∀d:Nat,d<4->hasI m d=true-> ∀k:Nat,l[k]?.map Opt.At=some (Qf7 o.At d)->k<i:=by
  intro d hd4 hb k hk;rcases ZbA k i with hlt|hge
  .exact hlt
  exfalso;rw[hm,has_mask _ _ _ _ d hd4,Zav] at hb;have h0:0<=atA (Qac9 b (l.take i)) (Qf7 o.At d):=by
   simp only[Quh] at hb;split at hb
   .assumption
   .omega
  obtain⟨x,hx,hxq⟩:=at_mem h0;cases hlk:l[k]? with
  |none=>rw[hlk] at hk;cases hk
  |some y=>
   rw[hlk] at hk;have hy:y.At=Qf7 o.At d:=by simpa using hk
   have h1:=(Qadk (h k y hlk).1).2.2.2.2.2;refine h1 x ?_ (hxq.trans hy.symm);rw[Qaei] at hx⊢;rcases hx with hx|⟨z,hz,e⟩
   .exact .inl hx
   .refine .inr ⟨z,?_,e⟩;obtain⟨j,hj⟩:=Zbx.1 hz;have hji:j<i:=by
     have:=(Zaj.1 hj).1
     simp at this;omega
    rw[Zbx];exact⟨j,by rw[Zdx hji] at hj;rw[Zdx (by omega)];exact hj⟩
 have hmem: ∀x,x∈ownN l m o.At 4↔x∈ndK l m o.At i:=by
  intro x;rw[Qafg,Qaem i (by omega)];constructor
  .rintro⟨d,h1,h2,h3,h4⟩;have h5:=Qae5 h4 h3;exact⟨x.toNat,d,early d h1 h2 _ h5,h1,by omega,h2,h5⟩
  .rintro⟨k,d,h1,h2,h3,h4,h5⟩;exact⟨d,h2,h4,by omega,by rw[idxO_get hd h5,h3]⟩
 have hnd: ∀n,n<=4->(ownN l m o.At n).Nodup:=by
  intro n;induction n with
  |zero=>intro _;simp[ownN]
  |succ n ih=>
   intro hn;simp only[ownN];split
   .rename_i c;rw[Zck];refine⟨ih (by omega),by simp,?_⟩;intro a ha z hz haz;rw[Zao] at hz;subst haz hz;rw[Qafg] at ha;obtain⟨d,h1,h2,h3,h4⟩:=ha;have e1:=Qae5 h4 h3;have e2:=Qae5 rfl h3
    have:=Qaf3 (p:=o.At) (d:=d) (e:=n) (by omega) (by omega) (Zaa (e1.symm.trans e2))
    omega
   .rw[ZaK];exact ih (by omega)
 have hpw:=ndK_pw (l:=l) (m:=m) (p:=o.At) i (by omega);have hnd2:(ndK l m o.At i).Nodup:=ZcR.2 (hpw.imp (fun h=>by omega));have hp:(ownN l m o.At 4).Perm (ndK l m o.At i):=(List.perm_ext_iff_of_nodup (hnd 4 (Zam _)) hnd2).2 hmem;exact Zep (le:=fun x y=>x<=y) (fun a z _ _ h1 h2=>Int.le_antisymm h1 h2) (sortI_pw _) (hpw.imp (fun h=>by omega)) ((Qacq _).trans hp)
theorem bind_law(s:Qar)(b:Asm)(o:Opt):Qjm s.Set b o.At o.Tile 4=Qhs s.Set (atA b) o.At o.Tile 4:=(Qae8 ..).symm
def seqP(s:Qar)(l:List Opt):Prop:=setP s.Set/\Qn7 s.Set s.Seed/\s.Set.Tiles.length<=160/\s.Seed.Tiles.length<=1000000/\Qaec s s.Seed l/\l.length<=500
theorem shl_val{d:Nat}(hd:d<4):IntKind.i64.wrap (1*2^min d IntKind.i64.bits)=2^d:=by
 rcases (by omega:d=0\/d=1\/d=2\/d=3) with rfl|rfl|rfl|rfl<;>decide
theorem Qaew{d:Nat}(hd:d<4):(2:Int)^d<=8:=by
 rcases (by omega:d=0\/d=1\/d=2\/d=3) with rfl|rfl|rfl|rfl<;>decide
theorem Qaee(s:Qaa)(f:Qae->Int)(p:Qae)(t d:Int):0<Quh s f p t d↔(0<=f (Qf7 p d)/\0<Qfn s t d (f (Qf7 p d))):=by
 by_cases c:0<=f (Qf7 p d)
 .have e:Quh s f p t d=Qfn s t d (f (Qf7 p d)):=Zaq c;rw[e];exact⟨fun h=>⟨c,h⟩,fun h=>h.2⟩
 .have e:Quh s f p t d=0:=Zai c;rw[e];exact⟨fun h=>by omega,fun h=>(c h.1).elim⟩
theorem maskF_s(s:Qaa)(f:Qae->Int)(p:Qae)(t:Int)(d:Nat)(h:0<=f (Qf7 p d))(h2:0<Qfn s t d (f (Qf7 p d))):Qadf s f p t (d+1)=Qadf s f p t d+2^d:=by
 simp only[Qadf];rw[Zaq ((Qaee ..).2 ⟨h,h2⟩)]
theorem Qaek(s:Qaa)(f:Qae->Int)(p:Qae)(t:Int)(d:Nat)(h: ¬(0<=f (Qf7 p d)/\0<Qfn s t d (f (Qf7 p d)))):Qadf s f p t (d+1)=Qadf s f p t d:=by
 simp only[Qadf];rw[Zai (fun q=>h ((Qaee ..).1 q)),Int.add_zero]
def l10Inputs.ar:List PK->Option (Qar×(List Opt)):=a2 (kP Qar.d 4) (kS Opt.d)
def l10Inputs.ae(a:Qar×(List Opt)):List PK:=[.ptr (Qar.c a.1),.val (.sl false 3 (a.2.map Opt.c))]
def l10Inputs.fv(a:Qar×(List Opt)):(List Int)×(List Int):=(fun s l=>(insS s s.Seed l,smsS s s.Seed l)) (a.1) (a.2)
def l10Inputs.row:Row:=vrow l10Inputs.ar (fun a=>seqP a.1 a.2) (fun a=>(fun b=>D.tup [(fun b=>D.sl false 1 (b.map intC)) (b.1),(fun b=>D.sl false 1 (b.map intC)) (b.2)]) (l10Inputs.fv a))
def l10Inputs.q:=vq l10Inputs.row rfl
def YaT:=J @l10Inputs.ae.eq_1 (J @l10Inputs.fv.eq_1 (J @l03Own.q (J @l03Own.ar.eq_1 (J @l03Own.fv.eq_1 (J @l01Step.q (J @l01Step.ar.eq_1 (J @l01Step.fv.eq_1 (J @l03At.q (J @l03At.ar.eq_1 (J @l03At.fv.eq_1 (J @l02Bond.q (J @l02Bond.ar.eq_1 (J @l02Bond.fv.eq_1 (J @l06Binding.q (J @l06Binding.ar.eq_1 (J @l06Binding.fv.eq_1 (J @l03Put.q (J @l03Put.ar.eq_1 @l03Put.fv.eq_1))))))))))))))))))
theorem l10Inputs.ok:Qas Tryz.prog 82 l10Inputs.row:=by
 refine Qaj Qaq (tC l03Own.ok (tC l01Step.ok (tC l03At.ok (tC l02Bond.ok (tC l06Binding.ok (tC l03Put.ok tN)))))) Tryz.func82 rfl (by kernel_rfl) (by kernel_rfl) (ar:=l10Inputs.ar) (ae:=l10Inputs.ae) (Qaca (Qacc 4 Qar.d_le) (Qacb 3 Opt.d_le (fun _=>rfl))) (n:=2) (fun _=>rfl) (by decide) (rc:=(Qfa (vSl intD) (vSl intD))) (re:=(fun b=>D.tup [(fun b=>D.sl false 1 (b.map intC)) (b.1),(fun b=>D.sl false 1 (b.map intC)) (b.2)])) (Qbz (Qe8 Qb3 (fun _=>rfl)) (Qe8 Qb3 (fun _=>rfl))) (f:=l10Inputs.fv) ?_;intro a hpre;simp only[Tryz.f82,Option.getD];simp (maxSteps:=10^7) (disch:=omega) only[ZZ,simprocAttr,rch,YaT];obtain⟨s,l⟩:=a;simp only at hpre⊢;obtain⟨h1,h2,h3,h4,h5,h6⟩:=hpre;refine⟨h4,?_⟩;refine Qay.ren ⟨{k:Nat//k<=l.length},fun k=>⟨[(9,.im (.int .i64 k.1)),(8,.own 7),(7,.own 6),(6,.ptr 3 0),(0,.ptr 0 0),(1,.im (.sl false 3 (l.map Opt.c)))],[(7,(true,.arr 2 1 ((smsS s s.Seed (l.take k.1)).map intC))),(6,(true,.arr 2 1 ((insS s s.Seed (l.take k.1)).map intC))),(3,(true,.cells 42 [.im (.sl false 3 ((Qac9 s.Seed (l.take k.1)).Tiles.map Qab.c))])),(0,(false,.view (Qar.c s)))],8⟩,fun k=>l.length - k.1,fun k=>⟨by simp[Qad.good,belT,belH,Qam,AV.bel,belL],by simp⟩,⟨⟨0,by simp⟩,[(7,some 5),(6,some 4)],?_⟩,fun k=> ?_⟩
 .simp only[subP];simp (maxSteps:=10^7) (disch:=omega) only[ZZ,simprocAttr,rch,YaT,ZbQ,insS,smsS,Qac9,ZaQ]
  try simp
 obtain⟨k,hk1⟩:=k;simp (maxSteps:=10^7) (disch:=omega) only[ZZ,simprocAttr,rch,YaT,sub,Qal];intro _;obtain⟨b,hb⟩: ∃b,b=Qac9 s.Seed (l.take k):=⟨_,rfl⟩;have hbi:Qn7 s.Set b:=by rw[hb];exact Qafb h3 h2 h5 k hk1
 rw[<-hb];refine⟨fun hk=>⟨hk,fun x hx=> ?_⟩,fun hk=> ?_⟩
 .have hc:=Qadk (h5 k x hx).1;rw[<-hb] at hc;obtain⟨g1,g2,g3,g4,g5,g6⟩:=hc;refine Qay.old ⟨{d:Nat//d<=4},fun d=>⟨[(12,.im (.int .i64 d.1)),(11,.im (.int .i64 (Qadf s.Set (atA b) x.At x.Tile d.1))),(10,.ptr 8 0),(9,.im (.int .i64 k)),(8,.own 7),(7,.own 6),(6,.ptr 3 0),(0,.ptr 0 0),(1,.im (.sl false 3 (l.map Opt.c)))],[(8,(true,.cells 82 ((Opt.c x).map .im))),(7,(true,.arr 2 1 ((smsS s s.Seed (l.take k)).map intC))),(6,(true,.arr 2 1 ((insS s s.Seed (l.take k)).map intC))),(3,(true,.cells 42 [.im (.sl false 3 (b.Tiles.map Qab.c))])),(0,(false,.view (Qar.c s)))],9⟩,fun d=>4 - d.1,fun d=>⟨by simp[Qad.good,belT,belH,Qam,AV.bel,belL,Opt.c],by simp⟩,⟨⟨0,by simp⟩,by simp (maxSteps:=10^7) (disch:=omega) only[ZZ,simprocAttr,rch,YaT,sub,Qadf]⟩,fun d=> ?_⟩;obtain⟨d,hd1⟩:=d;simp (maxSteps:=10^7) (disch:=omega) only[ZZ,simprocAttr,rch,YaT,sub,Qal];have hmb:=Qafe s.Set (atA b) x.At x.Tile d;refine⟨fun hd=> ?_,fun hd=> ?_⟩
  .have hd4:d<4:=by omega
   have hp8:=Qaew hd4;refine⟨⟨g2,by omega⟩,hbi.1,fun c1=>⟨⟨h1,g5,⟨by omega,by omega⟩,Qafx hbi _ c1⟩,fun c2=> ?_,fun c2=> ?_⟩,fun c1=> ?_⟩
   .refine⟨⟨d+1,by omega⟩,by simp only;omega,by rw[Qak (by omega) (by omega)];simp only;omega,?_⟩;rw[shl_val hd4,Qak (by omega) (by omega),maskF_s _ _ _ _ _ c1 c2]
   .refine⟨⟨d+1,by omega⟩,by simp only;omega,by rw[Qak (by omega) (by omega)];simp only;omega,?_⟩;rw[Qaek _ _ _ _ _ (fun h=>c2 h.2)]
   .refine⟨⟨d+1,by omega⟩,by simp only;omega,by rw[Qak (by omega) (by omega)];simp only;omega,?_⟩;rw[Qaek _ _ _ _ _ (fun h=>c1 h.1)]
  .have hd4:d=4:=by omega
   subst hd4;have hbl:=(h5 k x hx).2;rw[<-hb] at hbl;refine⟨by simp[OneR,allD,D.one],by rw[Qadv,Zax];omega,⟨h1,hbi,g2,g5⟩,by simp[OneR,allD,D.one],by rw[Qael,Zax];omega,by omega,⟨k+1,by omega⟩,[(7,some 12),(6,some 10)],by simp only;omega,?_⟩;simp only[subP,Qwe hx,Qad8,Qad9,Qadp,<-hb];simp (maxSteps:=10^7) (disch:=omega) only[ZZ,simprocAttr,rch,YaT,Zah,Zag];refine⟨by rw[Qak (by omega) (by omega)];omega,?_,?_⟩
   .simp[intC,bind_law]
   .simp[intC]
 .rw[ZaA (by omega)]
  try trivial
def Qadm(s:Qar)(l:List Opt):List (List Int):=Qade l (insS s s.Seed l) l.length
theorem has_eq(m:Int)(d:Nat):(hasI m d=true)=(andI .i64 (m.fdiv (2^min d IntKind.i64.bits)) 1=1):=by
 simp only[hasI,Zav,Zak];rfl
theorem pt_eq2{p q:Qae}:((p.X==q.X)=true/\(p.Y==q.Y)=true)↔p=q:=by
 cases p;cases q;simp
theorem ndK_len(l:List Opt)(m:Int)(p:Qae): ∀n,(ndK l m p n).length<=n
 |0=>by simp[ndK]
 |n+1=>by
  have h1:=ndK_len l m p n;have h2:=(Qaen 4 (Zam _) (q:=(l[n]?.map Opt.At).getD ⟨0,0⟩) (m:=m) (p:=p) (k:=n)).1;simp only[ndK,ZaH];omega
theorem Qadb(l:List Opt)(ins:List Int): ∀n,(Qade l ins n).length=n
 |0=>rfl
 |n+1=>by simp only[Qade,ZaH,Qadb l ins n,Zdg]
def l12Needs.ar:List PK->Option (Qar×(List Opt)):=a2 (kP Qar.d 4) (kS Opt.d)
def l12Needs.ae(a:Qar×(List Opt)):List PK:=[.ptr (Qar.c a.1),.val (.sl false 3 (a.2.map Opt.c))]
def l12Needs.fv(a:Qar×(List Opt)):List (List Int):=(Qadm) (a.1) (a.2)
def l12Needs.row:Row:=vrow l12Needs.ar (fun a=>seqP a.1 a.2) (fun a=>(fun b=>D.sl false 1 (b.map Qcd)) (l12Needs.fv a))
def l12Needs.q:=vq l12Needs.row rfl
def YaU:=J @l12Needs.ae.eq_1 (J @l12Needs.fv.eq_1 (J @l10Inputs.q (J @l10Inputs.ar.eq_1 (J @l10Inputs.fv.eq_1 (J @l01Step.q (J @l01Step.ar.eq_1 @l01Step.fv.eq_1))))))
theorem l12Needs.ok:Qas Tryz.prog 43 l12Needs.row:=by
 refine Qaj Qaq (tC l10Inputs.ok (tC l01Step.ok tN)) Tryz.func43 rfl (by kernel_rfl) (by kernel_rfl) (ar:=l12Needs.ar) (ae:=l12Needs.ae) (Qaca (Qacc 4 Qar.d_le) (Qacb 3 Opt.d_le (fun _=>rfl))) (n:=2) (fun _=>rfl) (by decide) (rc:=(vSl Qpb)) (re:=(fun b=>D.sl false 1 (b.map Qcd))) (Qe8 Qj4 (fun _=>rfl)) (f:=l12Needs.fv) ?_;intro a hpre;simp only[Tryz.f43,Option.getD];simp (maxSteps:=10^7) (disch:=omega) only[ZZ,simprocAttr,rch,YaU];obtain⟨s,l⟩:=a;simp only at hpre⊢;refine⟨hpre,?_⟩;obtain⟨h1,h2,h3,h4,h5,h6⟩:=hpre;obtain⟨ins,hins⟩: ∃ins,ins=insS s s.Seed l:=⟨_,rfl⟩;have hil:ins.length=l.length:=by rw[hins,Qadv]
 simp only[Qadm,<-hins];refine Qay.frr ⟨{k:Nat//k<=l.length},fun k=>⟨[(8,.im (.int .i64 k.1)),(7,.own 3),(5,.im (.sl false 1 (ins.map intC))),(0,.ptr 0 0),(1,.im (.sl false 3 (l.map Opt.c)))],[(3,(true,.arrA 51 1 (imR ((Qade l ins k.1).map Qcd)))),(0,(false,.view (Qar.c s)))],4⟩,fun k=>l.length - k.1,fun k=>⟨by simp[Qad.good,belT,belH,Qam,AV.bel,belL,Qxu],by simp⟩,⟨⟨0,by simp⟩,[],[(3,some 2)],?_⟩,fun k=> ?_⟩
 .simp only[subP];simp (maxSteps:=10^7) (disch:=omega) only[ZZ,simprocAttr,rch,YaU,Zah,Zag,Qade,ZaQ,Qafa]
  try simp
 obtain⟨k,hk1⟩:=k;simp (maxSteps:=10^7) (disch:=omega) only[ZZ,simprocAttr,rch,YaU,sub,Qal,hil];intro _;refine⟨fun hk=> ?_,fun hk=> ?_⟩
 .obtain⟨o,ho⟩: ∃o,l[k]? =some o:=⟨_,Zac hk⟩;obtain⟨mi,hmi⟩: ∃mi,ins[k]? =some mi:=⟨_,Zac (by omega)⟩;have hsm:=(Qadk (h5 k o ho).1).2.1;refine Qay.ren ⟨{m:Nat//m<=k},fun m=>⟨[(10,.im (.int .i64 m.1)),(9,.own 5),(8,.im (.int .i64 k)),(7,.own 3),(5,.im (.sl false 1 (ins.map intC))),(0,.ptr 0 0),(1,.im (.sl false 3 (l.map Opt.c)))],[(5,(true,.arr 2 1 ((ndK l mi o.At m.1).map intC))),(3,(true,.arrA 51 1 (imR ((Qade l ins k).map Qcd)))),(0,(false,.view (Qar.c s)))],6⟩,fun m=>k - m.1,fun m=>⟨by simp[Qad.good,belT,belH,Qam,AV.bel,belL,Qxu],by simp⟩,⟨⟨0,by simp⟩,[(5,some 4)],?_⟩,fun m=> ?_⟩
  .simp only[subP];simp (maxSteps:=10^7) (disch:=omega) only[ZZ,simprocAttr,rch,YaU,Zah,Zag,ndK,ZaQ,Qsg]
   try simp
  obtain⟨m,hm1⟩:=m;simp (maxSteps:=10^7) (disch:=omega) only[ZZ,simprocAttr,rch,YaU,sub,Qal];refine⟨fun hm=> ?_,fun hm=> ?_⟩
  .obtain⟨q,hq⟩: ∃q,l[m]? =some q:=⟨_,Zac (by omega)⟩;refine Qay.ren ⟨{d:Nat//d<=4},fun d=>⟨[(11,.im (.int .i64 d.1)),(10,.im (.int .i64 m)),(9,.own 6),(8,.im (.int .i64 k)),(7,.own 3),(5,.im (.sl false 1 (ins.map intC))),(0,.ptr 0 0),(1,.im (.sl false 3 (l.map Opt.c)))],[(6,(true,.arr 2 1 ((ndK l mi o.At m++nd1 q.At mi o.At m d.1).map intC))),(3,(true,.arrA 51 1 (imR ((Qade l ins k).map Qcd)))),(0,(false,.view (Qar.c s)))],7⟩,fun d=>4 - d.1,fun d=>⟨by simp[Qad.good,belT,belH,Qam,AV.bel,belL,Qxu],by simp⟩,⟨⟨0,by simp⟩,[(6,some 5)],?_⟩,fun d=> ?_⟩
   .simp only[subP];simp (maxSteps:=10^7) (disch:=omega) only[ZZ,simprocAttr,rch,YaU,Zah,Zag,nd1,ZaK,Qsg]
    try simp
   obtain⟨d,hd1⟩:=d;simp (maxSteps:=10^7) (disch:=omega) only[ZZ,simprocAttr,rch,YaU,sub,Qal,hil];have hl1:=ndK_len l mi o.At m;have hl2:=Qaen d hd1 (q:=q.At) (m:=mi) (p:=o.At) (k:=m);have hR:(ndK l mi o.At m++nd1 q.At mi o.At m d).length<=1000:=by rw[ZaH];omega
   refine⟨fun hd=>⟨hk,fun x hx=> ?_⟩,fun hd=> ?_⟩
   .obtain rfl:mi=x:=Zaa (hmi.symm.trans hx);simp only[<-has_eq];refine⟨fun c1=>⟨hk,fun y hy=> ?_⟩,fun c1=>⟨⟨d+1,by omega⟩,[(6,some 6)],by simp only;omega,?_⟩⟩
    .obtain rfl:o=y:=Zaa (ho.symm.trans hy);refine⟨⟨hsm,by omega⟩,by omega,fun z hz=> ?_⟩;obtain rfl:q=z:=Zaa (hq.symm.trans hz);refine⟨fun c2=>⟨by simp[OneR,allD,D.one],by omega,⟨d+1,by omega⟩,[(6,some 8)],by simp only;omega,?_⟩,fun c2=>⟨⟨d+1,by omega⟩,[(6,some 6)],by simp only;omega,?_⟩⟩
     .rw[pt_eq2] at c2;simp only[subP];simp (maxSteps:=10^7) (disch:=omega) only[ZZ,simprocAttr,rch,YaU,Zah,Zag,Qsg];refine⟨by rw[Qak (by omega) (by omega)];omega,?_⟩;simp only[nd1];rw[Zaq ⟨c1,c2⟩];simp[intC]
     .rw[pt_eq2] at c2;simp only[subP];simp (maxSteps:=10^7) (disch:=omega) only[ZZ,simprocAttr,rch,YaU,Zah,Zag,Qsg];refine⟨by rw[Qak (by omega) (by omega)];omega,?_⟩;simp only[nd1];rw[Zai (fun h=>c2 h.2),ZaK]
    .simp only[subP];simp (maxSteps:=10^7) (disch:=omega) only[ZZ,simprocAttr,rch,YaU,Zah,Zag,Qsg];refine⟨by rw[Qak (by omega) (by omega)];omega,?_⟩;simp only[nd1];rw[Zai (fun h=>c1 h.1),ZaK]
   .have hd4:d=4:=by omega
    subst hd4;refine⟨⟨m+1,by omega⟩,[(5,some 6)],by simp only;omega,?_⟩;simp only[subP];simp (maxSteps:=10^7) (disch:=omega) only[ZZ,simprocAttr,rch,YaU,Zah,Zag,Qsg];refine⟨by rw[Qak (by omega) (by omega)];omega,?_⟩;simp only[ndK,hq,ZaM,Zad]
  .have hmk:m=k:=by omega
   subst hmk;have hnl:=Qadb l ins m;refine⟨by simp[belL,AV.bel],by simp[OneR,Qhz,AV.one],by omega,by rw[ZcE,Qaeq];simp[belL,AV.bel],⟨m+1,by omega⟩,[5],[(3,some 7)],by simp only;omega,?_⟩;have e1:Qade l ins (m+1)=Qade l ins m++[ndK l mi o.At m]:=by
    simp only[Qade,hmi,ho,ZaM,Zad]
   simp only[subP];simp (maxSteps:=10^7) (disch:=omega) only[ZZ,simprocAttr,rch,YaU,Zah,Zag,Qzl,Qzb,e1,ZaZ,Zal,ZaQ];rw[Qak (by omega) (by omega)];refine⟨by simp,?_⟩
   have:=Qzo [(3,some 7)] ((Qade l ins m).map Qcd++[[D.sl false 1 ((ndK l mi o.At m).map intC)]])
   simpa only[imR,ZaZ,Zal,ZaQ] using this
 .have hkl:k=l.length:=by omega
  subst hkl;simp (maxSteps:=10^7) (disch:=omega) only[ZZ,simprocAttr,rch,YaU,Qae4]
theorem rm_free{s:Qar}{t:List (Qae×Int)}{a:Asm}{k:Nat}{o:Opt}(h:RM t a k)(ha:Qn7 s.Set a)(c1:canS s a o=true):lkP t o.At=none/\0<=o.Tile:=by
 simp only[canS,Zaf,Zav] at c1;obtain⟨d1,d2,d3,_⟩:=c1;have hv:0<=o.Tile:=by
  simp only[Qau,Zaf,Zav] at d2;exact d2.1
 refine⟨?_,hv⟩;have h1:Qbw t o.At=atA a o.At:=congrFun h.at o.At;have h2:=(idx_at ha.2 o.At).1 d3;cases hq:lkP t o.At with
 |none=>rfl
 |some v=>
  exfalso;have h3:=h.pos _ (Qac0 hq);simp only[Qbw,hq,Zad] at h1;simp only at h3;omega
def plD:D->Option (Option Pld)
 | .ref ds=>(Pld.d (ds.take 8)).map some
 | .nilp=>some none
 |_=>none
def plE:Option Pld->D
 |some x=> .ref (Pld.c x)
 |none=> .nilp
theorem plD_le: ∀d b,plD d=some b->Le d (plE b):=by
 intro d b h;unfold plD at h;split at h
 .simp only[ZaB] at h;obtain⟨x,h1,rfl⟩:=h;exact Qil (LeP.trans_take (Pld.d_le _ _ h1))
 .obtain rfl:=Zaa h;exact Le.refl _
 .cases h
theorem plD_ref(x:Pld):plD (.ref (Pld.c x))=some (some x):=by
 show (Pld.d (Pld.c x)).map some=_;rw[Pld.d_c];rfl
theorem bindF_s(s:Qaa)(f:Qae->Int)(p:Qae)(t:Int)(d:Nat)(h:0<=f (Qf7 p d)):Qhs s f p t (d+1)=Qhs s f p t d+Qfn s t d (f (Qf7 p d)):=by
 have e:Quh s f p t d=Qfn s t d (f (Qf7 p d)):=Zaq h;simp only[Qhs,e]
theorem bindF_n{s:Qaa}(hs:setP s)(f:Qae->Int)(p:Qae)(t:Int)(d:Nat)(h: ¬(0<=f (Qf7 p d)/\0<Qfn s t d (f (Qf7 p d)))):Qhs s f p t (d+1)=Qhs s f p t d:=by
 have h1:=Qxd hs f p t d;have h2: ¬0<Quh s f p t d:=fun q=>h ((Qaee ..).1 q)
 simp only[Qhs];omega
def Qae2(s:Qar)(l:List Opt):Option Pld×Int:=if (seqS s l).2.2≠0 then (none,(seqS s l).2.2) else (some ⟨s,l,(seqS s l).1,insS s s.Seed l,smsS s s.Seed l⟩,0)
theorem Qafm{s:Qar}{l:List Opt}(h:(seqS s l).2.2=0):(seqS s l).1=Qac9 s.Seed l/\seqP s l/\Qjc s=true:=by
 obtain⟨h1,h2⟩:=seq_ok h;obtain⟨⟨q1,q2,q3,q4⟩,_⟩:=Qacj h1;have e:seqS s l=Qacg s s.Seed l 0:=by
  simp only[seqS];rw[Zai (by rw[h1];decide),Zai (by omega)]
 rw[e] at h⊢;obtain⟨p1,p2⟩:=Qaez l s.Seed 0 h;exact⟨by rw[p1],⟨q1,q2,q3,q4,p2,h2⟩,h1⟩
def play_.ar:List PK->Option (Qar×(List Opt)):=a2 (kR Qar.d) (kS Opt.d)
def play_.ae(a:Qar×(List Opt)):List PK:=[.val (.agg (Qar.c a.1)),.val (.sl false 3 (a.2.map Opt.c))]
def play_.fv(a:Qar×(List Opt)):(Option Pld)×Int:=(Qae2) (a.1) (a.2)
def play_.row:Row:=vrow play_.ar (fun a=>Qf6 a.1.Set) (fun a=>(fun b=>D.tup [(plE) (b.1),(D.int .i64) (b.2)]) (play_.fv a))
def play_.q:=vq play_.row rfl
def YaV:=J @play_.ae.eq_1 (J @play_.fv.eq_1 (J @PlayI_.q (J @PlayI_.ar.eq_1 (J @PlayI_.fv.eq_1 (J @step_.q (J @step_.ar.eq_1 (J @step_.fv.eq_1 (J @step_.re.eq_1 (J @catC.q (J @catC.ar.eq_1 (J @catC.fv.eq_1 (J @bond_.q (J @bond_.ar.eq_1 (J @bond_.fv.eq_1 @bond_.re.eq_1))))))))))))))
theorem play_.ok:Qas Tryz.prog 47 play_.row:=by
 refine Qaj Qaq (tC PlayI_.ok (tC newC.ok (tC step_.ok (tC catC.ok (tC bond_.ok (tC putC.ok tN)))))) Tryz.func47 rfl (by kernel_rfl) (by kernel_rfl) (ar:=play_.ar) (ae:=play_.ae) (Qaca (Qab8 Qar.d_le) (Qacb 3 Opt.d_le (fun _=>rfl))) (n:=2) (fun _=>rfl) (by decide) (rc:=(Qfa (plD) (vInt))) (re:=(fun b=>D.tup [(plE) (b.1),(D.int .i64) (b.2)])) (Qbz (plD_le) (Qa3)) (f:=play_.fv) ?_;intro a hpre;simp only[Tryz.f47,Option.getD];simp (maxSteps:=10^7) (disch:=omega) only[ZZ,simprocAttr,rch,YaV];obtain⟨s,l⟩:=a;simp only at hpre⊢;refine⟨hpre,?_⟩;simp only[seq_law];by_cases c0:(seqS s l).2.2=0
 case neg=>
  rw[Zaq c0];simp only[Qae2,plD,Zbt];rw[Zaq c0]
 rw[Zai (fun h=>h c0)];have eR:Qae2 s l=(some ⟨s,l,(seqS s l).1,insS s s.Seed l,smsS s s.Seed l⟩,0):=by
  simp only[Qae2];rw[Zai (fun h=>h c0)]
 obtain⟨hE,⟨q1,q2,q3,q4,q5,q6⟩,hso⟩:=Qafm c0;obtain⟨_,q7,q8⟩:=Qacj hso;have hbp:=Qof (s:=s.Set) (a:=s.Seed) (by rw[q7,q8];rfl);have hnp:newC.pre (s,s.Seed):=⟨q1,by simp only;omega,fun y hy=>⟨q2.2 y hy,hbp.1.2.2.2 y hy⟩⟩;obtain⟨e,he⟩: ∃e,e=(seqS s l).1:=⟨_,rfl⟩;rw[eR];simp only[<-he];refine orow.os (s,s.Seed) [] hnp (fun j=>by simp[domB,hget]) rfl rfl ?_ ?_
 .simp (maxSteps:=10^7) (disch:=omega) only[ZZ,simprocAttr,rch,YaV,newC.ca,Qer,Qar.c,Asm.c]
 simp (maxSteps:=10^7) (disch:=omega) only[ZZ,simprocAttr,rch,YaV,newC.H1,sub,ZaR,Zbm];intro _;refine Qay.ren ⟨{k:Nat×List (Qae×Int)×List (Qae×List Int)//k.1<=l.length/\ ∃n,RM k.2.1 (Qac9 s.Seed (l.take k.1)) n},fun k=>⟨[(39,.im (.int .i64 k.1.1)),(38,.im (.int .i64 l.length)),(37,.im (.sl false 3 (l.map Opt.c))),(10,.ptr 7 0),(9,.ptr 2 0),(5,.im (.int .i64 0)),(2,.ptr 0 0)],[(2,(true,.cells 133 [.im (.sl false 2 (s.Set.Glues.map Glue.c)),.im (.sl false 2 (s.Set.Tiles.map Tile.c)),.im (.sl false 3 (s.Seed.Tiles.map Qab.c)),.im (.int .i64 s.Temperature),.im (.sl false 3 (l.map Opt.c)),.im (.sl false 3 (e.Tiles.map Qab.c)),.own 8,.own 9])),(9,(true,.arr 2 1 ((smsS s s.Seed (l.take k.1.1)).map intC))),(8,(true,.arr 2 1 ((insS s s.Seed (l.take k.1.1)).map intC))),(7,(true,.cells 185 [.im (.sl false 2 (s.Set.Glues.map Glue.c)),.im (.sl false 2 (s.Set.Tiles.map Tile.c)),.im (.sl false 3 (s.Seed.Tiles.map Qab.c)),.im (.int .i64 s.Temperature),.mp 5,.mp 6])),
  (5,(true,.map ⟨true,[.int .i64,.int .i64]⟩ (k.1.2.1.map Qbe))),(6,(true,.map ⟨true,[.int .i64,.int .i64]⟩ (k.1.2.2.map Qbc))),(0,(true,.cells 44 ((Qar.c s).map .im)))],10⟩,fun k=>l.length - k.1.1,fun k=>⟨by simp[Qad.good,belT,belH,Qam,AV.bel,belL,Qar.c],by simp⟩,⟨⟨(0,(Qui s s.Seed).Tl,(Qui s s.Seed).Op),by simp only;exact⟨ZbE _,_,RM.of q2.1 (fun x hx=>(q2.2 x hx).1)⟩⟩,[(9,none),(8,none)],?_⟩,fun k=> ?_⟩
 .simp only[subP];simp (maxSteps:=10^7) (disch:=omega) only[ZZ,simprocAttr,rch,YaV,ZbQ,insS,smsS,Qac9,ZaQ]
  try simp
 obtain⟨⟨k,tl,op⟩,hk1,n,hrm⟩:=k;simp only at hk1 hrm;simp (maxSteps:=10^7) (disch:=omega) only[ZZ,simprocAttr,rch,YaV,sub,Qal];obtain⟨b,hb⟩: ∃b,b=Qac9 s.Seed (l.take k):=⟨_,rfl⟩;have hbi:Qn7 s.Set b:=by rw[hb];exact Qafb q3 q2 q5 k hk1
 rw[<-hb] at hrm;have hat:=hrm.at;refine⟨fun hk=>⟨hk,fun x hx=> ?_⟩,fun hk=> ?_⟩
 .obtain⟨cS,cL⟩:=q5 k x hx;rw[<-hb] at cS cL;obtain⟨g1,g2,g3,g4,g5,g6⟩:=Qadk cS;refine Qay.old ⟨{d:Nat//d<=4},fun d=>⟨[(43,.im (.int .i64 d.1)),(14,.im (.int .i64 (Qhs s.Set (atA b) x.At x.Tile d.1))),(13,.im (.int .i64 (Qadf s.Set (atA b) x.At x.Tile d.1))),(12,.ptr 10 0),(39,.im (.int .i64 k)),(38,.im (.int .i64 l.length)),(37,.im (.sl false 3 (l.map Opt.c))),(10,.ptr 7 0),(9,.ptr 2 0),(5,.im (.int .i64 0)),(2,.ptr 0 0)],[(10,(true,.cells 82 ((Opt.c x).map .im))),(2,(true,.cells 133 [.im (.sl false 2 (s.Set.Glues.map Glue.c)),.im (.sl false 2 (s.Set.Tiles.map Tile.c)),.im (.sl false 3 (s.Seed.Tiles.map Qab.c)),.im (.int .i64 s.Temperature),.im (.sl false 3 (l.map Opt.c)),.im (.sl false 3 (e.Tiles.map Qab.c)),.own 8,.own 9])),(9,(true,.arr 2 1 ((smsS s s.Seed (l.take k)).map intC))),(8,(true,.arr 2 1 ((insS s s.Seed (l.take k)).map intC))),(7,(true,.cells 185 [.im (.sl false 2 (s.Set.Glues.map Glue.c)),.im (.sl false 2 (s.Set.Tiles.map Tile.c)),.im (.sl false 3 (s.Seed.Tiles.map Qab.c)),.im (.int .i64 s.Temperature),.mp 5,.mp 6])),
   (5,(true,.map ⟨true,[.int .i64,.int .i64]⟩ (tl.map Qbe))),(6,(true,.map ⟨true,[.int .i64,.int .i64]⟩ (op.map Qbc))),(0,(true,.cells 44 ((Qar.c s).map .im)))],11⟩,fun d=>4 - d.1,fun d=>⟨by simp[Qad.good,belT,belH,Qam,AV.bel,belL,Qar.c,Opt.c],by simp⟩,⟨⟨0,by simp⟩,by simp (maxSteps:=10^7) (disch:=omega) only[ZZ,simprocAttr,rch,YaV,sub,Qadf,Qhs]⟩,fun d=> ?_⟩
  obtain⟨d,hd1⟩:=d;simp (maxSteps:=10^7) (disch:=omega) only[ZZ,simprocAttr,rch,YaV,sub,Qal,hat];have hmb:=Qafe s.Set (atA b) x.At x.Tile d;have hbb:=Qwy q1 (atA b) x.At x.Tile d;have htb:=Qxd q1 (atA b) x.At x.Tile d;refine⟨fun hd=> ?_,fun hd=> ?_⟩
  .have hd4:d<4:=by omega
   have hp8:=Qaew hd4;refine⟨⟨g2,by omega⟩,fun c1=>⟨⟨q1,g5,⟨by omega,by omega⟩,Qafx hbi _ c1⟩,fun c2=> ?_,fun c2=> ?_⟩,fun c1=> ?_⟩
   .have ht:Quh s.Set (atA b) x.At x.Tile d=Qfn s.Set x.Tile d (atA b (Qf7 x.At d)):=Zaq c1;rw[ht] at htb;refine⟨⟨d+1,by omega⟩,by simp only;omega,by rw[Qak (by omega) (by omega)];simp only;omega,?_,?_⟩
    .rw[Qak (by omega) (by omega),bindF_s _ _ _ _ _ c1]
    .rw[shl_val hd4,or_bit hd4 hmb.1 hmb.2,maskF_s _ _ _ _ _ c1 c2]
   .refine⟨⟨d+1,by omega⟩,by simp only;omega,by rw[Qak (by omega) (by omega)];simp only;omega,?_,?_⟩
    .rw[bindF_n q1 _ _ _ _ (fun h=>c2 h.2)]
    .rw[Qaek _ _ _ _ _ (fun h=>c2 h.2)]
   .refine⟨⟨d+1,by omega⟩,by simp only;omega,by rw[Qak (by omega) (by omega)];simp only;omega,?_,?_⟩
    .rw[bindF_n q1 _ _ _ _ (fun h=>c1 h.1)]
    .rw[Qaek _ _ _ _ _ (fun h=>c1 h.1)]
  .have hd4:d=4:=by omega
   subst hd4;refine⟨by simp[OneR,allD,D.one],by rw[Qadv,Zax];omega,by simp[OneR,allD,D.one],by rw[Qael,Zax];omega,?_⟩;have hin:inF s.Set (Qbw tl):=by rw[hat];exact fun p hp=>Qafx hbi p hp
   have hcr:Qacu ⟨s,tl,op⟩:=⟨q1,hin,by simp only;omega⟩;obtain⟨f1,f2⟩:=rm_free hrm hbi cS;refine orow.os (⟨s,tl,op⟩,x.At,x.Tile) [7,5,6] ⟨hcr,g2,g5⟩ (fun j=>Qack _ j) rfl rfl ?_ ?_
   .simp (maxSteps:=10^7) (disch:=omega) only[ZZ,simprocAttr,rch,YaV,putC.ca,cryH,Qbk,Zbf,ZaR,Zbm]
   .simp (maxSteps:=10^7) (disch:=omega) only[ZZ,simprocAttr,rch,YaV,putC.H1,kl12,sub,putT,ZaR,Zbm];refine⟨⟨(k+1,updP tl x.At x.Tile,Qrz s (Qbw (updP tl x.At x.Tile)) (delP op x.At) x.At 4),by simp only;exact⟨by omega,_,by rw[Qwe hx,Qadp,<-hb];exact hrm.put f2 f1⟩⟩,[(9,some 14),(8,some 12)],by simp only;omega,?_⟩;simp only[subP,Qwe hx,Qad8,Qad9,<-hb];simp (maxSteps:=10^7) (disch:=omega) only[ZZ,simprocAttr,rch,YaV,Zah,Zag];refine⟨by rw[Qak (by omega) (by omega)];omega,?_,?_⟩<;>simp[intC]
 .rw[ZaA (by omega)]
  have:=plD_ref ⟨s,l,e,insS s s.Seed l,smsS s s.Seed l⟩
  simp only[Pld.c] at this;rw[this];rfl
def has_.ar:List PK->Option (Int×Int):=a2 kI kI
def has_.ae(a:Int×Int):List PK:=[.val (.int .i64 a.1),.val (.int .i64 a.2)]
def has_.fv(a:Int×Int):Bool:=(hasI) (a.1) (a.2)
def has_.row:Row:=vrow has_.ar (fun a=>0<=a.2/\a.2<=62) (fun a=>(D.bool) (has_.fv a))
def has_.q:=vq has_.row rfl
theorem has_.ok:Qas Tryz.prog 95 has_.row:=by
 refine Qaj Qaq tN Tryz.func95 rfl (by kernel_rfl) (by kernel_rfl) (ar:=has_.ar) (ae:=has_.ae) (Qaca Qab9 Qab9) (n:=2) (fun _=>rfl) (by decide) (rc:=(Qa8)) (re:=(D.bool)) (Qat) (f:=has_.fv) ?_;intro a hpre;simp only[Tryz.f95,Option.getD];simp (maxSteps:=10^7) (disch:=omega) only[ZZ,simprocAttr,rch,has_.ae,has_.fv];exact⟨hpre.1,rfl⟩
def iA1.ar:List PK->Option (Opt×Qae):=a2 (kR Opt.d) (kP Qae.d 2)
def iA1.ae(a:Opt×Qae):List PK:=[.val (.agg (Opt.c a.1)),.ptr (Qae.c a.2)]
def iA1.fv(a:Opt×Qae):Bool:=(fun o p=>decide (o.At=p)) (a.1) (a.2)
def iA1.row:Row:=vrow iA1.ar (fun a=>True) (fun a=>(D.bool) (iA1.fv a))
def iA1.q:=vq iA1.row rfl
theorem iA1.ok:Qas Tryz.prog 127 iA1.row:=by
 refine Qaj Qaq tN Tryz.func127 rfl (by kernel_rfl) (by kernel_rfl) (ar:=iA1.ar) (ae:=iA1.ae) (Qaca (Qab8 Opt.d_le) (Qacc 2 Qae.d_le)) (n:=2) (fun _=>rfl) (by decide) (rc:=(Qa8)) (re:=(D.bool)) (Qat) (f:=iA1.fv) ?_;intro a hpre;simp only[Tryz.f127,Option.getD];simp (maxSteps:=10^7) (disch:=omega) only[ZZ,simprocAttr,rch,iA1.ae,iA1.fv];obtain⟨⟨⟨x,y⟩,u⟩,⟨z,w⟩⟩:=a;rw[ZcQ];simp
def IdxO_.ar:List PK->Option ((List Opt)×Qae)
 |[.val (.sl _ _ x0),.val (.fn 127 [] [.ref x1_0])]=>(decR Opt.d x0).bind fun y0=>(Qae.d (x1_0.take 2)).bind fun y1_0=>some (y0,y1_0)
 |_=>none
def IdxO_.ae(a:(List Opt)×Qae):List PK:=[.val (.sl false 3 (a.1.map Opt.c)),.val (.fn 127 [] [.ref (Qae.c a.2)])]
theorem IdxO_.le: ∀ps a,IdxO_.ar ps=some a->LeKL ps (IdxO_.ae a):=by
 intro ps a h;unfold IdxO_.ar at h;split at h
 .simp only[ZaO,Zab] at h;obtain⟨y0,h0,y1_0,h1_0,rfl⟩:=h;exact⟨Qbf (Qa2 Opt.d_le _ _ h0) (by simp only[Zay];rintro r ⟨y,_,rfl⟩;rfl),Qos ⟨Qil (LeP.trans_take (Qae.d_le _ _ h1_0)),trivial⟩,trivial⟩
 .cases h
def IdxO_.fv(a:(List Opt)×Qae):Int:=(fun l p=>idxO l p) (a.1) (a.2)
def IdxO_.row:Row:=vrow IdxO_.ar (fun a=>True) (fun a=>(D.int .i64) (IdxO_.fv a))
def IdxO_.q:=vq IdxO_.row rfl
def YaW:=J @IdxO_.ae.eq_1 (J @IdxO_.fv.eq_1 (J @iA1.q (J @iA1.ar.eq_1 @iA1.fv.eq_1)))
theorem IdxO_.ok:Qas Tryz.prog 126 IdxO_.row:=by
 refine Qaj Qaq (tC iA1.ok tN) Tryz.func126 rfl (by kernel_rfl) (by kernel_rfl) (ar:=IdxO_.ar) (ae:=IdxO_.ae) IdxO_.le (n:=2) (fun _=>rfl) (by decide) (rc:=(vInt)) (re:=(D.int .i64)) (Qa3) (f:=IdxO_.fv) ?_;intro a hpre;simp only[Tryz.f126,Option.getD];simp (maxSteps:=10^7) (disch:=omega) only[ZZ,simprocAttr,rch,YaW];intro hn;simp only[idxO];refine Qay.old ⟨{k:Nat//k<=a.1.length/\Qaw (fun o:Opt=>decide (o.At=a.2)) k (a.1.drop k)=Qaw (fun o:Opt=>decide (o.At=a.2)) 0 a.1},fun k=>⟨[(8,.im (.int .i64 k.1)),(7,.im (.int .i64 a.1.length)),(6,.im (.sl false 3 (a.1.map Opt.c))),(4,.im (.int .i64 0)),(0,.im (.sl false 3 (a.1.map Opt.c))),(1,.im (.fn 127 [] [.ref (Qae.c a.2)]))],[],0⟩,fun k=>a.1.length - k.1,fun k=>⟨by simp[Qad.good,belT,belH,Qam,AV.bel,belL],Zam _⟩,⟨⟨0,by simp⟩,by simp (maxSteps:=10^7) (disch:=omega) only[ZZ,simprocAttr,rch,YaW,sub]⟩,fun k=> ?_⟩;obtain⟨k,hk1,hk2⟩:=k;simp (maxSteps:=10^7) (disch:=omega) only[ZZ,simprocAttr,rch,YaW,sub,Qal];refine⟨fun hk=>⟨hk,fun x hx=> ?_⟩,fun hk=> ?_⟩
 .rw[Qd3 hx,Qaw] at hk2;refine⟨fun h=> ?_,fun h=>Qb6 hk hn ⟨by omega,by rw[<-hk2,Zai (by simpa using h)]⟩⟩;rw[Zaq (by simpa using h)] at hk2;exact hk2
 .rw[Zaz (by omega),Qaw] at hk2;exact hk2
def idxAt_.ar:List PK->Option (Pld×Qae):=a2 (kP Pld.d 8) (kR Qae.d)
def idxAt_.ae(a:Pld×Qae):List PK:=[.ptr (Pld.c a.1),.val (.agg (Qae.c a.2))]
def idxAt_.fv(a:Pld×Qae):Int:=(fun x p=>idxO x.Seq p) (a.1) (a.2)
def idxAt_.row:Row:=vrow idxAt_.ar (fun a=>True) (fun a=>(D.int .i64) (idxAt_.fv a))
def idxAt_.q:=vq idxAt_.row rfl
theorem idxAt_.ok:Qas Tryz.prog 94 idxAt_.row:=by
 refine Qaj Qaq (tC IdxO_.ok tN) Tryz.func94 rfl (by kernel_rfl) (by kernel_rfl) (ar:=idxAt_.ar) (ae:=idxAt_.ae) (Qaca (Qacc 8 Pld.d_le) (Qab8 Qae.d_le)) (n:=2) (fun _=>rfl) (by decide) (rc:=(vInt)) (re:=(D.int .i64)) (Qa3) (f:=idxAt_.fv) ?_;intro a hpre;simp only[Tryz.f94,Option.getD];simp (maxSteps:=10^7) (disch:=omega) only[ZZ,simprocAttr,rch,idxAt_.ae,idxAt_.fv,IdxO_.q,IdxO_.ar,IdxO_.fv]
 skip
def Qadh(x:Pld):Nat->List (List Int)
 |0=>[]
 |i+1=>Qadh x i++[sortI (ownN x.Seq (x.Inputs[i]?.getD 0) ((x.Seq[i]?.map Opt.At).getD ⟨0,0⟩) 4)]
theorem Qaf1(l:List Opt)(m:Int)(p:Qae): ∀n,(ownN l m p n).length<=n
 |0=>by simp[ownN]
 |n+1=>by
  have:=Qaf1 l m p n
  simp only[ownN,ZaH]
  split<;>simp<;>omega
theorem Qaed(x:Pld): ∀n,(Qadh x n).length=n
 |0=>rfl
 |n+1=>by simp only[Qadh,ZaH,Qaed x n,Zdg]
def needs_.ar:List PK->Option (Pld):=a1 (kP Pld.d 8)
def needs_.ae(a:Pld):List PK:=[.ptr (Pld.c a)]
def needs_.fv(a:Pld):List (List Int):=(fun x=>Qadh x x.Seq.length) a
def needs_.row:Row:=vrow needs_.ar (fun a=>(∀o∈a.Seq,Qdy o.At)/\a.Inputs.length=a.Seq.length/\a.Seq.length<=500) (fun a=>(fun b=>D.sl false 1 (b.map Qcd)) (needs_.fv a))
def needs_.q:=vq needs_.row rfl
def YaX:=J @needs_.ae.eq_1 (J @needs_.fv.eq_1 (J @step_.q (J @step_.ar.eq_1 (J @step_.fv.eq_1 (J @step_.re.eq_1 (J @idxAt_.q (J @idxAt_.ar.eq_1 (J @idxAt_.fv.eq_1 (J @has_.q (J @has_.ar.eq_1 @has_.fv.eq_1))))))))))
theorem needs_.ok:Qas Tryz.prog 49 needs_.row:=by
 refine Qaj Qaq (tC step_.ok (tC idxAt_.ok (tC has_.ok (tC srI.ok tN)))) Tryz.func49 rfl (by kernel_rfl) (by kernel_rfl) (ar:=needs_.ar) (ae:=needs_.ae) (Qacd (Qacc 8 Pld.d_le)) (n:=1) (fun _=>rfl) (by decide) (rc:=(vSl Qpb)) (re:=(fun b=>D.sl false 1 (b.map Qcd))) (Qe8 Qj4 (fun _=>rfl)) (f:=needs_.fv) ?_;intro a hpre;simp only[Tryz.f49,Option.getD];simp (maxSteps:=10^7) (disch:=omega) only[ZZ,simprocAttr,rch,YaX];obtain⟨h1,h2,h3⟩:=hpre;intro _;refine Qay.frr ⟨{k:Nat//k<=a.Seq.length},fun k=>⟨[(14,.im (.int .i64 k.1)),(13,.im (.int .i64 a.Seq.length)),(12,.im (.sl false 3 (a.Seq.map Opt.c))),(3,.own 3),(0,.ptr 0 0)],[(3,(true,.arrA 51 1 (imR ((Qadh a k.1).map Qcd)))),(0,(false,.view (Pld.c a)))],4⟩,fun k=>a.Seq.length - k.1,fun k=>⟨by simp[Qad.good,belT,belH,Qam,AV.bel,belL,Qxu],by simp⟩,⟨⟨0,by simp⟩,[],[(3,some 2)],?_⟩,fun k=> ?_⟩
 .simp only[subP];simp (maxSteps:=10^7) (disch:=omega) only[ZZ,simprocAttr,rch,YaX,Zah,Zag,Qadh,ZaQ,Qafa]
  try simp
 obtain⟨k,hk1⟩:=k;simp (maxSteps:=10^7) (disch:=omega) only[ZZ,simprocAttr,rch,YaX,sub,Qal];have hnl:=Qaed a k;refine⟨fun hk=>⟨hk,fun o ho=> ?_⟩,fun hk=> ?_⟩
 .obtain⟨mi,hmi⟩: ∃mi,a.Inputs[k]? =some mi:=⟨_,Zac (by omega)⟩;have hsm:=h1 o (Zae ho);refine Qay.ren ⟨{d:Nat//d<=4},fun d=>⟨[(19,.im (.int .i64 d.1)),(6,.own 6),(4,.im (.int .i64 k)),(5,.ptr 4 0),(14,.im (.int .i64 k)),(13,.im (.int .i64 a.Seq.length)),(12,.im (.sl false 3 (a.Seq.map Opt.c))),(3,.own 3),(0,.ptr 0 0)],[(6,(true,.arr 2 1 ((ownN a.Seq mi o.At d.1).map intC))),(4,(true,.cells 82 ((Opt.c o).map .im))),(3,(true,.arrA 51 1 (imR ((Qadh a k).map Qcd)))),(0,(false,.view (Pld.c a)))],7⟩,fun d=>4 - d.1,fun d=>⟨by simp[Qad.good,belT,belH,Qam,AV.bel,belL,Qxu,Opt.c],by simp⟩,⟨⟨0,by simp⟩,[(6,some 5)],?_⟩,fun d=> ?_⟩
  .simp only[subP];simp (maxSteps:=10^7) (disch:=omega) only[ZZ,simprocAttr,rch,YaX,Zah,Zag,ownN,ZaQ,Qsg]
   try simp
  obtain⟨d,hd1⟩:=d;have hol:=Qaf1 a.Seq mi o.At d;simp (maxSteps:=10^7) (disch:=omega) only[ZZ,simprocAttr,rch,YaX,sub,Qal];refine⟨fun hd=>⟨⟨hsm,by omega⟩,by omega,fun x hx=>⟨by omega,?_⟩⟩,fun hd=> ?_⟩
  .obtain rfl:mi=x:=Zaa (hmi.symm.trans hx);refine⟨fun c1=>⟨fun c2=>⟨by simp[OneR,allD,D.one],by omega,⟨d+1,by omega⟩,[(6,some 8)],by simp only;omega,?_⟩,fun c2=>⟨⟨d+1,by omega⟩,[(6,some 6)],by simp only;omega,?_⟩⟩,fun c1=>⟨⟨d+1,by omega⟩,[(6,some 6)],by simp only;omega,?_⟩⟩
   .simp only[subP];simp (maxSteps:=10^7) (disch:=omega) only[ZZ,simprocAttr,rch,YaX,Zah,Zag,Qsg];refine⟨by rw[Qak (by omega) (by omega)];omega,?_⟩;simp only[ownN];rw[Zaq ⟨c1,c2⟩];simp[intC]
   .simp only[subP];simp (maxSteps:=10^7) (disch:=omega) only[ZZ,simprocAttr,rch,YaX,Zah,Zag,Qsg];refine⟨by rw[Qak (by omega) (by omega)];omega,?_⟩;simp only[ownN];rw[Zai (fun h=>c2 h.2),ZaK]
   .simp only[subP];simp (maxSteps:=10^7) (disch:=omega) only[ZZ,simprocAttr,rch,YaX,Zah,Zag,Qsg];refine⟨by rw[Qak (by omega) (by omega)];omega,?_⟩;simp only[ownN];rw[Zai (fun h=>c1 h.1),ZaK]
  .have hd4:d=4:=by omega
   subst hd4;refine orow.os (ownN a.Seq mi o.At 4) [6] trivial (fun j=> ?_) rfl rfl ?_ ?_
   .simp only[domB,srI.H0,hget];by_cases hj:j=0
    .subst hj;simp
    .have:(0==j)=false:=by simpa using fun h=>hj h.symm
     rw[this];simp;omega
   .simp (maxSteps:=10^7) (disch:=omega) only[ZZ,simprocAttr,rch,YaX,srI.ca,srI.H0,Qer,ZaR]
    try exact⟨rfl,rfl⟩
   simp (maxSteps:=10^7) (disch:=omega) only[ZZ,simprocAttr,rch,YaX,srI.H1,sub,ZaR,Zbm];refine⟨by simp[belL,AV.bel],by simp[OneR,Qhz,AV.one],by omega,by rw[ZcE,Qaeq];simp[belL,AV.bel],⟨k+1,by omega⟩,[6],[(3,some 8)],by simp only;omega,?_⟩;have e1:Qadh a (k+1)=Qadh a k++[sortI (ownN a.Seq mi o.At 4)]:=by
    simp only[Qadh,hmi,ho,ZaM,Zad]
   simp only[subP];simp (maxSteps:=10^7) (disch:=omega) only[ZZ,simprocAttr,rch,YaX,Zah,Zag,Qzl,Qzb,e1,ZaZ,Zal,ZaQ];rw[Qak (by omega) (by omega)];refine⟨by simp,?_⟩
   have:=Qzo [(3,some 8)] ((Qadh a k).map Qcd++[[D.sl false 1 ((sortI (ownN a.Seq mi o.At 4)).map intC)]])
   simpa only[imR,ZaZ,Zal,ZaQ] using this
 .have hkl:k=a.Seq.length:=by omega
  subst hkl;simp (maxSteps:=10^7) (disch:=omega) only[ZZ,simprocAttr,rch,YaX,Qae4]
theorem needs_law{s:Qar}{l:List Opt}(h:Qaec s s.Seed l)(e:Asm)(st:List Int):Qadh ⟨s,l,e,insS s s.Seed l,st⟩ l.length=Qadm s l:=by
 have key: ∀n,n<=l.length->Qadh ⟨s,l,e,insS s s.Seed l,st⟩ n=Qade l (insS s s.Seed l) n:=by
  intro n;induction n with
  |zero=>intro _;rfl
  |succ n ih=>
   intro hn;obtain⟨o,ho⟩: ∃o,l[n]? =some o:=⟨_,Zac (by omega)⟩;simp only[Qadh,Qade,ih (by omega),ho,Qafo s l s.Seed n o ho,ZaM,Zad];rw[need_law h ho]
 exact key l.length (Zam _)
end Go.Ae
namespace Go.Ae
mutual
def scV:AV->Bool
 | .im d=>d.sc
 | .own _=>true
 | .agg cs=>scVL cs
 | .tup cs=>scVL cs
 | .any| .ptr _ _| .eptr _ _ _| .mp _| .ch _| .it _| .osl _ _ _| .clo _ _ _=>false
def scVL:List AV->Bool
 |[]=>true
 |x::r=>scV x && scVL r
end
def scO:AObj->Bool
 | .arr _ _ rows=>rows.all fun r=>r.all D.sc
 | .arrA _ _ rows=>rows.all scVL
 | .cells _ cs=>scVL cs
 | .map _ _| .chan _ _| .iter _ _| .view _=>false
theorem Qadc{m:Nat}: ∀{rows:List (List AV)},m∈nmsR rows↔ ∃r∈rows,m∈nmsL r
 |[]=>by simp[nmsR]
 |r::rs=>by simp[nmsR,Qadc (rows:=rs)]
section
variable {S1 S':Env}{F:Nat->Prop}
mutual
theorem Qaep(hh: ∀n,F n->S'.h n=S1.h n)(hr: ∀n,F n->S'.ρ n=S1.ρ n): ∀(x:AV) (v:Value),scV x=true->(∀m∈x.nms,F m)->conc S1 x v->conc S' x v
 | .im d,v,hs,_,hc=>by
   simp only[conc] at hc⊢;exact rd_sc (by simpa[scV] using hs) hc
 | .own o,v,_,hm,hc=>by
   simp only[conc] at hc⊢;have h0:F o:=hm o (by simp[AV.nms]);rw[hh o h0,hr o h0];exact hc
 | .agg cs,v,hs,hm,hc=>by
   simp only[conc] at hc⊢;obtain⟨vs,rfl,h⟩:=hc;exact⟨vs,rfl,Qadu hh hr cs _ (by simpa[scV] using hs) (by simpa[AV.nms] using hm) h⟩
 | .tup cs,v,hs,hm,hc=>by
   simp only[conc] at hc⊢;obtain⟨vs,rfl,h⟩:=hc;exact⟨vs,rfl,Qadu hh hr cs _ (by simpa[scV] using hs) (by simpa[AV.nms] using hm) h⟩
 | .any,_,hs,_,_| .ptr _ _,_,hs,_,_| .eptr _ _ _,_,hs,_,_| .mp _,_,hs,_,_| .ch _,_,hs,_,_| .it _,_,hs,_,_| .osl _ _ _,_,hs,_,_| .clo _ _ _,_,hs,_,_=>by simp[scV] at hs
theorem Qadu(hh: ∀n,F n->S'.h n=S1.h n)(hr: ∀n,F n->S'.ρ n=S1.ρ n): ∀(xs:List AV) (vs:List Value),scVL xs=true->(∀m∈nmsL xs,F m)->Qa0 S1 xs vs->Qa0 S' xs vs
 |[],vs,_,_,hc=>by simpa only[Qa0] using hc
 |x::r,vs,hs,hm,hc=>by
  simp only[Qa0] at hc⊢;obtain⟨v,q,rfl,h1,h2⟩:=hc;simp only[scVL,Zaf] at hs;exact⟨v,q,rfl,Qaep hh hr x v hs.1 (fun m h=>hm m (by simp[nmsL,h])) h1,Qadu hh hr r q hs.2 (fun m h=>hm m (by simp[nmsL,h])) h2⟩
end
theorem Qaev(hh: ∀n,F n->S'.h n=S1.h n)(hr: ∀n,F n->S'.ρ n=S1.ρ n): ∀(xs:List AV) (vs:List Value),scVL xs=true->(∀m∈nmsL xs,F m)->Qbv S1 xs vs->Qbv S' xs vs
 |[],vs,_,_,_=>trivial
 |x::r,vs,hs,hm,hc=>by
  simp only[Qbv] at hc⊢;obtain⟨v,q,rfl,h1,h2⟩:=hc;simp only[scVL,Zaf] at hs;exact⟨v,q,rfl,Qaep hh hr x v hs.1 (fun m h=>hm m (by simp[nmsL,h])) h1,Qaev hh hr r q hs.2 (fun m h=>hm m (by simp[nmsL,h])) h2⟩
theorem Qaet{k:Nat}(hh: ∀n,F n->S'.h n=S1.h n)(hr: ∀n,F n->S'.ρ n=S1.ρ n): ∀(rs:List (List AV)) (vs:List Value),rs.all scVL=true->(∀r∈rs,∀m∈nmsL r,F m)->Qbb S1 k rs vs->Qbb S' k rs vs
 |[],vs,_,_,_=>trivial
 |r::rs,vs,hs,hm,hc=>by
  simp only[Qbb] at hc⊢;simp only[Zcn,Zaf] at hs;exact⟨hc.1,Qaev hh hr r _ hs.1 (hm r (Zas ..)) hc.2.1,Qaet hh hr rs _ hs.2 (fun q hq=>hm q (Zap _ hq)) hc.2.2⟩
theorem rdr_scR{ok ok':Nat->Prop}{hp hp':Nat->Option Obj}{k:Nat}: ∀(rs:List (List D)) (vs:List Value),(rs.all fun r=>r.all D.sc)=true->rdr ok hp k rs vs->rdr ok' hp' k rs vs
 |[],_,_,_=>trivial
 |r::rs,vs,hs,hc=>by
  simp only[rdr] at hc⊢;simp only[Zcn,Zaf] at hs;exact⟨hc.1,rdp_sc r _ hs.1 hc.2.1,rdr_scR rs _ hs.2 hc.2.2⟩
theorem objc_new(hh: ∀n,F n->S'.h n=S1.h n)(hr: ∀n,F n->S'.ρ n=S1.ρ n)(hp:S'.hp=S1.hp)(l:Option Loc): ∀(e:AObj),scO e=true->(∀m∈e.nms,F m)->objc S1 l e->objc S' l e
 | .arr T k rows,hs,_,hc=>by
   cases l with
   |none=>simpa only[objc] using hc
   |some lc=>
    simp only[objc] at hc⊢;obtain⟨h1,h2,vs,h3,h4,h5⟩:=hc;exact⟨h1,h2,vs,by rw[hp];exact h3,h4,rdr_scR _ _ hs h5⟩
 | .arrA T k rows,hs,hm,hc=>by
   cases l with
   |none=>simpa only[objc] using hc
   |some lc=>
    simp only[objc] at hc⊢;obtain⟨h1,h2,vs,h3,h4,h5⟩:=hc;refine⟨h1,h2,vs,by rw[hp];exact h3,h4,Qaet hh hr _ _ hs (fun r hr' m hm'=>hm m ?_) h5⟩;simp only[AObj.nms];exact Qadc.2 ⟨r,hr',hm'⟩
 | .cells T cs,hs,hm,hc=>by
   simp only[objc] at hc⊢;obtain⟨lc,vs,h1,h2,h3,h4⟩:=hc;exact⟨lc,vs,h1,h2,by rw[hp];exact h3,Qadu hh hr _ _ hs (fun m h=>hm m (by simpa[AObj.nms] using h)) h4⟩
 | .map _ _,hs,_,_| .chan _ _,hs,_,_| .iter _ _,hs,_,_| .view _,hs,_,_=>by simp[scO] at hs
end
def vrowX1{A:Type}(ar:List PK->Option A)(pre:A->Prop)(r0:A->AV)(H1:A->Qan)(cnt nx:Nat)(u:List Nat)(K:Kont):Option (List PK)->Prop
 |some ps=>decK (fun a=>pre a/\K ((r0 a).ren (sgx (fun j=>j) 0 nx)) {use:=u,new:=renH (sgx (fun j=>j) 0 nx) (H1 a),cnt:=cnt}) (ar ps)
 |none=>False
def Qaex{A:Type}(ar:List PK->Option A)(pre:A->Prop)(r0:A->AV)(H1:A->Qan)(cnt:Nat):Row:=fun args h nx K=>vrowX1 ar pre r0 H1 cnt nx (rchL h args) K (pkFL h args)
def pkvs(ds:List D):List PK:=ds.map PK.val
theorem Qafn{S:Env}: ∀(ds:List D) (vs:List Value),PKL S (pkvs ds) vs->Qa0 S (ds.map .im) vs
 |[],vs,h=>by simpa only[pkvs,ZaQ,PKL,Qa0] using h
 |d::r,vs,h=>by
  simp only[pkvs,Zal,PKL,Qa0] at h⊢;obtain⟨v,q,rfl,h1,h2⟩:=h;exact⟨v,q,rfl,by simpa only[conc,PKc] using h1,Qafn r q h2⟩
theorem renL_im(σ:Nat->Nat): ∀(ds:List D),renL σ (ds.map AV.im)=ds.map AV.im
 |[]=>rfl
 |d::r=>by simp only[Zal,renL,AV.ren,renL_im σ r]
mutual
theorem ren_sc(σ:Nat->Nat): ∀x:AV,scV x=true->scV (x.ren σ)=true/\ ∀m∈(x.ren σ).nms,∃j∈x.nms,m=σ j
 | .im d,h=>⟨by simpa only[AV.ren] using h,by simp[AV.ren,AV.nms]⟩
 | .own o,_=>⟨by simp[AV.ren,scV],by simp[AV.ren,AV.nms]⟩
 | .agg cs,h=>by
   obtain⟨h1,h2⟩:=Qady σ cs (by simpa[scV] using h);exact⟨by simpa[AV.ren,scV] using h1,by simpa[AV.ren,AV.nms] using h2⟩
 | .tup cs,h=>by
   obtain⟨h1,h2⟩:=Qady σ cs (by simpa[scV] using h);exact⟨by simpa[AV.ren,scV] using h1,by simpa[AV.ren,AV.nms] using h2⟩
 | .any,h| .ptr _ _,h| .eptr _ _ _,h| .mp _,h| .ch _,h| .it _,h| .osl _ _ _,h| .clo _ _ _,h=>by simp[scV] at h
theorem Qady(σ:Nat->Nat): ∀xs:List AV,scVL xs=true->scVL (renL σ xs)=true/\ ∀m∈nmsL (renL σ xs),∃j∈nmsL xs,m=σ j
 |[],_=>⟨rfl,by simp[renL,nmsL]⟩
 |x::r,h=>by
  simp only[scVL,Zaf] at h;obtain⟨h1,h2⟩:=ren_sc σ x h.1;obtain⟨h3,h4⟩:=Qady σ r h.2;refine⟨by simp only[renL,scVL,h1,h3,Zdk],fun m hm=> ?_⟩;simp only[renL,nmsL,Zan] at hm⊢;rcases hm with hm|hm
  .obtain⟨j,hj,e⟩:=h2 m hm;exact⟨j,.inl hj,e⟩
  .obtain⟨j,hj,e⟩:=h4 m hm;exact⟨j,.inr hj,e⟩
end
theorem renO_sc(σ:Nat->Nat): ∀e:AObj,scO e=true->scO (e.ren σ)=true/\ ∀m∈(e.ren σ).nms,∃j∈e.nms,m=σ j
 | .arr T k rows,h=>⟨by simpa only[AObj.ren] using h,by simp[AObj.ren,AObj.nms]⟩
 | .arrA T k rows,h=>by
   simp only[scO,ZaI] at h;refine⟨?_,?_⟩
   .simp only[AObj.ren,scO,List.all_map,ZaI];exact fun r hr=>(Qady σ r (h r hr)).1
   .intro m hm;simp only[AObj.ren,AObj.nms] at hm⊢;obtain⟨q,hq,hm⟩:=Qadc.1 hm;obtain⟨r,hr,rfl⟩:=Zay.1 hq;obtain⟨j,hj,e⟩:=(Qady σ r (h r hr)).2 m hm;exact⟨j,Qadc.2 ⟨r,hr,hj⟩,e⟩
 | .cells T cs,h=>by
   obtain⟨h1,h2⟩:=Qady σ cs (by simpa[scO] using h);exact⟨by simpa[AObj.ren,scO] using h1,by simpa[AObj.ren,AObj.nms] using h2⟩
 | .map _ _,h| .chan _ _,h| .iter _ _,h| .view _,h=>by simp[scO] at h
theorem vrowX_ok{P:Program}{g:FuncId}{A:Type}{cax:A->List AV}{ca:A->List D}{pre:A->Prop}{klB:Nat->Bool}{r0:A->AV}{H1:A->Qan}{cnt:Nat}
 (hcal:calb P g=true)(hok:Qas P g (orow cax (fun _=>[]) 0 pre klB r0 H1 cnt))(hca: ∀a,cax a=(ca a).map AV.im)
 {ar:List PK->Option A}(hle: ∀ps a,ar ps=some a->LeKL ps (pkvs (ca a)))
 (hr0: ∀a,scV (r0 a)=true/\ ∀m∈(r0 a).nms,m<cnt)
 (hH1: ∀a,∀p∈H1 a,p.1<cnt/\p.2.1=true/\scO p.2.2=true/\ ∀m∈p.2.2.nms,m<cnt):
 Qas P g (Qaex ar pre r0 H1 cnt):=by
 intro args h nx K hrow;unfold Qaex at hrow;cases hp:pkFL h args with
 |none=>rw[hp] at hrow;exact hrow.elim
 |some ps=>
  rw[hp] at hrow;simp only[vrowX1] at hrow;cases ha:ar ps with
  |none=>rw[ha] at hrow;exact hrow.elim
  |some a=>
   rw[ha] at hrow;simp only[decK] at hrow;obtain⟨hpre,hK⟩:=hrow;refine⟨Qh7 hcal,_,_,?_,hK⟩;intro C S vs RR hW huse hfresh hnames hargs hfin;have hps:=Qtx hW args ps vs.toList (fun m hm=>huse m (ZbC _ hm)) hp hargs;have hWa:=Qxy hW;obtain⟨σ,hσ⟩: ∃σ:Nat->Nat,σ=sgx (fun j=>j) 0 nx:=⟨_,rfl⟩;have hσj: ∀j,σ j=nx+j:=fun j=>by rw[hσ];simp[sgx]
   rw[<-hσ] at hfin;obtain⟨_,r,E,hT,rfl,rfl⟩:=hok (cax a) (fun _=>none) nx (fun r E=>r=(r0 a).ren σ/\E={use:=[],kill:=[],new:=renH σ (H1 a),cnt:=cnt})
    ⟨a,fun j=>j,[],[],hpre,by rw[hca,renL_im],trivial,⟨by simp[domB,hget],by simp[domB,hget],by simp[domB,hget],by simp,by simp[domB,hget]⟩,by rw[hσ],by rw[hσ]⟩
   have hcv:Qa0 S.froz (cax a) vs.toList:=by rw[hca];exact Qafn _ _ ((hle ps a ha).c hps)
   refine hT (frozC S) S.froz vs RR hWa (by simp) (fun n hn=> ?_) (fun n e he m hm hF=> ?_) hcv ?_
   .have:=hfresh n hn
    show (S.h n).map _=none;rw[this];rfl
   .obtain⟨e0,h1,rfl⟩:=Qht he;exact hnames n e0 h1 m hm hF
   intro v S1 hW1 hh1 _ hcv1;have hnew: ∀n e,hget (renH σ (H1 a)) n=some e->Fr nx cnt n/\e.1=true/\scO e.2=true/\ ∀m∈e.2.nms,Fr nx cnt m:=by
    intro n e he;obtain⟨j,e0,h1,h2,rfl⟩:=Qzm he;obtain⟨g1,g2,g3,g4⟩:=hH1 a _ h1;obtain⟨q1,q2⟩:=renO_sc σ e0.2 g3;refine⟨by rw[<-h2,hσj];exact⟨by omega,by omega⟩,g2,q1,fun m hm=> ?_⟩;obtain⟨i,hi,rfl⟩:=q2 m hm
    have:=g4 i hi
    rw[hσj];exact⟨by omega,by omega⟩
   have hsz:S.w.heap.size<=S1.w.heap.size:=hW1.size;have hkeep: ∀b,b<S.w.heap.size->S1.w.heap[b]? =S.w.heap[b]? :=fun b hb=>hW1.keep b hb (fun h=>h)
   have hF0: ∀n,Fr nx cnt n->S.h n=none:=hfresh
   let E':Eff:={use:=rchL h args,kill:=[],new:=renH σ (H1 a),cnt:=cnt}
   have hE': ∀n,E'.appf S.h n=match hget (renH σ (H1 a)) n with
    |some e=>some e
    |none=>S.h n:=fun n=>by simp only[E',Eff.appf];rfl
   have h1h: ∀n,S1.h n=match hget (renH σ (H1 a)) n with
    |some e=>some e
    |none=>S.froz.h n:=fun n=>by rw[hh1];simp only[Eff.appf];rfl
   let S':Env:=⟨fun n=>if nx<=n/\n<nx+cnt then S1.ρ n else S.ρ n,S.ok,E'.appf S.h,S1.w⟩
   have hSh: ∀n,S'.h n=E'.appf S.h n:=fun _=>rfl
   have aF: ∀n,Fr nx cnt n->S'.h n=S1.h n:=by
    intro n hn;rw[hSh,hE',h1h];cases hget (renH σ (H1 a)) n with
    |some e=>rfl
    |none=>
     show S.h n=(S.h n).map _;rw[hF0 n hn];rfl
   have aR: ∀n,Fr nx cnt n->S'.ρ n=S1.ρ n:=fun n hn=>Zaq hn
   have oF: ∀n,¬Fr nx cnt n->S'.h n=S.h n:=by
    intro n hn;rw[hSh,hE'];cases hq:hget (renH σ (H1 a)) n with
    |some e=>exact absurd (hnew n e hq).1 hn
    |none=>rfl
   have oR: ∀n,¬Fr nx cnt n->S'.ρ n=S.ρ n:=fun n hn=>Zai hn
   have hp':Pres (fun n=> ¬Fr nx cnt n) S S':=⟨fun b hb=>⟨hb,hkeep b (hW.oks b hb)⟩,fun o ho e' he'=>⟨e',by rw[<-oF o ho];exact he',oR o ho,rfl,rfl⟩⟩;have nF: ∀n e,S.h n=some e-> ¬Fr nx cnt n:=fun n e he hn=>by rw[hF0 n hn] at he;cases he
   have split: ∀o e,S'.h o=some e->(Fr nx cnt o/\S1.h o=some e/\S'.ρ o=S1.ρ o/\e.1=true/\scO e.2=true/\ ∀m∈e.2.nms,Fr nx cnt m)\/(S.h o=some e/\S'.ρ o=S.ρ o):=by
    intro o e he;by_cases hn:Fr nx cnt o
    .left;have h1:S1.h o=some e:=by rw[<-aF o hn];exact he
     have h2:=he;rw[hSh,hE'] at h2;cases hq:hget (renH σ (H1 a)) o with
     |some e1=>
      rw[hq] at h2;obtain rfl:=Zaa h2;exact⟨hn,h1,aR o hn,(hnew o _ hq).2⟩
     |none=>
      rw[hq] at h2;exact absurd hn (nF o e h2)
    .right;exact⟨by rw[<-oF o hn];exact he,oR o hn⟩
   have newB: ∀o e l,S1.h o=some e->S1.ρ o=some l->e.1=true->l.b<S1.w.heap.size/\S.w.heap.size<=l.b:=by
    intro o e l he hl hm;obtain⟨h2,h3⟩:=hW1.loc o e l he hl;rw[hm] at h3;simp only[Zbf] at h3;exact⟨h2,h3.2.elim (fun h=>h) (fun h=>h.elim)⟩
   have hW':Wf C S':=by
    refine⟨hW1.os.trans hW.os,hW1.tape.trans hW.tape,hW1.output.trans hW.output,Zbl hW.size hsz,?_,hW.ok0,hW.ok1,fun b hb=>Zba (hW.oks b hb) hsz,?_,?_,?_⟩
    .intro b hb hM;exact (hkeep b (Zba hb hW.size)).trans (hW.keep b hb hM)
    .intro o e he;rcases split o e he with ⟨_,h1,h2,_,h4,h5⟩|⟨h1,h2⟩
     .rw[h2];exact objc_new aF aR rfl _ e.2 h4 h5 (hW1.obj o e h1)
     .rw[h2];exact Qbr hp' (fun lc hl=>hkeep lc.b (hW.loc o e lc h1 hl).1) _ (fun m hm hF=>hnames o e h1 m hm hF) (hW.obj o e h1)
    .intro o e l he hl;rcases split o e he with ⟨_,h1,h2,h3,_⟩|⟨h1,h2⟩
     .rw[h2] at hl;obtain⟨b1,b2⟩:=newB o e l h1 hl h3;refine⟨b1,?_⟩;rw[h3];simp only[Zbf];exact⟨fun hk=>by have:=hW.oks _ hk;omega,.inl (Zbl hW.size b2)⟩
     .rw[h2] at hl;obtain⟨b1,b2⟩:=hW.loc o e l h1 hl;exact⟨Zba b1 hsz,b2⟩
    .intro o o' e e' l l' he he' hl hl' hb hm;rcases split o e he with ⟨_,h1,h2,h3,_⟩|⟨h1,h2⟩<;>rcases split o' e' he' with ⟨_,k1,k2,k3,_⟩|⟨k1,k2⟩<;>rw[h2] at hl<;>rw[k2] at hl'
     .exact hW1.inj o o' e e' l l' h1 k1 hl hl' hb hm
     .have:=(newB o e l h1 hl h3).2
      have:=(hW.loc o' e' l' k1 hl').1
      omega
     .have:=(newB o' e' l' k1 hl' k3).2
      have:=(hW.loc o e l h1 hl).1
      omega
     .exact hW.inj o o' e e' l l' h1 k1 hl hl' hb hm
   obtain⟨q1,q2⟩:=ren_sc σ (r0 a) (hr0 a).1;refine hfin v S' hW' rfl hp' (Qaep aF aR _ v q1 (fun m hm=> ?_) hcv1);obtain⟨j,hj,rfl⟩:=q2 m hm
   have:=(hr0 a).2 j hj
   rw[hσj];exact⟨by omega,by omega⟩
end Go.Ae
namespace Go.Ae
open Go.Proofs
def lvT(out own:List Int):Nat->Int
 |0=>0
 |j+1=>max (lvT out own j) ((out[(own[j]?.getD 0).toNat]?).getD 0)
def levK(needs:List (List Int)):Nat->List Int
 |0=>[]
 |i+1=>levK needs i++[lvT (levK needs i) (needs[i]?.getD []) (needs[i]?.getD []).length+1]
theorem Qaig{out own:List Int}{B:Int}(h: ∀x∈out,0<=x/\x<=B)(hB:0<=B): ∀j,0<=lvT out own j/\lvT out own j<=B
 |0=>⟨Zcp _,hB⟩
 |j+1=>by
  have h1:=Qaig (own:=own) h hB j;have h2:0<=(out[(own[j]?.getD 0).toNat]?).getD 0/\(out[(own[j]?.getD 0).toNat]?).getD 0<=B:=by
   cases hq:out[(own[j]?.getD 0).toNat]? with
   |none=>exact⟨Zcp _,hB⟩
   |some y=>exact h y (Zae hq)
  simp only[lvT];omega
theorem Qadd(needs:List (List Int)): ∀i,(levK needs i).length=i
 |0=>rfl
 |i+1=>by simp only[levK,ZaH,Qadd needs i,Zdg]
theorem Qafw(needs:List (List Int)): ∀i,∀x∈levK needs i,0<=x/\x<=(i:Int)
 |0,x,h=>by cases h
 |i+1,x,h=>by
  simp only[levK,Zan,Zao] at h;rcases h with h|rfl
  .have:=Qafw needs i x h
   omega
  .have:=Qaig (own:=needs[i]?.getD []) (Qafw needs i) (by omega) (needs[i]?.getD []).length
   omega
def Qag3(needs:List (List Int)):Prop:=needs.length<=500/\ ∀(i:Nat) (own:List Int),needs[i]? =some own-> ∀k∈own,0<=k/\k<(i:Int)
theorem Qaea(l:List Opt)(ins:List Int): ∀n i,i<n->(Qade l ins n)[i]? =some (ndK l (ins[i]?.getD 0) ((l[i]?.map Opt.At).getD ⟨0,0⟩) i)
 |0,i,h=>by omega
 |n+1,i,h=>by
  simp only[Qade];by_cases hi:i<n
  .rw[ZaL (by rw[Qadb];exact hi)];exact Qaea l ins n i hi
  .have:i=n:=by omega
   subst this;rw[ZaN (by rw[Qadb];omega),Qadb]
   try simp
theorem Qaeu{s:Qar}{l:List Opt}(hl:l.length<=500):Qag3 (Qadm s l):=by
 have hlen:(Qadm s l).length=l.length:=Qadb ..;refine⟨by omega,fun i own hi k hk=> ?_⟩;have hil:i<l.length:=by have:=(Zaj.1 hi).1;omega
 simp only[Qadm] at hi;rw[Qaea l _ l.length i hil] at hi;obtain rfl:=Zaa hi;rw[Qaem (l:=l) i (by omega)] at hk;obtain⟨j,d,h1,_,h3,_⟩:=hk;omega
theorem maxI_max(a b:Int):maxI a b=max a b:=by simp only[maxI];omega
def l12Levels.ar:List PK->Option ((List (List Int))):=a1 (kS Qpb)
def l12Levels.ae(a:(List (List Int))):List PK:=[.val (.sl false 1 (a.map Qcd))]
def l12Levels.fv(a:(List (List Int))):List Int:=(fun n=>levK n n.length) a
def l12Levels.row:Row:=vrow l12Levels.ar (fun a=>Qag3 a) (fun a=>(fun b=>D.sl false 1 (b.map intC)) (l12Levels.fv a))
def l12Levels.q:=vq l12Levels.row rfl
def YaY:=J @l12Levels.ae.eq_1 (J @l12Levels.fv.eq_1 (J @l00Max.q (J @l00Max.ar.eq_1 @l00Max.fv.eq_1)))
theorem l12Levels.ok:Qas Tryz.prog 58 l12Levels.row:=by
 refine Qaj Qaq (tC l00Max.ok tN) Tryz.func58 rfl (by kernel_rfl) (by kernel_rfl) (ar:=l12Levels.ar) (ae:=l12Levels.ae) (Qacd (Qacb 1 Qj4 (fun _=>rfl))) (n:=1) (fun _=>rfl) (by decide) (rc:=(vSl intD)) (re:=(fun b=>D.sl false 1 (b.map intC))) (Qe8 Qb3 (fun _=>rfl)) (f:=l12Levels.fv) ?_;intro a hpre;simp only[Tryz.f58,Option.getD];simp (maxSteps:=10^7) (disch:=omega) only[ZZ,simprocAttr,rch,YaY];obtain⟨h1,h2⟩:=hpre;refine Qay.ren ⟨{k:Nat//k<=a.length},fun k=>⟨[(4,.im (.int .i64 k.1)),(3,.own 2),(0,.im (.sl false 1 (a.map Qcd)))],[(2,(true,.arr 2 1 ((levK a k.1).map intC)))],3⟩,fun k=>a.length - k.1,fun k=>⟨by simp[Qad.good,belT,belH,Qam,AV.bel,belL],by simp⟩,⟨⟨0,by simp⟩,[(2,some 1)],?_⟩,fun k=> ?_⟩
 .simp only[subP];simp (maxSteps:=10^7) (disch:=omega) only[ZZ,simprocAttr,rch,YaY,Zah,Zag,levK,ZaQ]
  try simp
 obtain⟨k,hk1⟩:=k;have hll:=Qadd a k;have hlb:=Qafw a k;simp (maxSteps:=10^7) (disch:=omega) only[ZZ,simprocAttr,rch,YaY,sub,Qal];intro _;refine⟨fun hk=> ?_,fun hk=> ?_⟩
 .obtain⟨own,hown⟩: ∃own,a[k]? =some own:=⟨_,Zac hk⟩;have hin:=h2 k own hown;refine Qay.old ⟨{j:Nat//j<=own.length},fun j=>⟨[(6,.im (.int .i64 j.1)),(5,.im (.int .i64 (lvT (levK a k) own j.1))),(4,.im (.int .i64 k)),(3,.own 2),(0,.im (.sl false 1 (a.map Qcd)))],[(2,(true,.arr 2 1 ((levK a k).map intC)))],3⟩,fun j=>own.length - j.1,fun j=>⟨by simp[Qad.good,belT,belH,Qam,AV.bel,belL],by simp⟩,⟨⟨0,by simp⟩,by simp (maxSteps:=10^7) (disch:=omega) only[ZZ,simprocAttr,rch,YaY,sub,lvT]⟩,fun j=> ?_⟩;obtain⟨j,hj1⟩:=j;simp (maxSteps:=10^7) (disch:=omega) only[ZZ,simprocAttr,rch,YaY,sub,Qal,hll];have hvb:=Qaig (own:=own) hlb (by omega) j;refine⟨hk,fun x hx hxl=> ?_⟩;obtain rfl:own=x:=Zaa (hown.symm.trans hx);refine⟨fun hj=>⟨hk,fun y hy=> ?_⟩,fun hj=> ?_⟩
  .obtain rfl:own=y:=Zaa (hown.symm.trans hy);refine⟨hj,fun z hz=> ?_⟩;have hz2:=hin z (Zae hz);refine⟨hz2.1,hz2.2,by omega,fun v hv=> ?_⟩;refine⟨⟨j+1,by omega⟩,by simp only;omega,by rw[Qak (by omega) (by omega)];simp only;omega,?_⟩;simp only[lvT,hz,Zad,hv,maxI_max]
  .have hjl:j=own.length:=by omega
   subst hjl;refine⟨by simp[OneR,allD,D.one],by omega,⟨k+1,by omega⟩,[(2,some 4)],by simp only;omega,?_⟩;simp only[subP,levK,hown,Zad];simp (maxSteps:=10^7) (disch:=omega) only[ZZ,simprocAttr,rch,YaY,Zah,Zag];refine⟨by rw[Qak (by omega) (by omega)];omega,?_⟩;rw[Qak (by omega) (by omega)];simp[intC]
 .have hkl:k=a.length:=by omega
  subst hkl;rfl
def levC.ca(a:List (List Int)):List AV:=[.im (.sl false 1 (a.map Qcd))]
def levC.H1(a:List (List Int)):Qan:=[(1,(true,.arr 2 1 ((levK a a.length).map intC)))]
def levC.row:Row:=orow levC.ca (fun _=>[]) 0 Qag3 (fun _=>false) (fun _=> .own 1) levC.H1 2
def Qadr(a:List (List Int))(i:Nat)(v:Int):List Int:=levK a i++v::List.replicate (a.length - i - 1) 0
def levO(a:List (List Int))(i:Nat):List Int:=levK a i++List.replicate (a.length - i) 0
theorem levO_to{a:List (List Int)}{i:Nat}(h:i<a.length):levO a i=Qadr a i 0:=by
 rw[levO,Qadr,show a.length - i=(a.length - i - 1)+1 by omega,Zdv];simp
theorem levTo_len{a:List (List Int)}{i:Nat}(h:i<a.length)(v:Int):(Qadr a i v).length=a.length:=by simp[Qadr,Qadd];omega
theorem Qafu(a:List (List Int))(i:Nat)(v:Int):(Qadr a i v)[i]? =some v:=by
 rw[Qadr,ZaN (by rw[Qadd];omega),Qadd];simp
theorem levTo_lo{a:List (List Int)}{i j:Nat}(h:j<i)(v:Int):(Qadr a i v)[j]? =(levK a i)[j]? :=by
 rw[Qadr,ZaL (by rw[Qadd];omega)]
theorem Qae0(a:List (List Int))(i:Nat)(v w:Int):(Qadr a i v).set i w=Qadr a i w:=by
 rw[Qadr,ZcG _ _ (by rw[Qadd];omega),Qadd,Zce,Zcu,Qadr]
theorem levTo_end{a:List (List Int)}{i:Nat}{own:List Int}(h:a[i]? =some own):Qadr a i (lvT (levK a i) own own.length+1)=levO a (i+1):=by
 have hi:=(Zaj.1 h).1;simp only[Qadr,levO,levK,h,Zad,ZbD,List.singleton_append];rw[show a.length - (i+1)=a.length - i - 1 by omega]
theorem levO_all(a:List (List Int)):levO a a.length=levK a a.length:=by simp[levO]
theorem Qado(l:List Int)(i:Nat)(x:Int):(l.map intC).set i [.int .i64 x]=(l.set i x).map intC:=by rw[ZcM];rfl
theorem levC.ok:Qas Tryz.prog 59 levC.row:=by
 refine Qf1 Qaq tN Tryz.func59 rfl (by kernel_rfl) (by kernel_rfl) (exB:=fun j=>j==1) (R:=fun _ r=>r= .own 1) (n:=1) (fun _=>rfl) (by decide)
  (fun a=>by simp[levC.ca,levC.H1,belL,AV.bel]) (fun a=>by simp[levC.ca,levC.H1,belH,belL,AV.bel]) (fun a=>by simp[levC.ca,levC.H1,Qam])
  (fun a=>by simp[Qc2,levC.ca,levC.H1,AObj.nms,nmsL,AV.nms,domB,hget]) (fun a p hp=> ?_) (fun a r h=>by subst h;exact LeV.refl _) ?_
 rotate_left
 intro a hpre;simp only[Tryz.f59,Option.getD,levC.ca,levC.H1];simp (maxSteps:=10^7) (disch:=omega) only[ZZ,simprocAttr,rch,ORB,levC.ca,levC.H1];obtain⟨h1,h2⟩:=hpre;intro _;refine⟨by omega,fun _=> ?_⟩;refine Qay.old ⟨{k:Nat//k<=a.length},fun k=>⟨[(13,.im (.int .i64 k.1)),(12,.im (.int .i64 a.length)),(11,.im (.sl false 1 (a.map Qcd))),(3,.own 1)],[(1,(true,.arr 2 1 ((levO a k.1).map intC)))],2⟩,fun k=>a.length - k.1,fun k=>⟨by simp[Qad.good,belT,belH,Qam,AV.bel,belL],by simp⟩,⟨⟨0,by simp⟩,by simp (maxSteps:=10^7) (disch:=omega) only[ZZ,simprocAttr,rch,ORB,levC.ca,levC.H1,sub,levO,levK];simp[intC]⟩,fun k=> ?_⟩;obtain⟨k,hk1⟩:=k;have hlb:=Qafw a k;have hll:=Qadd a k;simp (maxSteps:=10^7) (disch:=omega) only[ZZ,simprocAttr,rch,ORB,levC.ca,levC.H1,sub,Qal];refine⟨fun hk=>⟨hk,fun own hown hol=> ?_⟩,fun hk=> ?_⟩
 .have hin:=h2 k own hown;rw[levO_to hk];refine Qay.old ⟨{j:Nat//j<=own.length},fun j=>⟨[(20,.im (.int .i64 j.1)),(19,.im (.int .i64 own.length)),(18,.im (.sl false 1 (own.map intC))),(4,.im (.int .i64 k)),(13,.im (.int .i64 k)),(12,.im (.int .i64 a.length)),(11,.im (.sl false 1 (a.map Qcd))),(3,.own 1)],[(1,(true,.arr 2 1 ((Qadr a k (lvT (levK a k) own j.1)).map intC)))],2⟩,fun j=>own.length - j.1,fun j=>⟨by simp[Qad.good,belT,belH,Qam,AV.bel,belL],by simp⟩,⟨⟨0,by simp⟩,by simp (maxSteps:=10^7) (disch:=omega) only[ZZ,simprocAttr,rch,ORB,levC.ca,levC.H1,sub,lvT]⟩,fun j=> ?_⟩;obtain⟨j,hj1⟩:=j;have hvb:=Qaig (own:=own) hlb (by omega) j;have htl:=levTo_len hk (lvT (levK a k) own j);simp (maxSteps:=10^7) (disch:=omega) only[ZZ,simprocAttr,rch,ORB,levC.ca,levC.H1,sub,Qal,htl];refine⟨fun hj=>⟨hj,fun x hx=>⟨hk,hk,fun y hy=> ?_⟩⟩,fun hj=>⟨hk,hk,fun y hy=>⟨hk,hk,fun y' _=> ?_⟩⟩⟩
  .have hz2:=hin x (Zae hx);rw[Qafu] at hy;obtain rfl:=Zaa hy;refine⟨hz2.1,by omega,by omega,fun z hz=>⟨hk,hk,fun y' _=> ?_⟩⟩;rw[levTo_lo (by omega)] at hz;refine⟨⟨j+1,by omega⟩,by simp only;omega,by rw[Qak (by omega) (by omega)];simp only;omega,?_⟩;rw[Qado,Qae0];simp only[lvT,hx,Zad,hz]
  .have hjl:j=own.length:=by omega
   subst hjl;rw[Qafu] at hy;obtain rfl:=Zaa hy;refine⟨⟨k+1,by omega⟩,by simp only;omega,by rw[Qak (by omega) (by omega)];simp only;omega,?_⟩;rw[Qak (by omega) (by omega),Qado,Qae0,levTo_end hown]
 .have hkl:k=a.length:=by omega
  subst hkl;rw[levO_all]
  skip
 simp[levC.H1] at hp;subst hp;exact .inr ⟨by omega,by omega,rfl,rfl⟩
def mkI(k:Int)(n:Nat):List Int:=(List.range n).map fun (i:Nat)=>k+(i:Int)
theorem Qad6(k:Int)(n:Nat):(mkI k n).length=n:=by simp[mkI]
theorem mkI_succ(k:Int)(n:Nat):mkI k (n+1)=mkI k n++[k+(n:Int)]:=by simp[mkI,ZcZ]
def mkTo(k:Int)(l:List Int)(i:Nat):List Int:=mkI k i++l.drop i
theorem mkTo_len{k:Int}{l:List Int}{i:Nat}(h:i<=l.length):(mkTo k l i).length=l.length:=by simp[mkTo,Qad6];omega
theorem mkTo_set{k:Int}{l:List Int}{i:Nat}(h:i<l.length):(mkTo k l i).set i (k+(i:Int))=mkTo k l (i+1):=by
 have hd:l.drop i=l[i]::l.drop (i+1):=by rw[ZbI h]
 rw[mkTo,ZcG _ _ (by rw[Qad6];omega),Qad6,hd,Zce,Zcu,mkTo,mkI_succ];simp
theorem mkTo_end{k:Int}{l:List Int}{i:Nat}(h:i=l.length):mkTo k l i=mkI k l.length:=by
 subst h;simp[mkTo]
def mkIC.ca(a:List Int×Int):List AV:=[.own 0,.im (.int .i64 a.2)]
def mkIC.H0(a:List Int×Int):Qan:=[(0,(true,.arr 2 1 (a.1.map intC)))]
def mkIC.H1(a:List Int×Int):Qan:=[(0,(true,.arr 2 1 ((mkI a.2 a.1.length).map intC)))]
def mkIC.row:Row:=orow mkIC.ca mkIC.H0 1 (fun a=>0<=a.2/\a.2+a.1.length<=1099511627776) (fun j=>j==0) (fun a=> .im (.int .i64 (a.2+a.1.length))) mkIC.H1 0
theorem mkIC.ok:Qas Tryz.prog 22 mkIC.row:=by
 refine Qf1 Qaq tN Tryz.func22 rfl (by kernel_rfl) (by kernel_rfl) (exB:=fun _=>false) (R:=fun a r=>r= .im (.int .i64 (a.2+a.1.length))) (n:=2) (fun _=>rfl) (by decide)
  (fun a=>by simp[mkIC.ca,mkIC.H0,mkIC.H1,belL,AV.bel]) (fun a=>by simp[mkIC.ca,mkIC.H0,mkIC.H1,belH,belL,AV.bel]) (fun a=>by simp[mkIC.ca,mkIC.H0,mkIC.H1,Qam])
  (fun a=>by simp[Qc2,mkIC.ca,mkIC.H0,mkIC.H1,AObj.nms,nmsL,AV.nms,domB,hget]) (fun a p hp=> ?_) (fun a r h=>by subst h;exact LeV.refl _) ?_
 rotate_left
 intro a hpre;simp only[Tryz.f22,Option.getD,mkIC.ca,mkIC.H0,mkIC.H1];simp (maxSteps:=10^7) (disch:=omega) only[ZZ,simprocAttr,rch,ORB,mkIC.ca,mkIC.H0,mkIC.H1];obtain⟨l,k⟩:=a;simp only at hpre⊢;obtain⟨h1,h2⟩:=hpre;refine Qay.old ⟨{i:Nat//i<=l.length},fun i=>⟨[(5,.im (.int .i64 i.1)),(4,.im (.int .i64 0)),(1,.im (.int .i64 (k+i.1))),(0,.own 0)],[(0,(true,.arr 2 1 ((mkTo k l i.1).map intC)))],1⟩,fun i=>l.length - i.1,fun i=>⟨by simp[Qad.good,belT,belH,Qam,AV.bel,belL],by simp⟩,⟨⟨0,by simp⟩,by simp (maxSteps:=10^7) (disch:=omega) only[ZZ,simprocAttr,rch,ORB,mkIC.ca,mkIC.H0,mkIC.H1,sub];simp[mkTo,mkI]⟩,fun i=> ?_⟩;obtain⟨i,hi1⟩:=i;have hml:=mkTo_len (k:=k) hi1;simp (maxSteps:=10^7) (disch:=omega) only[ZZ,simprocAttr,rch,ORB,mkIC.ca,mkIC.H0,mkIC.H1,sub,Qal,hml];intro _;refine⟨fun hi=>⟨hi,hi,fun x _=>⟨⟨i+1,by omega⟩,by simp only;omega,⟨?_,?_⟩,?_⟩⟩,fun hi=>⟨by omega,by rw[mkTo_end (by omega)]⟩⟩
 .rw[Qak (by omega) (by omega)];simp only;omega
 .rw[Qak (by omega) (by omega)];simp only;omega
 .rw[Qado,mkTo_set hi]
 simp[mkIC.H1] at hp;subst hp;exact .inl ⟨by omega,rfl,rfl⟩
def digK(n:Nat):ByteArray:=if h:n=0 then ByteArray.empty else digK (n/10)++strI [IntKind.u8.wrap (48+((n % 10:Nat):Int))]
termination_by n
def mkTx(k:Int):ByteArray:=if k<=0 then "m0".toUTF8 else "m".toUTF8++digK k.toNat
def mkText.ar:List PK->Option (Int):=a1 kI
def mkText.ae(a:Int):List PK:=[.val (.int .i64 a)]
def mkText.fv(a:Int):ByteArray:=(mkTx) a
def mkText.row:Row:=vrow mkText.ar (fun a=>a<=1099511627776) (fun a=>(D.str) (mkText.fv a))
def mkText.q:=vq mkText.row rfl
theorem mkText.ok:Qas Tryz.prog 131 mkText.row:=by
 refine Qaj Qaq tN Tryz.func131 rfl (by kernel_rfl) (by kernel_rfl) (ar:=mkText.ar) (ae:=mkText.ae) (Qacd Qab9) (n:=1) (fun _=>rfl) (by decide) (rc:=(vStr)) (re:=(D.str)) (vStr_le) (f:=mkText.fv) ?_;intro a hpre;simp only[Tryz.f131,Option.getD];simp (maxSteps:=10^7) (disch:=omega) only[ZZ,simprocAttr,rch,mkText.ae,mkText.fv];by_cases c0:a<=0
 .rw[Zaq c0];simp only[mkTx];rw[Zaq c0];rfl
 rw[Zai c0];have eR:mkTx a= "m".toUTF8++digK a.toNat:=by simp only[mkTx];rw[Zai c0]
 refine Qay.old ⟨{q:Nat×ByteArray//(q.1:Int)<=a/\digK a.toNat=digK q.1++q.2/\q.2.size+q.1<=a.toNat},fun q=>⟨[(3,.im (.str q.1.2)),(0,.im (.int .i64 q.1.1))],[],0⟩,fun q=>q.1.1,fun q=>⟨by simp[Qad.good,belT,belH,Qam,AV.bel,belL],by simp⟩,⟨⟨(a.toNat,ByteArray.empty),by simp only;exact⟨by omega,by simp,by simp⟩⟩,by simp (maxSteps:=10^7) (disch:=omega) only[ZZ,simprocAttr,rch,mkText.ae,mkText.fv,sub];exact⟨rfl,by omega⟩⟩,fun q=> ?_⟩;obtain⟨⟨q,out⟩,hq1,hq2,hq3⟩:=q;simp only at hq1 hq2 hq3;simp (maxSteps:=10^7) (disch:=omega) only[ZZ,simprocAttr,rch,mkText.ae,mkText.fv,sub,Qal];refine⟨fun c1=> ?_,fun c1=> ?_⟩
 .have hq:q≠0:=by omega
  have e1:(q:Int).tmod 10=((q % 10:Nat):Int):=by rw[Zdp (by omega)];omega
  have e2:(q:Int).tdiv 10=((q/10:Nat):Int):=by rw[Zee (by omega)];omega
  have e3:IntKind.i64.wrap (48+(q:Int).tmod 10)=48+((q % 10:Nat):Int):=by rw[e1];exact Qak (by omega) (by omega)
  rw[e3,e2];have hs:({data:= #[UInt8.ofNat (IntKind.u8.wrap (48+((q % 10:Nat):Int))).toNat]}:ByteArray)=strI [IntKind.u8.wrap (48+((q % 10:Nat):Int))]:=rfl;have hz:(strI [IntKind.u8.wrap (48+((q % 10:Nat):Int))]).size=1:=rfl;rw[hs];refine⟨by omega,⟨(q/10,strI [IntKind.u8.wrap (48+((q % 10:Nat):Int))]++out),by simp only;omega,?_,?_⟩,by simp only;omega,rfl,by exact Qak (by omega) (by omega)⟩
  .simp only;rw[hq2,digK,dif_neg hq,ByteArray.append_assoc]
  .simp only[ByteArray.size_append,hz];omega
 .have hq:q=0:=by omega
  subst hq;refine⟨by show 1+out.size<=_;omega,?_⟩;rw[eR,hq2,digK,dif_pos rfl,ByteArray.empty_append];rfl
def wrL{A:Type}(f:Nat->A)(l:List A)(i:Nat):List A:=(List.range i).map f++l.drop i
theorem Qafc{A:Type}{f:Nat->A}{l:List A}{i:Nat}(h:i<=l.length):(wrL f l i).length=l.length:=by simp[wrL];omega
theorem Qaef{A:Type}(f:Nat->A)(l:List A):wrL f l 0=l:=by simp[wrL]
theorem Qaff{A:Type}{f:Nat->A}{l:List A}{i:Nat}(h:i<l.length):(wrL f l i).set i (f i)=wrL f l (i+1):=by
 have hd:l.drop i=l[i]::l.drop (i+1):=by rw[ZbI h]
 have hl:((List.range i).map f).length=i:=by simp
 rw[wrL,ZcG _ _ (by rw[hl];omega),hl,hd,Zce,Zcu,wrL,ZcZ];simp
def wrE{A:Type}(f:Nat->A)(n:Nat):List A:=(List.range n).map f
theorem Qafk{A:Type}{f:Nat->A}{l:List A}{i:Nat}(h:i=l.length):wrL f l i=wrE f l.length:=by
 subst h;simp[wrL,wrE]
def gF(k:Int)(i:Nat):Glue:=⟨mkTx (k+2*i),k+2*i+1⟩
def mkGC.ca(a:List Glue×Int):List AV:=[.own 0,.im (.int .i64 a.2)]
def mkGC.H0(a:List Glue×Int):Qan:=[(0,(true,.arr 173 2 (a.1.map Glue.c)))]
def mkGC.H1(a:List Glue×Int):Qan:=[(0,(true,.arr 173 2 ((wrE (gF a.2) a.1.length).map Glue.c)))]
def mkGC.row:Row:=orow mkGC.ca mkGC.H0 1 (fun a=>0<=a.2/\a.2+2*a.1.length<=1099511627776) (fun j=>j==0) (fun a=> .im (.int .i64 (a.2+2*a.1.length))) mkGC.H1 0
def YaZ:=J @mkText.q (J @mkText.ar.eq_1 @mkText.fv.eq_1)
theorem mkGC.ok:Qas Tryz.prog 101 mkGC.row:=by
 refine Qf1 Qaq (tC mkText.ok tN) Tryz.func101 rfl (by kernel_rfl) (by kernel_rfl) (exB:=fun _=>false) (R:=fun a r=>r= .im (.int .i64 (a.2+2*a.1.length))) (n:=2) (fun _=>rfl) (by decide)
  (fun a=>by simp[mkGC.ca,mkGC.H0,mkGC.H1,belL,AV.bel]) (fun a=>by simp[mkGC.ca,mkGC.H0,mkGC.H1,belH,belL,AV.bel]) (fun a=>by simp[mkGC.ca,mkGC.H0,mkGC.H1,Qam])
  (fun a=>by simp[Qc2,mkGC.ca,mkGC.H0,mkGC.H1,AObj.nms,nmsL,AV.nms,domB,hget]) (fun a p hp=> ?_) (fun a r h=>by subst h;exact LeV.refl _) ?_
 rotate_left
 intro a hpre;simp only[Tryz.f101,Option.getD,mkGC.ca,mkGC.H0,mkGC.H1];simp (maxSteps:=10^7) (disch:=omega) only[ZZ,simprocAttr,rch,YaZ,ORB,mkGC.ca,mkGC.H0,mkGC.H1];obtain⟨l,k⟩:=a;simp only at hpre⊢;obtain⟨h1,h2⟩:=hpre;refine Qay.old ⟨{i:Nat//i<=l.length},fun i=>⟨[(5,.im (.int .i64 i.1)),(4,.im (.int .i64 0)),(1,.im (.int .i64 (k+2*i.1))),(0,.own 0)],[(0,(true,.arr 173 2 ((wrL (gF k) l i.1).map Glue.c)))],1⟩,fun i=>l.length - i.1,fun i=>⟨by simp[Qad.good,belT,belH,Qam,AV.bel,belL],by simp⟩,⟨⟨0,by simp⟩,by simp (maxSteps:=10^7) (disch:=omega) only[ZZ,simprocAttr,rch,YaZ,ORB,mkGC.ca,mkGC.H0,mkGC.H1,sub,Qaef];simp⟩,fun i=> ?_⟩;obtain⟨i,hi1⟩:=i;have hml:=Qafc (f:=gF k) hi1;simp (maxSteps:=10^7) (disch:=omega) only[ZZ,simprocAttr,rch,YaZ,ORB,mkGC.ca,mkGC.H0,mkGC.H1,sub,Qal,hml];intro _;refine⟨fun hi=>⟨by omega,hi,hi,fun x hx=> ?_⟩,fun hi=> ?_⟩
 .have w1:IntKind.i64.wrap (k+2*(i:Int)+1)=k+2*(i:Int)+1:=Qak (by omega) (by omega);have hl2:i<(List.map Glue.c (wrL (gF k) l i)).length:=by rw[Zbw,hml];exact hi
  refine⟨by rw[ZaX];exact hl2,by rw[ZaX];exact hl2,Qi3 (Zaw hl2) ?_⟩;simp (maxSteps:=10^7) (disch:=omega) only[ZZ,simprocAttr,rch,YaZ,ORB,mkGC.ca,mkGC.H0,mkGC.H1,sub,w1,Zeg];refine⟨⟨i+1,by omega⟩,by simp only;omega,⟨?_,?_⟩,?_⟩
  .rw[Qak (by omega) (by omega)];simp only;omega
  .rw[Qak (by omega) (by omega)];simp only;omega
  .simp only;rw[<-Qaff hi,ZcM];rfl
 .exact⟨by omega,by rw[Qafk (by omega)]⟩
 simp[mkGC.H1] at hp;subst hp;exact .inl ⟨by omega,rfl,rfl⟩
def pF(k:Int)(i:Nat):Qab:=⟨⟨k+3*i,k+3*i+1⟩,k+3*i+2⟩
def mkPC.ca(a:List Qab×Int):List AV:=[.own 0,.im (.int .i64 a.2)]
def mkPC.H0(a:List Qab×Int):Qan:=[(0,(true,.arr 177 3 (a.1.map Qab.c)))]
def mkPC.H1(a:List Qab×Int):Qan:=[(0,(true,.arr 177 3 ((wrE (pF a.2) a.1.length).map Qab.c)))]
def mkPC.row:Row:=orow mkPC.ca mkPC.H0 1 (fun a=>0<=a.2/\a.2+3*a.1.length<=1099511627776) (fun j=>j==0) (fun a=> .im (.int .i64 (a.2+3*a.1.length))) mkPC.H1 0
theorem mkPC.ok:Qas Tryz.prog 103 mkPC.row:=by
 refine Qf1 Qaq tN Tryz.func103 rfl (by kernel_rfl) (by kernel_rfl) (exB:=fun _=>false) (R:=fun a r=>r= .im (.int .i64 (a.2+3*a.1.length))) (n:=2) (fun _=>rfl) (by decide)
  (fun a=>by simp[mkPC.ca,mkPC.H0,mkPC.H1,belL,AV.bel]) (fun a=>by simp[mkPC.ca,mkPC.H0,mkPC.H1,belH,belL,AV.bel]) (fun a=>by simp[mkPC.ca,mkPC.H0,mkPC.H1,Qam])
  (fun a=>by simp[Qc2,mkPC.ca,mkPC.H0,mkPC.H1,AObj.nms,nmsL,AV.nms,domB,hget]) (fun a p hp=> ?_) (fun a r h=>by subst h;exact LeV.refl _) ?_
 rotate_left
 intro a hpre;simp only[Tryz.f103,Option.getD,mkPC.ca,mkPC.H0,mkPC.H1];simp (maxSteps:=10^7) (disch:=omega) only[ZZ,simprocAttr,rch,ORB,mkPC.ca,mkPC.H0,mkPC.H1];obtain⟨l,k⟩:=a;simp only at hpre⊢;obtain⟨h1,h2⟩:=hpre;refine Qay.old ⟨{i:Nat//i<=l.length},fun i=>⟨[(5,.im (.int .i64 i.1)),(4,.im (.int .i64 0)),(1,.im (.int .i64 (k+3*i.1))),(0,.own 0)],[(0,(true,.arr 177 3 ((wrL (pF k) l i.1).map Qab.c)))],1⟩,fun i=>l.length - i.1,fun i=>⟨by simp[Qad.good,belT,belH,Qam,AV.bel,belL],by simp⟩,⟨⟨0,by simp⟩,by simp (maxSteps:=10^7) (disch:=omega) only[ZZ,simprocAttr,rch,ORB,mkPC.ca,mkPC.H0,mkPC.H1,sub,Qaef];simp⟩,fun i=> ?_⟩;obtain⟨i,hi1⟩:=i;have hml:=Qafc (f:=pF k) hi1;simp (maxSteps:=10^7) (disch:=omega) only[ZZ,simprocAttr,rch,ORB,mkPC.ca,mkPC.H0,mkPC.H1,sub,Qal,hml];intro _;refine⟨fun hi=>⟨hi,hi,fun x hx=> ?_⟩,fun hi=> ?_⟩
 .have w1:IntKind.i64.wrap (k+3*(i:Int)+1)=k+3*(i:Int)+1:=Qak (by omega) (by omega);have w2:IntKind.i64.wrap (k+3*(i:Int)+1+1)=k+3*(i:Int)+2:=(Qak (by omega) (by omega)).trans (by omega);have hl2:i<(List.map Qab.c (wrL (pF k) l i)).length:=by rw[Zbw,hml];exact hi
  simp only[w1,w2];refine⟨by rw[ZaX];exact hl2,by rw[ZaX];exact hl2,Qi3 (Zaw hl2) ?_⟩;simp (maxSteps:=10^7) (disch:=omega) only[ZZ,simprocAttr,rch,ORB,mkPC.ca,mkPC.H0,mkPC.H1,sub,w1,w2,Zeg];refine⟨by rw[ZaX];exact hl2,by rw[ZaX];exact hl2,Qi3 (Zaw hl2) ?_⟩;simp (maxSteps:=10^7) (disch:=omega) only[ZZ,simprocAttr,rch,ORB,mkPC.ca,mkPC.H0,mkPC.H1,sub,w1,w2,Zeg];refine⟨⟨i+1,by omega⟩,by simp only;omega,⟨?_,?_⟩,?_⟩
  .rw[Qak (by omega) (by omega)];simp only;omega
  .rw[Qak (by omega) (by omega)];simp only;omega
  .simp only;rw[<-Qaff hi,ZcM];rfl
 .exact⟨by omega,by rw[Qafk (by omega)]⟩
 simp[mkPC.H1] at hp;subst hp;exact .inl ⟨by omega,rfl,rfl⟩
def oF(k:Int)(i:Nat):Opt:=⟨⟨k+3*i,k+3*i+1⟩,k+3*i+2⟩
def mkOC.ca(a:List Opt×Int):List AV:=[.own 0,.im (.int .i64 a.2)]
def mkOC.H0(a:List Opt×Int):Qan:=[(0,(true,.arr 82 3 (a.1.map Opt.c)))]
def mkOC.H1(a:List Opt×Int):Qan:=[(0,(true,.arr 82 3 ((wrE (oF a.2) a.1.length).map Opt.c)))]
def mkOC.row:Row:=orow mkOC.ca mkOC.H0 1 (fun a=>0<=a.2/\a.2+3*a.1.length<=1099511627776) (fun j=>j==0) (fun a=> .im (.int .i64 (a.2+3*a.1.length))) mkOC.H1 0
theorem mkOC.ok:Qas Tryz.prog 21 mkOC.row:=by
 refine Qf1 Qaq tN Tryz.func21 rfl (by kernel_rfl) (by kernel_rfl) (exB:=fun _=>false) (R:=fun a r=>r= .im (.int .i64 (a.2+3*a.1.length))) (n:=2) (fun _=>rfl) (by decide)
  (fun a=>by simp[mkOC.ca,mkOC.H0,mkOC.H1,belL,AV.bel]) (fun a=>by simp[mkOC.ca,mkOC.H0,mkOC.H1,belH,belL,AV.bel]) (fun a=>by simp[mkOC.ca,mkOC.H0,mkOC.H1,Qam])
  (fun a=>by simp[Qc2,mkOC.ca,mkOC.H0,mkOC.H1,AObj.nms,nmsL,AV.nms,domB,hget]) (fun a p hp=> ?_) (fun a r h=>by subst h;exact LeV.refl _) ?_
 rotate_left
 intro a hpre;simp only[Tryz.f21,Option.getD,mkOC.ca,mkOC.H0,mkOC.H1];simp (maxSteps:=10^7) (disch:=omega) only[ZZ,simprocAttr,rch,ORB,mkOC.ca,mkOC.H0,mkOC.H1];obtain⟨l,k⟩:=a;simp only at hpre⊢;obtain⟨h1,h2⟩:=hpre;refine Qay.old ⟨{i:Nat//i<=l.length},fun i=>⟨[(5,.im (.int .i64 i.1)),(4,.im (.int .i64 0)),(1,.im (.int .i64 (k+3*i.1))),(0,.own 0)],[(0,(true,.arr 82 3 ((wrL (oF k) l i.1).map Opt.c)))],1⟩,fun i=>l.length - i.1,fun i=>⟨by simp[Qad.good,belT,belH,Qam,AV.bel,belL],by simp⟩,⟨⟨0,by simp⟩,by simp (maxSteps:=10^7) (disch:=omega) only[ZZ,simprocAttr,rch,ORB,mkOC.ca,mkOC.H0,mkOC.H1,sub,Qaef];simp⟩,fun i=> ?_⟩;obtain⟨i,hi1⟩:=i;have hml:=Qafc (f:=oF k) hi1;simp (maxSteps:=10^7) (disch:=omega) only[ZZ,simprocAttr,rch,ORB,mkOC.ca,mkOC.H0,mkOC.H1,sub,Qal,hml];intro _;refine⟨fun hi=>⟨hi,hi,fun x hx=> ?_⟩,fun hi=> ?_⟩
 .have w1:IntKind.i64.wrap (k+3*(i:Int)+1)=k+3*(i:Int)+1:=Qak (by omega) (by omega);have w2:IntKind.i64.wrap (k+3*(i:Int)+1+1)=k+3*(i:Int)+2:=(Qak (by omega) (by omega)).trans (by omega);have hl2:i<(List.map Opt.c (wrL (oF k) l i)).length:=by rw[Zbw,hml];exact hi
  simp only[w1,w2];refine⟨by rw[ZaX];exact hl2,by rw[ZaX];exact hl2,Qi3 (Zaw hl2) ?_⟩;simp (maxSteps:=10^7) (disch:=omega) only[ZZ,simprocAttr,rch,ORB,mkOC.ca,mkOC.H0,mkOC.H1,sub,w1,w2,Zeg];refine⟨by rw[ZaX];exact hl2,by rw[ZaX];exact hl2,Qi3 (Zaw hl2) ?_⟩;simp (maxSteps:=10^7) (disch:=omega) only[ZZ,simprocAttr,rch,ORB,mkOC.ca,mkOC.H0,mkOC.H1,sub,w1,w2,Zeg];refine⟨⟨i+1,by omega⟩,by simp only;omega,⟨?_,?_⟩,?_⟩
  .rw[Qak (by omega) (by omega)];simp only;omega
  .rw[Qak (by omega) (by omega)];simp only;omega
  .simp only;rw[<-Qaff hi,ZcM];rfl
 .exact⟨by omega,by rw[Qafk (by omega)]⟩
 simp[mkOC.H1] at hp;subst hp;exact .inl ⟨by omega,rfl,rfl⟩
def toIX.ca(a:List Int):List AV:=[.im (.sl false 1 (a.map intC))]
def toIX.H1(a:List Int):Qan:=[(1,(true,.arr 2 1 (a.map intC)))]
def toIX.row:Row:=orow toIX.ca (fun _=>[]) 0 (fun a=>a.length<=1073741824) (fun _=>false) (fun _=> .own 1) toIX.H1 2
theorem toIX.ok:Qas Tryz.prog 154 toIX.row:=by
 refine Qf1 Qaq tN Tryz.func154 rfl (by kernel_rfl) (by kernel_rfl) (exB:=fun j=>j==1) (R:=fun _ r=>r= .own 1) (n:=1) (fun _=>rfl) (by decide)
  (fun a=>by simp[toIX.ca,toIX.H1,belL,AV.bel]) (fun a=>by simp[toIX.ca,toIX.H1,belH,belL,AV.bel]) (fun a=>by simp[toIX.ca,toIX.H1,Qam])
  (fun a=>by simp[Qc2,toIX.ca,toIX.H1,AObj.nms,nmsL,AV.nms,domB,hget]) (fun a p hp=> ?_) (fun a r h=>by subst h;exact LeV.refl _) ?_
 rotate_left
 intro a hpre;simp only[Tryz.f154,Option.getD,toIX.ca,toIX.H1];simp (maxSteps:=10^7) (disch:=omega) only[ZZ,simprocAttr,rch,ORB,toIX.ca,toIX.H1];intro hlen;have hpl:a.length<=1073741824:=hpre;refine⟨by omega,?_⟩;refine Qay.old ⟨{k:Nat//k<=a.length},fun k=>⟨[(4,.im (.int .i64 k.1)),(3,.own 1),(0,.im (.sl false 1 (a.map intC)))],[(1,(true,.arr 2 1 ((a.take k.1).map intC++List.replicate (a.length - k.1) [.int .i64 0])))],2⟩,fun k=>a.length - k.1,fun k=>⟨by simp[Qad.good,belT,belH,Qam,AV.bel,belL],Zam _⟩,⟨⟨0,by omega⟩,by simp (maxSteps:=10^7) (disch:=omega) only[ZZ,simprocAttr,rch,ORB,toIX.ca,toIX.H1,sub];simp⟩,fun k=> ?_⟩;obtain⟨k,hk1⟩:=k;simp (maxSteps:=10^7) (disch:=omega) only[ZZ,simprocAttr,rch,ORB,toIX.ca,toIX.H1,sub,Qal,Qk2 _ _ a k hk1];intro _;refine⟨fun hk=> ?_,fun hk=> ?_⟩
 .refine⟨hk,fun x hx=>⟨hk,hk,Qi3 (Qj5 intC _ a k x hx) ?_⟩⟩;simp (maxSteps:=10^7) (disch:=omega) only[ZZ,simprocAttr,rch,ORB,toIX.ca,toIX.H1,sub];refine⟨⟨k+1,by omega⟩,by simp only;omega,?_,?_⟩
  .rw[Qak (by omega) (by omega)];simp only;omega
  .exact Qli intC _ a k x hx
 .rw[Qkp intC _ a k (by omega)]
  try trivial
 simp[toIX.H1] at hp;subst hp;exact .inr ⟨by omega,by omega,rfl,rfl⟩
def toGX.ca(a:List Glue):List AV:=[.im (.sl false 2 (a.map Glue.c))]
def toGX.H1(a:List Glue):Qan:=[(1,(true,.arr 173 2 (a.map Glue.c)))]
def toGX.row:Row:=orow toGX.ca (fun _=>[]) 0 (fun a=>a.length<=1073741824) (fun _=>false) (fun _=> .own 1) toGX.H1 2
def Yba:=J @toGlue.q (J @toGlue.ar.eq_1 @toGlue.fv.eq_1)
theorem toGX.ok:Qas Tryz.prog 84 toGX.row:=by
 refine Qf1 Qaq (tC toGlue.ok tN) Tryz.func84 rfl (by kernel_rfl) (by kernel_rfl) (exB:=fun j=>j==1) (R:=fun _ r=>r= .own 1) (n:=1) (fun _=>rfl) (by decide)
  (fun a=>by simp[toGX.ca,toGX.H1,belL,AV.bel]) (fun a=>by simp[toGX.ca,toGX.H1,belH,belL,AV.bel]) (fun a=>by simp[toGX.ca,toGX.H1,Qam])
  (fun a=>by simp[Qc2,toGX.ca,toGX.H1,AObj.nms,nmsL,AV.nms,domB,hget]) (fun a p hp=> ?_) (fun a r h=>by subst h;exact LeV.refl _) ?_
 rotate_left
 intro a hpre;simp only[Tryz.f84,Option.getD,toGX.ca,toGX.H1];simp (maxSteps:=10^7) (disch:=omega) only[ZZ,simprocAttr,rch,Yba,ORB,toGX.ca,toGX.H1];intro hlen;have hpl:a.length<=1073741824:=hpre;refine⟨by omega,?_⟩;refine Qay.old ⟨{k:Nat//k<=a.length},fun k=>⟨[(4,.im (.int .i64 k.1)),(3,.own 1),(0,.im (.sl false 2 (a.map Glue.c)))],[(1,(true,.arr 173 2 ((a.take k.1).map Glue.c++List.replicate (a.length - k.1) [.str ByteArray.empty,.int .i64 0])))],2⟩,fun k=>a.length - k.1,fun k=>⟨by simp[Qad.good,belT,belH,Qam,AV.bel,belL],Zam _⟩,⟨⟨0,by omega⟩,by simp (maxSteps:=10^7) (disch:=omega) only[ZZ,simprocAttr,rch,Yba,ORB,toGX.ca,toGX.H1,sub];simp⟩,fun k=> ?_⟩;obtain⟨k,hk1⟩:=k;simp (maxSteps:=10^7) (disch:=omega) only[ZZ,simprocAttr,rch,Yba,ORB,toGX.ca,toGX.H1,sub,Qal,Qk2 _ _ a k hk1];intro _;refine⟨fun hk=> ?_,fun hk=> ?_⟩
 .refine⟨hk,fun x hx=>⟨hk,hk,Qi3 (Qj5 Glue.c _ a k x hx) ?_⟩⟩;simp (maxSteps:=10^7) (disch:=omega) only[ZZ,simprocAttr,rch,Yba,ORB,toGX.ca,toGX.H1,sub];refine⟨⟨k+1,by omega⟩,by simp only;omega,?_,?_⟩
  .rw[Qak (by omega) (by omega)];simp only;omega
  .exact Qli Glue.c _ a k x hx
 .rw[Qkp Glue.c _ a k (by omega)]
  try trivial
 simp[toGX.H1] at hp;subst hp;exact .inr ⟨by omega,by omega,rfl,rfl⟩
def toPX.ca(a:List Qab):List AV:=[.im (.sl false 3 (a.map Qab.c))]
def toPX.H1(a:List Qab):Qan:=[(1,(true,.arr 177 3 (a.map Qab.c)))]
def toPX.row:Row:=orow toPX.ca (fun _=>[]) 0 (fun a=>a.length<=1073741824) (fun _=>false) (fun _=> .own 1) toPX.H1 2
def Ybb:=J @toPlaced.q (J @toPlaced.ar.eq_1 @toPlaced.fv.eq_1)
theorem toPX.ok:Qas Tryz.prog 86 toPX.row:=by
 refine Qf1 Qaq (tC toPlaced.ok tN) Tryz.func86 rfl (by kernel_rfl) (by kernel_rfl) (exB:=fun j=>j==1) (R:=fun _ r=>r= .own 1) (n:=1) (fun _=>rfl) (by decide)
  (fun a=>by simp[toPX.ca,toPX.H1,belL,AV.bel]) (fun a=>by simp[toPX.ca,toPX.H1,belH,belL,AV.bel]) (fun a=>by simp[toPX.ca,toPX.H1,Qam])
  (fun a=>by simp[Qc2,toPX.ca,toPX.H1,AObj.nms,nmsL,AV.nms,domB,hget]) (fun a p hp=> ?_) (fun a r h=>by subst h;exact LeV.refl _) ?_
 rotate_left
 intro a hpre;simp only[Tryz.f86,Option.getD,toPX.ca,toPX.H1];simp (maxSteps:=10^7) (disch:=omega) only[ZZ,simprocAttr,rch,Ybb,ORB,toPX.ca,toPX.H1];intro hlen;have hpl:a.length<=1073741824:=hpre;refine⟨by omega,?_⟩;refine Qay.old ⟨{k:Nat//k<=a.length},fun k=>⟨[(4,.im (.int .i64 k.1)),(3,.own 1),(0,.im (.sl false 3 (a.map Qab.c)))],[(1,(true,.arr 177 3 ((a.take k.1).map Qab.c++List.replicate (a.length - k.1) [.int .i64 0,.int .i64 0,.int .i64 0])))],2⟩,fun k=>a.length - k.1,fun k=>⟨by simp[Qad.good,belT,belH,Qam,AV.bel,belL],Zam _⟩,⟨⟨0,by omega⟩,by simp (maxSteps:=10^7) (disch:=omega) only[ZZ,simprocAttr,rch,Ybb,ORB,toPX.ca,toPX.H1,sub];simp⟩,fun k=> ?_⟩;obtain⟨k,hk1⟩:=k;simp (maxSteps:=10^7) (disch:=omega) only[ZZ,simprocAttr,rch,Ybb,ORB,toPX.ca,toPX.H1,sub,Qal,Qk2 _ _ a k hk1];intro _;refine⟨fun hk=> ?_,fun hk=> ?_⟩
 .refine⟨hk,fun x hx=>⟨hk,hk,Qi3 (Qj5 Qab.c _ a k x hx) ?_⟩⟩;simp (maxSteps:=10^7) (disch:=omega) only[ZZ,simprocAttr,rch,Ybb,ORB,toPX.ca,toPX.H1,sub];refine⟨⟨k+1,by omega⟩,by simp only;omega,?_,?_⟩
  .rw[Qak (by omega) (by omega)];simp only;omega
  .exact Qli Qab.c _ a k x hx
 .rw[Qkp Qab.c _ a k (by omega)]
  try trivial
 simp[toPX.H1] at hp;subst hp;exact .inr ⟨by omega,by omega,rfl,rfl⟩
def toOX.ca(a:List Opt):List AV:=[.im (.sl false 3 (a.map Opt.c))]
def toOX.H1(a:List Opt):Qan:=[(1,(true,.arr 82 3 (a.map Opt.c)))]
def toOX.row:Row:=orow toOX.ca (fun _=>[]) 0 (fun a=>a.length<=1073741824) (fun _=>false) (fun _=> .own 1) toOX.H1 2
def Ybc:=J @toOption.q (J @toOption.ar.eq_1 @toOption.fv.eq_1)
theorem toOX.ok:Qas Tryz.prog 13 toOX.row:=by
 refine Qf1 Qaq (tC toOption.ok tN) Tryz.func13 rfl (by kernel_rfl) (by kernel_rfl) (exB:=fun j=>j==1) (R:=fun _ r=>r= .own 1) (n:=1) (fun _=>rfl) (by decide)
  (fun a=>by simp[toOX.ca,toOX.H1,belL,AV.bel]) (fun a=>by simp[toOX.ca,toOX.H1,belH,belL,AV.bel]) (fun a=>by simp[toOX.ca,toOX.H1,Qam])
  (fun a=>by simp[Qc2,toOX.ca,toOX.H1,AObj.nms,nmsL,AV.nms,domB,hget]) (fun a p hp=> ?_) (fun a r h=>by subst h;exact LeV.refl _) ?_
 rotate_left
 intro a hpre;simp only[Tryz.f13,Option.getD,toOX.ca,toOX.H1];simp (maxSteps:=10^7) (disch:=omega) only[ZZ,simprocAttr,rch,Ybc,ORB,toOX.ca,toOX.H1];intro hlen;have hpl:a.length<=1073741824:=hpre;refine⟨by omega,?_⟩;refine Qay.old ⟨{k:Nat//k<=a.length},fun k=>⟨[(4,.im (.int .i64 k.1)),(3,.own 1),(0,.im (.sl false 3 (a.map Opt.c)))],[(1,(true,.arr 82 3 ((a.take k.1).map Opt.c++List.replicate (a.length - k.1) [.int .i64 0,.int .i64 0,.int .i64 0])))],2⟩,fun k=>a.length - k.1,fun k=>⟨by simp[Qad.good,belT,belH,Qam,AV.bel,belL],Zam _⟩,⟨⟨0,by omega⟩,by simp (maxSteps:=10^7) (disch:=omega) only[ZZ,simprocAttr,rch,Ybc,ORB,toOX.ca,toOX.H1,sub];simp⟩,fun k=> ?_⟩;obtain⟨k,hk1⟩:=k;simp (maxSteps:=10^7) (disch:=omega) only[ZZ,simprocAttr,rch,Ybc,ORB,toOX.ca,toOX.H1,sub,Qal,Qk2 _ _ a k hk1];intro _;refine⟨fun hk=> ?_,fun hk=> ?_⟩
 .refine⟨hk,fun x hx=>⟨hk,hk,Qi3 (Qj5 Opt.c _ a k x hx) ?_⟩⟩;simp (maxSteps:=10^7) (disch:=omega) only[ZZ,simprocAttr,rch,Ybc,ORB,toOX.ca,toOX.H1,sub];refine⟨⟨k+1,by omega⟩,by simp only;omega,?_,?_⟩
  .rw[Qak (by omega) (by omega)];simp only;omega
  .exact Qli Opt.c _ a k x hx
 .rw[Qkp Opt.c _ a k (by omega)]
  try trivial
 simp[toOX.H1] at hp;subst hp;exact .inr ⟨by omega,by omega,rfl,rfl⟩
def toTX.ca(a:Tile):List AV:=[.im (.agg (Tile.c a))]
def toTX.r0(a:Tile):AV:= .agg [.im (.str a.Name),.own 4]
def toTX.H1(a:Tile):Qan:=[(4,(true,.arr 2 1 (a.Sides.map intC)))]
def toTX.row:Row:=orow toTX.ca (fun _=>[]) 0 (fun a=>a.Sides.length<=1073741824) (fun _=>false) toTX.r0 toTX.H1 5
theorem toTX.ok:Qas Tryz.prog 116 toTX.row:=by
 refine Qf1 Qaq (tC toIX.ok tN) Tryz.func116 rfl (by kernel_rfl) (by kernel_rfl) (exB:=fun j=>j==4) (R:=fun a r=>r=toTX.r0 a) (n:=1) (fun _=>rfl) (by decide)
  (fun a=>by simp[toTX.ca,toTX.H1,Tile.c,belL,AV.bel]) (fun a=>by simp[toTX.ca,toTX.H1,Tile.c,belH,belL,AV.bel]) (fun a=>by simp[toTX.ca,toTX.H1,Tile.c,Qam])
  (fun a=>by simp[Qc2,toTX.ca,toTX.H1,Tile.c,AObj.nms,nmsL,AV.nms,domB,hget]) (fun a p hp=> ?_) (fun a r h=>by subst h;exact LeV.refl _) ?_
 rotate_left
 intro a hpre;simp only[Tryz.f116,Option.getD,toTX.ca,toTX.H1,Tile.c];simp (maxSteps:=10^7) (disch:=omega) only[ZZ,simprocAttr,rch,ORB,toTX.ca,toTX.H1,Tile.c];refine orow.os a.Sides [] hpre (fun j=>by simp[domB,hget]) rfl rfl ?_ ?_
 .simp (maxSteps:=10^7) (disch:=omega) only[ZZ,simprocAttr,rch,ORB,toTX.ca,toTX.H1,Tile.c,toIX.ca,Qer]
 simp (maxSteps:=10^7) (disch:=omega) only[ZZ,simprocAttr,rch,ORB,toTX.ca,toTX.H1,Tile.c,toIX.H1,sub,toTX.r0,ZaR,Zbm]
 skip
 simp[toTX.H1] at hp;subst hp;exact .inr ⟨by omega,by omega,rfl,rfl⟩
def tlF(a:List Tile)(i:Nat):Ent:=(true,.arr 2 1 (((a[i]?.map Tile.Sides).getD []).map intC))
def tlA(a:List Tile)(i:Nat):List AV:=[.im (.str ((a[i]?.map Tile.Name).getD ByteArray.empty)),.own (2+i)]
def tlZ:List AV:=[.im (.str ByteArray.empty),.im (.sl true 0 [])]
def tlR(a:List Tile)(k:Nat):List (List AV):=(List.range k).map (tlA a)++List.replicate (a.length - k) tlZ
theorem Qae9{a:List Tile}{k:Nat}(h:k<=a.length):(tlR a k).length=a.length:=by simp[tlR];omega
theorem tlR_lo{a:List Tile}{k i:Nat}(h:i<k):(tlR a k)[i]? =some (tlA a i):=by
 rw[tlR,ZaL (by simpa using h),ZaG,Zbc h];rfl
theorem tlR_hi{a:List Tile}{k i:Nat}(h:k<=i)(h2:i<a.length):(tlR a k)[i]? =some tlZ:=by
 rw[tlR,ZaN (by simpa using h),Zbo,Zaq (by simp;omega)]
theorem tlR_bel(a:List Tile)(k N:Nat)(h:2+k<=N):(tlR a k).all (belL N)=true:=by
 rw[ZaI];intro r hr;rcases Zan.1 hr with hr|hr
 .obtain⟨i,hi,rfl⟩:=Zay.1 hr
  have:=Zar.1 hi
  simp[tlA,belL,AV.bel];omega
 .obtain rfl:=Zbp hr;simp[tlZ,belL,AV.bel]
theorem tlR_zero(a:List Tile):tlR a 0=imR (List.replicate a.length [.str ByteArray.empty,.sl true 0 []]):=by
 simp[tlR,imR,tlZ]
theorem Qadj(h:Nat->Option Ent)(F:AV->Option AV)(b:Nat)(f:Nat->Ent)(n:Nat)(H: ∀i,i<n->h (b+i)=some (f i))(hc: ∀i,i<n->cvtE F (f i).2=some (f i).2):Qhk h F (famH b n f):=by
 have: ∀(l:List Nat),(∀i∈l,i<n)->Qhk h F (l.map fun i=>(b+i,f i)):=by
  intro l;induction l with
  |nil=>intro _;simp[Qhk]
  |cons i r ih=>
   intro hl;simp only[Zal,Qhk];refine⟨?_,ih (fun j hj=>hl j (Zap _ hj))⟩;rw[H i (hl i (Zas ..))];exact⟨rfl,hc i (hl i (Zas ..))⟩
 exact this _ (fun i hi=>Zar.1 hi)
theorem tlR_cvt{h:Nat->Option Ent}{kx:Nat->Option Nat}{m:Nat}{a:List Tile}(hk: ∀i,i<a.length->kx (2+i)=some (2+i)):mapO (mapO (cvt h kx (m+1))) (tlR a a.length)=some (tlR a a.length):=by
 have e:tlR a a.length=(List.range a.length).map (tlA a):=by simp[tlR]
 rw[e];refine Qnl (g:=tlA a) (k:=tlA a) _ fun i hi=> ?_
 simp only[tlA,mapO,cvt,hk i (Zar.1 hi),kp]
def toLX.ca(a:List Tile):List AV:=[.im (.sl false 2 (a.map Tile.c))]
def toLX.H1(a:List Tile):Qan:=(1,(true,.arrA 175 2 (tlR a a.length)))::famH 2 (min a.length 1048576) (tlF a)
def toLX.pre(a:List Tile):Prop:=a.length<=1048576/\ ∀x∈a,x.Sides.length<=1073741824
def toLX.row:Row:=orow toLX.ca (fun _=>[]) 0 toLX.pre (fun _=>false) (fun _=> .own 1) toLX.H1 2000000
theorem toLX.ok:Qas Tryz.prog 85 toLX.row:=by
 refine Qf1 Qaq (tC toTX.ok tN) Tryz.func85 rfl (by kernel_rfl) (by kernel_rfl) (exB:=fun j=>Nat.ble 1 j) (R:=fun _ r=>r= .own 1) (n:=1) (fun _=>rfl) (by decide)
  (fun a=>by simp[toLX.ca,belL,AV.bel]) (fun a=>by simp[toLX.ca,belH,belL,AV.bel]) (fun a=>by simp[toLX.ca,Qam])
  (fun a=>by simp[Qc2,toLX.ca,AObj.nms,nmsL,AV.nms,domB,hget]) (fun a p hp=> ?_) (fun a r h=>by subst h;exact LeV.refl _) ?_
 rotate_left
 intro a hpre;simp only[Tryz.f85,Option.getD,toLX.ca];simp (maxSteps:=10^7) (disch:=omega) only[ZZ,simprocAttr,rch,ORB,toLX.ca];obtain⟨h1,h2⟩:=hpre;intro _;refine⟨by omega,?_⟩;refine Qay.ren ⟨{k:Nat//k<=a.length},fun k=>⟨[(4,.im (.int .i64 k.1)),(3,.own 1),(0,.im (.sl false 2 (a.map Tile.c)))],(1,(true,.arrA 175 2 (tlR a k.1)))::famH 2 k.1 (tlF a),2+a.length⟩,fun k=>a.length - k.1,fun k=>⟨?_,by simp⟩,⟨⟨0,by simp⟩,[],?_⟩,fun k=> ?_⟩
 .simp only[Qad.good,belT,belH,Qam,AV.bel,belL,ZaW,Zbe];rw[Qi1 _ _ _ (fun i=>by simp[belH,tlF]),Qd8 _ _ _ _ (by omega),tlR_bel _ _ _ (by omega)];simp
  try omega
 .simp only[subP,famH,Zdf,ZaQ,tlR_zero];simp (maxSteps:=10^7) (disch:=omega) only[ZZ,simprocAttr,rch,ORB,toLX.ca,Zah,Zag,Qsg]
  try simp
 .obtain⟨k,hk1⟩:=k;have hrl:=Qae9 (a:=a) hk1;simp (maxSteps:=10^7) (disch:=omega) only[ZZ,simprocAttr,rch,ORB,toLX.ca,sub,Qal,hrl,Qba];intro _;refine⟨fun hk=>⟨by omega,hk,fun x hx=> ?_⟩,fun hk=> ?_⟩
  .refine orow.os x [] (h2 x (Zae hx)) (fun j=>by simp[domB,hget]) rfl rfl ?_ ?_
   .simp (maxSteps:=10^7) (disch:=omega) only[ZZ,simprocAttr,rch,ORB,toLX.ca,toTX.ca,Qer,Tile.c]
   simp (maxSteps:=10^7) (disch:=omega) only[ZZ,simprocAttr,rch,ORB,toLX.ca,toTX.H1,toTX.r0,sub,Qal,hrl,Qba,Qjf,Qao,ZaR,Zbm];refine⟨⟨by omega,by omega,by omega⟩,hk,by omega,hk,Qi3 (tlR_hi (Zam _) hk) ?_⟩;simp only[tlZ];simp (maxSteps:=10^7) (disch:=omega) only[ZZ,simprocAttr,rch,ORB,toLX.ca,sub,Qal,hrl,Qba,Qjf,Qao,Qce];rw[Qadi 2 k (tlF a) [1] (by simp)];refine⟨⟨?_,by omega⟩,⟨k+1,by omega⟩,[(2+k,some (2+a.length+4))],by simp only;omega,?_⟩
   .rw[ZaI];intro r hr;rcases ZbK hr with hr|hr
    .exact ZaI.1 (tlR_bel a k _ (by omega)) r hr
    .subst hr;simp[belL,AV.bel]
   obtain⟨g,hg⟩: ∃g,g=pm [(2+k,some (2+a.length+4))]:=⟨_,rfl⟩;have qx:g (2+k)=some (2+a.length+4):=by rw[hg];simp[pm]
   have qo: ∀u,u≠2+k->g u=some u:=by intro u h;rw[hg];simp only[pm];rw[Zai (by omega)]
   have q1:pm [(2+k,some (2+a.length+4))] 1=some 1:=by rw[<-hg];exact qo 1 (by omega)
   have px_x:=qx;have px_o:=qo;rw[hg] at px_x px_o;refine⟨⟨by omega,trivial⟩,?_,?_,?_⟩
   .rw[Qi7,<-hg];simp only[Qg1,Qe0];refine Ql1 _ _ (Qet [1] 2 (k+1) (by simp) (by simp)) ?_;have hlt: ∀u∈[1]++(List.range (k+1)).map (2+ ·),u<2+a.length+1:=by
     intro u hu;rcases Zan.1 hu with hu|hu
     .simp at hu;omega
     .obtain⟨i,hi,rfl⟩:=Zay.1 hu
      have:=Zar.1 hi
      show 2+i<2+a.length+1;omega
    intro u hu v hv m hm1 hm2;have hu2:=hlt u hu;have hv2:=hlt v hv;by_cases e1:u=2+k<;>by_cases e2:v=2+k
    .omega
    .rw[e1,qx] at hm1;rw[qo v e2] at hm2;simp only[Zab] at hm1 hm2;omega
    .rw[qo u e1] at hm1;rw[e2,qx] at hm2;simp only[Zab] at hm1 hm2;omega
    .rw[qo u e1] at hm1;rw[qo v e2] at hm2;simp only[Zab] at hm1 hm2;omega
   .simp only[Qpt,tget];simp (maxSteps:=10^7) (disch:=omega) only[ZZ,simprocAttr,rch,ORB,toLX.ca,q1];rw[Qak (by omega) (by omega)];simp
   .simp only[Qgb,Qgn];refine⟨?_,fun i hi=> ?_⟩
    .simp (maxSteps:=10^7) (disch:=omega) only[ZZ,simprocAttr,rch,ORB,toLX.ca,q1];rw[Ql2];refine⟨by rw[ZaX,hrl,Qae9 (by omega)],fun i r1 r2 e1 e2=> ?_⟩;have hil:i<a.length:=by
      have:=(Zaj.1 e1).1
      rw[Qae9 (by omega)] at this;exact this
     by_cases hik:i=k
     .subst hik;rw[tlR_lo (by omega)] at e1;rw[Zaw (by rw[hrl];exact hil)] at e2;obtain rfl:=Zaa e1;obtain rfl:=Zaa e2;simp only[tlA,hx,ZaM,Zad,mtL,mt,px_x,ownM,Zcc]
     .rw[ZaE (by omega)] at e2;by_cases hlt:i<k
      .rw[tlR_lo (by omega)] at e1 e2;obtain rfl:=Zaa e1;obtain rfl:=Zaa e2;simp only[tlA,mtL,mt,px_o (2+i) (by omega),ownM,Zcc]
      .rw[tlR_hi (by omega) hil] at e1 e2;obtain rfl:=Zaa e1;obtain rfl:=Zaa e2;simp only[tlZ,mtL,mt,Zcc]
    .show entN _ _ true (.arr 2 1 (((a[i]?.map Tile.Sides).getD []).map intC)) _;by_cases hik:i=k
     .subst hik;rw[px_x];simp (maxSteps:=10^7) (disch:=omega) only[ZZ,simprocAttr,rch,ORB,toLX.ca,hx,ZaM,Zad,Qao]
      try simp
     .rw[px_o (2+i) (by omega)];simp (maxSteps:=10^7) (disch:=omega) only[ZZ,simprocAttr,rch,ORB,toLX.ca,Qcy,Qao,Qjf,tlF]
      try simp
  .have hkl:k=a.length:=by omega
   subst hkl;refine⟨by omega,by omega,?_⟩;have hmin:min a.length 1048576=a.length:=by omega
   obtain⟨H,hH⟩: ∃H,H=hget ((1,(true,AObj.arrA 175 2 (tlR a a.length)))::famH 2 a.length (tlF a)):=⟨_,rfl⟩;rw[<-hH];have kx: ∀i,i<a.length->(kxB [] 0 2000000 fun j=>decide (1<=j)) (2+i)=some (2+i):=by
    intro i hi;have hb:(decide (1<=2+i) && (Nat.ble 0 (2+i) && Nat.blt (2+i) (0+2000000)))=true:=by
     simp only[Zaf,Zav,Zch,ZbL];omega
    simp only[kxB,domB,hget,Zcv,ZdS,hb,Zbb]
   have g1:H 1=some (true,.arrA 175 2 (tlR a a.length)):=by rw[hH];rfl
   simp only[toLX.H1,Qhk,hmin];refine⟨?_,Qadj _ _ _ _ _ (fun i hi=> ?_) (fun i hi=>rfl)⟩
   .rw[g1];exact⟨rfl,by simp only[cvtE];rw[tlR_cvt kx];rfl⟩
   .rw[hH];simp only[hget,Qao _ _ (show 1≠2+i by omega),ZaF];exact Qcy _ _ _ _ hi
 simp only[toLX.H1,Zau,famH,Zay,Zar] at hp;rcases hp with rfl|⟨i,hi,rfl⟩
 .exact .inr ⟨by omega,by omega,rfl,rfl⟩
 .exact .inr ⟨by simp only;omega,by simp only;omega,by simp only[Zch];omega,rfl⟩
def tlB(b:Nat)(a:List Tile):List (List AV):=(List.range a.length).map fun i=>[.im (.str ((a[i]?.map Tile.Name).getD ByteArray.empty)),.own (b+i)]
theorem tlR_ren(σ:Nat->Nat)(b:Nat)(a:List Tile)(h: ∀i,i<a.length->σ (2+i)=b+i):(tlR a a.length).map (renL σ)=tlB b a:=by
 have e:tlR a a.length=(List.range a.length).map (tlA a):=by simp[tlR]
 rw[e,Zcq];refine Zbu fun i hi=> ?_
 simp only[Function.comp,tlA,renL,AV.ren,h i (Zar.1 hi)]
theorem tlF_ren(σ:Nat->Nat)(b n:Nat)(a:List Tile)(h: ∀i,i<n->σ (2+i)=b+i):renH σ (famH 2 n (tlF a))=famH b n (tlF a):=by
 simp only[famH]
 have: ∀(l:List Nat),(∀i∈l,i<n)->renH σ (l.map fun i=>(2+i,tlF a i))=l.map fun i=>(b+i,tlF a i):=by
  intro l;induction l with
  |nil=>intro _;rfl
  |cons i r ih=>
   intro hl;have e:=ih (fun j hj=>hl j (Zap _ hj));simp only[Zal,renH,h i (hl i (Zas ..)),tlF,AObj.ren] at e⊢;rw[e]
 exact this _ (fun i hi=>Zar.1 hi)
theorem Qad3(k:List Nat)(nx cnt:Nat): ∀(H:Qan),(∀p∈H,nx<=p.1/\p.1<nx+cnt)->Qpx k nx cnt H=true
 |[],_=>rfl
 |(i,e)::r,h=>by
  have h1:=h (i,e) (Zas ..);simp only at h1;simp only[Qpx,Qafj,Qad3 k nx cnt r (fun p hp=>h p (Zap _ hp)),ZaW,ZbP,Zaf,Zch,ZbL];exact .inl h1
theorem tlB_bel(b:Nat)(a:List Tile)(N:Nat)(h:b+a.length<=N):(tlB b a).all (belL N)=true:=by
 rw[ZaI];intro r hr;obtain⟨i,hi,rfl⟩:=Zay.1 hr
 have:=Zar.1 hi
 simp[belL,AV.bel];omega
theorem toLX_ren{σ:Nat->Nat}{nx:Nat}(a:List Tile)(h: ∀j,σ j=nx+j):renH σ (toLX.H1 a)=(nx+1,(true,.arrA 175 2 (tlB (nx+2) a)))::famH (nx+2) (min a.length 1048576) (tlF a):=by
 simp only[toLX.H1,renH,AObj.ren];rw[tlR_ren σ (nx+2) a (fun i _=>by rw[h];omega),tlF_ren σ (nx+2) _ a (fun i _=>by rw[h];omega),h]
theorem Qads{b n:Nat}{f:Nat->Ent}{r:Qan}{m:Nat}(h:m<b):hget (famH b n f++r) m=hget r m:=by
 rw[Qol,Qmh _ _ _ _ (.inl h)];rfl
theorem Qaf5(ks:List Nat): ∀(a b:Qan),hdel (a++b) ks=hdel a ks++hdel b ks
 |[],b=>by simp[hdel]
 |(i,e)::r,b=>by
  simp only[Zat,hdel,Qaf5 ks r b];cases ks.contains i<;>rfl
theorem Qad5{b n:Nat}{f:Nat->Ent}{r:Qan}{k:Nat}(h:k<b):hdel (famH b n f++r) [k]=famH b n f++hdel r [k]:=by
 rw[Qaf5,Qadi _ _ _ _ (fun x hx=>by rw[Zao] at hx;subst hx;exact .inl h)]
theorem tlB_cvt{h:Nat->Option Ent}{kx:Nat->Option Nat}{m b:Nat}{a:List Tile}(hk: ∀i,i<a.length->kx (b+i)=some (b+i)):mapO (mapO (cvt h kx (m+1))) (tlB b a)=some (tlB b a):=by
 refine Qnl (g:=fun i=>[AV.im (.str ((a[i]?.map Tile.Name).getD ByteArray.empty)),AV.own (b+i)]) (k:=fun i=>[AV.im (.str ((a[i]?.map Tile.Name).getD ByteArray.empty)),AV.own (b+i)]) _ fun i hi=> ?_
 simp only[mapO,cvt,hk i (Zar.1 hi),kp]
theorem kxB_ge{lo cnt m:Nat}(h1:lo<=m)(h2:m<cnt):(kxB [] 0 cnt fun j=>decide (lo<=j)) m=some m:=by
 have hb:(decide (lo<=m) && (Nat.ble 0 m && Nat.blt m (0+cnt)))=true:=by
  simp only[Zaf,Zav,Zch,ZbL];omega
 simp only[kxB,domB,hget,Zcv,ZdS,hb,Zbb]
def toSX.ca(a:Qaa):List AV:=[.im (.agg (Qaa.c a))]
def toSX.r0:AV:= .agg [.own 4,.own 6]
def toSX.H1(a:Qaa):Qan:=(4,(true,.arr 173 2 (a.Glues.map Glue.c)))::(6,(true,.arrA 175 2 (tlB 7 a.Tiles)))::famH 7 (min a.Tiles.length 1048576) (tlF a.Tiles)
def toSX.pre(a:Qaa):Prop:=a.Glues.length<=1073741824/\toLX.pre a.Tiles
def toSX.row:Row:=orow toSX.ca (fun _=>[]) 0 toSX.pre (fun _=>false) (fun _=>toSX.r0) toSX.H1 2000005
theorem toSX.ok:Qas Tryz.prog 44 toSX.row:=by
 refine Qf1 Qaq (tC toGX.ok (tC toLX.ok tN)) Tryz.func44 rfl (by kernel_rfl) (by kernel_rfl) (exB:=fun j=>Nat.ble 4 j) (R:=fun _ r=>r=toSX.r0) (n:=1) (fun _=>rfl) (by decide)
  (fun a=>by simp[toSX.ca,Qaa.c,belL,AV.bel]) (fun a=>by simp[toSX.ca,Qaa.c,belH,belL,AV.bel]) (fun a=>by simp[toSX.ca,Qaa.c,Qam])
  (fun a=>by simp[Qc2,toSX.ca,Qaa.c,AObj.nms,nmsL,AV.nms,domB,hget]) (fun a p hp=> ?_) (fun a r h=>by subst h;exact LeV.refl _) ?_
 rotate_left
 intro a hpre;simp only[Tryz.f44,Option.getD,toSX.ca,Qaa.c];simp (maxSteps:=10^7) (disch:=omega) only[ZZ,simprocAttr,rch,ORB,toSX.ca,Qaa.c];obtain⟨h1,h2⟩:=hpre;refine orow.os a.Glues [] h1 (fun j=>by simp[domB,hget]) rfl rfl ?_ ?_
 .simp (maxSteps:=10^7) (disch:=omega) only[ZZ,simprocAttr,rch,ORB,toSX.ca,Qaa.c,toGX.ca,Qer]
 simp (maxSteps:=10^7) (disch:=omega) only[ZZ,simprocAttr,rch,ORB,toSX.ca,Qaa.c,toGX.H1,sub,ZaR,Zbm];refine orow.os a.Tiles [] h2 (fun j=>by simp[domB,hget]) rfl rfl ?_ ?_
 .simp (maxSteps:=10^7) (disch:=omega) only[ZZ,simprocAttr,rch,ORB,toSX.ca,Qaa.c,toLX.ca,Qer]
 have hσ: ∀j,sgx (osn []) 0 5 j=5+j:=fun j=>by simp[sgx]
 rw[toLX_ren a.Tiles hσ];obtain⟨h3,h4⟩:=h2;have hmin:min a.Tiles.length 1048576=a.Tiles.length:=by omega
 rw[hmin];simp only[kont,AV.ren,hσ];refine⟨?_,?_⟩
 .rw[Eff.ok_nr,Qad3 _ _ _ _ (fun p hp=> ?_)]
  .simp only[AV.bel,belH];rw[Qi1 _ _ _ (fun i=>by simp[belH,tlF]),tlB_bel _ _ _ (by omega)];simp
  .rcases Zau.1 hp with rfl|hp
   .exact⟨by simp only;omega,by simp only;omega⟩
   .obtain⟨i,hi,rfl⟩:=Zay.1 hp
    have:=Zar.1 hi
    exact⟨by simp only;omega,by simp only;omega⟩
 simp (maxSteps:=10^7) (disch:=omega) only[ZZ,simprocAttr,rch,ORB,toSX.ca,Qaa.c,sub,Qba,toSX.r0,Qads,Qad5];obtain⟨H,hH⟩: ∃H,H=hget ((1,(true,AObj.cells 39 [AV.own 4,AV.own 6]))::(2,(true,AObj.cells 39 [AV.own 4,AV.own 6]))::(6,(true,AObj.arrA 175 2 (tlB 7 a.Tiles)))::
  (famH 7 a.Tiles.length (tlF a.Tiles)++[(4,(true,AObj.arr 173 2 (List.map Glue.c a.Glues))),(0,(true,AObj.cells 25 [AV.im (D.sl false 2 (List.map Glue.c a.Glues)),AV.im (D.sl false 2 (List.map Tile.c a.Tiles))]))])):=⟨_,rfl⟩
 rw[<-hH];have g4:H 4=some (true,.arr 173 2 (a.Glues.map Glue.c)):=by rw[hH];simp[hget,Qads]
 have g6:H 6=some (true,.arrA 175 2 (tlB 7 a.Tiles)):=by rw[hH];rfl
 have gf: ∀i,i<a.Tiles.length->H (7+i)=some (tlF a.Tiles i):=by
  intro i hi;rw[hH];simp only[hget,Qao _ _ (show 1≠7+i by omega),Qao _ _ (show 2≠7+i by omega),Qao _ _ (show 6≠7+i by omega),ZaF];rw[Qol,Qcy _ _ _ _ hi];rfl
 simp only[toSX.H1,Qhk,hmin];refine⟨?_,?_,Qadj _ _ _ _ _ gf (fun i hi=>rfl)⟩
 .rw[g4];exact⟨rfl,rfl⟩
 .rw[g6];exact⟨rfl,by simp only[cvtE];rw[tlB_cvt (fun i hi=>kxB_ge (by omega) (by omega))];rfl⟩
 simp only[toSX.H1,Zau,famH,Zay,Zar] at hp;rcases hp with rfl|rfl|⟨i,hi,rfl⟩
 .exact .inr ⟨by omega,by simp only;omega,rfl,rfl⟩
 .exact .inr ⟨by omega,by simp only;omega,rfl,rfl⟩
 .exact .inr ⟨by simp only;omega,by simp only;omega,by simp only[Zch];omega,rfl⟩
def toAX.ca(a:Asm):List AV:=[.im (.agg (Asm.c a))]
def toAX.H1(a:Asm):Qan:=[(4,(true,.arr 177 3 (a.Tiles.map Qab.c)))]
def toAX.row:Row:=orow toAX.ca (fun _=>[]) 0 (fun a=>a.Tiles.length<=1073741824) (fun _=>false) (fun _=> .agg [.own 4]) toAX.H1 5
theorem toAX.ok:Qas Tryz.prog 45 toAX.row:=by
 refine Qf1 Qaq (tC toPX.ok tN) Tryz.func45 rfl (by kernel_rfl) (by kernel_rfl) (exB:=fun j=>j==4) (R:=fun _ r=>r= .agg [.own 4]) (n:=1) (fun _=>rfl) (by decide)
  (fun a=>by simp[toAX.ca,toAX.H1,Asm.c,belL,AV.bel]) (fun a=>by simp[toAX.ca,toAX.H1,Asm.c,belH,belL,AV.bel]) (fun a=>by simp[toAX.ca,toAX.H1,Asm.c,Qam])
  (fun a=>by simp[Qc2,toAX.ca,toAX.H1,Asm.c,AObj.nms,nmsL,AV.nms,domB,hget]) (fun a p hp=> ?_) (fun a r h=>by subst h;exact LeV.refl _) ?_
 rotate_left
 intro a hpre;simp only[Tryz.f45,Option.getD,toAX.ca,toAX.H1,Asm.c];simp (maxSteps:=10^7) (disch:=omega) only[ZZ,simprocAttr,rch,ORB,toAX.ca,toAX.H1,Asm.c];refine orow.os a.Tiles [] hpre (fun j=>by simp[domB,hget]) rfl rfl ?_ ?_
 .simp (maxSteps:=10^7) (disch:=omega) only[ZZ,simprocAttr,rch,ORB,toAX.ca,toAX.H1,Asm.c,toPX.ca,Qer]
 simp (maxSteps:=10^7) (disch:=omega) only[ZZ,simprocAttr,rch,ORB,toAX.ca,toAX.H1,Asm.c,toPX.H1,sub,ZaR,Zbm]
 skip
 simp[toAX.H1] at hp;subst hp;exact .inr ⟨by omega,by omega,rfl,rfl⟩
theorem toSX_ren{σ:Nat->Nat}{nx:Nat}(a:Qaa)(h: ∀j,σ j=nx+j):renH σ (toSX.H1 a)=(nx+4,(true,.arr 173 2 (a.Glues.map Glue.c)))::(nx+6,(true,.arrA 175 2 (tlB (nx+7) a.Tiles)))::famH (nx+7) (min a.Tiles.length 1048576) (tlF a.Tiles):=by
 have e1:(tlB 7 a.Tiles).map (renL σ)=tlB (nx+7) a.Tiles:=by
  simp only[tlB,Zcq];refine Zbu fun i hi=> ?_
  simp only[Function.comp,renL,AV.ren,h];rw[show nx+(7+i)=nx+7+i by omega]
 have e2: ∀n,renH σ (famH 7 n (tlF a.Tiles))=famH (nx+7) n (tlF a.Tiles):=by
  intro n;simp only[famH]
  have: ∀(l:List Nat),renH σ (l.map fun i=>(7+i,tlF a.Tiles i))=l.map fun i=>(nx+7+i,tlF a.Tiles i):=by
   intro l;induction l with
   |nil=>rfl
   |cons i r ih=>
    simp only[Zal,renH,h,tlF,AObj.ren] at ih⊢;rw[ih,show nx+(7+i)=nx+7+i by omega]
  exact this _
 simp only[toSX.H1,renH,AObj.ren,e1,e2,h]
def toYX.ca(a:Qar):List AV:=[.im (.agg (Qar.c a))]
def toYX.r0(a:Qar):AV:= .agg [.own 7,.own 9,.own 2000012,.im (.int .i64 a.Temperature)]
def toYX.H1(a:Qar):Qan:=(7,(true,.arr 173 2 (a.Set.Glues.map Glue.c)))::(9,(true,.arrA 175 2 (tlB 10 a.Set.Tiles)))::(2000012,(true,.arr 177 3 (a.Seed.Tiles.map Qab.c)))::famH 10 (min a.Set.Tiles.length 1048576) (tlF a.Set.Tiles)
def toYX.pre(a:Qar):Prop:=toSX.pre a.Set/\a.Seed.Tiles.length<=1073741824
def toYX.row:Row:=orow toYX.ca (fun _=>[]) 0 toYX.pre (fun _=>false) toYX.r0 toYX.H1 2000013
theorem toYX.ok:Qas Tryz.prog 12 toYX.row:=by
 refine Qf1 Qaq (tC toSX.ok (tC toAX.ok tN)) Tryz.func12 rfl (by kernel_rfl) (by kernel_rfl) (exB:=fun j=>Nat.ble 7 j) (R:=fun a r=>r=toYX.r0 a) (n:=1) (fun _=>rfl) (by decide)
  (fun a=>by simp[toYX.ca,Qar.c,belL,AV.bel]) (fun a=>by simp[toYX.ca,Qar.c,belH,belL,AV.bel]) (fun a=>by simp[toYX.ca,Qar.c,Qam])
  (fun a=>by simp[Qc2,toYX.ca,Qar.c,AObj.nms,nmsL,AV.nms,domB,hget]) (fun a p hp=> ?_) (fun a r h=>by subst h;exact LeV.refl _) ?_
 rotate_left
 intro a hpre;simp only[Tryz.f12,Option.getD,toYX.ca,Qar.c];simp (maxSteps:=10^7) (disch:=omega) only[ZZ,simprocAttr,rch,ORB,toYX.ca,Qar.c];obtain⟨h1,h2⟩:=hpre;refine orow.os a.Set [] h1 (fun j=>by simp[domB,hget]) rfl rfl ?_ ?_
 .simp (maxSteps:=10^7) (disch:=omega) only[ZZ,simprocAttr,rch,ORB,toYX.ca,Qar.c,toSX.ca,Qaa.c,Qer]
 have hσ: ∀j,sgx (osn []) 0 3 j=3+j:=fun j=>by simp[sgx]
 rw[toSX_ren a.Set hσ];obtain⟨h0,h3,h4⟩:=h1;have hmin:min a.Set.Tiles.length 1048576=a.Set.Tiles.length:=by omega
 rw[hmin];simp only[kont,toSX.r0,AV.ren,renL,hσ];refine⟨?_,?_⟩
 .rw[Eff.ok_nr,Qad3 _ _ _ _ (fun p hp=> ?_)]
  .simp only[AV.bel,belL,belH];rw[Qi1 _ _ _ (fun i=>by simp[belH,tlF]),tlB_bel _ _ _ (by omega)];simp
  .rcases Zau.1 hp with rfl|hp
   .exact⟨by simp only;omega,by simp only;omega⟩
   rcases Zau.1 hp with rfl|hp
   .exact⟨by simp only;omega,by simp only;omega⟩
   .obtain⟨i,hi,rfl⟩:=Zay.1 hp
    have:=Zar.1 hi
    exact⟨by simp only;omega,by simp only;omega⟩
 simp (maxSteps:=10^7) (disch:=omega) only[ZZ,simprocAttr,rch,ORB,toYX.ca,Qar.c,sub,Qba,Qads,Qad5];refine orow.os a.Seed [] h2 (fun j=>by simp[domB,hget]) rfl rfl ?_ ?_
 .simp (maxSteps:=10^7) (disch:=omega) only[ZZ,simprocAttr,rch,ORB,toYX.ca,Qar.c,toAX.ca,Asm.c,Qer]
 simp (maxSteps:=10^7) (disch:=omega) only[ZZ,simprocAttr,rch,ORB,toYX.ca,Qar.c,toAX.H1,sub,Qba,Qads,Qad5,toYX.r0,ZaR,Zbm];obtain⟨H,hH⟩: ∃H,H=hget ((1,(true,AObj.cells 44 [AV.own 7,AV.own 9,AV.own 2000012,AV.im (D.int IntKind.i64 a.Temperature)]))::(2,(true,AObj.cells 44 [AV.own 7,AV.own 9,AV.own 2000012,AV.im (D.int IntKind.i64 a.Temperature)]))::
  (2000012,(true,AObj.arr 177 3 (List.map Qab.c a.Seed.Tiles)))::(7,(true,AObj.arr 173 2 (List.map Glue.c a.Set.Glues)))::(9,(true,AObj.arrA 175 2 (tlB 10 a.Set.Tiles)))::
  (famH 10 a.Set.Tiles.length (tlF a.Set.Tiles)++[(0,(true,AObj.cells 30 [AV.im (D.sl false 2 (List.map Glue.c a.Set.Glues)),AV.im (D.sl false 2 (List.map Tile.c a.Set.Tiles)),AV.im (D.sl false 3 (List.map Qab.c a.Seed.Tiles)),AV.im (D.int IntKind.i64 a.Temperature)]))])):=⟨_,rfl⟩
 rw[<-hH];have g7:H 7=some (true,.arr 173 2 (a.Set.Glues.map Glue.c)):=by rw[hH];rfl
 have g9:H 9=some (true,.arrA 175 2 (tlB 10 a.Set.Tiles)):=by rw[hH];rfl
 have gs:H 2000012=some (true,.arr 177 3 (a.Seed.Tiles.map Qab.c)):=by rw[hH];simp[hget]
 have gf: ∀i,i<a.Set.Tiles.length->H (10+i)=some (tlF a.Set.Tiles i):=by
  intro i hi;rw[hH];simp only[hget,Qao _ _ (show 1≠10+i by omega),Qao _ _ (show 2≠10+i by omega),Qao _ _ (show 2000012≠10+i by omega),Qao _ _ (show 7≠10+i by omega),Qao _ _ (show 9≠10+i by omega),ZaF];rw[Qol,Qcy _ _ _ _ hi];rfl
 simp only[toYX.H1,Qhk,hmin];refine⟨?_,?_,?_,Qadj _ _ _ _ _ gf (fun i hi=>rfl)⟩
 .rw[g7];exact⟨rfl,rfl⟩
 .rw[g9];exact⟨rfl,by simp only[cvtE];rw[tlB_cvt (fun i hi=>kxB_ge (by omega) (by omega))];rfl⟩
 .rw[gs];exact⟨rfl,rfl⟩
 simp only[toYX.H1,Zau,famH,Zay,Zar] at hp;rcases hp with rfl|rfl|rfl|⟨i,hi,rfl⟩
 .exact .inr ⟨by omega,by simp only;omega,rfl,rfl⟩
 .exact .inr ⟨by omega,by simp only;omega,rfl,rfl⟩
 .exact .inr ⟨by omega,by simp only;omega,by simp only[Zch];omega,rfl⟩
 .exact .inr ⟨by simp only;omega,by simp only;omega,by simp only[Zch];omega,rfl⟩
def eqOptionSF.ar:List PK->Option ((List Opt)×(List Opt)):=a2 (kS Opt.d) (kS Opt.d)
def eqOptionSF.ae(a:(List Opt)×(List Opt)):List PK:=[.val (.sl false 3 (a.1.map Opt.c)),.val (.sl false 3 (a.2.map Opt.c))]
def eqOptionSF.fv(a:(List Opt)×(List Opt)):Bool:=(fun a b=>decide (a=b)) (a.1) (a.2)
def eqOptionSF.row:Row:=Qfi eqOptionSF.ar (fun a=>True) (fun a=>(D.bool) (eqOptionSF.fv a))
def Ybd:=J @eqOptionSF.ae.eq_1 (J @eqOptionSF.fv.eq_1 (J @eqOption.q (J @eqOption.ar.eq_1 @eqOption.fv.eq_1)))
theorem eqOptionSF.ok:Qas Tryz.prog 16 eqOptionSF.row:=by
 refine Qbn Qaq (tC eqOption.ok tN) Tryz.func16 rfl (by kernel_rfl) (by kernel_rfl) (ar:=eqOptionSF.ar) (ae:=eqOptionSF.ae) (Qaca (Qacb 3 Opt.d_le (fun _=>rfl)) (Qacb 3 Opt.d_le (fun _=>rfl))) (n:=2) (fun _=>rfl) (by decide) (rc:=(Qa8)) (re:=(D.bool)) (Qat) (f:=eqOptionSF.fv) ?_;intro a hpre;simp only[Tryz.f16,Option.getD];simp (maxSteps:=10^7) (disch:=omega) only[ZZ,simprocAttr,rch,Ybd,ORC,D.sc,D.scs,scL,decD];intro h1 h2;simp only[Qal];refine⟨fun hl=> ?_,fun hl=> ?_⟩
 .have:a.1≠a.2:=fun h=>hl (by rw[h])
  simp[this]
 have hl:a.1.length=a.2.length:=by omega
 refine Qay.old ⟨{k:Nat//k<=a.1.length/\a.1.take k=a.2.take k},fun k=>⟨[(5,.im (.int .i64 k.1)),(4,.im (.bool false)),(0,.im (.sl false 3 (a.1.map Opt.c))),(1,.im (.sl false 3 (a.2.map Opt.c)))],[],0⟩,fun k=>a.1.length - k.1,fun k=>⟨by simp[Qad.good,belT,belH,Qam,AV.bel,belL],Zam _⟩,⟨⟨0,by simp⟩,by simp (maxSteps:=10^7) (disch:=omega) only[ZZ,simprocAttr,rch,Ybd,ORC,D.sc,D.scs,scL,decD,sub]⟩,fun k=> ?_⟩;obtain⟨k,hk1,hk2⟩:=k;simp (maxSteps:=10^7) (disch:=omega) only[ZZ,simprocAttr,rch,Ybd,ORC,D.sc,D.scs,scL,decD,sub,Qal];intro _;refine⟨fun hk=>⟨hk,fun x hx=>⟨by omega,fun y hy=> ?_⟩⟩,fun hk=> ?_⟩
 .obtain⟨g1,g2⟩:=Qew hl hk1 hk2 hx hy;exact⟨fun h=>by simp[g2 (show x≠y from h)],fun h=>Qb6 hk h1 ⟨by omega,g1 (show x=y from ZaY.1 h)⟩⟩
 .rw[ZaA (by omega),ZaA (by omega)] at hk2;simp[hk2]
def eqSystemF.ar:List PK->Option (Qar×Qar):=a2 (kR Qar.d) (kR Qar.d)
def eqSystemF.ae(a:Qar×Qar):List PK:=[.val (.agg (Qar.c a.1)),.val (.agg (Qar.c a.2))]
def eqSystemF.fv(a:Qar×Qar):Bool:=(fun a b=>decide (a=b)) (a.1) (a.2)
def eqSystemF.row:Row:=Qfi eqSystemF.ar (fun a=>True) (fun a=>(D.bool) (eqSystemF.fv a))
theorem eqSystemF.ok:Qas Tryz.prog 15 eqSystemF.row:=by
 refine Qbn Qaq (tC eqTileSet.ok (tC eqAssembly.ok tN)) Tryz.func15 rfl (by kernel_rfl) (by kernel_rfl) (ar:=eqSystemF.ar) (ae:=eqSystemF.ae) (Qaca (Qab8 Qar.d_le) (Qab8 Qar.d_le)) (n:=2) (fun _=>rfl) (by decide) (rc:=(Qa8)) (re:=(D.bool)) (Qat) (f:=eqSystemF.fv) ?_;intro a hpre;simp only[Tryz.f15,Option.getD];simp (maxSteps:=10^7) (disch:=omega) only[ZZ,simprocAttr,rch,eqSystemF.ae,eqSystemF.fv,eqTileSet.q,eqTileSet.ar,eqTileSet.fv,eqAssembly.q,eqAssembly.ar,eqAssembly.fv,ORC,D.sc,D.scs,scL,decD];obtain⟨⟨⟨x,x1⟩,⟨y⟩,u⟩,⟨⟨z,z1⟩,⟨w⟩,v⟩⟩:=a;simp only[Qar.mk.injEq,Qaa.mk.injEq,Asm.mk.injEq]
 grind
def mkAC.ca(a:Asm×Int):List AV:=[.agg [.own 0],.im (.int .i64 a.2)]
def mkAC.H0(a:Asm×Int):Qan:=[(0,(true,.arr 177 3 (a.1.Tiles.map Qab.c)))]
def mkAC.H1(a:Asm×Int):Qan:=[(0,(true,.arr 177 3 ((wrE (pF a.2) a.1.Tiles.length).map Qab.c)))]
def mkAC.row:Row:=orow mkAC.ca mkAC.H0 1 (fun a=>0<=a.2/\a.2+3*a.1.Tiles.length<=1099511627776) (fun j=>j==0) (fun a=> .im (.int .i64 (a.2+3*a.1.Tiles.length))) mkAC.H1 0
theorem mkAC.ok:Qas Tryz.prog 61 mkAC.row:=by
 refine Qf1 Qaq (tC mkPC.ok tN) Tryz.func61 rfl (by kernel_rfl) (by kernel_rfl) (exB:=fun _=>false) (R:=fun a r=>r= .im (.int .i64 (a.2+3*a.1.Tiles.length))) (n:=2) (fun _=>rfl) (by decide)
  (fun a=>by simp[mkAC.ca,mkAC.H0,mkAC.H1,belL,AV.bel]) (fun a=>by simp[mkAC.ca,mkAC.H0,mkAC.H1,belH,belL,AV.bel]) (fun a=>by simp[mkAC.ca,mkAC.H0,mkAC.H1,Qam])
  (fun a=>by simp[Qc2,mkAC.ca,mkAC.H0,mkAC.H1,AObj.nms,nmsL,AV.nms,domB,hget]) (fun a p hp=> ?_) (fun a r h=>by subst h;exact LeV.refl _) ?_
 rotate_left
 intro a hpre;simp only[Tryz.f61,Option.getD,mkAC.ca,mkAC.H0,mkAC.H1];simp (maxSteps:=10^7) (disch:=omega) only[ZZ,simprocAttr,rch,ORB,mkAC.ca,mkAC.H0,mkAC.H1];refine orow.os (a.1.Tiles,a.2) [0] hpre (fun j=> ?_) rfl rfl ?_ ?_
 .simp only[domB,mkPC.H0,hget];by_cases hj:j=0
  .subst hj;simp
  .have:(0==j)=false:=by simpa using fun h=>hj h.symm
   rw[this];simp;omega
 .simp (maxSteps:=10^7) (disch:=omega) only[ZZ,simprocAttr,rch,ORB,mkAC.ca,mkAC.H0,mkAC.H1,mkPC.ca,mkPC.H0,Qer,ZaR]
  try exact⟨rfl,rfl⟩
 simp (maxSteps:=10^7) (disch:=omega) only[ZZ,simprocAttr,rch,ORB,mkAC.ca,mkAC.H0,mkAC.H1,mkPC.H1,sub,ZaR,Zbm]
 skip
 simp[mkAC.H1] at hp;subst hp;exact .inl ⟨by omega,rfl,rfl⟩
def nT(a:List Tile):Nat:=min a.length 1048576
def sdL(a:List Tile)(i:Nat):List Int:=(a[i]?.map Tile.Sides).getD []
def tlK(a:List Tile)(k:Int):Nat->Int
 |0=>k
 |i+1=>tlK a k i+1+(sdL a i).length
def tlM(a:List Tile)(k:Int)(i j:Nat):List AV:=if j<i then [.im (.str (mkTx (tlK a k j))),.own (2+j)] else tlA a j
def tlN(a:List Tile)(k:Int)(i j:Nat):Ent:=(true,.arr 2 1 ((if j<i then mkI (tlK a k j+1) (sdL a j).length else sdL a j).map intC))
def mkLH(a:List Tile)(k:Int)(i:Nat):Qan:=(0,(true,.arrA 175 2 ((List.range (nT a)).map (tlM a k i))))::famH 2 (nT a) (tlN a k i)
def mkLC.ca(a:List Tile×Int):List AV:=[.own 0,.im (.int .i64 a.2)]
def mkLC.H0(a:List Tile×Int):Qan:=mkLH a.1 a.2 0
def mkLC.H1(a:List Tile×Int):Qan:=mkLH a.1 a.2 (nT a.1)
def mkLC.r0(a:List Tile×Int):AV:= .im (.int .i64 (tlK a.1 a.2 a.1.length))
def mkLC.pre(a:List Tile×Int):Prop:=a.1.length<=1048576/\0<=a.2/\tlK a.1 a.2 a.1.length<=1099511627776
def mkLC.row:Row:=orow mkLC.ca mkLC.H0 2000000 mkLC.pre (fun _=>true) mkLC.r0 mkLC.H1 0
theorem Qad0(a:List Tile):nT a<=1048576:=Zcd _ _
theorem Qafd(a:List Tile)(k:Int)(i j N:Nat)(h:2+j<N):belL N (tlM a k i j)=true:=by
 simp only[tlM]
 split<;>simp[tlA,belL,AV.bel,h]
theorem Qae7(a:List Tile)(k:Int)(i j:Nat):nmsL (tlM a k i j)=[2+j]:=by
 simp only[tlM]
 split<;>simp[tlA,nmsL,AV.nms]
theorem Qafz(a:List Tile)(k:Int)(i N:Nat)(h:2+nT a<N):belH N (mkLH a k i)=true:=by
 simp only[mkLH,belH];rw[Qi1 _ _ _ (fun j=>by simp[belH,tlN]),ZaW,ZaI];intro r hr;obtain⟨j,hj,rfl⟩:=Zay.1 hr;exact Qafd _ _ _ _ _ (by have:=Zar.1 hj;omega)
theorem mkLC.hbel(a:List Tile×Int):belL 2000000 (mkLC.ca a)=true:=by simp[mkLC.ca,belL,AV.bel]
theorem mkLC.hbH(a:List Tile×Int):belH 2000000 (mkLC.H0 a)=true:=Qafz _ _ _ _ (by have:=Qad0 a.1;omega)
theorem mkLC.hkH(a:List Tile×Int):Qam 2000000 (mkLC.H0 a)=true:=by
 simp only[mkLC.H0,mkLH,Qam];rw[Qd8 _ _ _ _ (by have:=Qad0 a.1;omega)];simp
theorem Qadg(a:List Tile)(k:Int)(i j:Nat):domB (mkLH a k i) j=true↔j=0\/(2<=j/\j<2+nT a):=by
 simp only[domB,mkLH,hget,Qm4];by_cases h0:j=0
 .subst h0;simp
 .have:(0==j)=false:=by simpa using fun h=>h0 h.symm
  rw[this];simp only[ZaF];split
  .rename_i h;simp[h]
  .rename_i h;simp[h0];omega
theorem mkLC.hnm(a:List Tile×Int):Qc2 (mkLC.H0 a) (mkLC.H0 a):=by
 simp only[mkLC.H0];have key: ∀m,(∃j,j<nT a.1/\m=2+j)->domB (mkLH a.1 a.2 0) m=true:=by
  rintro m ⟨j,hj,rfl⟩;exact (Qadg _ _ _ _).2 (.inr ⟨by omega,by omega⟩)
 conv=>arg 2;unfold mkLH
 simp only[Qc2];refine⟨fun m hm=> ?_,Qae1 fun i hi m hm=>by simp[tlN,AObj.nms] at hm⟩;simp only[AObj.nms] at hm;obtain⟨r,hr,hm⟩:=Qadc.1 hm;obtain⟨j,hj,rfl⟩:=Zay.1 hr;rw[Qae7,Zao] at hm;exact key m ⟨j,Zar.1 hj,hm⟩
theorem tlK_b(a:List Tile)(k:Int)(h:0<=k): ∀i j,i<=j->0<=tlK a k i/\tlK a k i<=tlK a k j:=by
 have pos: ∀i,0<=tlK a k i:=by
  intro i;induction i with
  |zero=>exact h
  |succ i ih=>simp only[tlK];omega
 intro i j hij;refine⟨pos i,?_⟩;induction j with
 |zero=>have:i=0:=by omega
        subst this;exact Zcp _
 |succ j ih=>
  by_cases c:i=j+1
  .subst c;exact Zcp _
  .have:=ih (by omega)
   simp only[tlK];omega
theorem Qafp(s:Qad)(b n:Nat)(f:Nat->Ent):subH s (famH b n f)= ∀i,i<n->hget s.h (b+i)=some (f i):=by
 have: ∀(l:List Nat),subH s (l.map fun i=>(b+i,f i))↔ ∀i∈l,hget s.h (b+i)=some (f i):=by
  intro l;induction l with
  |nil=>simp[subH]
  |cons i r ih=>simp only[Zal,subH,ih,Zau,ZdO]
 apply propext;rw[famH,this];simp only[Zar]
theorem Qaej(a:List Tile)(k:Int)(i j:Nat)(h:j<nT a):hget (mkLH a k i) (2+j)=some (tlN a k i j):=by
 simp only[mkLH,hget,Qao _ _ (show 0≠2+j by omega),ZaF];exact Qcy _ _ _ _ h
def Ybe:=J @mkText.q (J @mkText.ar.eq_1 @mkText.fv.eq_1)
theorem mkLC.ok:Qas Tryz.prog 102 mkLC.row:=by
 refine Qf1 Qaq (tC mkText.ok (tC mkIC.ok tN)) Tryz.func102 rfl (by kernel_rfl) (by kernel_rfl) (exB:=fun _=>false) (R:=fun a r=>r=mkLC.r0 a) (n:=2) (fun _=>rfl) (by decide)
  mkLC.hbel mkLC.hbH mkLC.hkH
  mkLC.hnm (fun a p hp=> ?_) (fun a r h=>by subst h;exact LeV.refl _) ?_
 rotate_left
 intro a hpre;simp only[Tryz.f102,Option.getD,mkLC.ca];simp (maxSteps:=10^7) (disch:=omega) only[ZZ,simprocAttr,rch,Ybe,ORB,mkLC.ca];obtain⟨l,k⟩:=a;obtain⟨h1,h2,h3⟩:=hpre;simp only at h1 h2 h3;have hn:nT l=l.length:=by simp only[nT];omega
 simp only[Qba,mkLC.H0,mkLC.H1];refine Qay.old ⟨{i:Nat//i<=l.length},fun i=>⟨[(5,.im (.int .i64 i.1)),(4,.im (.int .i64 0)),(0,.own 0),(1,.im (.int .i64 (tlK l k i.1)))],mkLH l k i.1,2000000⟩,fun i=>l.length - i.1,fun i=>⟨?_,by simp⟩,⟨⟨0,by simp⟩,?_⟩,fun i=> ?_⟩
 .simp only[Qad.good,belT,AV.bel,ZaW,Zbe];rw[Qafz _ _ _ _ (by omega)];simp only[mkLH,Qam];rw[Qd8 _ _ _ _ (by omega)];simp
 .simp only[sub];simp (maxSteps:=10^7) (disch:=omega) only[ZZ,simprocAttr,rch,Ybe,ORB,mkLC.ca,sub,tlK]
  conv=>arg 2;unfold mkLH
  simp only[subH,Qafp];exact⟨rfl,fun j hj=>Qaej _ _ _ _ hj⟩
 .obtain⟨i,hi1⟩:=i;have hb:=tlK_b l k h2 i l.length hi1;have hrl:((List.range (nT l)).map (tlM l k i)).length=l.length:=by simp[hn]
  simp only[mkLH];simp (maxSteps:=10^7) (disch:=omega) only[ZZ,simprocAttr,rch,Ybe,ORB,mkLC.ca,sub,Qal,hrl,Qba];intro _;refine⟨fun hi=>⟨by omega,hi,hi,fun x hx=> ?_⟩,fun hi=> ?_⟩
  .obtain rfl:i=x:=by
    rw[Zbc (by omega)] at hx;exact Zaa hx
   have em:tlM l k i i=[.im (.str ((l[i]?.map Tile.Name).getD ByteArray.empty)),.own (2+i)]:=by simp[tlM,tlA]
   have hset:((List.range (nT l)).map (tlM l k i)).set i [.im (.str (mkTx (tlK l k i))),.own (2+i)]=(List.range (nT l)).map (tlM l k (i+1)):=by
    apply ZbU;intro j;by_cases hj:i=j
    .subst hj;rw[Zaw (by rw[hrl];exact hi),ZaG,Zbc (by omega)];simp[tlM]
    .rw[ZaE hj,ZaG,ZaG];cases hr:(List.range (nT l))[j]? with
     |none=>rfl
     |some y=>
      have hy:j=y:=by
       have hl:=(Zaj.1 hr).1;simp at hl;rw[Zbc hl] at hr;exact Zaa hr
      subst hy;simp only[ZaM,tlM];by_cases c:j<i
      .rw[Zaq c,Zaq (by omega)]
      .rw[Zai c,Zai (by omega)]
   rw[em];simp only[ZbT,ZbJ];have hl2:i<((List.range (nT l)).map (tlM l k i)).length:=by rw[hrl];exact hi
   have hw:IntKind.i64.wrap (tlK l k i+1)=tlK l k i+1:=Qak (by omega) (by omega);refine⟨by simp,?_,by rw[ZaX];exact hl2,by rw[ZaX];exact hl2,Qi3 (Zaw hl2) ?_⟩
   .rw[hset,ZaI];intro r hr;obtain⟨j,hj,rfl⟩:=Zay.1 hr;exact Qafd _ _ _ _ _ (by have:=Zar.1 hj;omega)
   simp (maxSteps:=10^7) (disch:=omega) only[ZZ,simprocAttr,rch,Ybe,ORB,mkLC.ca,sub,hset,hw];have hb2:=(tlK_b l k h2 (i+1) l.length hi).2;simp only[tlK] at hb2;refine⟨by omega,?_⟩;simp only[Qba];rw[Qadi 2 (nT l) (tlN l k i) [0] (by simp)];refine orow.os (sdL l i,tlK l k i+1) [2+i] ⟨by simp only;omega,by simp only;omega⟩ (fun j=> ?_) rfl ?_ ?_ ?_
   .simp only[domB,mkIC.H0,hget];by_cases hj:j=0
    .subst hj;simp
    .have:(0==j)=false:=by simpa using fun h=>hj h.symm
     rw[this];simp;omega
   .simp only[Qxw,ZaW,ZbL];omega
   .refine⟨by simp[mkIC.ca,renL,AV.ren,sgx,osn],?_,trivial⟩;have e:sgx (osn [2+i]) 1 2000000 0=2+i:=by simp[sgx,osn]
    rw[e]
    have:=Qaej l k i i (by omega)
    simp only[mkLH,tlN,hget,Qao _ _ (show 0≠2+i by omega),ZaF] at this;simp only[hget,Qao _ _ (show 0≠2+i by omega),ZaF];rw[Qcy _ _ _ _ (by omega)];simp[tlN,AObj.ren]
   simp (maxSteps:=10^7) (disch:=omega) only[ZZ,simprocAttr,rch,Ybe,ORB,mkLC.ca,mkIC.H1,sub,Qba,Qao,Qjf,ZaR,tlK];refine⟨.inr (by omega),⟨i+1,by omega⟩,by simp only;omega,⟨by rw[Qak (by omega) (by omega)];simp only;omega,rfl⟩,rfl,?_⟩;rw[Qafp];intro j hj;by_cases hji:j=i
   .subst hji;simp[hget,tlN]
   .simp only[hget,Qao _ _ (show 2+i≠2+j by omega),Qao _ _ (show 0≠2+j by omega),ZaF];rw[Qce _ _ _ (by omega),Qcy _ _ _ _ hj];simp only[tlN];by_cases c:j<i
    .rw[Zaq c,Zaq (by omega)]
    .rw[Zai c,Zai (by omega)]
  .have hil:i=l.length:=by omega
   subst hil;have kx: ∀j,j<nT l->kxB ((0,(true,AObj.arrA 175 2 (List.map (tlM l k 0) (List.range (nT l)))))::famH 2 (nT l) (tlN l k 0)) 2000000 0 (fun _=>false) (2+j)=some (2+j):=by
    intro j hj
    have:=(Qadg l k 0 (2+j)).2 (.inr ⟨by omega,by omega⟩)
    simp only[mkLH] at this;simp only[kxB,this,ZdL,Zbb]
   refine⟨?_,rfl,?_,?_⟩
   .have: ∀(h:Nat->Option Ent) (H:Qan),roB h (fun _=>true) H:=by
     intro h H;induction H with
     |nil=>trivial
     |cons x r ih=>obtain⟨j,e⟩:=x;exact⟨trivial,ih⟩
    exact this _ _
   .rw[show tlM l k (nT l)=tlM l k l.length by rw[hn]];rw[Qnl (g:=tlM l k l.length) (k:=tlM l k l.length) _ (fun j hj=> ?_)]
    .rfl
    .have hj':=Zar.1 hj;simp only[tlM,Zaq (show j<l.length by omega),mapO,cvt,kx j hj',kp]
   .refine Qadj _ _ _ _ _ (fun j hj=> ?_) (fun j hj=>rfl);simp only[hget,Qao _ _ (show 0≠2+j by omega),ZaF];rw[Qcy _ _ _ _ hj,hn]
 refine .inl ?_;have hp2:p.1=0\/(2<=p.1/\p.1<2+nT a.1):=by
  simp only[mkLC.H1,mkLH,Zau,famH,Zay,Zar] at hp;rcases hp with rfl|⟨j,hj,rfl⟩
  .exact .inl rfl
  .exact .inr ⟨by simp only;omega,by simp only;omega⟩
 have:=Qad0 a.1
 exact⟨by omega,rfl,(Qadg _ _ _ _).2 hp2⟩
theorem keysH_dom{H:Qan}{j:Nat}:j∈Qg1 H↔domB H j=true:=by
 induction H with
 |nil=>simp[Qg1,domB,hget]
 |cons e r ih=>
  obtain⟨i,e⟩:=e;simp only[Qg1,Zau,domB,hget];by_cases hij:i=j
  .subst hij;simp
  .have:(i==j)=false:=by simpa using hij
   rw[this];simp only[ZaF];exact⟨fun h=>ih.1 (h.resolve_left fun h=>hij h.symm),fun h=> .inr (ih.2 h)⟩
mutual
theorem Qadz{n:Nat}: ∀x:AV,(∀m∈x.nms,m<n)->x.bel n=true
 | .any,_=>rfl
 | .im _,_=>rfl
 | .agg cs,h=>by simp only[AV.nms] at h;simp only[AV.bel];exact Qada cs h
 | .tup cs,h=>by simp only[AV.nms] at h;simp only[AV.bel];exact Qada cs h
 | .ptr o _,h=>by simp only[AV.bel,ZbL];exact h o (by simp[AV.nms])
 | .eptr o _ _,h=>by simp only[AV.bel,ZbL];exact h o (by simp[AV.nms])
 | .own o,h=>by simp only[AV.bel,ZbL];exact h o (by simp[AV.nms])
 | .mp o,h=>by simp only[AV.bel,ZbL];exact h o (by simp[AV.nms])
 | .ch o,h=>by simp only[AV.bel,ZbL];exact h o (by simp[AV.nms])
 | .it o,h=>by simp only[AV.bel,ZbL];exact h o (by simp[AV.nms])
 | .osl o _ _,h=>by simp only[AV.bel,ZbL];exact h o (by simp[AV.nms])
 | .clo _ a c,h=>by
   simp only[AV.nms,Zan] at h;simp only[AV.bel,Qada a fun m hm=>h m (.inl hm),Qada c fun m hm=>h m (.inr hm),Zdk]
theorem Qada{n:Nat}: ∀xs:List AV,(∀m∈nmsL xs,m<n)->belL n xs=true
 |[],_=>rfl
 |x::r,h=>by
  simp only[nmsL,Zan] at h;simp only[belL,Qadz x fun m hm=>h m (.inl hm),Qada r fun m hm=>h m (.inr hm),Zdk]
end
theorem Qad4{n:Nat}: ∀H:Qan,(∀p∈H,∀m∈p.2.2.nms,m<n)->belH n H=true
 |[],_=>rfl
 |(i,(mu,e))::r,h=>by
  have h1:=h _ (Zas ..);have ih:=Qad4 r fun p hp=>h p (Zap _ hp)
  cases e with
  |cells T cs=>simp only[belH,ih,ZaW];exact Qada cs (by simpa[AObj.nms] using h1)
  |arrA T k rows=>
   simp only[belH,ih,ZaW,ZaI];refine fun q hq=>Qada q fun m hm=>h1 m ?_
   simp only[AObj.nms];exact Qadc.2 ⟨q,hq,hm⟩
  |_=>simp only[belH,ih]
mutual
theorem Qafi(σ:Nat->Nat): ∀x:AV,(x.ren σ).nms=x.nms.map σ
 | .any=>rfl
 | .im _=>rfl
 | .agg cs=>by simp only[AV.ren,AV.nms];exact Qadl σ cs
 | .tup cs=>by simp only[AV.ren,AV.nms];exact Qadl σ cs
 | .ptr o _=>rfl
 | .eptr o _ _=>rfl
 | .own o=>rfl
 | .mp o=>rfl
 | .ch o=>rfl
 | .it o=>rfl
 | .osl o _ _=>rfl
 | .clo _ a c=>by simp only[AV.ren,AV.nms,Qadl σ a,Qadl σ c,ZaZ]
theorem Qadl(σ:Nat->Nat): ∀xs:List AV,nmsL (renL σ xs)=(nmsL xs).map σ
 |[]=>rfl
 |x::r=>by simp only[renL,nmsL,Qafi σ x,Qadl σ r,ZaZ]
end
theorem Qafh(σ:Nat->Nat)(e:AObj): ∀m∈(e.ren σ).nms,∃j∈e.nms,m=σ j:=by
 intro m hm;cases e with
 |cells T cs=>
  simp only[AObj.ren,AObj.nms,Qadl,Zay] at hm⊢;obtain⟨j,hj,rfl⟩:=hm;exact⟨j,hj,rfl⟩
 |arrA T k rows=>
  simp only[AObj.ren,AObj.nms] at hm⊢;obtain⟨r,hr,hm⟩:=Qadc.1 hm;obtain⟨q,hq,rfl⟩:=Zay.1 hr;rw[Qadl,Zay] at hm;obtain⟨j,hj,rfl⟩:=hm;exact⟨j,Qadc.2 ⟨q,hq,hj⟩,rfl⟩
 |_=>simp[AObj.ren,AObj.nms] at hm
theorem Qaf4{σ:Nat->Nat}{N:Nat}(H:Qan)(h: ∀p∈H,∀m∈p.2.2.nms,σ m<N):belH N (renH σ H)=true:=by
 refine Qad4 _ ?_;induction H with
 |nil=>intro p hp;cases hp
 |cons x r ih=>
  obtain⟨i,mu,e⟩:=x;intro p hp m hm;rcases Zau.1 hp with rfl|hp
  .obtain⟨j,hj,rfl⟩:=Qafh σ e m hm;exact h _ (Zas ..) j hj
  .exact ih (fun p hp=>h p (Zap _ hp)) p hp m hm
theorem orow.tau{A:Type}{ca:A->List AV}{H0:A->Qan}{k:Nat}{pre:A->Prop}{klB:Nat->Bool}{r0:A->AV}{H1:A->Qan}{args:List AV}{tm:List (Nat×AV)}{h:Qan}{nx:Nat}{dst:Option Nat}{go:Qad->Prop}(a:A)(τ:Nat->Nat)(hpre:pre a)(hkl: ∀j,domB (H0 a) j=true->klB j=true)
 (hd: ∀j,domB (H0 a) j=true->j<k/\τ j<nx)(hinj: ∀i j,domB (H0 a) i=true->domB (H0 a) j=true->τ i=τ j->i=j)
 (hcl: ∀p∈H1 a,domB (H0 a) p.1=true/\ ∀m∈p.2.2.nms,domB (H0 a) m=true)
 (hx:args=renL (sgx τ k nx) (ca a)/\Qer (hget h) (sgx τ k nx) (H0 a))
 (hb: ∀m∈(r0 a).nms,domB (H0 a) m=true)
 (hgo: ∀HH:Qan,(∀j e,hget (H1 a) j=some e->hget HH (τ j)=some (e.1,e.2.ren (sgx τ k nx)))->(∀m,(∀j,domB (H0 a) j=true->τ j≠m)->hget HH m=hget h m)->go ((⟨tm,HH,nx⟩:Qad).put dst ((r0 a).ren (sgx τ k nx)))):
 orow ca H0 k pre klB r0 H1 0 args (hget h) nx (kont go ⟨tm,h,nx⟩ dst):=by
 have hσ: ∀j,domB (H0 a) j=true->sgx τ k nx j=τ j:=fun j hj=>Zaq (hd j hj).1
 have hi': ∀i j,domB (H0 a) i=true->domB (H0 a) j=true->sgx τ k nx i=sgx τ k nx j->i=j:=fun i j hi hj h=>hinj i j hi hj (by rwa [hσ i hi,hσ j hj] at h)
 have hmem: ∀m,m∈(Qg1 (H0 a)).map τ↔ ∃j,domB (H0 a) j=true/\τ j=m:=fun m=>by simp only[Zay,keysH_dom]
 have hk1: ∀p∈H1 a,domB (H0 a) p.1=true:=fun p hp=>(hcl p hp).1
 refine⟨a,τ,(Qg1 (H0 a)).map τ,(Qg1 (H0 a)).map τ,hpre,hx.1,hx.2,⟨hinj,fun j hj=>(hd j hj).2,fun j hj=>(hmem _).2 ⟨j,hj,rfl⟩,fun m hm=> ?_,fun j hj _=>(hmem _).2 ⟨j,hj,rfl⟩⟩,?_⟩
 .obtain⟨j,hj,rfl⟩:=(hmem m).1 hm;exact⟨j,hj,hkl j hj,rfl⟩
 refine⟨?_,?_⟩
 .have hb2:((r0 a).ren (sgx τ k nx)).bel nx=true:=by
   refine Qadz _ fun m hm=> ?_
   rw[Qafi,Zay] at hm;obtain⟨j,hj,rfl⟩:=hm;rw[hσ j (hb j hj)];exact (hd j (hb j hj)).2
  have hbE:belH nx (renH (sgx τ k nx) (H1 a))=true:=Qaf4 _ fun p hp m hm=>by
   have:=(hcl p hp).2 m hm
   rw[hσ m this];exact (hd m this).2
  rw[Eff.ok_nr,ZcN,hb2,hbE,Zbe,Zbe]
  have: ∀H:Qan,(∀p∈H,domB (H0 a) p.1=true)->Qpx ((Qg1 (H0 a)).map τ) nx 0 (renH (sgx τ k nx) H)=true:=by
   intro H;induction H with
   |nil=>intro _;rfl
   |cons e r ih=>
    obtain⟨i,mu,e⟩:=e;intro hp;have h1:=hp _ (Zas ..);simp only at h1;simp only[renH,Qpx,Qafj,Zaf,ZbP,Zch,ZbL];refine⟨.inr ⟨?_,?_⟩,ih fun p h=>hp p (Zap _ h)⟩
    .rw[Zbh,hσ i h1];exact (hmem _).2 ⟨i,h1,rfl⟩
    .rw[hσ i h1];exact (hd i h1).2
  exact this _ hk1
 rw[Qad.app_nr,ZcN];refine hgo _ (fun j e he=> ?_) (fun m hm=> ?_)
 .have hj:domB (H0 a) j=true:=by
   have: ∀H:Qan,hget H j=some e-> ∃p∈H,p.1=j:=by
    intro H;induction H with
    |nil=>intro h;cases h
    |cons x r ih=>
     obtain⟨i,x⟩:=x;intro h;by_cases hij:i=j
     .exact⟨_,Zas ..,hij⟩
     .have hb:(i==j)=false:=by simpa using hij
      simp only[hget,hb,ZaF] at h;obtain⟨p,h1,h2⟩:=ih h;exact⟨p,Zap _ h1,h2⟩
   obtain⟨p,h1,rfl⟩:=this _ he;exact hk1 p h1
  rw[Qol,<-hσ j hj,Qv5 (D:=fun j=>domB (H0 a) j=true) hi' (H1 a) hk1 j hj,he];rfl
 .rw[Qol];cases hq:hget (renH (sgx τ k nx) (H1 a)) m with
  |some e=>
   obtain⟨j,e0,h1,h2,_⟩:=Qzm hq;have hj:=hk1 _ h1;rw[hσ j hj] at h2;exact absurd h2 (hm j hj)
  |none=>
   rw[Qeg,Zai]
   .rfl
   .rw[Zbh];intro h;obtain⟨j,hj,h2⟩:=(hmem m).1 h;exact hm j hj h2
theorem Qafy{go:Qad->Prop}{tm:List (Nat×AV)}{h:Qan}{nx:Nat}{dst:Option Nat}{σ:Nat->Nat}(hσ: ∀j,σ j=nx+j){r0:AV}{H1:Qan}{cnt:Nat}{u kl:List Nat}(hkl:kl=[])
 (hcl: ∀p∈H1,p.1<cnt/\ ∀m∈p.2.2.nms,m<cnt)(hb: ∀m∈r0.nms,m<cnt)
 (hgo: ∀HH:Qan,(∀j e,hget H1 j=some e->hget HH (nx+j)=some (e.1,e.2.ren σ))->(∀m,m<nx->hget HH m=hget h m)->go ((⟨tm,HH,nx+cnt⟩:Qad).put dst (r0.ren σ))):
 kont go ⟨tm,h,nx⟩ dst (r0.ren σ) {use:=u,kill:=kl,new:=renH σ H1,cnt:=cnt}:=by
 subst hkl;refine⟨?_,?_⟩
 .have hb2:(r0.ren σ).bel (nx+cnt)=true:=by
   refine Qadz _ fun m hm=> ?_
   rw[Qafi,Zay] at hm;obtain⟨j,hj,rfl⟩:=hm
   have:=hb j hj
   rw[hσ];omega
  have hbE:belH (nx+cnt) (renH σ H1)=true:=Qaf4 _ fun p hp m hm=>by
   have:=(hcl p hp).2 m hm
   rw[hσ];omega
  rw[Eff.ok_nr,hb2,hbE,Zbe,Zbe];refine Qad3 _ _ _ _ fun p hp=> ?_
  have: ∀H:Qan,(∀p∈H,p.1<cnt)-> ∀p∈renH σ H,nx<=p.1/\p.1<nx+cnt:=by
   intro H;induction H with
   |nil=>intro _ p hp;cases hp
   |cons x r ih=>
    obtain⟨i,mu,e⟩:=x;intro hx p hp;have h1:=hx _ (Zas ..);simp only at h1;simp only[renH,Zau] at hp;rcases hp with rfl|hp
    .simp only;rw[hσ];omega
    .exact ih (fun p h=>hx p (Zap _ h)) p hp
  exact this _ (fun p hp=>(hcl p hp).1) p hp
 rw[Qad.app_nr,Qba];refine hgo _ (fun j e he=> ?_) (fun m hm=> ?_)
 .rw[Qol,<-hσ j,Qafs (fun i j h=>by rw[hσ,hσ] at h;omega),he];rfl
 .rw[Qol];cases hq:hget (renH σ H1) m with
  |some e=>
   obtain⟨j,e0,_,h2,_⟩:=Qzm hq;rw[hσ] at h2;omega
  |none=>rfl
theorem orow.nw{A:Type}{ca:A->List AV}{H0:A->Qan}{pre:A->Prop}{klB:Nat->Bool}{r0:A->AV}{H1:A->Qan}{cnt:Nat}{args:List AV}{tm:List (Nat×AV)}{h:Qan}{nx:Nat}{dst:Option Nat}{go:Qad->Prop}(a:A)(hpre:pre a)(h0:H0 a=[])
 (hx:args=renL (fun j=>nx+j) (ca a))(hcl: ∀p∈H1 a,p.1<cnt/\ ∀m∈p.2.2.nms,m<cnt)(hb: ∀m∈(r0 a).nms,m<cnt)
 (hgo: ∀HH:Qan,(∀j e,hget (H1 a) j=some e->hget HH (nx+j)=some (e.1,e.2.ren fun j=>nx+j))->(∀m,m<nx->hget HH m=hget h m)->go ((⟨tm,HH,nx+cnt⟩:Qad).put dst ((r0 a).ren fun j=>nx+j))):
 orow ca H0 0 pre klB r0 H1 cnt args (hget h) nx (kont go ⟨tm,h,nx⟩ dst):=by
 have e:sgx (osn []) 0 nx=fun j=>nx+j:=funext fun j=>by simp[sgx]
 refine orow.os a [] hpre (fun j=>by rw[h0];simp[domB,hget]) rfl rfl ⟨by rw[e];exact hx,by rw[h0];trivial⟩ ?_;rw[e];exact Qafy (fun _=>rfl) rfl hcl hb hgo
theorem Qaex.nw{A:Type}{ar:List PK->Option A}{pre:A->Prop}{r0:A->AV}{H1:A->Qan}{cnt:Nat}{args:List AV}{tm:List (Nat×AV)}{h:Qan}{nx:Nat}{dst:Option Nat}{go:Qad->Prop}(ps:List PK)(hps:pkFL (hget h) args=some ps)(a:A)(ha:ar ps=some a)(hpre:pre a)
 (hcl: ∀p∈H1 a,p.1<cnt/\ ∀m∈p.2.2.nms,m<cnt)(hb: ∀m∈(r0 a).nms,m<cnt)
 (hgo: ∀HH:Qan,(∀j e,hget (H1 a) j=some e->hget HH (nx+j)=some (e.1,e.2.ren fun j=>nx+j))->(∀m,m<nx->hget HH m=hget h m)->go ((⟨tm,HH,nx+cnt⟩:Qad).put dst ((r0 a).ren fun j=>nx+j))):
 Qaex ar pre r0 H1 cnt args (hget h) nx (kont go ⟨tm,h,nx⟩ dst):=by
 have e:sgx (fun j=>j) 0 nx=fun j=>nx+j:=funext fun j=>by simp[sgx]
 unfold Qaex;rw[hps];simp only[vrowX1,ha,decK];rw[e];exact⟨hpre,Qafy (fun _=>rfl) rfl hcl hb hgo⟩
theorem vF.call{A:Type}{ar:List PK->Option A}{pre:A->Prop}{re:A->D}{args:List AV}{tm:List (Nat×AV)}{h:Qan}{nx:Nat}{dst:Option Nat}{go:Qad->Prop}(ps:List PK)(hps:pkFL (hget h) args=some ps)(a:A)(ha:ar ps=some a)(hpre:pre a)
 (hgo:go ((⟨tm,h,nx⟩:Qad).put dst (.im (re a)))):Qfi ar pre re args (hget h) nx (kont go ⟨tm,h,nx⟩ dst):=by
 unfold Qfi;rw[hps];simp only[Qct,ha,decK];refine⟨hpre,?_,?_⟩
 .rw[Eff.ok_nr];simp[AV.bel,belH,Qpx]
 .rw[Qad.app_nr,Qba,ZcN];exact hgo
def syH(G:List Glue)(rows:List (List AV))(n:Nat)(f:Nat->Ent):Qan:=(0,(true,.arr 173 2 (G.map Glue.c)))::(1,(true,.arrA 175 2 rows))::famH 2 n f
theorem Qadn(G:List Glue)(rows:List (List AV))(n:Nat)(f:Nat->Ent)(j:Nat):domB (syH G rows n f) j=true↔j<2+n:=by
 simp only[domB,syH,hget,Qm4];by_cases h0:j=0
 .subst h0;simp;omega
 by_cases h1:j=1
 .subst h1;simp;omega
 rw[Qao _ _ (fun h=>h0 h.symm),Qao _ _ (fun h=>h1 h.symm)];simp only[ZaF];split
 .rename_i h;simp;omega
 .rename_i h;simp;omega
theorem syH_lt{G:List Glue}{rows:List (List AV)}{n:Nat}{f:Nat->Ent}{p:Nat×Ent}(hp:p∈syH G rows n f):p.1<2+n:=by
 simp only[syH,Zau,famH,Zay,Zar] at hp;rcases hp with rfl|rfl|⟨j,hj,rfl⟩<;>simp only<;>omega
def tlMR(a:List Tile)(k:Int)(i:Nat):List (List AV):=(List.range (nT a)).map (tlM a k i)
theorem tlMR_bel(a:List Tile)(k:Int)(i N:Nat)(h:2+nT a<=N):(tlMR a k i).all (belL N)=true:=by
 rw[ZaI];intro r hr;obtain⟨j,hj,rfl⟩:=Zay.1 hr;exact Qafd _ _ _ _ _ (by have:=Zar.1 hj;omega)
theorem tlM_ren(a:List Tile)(k:Int)(i j:Nat)(σ:Nat->Nat)(h:σ (2+j)=2+j):renL σ (tlM a k i j)=tlM a k i j:=by
 simp only[tlM]
 split<;>simp[tlA,renL,AV.ren,h]
theorem Qad2(a:List Tile)(k:Int)(i:Nat)(σ:Nat->Nat)(h: ∀j,j<nT a->σ (2+j)=2+j):(tlMR a k i).map (renL σ)=tlMR a k i:=by
 rw[tlMR,Zcq];exact Zbu fun j hj=>tlM_ren _ _ _ _ _ (h j (Zar.1 hj))
theorem syH_bel{G:List Glue}{a:List Tile}{k:Int}{i N:Nat}{f:Nat->Ent}(h:2+nT a<=N)(hf: ∀i,belH N [(2+i,f i)]=true):belH N (syH G (tlMR a k i) (nT a) f)=true:=by
 simp only[syH,belH];rw[Qi1 _ _ _ hf,tlMR_bel _ _ _ _ h];rfl
theorem Qafv{G:List Glue}{a:List Tile}{k:Int}{i N:Nat}{f:Nat->Ent}(h:2+nT a<=N):Qam N (syH G (tlMR a k i) (nT a) f)=true:=by
 simp only[syH,Qam];rw[Qd8 _ _ _ _ (by omega)];simp;omega
theorem Qafl{G:List Glue}{a:List Tile}{k:Int}{i:Nat}{f:Nat->Ent}(hf: ∀j,(f j).2.nms=[]){p:Nat×Ent}(hp:p∈syH G (tlMR a k i) (nT a) f){m:Nat}(hm:m∈p.2.2.nms):m<2+nT a:=by
 simp only[syH,Zau,famH,Zay,Zar] at hp;rcases hp with rfl|rfl|⟨j,hj,rfl⟩
 .simp[AObj.nms] at hm
 .simp only[AObj.nms] at hm;obtain⟨r,hr,hm⟩:=Qadc.1 hm;obtain⟨j,hj,rfl⟩:=Zay.1 hr;rw[Qae7,Zao] at hm
  have:=Zar.1 hj
  omega
 .rw[hf] at hm;cases hm
theorem Qaeo{H0:Qan}: ∀{H:Qan},(∀p∈H,∀m∈p.2.2.nms,domB H0 m=true)->Qc2 H0 H
 |[],_=>trivial
 |(_,(_,_))::r,h=>⟨h _ (Zas ..),Qaeo fun p hp=>h p (Zap _ hp)⟩
def tsK(a:Qaa×Int):Int:=a.2+2*a.1.Glues.length
def mkTS.ca(a:Qaa×Int):List AV:=[.agg [.own 0,.own 1],.im (.int .i64 a.2)]
def mkTS.H0(a:Qaa×Int):Qan:=syH a.1.Glues (tlMR a.1.Tiles (tsK a) 0) (nT a.1.Tiles) (tlN a.1.Tiles (tsK a) 0)
def mkTS.H1(a:Qaa×Int):Qan:=syH (wrE (gF a.2) a.1.Glues.length) (tlMR a.1.Tiles (tsK a) (nT a.1.Tiles)) (nT a.1.Tiles) (tlN a.1.Tiles (tsK a) (nT a.1.Tiles))
def mkTS.r0(a:Qaa×Int):AV:= .im (.int .i64 (tlK a.1.Tiles (tsK a) a.1.Tiles.length))
def mkTS.pre(a:Qaa×Int):Prop:=0<=a.2/\a.1.Tiles.length<=1048576/\tlK a.1.Tiles (tsK a) a.1.Tiles.length<=1099511627776
def mkTS.row:Row:=orow mkTS.ca mkTS.H0 2000000 mkTS.pre (fun _=>true) mkTS.r0 mkTS.H1 0
theorem mkTS.hbel(a:Qaa×Int):belL 2000000 (mkTS.ca a)=true:=by simp[mkTS.ca,belL,AV.bel]
theorem mkTS.hbH(a:Qaa×Int):belH 2000000 (mkTS.H0 a)=true:=syH_bel (by have:=Qad0 a.1.Tiles;omega) (fun i=>by simp[belH,tlN])
theorem mkTS.hkH(a:Qaa×Int):Qam 2000000 (mkTS.H0 a)=true:=Qafv (by have:=Qad0 a.1.Tiles;omega)
theorem mkTS.hnm(a:Qaa×Int):Qc2 (mkTS.H0 a) (mkTS.H0 a):=
 Qaeo fun p hp m hm=>(Qadn _ _ _ _ _).2 (Qafl (fun j=>by simp[tlN,AObj.nms]) hp hm)
theorem Qaeg(h:Nat->Option Ent): ∀(H:Qan),roB h (fun _=>true) H
 |[]=>trivial
 |(j,e)::r=>⟨trivial,Qaeg h r⟩
theorem Qagq{H0:Qan}{k cnt:Nat}{exB:Nat->Bool}{j:Nat}(h:domB H0 j=true):kxB H0 k cnt exB j=some j:=by
 simp only[kxB,h,ZdL,Zbb]
theorem tlM_cvt{h:Nat->Option Ent}{kx:Nat->Option Nat}{m:Nat}{a:List Tile}{k:Int}{i j:Nat}(hk:kx (2+j)=some (2+j)):mapO (cvt h kx (m+1)) (tlM a k i j)=some (tlM a k i j):=by
 simp only[tlM]
 split<;>simp only[tlA,mapO,cvt,hk,kp]
theorem Qaft{h:Nat->Option Ent}{kx:Nat->Option Nat}{m:Nat}{a:List Tile}{k:Int}{i:Nat}(hk: ∀j,j<nT a->kx (2+j)=some (2+j)):mapO (mapO (cvt h kx (m+1))) (tlMR a k i)=some (tlMR a k i):=
 Qnl _ fun j hj=>tlM_cvt (hk j (Zar.1 hj))
theorem mkLC.hcl(a:List Tile×Int): ∀p∈mkLC.H1 a,domB (mkLC.H0 a) p.1=true/\ ∀m∈p.2.2.nms,domB (mkLC.H0 a) m=true:=by
 intro p hp;simp only[mkLC.H0,Qadg];simp only[mkLC.H1,mkLH,Zau,famH,Zay,Zar] at hp;rcases hp with rfl|⟨j,hj,rfl⟩
 .refine⟨.inl rfl,fun m hm=> ?_⟩;simp only[AObj.nms] at hm;obtain⟨r,hr,hm⟩:=Qadc.1 hm;obtain⟨j,hj,rfl⟩:=Zay.1 hr;rw[Qae7,Zao] at hm
  have:=Zar.1 hj
  exact .inr ⟨by omega,by omega⟩
 .exact⟨.inr ⟨by simp only;omega,by simp only;omega⟩,fun m hm=>by simp[tlN,AObj.nms] at hm⟩
theorem mkTS.hcl(a:Qaa×Int): ∀p∈mkTS.H1 a,domB (mkTS.H0 a) p.1=true/\ ∀m∈p.2.2.nms,domB (mkTS.H0 a) m=true:=
 fun p hp=>⟨(Qadn _ _ _ _ _).2 (syH_lt hp),fun m hm=>(Qadn _ _ _ _ _).2 (Qafl (fun j=>by simp[tlN,AObj.nms]) hp hm)⟩
theorem mkTS.ok:Qas Tryz.prog 60 mkTS.row:=by
 refine Qf1 Qaq (tC mkGC.ok (tC mkLC.ok tN)) Tryz.func60 rfl (by kernel_rfl) (by kernel_rfl) (exB:=fun _=>false) (R:=fun a r=>r=mkTS.r0 a) (n:=2) (fun _=>rfl) (by decide)
  mkTS.hbel mkTS.hbH mkTS.hkH
  mkTS.hnm (fun a p hp=> ?_) (fun a r h=>by subst h;exact LeV.refl _) ?_
 rotate_left
 intro a hpre;simp only[Tryz.f60,Option.getD,mkTS.ca];simp (maxSteps:=10^7) (disch:=omega) only[ZZ,simprocAttr,rch,ORB,mkTS.ca];obtain⟨S,k⟩:=a;obtain⟨h1,h2,h3⟩:=hpre;simp only at h1 h2 h3;have hk:=tlK_b S.Tiles (tsK (S,k)) (by simp only[tsK];omega) 0 S.Tiles.length (by omega);have hk2:tsK (S,k)<=1099511627776:=by simp only[tlK] at hk;omega
 simp only[tsK] at hk2;have hn:=Qad0 S.Tiles;simp only[Qba,mkTS.H0,syH];refine orow.os (S.Glues,k) [0] ⟨h1,hk2⟩ (fun j=> ?_) rfl rfl ?_ ?_
 .simp only[domB,mkGC.H0,hget];by_cases hj:j=0
  .subst hj;simp
  .have:(0==j)=false:=by simpa using fun h=>hj h.symm
   rw[this];simp;omega
 .simp (maxSteps:=10^7) (disch:=omega) only[ZZ,simprocAttr,rch,ORB,mkTS.ca,mkGC.ca,mkGC.H0,Qer,ZaR]
  try exact⟨rfl,rfl⟩
 simp (maxSteps:=10^7) (disch:=omega) only[ZZ,simprocAttr,rch,ORB,mkTS.ca,mkGC.H1,sub,Qba,ZaR,Zbm];rw[Qadi 2 (nT S.Tiles) (tlN S.Tiles (tsK (S,k)) 0) [0] (by simp)];have hσ: ∀j,j<nT S.Tiles->sgx (fun j=>if j=0 then 1 else j) 2000000 2000001 (2+j)=2+j:=fun j hj=>by
  simp only[sgx];rw[Zaq (by omega),Zai (by omega)]
 have hσ0:sgx (fun j=>if j=0 then 1 else j) 2000000 2000001 0=1:=rfl;refine orow.tau (S.Tiles,tsK (S,k)) (fun j=>if j=0 then 1 else j) ⟨h2,by simp only[tsK];omega,h3⟩ (fun _ _=>rfl) (fun j hj=> ?_) (fun i j hi hj h=> ?_) (mkLC.hcl _) ⟨?_,?_⟩ (by simp[mkLC.r0,AV.nms]) (fun HH hH1 hH2=> ?_)
 .have hj:=(Qadg _ _ _ _).1 hj;simp only at hj⊢
  split<;>omega
 .have hi:=(Qadg _ _ _ _).1 hi;have hj:=(Qadg _ _ _ _).1 hj;simp only at hi hj h;split at h<;>split at h<;>omega
 .simp only[mkLC.ca,renL,AV.ren,hσ0,tsK]
 .simp only[mkLC.H0,mkLH,Qer,hσ0,AObj.ren];refine⟨?_,Qadx fun i hi=> ?_⟩
  .simp only[hget,Qao _ _ (show 0≠1 by omega),Qao _ _ (show 2000000≠1 by omega),ZaF,ZdP,Zbb];rw[<-tlMR,Qad2 _ _ _ _ hσ]
  .rw[hσ i hi];simp only[hget,Qao _ _ (show 0≠2+i by omega),Qao _ _ (show 2000000≠2+i by omega),Qao _ _ (show 1≠2+i by omega),ZaF];rw[Qcy _ _ _ _ hi];rfl
 have g0:hget HH 0=some (true,.arr 173 2 ((wrE (gF k) S.Glues.length).map Glue.c)):=by
  rw[hH2 0 (fun j hj=>by
   have hj:=(Qadg _ _ _ _).1 hj;simp only at hj⊢
   split<;>omega)]
  rfl
 have g1:hget HH 1=some (true,.arrA 175 2 (tlMR S.Tiles (tsK (S,k)) (nT S.Tiles))):=by
  have g:=hH1 0 _ rfl;rw[Zaq rfl] at g;rw[g];simp only[AObj.ren];rw[<-tlMR,Qad2 _ _ _ _ hσ]
 have g2: ∀j,j<nT S.Tiles->hget HH (2+j)=some (tlN S.Tiles (tsK (S,k)) (nT S.Tiles) j):=fun j hj=>by
  have:=hH1 (2+j) _ (Qaej _ _ _ j hj)
  simp only[Zai (show 2+j≠0 by omega)] at this;rw[this];rfl
 simp only[mkLC.r0,AV.ren];simp (maxSteps:=10^7) (disch:=omega) only[ZZ,simprocAttr,rch,ORB,mkTS.ca,sub,mkTS.r0,tsK,Qba,mkTS.H1,syH];have hdm: ∀j,j<nT S.Tiles->domB ((0,(true,AObj.arr 173 2 (List.map Glue.c S.Glues)))::(1,(true,AObj.arrA 175 2 (tlMR S.Tiles (k+2*S.Glues.length) 0)))::famH 2 (nT S.Tiles) (tlN S.Tiles (k+2*S.Glues.length) 0)) (2+j)=true:=fun j hj=>(Qadn _ _ _ _ _).2 (by omega)
 refine⟨Qaeg _ _,?_,?_,?_⟩
 .rw[g0];exact⟨rfl,rfl⟩
 .rw[g1];refine⟨rfl,?_⟩;simp only[cvtE];rw[Qaft (fun j hj=>Qagq (hdm j hj))];rfl
 .exact Qadj _ _ _ _ _ (fun j hj=>g2 j hj) (fun j hj=>rfl)
 obtain⟨q1,_⟩:=mkTS.hcl _ p hp
 have:=(Qadn _ _ _ _ _).1 q1
 have:=Qad0 a.1.Tiles
 exact .inl ⟨by omega,rfl,q1⟩
theorem Qn3{n:Nat}{l:Int}(h:0<=szC n l):(n:Int)<=l/\szC n l<=l/\0<=l:=by
 simp only[szC] at h⊢;split at h
 .omega
 .rename_i c;rw[Zai c];omega
theorem Qu5: ∀(a:List Tile) (l:Int),0<=l->l<=1048576->0<=Qdz Qcn a l-> ∀x∈a,x.Sides.length<=1073741824
 |[],_,_,_,_=>by intro x hx;cases hx
 |y::r,l,h0,hl,h=>by
  simp only[Qdz] at h;split at h
  .omega
  .rename_i c;have hy:0<=Qcn y l:=by omega
   have h1:0<=szC y.Name.size l:=by
    simp only[Qcn] at hy;split at hy
    .omega
    .omega
   have e:Qcn y l=szC y.Sides.length (szC y.Name.size l):=by
    simp only[Qcn];rw[Zai (by omega)]
   rw[e] at hy h;obtain⟨a1,a2,a3⟩:=Qn3 hy;obtain⟨b1,b2,b3⟩:=Qn3 h1;intro x hx;rcases Zau.1 hx with rfl|hx
   .omega
   .exact Qu5 r _ hy (by omega) h x hx
theorem szSet_sm{s:Qaa}{l:Int}(hl: -1<=l)(hl2:l<=1048576)(h:0<=Qqd s l):smSet s:=by
 have hg:=Qo1 s.Glues l hl;simp only[Qqd] at h;split at h
 .omega
 rename_i c;have hg0:0<=Qcj s.Glues l:=by omega
 have hgc:0<=szC s.Glues.length l:=by
  simp only[Qcj] at hg0;split at hg0
  .omega
  .omega
 have htc:0<=szC s.Tiles.length (Qcj s.Glues l):=by
  simp only[Qds] at h;split at h
  .omega
  .omega
 have e:Qds s.Tiles (Qcj s.Glues l)=Qdz Qcn s.Tiles (szC s.Tiles.length (Qcj s.Glues l)):=by
  simp only[Qds];rw[Zai (by omega)]
 rw[e] at h;obtain⟨a1,a2,a3⟩:=Qn3 hgc;obtain⟨b1,b2,b3⟩:=Qn3 htc;exact⟨by omega,by omega,Qu5 s.Tiles _ htc (by omega) h⟩
theorem szSys_sm{s:Qar}{l:Int}(hl: -1<=l)(hl2:l<=1048576)(h:0<=Qlr s l):smSys s:=by
 have hb:=Qxk s.Set l hl;simp only[Qlr] at h;split at h
 .omega
 rename_i c;obtain⟨a1,a2,a3⟩:=Qn3 h;exact⟨szSet_sm hl hl2 (by omega),by omega⟩
def syK(a:Qar×Int):Int:=tlK a.1.Set.Tiles (tsK (a.1.Set,a.2)) a.1.Set.Tiles.length
def mkSy.ca(a:Qar×Int):List AV:=[.agg [.own 0,.own 1,.own 2000000,.im (.int .i64 a.1.Temperature)],.im (.int .i64 a.2)]
def mkSy.H0(a:Qar×Int):Qan:=(2000000,(true,.arr 177 3 (a.1.Seed.Tiles.map Qab.c)))::mkTS.H0 (a.1.Set,a.2)
def mkSy.H1(a:Qar×Int):Qan:=(2000000,(true,.arr 177 3 ((wrE (pF (syK a)) a.1.Seed.Tiles.length).map Qab.c)))::mkTS.H1 (a.1.Set,a.2)
def mkSy.r0(a:Qar×Int):AV:= .im (.int .i64 (syK a+3*a.1.Seed.Tiles.length))
def mkSy.pre(a:Qar×Int):Prop:=0<=a.2/\a.1.Set.Tiles.length<=1048576/\syK a+3*a.1.Seed.Tiles.length<=1099511627776
def mkSy.row:Row:=orow mkSy.ca mkSy.H0 2000001 mkSy.pre (fun _=>true) mkSy.r0 mkSy.H1 0
theorem mkSy.dom0(a:Qar×Int)(j:Nat):domB (mkSy.H0 a) j=true↔j=2000000\/j<2+nT a.1.Set.Tiles:=by
 by_cases h:j=2000000
 .subst h;simp[domB,mkSy.H0,hget]
 .have h2:(2000000==j)=false:=by simpa using fun q=>h q.symm
  have:domB (mkSy.H0 a) j=domB (mkTS.H0 (a.1.Set,a.2)) j:=by simp only[domB,mkSy.H0,hget,h2,ZaF]
  rw[this];simp only[mkTS.H0,Qadn,h,false_or]
theorem mkSy.hcl(a:Qar×Int): ∀p∈mkSy.H1 a,domB (mkSy.H0 a) p.1=true/\ ∀m∈p.2.2.nms,domB (mkSy.H0 a) m=true:=by
 intro p hp;simp only[mkSy.dom0];rcases Zau.1 hp with rfl|hp
 .exact⟨.inl rfl,fun m hm=>by simp[AObj.nms] at hm⟩
 .have:=mkTS.hcl _ p hp
  simp only[mkTS.H0,Qadn] at this;exact⟨.inr this.1,fun m hm=> .inr (this.2 m hm)⟩
theorem mkSy.hbel(a:Qar×Int):belL 2000001 (mkSy.ca a)=true:=by simp[mkSy.ca,belL,AV.bel]
theorem mkSy.hbH(a:Qar×Int):belH 2000001 (mkSy.H0 a)=true:=by
 simp only[mkSy.H0,belH];exact syH_bel (by have:=Qad0 a.1.Set.Tiles;simp only;omega) (fun i=>by simp[belH,tlN])
theorem mkSy.hkH(a:Qar×Int):Qam 2000001 (mkSy.H0 a)=true:=by
 simp only[mkSy.H0,Qam]
 have:=Qafv (G:=a.1.Set.Glues) (a:=a.1.Set.Tiles) (k:=tsK (a.1.Set,a.2)) (i:=0) (N:=2000001) (f:=tlN a.1.Set.Tiles (tsK (a.1.Set,a.2)) 0) (by have:=Qad0 a.1.Set.Tiles;omega)
 simp only[mkTS.H0,this,ZaW];simp
theorem mkSy.hnm(a:Qar×Int):Qc2 (mkSy.H0 a) (mkSy.H0 a):=by
 refine Qaeo fun p hp m hm=>(mkSy.dom0 _ _).2 ?_
 rcases Zau.1 hp with rfl|hp
 .simp[AObj.nms] at hm
 .exact .inr (Qafl (fun j=>by simp[tlN,AObj.nms]) hp hm)
theorem syH_get2{G:List Glue}{rows:List (List AV)}{n:Nat}{f:Nat->Ent}(i:Nat)(h:i<n):hget (syH G rows n f) (2+i)=some (f i):=by
 simp only[syH,hget,Qao _ _ (show 0≠2+i by omega),Qao _ _ (show 1≠2+i by omega),ZaF];exact Qcy _ _ _ _ h
theorem outOk_sy{h:Nat->Option Ent}{kx:Nat->Option Nat}{m:Nat}{G:List Glue}{a:List Tile}{k:Int}{i:Nat}{f:Nat->Ent}(h0:h 0=some (true,.arr 173 2 (G.map Glue.c)))(h1:h 1=some (true,.arrA 175 2 (tlMR a k i)))(h2: ∀j,j<nT a->h (2+j)=some (f j))
 (hf: ∀j,cvtE (cvt h kx (m+1)) (f j).2=some (f j).2)(hk: ∀j,j<nT a->kx (2+j)=some (2+j)):Qhk h (cvt h kx (m+1)) (syH G (tlMR a k i) (nT a) f):=by
 simp only[syH,Qhk];refine⟨?_,?_,Qadj _ _ _ _ _ h2 (fun j _=>hf j)⟩
 .rw[h0];exact⟨rfl,rfl⟩
 .rw[h1];refine⟨rfl,?_⟩;simp only[cvtE];rw[Qaft hk];rfl
theorem mkSy.ok:Qas Tryz.prog 20 mkSy.row:=by
 refine Qf1 Qaq (tC mkTS.ok (tC mkAC.ok tN)) Tryz.func20 rfl (by kernel_rfl) (by kernel_rfl) (exB:=fun _=>false) (R:=fun a r=>r=mkSy.r0 a) (n:=2) (fun _=>rfl) (by decide)
  mkSy.hbel mkSy.hbH mkSy.hkH
  mkSy.hnm (fun a p hp=> ?_) (fun a r h=>by subst h;exact LeV.refl _) ?_
 rotate_left
 intro a hpre;simp only[Tryz.f20,Option.getD,mkSy.ca];simp (maxSteps:=10^7) (disch:=omega) only[ZZ,simprocAttr,rch,ORB,mkSy.ca];obtain⟨S,k⟩:=a;obtain⟨h1,h2,h3⟩:=hpre;simp only at h1 h2 h3;simp only[Qba,mkSy.H0];have hn:=Qad0 S.Set.Tiles;have hk:=tlK_b S.Set.Tiles (tsK (S.Set,k)) (by simp only[tsK];omega) 0 S.Set.Tiles.length (by omega);have hk0:0<=syK (S,k):=by simp only[syK];omega
 have hσ: ∀j,j<2+nT S.Set.Tiles->sgx (fun j=>j) 2000000 2000002 j=j:=fun j hj=>Zaq (by omega)
 have dmT:=fun j=>(Qadn S.Set.Glues (tlMR S.Set.Tiles (tsK (S.Set,k)) 0) (nT S.Set.Tiles) (tlN S.Set.Tiles (tsK (S.Set,k)) 0) j)
 refine orow.tau (S.Set,k) (fun j=>j) ⟨h1,h2,by simp only[syK] at h3;simp only;omega⟩ (fun _ _=>rfl) (fun j hj=> ?_) (fun i j _ _ h=>h) (mkTS.hcl _) ⟨?_,?_⟩ (by simp[mkTS.r0,AV.nms]) (fun HH hH1 hH2=> ?_)
 .have hj:=(dmT j).1 hj;omega
 .simp only[mkTS.ca,renL,AV.ren,hσ 0 (by omega),hσ 1 (by omega)]
 .simp only[mkTS.H0,syH,Qer,hσ 0 (by omega),hσ 1 (by omega),AObj.ren];rw[Qad2 _ _ _ _ (fun j hj=>hσ _ (by omega))];refine⟨rfl,rfl,Qadx fun i hi=> ?_⟩;rw[hσ _ (by omega)];simp only[hget,Qao _ _ (show 2000001≠2+i by omega),Qao _ _ (show 2000000≠2+i by omega),Qao _ _ (show 0≠2+i by omega),Qao _ _ (show 1≠2+i by omega),ZaF];rw[Qcy _ _ _ _ hi];rfl
 have hu: ∀m,m=2000000\/m=2000001-> ∀j,domB (mkTS.H0 (S.Set,k)) j=true->j≠m:=fun m hm j hj=>by
  have hj:=(dmT j).1 hj;omega
 have gs:hget HH 2000000=some (true,.arr 177 3 (S.Seed.Tiles.map Qab.c)):=by rw[hH2 _ (hu _ (.inl rfl))];rfl
 have gp:hget HH 2000001=some (true,.cells 44 [.own 0,.own 1,.own 2000000,.im (.int .i64 S.Temperature)]):=by rw[hH2 _ (hu _ (.inr rfl))];rfl
 have g0:hget HH 0=some (true,.arr 173 2 ((wrE (gF k) S.Set.Glues.length).map Glue.c)):=hH1 0 _ rfl;have g1:hget HH 1=some (true,.arrA 175 2 (tlMR S.Set.Tiles (tsK (S.Set,k)) (nT S.Set.Tiles))):=by
  rw[hH1 1 _ rfl];simp only[AObj.ren];rw[Qad2 _ _ _ _ (fun j hj=>hσ _ (by omega))]
 have g2: ∀j,j<nT S.Set.Tiles->hget HH (2+j)=some (tlN S.Set.Tiles (tsK (S.Set,k)) (nT S.Set.Tiles) j):=fun j hj=>by
  have e:hget (mkTS.H1 (S.Set,k)) (2+j)=some (tlN S.Set.Tiles (tsK (S.Set,k)) (nT S.Set.Tiles) j):=syH_get2 j hj;rw[hH1 (2+j) _ e];rfl
 have eK:tlK S.Set.Tiles (tsK (S.Set,k)) S.Set.Tiles.length=syK (S,k):=rfl;simp only[mkTS.r0,AV.ren,eK];simp (maxSteps:=10^7) (disch:=omega) only[ZZ,simprocAttr,rch,ORB,mkSy.ca,sub,Qba,gp]
 skip
 refine orow.os (S.Seed,syK (S,k)) [2000000] ⟨hk0,h3⟩ (fun j=> ?_) rfl rfl ?_ ?_
 .simp only[domB,mkAC.H0,hget];by_cases hj:j=0
  .subst hj;simp
  .have:(0==j)=false:=by simpa using fun h=>hj h.symm
   rw[this];simp;omega
 .simp (maxSteps:=10^7) (disch:=omega) only[ZZ,simprocAttr,rch,ORB,mkSy.ca,mkAC.ca,mkAC.H0,Qer,ZaR,gs]
  try exact⟨rfl,rfl⟩
 simp (maxSteps:=10^7) (disch:=omega) only[ZZ,simprocAttr,rch,ORB,mkSy.ca,mkAC.H1,sub,Qba,ZaR,Zbm,mkSy.r0,mkSy.H1];obtain⟨HX,hHX⟩: ∃HX,HX=hget ((2000000,(true,AObj.arr 177 3 (List.map Qab.c (wrE (pF (syK (S,k))) S.Seed.Tiles.length))))::hdel HH [2000000]):=⟨_,rfl⟩;rw[<-hHX];have gx: ∀m,m≠2000000->HX m=hget HH m:=fun m hm=>by
  rw[hHX];simp only[hget,Qao _ _ (fun h=>hm h.symm:2000000≠m),ZaF];exact Qce _ _ _ (fun h=>hm h.symm)
 refine⟨Qaeg _ _,outOk_sy (by rw[gx 0 (by omega)];exact g0) (by rw[gx 1 (by omega)];exact g1) (fun j hj=>by simp only at hj;rw[gx _ (by omega)];exact g2 j hj) (fun j=>rfl) (fun j hj=>Qagq ?_)⟩;simp only at hj
 have:=(mkSy.dom0 (S,k) (2+j)).2 (.inr (by simp only;omega))
 simpa only[mkSy.H0] using this
 obtain⟨q1,_⟩:=mkSy.hcl _ p hp
 have:=(mkSy.dom0 _ _).1 q1
 have:=Qad0 a.1.Set.Tiles
 exact .inl ⟨by omega,rfl,q1⟩
def Qaer(a:List Tile):Nat:=(a.map fun x=>x.Sides.length).sum
theorem Qaf2(y:Tile)(r:List Tile)(k:Int): ∀i,tlK (y::r) k (i+1)=tlK r (k+1+y.Sides.length) i
 |0=>rfl
 |i+1=>by
  rw[tlK,Qaf2 y r k i,tlK];rfl
theorem tlK_sum: ∀(a:List Tile) (k:Int),tlK a k a.length=k+a.length+Qaer a
 |[],k=>by simp[tlK,Qaer]
 |y::r,k=>by
  rw[ZaJ,Qaf2,tlK_sum r];simp only[Qaer,Zal,Zcb];omega
theorem szC_eq{n:Nat}{l:Int}(h:0<=szC n l):szC n l=l - n:=by
 simp only[szC] at h⊢;split at h
 .omega
 .rename_i c;rw[Zai c]
theorem Qaeb: ∀(a:List Tile) (l:Int),0<=l->0<=Qdz Qcn a l->(Qaer a:Int)+Qdz Qcn a l<=l
 |[],l,h0,_=>by simp[Qaer,Qdz]
 |y::r,l,h0,h=>by
  simp only[Qdz] at h⊢;by_cases c:Qcn y l<0
  .rw[Zaq c] at h;omega
  .rw[Zai c] at h⊢;have hy:0<=Qcn y l:=by omega
   have h1:0<=szC y.Name.size l:=by
    simp only[Qcn] at hy;split at hy<;>omega
   have e:Qcn y l=szC y.Sides.length (szC y.Name.size l):=by
    simp only[Qcn];rw[Zai (by omega)]
   rw[e] at hy h⊢;have q1:=Qn3 h1;have q2:=szC_eq hy;have ih:=Qaeb r _ hy h;simp only[Qaer,Zal,Zcb] at ih⊢;omega
structure SysB(s:Qar):Prop where
 g:s.Set.Glues.length<=1048576
 t:s.Set.Tiles.length<=1048576
 d:Qaer s.Set.Tiles<=1048576
 p:s.Seed.Tiles.length<=1048576
theorem szSys_B{s:Qar}{l:Int}(hl: -1<=l)(hl2:l<=1048576)(h:0<=Qlr s l):SysB s:=by
 have hb:=Qxk s.Set l hl;simp only[Qlr] at h;split at h
 .omega
 rename_i c;obtain⟨a1,_,_⟩:=Qn3 h;have hs:0<=Qqd s.Set l:=by omega
 have hg:=Qo1 s.Set.Glues l hl;simp only[Qqd] at hs;split at hs
 .omega
 have hg0:0<=Qcj s.Set.Glues l:=by omega
 have hgc:0<=szC s.Set.Glues.length l:=by
  simp only[Qcj] at hg0;split at hg0<;>omega
 have htc:0<=szC s.Set.Tiles.length (Qcj s.Set.Glues l):=by
  simp only[Qds] at hs;split at hs<;>omega
 have e:Qds s.Set.Tiles (Qcj s.Set.Glues l)=Qdz Qcn s.Set.Tiles (szC s.Set.Tiles.length (Qcj s.Set.Glues l)):=by
  simp only[Qds];rw[Zai (by omega)]
 rw[e] at hs;obtain⟨b1,_,_⟩:=Qn3 hgc;obtain⟨d1,d2,_⟩:=Qn3 htc
 have:=Qaeb s.Set.Tiles _ htc hs
 exact⟨by omega,by omega,by omega,by omega⟩
theorem sd_mem{a:List Tile}{x:Tile}(h:x∈a):x.Sides.length<=Qaer a:=by
 induction a with
 |nil=>cases h
 |cons y r ih=>
  simp only[Qaer,Zal,Zcb] at ih⊢;rcases Zau.1 h with rfl|h
  .omega
  .have:=ih h;omega
theorem SysB.yx{s:Qar}(h:SysB s):toYX.pre s:=⟨⟨by have:=h.g;omega,⟨h.t,fun x hx=>by have:=sd_mem hx;have:=h.d;omega⟩⟩,by have:=h.p;omega⟩
theorem SysB.syK{s:Qar}(h:SysB s){k:Int}(hk:0<=k)(hk2:k<=1048576):0<=syK (s,k)/\Go.Ae.syK (s,k)+3*s.Seed.Tiles.length<=9437184:=by
 simp only[Go.Ae.syK,tlK_sum,tsK]
 have:=h.g;have:=h.t;have:=h.d;have:=h.p
 omega
theorem SysB.mkp{s:Qar}(h:SysB s){k:Int}(hk:0<=k)(hk2:k<=1048576):mkSy.pre (s,k):=⟨hk,h.t,by have:=(h.syK hk hk2).2;simp only;omega⟩
structure Qad1(h:Nat->Option Ent)(g t p f:Nat)(s:Qar):Prop where
 g:h g=some (true,.arr 173 2 (s.Set.Glues.map Glue.c))
 t:h t=some (true,.arrA 175 2 (tlB f s.Set.Tiles))
 p:h p=some (true,.arr 177 3 (s.Seed.Tiles.map Qab.c))
 f: ∀i,i<s.Set.Tiles.length->h (f+i)=some (tlF s.Set.Tiles i)
theorem tiles_bk{h:Nat->Option Ent}{n f:Nat}{a:List Tile}(hf: ∀i,i<a.length->h (f+i)=some (tlF a i)):mapO (mapO (bk h (n+1))) (tlB f a)=some (a.map Tile.c):=by
 have e:a.map Tile.c=(List.range a.length).map fun i=>((a[i]?.map Tile.c).getD []):=by
  apply ZbU;intro i;rw[ZaG,ZaG];by_cases hi:i<a.length
  .rw[Zbc hi,Zac hi];simp[hi]
  .rw[ZaV (by omega),ZaV (by simp;omega)];rfl
 rw[e];refine Qnl _ fun i hi=> ?_
 have hi:=Zar.1 hi;have hx:a[i]? =some a[i]:=Zac hi;simp only[mapO,bk,hf i hi,tlF,Qwz,hx,ZaM,Zad,Tile.c]
theorem Qad1.bk{h:Nat->Option Ent}{g t p f n:Nat}{s:Qar}(hs:Qad1 h g t p f s):Go.Ae.bk h (n+3) (.agg [.own g,.own t,.own p,.im (.int .i64 s.Temperature)])=some (.agg (Qar.c s)):=by
 simp only[Go.Ae.bk,mapO,hs.g,hs.t,hs.p,Qwz,tiles_bk hs.f,ZaM,Qar.c]
theorem Qad1.pk{h:Nat->Option Ent}{g t p f:Nat}{s:Qar}(hs:Qad1 h g t p f s):pkF h (.agg [.own g,.own t,.own p,.im (.int .i64 s.Temperature)])=some (.val (.agg (Qar.c s))):=by
 simp only[pkF,hs.bk (n:=6),pkFV,ZaM]
theorem vN.call{A:Type}{ar:List PK->Option A}{pre:A->Prop}{re:A->D}{args:List AV}{tm:List (Nat×AV)}{h:Qan}{nx:Nat}{dst:Option Nat}{go:Qad->Prop}(ps:List PK)(hps:pkL (hget h) args=some (ps,[]))(a:A)(ha:ar ps=some a)(hpre:pre a)
 (hgo:go ((⟨tm,h,nx⟩:Qad).put dst (.im (re a)))):vrow ar pre re args (hget h) nx (kont go ⟨tm,h,nx⟩ dst):=by
 unfold vrow;rw[hps];simp only[Qa1,ha,decK,frE];refine⟨hpre,?_,?_⟩
 .rw[Eff.ok_nr];simp[AV.bel,belH,Qpx]
 .rw[Qad.app_nr,Qba,ZcN];exact hgo
theorem sysR1(s:Qar):a1 (kR Qar.d) [.val (.agg (Qar.c s))]=some s:=by simp only[a1,kR,Qar.d_c,Zbt]
theorem optR1(l:List Opt):a1 (kS Opt.d) [.val (.sl false 3 (l.map Opt.c))]=some l:=by simp only[a1,kS,Opt.d_R,Zbt]
theorem sysoptR(s:Qar)(l:List Opt):a2 (kR Qar.d) (kS Opt.d) [.val (.agg (Qar.c s)),.val (.sl false 3 (l.map Opt.c))]=some (s,l):=by simp only[a2,kR,kS,Qar.d_c,Opt.d_R,Zbt]
theorem sys2R(s t:Qar):a2 (kR Qar.d) (kR Qar.d) [.val (.agg (Qar.c s)),.val (.agg (Qar.c t))]=some (s,t):=by simp only[a2,kR,Qar.d_c,Zbt]
theorem opt2R(l m:List Opt):a2 (kS Opt.d) (kS Opt.d) [.val (.sl false 3 (l.map Opt.c)),.val (.sl false 3 (m.map Opt.c))]=some (l,m):=by simp only[a2,kS,Opt.d_R,Zbt]
def toYR.row:Row:=orR toSystem.row toYX.row
theorem toYR.ok:Qas Tryz.prog 12 toYR.row:=orR_ok toSystem.ok toYX.ok
def toOR.row:Row:=orR toOptionS.row toOX.row
theorem toOR.ok:Qas Tryz.prog 13 toOR.row:=orR_ok toOptionS.ok toOX.ok
theorem yx_cl{s:Qar}(hs:SysB s): ∀p∈toYX.H1 s,p.1<2000013/\ ∀m∈p.2.2.nms,m<2000013:=by
 have hm:min s.Set.Tiles.length 1048576<=1048576:=Zcd _ _;have ht:=hs.t;intro p hp;simp only[toYX.H1,Zau,famH,Zay,Zar] at hp;rcases hp with rfl|rfl|rfl|⟨i,hi,rfl⟩
 .exact⟨by omega,by simp[AObj.nms]⟩
 .refine⟨by omega,fun m hm=> ?_⟩;simp only[AObj.nms] at hm;obtain⟨r,hr,hm⟩:=Qadc.1 hm;obtain⟨j,hj,rfl⟩:=Zay.1 hr
  have:=Zar.1 hj
  simp[nmsL,AV.nms] at hm;omega
 .exact⟨by omega,by simp[AObj.nms]⟩
 .exact⟨by simp only;omega,by simp[tlF,AObj.nms]⟩
theorem ox_cl(l:List Opt): ∀p∈toOX.H1 l,p.1<2/\ ∀m∈p.2.2.nms,m<2:=by
 intro p hp;simp only[toOX.H1,Zao] at hp;subst hp;exact⟨by omega,by simp[AObj.nms]⟩
theorem Qad1.mono{h h':Nat->Option Ent}{g t p f:Nat}{s:Qar}(hs:Qad1 h g t p f s)(hh: ∀m,(m=g\/m=t\/m=p\/(f<=m/\m<f+s.Set.Tiles.length))->h' m=h m):Qad1 h' g t p f s:=
 ⟨by rw[hh g (.inl rfl)];exact hs.g,by rw[hh t (.inr (.inl rfl))];exact hs.t,by rw[hh p (.inr (.inr (.inl rfl)))];exact hs.p,fun i hi=>by rw[hh _ (.inr (.inr (.inr ⟨by omega,by omega⟩)))];exact hs.f i hi⟩
theorem yx_at{s:Qar}(hs:SysB s){nx:Nat}{HH:Qan}(h: ∀j e,hget (toYX.H1 s) j=some e->hget HH (nx+j)=some (e.1,e.2.ren fun j=>nx+j)):Qad1 (hget HH) (nx+7) (nx+9) (nx+2000012) (nx+10) s:=by
 have ht:=hs.t;have hm:min s.Set.Tiles.length 1048576=s.Set.Tiles.length:=by omega
 refine⟨h 7 _ rfl,?_,h 2000012 _ rfl,fun i hi=> ?_⟩
 .rw[h 9 _ rfl];simp only[AObj.ren];congr 3;simp only[tlB,Zcq];refine Zbu fun i hi=> ?_
  simp only[Function.comp,renL,AV.ren];rw[Zcl]
 .have e:hget (toYX.H1 s) (10+i)=some (tlF s.Set.Tiles i):=by
   simp only[toYX.H1,hget,Qao _ _ (show 7≠10+i by omega),Qao _ _ (show 9≠10+i by omega),Qao _ _ (show 2000012≠10+i by omega),ZaF];rw[hm];exact Qcy _ _ _ _ hi
  rw[Zcl,h _ _ e];rfl
theorem Qafq{H:Qan}(e:Ent)(k m:Nat)(h:k≠m):hget ((k,e)::hdel H [k]) m=hget H m:=by
 simp only[hget,Qao _ _ h,ZaF];exact Qce _ _ _ h
theorem pk2{h:Nat->Option Ent}{x y:AV}{p q:PK}(hx:pkF h x=some p)(hy:pkF h y=some q):pkFL h [x,y]=some [p,q]:=by simp only[pkFL,hx,hy,Qabo]
theorem pkArr{h:Nat->Option Ent}{o T k:Nat}{mu:Bool}{rows:List (List D)}(g:h o=some (mu,.arr T k rows)):pkF h (.own o)=some (.val (.sl false k rows)):=by simp only[pkF,bk,g,Qwz,pkFV,ZaM]
theorem Qaes: ∀l:List Nat,Ql9 l []=true
 |[]=>rfl
 |x::r=>by simp[Ql9,Qaes r]
def Qaey:List Fp->Bool
 |[]=>true
 |f::r=>f.touch.isEmpty && Qaey r
theorem Qadq(cl:List (List Nat))(i:Nat)(use:List Nat): ∀acc:List Fp,Qaey acc=true->Qabz cl i use [] [] acc=true
 |[],_=>rfl
 |f::r,h=>by
  simp only[Qaey,Zaf,List.isEmpty_iff] at h;simp only[Qabz,ckP,h.1,ZaK,Qaes,Ql9,outN,Zdk,Zbb,Qadq cl i use r h.2]
theorem vN.callA{A:Type}{ar:List PK->Option A}{pre:A->Prop}{re:A->D}{args:List AV}{tm:List (Nat×AV)}{h:Qan}{nx:Nat}{dst:Option Nat}{go:AGo}{cl:List (List Nat)}{i:Nat}{acc:List Fp}(ps:List PK)(hps:pkL (hget h) args=some (ps,[]))(a:A)(ha:ar ps=some a)(hpre:pre a)(hq:Qaey acc=true)
 (hgo: ∀u,go (⟨i,u,[],nx,0⟩::acc) ((⟨tm,h,nx⟩:Qad).put dst (.im (re a)))):vrow ar pre re args (hget h) nx (kontA cl i acc go ⟨tm,h,nx⟩ dst):=by
 unfold vrow;rw[hps];simp only[Qa1,ha,decK,frE];refine⟨hpre,?_,?_,?_⟩
 .rw[Eff.ok_nr];simp[AV.bel,belH,Qpx]
 .exact Qadq _ _ _ _ hq
 .rw[Qad.app_nr,Qba,ZcN];exact hgo _
theorem vF.callA{A:Type}{ar:List PK->Option A}{pre:A->Prop}{re:A->D}{args:List AV}{tm:List (Nat×AV)}{h:Qan}{nx:Nat}{dst:Option Nat}{go:AGo}{cl:List (List Nat)}{i:Nat}{acc:List Fp}(ps:List PK)(hps:pkFL (hget h) args=some ps)(a:A)(ha:ar ps=some a)(hpre:pre a)(hq:Qaey acc=true)
 (hgo: ∀u,go (⟨i,u,[],nx,0⟩::acc) ((⟨tm,h,nx⟩:Qad).put dst (.im (re a)))):Qfi ar pre re args (hget h) nx (kontA cl i acc go ⟨tm,h,nx⟩ dst):=by
 unfold Qfi;rw[hps];simp only[Qct,ha,decK];refine⟨hpre,?_,?_,?_⟩
 .rw[Eff.ok_nr];simp[AV.bel,belH,Qpx]
 .exact Qadq _ _ _ _ hq
 .rw[Qad.app_nr,Qba,ZcN];exact hgo _
theorem mkSy_call{N nx:Nat}{tm:List (Nat×AV)}{h:Qan}{dst:Option Nat}{go:Qad->Prop}{s:Qar}{k:Int}(hB:SysB s)(hk:0<=k)(hk2:k<=1048576)(hS:Qad1 (hget h) (N+7) (N+9) (N+2000012) (N+10) s)(hnx:N+2000013<=nx)
 (hgo: ∀HH:Qan,(∀m,m<N+7\/N+2000013<=m->hget HH m=hget h m)->go ((⟨tm,HH,nx⟩:Qad).put dst (.im (.int .i64 (syK (s,k)+3*s.Seed.Tiles.length))))):
 mkSy.row [.agg [.own (N+7),.own (N+9),.own (N+2000012),.im (.int .i64 s.Temperature)],.im (.int .i64 k)] (hget h) nx (kont go ⟨tm,h,nx⟩ dst):=by
 have ht:=hB.t;have hn:=Qad0 s.Set.Tiles;have hnt:nT s.Set.Tiles=s.Set.Tiles.length:=by simp only[nT];omega
 obtain⟨τ,hτ⟩: ∃τ:Nat->Nat,τ=fun j=>if j=2000000 then N+2000012 else if j=0 then N+7 else N+8+j:=⟨_,rfl⟩
 have t0:τ 0=N+7:=by rw[hτ];rfl
 have t1:τ 1=N+9:=by rw[hτ];rfl
 have t2: ∀j,j<1048576->τ (2+j)=N+10+j:=fun j hj=>by rw[hτ];simp only;rw[Zai (by omega),Zai (by omega)];omega
 have tp:τ 2000000=N+2000012:=by rw[hτ];exact Zaq rfl
 have hσ: ∀j,j<2000001->sgx τ 2000001 nx j=τ j:=fun j hj=>Zaq hj
 have d0: ∀j,domB (mkSy.H0 (s,k)) j=true->j=2000000\/j<2+s.Set.Tiles.length:=fun j hj=>by
  have:=(mkSy.dom0 _ _).1 hj
  simp only[hnt] at this;exact this
 have rg: ∀j,domB (mkSy.H0 (s,k)) j=true->N+7<=τ j/\τ j<N+2000013:=fun j hj=>by
  rcases d0 j hj with rfl|hj
  .rw[tp];omega
  .rw[hτ];simp only;rw[Zai (by omega)]
   split<;>omega
 refine orow.tau (s,k) τ (hB.mkp hk hk2) (fun _ _=>rfl) (fun j hj=> ?_) (fun i j hi hj h=> ?_) (mkSy.hcl _) ⟨?_,?_⟩ (by simp[mkSy.r0,AV.nms]) (fun HH _ hH2=> ?_)
 .have h1:=d0 j hj;have h2:=rg j hj;omega
 .have h1:=d0 i hi;have h2:=d0 j hj;have tv: ∀j,(j=2000000/\τ j=N+2000012)\/(j=0/\τ j=N+7)\/(j≠2000000/\j≠0/\τ j=N+8+j):=fun j=>by
   rw[hτ];simp only;split
   .exact .inl ⟨by assumption,rfl⟩
   split
   .exact .inr (.inl ⟨by assumption,rfl⟩)
   .exact .inr (.inr ⟨by assumption,by assumption,rfl⟩)
  have v1:=tv i;have v2:=tv j;omega
 .simp only[mkSy.ca,renL,AV.ren,hσ 0 (by omega),hσ 1 (by omega),hσ 2000000 (by omega),t0,t1,tp]
 .simp only[mkSy.H0,mkTS.H0,syH,Qer,hσ 0 (by omega),hσ 1 (by omega),hσ 2000000 (by omega),t0,t1,tp,AObj.ren];refine⟨hS.p,hS.g,?_,Qadx fun i hi=> ?_⟩
  .rw[hS.t];congr 3;simp only[tlB,tlMR,Zcq,hnt];refine Zbu fun i hi=> ?_
   have hi:=Zar.1 hi;simp only[Function.comp,tlM,Zdh,Zbz,tlA,renL,AV.ren];rw[hσ _ (by omega),t2 i (by omega)]
  .rw[hnt] at hi;rw[hσ _ (by omega),t2 i (by omega),hS.f i hi];rfl
 exact hgo HH fun m hm=>hH2 m fun j hj=>by have:=rg j hj;omega
theorem mkOC.d0(a:List Opt×Int)(j:Nat)(hj:domB (mkOC.H0 a) j=true):j=0:=by
 simp only[domB,mkOC.H0,hget] at hj;by_cases h:j=0
 .exact h
 .rw[Qao _ _ (fun q=>h q.symm)] at hj;cases hj
theorem Qagm{nx o:Nat}{tm:List (Nat×AV)}{h:Qan}{dst:Option Nat}{go:Qad->Prop}{l:List Opt}{k:Int}(hk:0<=k)(hk2:k+3*l.length<=1099511627776)(hS:hget h o=some (true,.arr 82 3 (l.map Opt.c)))(hnx:o<nx)
 (hgo: ∀HH:Qan,(∀j e,hget (mkOC.H1 (l,k)) j=some e->hget HH o=some (e.1,e.2.ren (sgx (fun _=>o) 1 nx)))->(∀m,m≠o->hget HH m=hget h m)->go ((⟨tm,HH,nx⟩:Qad).put dst (.im (.int .i64 (k+3*l.length))))):
 mkOC.row [.own o,.im (.int .i64 k)] (hget h) nx (kont go ⟨tm,h,nx⟩ dst):=by
 refine orow.tau (l,k) (fun _=>o) ⟨hk,hk2⟩ (fun j hj=>by rw[mkOC.d0 _ j hj];rfl) (fun j hj=>⟨by rw[mkOC.d0 _ j hj];omega,hnx⟩) (fun i j hi hj _=>by rw[mkOC.d0 _ i hi,mkOC.d0 _ j hj]) (fun p hp=> ?_) ⟨rfl,hS,trivial⟩ (by simp[AV.nms]) (fun HH hH1 hH2=>hgo HH hH1 fun m hm=>hH2 m fun j hj h=>hm h.symm);simp only[mkOC.H1,Zao] at hp;subst hp;exact⟨rfl,fun m hm=>by simp[AObj.nms] at hm⟩
theorem imP_app(π:List (Nat×Option Nat)): ∀a b:Qan,imP π (a++b)=imP π a++imP π b
 |[],_=>rfl
 |(n,_)::r,b=>by simp only[Zat,imP,imP_app π r b]
theorem Qagg: ∀a b:List (Option Nat),nodS a=true->nodS b=true->(∀m,some m∈a->some m∉b)->nodS (a++b)=true
 |[],_,_,h,_=>h
 |none::r,b,h1,h2,h3=>by
  simp only[Zat,nodS] at h1⊢;exact Qagg r b h1 h2 fun m hm=>h3 m (Zap _ hm)
 |some x::r,b,h1,h2,h3=>by
  simp only[Zat,nodS,Zaf,ZbZ,List.contains_eq_mem,Zan,Zbj] at h1⊢;refine⟨fun h=> ?_,Qagg r b h1.2 h2 fun m hm=>h3 m (Zap _ hm)⟩;rcases h with h|h
  .exact h1.1 h
  .exact h3 x (Zas ..) h
theorem Qaf7{lo:Nat}{π:List (Nat×Option Nat)}{s:Qad}{tm:List (Nat×AV)}{A:Qan}{b n nx:Nat}{f:Nat->Ent}(g:Nat->Nat)(hge:geP lo π)(hA:nodS (imP π A)=true)(hpm: ∀i,i<n->pm π (b+i)=some (g i))(hg: ∀i j,i<n->j<n->g i=g j->i=j)
 (hd: ∀m,some m∈imP π A-> ∀i,i<n->g i≠m)(hT:Qpt π s tm)(hHA:Qgb π s A)(hE: ∀i,i<n->entN s π (f i).1 (f i).2 (some (g i))):subP lo π s ⟨tm,A++famH b n f,nx⟩:=by
 have e:imP π (famH b n f)=(List.range n).map fun i=>pm π (b+i):=by
  rw[Qi7,Qe0,Zcq];rfl
 refine⟨hge,?_,hT,?_⟩
 .simp only;rw[imP_app,e];refine Qagg _ _ hA (Ql1 _ _ List.nodup_range fun x hx y hy m h1 h2=> ?_) fun m hm h=> ?_
  .have hx:=Zar.1 hx;have hy:=Zar.1 hy;rw[hpm x hx] at h1;rw[hpm y hy] at h2;exact hg x y hx hy (Zaa (h1.trans h2.symm))
  .obtain⟨i,hi,h⟩:=Zay.1 h;have hi:=Zar.1 hi;rw[hpm i hi] at h;exact hd m hm i hi (Zaa h)
 .simp only;rw[Qns];exact⟨hHA,(Qgn _ _ _ _ _).2 fun i hi=>by rw[hpm i hi];exact hE i hi⟩
theorem Qagc{N b n:Nat}{f:Nat->Ent}{tm:List (Nat×AV)}{A:Qan}(ht:belT N tm=true)(hA:belH N A=true)(hk:Qam N A=true)(hf: ∀i,belH N [(b+i,f i)]=true)(h:b+n<=N):Qad.good ⟨tm,A++famH b n f,N⟩=true:=by
 simp only[Qad.good,Qk6,Qmd,ht,hA,hk,Zbe,Zaf];exact⟨Qi1 _ _ _ hf _,Qd8 _ _ _ _ h⟩
theorem Qage{b n k:Nat}{f:Nat->Ent}(h:k<b\/b+n<=k):hdel (famH b n f) [k]=famH b n f:=Qadi _ _ _ _ fun x hx=>by rw[Zao] at hx;subst hx;exact h
mutual
theorem fzA_nil(H:Qan): ∀x:AV,x.fzA [] H=x
 | .own n=>rfl
 | .agg cs=>by simp only[AV.fzA,Qagd H cs]
 | .any=>rfl
 | .im d=>rfl
 | .tup cs=>rfl
 | .ptr o p=>rfl
 | .eptr o i p=>rfl
 | .mp o=>rfl
 | .ch o=>rfl
 | .it o=>rfl
 | .osl o a n=>rfl
 | .clo f a c=>rfl
theorem Qagd(H:Qan): ∀xs:List AV,fzAL [] H xs=xs
 |[]=>rfl
 |x::r=>by simp only[fzAL,fzA_nil H x,Qagd H r]
end
theorem Qagw(H:Qan): ∀xs:List (List AV),fzAR [] H xs=xs
 |[]=>rfl
 |x::r=>by simp only[fzAR,Qagd H x,Qagw H r]
theorem Qagj(H:Qan): ∀X:Qan,fzAH [] H X=X
 |[]=>rfl
 |(n,(mu,e))::r=>by
  have:e.fzA [] H=e:=by cases e<;>simp only[AObj.fzA,Qagd,Qagw]
  simp only[fzAH,this,Qagj H r,ZcA,ZcD,ZaW]
structure NnAt(h:Nat->Option Ent)(o b:Nat)(M:List (List Int)):Prop where
 r:h o=some (true,.arrA 51 1 (Qch b M.length))
 f: ∀i,i<M.length->h (b+i)=some (true,.arr 2 1 ((M[i]?.getD []).map intC))
theorem NnAt.mono{h h':Nat->Option Ent}{o b:Nat}{M:List (List Int)}(hs:NnAt h o b M)(hh: ∀m,(m=o\/(b<=m/\m<b+M.length))->h' m=h m):NnAt h' o b M:=
 ⟨by rw[hh o (.inl rfl)];exact hs.r,fun i hi=>by rw[hh _ (.inr ⟨by omega,by omega⟩)];exact hs.f i hi⟩
theorem NnAt.pk{h:Nat->Option Ent}{o b:Nat}{M:List (List Int)}(hs:NnAt h o b M):pkF h (.own o)=some (.val (.sl false 1 (M.map Qcd))):=by
 have e:mapO (mapO (bk h 8)) (Qch b M.length)=some (M.map Qcd):=by
  have e2:M.map Qcd=(List.range M.length).map fun i=>Qcd (M[i]?.getD []):=by
   apply ZbU;intro i;rw[ZaG,ZaG];by_cases hi:i<M.length
   .rw[Zbc hi,Zac hi];simp[hi]
   .rw[ZaV (by omega),ZaV (by simp;omega)];rfl
  rw[e2];refine Qnl _ fun i hi=> ?_
  have hi:=Zar.1 hi;simp only[mapO,bk,hs.f i hi,Qwz,Qcd]
 simp only[pkF,bk,hs.r,Qwz,e,ZaM,pkFV]
def nxF(p:Int->Bool):List Int->Int
 |[]=> -1
 |x::r=>if p x=true then x else nxF p r
theorem Qag5(p:Int->Bool): ∀l:List Int,(nxF p l= -1/\ ∀x∈l,p x=false)\/(nxF p l∈l/\p (nxF p l)=true)
 |[]=> .inl ⟨rfl,by simp⟩
 |x::r=>by
  simp only[nxF];by_cases c:p x=true
  .rw[Zaq c];exact .inr ⟨Zas ..,c⟩
  .rw[Zai c];rcases Qag5 p r with ⟨h1,h2⟩|⟨h1,h2⟩
   .exact .inl ⟨h1,fun y hy=>by
     rcases Zau.1 hy with rfl|hy
     .simpa using c
     .exact h2 y hy⟩
   .exact .inr ⟨Zap _ h1,h2⟩
def isB(lv:List Int)(a:Nat)(k:Int):Bool:=decide ((lv[k.toNat]?).getD 0=(lv[a]?).getD 0 - 1)
def nxC(nd:List (List Int))(lv:List Int)(a:Nat):Int:=nxF (isB lv a) ((nd[a]?).getD [])
theorem nxC_b{nd:List (List Int)}(h:Qag3 nd)(lv:List Int){a:Nat}(ha:a<nd.length): -1<=nxC nd lv a/\nxC nd lv a<(a:Int):=by
 obtain⟨own,ho⟩: ∃own,nd[a]? =some own:=⟨_,Zac ha⟩;simp only[nxC,ho,Zad];rcases Qag5 (isB lv a) own with ⟨h1,_⟩|⟨h1,_⟩
 .omega
 .have:=h.2 a own ho _ h1
  omega
theorem Qag1(nd:List (List Int)): ∀n i,i<n->(levK nd n)[i]? =some (lvT (levK nd i) ((nd[i]?).getD []) ((nd[i]?).getD []).length+1)
 |0,i,h=>by omega
 |n+1,i,h=>by
  simp only[levK];by_cases hi:i<n
  .rw[ZaL (by rw[Qadd];exact hi)];exact Qag1 nd n i hi
  .obtain rfl:i=n:=by omega
   rw[ZaN (by rw[Qadd];omega),Qadd];simp
theorem levK_lo(nd:List (List Int)){n i k:Nat}(hk:k<i)(hi:i<=n):(levK nd n)[k]? =(levK nd i)[k]? :=by
 rw[Qag1 nd n k (by omega),Qag1 nd i k hk]
theorem lvT_at(out own:List Int): ∀j,j<=own.length->(∀t,t<j->(out[((own[t]?).getD 0).toNat]?).getD 0<=lvT out own j)/\(lvT out own j=0\/ ∃t,t<j/\(out[((own[t]?).getD 0).toNat]?).getD 0=lvT out own j)
 |0,_=>⟨fun t h=>by omega,.inl rfl⟩
 |j+1,h=>by
  obtain⟨h1,h2⟩:=lvT_at out own j (by omega);simp only[lvT];refine⟨fun t ht=> ?_,?_⟩
  .by_cases c:t=j
   .subst c;omega
   .have:=h1 t (by omega);omega
  .by_cases c:lvT out own j<=(out[((own[j]?).getD 0).toNat]?).getD 0
   .exact .inr ⟨j,by omega,by omega⟩
   .rcases h2 with h2|⟨t,h2,h3⟩
    .exact .inl (by omega)
    .exact .inr ⟨t,by omega,by omega⟩
theorem lev_step{nd:List (List Int)}(h:Qag3 nd){a:Nat}(ha:a<nd.length):(1<((levK nd nd.length)[a]?).getD 0->0<=nxC nd (levK nd nd.length) a)/\(((levK nd nd.length)[a]?).getD 0<=1->nxC nd (levK nd nd.length) a= -1):=by
 obtain⟨own,ho⟩: ∃own,nd[a]? =some own:=⟨_,Zac ha⟩;have hin:=h.2 a own ho;have e:=Qag1 nd nd.length a ha;simp only[ho,Zad] at e;obtain⟨q1,q2⟩:=lvT_at (levK nd a) own own.length (Zam _);have ev: ∀t,t<own.length-> ∃x,own[t]? =some x/\0<=x/\x<(a:Int)/\((levK nd nd.length)[x.toNat]?).getD 0=((levK nd a)[x.toNat]?).getD 0:=fun t ht=>by
  have hx:own[t]? =some own[t]:=Zac ht
  have:=hin _ (Zae hx)
  exact⟨_,hx,this.1,this.2,by rw[levK_lo nd (show own[t].toNat<a by omega) (by omega)]⟩
 simp only[nxC,ho,Zad,e];rcases Qag5 (isB (levK nd nd.length) a) own with ⟨h1,h2⟩|⟨h1,h2⟩
 .refine⟨fun c=> ?_,fun _=>h1⟩;exfalso;rcases q2 with q2|⟨t,ht,q2⟩
  .omega
  .obtain⟨x,hx,hx0,hxa,hxe⟩:=ev t ht
   have:=h2 x (Zae hx)
   simp only[isB,e,Zad,Zbj] at this;rw[hx,Zad] at q2;apply this;rw[hxe,q2];omega
 .have hn:=hin _ h1;refine⟨fun _=>hn.1,fun c=> ?_⟩;exfalso;simp only[isB,e,Zad,Zav] at h2;have hb:=Qafw nd a;have e2:=Qag1 nd a (nxF (isB (levK nd nd.length) a) own).toNat (by omega);rw[levK_lo nd (show (nxF (isB (levK nd nd.length) a) own).toNat<a by omega) (by omega),e2,Zad] at h2
  have:=Qaig (out:=levK nd (nxF (isB (levK nd nd.length) a) own).toNat) (own:=(nd[(nxF (isB (levK nd nd.length) a) own).toNat]?).getD []) (Qafw nd _) (by omega) ((nd[(nxF (isB (levK nd nd.length) a) own).toNat]?).getD []).length
  omega
def Qahr(x:List Opt):List D:=[.sl false 3 (x.map Opt.c)]
def Qah0:List D->Option (List Opt)
 |[.sl _ _ rows]=>decR Opt.d rows
 |_=>none
theorem Qahx: ∀ds x,Qah0 ds=some x->LeS ds (Qahr x):=by
 intro ds x h;unfold Qah0 at h;split at h
 .exact⟨Qbf (Qa2 Opt.d_le _ _ h) (by simp[Opt.c]),trivial⟩
 .cases h
theorem soptD_c(x:List Opt):Qah0 (Qahr x)=some x:=Opt.d_R x
theorem Qah5(l:List (List Opt)):decR Qah0 (l.map Qahr)=some l:=Qb4 soptD_c l
def optZ:Opt:=⟨⟨0,0⟩,0⟩
def filt(l:List Opt)(lv:List Int)(q:Int):Nat->List Opt
 |0=>[]
 |i+1=>filt l lv q i++if (lv[i]?).getD 0=q then [(l[i]?).getD optZ] else []
def mxL(lv:List Int):Nat->Int
 |0=>0
 |i+1=>max (mxL lv i) ((lv[i]?).getD 0)
def imN(l:List Opt)(lv:List Int)(i:Nat):List (List Opt):=(List.range (mxL lv i).toNat).map fun (q:Nat)=>filt l lv ((q:Int)+1) i
theorem mxL_b(lv:List Int): ∀i,0<=mxL lv i
 |0=>Zcp _
 |i+1=>by have:=mxL_b lv i;simp only[mxL];omega
theorem Qah4(lv:List Int): ∀i,(∀j,j<i->(lv[j]?).getD 0<=mxL lv i)/\(mxL lv i=0\/ ∃j,j<i/\(lv[j]?).getD 0=mxL lv i)
 |0=>⟨fun j h=>by omega,.inl rfl⟩
 |i+1=>by
  obtain⟨h1,h2⟩:=Qah4 lv i;simp only[mxL];refine⟨fun j hj=> ?_,?_⟩
  .by_cases c:j=i
   .subst c;omega
   .have:=h1 j (by omega);omega
  .by_cases c:mxL lv i<=(lv[i]?).getD 0
   .exact .inr ⟨i,by omega,by omega⟩
   .rcases h2 with h2|⟨j,h2,h3⟩
    .exact .inl (by omega)
    .exact .inr ⟨j,by omega,by omega⟩
theorem filt_ne{l:List Opt}{lv:List Int}{q:Int}: ∀n j,j<n->(lv[j]?).getD 0=q->filt l lv q n≠[]
 |0,j,h,_=>by omega
 |n+1,j,h,hq=>by
  simp only[filt];by_cases c:j=n
  .subst c;rw[Zaq hq];simp
  .have:=filt_ne (l:=l) n j (by omega) hq
   intro h2;exact this (Zew.1 h2).1
theorem Qah3{l:List Opt}{lv:List Int}{q:Int}: ∀n,(∀j,j<n->(lv[j]?).getD 0≠q)->filt l lv q n=[]
 |0,_=>rfl
 |n+1,h=>by
  simp only[filt];rw[Qah3 n fun j hj=>h j (by omega),Zai (h n (by omega))];rfl
theorem Qahy(l:List Opt)(lv:List Int)(q:Int): ∀n,(filt l lv q n).length<=n
 |0=>by simp[filt]
 |n+1=>by
  have:=Qahy l lv q n
  simp only[filt,ZaH]
  split<;>simp<;>omega
theorem Qaia{nd:List (List Int)}(h:Qag3 nd): ∀(n i:Nat),i<n->i<nd.length-> ∀q:Int,1<=q->q<=((levK nd nd.length)[i]?).getD 0-> ∃j,j<=i/\((levK nd nd.length)[j]?).getD 0=q
 |0,i,hi,_,_,_,_=>by omega
 |n+1,i,hi,hil,q,h1,h2=>by
  by_cases c:((levK nd nd.length)[i]?).getD 0=q
  .exact⟨i,Zam _,c⟩
  .have hs:=(lev_step h hil).1 (by omega);have hb:=nxC_b h (levK nd nd.length) hil;obtain⟨own,ho⟩: ∃own,nd[i]? =some own:=⟨_,Zac hil⟩;have hp:isB (levK nd nd.length) i (nxC nd (levK nd nd.length) i)=true:=by
    simp only[nxC,ho,Zad] at hs⊢;rcases Qag5 (isB (levK nd nd.length) i) own with ⟨e,_⟩|⟨_,e⟩
    .omega
    .exact e
   simp only[isB,Zav] at hp;obtain⟨j,hj,hq⟩:=Qaia h n (nxC nd (levK nd nd.length) i).toNat (by omega) (by omega) q h1 (by omega);exact⟨j,by omega,hq⟩
theorem Qah6{nd:List (List Int)}(h:Qag3 nd){l:List Opt}(hl:l.length=nd.length):mxL (levK nd nd.length) l.length<=nd.length/\(∀q:Nat,q<(mxL (levK nd nd.length) l.length).toNat->filt l (levK nd nd.length) ((q:Int)+1) l.length≠[])/\
 filt l (levK nd nd.length) (((mxL (levK nd nd.length) l.length).toNat:Int)+1) l.length=[]:=by
 obtain⟨h1,h2⟩:=Qah4 (levK nd nd.length) l.length;have hb:=mxL_b (levK nd nd.length) l.length;refine⟨?_,fun q hq=> ?_,Qah3 _ fun j hj=> ?_⟩
 .rcases h2 with h2|⟨j,hj,h2⟩
  .omega
  .rw[<-h2];have hjl:j<(levK nd nd.length).length:=by rw[Qadd];omega
   have hx:(levK nd nd.length)[j]? =some (levK nd nd.length)[j]:=Zac hjl
   have:=Qafw nd nd.length _ (Zae hx)
   rw[hx,Zad];omega
 .rcases h2 with h2|⟨j,hj,h2⟩
  .omega
  .obtain⟨i,hi,he⟩:=Qaia h (j+1) j (by omega) (by omega) ((q:Int)+1) (by omega) (by omega);exact filt_ne _ i (by omega) he
 .have:=h1 j hj
  omega
def Qahs(s:Qar)(l:List Opt):List (List Opt)×Int:=if (seqS s l).2.2≠0 then ([],(seqS s l).2.2) else (imN l (levK (Qadm s l) l.length) l.length,0)
def layS_.ar:List PK->Option (Qar×(List Opt)):=a2 (kR Qar.d) (kS Opt.d)
def layS_.ae(a:Qar×(List Opt)):List PK:=[.val (.agg (Qar.c a.1)),.val (.sl false 3 (a.2.map Opt.c))]
def layS_.fv(a:Qar×(List Opt)):(List (List Opt))×Int:=(Qahs) (a.1) (a.2)
def layS_.row:Row:=vrow layS_.ar (fun a=>True) (fun a=>(fun b=>D.tup [(fun b=>D.sl false 1 (b.map Qahr)) (b.1),(D.int .i64) (b.2)]) (layS_.fv a))
def layS_.q:=vq layS_.row rfl
def Ybf:=J @layS_.ae.eq_1 (J @layS_.fv.eq_1 (J @l10Asked.q (J @l10Asked.ar.eq_1 (J @l10Asked.fv.eq_1 (J @l12Needs.q (J @l12Needs.ar.eq_1 (J @l12Needs.fv.eq_1 (J @l12Levels.q (J @l12Levels.ar.eq_1 @l12Levels.fv.eq_1)))))))))
theorem layS_.ok:Qas Tryz.prog 33 layS_.row:=by
 refine Qaj Qaq (tC l10Asked.ok (tC l12Needs.ok (tC l12Levels.ok tN))) Tryz.func33 rfl (by kernel_rfl) (by kernel_rfl) (ar:=layS_.ar) (ae:=layS_.ae) (Qaca (Qab8 Qar.d_le) (Qacb 3 Opt.d_le (fun _=>rfl))) (n:=2) (fun _=>rfl) (by decide) (rc:=(Qfa (vSl Qah0) (vInt))) (re:=(fun b=>D.tup [(fun b=>D.sl false 1 (b.map Qahr)) (b.1),(D.int .i64) (b.2)])) (Qbz (Qe8 Qahx (fun _=>rfl)) (Qa3)) (f:=layS_.fv) ?_;intro a hpre;simp only[Tryz.f33,Option.getD];simp (maxSteps:=10^7) (disch:=omega) only[ZZ,simprocAttr,rch,Ybf];obtain⟨s,l⟩:=a;simp only at hpre⊢;by_cases c0:(seqS s l).2.2=0
 case neg=>
  rw[Zaq c0];simp only[Qahs];rw[Zaq c0]
 rw[Zai (fun h=>h c0)];obtain⟨_,hp,_⟩:=Qafm c0;have hlen:(Qadm s l).length=l.length:=Qadb ..;have hno:=Qaeu (s:=s) hp.2.2.2.2.2;refine⟨hp,hno,?_⟩;have eR:Qahs s l=(imN l (levK (Qadm s l) (Qadm s l).length) l.length,0):=by
  simp only[Qahs];rw[Zai (fun h=>h c0),hlen]
 rw[eR];obtain⟨b1,b2,b3⟩:=Qah6 hno hlen.symm;obtain⟨lv,hlv⟩: ∃lv,lv=levK (Qadm s l) (Qadm s l).length:=⟨_,rfl⟩;have hll:lv.length=l.length:=by rw[hlv,Qadd,hlen]
 have hl5:=hp.2.2.2.2.2;rw[<-hlv] at b1 b2 b3;simp only[<-hlv];obtain⟨m,hm⟩: ∃m,m=(mxL lv l.length).toNat:=⟨_,rfl⟩;rw[<-hm] at b2 b3;have hmb:m<=500:=by omega
 have hR:imN l lv l.length=(List.range m).map fun (t:Nat)=>filt l lv ((t:Int)+1) l.length:=by rw[hm];rfl
 rw[hR];refine Qay.frr ⟨{a:Nat//a<=m},fun a=>⟨[(9,.im (.int .i64 ((a.1:Int)+1))),(8,.own 3),(7,.im (.sl false 1 (lv.map intC))),(1,.im (.sl false 3 (l.map Opt.c)))],[(3,(true,.arrA 46 1 (imR (((List.range a.1).map fun (t:Nat)=>filt l lv ((t:Int)+1) l.length).map Qahr))))],4⟩,fun a=>m - a.1,fun a=>⟨by simp[Qad.good,belT,belH,Qam,AV.bel,belL,Qxu],by simp⟩,⟨⟨0,by omega⟩,[],[(3,some 2)],?_⟩,fun a=> ?_⟩
 .simp only[subP];simp (maxSteps:=10^7) (disch:=omega) only[ZZ,simprocAttr,rch,Ybf,Zah,Zag,Zdf,ZaQ,Qafa]
  try simp
 obtain⟨a,ha⟩:=a;simp (maxSteps:=10^7) (disch:=omega) only[ZZ,simprocAttr,rch,Ybf,sub,Qal];refine Qay.ren ⟨{j:Nat//j<=l.length},fun j=>⟨[(11,.im (.int .i64 j.1)),(10,.own 6),(9,.im (.int .i64 ((a:Int)+1))),(8,.own 3),(7,.im (.sl false 1 (lv.map intC))),(1,.im (.sl false 3 (l.map Opt.c)))],[(6,(true,.arr 82 3 ((filt l lv ((a:Int)+1) j.1).map Opt.c))),(3,(true,.arrA 46 1 (imR (((List.range a).map fun (t:Nat)=>filt l lv ((t:Int)+1) l.length).map Qahr))))],7⟩,fun j=>l.length - j.1,fun j=>⟨by simp[Qad.good,belT,belH,Qam,AV.bel,belL,Qxu],by simp⟩,⟨⟨0,by simp⟩,[(6,some 4)],?_⟩,fun j=> ?_⟩
 .simp only[subP];simp (maxSteps:=10^7) (disch:=omega) only[ZZ,simprocAttr,rch,Ybf,Zah,Zag,filt,ZaQ,Qsg]
  try simp
 obtain⟨j,hj1⟩:=j;have hfl:=Qahy l lv ((a:Int)+1) j;simp (maxSteps:=10^7) (disch:=omega) only[ZZ,simprocAttr,rch,Ybf,sub,Qal];intro _;refine⟨fun hj=>⟨by omega,fun x hx=>⟨fun c1=>⟨hj,fun o ho=>⟨by simp[OneR,allD,D.one],by omega,⟨j+1,by omega⟩,[(6,some 8)],by simp only;omega,?_⟩⟩,fun c1=>⟨⟨j+1,by omega⟩,[(6,some 6)],by simp only;omega,?_⟩⟩⟩,fun hj=> ?_⟩
 .simp only[subP];simp (maxSteps:=10^7) (disch:=omega) only[ZZ,simprocAttr,rch,Ybf,Zah,Zag,Qsg];refine⟨by rw[Qak (by omega) (by omega)];omega,?_⟩;simp only[filt,hx,ho,Zad,Zaq c1,ZaZ,Zal,ZaQ,Opt.c]
  try simp
 .simp only[subP];simp (maxSteps:=10^7) (disch:=omega) only[ZZ,simprocAttr,rch,Ybf,Zah,Zag,Qsg];refine⟨by rw[Qak (by omega) (by omega)];omega,?_⟩;simp only[filt,hx,Zad,Zai c1,ZaK]
  try simp
 .have hjl:j=l.length:=by omega
  subst hjl;intro _;obtain⟨Z,hZ⟩: ∃Z,Z=(List.range a).map fun (t:Nat)=>filt l lv ((t:Int)+1) l.length:=⟨_,rfl⟩
  have hZl:Z.length=a:=by rw[hZ];simp
  rw[<-hZ];refine⟨fun c1=> ?_,fun c1=> ?_⟩
  .have ham:a=m:=by
    by_cases h:a<m
    .have:=b2 a h
     have h0:(filt l lv ((a:Int)+1) l.length).length=0:=by omega
     exact absurd (ZbV.1 h0) this
    .omega
   subst ham;rw[<-hZ];simp (maxSteps:=10^7) (disch:=omega) only[ZZ,simprocAttr,rch,Ybf,Qae4,Qah5]
   try trivial
  .have ham:a<m:=by
    by_cases h:a=m
    .subst h;rw[b3] at c1;simp at c1
    .omega
   refine⟨by simp[belL,AV.bel],by simp[OneR,Qhz,AV.one],by rw[Zcm];omega,by rw[ZcE,Qaeq];simp[belL,AV.bel],⟨a+1,by omega⟩,[6],[(3,some 8)],by simp only;omega,?_⟩;have e1:((List.range (a+1)).map fun (t:Nat)=>filt l lv ((t:Int)+1) l.length)=Z++[filt l lv ((a:Int)+1) l.length]:=by rw[ZcZ,ZaZ,<-hZ];rfl
   simp only[subP];simp (maxSteps:=10^7) (disch:=omega) only[ZZ,simprocAttr,rch,Ybf,Zah,Zag,Qzl,Qzb,e1,ZaZ,Zal,ZaQ];rw[Qak (by omega) (by omega)];refine⟨by omega,?_⟩
   have:=Qzo [(3,some 8)] (Z.map Qahr++[[D.sl false 3 ((filt l lv ((a:Int)+1) l.length).map Opt.c)]])
   simp only[imR,ZaZ,Zal,ZaQ] at this;exact this
def eqOOF.ar:List PK->Option ((List (List Opt))×(List (List Opt))):=a2 (kS Qah0) (kS Qah0)
def eqOOF.ae(a:(List (List Opt))×(List (List Opt))):List PK:=[.val (.sl false 1 (a.1.map Qahr)),.val (.sl false 1 (a.2.map Qahr))]
def eqOOF.fv(a:(List (List Opt))×(List (List Opt))):Bool:=(fun a b=>decide (a=b)) (a.1) (a.2)
def eqOOF.row:Row:=Qfi eqOOF.ar (fun a=>True) (fun a=>(D.bool) (eqOOF.fv a))
def Ybg:=J @eqOOF.ae.eq_1 (J @eqOOF.fv.eq_1 (J @eqOptionS.q (J @eqOptionS.ar.eq_1 @eqOptionS.fv.eq_1)))
theorem eqOOF.ok:Qas Tryz.prog 35 eqOOF.row:=by
 refine Qbn Qaq (tC eqOptionS.ok tN) Tryz.func35 rfl (by kernel_rfl) (by kernel_rfl) (ar:=eqOOF.ar) (ae:=eqOOF.ae) (Qaca (Qacb 1 Qahx (fun _=>rfl)) (Qacb 1 Qahx (fun _=>rfl))) (n:=2) (fun _=>rfl) (by decide) (rc:=(Qa8)) (re:=(D.bool)) (Qat) (f:=eqOOF.fv) ?_;intro a hpre;simp only[Tryz.f35,Option.getD];simp (maxSteps:=10^7) (disch:=omega) only[ZZ,simprocAttr,rch,Ybg,ORC,D.sc,D.scs,scL,decD];intro h1 h2;simp only[Qal];refine⟨fun hl=> ?_,fun hl=> ?_⟩
 .have:a.1≠a.2:=fun h=>hl (by rw[h])
  simp[this]
 have hl:a.1.length=a.2.length:=by omega
 refine Qay.old ⟨{k:Nat//k<=a.1.length/\a.1.take k=a.2.take k},fun k=>⟨[(5,.im (.int .i64 k.1)),(4,.im (.bool false)),(0,.im (.sl false 1 (a.1.map Qahr))),(1,.im (.sl false 1 (a.2.map Qahr)))],[],0⟩,fun k=>a.1.length - k.1,fun k=>⟨by simp[Qad.good,belT,belH,Qam,AV.bel,belL],Zam _⟩,⟨⟨0,by simp⟩,by simp (maxSteps:=10^7) (disch:=omega) only[ZZ,simprocAttr,rch,Ybg,ORC,D.sc,D.scs,scL,decD,sub]⟩,fun k=> ?_⟩;obtain⟨k,hk1,hk2⟩:=k;simp (maxSteps:=10^7) (disch:=omega) only[ZZ,simprocAttr,rch,Ybg,ORC,D.sc,D.scs,scL,decD,sub,Qal,Qahr,Opt.d_R];intro _;refine⟨fun hk=>⟨hk,fun x hx=>⟨by omega,fun y hy=> ?_⟩⟩,fun hk=> ?_⟩
 .obtain⟨g1,g2⟩:=Qew hl hk1 hk2 hx hy;exact⟨fun h=>by simp[g2 (show x≠y from h)],fun h=>Qb6 hk h1 ⟨by omega,g1 (show x=y from ZaY.1 h)⟩⟩
 .rw[ZaA (by omega),ZaA (by omega)] at hk2;simp[hk2]
theorem wrE_len{A:Type}(f:Nat->A)(n:Nat):(wrE f n).length=n:=by simp[wrE]
def Qahw(l:List Opt)(k:Int):Int:=if l=wrE (oF k) l.length then k+3*l.length else -1
theorem heldO_mk(k:Int)(n:Nat):Qahw (wrE (oF k) n) k=k+3*n:=by
 simp only[Qahw,wrE_len,Zbf]
theorem wrE_snoc{A:Type}(f:Nat->A)(n:Nat):wrE f (n+1)=wrE f n++[f n]:=by simp[wrE,ZcZ]
theorem wrE_get{A:Type}{f:Nat->A}{n i:Nat}(h:i<n):(wrE f n)[i]? =some (f i):=by simp only[wrE,ZaG];rw[Zbc h];rfl
def heldO_.ar:List PK->Option ((List Opt)×Int):=a2 (kS Opt.d) kI
def heldO_.ae(a:(List Opt)×Int):List PK:=[.val (.sl false 3 (a.1.map Opt.c)),.val (.int .i64 a.2)]
def heldO_.fv(a:(List Opt)×Int):Int:=(Qahw) (a.1) (a.2)
def heldO_.row:Row:=Qfi heldO_.ar (fun a=>0<=a.2/\a.2+3*a.1.length<=1099511627776) (fun a=>(D.int .i64) (heldO_.fv a))
def heldO_.q:=vqF heldO_.row rfl
theorem heldO_.ok:Qas Tryz.prog 74 heldO_.row:=by
 refine Qbn Qaq tN Tryz.func74 rfl (by kernel_rfl) (by kernel_rfl) (ar:=heldO_.ar) (ae:=heldO_.ae) (Qaca (Qacb 3 Opt.d_le (fun _=>rfl)) Qab9) (n:=2) (fun _=>rfl) (by decide) (rc:=(vInt)) (re:=(D.int .i64)) (Qa3) (f:=heldO_.fv) ?_;intro a hpre;simp only[Tryz.f74,Option.getD];simp (maxSteps:=10^7) (disch:=omega) only[ZZ,simprocAttr,rch,heldO_.ae,heldO_.fv,ORC,D.sc,D.scs,scL,decD];obtain⟨l,k⟩:=a;simp only at hpre⊢;obtain⟨h1,h2⟩:=hpre;refine Qay.old ⟨{i:Nat//i<=l.length/\l.take i=wrE (oF k) i},fun i=>⟨[(5,.im (.int .i64 i.1)),(4,.im (.int .i64 0)),(1,.im (.int .i64 (k+3*i.1))),(0,.im (.sl false 3 (l.map Opt.c)))],[],0⟩,fun i=>l.length - i.1,fun i=>⟨by simp[Qad.good,belT,belH,Qam,AV.bel,belL],by simp⟩,⟨⟨0,by simp[wrE]⟩,by simp (maxSteps:=10^7) (disch:=omega) only[ZZ,simprocAttr,rch,heldO_.ae,heldO_.fv,ORC,D.sc,D.scs,scL,decD,sub];simp⟩,fun i=> ?_⟩;obtain⟨i,hi1,hi2⟩:=i;simp (maxSteps:=10^7) (disch:=omega) only[ZZ,simprocAttr,rch,heldO_.ae,heldO_.fv,ORC,D.sc,D.scs,scL,decD,sub,Qal];intro _;have w1:IntKind.i64.wrap (k+3*(i:Int)+1)=k+3*(i:Int)+1\/ ¬i<l.length:=by
  by_cases c:i<l.length
  .exact .inl (Qak (by omega) (by omega))
  .exact .inr c
 refine⟨fun hi=>⟨hi,fun x hx=> ?_⟩,fun hi=> ?_⟩
 .have w1:IntKind.i64.wrap (k+3*(i:Int)+1)=k+3*(i:Int)+1:=Qak (by omega) (by omega);have w2:IntKind.i64.wrap (k+3*(i:Int)+1+1)=k+3*(i:Int)+2:=(Qak (by omega) (by omega)).trans (by omega);have w3:IntKind.i64.wrap (k+3*(i:Int)+2+1)=k+3*((i+1:Nat):Int):=(Qak (by omega) (by omega)).trans (by omega);simp only[w1,w2,w3];have hne:x≠oF k i-> -1=Qahw l k:=fun c=>by
   simp only[Qahw];rw[Zai fun h=> ?_];rw[h,wrE_get hi] at hx;exact c (Zaa hx).symm
  refine⟨fun c=>hne fun h=>c (by rw[h];rfl),fun c1=>⟨hi,fun y hy=> ?_⟩⟩;obtain rfl:x=y:=Zaa (hx.symm.trans hy);refine⟨fun c=>hne fun h=>c (by rw[h];rfl),fun c2=>⟨hi,fun y hy=> ?_⟩⟩;obtain rfl:x=y:=Zaa (hx.symm.trans hy);refine⟨fun c=>hne fun h=>c (by rw[h];rfl),fun c3=>⟨⟨i+1,by omega,?_⟩,by simp only;omega,by rw[Qak (by omega) (by omega)];simp only;omega,rfl⟩⟩;have e:x=oF k i:=by
   obtain⟨⟨u,v⟩,t⟩:=x;simp only[ZaY] at c1 c2 c3;simp only[oF,c1,c2,c3]
  rw[Qwe hx,hi2,wrE_snoc,e]
 .have hil:i=l.length:=by omega
  subst hil;rw[Zci] at hi2;simp only[Qahw];rw[Zaq hi2]
def totO(M:List (List Opt)):Nat:=(M.map List.length).sum
def Qahu:List (List Opt)->Int->Int
 |[],k=>k
 |x::r,k=>if Qahw x k<0 then -1 else Qahu r (Qahw x k)
theorem heldO_or(x:List Opt)(k:Int):Qahw x k=k+3*x.length\/Qahw x k= -1:=by
 simp only[Qahw];split
 .exact .inl rfl
 .exact .inr rfl
def heldOOS.ar:List PK->Option ((List (List Opt))×Int):=a2 (kS Qah0) kI
def heldOOS.ae(a:(List (List Opt))×Int):List PK:=[.val (.sl false 1 (a.1.map Qahr)),.val (.int .i64 a.2)]
def heldOOS.fv(a:(List (List Opt))×Int):Int:=(Qahu) (a.1) (a.2)
def heldOOS.row:Row:=Qfi heldOOS.ar (fun a=>0<=a.2/\a.2+3*totO a.1<=1099511627776) (fun a=>(D.int .i64) (heldOOS.fv a))
def Ybh:=J @heldOOS.ae.eq_1 (J @heldOOS.fv.eq_1 (J @heldO_.q (J @heldO_.ar.eq_1 @heldO_.fv.eq_1)))
theorem heldOOS.ok:Qas Tryz.prog 37 heldOOS.row:=by
 refine Qbn Qaq (tC heldO_.ok tN) Tryz.func37 rfl (by kernel_rfl) (by kernel_rfl) (ar:=heldOOS.ar) (ae:=heldOOS.ae) (Qaca (Qacb 1 Qahx (fun _=>rfl)) Qab9) (n:=2) (fun _=>rfl) (by decide) (rc:=(vInt)) (re:=(D.int .i64)) (Qa3) (f:=heldOOS.fv) ?_;intro a hpre;simp only[Tryz.f37,Option.getD];simp (maxSteps:=10^7) (disch:=omega) only[ZZ,simprocAttr,rch,Ybh,ORC,D.sc,D.scs,scL,decD];obtain⟨M,k⟩:=a;simp only at hpre⊢;obtain⟨h1,h2⟩:=hpre;refine Qay.old ⟨{i:Nat×Int//i.1<=M.length/\Qahu M k=Qahu (M.drop i.1) i.2/\0<=i.2/\i.2+3*totO (M.drop i.1)<=1099511627776},fun i=>⟨[(5,.im (.int .i64 i.1.1)),(4,.im (.int .i64 0)),(1,.im (.int .i64 i.1.2)),(0,.im (.sl false 1 (M.map Qahr)))],[],0⟩,fun i=>M.length - i.1.1,fun i=>⟨by simp[Qad.good,belT,belH,Qam,AV.bel,belL],by simp⟩,⟨⟨(0,k),by simp only[ZbJ];exact⟨ZbE _,trivial,h1,h2⟩⟩,by simp (maxSteps:=10^7) (disch:=omega) only[ZZ,simprocAttr,rch,Ybh,ORC,D.sc,D.scs,scL,decD,sub]⟩,fun i=> ?_⟩;obtain⟨⟨i,q⟩,hi1,hi2,hi3,hi4⟩:=i;simp only at hi1 hi2 hi3 hi4;simp (maxSteps:=10^7) (disch:=omega) only[ZZ,simprocAttr,rch,Ybh,ORC,D.sc,D.scs,scL,decD,sub,Qal,Qahr,Opt.d_R];intro _;refine⟨fun hi=>⟨hi,fun x hx=> ?_⟩,fun hi=> ?_⟩
 .rw[Qd3 hx] at hi2 hi4;have ht:totO (x::M.drop (i+1))=x.length+totO (M.drop (i+1)):=rfl;rw[ht] at hi4;refine⟨⟨hi3,by omega⟩,fun c=> ?_,fun c=>⟨⟨(i+1,Qahw x q),?_⟩,by simp only;omega,by rw[Qak (by omega) (by omega)];simp only;omega,rfl⟩⟩
  .rw[hi2,Qahu,Zaq c]
  .rcases heldO_or x q with e|e
   .simp only;refine⟨by omega,?_,by omega,by omega⟩;rw[hi2,Qahu,Zai c]
   .omega
 .rw[Zaz (by omega),Qahu] at hi2;exact hi2.symm
def nO(M:List (List Opt)):Nat:=min M.length 1048576
def roO(M:List (List Opt))(i:Nat):List Opt:=M[i]?.getD []
def ooK(M:List (List Opt))(k:Int):Nat->Int
 |0=>k
 |i+1=>ooK M k i+3*(roO M i).length
theorem Qah2(y:List Opt)(r:List (List Opt))(k:Int): ∀i,ooK (y::r) k (i+1)=ooK r (k+3*y.length) i
 |0=>rfl
 |i+1=>by
  rw[ooK,Qah2 y r k i,ooK];rfl
theorem ooK_tot: ∀(M:List (List Opt)) (k:Int),ooK M k M.length=k+3*totO M
 |[],k=>by simp[ooK,totO]
 |y::r,k=>by
  rw[ZaJ,Qah2,ooK_tot r];simp only[totO,Zal,Zcb];omega
theorem ooK_b(M:List (List Opt))(k:Int)(h:0<=k): ∀i j,i<=j->0<=ooK M k i/\ooK M k i<=ooK M k j:=by
 have pos: ∀i,0<=ooK M k i:=by
  intro i;induction i with
  |zero=>exact h
  |succ i ih=>simp only[ooK];omega
 intro i j hij;refine⟨pos i,?_⟩;induction j with
 |zero=>have:i=0:=by omega
        subst this;exact Zcp _
 |succ j ih=>
  by_cases c:i=j+1
  .subst c;exact Zcp _
  .have:=ih (by omega)
   simp only[ooK];omega
def mkN(M:List (List Opt))(k:Int):List (List Opt):=(List.range M.length).map fun i=>wrE (oF (ooK M k i)) (roO M i).length
theorem Qaib(y:List Opt)(r:List (List Opt))(k:Int):mkN (y::r) k=wrE (oF k) y.length::mkN r (k+3*y.length):=by
 simp only[mkN,ZaJ,List.range_succ_eq_map,Zal,Zcq];congr 1;refine Zbu fun i _=> ?_
 simp only[Function.comp,Qah2];rfl
theorem mkN_tot: ∀(M:List (List Opt)) (k:Int),totO (mkN M k)=totO M
 |[],k=>rfl
 |y::r,k=>by
  rw[Qaib]
  have:=mkN_tot r (k+3*y.length)
  simp only[totO,Zal,Zcb,wrE_len] at this⊢;omega
theorem Qah8(M:List (List Opt))(k:Int):(mkN M k).length=M.length:=by simp[mkN]
theorem Qaid: ∀(M:List (List Opt)) (k:Int),0<=k->Qahu (mkN M k) k=k+3*totO M
 |[],k,_=>by simp[mkN,Qahu,totO]
 |y::r,k,h=>by
  rw[Qaib];have e:Qahw (wrE (oF k) y.length) k=k+3*y.length:=heldO_mk k y.length;simp only[Qahu,e];rw[Zai (by omega),Qaid r _ (by omega)];simp only[totO,Zal,Zcb];omega
def ooN(M:List (List Opt))(k:Int)(i j:Nat):Ent:=(true,.arr 82 3 ((if j<i then wrE (oF (ooK M k j)) (roO M j).length else roO M j).map Opt.c))
def ooH(M:List (List Opt))(k:Int)(i:Nat):Qan:=[(0,(true,.arrA 46 1 (Qch 2 (nO M))))]++famH 2 (nO M) (ooN M k i)
def mkOO.ca(a:List (List Opt)×Int):List AV:=[.own 0,.im (.int .i64 a.2)]
def mkOO.H0(a:List (List Opt)×Int):Qan:=ooH a.1 a.2 0
def mkOO.H1(a:List (List Opt)×Int):Qan:=ooH a.1 a.2 (nO a.1)
def mkOO.r0(a:List (List Opt)×Int):AV:= .im (.int .i64 (a.2+3*totO a.1))
def mkOO.pre(a:List (List Opt)×Int):Prop:=a.1.length<=1048576/\0<=a.2/\a.2+3*totO a.1<=1099511627776
def mkOO.row:Row:=orow mkOO.ca mkOO.H0 2000000 mkOO.pre (fun _=>true) mkOO.r0 mkOO.H1 0
theorem nO_le(M:List (List Opt)):nO M<=1048576:=Zcd _ _
theorem Qahv(M:List (List Opt))(k:Int)(i j:Nat):domB (ooH M k i) j=true↔j=0\/(2<=j/\j<2+nO M):=by
 simp only[domB,ooH,Zat,ZaU,hget,Qm4];by_cases h0:j=0
 .subst h0;simp
 .rw[Qao _ _ (fun h=>h0 h.symm)];simp only[ZaF];split
  .rename_i h;simp[h]
  .rename_i h;simp[h0];omega
theorem Qah1{M:List (List Opt)}{k:Int}{i:Nat}{p:Nat×Ent}(hp:p∈ooH M k i):(p.1=0\/(2<=p.1/\p.1<2+nO M))/\ ∀m∈p.2.2.nms,2<=m/\m<2+nO M:=by
 simp only[ooH,Zat,ZaU,Zau,famH,Zay,Zar] at hp;rcases hp with rfl|⟨j,hj,rfl⟩
 .refine⟨.inl rfl,fun m hm=> ?_⟩;obtain⟨q,hq,rfl⟩:=Qu6 _ _ m hm;omega
 .exact⟨.inr ⟨by simp only;omega,by simp only;omega⟩,by simp[ooN,AObj.nms]⟩
theorem mkOO.hcl(a:List (List Opt)×Int): ∀p∈mkOO.H1 a,domB (mkOO.H0 a) p.1=true/\ ∀m∈p.2.2.nms,domB (mkOO.H0 a) m=true:=fun p hp=>
 ⟨(Qahv _ _ _ _).2 (Qah1 hp).1,fun m hm=>(Qahv _ _ _ _).2 (.inr ((Qah1 hp).2 m hm))⟩
theorem mkOO.hbel(a:List (List Opt)×Int):belL 2000000 (mkOO.ca a)=true:=by simp[mkOO.ca,belL,AV.bel]
theorem mkOO.hbH(a:List (List Opt)×Int):belH 2000000 (mkOO.H0 a)=true:=Qad4 _ fun p hp m hm=>by
 have:=(Qah1 hp).2 m hm
 have:=nO_le a.1
 omega
theorem mkOO.hkH(a:List (List Opt)×Int):Qam 2000000 (mkOO.H0 a)=true:=by
 have:=nO_le a.1
 simp only[mkOO.H0,ooH,Zat,ZaU,Qam];rw[Qd8 _ _ _ _ (by omega)];simp
theorem mkOO.hnm(a:List (List Opt)×Int):Qc2 (mkOO.H0 a) (mkOO.H0 a):=
 Qaeo fun p hp m hm=>(Qahv _ _ _ _).2 (.inr ((Qah1 hp).2 m hm))
theorem ooH_get(M:List (List Opt))(k:Int)(i j:Nat)(hj:j<nO M):hget (ooH M k i) (2+j)=some (ooN M k i j):=by
 simp only[ooH,Zat,ZaU,hget,Qao _ _ (show 0≠2+j by omega),ZaF];exact Qcy _ _ _ _ hj
theorem mkOO.ok:Qas Tryz.prog 36 mkOO.row:=by
 refine Qf1 Qaq (tC mkOC.ok tN) Tryz.func36 rfl (by kernel_rfl) (by kernel_rfl) (exB:=fun _=>false) (R:=fun a r=>r=mkOO.r0 a) (n:=2) (fun _=>rfl) (by decide)
  mkOO.hbel mkOO.hbH mkOO.hkH
  mkOO.hnm (fun a p hp=> ?_) (fun a r h=>by subst h;exact LeV.refl _) ?_
 rotate_left
 intro a hpre;simp only[Tryz.f36,Option.getD,mkOO.ca];simp (maxSteps:=10^7) (disch:=omega) only[ZZ,simprocAttr,rch,ORB,mkOO.ca];obtain⟨M,k⟩:=a;obtain⟨h1,h2,h3⟩:=hpre;simp only at h1 h2 h3;have hn:nO M=M.length:=by simp only[nO];omega
 have hK:ooK M k M.length=k+3*totO M:=ooK_tot M k;refine Qay.old ⟨{i:Nat//i<=M.length},fun i=>⟨[(5,.im (.int .i64 i.1)),(4,.im (.int .i64 0)),(0,.own 0),(1,.im (.int .i64 (ooK M k i.1)))],ooH M k i.1,2000000⟩,fun i=>M.length - i.1,fun i=>⟨Qagc (by simp[belT,AV.bel]) (by simp only[belH,ZaW];exact Qdv _ _ _ (by omega)) (by simp[Qam]) (fun j=>rfl) (by omega),by simp⟩,⟨⟨0,by simp⟩,?_⟩,fun i=> ?_⟩
 .simp only[sub];simp (maxSteps:=10^7) (disch:=omega) only[ZZ,simprocAttr,rch,ORB,mkOO.ca,sub,ooK,Qba];simp only[mkOO.H0]
  conv=>arg 2;unfold ooH
  simp only[Zat,ZaU,subH,Qafp];exact⟨rfl,fun j hj=>ooH_get M k 0 j hj⟩
 .obtain⟨i,hi1⟩:=i;have hb:=ooK_b M k h2 i M.length hi1;simp only[ooH,Zat,ZaU];simp (maxSteps:=10^7) (disch:=omega) only[ZZ,simprocAttr,rch,ORB,mkOO.ca,sub,Qal,Qbj,Qba];intro _;refine⟨fun hi=>⟨hi,hi,?_⟩,fun hi=> ?_⟩
  .rw[Qxa _ _ _ _ hi];simp (maxSteps:=10^7) (disch:=omega) only[ZZ,simprocAttr,rch,ORB,mkOO.ca,sub,Qba];have hb2:=(ooK_b M k h2 (i+1) M.length (by omega)).2;have hb3:ooK M k (i+1)=ooK M k i+3*(roO M i).length:=rfl;refine⟨by omega,?_⟩;refine Qagm (l:=roO M i) hb.1 (by omega) (show _=_ from ?_) (by omega) fun HH hH1 hH2=> ?_
   .simp only[hget,Qao _ _ (show 0≠2+i by omega),ZaF];rw[Qcy _ _ _ _ (by omega)];simp[ooN]
   have g0:hget HH 0=some (true,.arrA 46 1 (Qch 2 (nO M))):=(hH2 0 (by omega)).trans rfl;have gi:=hH1 0 _ rfl;have gj: ∀j,j<nO M->j≠i->hget HH (2+j)=some (ooN M k i j):=fun j hj hji=>by
    rw[hH2 (2+j) (by omega)];simp only[hget,Qao _ _ (show 0≠2+j by omega),ZaF];exact Qcy _ _ _ _ hj
   simp (maxSteps:=10^7) (disch:=omega) only[ZZ,simprocAttr,rch,ORB,mkOO.ca,sub,Qba,g0];refine⟨⟨i+1,by omega⟩,by simp only;omega,⟨by rw[Qak (by omega) (by omega)];simp only;omega,rfl⟩,?_⟩;rw[Qafp];intro j hj;by_cases hji:j=i
   .subst hji;rw[gi];simp[ooN,AObj.ren]
   .rw[gj j hj hji];simp only[ooN];by_cases c:j<i
    .rw[Zaq c,Zaq (by omega)]
    .rw[Zai c,Zai (by omega)]
  .have hil:i=M.length:=by omega
   subst hil;have hdm: ∀j,j<M.length->domB (mkOO.H0 (M,k)) (2+j)=true:=fun j hj=>(Qahv _ _ _ _).2 (.inr ⟨by omega,by simp only[hn];omega⟩)
   refine⟨Qaeg _ _,by simp only[mkOO.r0,hK],?_⟩;simp only[mkOO.H1,hn,ooH,Zat,ZaU,Qhk];refine⟨⟨rfl,?_⟩,Qadj _ _ _ _ _ (fun j hj=> ?_) (fun j _=>rfl)⟩
   .simp only[cvtE];rw[Quf (fun j hj=>Qagq (hdm j hj))];rfl
   .simp only[hget,Qao _ _ (show 0≠2+j by omega),ZaF];exact Qcy _ _ _ _ hj
 obtain⟨q1,_⟩:=mkOO.hcl _ p hp
 have:=(Qahv _ _ _ _).1 q1
 have:=nO_le a.1
 exact .inl ⟨by omega,rfl,q1⟩
theorem Qaht(s:Qar)(l:List Opt):(Qahs s l).1.length<=500:=by
 simp only[Qahs];split
 .simp
 .rename_i c0;obtain⟨_,hp,_⟩:=Qafm (ZaY.1 c0);have hlen:(Qadm s l).length=l.length:=Qadb ..;have hno:=Qaeu (s:=s) hp.2.2.2.2.2;obtain⟨b1,_,_⟩:=Qah6 hno hlen.symm
  have:=hp.2.2.2.2.2
  rw[hlen] at b1;simp only[imN,Zbw,Zcm];omega
def lyF(M:List (List Opt))(i:Nat):Ent:=(true,.arr 82 3 (((M[i]?).getD []).map Opt.c))
def lyH(M:List (List Opt)):Qan:=[(5,(true,.arrA 46 1 (Qch 1002 (min M.length 500))))]++famH 1002 (min M.length 500) (lyF M)
theorem Qaic(M:List (List Opt))(tm:List (Nat×AV))(N:Nat)(ht:belT N tm=true)(h:1502<=N):Qad.good ⟨tm,lyH M,N⟩=true:=by
 have hm:min M.length 500<=500:=Zcd _ _;refine Qagc ht ?_ ?_ (fun i=>rfl) (by omega)
 .simp only[belH,ZaW];exact Qdv _ _ _ (by omega)
 .simp[Qam];omega
theorem ly_mem{M:List (List Opt)}{p:Nat×Ent}(hp:p∈lyH M):0<=p.1/\p.1<0+2002/\Nat.ble 5 p.1=true/\p.2.1=true:=by
 have hm:min M.length 500<=500:=Zcd _ _;simp only[lyH,Zat,ZaU,Zau,famH,Zay,Zar] at hp;rcases hp with rfl|⟨i,hi,rfl⟩
 .exact⟨by omega,by simp only;omega,rfl,rfl⟩
 .exact⟨by omega,by simp only;omega,by simp only[Zch];omega,rfl⟩
theorem ly_ret(M:List (List Opt)):Option.map (AObj.arrA 46 1) (mapO (mapO (cvt (hget ((5,(true,AObj.arrA 46 1 (Qch 1002 (min M.length 500))))::famH 1002 (min M.length 500) (lyF M))) (kxB [] 0 2002 fun j=>decide (5<=j)) 9)) (Qch 1002 (min M.length 500)))=some (AObj.arrA 46 1 (Qch 1002 (min M.length 500)))/\
 Qhk (hget ((5,(true,AObj.arrA 46 1 (Qch 1002 (min M.length 500))))::famH 1002 (min M.length 500) (lyF M))) (cvt (hget ((5,(true,AObj.arrA 46 1 (Qch 1002 (min M.length 500))))::famH 1002 (min M.length 500) (lyF M))) (kxB [] 0 2002 fun j=>decide (5<=j)) 9) (famH 1002 (min M.length 500) (lyF M)):=by
 have hm:min M.length 500<=500:=Zcd _ _;refine⟨?_,Qadj _ _ _ _ _ (fun i hi=> ?_) (fun i _=>rfl)⟩
 .rw[Quf (fun i hi=>kxB_ge (by omega) (by omega))];rfl
 .simp only[hget,Qao _ _ (show 5≠1002+i by omega),ZaF];exact Qcy _ _ _ _ hi
def nilR:List AV:=[.im (.sl true 0 [])]
def lyR(b m k:Nat):List (List AV):=Qch b m++List.replicate (k - m) nilR
theorem Qah7(b:Nat){m k:Nat}(h:m<=k):(lyR b m k).length=k:=by simp[lyR,Qbj];omega
theorem lyR_self(b m:Nat):lyR b m m=Qch b m:=by simp[lyR]
theorem Qaie(b:Nat){m k:Nat}(h:m<=k):lyR b m k++[nilR]=lyR b m (k+1):=by
 simp only[lyR,ZbD];congr 1;rw[show k+1 - m=(k - m)+1 by omega,ZeJ]
theorem Qah9(b m k N:Nat)(h:b+m<=N):(lyR b m k).all (belL N)=true:=by
 rw[lyR,ZcE,Qdv _ _ _ h,Zbe,ZaI];intro r hr;rw[Zbp hr];rfl
theorem Qaif(b:Nat){m k i:Nat}(h:i<m):(lyR b m k)[i]? =some [.own (b+i)]:=by
 rw[lyR,ZaL (by rw[Qbj];exact h),Qo7 _ _ _ h]
theorem lyR_hi(b:Nat){m k i:Nat}(h:m<=i)(h2:i<k):(lyR b m k)[i]? =some nilR:=by
 rw[lyR,ZaN (by rw[Qbj];exact h),Qbj,Zbo,Zaq (by omega)]
theorem lyR_mt{π:List (Nat×Option Nat)}{b m k:Nat}(h: ∀i,i<m->pm π (b+i)=some (b+i)):mtR π (lyR b m k) (lyR b m k):=by
 rw[Ql2];refine⟨rfl,fun i x y hx hy=> ?_⟩;obtain rfl:x=y:=Zaa (hx.symm.trans hy);by_cases c:i<m
 .rw[Qaif b c] at hx;obtain rfl:=Zaa hx;simp only[mtL,mt,h i c,ownM,Zcc]
 .have:=(Zaj.1 hx).1
  have hk:i<k:=by
   simp only[lyR,ZaH,Qbj,Zby] at this;omega
  rw[lyR_hi b (by omega) hk] at hx;obtain rfl:=Zaa hx;simp only[nilR,mtL,mt,Zcc]
theorem Qahz(b m k q c N:Nat)(h:b+m<=N)(hc:c<N):((lyR b m k).set q [.own c]).all (belL N)=true:=by
 rw[ZaI];intro r hr;rcases ZbK hr with h1|rfl
 .exact ZaI.1 (Qah9 b m k N h) r h1
 .simp[belL,AV.bel,hc]
theorem lyR_put{π:List (Nat×Option Nat)}{b m k q c:Nat}(hq:q<k)(hm:m<=k)(h: ∀i,i<k->i≠q->i<m/\pm π (b+i)=some (b+i))(hc:pm π (b+q)=some c):mtR π (Qch b k) ((lyR b m k).set q [.own c]):=by
 rw[Ql2];refine⟨by rw[ZaX,Qah7 b hm,Qbj],fun i x y hx hy=> ?_⟩;have hi:i<k:=by have:=(Zaj.1 hx).1;rwa [Qbj] at this
 rw[Qo7 _ _ _ hi] at hx;obtain rfl:=Zaa hx;by_cases e:i=q
 .subst e;rw[Zaw (by rw[Qah7 b hm];exact hi)] at hy;obtain rfl:=Zaa hy;simp only[mtL,mt,hc,ownM,Zcc]
 .obtain⟨h1,h2⟩:=h i hi e;rw[ZaE (ZcB e),Qaif b h1] at hy;obtain rfl:=Zaa hy;simp only[mtL,mt,h2,ownM,Zcc]
def layF(l:List Opt)(lv:List Int)(i q:Nat):Ent:=(true,.arr 82 3 ((filt l lv ((q:Int)+1) i).map Opt.c))
theorem layF_ne{l:List Opt}{lv:List Int}{i q j:Nat}(h:(lv[i]?).getD 0=(q:Int)+1)(hj:j≠q):layF l lv (i+1) j=layF l lv i j:=by
 simp only[layF,filt];rw[Zai (by omega),ZaK]
theorem layF_eq{l:List Opt}{lv:List Int}{i q:Nat}{o:Opt}(h:(lv[i]?).getD 0=(q:Int)+1)(ho:l[i]? =some o):layF l lv (i+1) q=(true,.arr 82 3 ((filt l lv ((q:Int)+1) i).map Opt.c++[Opt.c o])):=by
 simp only[layF,filt];rw[Zaq h,ho,Zad,ZaZ,Zal,ZaQ]
def lyI.ca(a:Qar×List Opt):List AV:=[.im (.agg (Qar.c a.1)),.im (.sl false 3 (a.2.map Opt.c))]
def lyI.H1(a:Qar×List Opt):Qan:=lyH (Qahs a.1 a.2).1
def lyI.r0(a:Qar×List Opt):AV:= .tup [.own 5,.im (.int .i64 (Qahs a.1 a.2).2)]
def lyI.row:Row:=orow lyI.ca (fun _=>[]) 0 (fun a=>Qf6 a.1.Set) (fun _=>false) lyI.r0 lyI.H1 2002
def Ybi:=J @play_.q (J @play_.ar.eq_1 (J @play_.fv.eq_1 (J @needs_.q (J @needs_.ar.eq_1 @needs_.fv.eq_1))))
theorem lyI.ok:Qas Tryz.prog 34 lyI.row:=by
 refine Qnh Qaq (tC play_.ok (tC needs_.ok (tC levC.ok tN))) Tryz.func34 rfl (by kernel_rfl) (by kernel_rfl) (exB:=fun j=>Nat.ble 5 j) (R:=fun a r=>r=lyI.r0 a) (n:=2) (fun _=>rfl) (by decide)
  (fun a=>by simp[lyI.ca,Qar.c,belL,AV.bel]) (fun a=>by simp[lyI.ca,Qar.c,belH,belL,AV.bel]) (fun a=>by simp[lyI.ca,Qar.c,Qam])
  (fun a=>by simp[Qc2,lyI.ca,Qar.c,AObj.nms,nmsL,AV.nms,domB,hget]) (fun a p hp=> ?_) (fun a r h=>by subst h;exact LeV.refl _) ?_
 rotate_left
 intro a hpre;simp only[Tryz.f34,Option.getD,lyI.ca,Qar.c];simp (maxSteps:=10^7) (disch:=omega) only[ZZ,simprocAttr,rch,Ybi,Qc7,ORB,lyI.ca,Qar.c];obtain⟨s,l⟩:=a;simp only at hpre⊢;refine⟨hpre,?_⟩;by_cases c0:(seqS s l).2.2=0
 case neg=>
  have eP:Qae2 s l=(none,(seqS s l).2.2):=by simp only[Qae2];rw[Zaq c0]
  have eL:Qahs s l=([],(seqS s l).2.2):=by simp only[Qahs];rw[Zaq c0]
  simp only[eP];rw[Zaq c0];refine⟨[],[(5,some 2)],⟨[(4,.own 5),(5,.im (.int .i64 (seqS s l).2.2))],lyH [],2002⟩,?_,Qaic _ _ _ (by simp[belT,AV.bel]) (by omega),by simp,?_⟩
  .simp only[subP,lyH,ZbG,Nat.zero_min,famH,Qch,Zdf,ZaQ,ZaK];simp (maxSteps:=10^7) (disch:=omega) only[ZZ,simprocAttr,rch,Ybi,Qc7,ORB,lyI.ca,Qar.c,Zah,Zag,ZaQ]
   try simp
  .simp only[lyI.H1,lyI.r0,eL];simp (maxSteps:=10^7) (disch:=omega) only[ZZ,simprocAttr,rch,Ybi,Qc7,ORB,lyI.ca,Qar.c,lyH,Zat,ZaU];exact ly_ret []
 have eP:Qae2 s l=(some ⟨s,l,(seqS s l).1,insS s s.Seed l,smsS s s.Seed l⟩,0):=by
  simp only[Qae2];rw[Zai (fun h=>h c0)]
 obtain⟨_,hp,_⟩:=Qafm c0;have hlen:(Qadm s l).length=l.length:=Qadb ..;have hno:=Qaeu (s:=s) hp.2.2.2.2.2;have eL:Qahs s l=(imN l (levK (Qadm s l) (Qadm s l).length) l.length,0):=by
  simp only[Qahs];rw[Zai (fun h=>h c0),hlen]
 simp only[eP];rw[Zai (by simp)];have key: ∀x:Pld,(kP Pld.d 8 (pkI (plE (some x))))=some x:=fun x=>Pld.d_c x
 simp only[key,Zbt,decK];refine⟨⟨fun o ho=> ?_,Qadv ..,hp.2.2.2.2.2⟩,?_⟩
 .obtain⟨k,hk⟩:=Zbx.1 ho;exact (Qadk (hp.2.2.2.2.1 k o hk).1).2.1
 simp only[needs_law hp.2.2.2.2.1];obtain⟨nd,hnd⟩: ∃nd,nd=Qadm s l:=⟨_,rfl⟩;rw[<-hnd] at hno hlen eL;simp only[<-hnd];refine orow.os nd [] hno (fun j=>by simp[domB,hget]) rfl rfl ?_ ?_
 .simp (maxSteps:=10^7) (disch:=omega) only[ZZ,simprocAttr,rch,Ybi,Qc7,ORB,lyI.ca,Qar.c,levC.ca,Qer]
 obtain⟨lv,hlv⟩: ∃lv,lv=levK nd nd.length:=⟨_,rfl⟩;obtain⟨b1,b2,b3⟩:=Qah6 hno hlen.symm;rw[<-hlv] at eL b1 b2 b3;simp only[levC.H1,<-hlv];have hll:lv.length=nd.length:=by rw[hlv];exact Qadd ..
 have hn5:=hno.1;have hlb: ∀x∈lv,0<=x/\x<=500:=fun x hx=>by
  rw[hlv] at hx
  have:=Qafw nd nd.length x hx
  omega
 simp (maxSteps:=10^7) (disch:=omega) only[ZZ,simprocAttr,rch,Ybi,Qc7,ORB,lyI.ca,Qar.c,sub,ZaR,Zbm];intro _;have hmb: ∀i,mxL lv i<=500:=fun i=>by
  rcases (Qah4 lv i).2 with h|⟨j,_,h⟩
  .omega
  .rw[<-h];cases hq:lv[j]? with
   |none=>simp
   |some y=>rw[Zad];exact (hlb y (Zae hq)).2
 have hm0:=mxL_b lv;refine Qay.ren ⟨{i:Nat//i<=lv.length},fun i=>⟨[(24,.im (.int .i64 i.1)),(23,.im (.int .i64 lv.length)),(22,.own 4),(8,.own 5),(1,.im (.sl false 3 (l.map Opt.c)))],[(5,(true,.arrA 46 1 (Qch 1002 (mxL lv i.1).toNat))),(4,(true,.arr 2 1 (lv.map intC)))]++famH 1002 (mxL lv i.1).toNat (layF l lv i.1),2002⟩,fun i=>lv.length - i.1,fun i=>⟨Qagc (by simp[belT,AV.bel]) (by simp only[belH,ZaW];exact Qdv _ _ _ (by have:=hmb i.1;omega)) (by simp[Qam]) (fun j=>rfl) (by have:=hmb i.1;omega),by simp⟩,⟨⟨0,by simp⟩,[(5,some 2)],?_⟩,fun i=> ?_⟩
 .simp only[subP,mxL,ZeM,famH,Qch,Zdf,ZaQ,ZaK];simp (maxSteps:=10^7) (disch:=omega) only[ZZ,simprocAttr,rch,Ybi,Qc7,ORB,lyI.ca,Qar.c,Zah,Zag]
  try simp
 obtain⟨i,hi1⟩:=i;obtain⟨M,hM⟩: ∃M,M=(mxL lv i).toNat:=⟨_,rfl⟩;have hMb:=hmb i;have hM0:=hm0 i;simp only[Zat,ZaU,<-hM];simp (maxSteps:=10^7) (disch:=omega) only[ZZ,simprocAttr,rch,Ybi,Qc7,ORB,lyI.ca,Qar.c,sub,Qal,Qba];refine⟨fun hi=>⟨hi,hi,fun x hx=> ?_⟩,fun hi=> ?_⟩
 .have hx1:1<=x/\x<=(M:Int)+1:=by
   have hil:i<nd.length:=by omega
   have e:=Qag1 nd nd.length i hil;rw[<-hlv,hx] at e;have e2:=Zaa e;have hb:=Qaig (own:=(nd[i]?).getD []) (Qafw nd i) (by omega) ((nd[i]?).getD []).length;refine⟨by omega,?_⟩;by_cases c:x=1
   .omega
   .obtain⟨j,hj,he⟩:=Qaia hno (i+1) i (by omega) hil (x - 1) (by omega) (by rw[<-hlv,hx,Zad];omega);rw[<-hlv] at he;have hji:j≠i:=fun h=>by
     subst h;rw[hx,Zad] at he;omega
    have:=(Qah4 lv i).1 j (by omega)
    omega
  refine Qay.ren ⟨{k:Nat//M<=k/\(k=M\/(k:Int)<=x)},fun k=>⟨[(24,.im (.int .i64 i)),(23,.im (.int .i64 lv.length)),(22,.own 4),(10,.im (.int .i64 x)),(9,.im (.int .i64 i)),(8,.own 2002),(1,.im (.sl false 3 (l.map Opt.c)))],[(2002,(true,.arrA 46 1 (lyR 1002 M k.1))),(4,(true,.arr 2 1 (lv.map intC)))]++famH 1002 M (layF l lv i),2003⟩,fun k=>x.toNat - k.1,fun k=>⟨Qagc (by simp[belT,AV.bel]) (by simp only[belH,ZaW];exact Qah9 _ _ _ _ (by omega)) (by simp[Qam]) (fun j=>rfl) (by omega),by simp⟩,⟨⟨M,Zam _,.inl rfl⟩,[(2002,some 5)],?_⟩,fun k=> ?_⟩
  .refine Qaf7 (A:=[_,_]) (fun i=>1002+i) (by simp[geP]) (by simp[imP,pm,nodS]) (fun i hi=>by simp only[pm];rw[Zai (by omega)]) (fun i j _ _ h=>by omega) (fun m hm i hi=>by simp[imP,pm] at hm;omega) ?_ ?_ (fun q hq=> ?_)
   .simp only[Qpt];simp (maxSteps:=10^7) (disch:=omega) only[ZZ,simprocAttr,rch,Ybi,Qc7,ORB,lyI.ca,Qar.c,Zah,Zag]
   .simp only[Qgb,lyR_self];simp (maxSteps:=10^7) (disch:=omega) only[ZZ,simprocAttr,rch,Ybi,Qc7,ORB,lyI.ca,Qar.c,Zah,Zag];exact Qyn (g:=fun i=>1002+i) (fun i hi=>by simp only[pm];rw[Zai (by omega)]) rfl
   .simp only[entN,hget,Qao _ _ (show 5≠1002+q by omega),Qao _ _ (show 4≠1002+q by omega),ZaF];rw[Qcy _ _ _ _ hq];exact⟨rfl,rfl⟩
  obtain⟨k,hk1,hk2⟩:=k;have hkl:=Qah7 1002 hk1;simp only[Zat,ZaU];simp (maxSteps:=10^7) (disch:=omega) only[ZZ,simprocAttr,rch,Ybi,Qc7,ORB,lyI.ca,Qar.c,sub,Qal,Qba,Qage,hkl];intro _;refine⟨fun c=> ?_,fun c=> ?_⟩
  .refine⟨by omega,by rw[show [[AV.im (D.sl true 0 [])]]=[nilR] from rfl,Qaie 1002 hk1];exact Qah9 _ _ _ _ (by omega),⟨k+1,by omega,.inr (by omega)⟩,[(2002,some 2004)],by simp only;omega,?_⟩;refine Qaf7 (A:=[_,_]) (fun i=>1002+i) (by simp[geP]) (by simp[imP,pm,nodS]) (fun i hi=>by simp only[pm];rw[Zai (by omega)]) (fun i j _ _ h=>by omega) (fun m hm i hi=>by simp[imP,pm] at hm;omega) ?_ ?_ (fun q hq=> ?_)
   .simp only[Qpt];simp (maxSteps:=10^7) (disch:=omega) only[ZZ,simprocAttr,rch,Ybi,Qc7,ORB,lyI.ca,Qar.c,Zah,Zag]
   .simp only[Qgb];simp (maxSteps:=10^7) (disch:=omega) only[ZZ,simprocAttr,rch,Ybi,Qc7,ORB,lyI.ca,Qar.c,Zah,Zag];rw[show [[AV.im (D.sl true 0 [])]]=[nilR] from rfl,Qaie 1002 hk1];exact lyR_mt (fun i hi=>by simp only[pm];rw[Zai (by omega)])
   .simp only[entN,hget,Qao _ _ (show 2004≠1002+q by omega),Qao _ _ (show 2003≠1002+q by omega),Qao _ _ (show 2002≠1002+q by omega),Qao _ _ (show 4≠1002+q by omega),ZaF];rw[Qcy _ _ _ _ hq];exact⟨rfl,rfl⟩
  .have hw:IntKind.i64.wrap (x - 1)=x - 1:=Qak (by omega) (by omega);obtain⟨q,hq⟩: ∃q,q=(x - 1).toNat:=⟨_,rfl⟩;have hqk:q<k:=by omega
   have hqx:x=(q:Int)+1:=by omega
   rw[hw,<-hq];refine⟨by omega,by omega,hqk,?_⟩;by_cases cq:q<M
   .refine Qi3 (Qaif 1002 cq) ?_;have n1:=Qao _ _ (show 2003≠1002+q by omega);have n2:=Qao _ _ (show 2002≠1002+q by omega);have n3:=Qao _ _ (show 4≠1002+q by omega);have hf:=Qcy 1002 M (layF l lv i) q cq;simp (maxSteps:=10^7) (disch:=omega) only[ZZ,simprocAttr,rch,Ybi,Qc7,ORB,lyI.ca,Qar.c,sub,Qal,Qba,show ∀p:Prop,(1002+q<2003\/p)=True from fun p=>ZdG (.inl (by omega)),Zbf,Zdo,true_or];refine⟨by omega,by omega,fun o ho=> ?_⟩;simp only[layF] at hf;simp (maxSteps:=10^7) (disch:=omega) only[ZZ,simprocAttr,rch,Ybi,Qc7,ORB,lyI.ca,Qar.c,sub,Qal,Qba,Qjf,hf,hkl,Qkf,ZdR,ZdG (show 1002+q<2003 by omega),ZdG (show 1002+q<2004 by omega),Zbf,Qage];have hfl:=Qahy l lv ((q:Int)+1) i;refine⟨by omega,by omega,?_⟩;simp only[n1,n2,n3,ZaC,Zbz];simp (maxSteps:=10^7) (disch:=omega) only[ZZ,simprocAttr,rch,Ybi,Qc7,ORB,lyI.ca,Qar.c,sub,Qal,Qba,Qjf,hf,hkl,Qkf,ZdR,ZdG (show 1002+q<2003 by omega),ZdG (show 1002+q<2004 by omega),Zbf,Qage];refine⟨by omega,by omega,by omega,?_⟩;rw[<-hq];refine Qi3 (Qaif 1002 cq) ?_;simp (maxSteps:=10^7) (disch:=omega) only[ZZ,simprocAttr,rch,Ybi,Qc7,ORB,lyI.ca,Qar.c,sub,Qal,Qba,Qjf,hf,hkl,Qkf,ZdR,ZdG (show 1002+q<2003 by omega),ZdG (show 1002+q<2004 by omega),Zbf,Qage];refine⟨Qahz _ _ _ _ _ _ (by omega) (by omega),⟨i+1,by omega⟩,[(5,some 2002),(1002+q,some 2004)],by simp only;omega,?_⟩;have hw2:IntKind.i64.wrap ((i:Int)+1)=(i:Int)+1:=Qak (by omega) (by omega);have hK:(mxL lv (i+1)).toNat=k:=by simp only[mxL,hx,Zad];omega
    simp only[hK,hw2];have n4: ¬(1002+q=4):=by omega
    refine Qaf7 (A:=[_,_]) (fun j=>if j=q then 2004 else 1002+j) (by simp[geP];try omega) (by simp[imP,pm,nodS,n4]) (fun j hj=>by simp only[pm];rw[Zai (by omega)];by_cases e:j=q<;>simp[e];omega) (fun j j' h h' e=>by split at e<;>split at e<;>omega) (fun m hm j hj=>by simp[imP,pm,n4] at hm;split<;>omega) ?_ ?_ (fun j hj=> ?_)
    .simp only[Qpt];simp (maxSteps:=10^7) (disch:=omega) only[ZZ,simprocAttr,rch,Ybi,Qc7,ORB,lyI.ca,Qar.c,Zah,Zag,Zai n4]
     try simp[ownM]
    .simp only[Qgb];simp (maxSteps:=10^7) (disch:=omega) only[ZZ,simprocAttr,rch,Ybi,Qc7,ORB,lyI.ca,Qar.c,Zah,Zag,Zai n4];exact lyR_put (π:=[(5,some 2002),(1002+q,some 2004)]) (b:=1002) hqk hk1 (fun j hj e=>⟨by omega,by simp only[pm];rw[Zai (by omega),Zai (by omega)]⟩) (by simp[pm];omega)
    .by_cases e:j=q
     .subst e;rw[layF_eq (by rw[hx,Zad];exact hqx) ho,Zaq rfl];simp only[entN,hget];exact⟨rfl,rfl⟩
     .rw[layF_ne (by rw[hx,Zad];exact hqx) e,Zai e];simp only[entN,hget,Qao _ _ (show 2004≠1002+j by omega),Qao _ _ (show 2003≠1002+j by omega),Qao _ _ (show 2002≠1002+j by omega),Qao _ _ (show 4≠1002+j by omega),ZaF];rw[Qce _ _ _ (by omega),Qce _ _ _ (by omega),Qcy _ _ _ _ (by omega)];exact⟨rfl,rfl⟩
   .have hqM:q=M:=by omega
    have hkM:k=M+1:=by omega
    refine Qi3 (lyR_hi 1002 (by omega) hqk) ?_;simp (maxSteps:=10^7) (disch:=omega) only[ZZ,simprocAttr,rch,Ybi,Qc7,ORB,lyI.ca,Qar.c,sub,Qal,Qba,nilR];refine⟨by omega,fun o ho=> ?_⟩;refine⟨by omega,by omega,by omega,?_⟩;refine Qi3 (lyR_hi 1002 (by omega) (by omega)) ?_;simp (maxSteps:=10^7) (disch:=omega) only[ZZ,simprocAttr,rch,Ybi,Qc7,ORB,lyI.ca,Qar.c,sub,Qal,Qba,nilR,ZdR,Qage];rw[<-hq];refine⟨Qahz _ _ _ _ _ _ (by omega) (by omega),⟨i+1,by omega⟩,[(5,some 2002),(1002+q,some 2004)],by simp only;omega,?_⟩;have hw2:IntKind.i64.wrap ((i:Int)+1)=(i:Int)+1:=Qak (by omega) (by omega);have hK:(mxL lv (i+1)).toNat=k:=by simp only[mxL,hx,Zad];omega
    simp only[hK,hw2];have n4: ¬(1002+q=4):=by omega
    refine Qaf7 (A:=[_,_]) (fun j=>if j=q then 2004 else 1002+j) (by simp[geP];try omega) (by simp[imP,pm,nodS,n4]) (fun j hj=>by simp only[pm];rw[Zai (by omega)];by_cases e:j=q<;>simp[e];omega) (fun j j' h h' e=>by split at e<;>split at e<;>omega) (fun m hm j hj=>by simp[imP,pm,n4] at hm;split<;>omega) ?_ ?_ (fun j hj=> ?_)
    .simp only[Qpt];simp (maxSteps:=10^7) (disch:=omega) only[ZZ,simprocAttr,rch,Ybi,Qc7,ORB,lyI.ca,Qar.c,Zah,Zag,Zai n4]
     try simp[ownM]
    .simp only[Qgb];simp (maxSteps:=10^7) (disch:=omega) only[ZZ,simprocAttr,rch,Ybi,Qc7,ORB,lyI.ca,Qar.c,Zah,Zag,Zai n4];exact lyR_put (π:=[(5,some 2002),(1002+q,some 2004)]) (b:=1002) hqk hk1 (fun j hj e=>⟨by omega,by simp only[pm];rw[Zai (by omega),Zai (by omega)]⟩) (by simp[pm];omega)
    .by_cases e:j=q
     .subst e;rw[layF_eq (by rw[hx,Zad];exact hqx) ho,Zaq rfl];simp only[entN,hget];rw[Qah3 i (fun j hj=>by have:=(Qah4 lv i).1 j hj;omega)];exact⟨rfl,rfl⟩
     .rw[layF_ne (by rw[hx,Zad];exact hqx) e,Zai e];simp only[entN,hget,Qao _ _ (show 2004≠1002+j by omega),Qao _ _ (show 2003≠1002+j by omega),Qao _ _ (show 2002≠1002+j by omega),Qao _ _ (show 4≠1002+j by omega),ZaF];rw[Qcy _ _ _ _ (by omega)];exact⟨rfl,rfl⟩
 .have hil:i=l.length:=by omega
  subst hil;have hL:(imN l lv l.length).length=M:=by simp[imN,hM]
  have hmn:min (imN l lv l.length).length 500=M:=by rw[hL];omega
  refine⟨[],[],⟨[(4,.own 5),(5,.im (.int .i64 0))],lyH (imN l lv l.length),2002⟩,?_,Qaic _ _ _ (by simp[belT,AV.bel]) (by omega),by simp,?_⟩
  .simp only[lyH,hmn];refine Qaf7 (A:=[_]) (fun i=>1002+i) (by simp[geP]) (by simp[imP,pm,nodS]) (fun i hi=>rfl) (fun i j _ _ h=>by omega) (fun m hm i hi=>by simp[imP,pm] at hm;omega) ?_ ?_ (fun q hq=> ?_)
   .simp only[Qpt];simp (maxSteps:=10^7) (disch:=omega) only[ZZ,simprocAttr,rch,Ybi,Qc7,ORB,lyI.ca,Qar.c,Zah,Zag]
   .simp only[Qgb];simp (maxSteps:=10^7) (disch:=omega) only[ZZ,simprocAttr,rch,Ybi,Qc7,ORB,lyI.ca,Qar.c,Zah,Zag,Qagj,Qagw];exact Qyn (π:=[]) (g:=fun i=>1002+i) (fun i hi=>rfl) rfl
   .have e:(imN l lv l.length)[q]? =some (filt l lv ((q:Int)+1) l.length):=by
     simp only[imN,<-hM];rw[ZaG,Zbc hq];rfl
    simp only[entN,fzAS,Qagj,hget,Qao _ _ (show 5≠1002+q by omega),Qao _ _ (show 4≠1002+q by omega),ZaF];rw[Qcy _ _ _ _ hq];simp only[lyF,e,Zad];exact⟨rfl,rfl⟩
  .simp only[lyI.H1,lyI.r0,eL];simp (maxSteps:=10^7) (disch:=omega) only[ZZ,simprocAttr,rch,Ybi,Qc7,ORB,lyI.ca,Qar.c,lyH,Zat,ZaU];exact ly_ret _
 exact .inr (ly_mem hp)
end Go.Ae
