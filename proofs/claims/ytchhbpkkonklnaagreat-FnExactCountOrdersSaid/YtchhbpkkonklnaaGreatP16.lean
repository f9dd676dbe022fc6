/- Lemmas for fnExactCountOrders_holds. Conditions: none. -/
import Derived.Test.YtchhbpkkonklnaaGreatP15
import Derived.Shelf.SortM.Plain
import Derived.Shelf.SortM.SortNone
set_option linter.all false
set_option maxHeartbeats 8000000
set_option maxRecDepth 100000
namespace Go.Proofs
open Go.Shelf
def Tryz.sortI_ren:Go.Shelf.Ren:=⟨fun|5=>68|8=>105|7=>104|19=>141|20=>142|10=>132|11=>133|12=>134|13=>135|14=>136|15=>137|16=>138|17=>139|18=>140|30=>159|31=>160|32=>161|33=>162|34=>163|35=>164|40=>182|n=>n,fun|23=>51|25=>2|3=>3|32=>157|22=>51|0=>0|44=>205|46=>207|4=>4|36=>199|35=>198|41=>146|5=>5|9=>9|53=>220|57=>224|63=>243|64=>244|n=>n,fun|n=>n⟩
theorem Tryz.sortI:Go.Proofs.SlLaysM.n5 Tryz.prog Tryz.sortI_ren:={
 mixed:=by kernel_rfl
 f5:=⟨Tryz.f68.name,by decide,Tryz.func68.trans (ZbA some (by kernel_rfl))⟩
 f7:=⟨Tryz.f104.name,by decide,Tryz.func104.trans (ZbA some (by kernel_rfl))⟩
 f8:=Tryz.func105.trans (ZbA some (by kernel_rfl))
 f10:=⟨Tryz.f132.name,by decide,Tryz.func132.trans (ZbA some (by kernel_rfl))⟩
 f11:=⟨Tryz.f133.name,by decide,Tryz.func133.trans (ZbA some (by kernel_rfl))⟩
 f12:=⟨Tryz.f134.name,by decide,Tryz.func134.trans (ZbA some (by kernel_rfl))⟩
 f13:=⟨Tryz.f135.name,by decide,Tryz.func135.trans (ZbA some (by kernel_rfl))⟩
 f14:=⟨Tryz.f136.name,by decide,Tryz.func136.trans (ZbA some (by kernel_rfl))⟩
 f15:=⟨Tryz.f137.name,by decide,Tryz.func137.trans (ZbA some (by kernel_rfl))⟩
 f16:=⟨Tryz.f138.name,by decide,Tryz.func138.trans (ZbA some (by kernel_rfl))⟩
 f17:=⟨Tryz.f139.name,by decide,Tryz.func139.trans (ZbA some (by kernel_rfl))⟩
 f18:=⟨Tryz.f140.name,by decide,Tryz.func140.trans (ZbA some (by kernel_rfl))⟩
 f19:=Tryz.func141.trans (ZbA some (by kernel_rfl))
 f20:=Tryz.func142.trans (ZbA some (by kernel_rfl))
 f30:=⟨Tryz.f159.name,by decide,Tryz.func159.trans (ZbA some (by kernel_rfl))⟩
 f31:=Tryz.func160.trans (ZbA some (by kernel_rfl))
 f32:=Tryz.func161.trans (ZbA some (by kernel_rfl))
 f33:=⟨Tryz.f162.name,by decide,Tryz.func162.trans (ZbA some (by kernel_rfl))⟩
 f34:=⟨Tryz.f163.name,by decide,Tryz.func163.trans (ZbA some (by kernel_rfl))⟩
 f35:=⟨Tryz.f164.name,by decide,Tryz.func164.trans (ZbA some (by kernel_rfl))⟩
 f40:=⟨Tryz.f182.name,by decide,Tryz.func182.trans (ZbA some (by kernel_rfl))⟩
 t0:=Tryz.underlying0
 a0:=Tryz.isAgg0
 z0:=Tryz.sizeOf0
 v0:=Tryz.zeroValue0
 t3:=Tryz.underlying3
 a3:=Tryz.isAgg3
 z3:=Tryz.sizeOf3
 v3:=Tryz.zeroValue3
 t4:=Tryz.underlying4
 a4:=Tryz.isAgg4
 z4:=Tryz.sizeOf4
 v4:=Tryz.zeroValue4
 t5:=Tryz.underlying5
 a5:=Tryz.isAgg5
 z5:=Tryz.sizeOf5
 v5:=Tryz.zeroValue5
 t9:=Tryz.underlying9
 a9:=Tryz.isAgg9
 z9:=Tryz.sizeOf9
 v9:=Tryz.zeroValue9
 t22:=Tryz.underlying51
 a22:=Tryz.isAgg51
 z22:=Tryz.sizeOf51
 v22:=Tryz.zeroValue51
 t23:=Tryz.underlying51
 a23:=Tryz.isAgg51
 z23:=Tryz.sizeOf51
 v23:=Tryz.zeroValue51
 t25:=Tryz.underlying2
 a25:=Tryz.isAgg2
 z25:=Tryz.sizeOf2
 v25:=Tryz.zeroValue2
 t32:=Tryz.underlying157
 a32:=Tryz.isAgg157
 z32:=Tryz.sizeOf157
 v32:=Tryz.zeroValue157
 t35:=Tryz.underlying198
 a35:=Tryz.isAgg198
 z35:=Tryz.sizeOf198
 v35:=Tryz.zeroValue198
 t36:=Tryz.underlying199
 a36:=Tryz.isAgg199
 z36:=Tryz.sizeOf199
 v36:=Tryz.zeroValue199
 t41:=Tryz.underlying146
 a41:=Tryz.isAgg146
 z41:=Tryz.sizeOf146
 v41:=Tryz.zeroValue146
 t44:=Tryz.underlying205
 a44:=Tryz.isAgg205
 z44:=Tryz.sizeOf205
 v44:=Tryz.zeroValue205
 t46:=Tryz.underlying207
 a46:=Tryz.isAgg207
 z46:=Tryz.sizeOf207
 v46:=Tryz.zeroValue207
 t53:=Tryz.underlying220
 a53:=Tryz.isAgg220
 z53:=Tryz.sizeOf220
 v53:=Tryz.zeroValue220
 t57:=Tryz.underlying224
 a57:=Tryz.isAgg224
 z57:=Tryz.sizeOf224
 v57:=Tryz.zeroValue224
 t63:=Tryz.underlying243
 a63:=Tryz.isAgg243
 z63:=Tryz.sizeOf243
 v63:=Tryz.zeroValue243
 t64:=Tryz.underlying244
 a64:=Tryz.isAgg244
 z64:=Tryz.sizeOf244
 v64:=Tryz.zeroValue244}
end Go.Proofs
namespace Go.Ae
open Go.Proofs Go.Sort Go.Shelf
def sortI(l:List Int):List Int:=l.mergeSort fun x y=>decide (x<=y)
theorem sortI_len(l:List Int):(sortI l).length=l.length:=List.length_mergeSort l
def flI(l:List Int):List Value:=l.map (Value.int .i64)
theorem Qac2{ok:Nat->Prop}{hp:Nat->Option Obj}: ∀(l:List Int) (L:List Value),rdr ok hp 1 (l.map intC) L↔ ∃r,L=flI l++r
 |[],L=>by simp[rdr,flI]
 |x::r,L=>by
  simp only[Zap,rdr,Qac2 r,intC,rdp,rd,flI,Zap];constructor
  .rintro⟨_,⟨v,L1,rfl,rfl,_⟩,q,hq⟩;exact⟨q,by simp only[ZbS,ZbI] at hq;rw[hq];rfl⟩
  .rintro⟨q,rfl⟩;exact⟨rfl,⟨_,_,rfl,rfl,trivial⟩,q,rfl⟩
theorem Qacs(l:List Int):(flI l).length=l.length:=ZaM ..
def srI.ca(_:List Int):List AV:=[.own 0]
def srI.H0(a:List Int):Qan:=[(0,(true,.arr 2 1 (a.map intC)))]
def srI.H1(a:List Int):Qan:=[(0,(true,.arr 2 1 ((sortI a).map intC)))]
def srI.row:Row:=orow srI.ca srI.H0 1 (fun _=>True) (fun _=>true) (fun _=> .im (.tup [])) srI.H1 0
theorem srI.ok:Qas Tryz.prog 68 srI.row:=by
 rintro args h nx K ⟨a,τ,U,KL,hpre,rfl,hheap,hN,hK⟩;refine⟨Qh7 (by kernel_rfl),_,_,?_,hK⟩;intro C S vs R hW huse hfresh hnames hargs hfin;have hs0:sgx τ 1 nx 0=τ 0:=Zam (by omega);simp only[srI.ca,renL,AV.ren,hs0,Qa0,conc] at hargs;obtain⟨v0,r0,hv,⟨hone,hown⟩,hr1⟩:=hargs;subst hr1;have hvs:vs= #[v0]:=by apply ZdT;simpa using hv
 subst hvs;have hm:h (τ 0)=some (true,.arr 2 1 (a.map intC)):=by
  have:=hheap.1
  rwa [hs0] at this
 have hd0:domB (srI.H0 a) 0=true:=rfl;have hSm:S.h (τ 0)=some (true,.arr 2 1 (a.map intC)):=by
  rw[huse (τ 0) (ZbD _ (hN.u 0 hd0)),hm]
 have hk0: ∀n,n∈KL↔n=τ 0:=by
  intro n;constructor
  .intro hn;obtain⟨j,h1,_,h3⟩:=hN.k1 n hn
   have:j=0:=by
    simp only[domB,srI.H0,hget] at h1;by_cases hj:j=0
    .exact hj
    .have:(0==j)=false:=by simpa using fun h=>hj h.symm
     rw[this] at h1;cases h1
   rw[h3,this]
  .rintro rfl;exact hN.k2 0 hd0 rfl
 obtain⟨m,hmm⟩: ∃m,m=τ 0:=⟨_,rfl⟩;rw[<-hmm] at hSm hown hk0;have hsl:=sortI_len a;have fin: ∀(w':World),Qjb S m (.arr 2 1 ((sortI a).map intC)) (S.ρ m) [m] w'->
  (Pres (fun n=>S.h m≠none\/n≠m) S (S.one m (.arr 2 1 ((sortI a).map intC)) (S.ρ m) [m] w')->objc (S.one m (.arr 2 1 ((sortI a).map intC)) (S.ρ m) [m] w') (S.ρ m) (.arr 2 1 ((sortI a).map intC)))->R (.returned (.tuple #[])) w':=by
  intro w' hone hob;have hp:=Qg2 hW hone;refine hfin (.tuple #[]) _ (Qqp hW hone (hob hp)) ?_ ⟨hp.ok,fun n _=>hp.nm n (.inl (by rw[hSm];simp))⟩ ⟨#[],rfl,rfl⟩;funext n;simp only[Env.one,Eff.appf,srI.H1,renH,hs0,hget,AObj.ren,<-hmm];by_cases hn:n=m
  .subst hn;simp
  .have h1:(m==n)=false:=by simpa using fun h=>hn h.symm
   have h2:KL.contains n=false:=by
    rw[<-ZcH,Zbp,hk0];exact hn
   simp only[h1,ZaT,h2,hn,Zbv,Zan]
 have hown':=hown _ hSm;have hobj:=hW.obj _ _ hSm;have hloc:=fun lc=>hW.loc m _ lc hSm
 cases hρ:S.ρ m with
 |none=>
  rw[hρ] at hown' hobj;simp only[objc] at hobj;have ha:a=[]:=by simpa using hobj.2
  subst ha;simp only at hown';rw[hown'];refine (AnyM.slices_Sort_int_none Tryz.sortI none 0 S.w).mono ?_;rintro e w' ⟨rfl,rfl⟩;refine fin S.w (Qacz hSm (fun l hl=>by rw[hρ] at hl;cases hl) (by first|rfl|simp[AObj.len,sortI]) (by first|rfl|simp[AObj.len,sortI])) (fun _=> ?_);rw[hρ];exact⟨by simp[sortI],by simp[sortI]⟩
 |some lc=>
  rw[hρ] at hown' hobj;simp only[objc,AObj.len] at hobj hown';obtain⟨g1,g2,cv,g3,g4,g5⟩:=hobj;obtain⟨hlb,hlk⟩:=hloc lc hρ;rw[Qac2] at g5;obtain⟨rest,g5⟩:=g5;simp only[ZaM] at g1 g2 hown';have hheap:S.w.heap[lc.b]? =some (.cells cv 2 (0,0)):=g3;have hlen:lc.p+a.length<=cv.size:=by omega
  have hget: ∀j,j<a.length->cv[lc.p+j]? =some (Value.int .i64 (a.toArray[j]!)):=by
   intro j hj;have h1:(cv.toList.drop lc.p)[j]? =(flI a++rest)[j]? :=by rw[g5]
   rw[ZbQ,ZaY,ZaI (by rw[Qacs];exact hj),flI,ZaG,Zac hj] at h1;rw[h1,getElem!_pos _ _ (by simpa using hj)];simp
  have hH:Holds (Value.int .i64) S.w lc.b lc.p a.toArray:=by
   intro j hj;have hj:j<a.length:=by simpa using hj
   refine⟨?_,?_⟩
   .simp only[World.cell?,hheap,ZcW,Zax,Zbv,id];exact hget j hj
   .simp only[World.frozen?,hheap];simp
  have hc:=AnyM.slices_Sort_int Tryz.sortI lc.b lc.p lc.cap a S.w hH hlb (by simp only[LIM] at g1⊢;omega);rw[hown'];refine hc.mono ?_;rintro e w' ⟨rfl,n,os,rfl⟩;change R _ (grow (putRow (Value.int .i64) (Sort.ahead S.w n) lc.b lc.p (sortI a).toArray) os);have hsize:S.w.heap.size<=(grow (putRow (Value.int .i64) (Sort.ahead S.w n) lc.b lc.p (sortI a).toArray) os).heap.size:=by
   simp[grow,putRow,mapBlock,Sort.ahead]
  have hb: ∀b,b<S.w.heap.size->(grow (putRow (Value.int .i64) (Sort.ahead S.w n) lc.b lc.p (sortI a).toArray) os).heap[b]? =if lc.b=b then S.w.heap[b]?.map (onCells (putCells (Value.int .i64) lc.p (sortI a).toArray)) else S.w.heap[b]? :=by
   intro b hb;have e0:b<(putRow (Value.int .i64) (Sort.ahead S.w n) lc.b lc.p (sortI a).toArray).heap.size:=by simpa[putRow,mapBlock,Sort.ahead] using hb
   simp only[grow];rw[Zee e0];simp only[putRow,mapBlock,Sort.ahead,ZdN]
  refine fin _ ⟨rfl,rfl,rfl,hsize,?_,.inl (by simp),?_,?_,?_⟩ ?_
  .intro b hb1 hb2;rw[hb b hb1,Zaj (hb2 m _ lc (by simp) hSm hρ)]
  .intro lo hlo;rw[hρ] at hlo;obtain rfl:=Zaa hlo;exact⟨Zbg hlb hsize,.inr ⟨m,_,lc,by simp,hSm,hρ,rfl⟩⟩
  .intro f hf;rw[hSm] at hf;obtain rfl:=Zaa hf;exact⟨rfl,rfl,by simp[AObj.len,hsl]⟩
  .intro n' f _ hnone;rw[hSm] at hnone;cases hnone
  .intro _;rw[hρ];simp only[objc,ZaM,hsl];refine⟨g1,g2,putCells (Value.int .i64) lc.p (sortI a).toArray cv,?_,by simpa[putCells] using g4,?_⟩
   .simp only[Env.one,Env.hp];rw[hb lc.b hlb,Zam rfl,hheap];rfl
   .rw[Qac2];refine⟨(cv.toList.drop (lc.p+a.length)),?_⟩;apply ZbY;intro t;rw[ZbQ,ZaY,putCells,ZeD];by_cases ht:t<a.length
    .rw[ZaI (by rw[Qacs,hsl];exact ht),flI,ZaG,Zac (by rw[hsl];exact ht),Zbk (show lc.p+t<cv.size by omega)];simp only[ZaN];rw[Zam ⟨by omega,by simp[hsl];omega⟩,ZcI,getElem!_pos _ _ (by simpa[hsl] using ht)];simp
    .rw[ZaE (by rw[Qacs,hsl];omega),Qacs,hsl,ZbQ,ZaY,show lc.p+a.length+(t - a.length)=lc.p+t by omega];cases cv[lc.p+t]? with
     |none=>rfl
     |some x=>simp only[ZaN];rw[Zaj (by simp[hsl];omega)]
end Go.Ae
namespace Go.Ae
open Go.Proofs
def seqI(s:Qar)(l:List Opt):Asm×Int×Int:=if Qk1 s=false then (⟨[]⟩,0,1) else if 500<l.length then (⟨[]⟩,0,2) else Qacn s (tlUp s.Seed.Tiles) l 0
theorem Qacl{β:Type}(p:Qae)(v:β): ∀(t:List (Qae×β)),(t.map Prod.fst).Nodup->((updP t p v).map Prod.fst).Nodup/\(∀q,q∈(updP t p v).map Prod.fst->q=p\/q∈t.map Prod.fst)/\(updP t p v).length<=t.length+1
 |[],_=>by simp[updP]
 |(k,w)::r,h=>by
  rw[Zap,Zcq] at h;simp only[updP];by_cases c:p=k
  .subst c;rw[Zam rfl];refine⟨by rw[Zap,Zcq];exact h,fun q hq=> .inr hq,by simp⟩
  .rw[Zaj c];obtain⟨h1,h2,h3⟩:=Qacl p v r h.2;refine⟨?_,?_,by simp only[ZaH];omega⟩
   .rw[Zap,Zcq];refine⟨fun hk=> ?_,h1⟩;rcases h2 _ hk with hk|hk
    .exact c hk.symm
    .exact h.1 hk
   .intro q hq;rw[Zap] at hq⊢;rcases ZaB.1 hq with rfl|hq
    .exact .inr (Zar ..)
    .rcases h2 _ hq with hq|hq
     .exact .inl hq
     .exact .inr (Zaq _ hq)
theorem tlUp_keys(l:List Qab):((tlUp l).map Prod.fst).Nodup/\(tlUp l).length<=l.length:=by
 have key: ∀(l:List Qab) (t:List (Qae×Int)),(t.map Prod.fst).Nodup->((l.foldl (fun t x=>updP t x.At x.Tile) t).map Prod.fst).Nodup/\(l.foldl (fun t x=>updP t x.At x.Tile) t).length<=t.length+l.length:=by
  intro l;induction l with
  |nil=>intro t h;exact⟨h,by simp⟩
  |cons x r ih=>
   intro t h;obtain⟨h1,_,h3⟩:=Qacl x.At x.Tile t h;obtain⟨h4,h5⟩:=ih _ h1;exact⟨h4,by simp only[Zdm,ZaH] at h5⊢;omega⟩
 have:=key l [] (by simp)
 exact⟨this.1,by simpa[tlUp] using this.2⟩
theorem Qac7{s:Qar}{l:List Opt}{i:Nat}{o:Opt}(hx:l[i]? =some o)(t:List (Qae×Int)):Qacn s t (l.drop i) i=if (Qau o.Tile 0 (s.Set.Tiles.length - 1) && Qpg s (Qbw t) o.At o.Tile)=false then (⟨[]⟩,(i:Int),5) else if 500<=t.length then (⟨[]⟩,0,4) else Qacn s (updP t o.At o.Tile) (l.drop (i+1)) (i+1):=by
 rw[Qd3 hx,Qacn]
def PlayI_.ar:List PK->Option (Qar×(List Opt)):=a2 (kR Qar.d) (kS Opt.d)
def PlayI_.ae(a:Qar×(List Opt)):List PK:=[.val (.agg (Qar.c a.1)),.val (.sl false 3 (a.2.map Opt.c))]
def PlayI_.fv(a:Qar×(List Opt)):Asm×Int×Int:=(seqI) (a.1) (a.2)
def PlayI_.row:Row:=vrow PlayI_.ar (fun a=>Qf6 a.1.Set) (fun a=>(fun b=>D.tup [(fun b=>D.agg (Asm.c b)) (b.1),(D.int .i64) (b.2.1),(D.int .i64) (b.2.2)]) (PlayI_.fv a))
def PlayI_.q:=vq PlayI_.row rfl
def YaS:=J @PlayI_.ae.eq_1 (J @PlayI_.fv.eq_1 (J @validI_.q (J @validI_.ar.eq_1 (J @validI_.fv.eq_1 (J @isTile.q (J @isTile.ar.eq_1 (J @isTile.fv.eq_1 (J @fitsC.q (J @fitsC.ar.eq_1 @fitsC.fv.eq_1)))))))))
theorem PlayI_.ok:Qas Tryz.prog 88 PlayI_.row:=by
 refine Qaj Qaq (tC validI_.ok (tC newC.ok (tC isTile.ok (tC fitsC.ok (tC putC.ok (tC asmC.ok tN)))))) Tryz.func88 rfl (by kernel_rfl) (by kernel_rfl) (ar:=PlayI_.ar) (ae:=PlayI_.ae) (Qaca (Qab8 Qar.d_le) (Qacb 3 Opt.d_le (fun _=>rfl))) (n:=2) (fun _=>rfl) (by decide) (rc:=(Qac1 (vAgg Asm.d) (vInt) (vInt))) (re:=(fun b=>D.tup [(fun b=>D.agg (Asm.c b)) (b.1),(D.int .i64) (b.2.1),(D.int .i64) (b.2.2)])) (Qact (Qb1 Asm.d_le) (Qa3) (Qa3)) (f:=PlayI_.fv) ?_;intro a hpre;simp only[Tryz.f88,Option.getD];simp (maxSteps:=10^7) (disch:=omega) only[ZZ,simprocAttr,rch,YaS];obtain⟨s,l⟩:=a;simp only at hpre⊢;refine⟨hpre,?_⟩;by_cases c1:Qk1 s=false
 .rw[Zam c1];simp only[seqI];rw[Zam c1]
 rw[Zaj c1];intro _;by_cases c2:500<l.length
 .rw[Zam (by omega)];simp only[seqI];rw[Zaj c1,Zam c2]
 rw[Zaj (by omega)];have eR:seqI s l=Qacn s (tlUp s.Seed.Tiles) l 0:=by simp only[seqI];rw[Zaj c1,Zaj c2]
 rw[Zba,Qacv] at c1;obtain⟨⟨q1,q2,q3,_⟩,q5,q6⟩:=Qacj c1;have hbp:=Qof (s:=s.Set) (a:=s.Seed) (by rw[q5,q6];rfl);have hnp:newC.pre (s,s.Seed):=⟨q1,by simp only;omega,fun y hy=>⟨q2.2 y hy,hbp.1.2.2.2 y hy⟩⟩;have hcp:=cryOf_pre hnp;have hk0:=tlUp_keys s.Seed.Tiles;refine orow.os (s,s.Seed) [] hnp (fun j=>by simp[domB,hget]) rfl rfl ?_ ?_
 .simp (maxSteps:=10^7) (disch:=omega) only[ZZ,simprocAttr,rch,YaS,newC.ca,Qer,Qar.c,Asm.c]
 simp (maxSteps:=10^7) (disch:=omega) only[ZZ,simprocAttr,rch,YaS,newC.H1,sub];intro _;refine Qay.old ⟨{k:Nat×List (Qae×Int)×List (Qae×List Int)//k.1<=l.length/\inF s.Set (Qbw k.2.1)/\(k.2.1.map Prod.fst).Nodup/\k.2.1.length<=1000/\seqI s l=Qacn s k.2.1 (l.drop k.1) k.1},fun k=>⟨[(26,.im (.int .i64 k.1.1)),(25,.im (.int .i64 l.length)),(24,.im (.sl false 3 (l.map Opt.c))),(7,.ptr 6 0),(6,.im (.int .i64 0)),(5,.im (.int .i64 0)),(4,.ptr 1 0),(2,.ptr 0 0)],[(6,(true,.cells 185 [.im (.sl false 2 (s.Set.Glues.map Glue.c)),.im (.sl false 2 (s.Set.Tiles.map Tile.c)),.im (.sl false 3 (s.Seed.Tiles.map Qab.c)),.im (.int .i64 s.Temperature),.mp 4,.mp 5])),
  (4,(true,.map ⟨true,[.int .i64,.int .i64]⟩ (k.1.2.1.map Qbe))),(5,(true,.map ⟨true,[.int .i64,.int .i64]⟩ (k.1.2.2.map Qbc))),(1,(true,.cells 42 [.im (.sl true 0 [])])),(0,(true,.cells 44 ((Qar.c s).map .im)))],7⟩,fun k=>l.length - k.1.1,fun k=>⟨by simp[Qad.good,belT,belH,Qam,AV.bel,belL,Qar.c],by simp⟩,⟨⟨(0,(Qui s s.Seed).Tl,(Qui s s.Seed).Op),by simp only;exact⟨Zbm _,hcp.2.1,hk0.1,Zbc hk0.2 (by omega),eR⟩⟩,by simp (maxSteps:=10^7) (disch:=omega) only[ZZ,simprocAttr,rch,YaS,sub]⟩,fun k=> ?_⟩
 obtain⟨⟨k,tl,op⟩,hk1,hk2,hk3,hk4,hk5⟩:=k;simp only at hk1 hk2 hk3 hk4 hk5;simp (maxSteps:=10^7) (disch:=omega) only[ZZ,simprocAttr,rch,YaS,sub,Qal];refine⟨fun hk=>⟨hk,fun x hx=> ?_⟩,fun hk=> ?_⟩
 .rw[Qac7 hx] at hk5;by_cases d1:Qau x.Tile 0 ((s.Set.Tiles.length:Int) - 1)=true
  case neg=>
   refine⟨fun h=>(d1 h).elim,fun _=> ?_⟩;rw[ZcH] at d1;rw[hk5,d1,Zbr,Zam rfl]
  refine⟨fun _=> ?_,fun h=>(h d1).elim⟩;have hti:Qcs s.Set x.Tile:=by
   simp only[Qau,Zah,Zas] at d1;exact⟨d1.1,by omega⟩
  rw[d1,Zbq] at hk5;refine⟨⟨q1,hk2,hti⟩,fun d2=> ?_,fun d2=>⟨fun d3=> ?_,fun d3=> ?_⟩⟩
  .rw[hk5,Zam d2]
  .rw[hk5,Zaj d2,Zam (by omega)]
  .rw[Zaj d2,Zaj (by omega)] at hk5;have hsm:Qdy x.At:=by
    rw[Zba] at d2;simp only[Qpg,Zah] at d2;exact Qkc d2.1
   have hcr:Qacu ⟨s,tl,op⟩:=⟨q1,hk2,by simp only;omega⟩;obtain⟨u1,_,u3⟩:=Qacl x.At x.Tile tl hk3;refine orow.os (⟨s,tl,op⟩,x.At,x.Tile) [6,4,5] ⟨hcr,hsm,hti⟩ (fun j=>Qack _ j) rfl rfl ?_ ?_
   .simp (maxSteps:=10^7) (disch:=omega) only[ZZ,simprocAttr,rch,YaS,putC.ca,cryH,Qbk,Zbe,Zbx,ZbV]
   .simp (maxSteps:=10^7) (disch:=omega) only[ZZ,simprocAttr,rch,YaS,putC.H1,kl12,sub,putT,Zbx,ZbV];exact⟨⟨(k+1,updP tl x.At x.Tile,Qrz s (Qbw (updP tl x.At x.Tile)) (delP op x.At) x.At 4),by simp only;exact⟨by omega,putT_in hk2 hti,u1,by omega,hk5⟩⟩,by simp only;omega,by rw[Qak (by omega) (by omega)];simp only;omega,rfl,rfl⟩
 .rw[Zau (by omega),Qacn] at hk5;refine orow.os ⟨s,tl,op⟩ [6,4,5] ⟨hk3,by simp only;omega⟩ (fun j=>Qack _ j) rfl rfl ?_ ?_
  .simp (maxSteps:=10^7) (disch:=omega) only[ZZ,simprocAttr,rch,YaS,asmC.ca,cryH,Qbk,Zbe,Zbx,ZbV]
  .simp (maxSteps:=10^7) (disch:=omega) only[ZZ,simprocAttr,rch,YaS,asmC.H1,klA,sub,asmT,Zbx,ZbV];rw[hk5]
theorem Qacq(l:List Int):(sortI l).Perm l:=List.mergeSort_perm l _
theorem seq_law(s:Qar)(l:List Opt):seqI s l=seqS s l:=by
 simp only[seqI,seqS,Qacv];by_cases c1:Qjc s=false
 .rw[Zam c1,Zam c1]
 rw[Zaj c1,Zaj c1];rw[Zba] at c1;obtain⟨⟨q1,q2,q3,_⟩,_⟩:=Qacj c1;rw[Qac5 q3 l (tlUp s.Seed.Tiles) s.Seed s.Seed.Tiles.length 0 (RM.of q2.1 (fun x hx=>(q2.2 x hx).1)) q2]
theorem sortI_pw(l:List Int):(sortI l).Pairwise (fun x y=>x<=y):=by
 have:=List.pairwise_mergeSort (le:=fun (x y:Int)=>decide (x<=y)) (fun a b c h1 h2=>by simp at*;omega) (fun a b=>by simp;omega) l
 exact this.imp (fun h=>by simpa using h)
def Qadf(s:Qaa)(f:Qae->Int)(p:Qae)(t:Int):Nat->Int
 |0=>0
 |k+1=>Qadf s f p t k+(if 0<Quh s f p t k then 2^k else 0)
theorem Qafe(s:Qaa)(f:Qae->Int)(p:Qae)(t:Int): ∀k,0<=Qadf s f p t k/\Qadf s f p t k<2^k
 |0=>by simp[Qadf]
 |k+1=>by
  have:=Qafe s f p t k
  have e:(2:Int)^(k+1)=2^k*2:=Int.pow_succ ..;simp only[Qadf]
  split<;>omega
def Qac9:Asm->List Opt->Asm
 |b,[]=>b
 |b,o::r=>Qac9 (putA b o.At o.Tile) r
theorem Qadp: ∀(l:List Opt) (b:Asm) (o:Opt),Qac9 b (l++[o])=putA (Qac9 b l) o.At o.Tile
 |[],_,_=>rfl
 |x::r,b,o=>by simp only[ZaC,Qac9,Qadp r]
def insS(s:Qar):Asm->List Opt->List Int
 |_,[]=>[]
 |b,o::r=>Qadf s.Set (atA b) o.At o.Tile 4::insS s (putA b o.At o.Tile) r
def smsS(s:Qar):Asm->List Opt->List Int
 |_,[]=>[]
 |b,o::r=>Qhs s.Set (atA b) o.At o.Tile 4::smsS s (putA b o.At o.Tile) r
theorem Qad8(s:Qar): ∀(l:List Opt) (b:Asm) (o:Opt),insS s b (l++[o])=insS s b l++[Qadf s.Set (atA (Qac9 b l)) o.At o.Tile 4]
 |[],_,_=>rfl
 |x::r,b,o=>by simp only[ZaC,insS,Qad8 s r,Qac9]
theorem Qad9(s:Qar): ∀(l:List Opt) (b:Asm) (o:Opt),smsS s b (l++[o])=smsS s b l++[Qhs s.Set (atA (Qac9 b l)) o.At o.Tile 4]
 |[],_,_=>rfl
 |x::r,b,o=>by simp only[ZaC,smsS,Qad9 s r,Qac9]
theorem Qadv(s:Qar): ∀(l:List Opt) (b:Asm),(insS s b l).length=l.length
 |[],_=>rfl
 |x::r,b=>by simp only[insS,ZaH,Qadv s r]
theorem Qael(s:Qar): ∀(l:List Opt) (b:Asm),(smsS s b l).length=l.length
 |[],_=>rfl
 |x::r,b=>by simp only[smsS,ZaH,Qael s r]
theorem Qafo(s:Qar): ∀(l:List Opt) (b:Asm) (k:Nat) (o:Opt),l[k]? =some o->(insS s b l)[k]? =some (Qadf s.Set (atA (Qac9 b (l.take k))) o.At o.Tile 4)
 |[],_,k,o,h=>by simp at h
 |x::r,b,0,o,h=>by
  simp only[ZaL,Zab] at h;subst h;simp[insS,Qac9]
 |x::r,b,k+1,o,h=>by
  rw[ZaU] at h;simp only[insS,ZaU,ZbJ,Qac9];exact Qafo s r _ k o h
def Qaec(s:Qar)(b:Asm)(l:List Opt):Prop:= ∀k o,l[k]? =some o->canS s (Qac9 b (l.take k)) o=true/\(Qac9 b (l.take k)).Tiles.length<500
theorem Qaez{s:Qar}: ∀(l:List Opt) (b:Asm) (i:Nat),(Qacg s b l i).2.2=0->Qacg s b l i=(Qac9 b l,0,0)/\Qaec s b l
 |[],b,i,_=>⟨rfl,fun k o h=>by simp at h⟩
 |x::r,b,i,h=>by
  simp only[Qacg] at h⊢;by_cases c1:canS s b x=false
  .rw[Zam c1] at h;simp at h
  rw[Zaj c1] at h⊢;by_cases c2:500<=b.Tiles.length
  .rw[Zam c2] at h;simp at h
  rw[Zaj c2] at h⊢;obtain⟨h1,h2⟩:=Qaez r _ _ h;refine⟨h1,fun k o hk=> ?_⟩;cases k with
  |zero=>
   simp only[ZaL,Zab] at hk;subst hk;rw[Zba] at c1;exact⟨by simpa[Qac9] using c1,by simp only[ZbL,Qac9];omega⟩
  |succ k=>
   rw[ZaU] at hk;simp only[ZbJ,Qac9];exact h2 k o hk
theorem Qafb{s:Qar}(hs:s.Set.Tiles.length<=160){b:Asm}(hb:Qn7 s.Set b){l:List Opt}(h:Qaec s b l): ∀k,k<=l.length->Qn7 s.Set (Qac9 b (l.take k))
 |0,_=>by simpa[Qac9] using hb
 |k+1,hk=>by
  obtain⟨o,ho⟩: ∃o,l[k]? =some o:=⟨_,Zac (by omega)⟩;rw[Qwe ho,Qadp];exact can_in hs (Qafb hs hb h k (by omega)) (h k o ho).1
theorem Qadk{s:Qar}{b:Asm}{o:Opt}(h:canS s b o=true):Qbi o.At=true/\Qdy o.At/\0<=o.Tile/\o.Tile<s.Set.Tiles.length/\Qcs s.Set o.Tile/\(∀x∈b.Tiles,x.At≠o.At):=by
 simp only[canS,Zah,Zas] at h;obtain⟨d1,d2,d3,_⟩:=h;simp only[Qau,Zah,Zas] at d2;exact⟨d1,Qkc d1,d2.1,by omega,⟨d2.1,by omega⟩,Qma d3⟩
def hasI(m d:Int):Bool:=decide (andI .i64 (m.fdiv (2^min d.toNat 64)) 1=1)
def bitN(b:Bool)(k:Nat):Int:=if b=true then 2^k else 0
theorem has_bits: ∀b0 b1 b2 b3:Bool,hasI (0+bitN b0 0+bitN b1 1+bitN b2 2+bitN b3 3) 0=b0/\hasI (0+bitN b0 0+bitN b1 1+bitN b2 2+bitN b3 3) 1=b1/\hasI (0+bitN b0 0+bitN b1 1+bitN b2 2+bitN b3 3) 2=b2/\hasI (0+bitN b0 0+bitN b1 1+bitN b2 2+bitN b3 3) 3=b3:=by
 intro b0 b1 b2 b3;cases b0<;>cases b1<;>cases b2<;>cases b3<;>decide
theorem has_mask(s:Qaa)(f:Qae->Int)(p:Qae)(t:Int): ∀d:Nat,d<4->hasI (Qadf s f p t 4) d=decide (0<Quh s f p t d):=by
 intro d hd;have e:Qadf s f p t 4=0+bitN (decide (0<Quh s f p t ((0:Nat):Int))) 0+bitN (decide (0<Quh s f p t ((1:Nat):Int))) 1+bitN (decide (0<Quh s f p t ((2:Nat):Int))) 2+bitN (decide (0<Quh s f p t ((3:Nat):Int))) 3:=by
  simp only[Qadf,bitN,Zas]
 obtain⟨k0,k1,k2,k3⟩:=has_bits (decide (0<Quh s f p t ((0:Nat):Int))) (decide (0<Quh s f p t ((1:Nat):Int))) (decide (0<Quh s f p t ((2:Nat):Int))) (decide (0<Quh s f p t ((3:Nat):Int)));rw[e];rcases (by omega:d=0\/d=1\/d=2\/d=3) with rfl|rfl|rfl|rfl
 .exact k0
 .exact k1
 .exact k2
 .exact k3
theorem or_bit{m:Int}{k:Nat}(hk:k<4)(h0:0<=m)(h1:m<2^k):orI .i64 m (2^k)=m+2^k:=by
 rcases (by omega:k=0\/k=1\/k=2\/k=3) with rfl|rfl|rfl|rfl
 .obtain rfl:m=0:=by omega
  decide
 .rcases (by omega:m=0\/m=1) with rfl|rfl<;>decide
 .rcases (by omega:m=0\/m=1\/m=2\/m=3) with rfl|rfl|rfl|rfl<;>decide
 .rcases (by omega:m=0\/m=1\/m=2\/m=3\/m=4\/m=5\/m=6\/m=7) with rfl|rfl|rfl|rfl|rfl|rfl|rfl|rfl<;>decide
def idxO(l:List Opt)(q:Qae):Int:=Qaw (fun o:Opt=>decide (o.At=q)) 0 l
def ownN(l:List Opt)(m:Int)(p:Qae):Nat->List Int
 |0=>[]
 |d+1=>ownN l m p d++(if hasI m d=true/\0<=idxO l (Qf7 p d) then [idxO l (Qf7 p d)] else [])
def nd1(q:Qae)(m:Int)(p:Qae)(k:Nat):Nat->List Int
 |0=>[]
 |d+1=>nd1 q m p k d++(if hasI m d=true/\Qf7 p d=q then [(k:Int)] else [])
def ndK(l:List Opt)(m:Int)(p:Qae):Nat->List Int
 |0=>[]
 |k+1=>ndK l m p k++nd1 ((l[k]?.map Opt.At).getD ⟨0,0⟩) m p k 4
def Qade(l:List Opt)(ins:List Int):Nat->List (List Int)
 |0=>[]
 |i+1=>Qade l ins i++[ndK l (ins[i]?.getD 0) ((l[i]?.map Opt.At).getD ⟨0,0⟩) i]
theorem Qaf3{p:Qae}{d e:Nat}(hd:d<4)(he:e<4)(h:Qf7 p d=Qf7 p e):d=e:=by
 rcases (by omega:d=0\/d=1\/d=2\/d=3) with rfl|rfl|rfl|rfl<;>
 rcases (by omega:e=0\/e=1\/e=2\/e=3) with rfl|rfl|rfl|rfl<;>
 simp[Qf7] at h<;>omega
theorem Qafg{l:List Opt}{m:Int}{p:Qae}{x:Int}: ∀n,x∈ownN l m p n↔ ∃d,d<n/\hasI m (d:Nat)=true/\0<=x/\idxO l (Qf7 p (d:Nat))=x
 |0=>by simp[ownN]
 |n+1=>by
  simp only[ownN,Zao,Qafg n];constructor
  .rintro (⟨d,h1,h2⟩|h)
   .exact⟨d,by omega,h2⟩
   .split at h
    .rename_i c;rw[Zan] at h;exact⟨n,by omega,c.1,by rw[h];exact c.2,h.symm⟩
    .cases h
  .rintro⟨d,h1,h2,h3,h4⟩;by_cases hdn:d=n
   .subst hdn;right;rw[Zam ⟨h2,by rw[h4];exact h3⟩,Zan];exact h4.symm
   .exact .inl ⟨d,by omega,h2,h3,h4⟩
theorem Qae6{q:Qae}{m:Int}{p:Qae}{k:Nat}{x:Int}: ∀n,x∈nd1 q m p k n↔x=k/\ ∃d,d<n/\hasI m (d:Nat)=true/\Qf7 p (d:Nat)=q
 |0=>by simp[nd1]
 |n+1=>by
  simp only[nd1,Zao,Qae6 n];constructor
  .rintro (⟨h0,d,h1,h2⟩|h)
   .exact⟨h0,d,by omega,h2⟩
   .split at h
    .rename_i c;rw[Zan] at h;exact⟨h,n,by omega,c⟩
    .cases h
  .rintro⟨h0,d,h1,h2,h3⟩;by_cases hdn:d=n
   .subst hdn;right;rw[Zam ⟨h2,h3⟩,Zan];exact h0
   .exact .inl ⟨h0,d,by omega,h2,h3⟩
theorem Qaen{q:Qae}{m:Int}{p:Qae}{k:Nat}: ∀n,n<=4->(nd1 q m p k n).length<=1/\((nd1 q m p k n).length=1-> ∃d,d<n/\Qf7 p (d:Nat)=q)
 |0,_=>by simp[nd1]
 |n+1,hn=>by
  obtain⟨h1,h2⟩:=Qaen n (by omega) (q:=q) (m:=m) (p:=p) (k:=k);simp only[nd1];split
  .rename_i c;have h0:(nd1 q m p k n).length=0:=by
    rcases (by omega:(nd1 q m p k n).length=0\/(nd1 q m p k n).length=1) with h|h
    .exact h
    .obtain⟨d,hd,e⟩:=h2 h
     have:=Qaf3 (p:=p) (d:=d) (e:=n) (by omega) (by omega) (e.trans c.2.symm)
     omega
   refine⟨by rw[Zaz,h0];simp,fun _=>⟨n,by omega,c.2⟩⟩
  .rw[ZaJ];exact⟨h1,fun h=>by obtain⟨d,hd,e⟩:=h2 h;exact⟨d,by omega,e⟩⟩
theorem Qaem{l:List Opt}{m:Int}{p:Qae}{x:Int}: ∀n,n<=l.length->(x∈ndK l m p n↔ ∃k d,k<n/\d<4/\x=(k:Int)/\hasI m (d:Nat)=true/\l[k]?.map Opt.At=some (Qf7 p (d:Nat)))
 |0,_=>by simp[ndK]
 |n+1,hn=>by
  have hg:l[n]? =some l[n]:=Zac (by omega);simp only[ndK,Zao,Qaem (l:=l) n (by omega),Qae6];constructor
  .rintro (⟨k,d,h1,h2,h3⟩|⟨h0,d,h1,h2,h3⟩)
   .exact⟨k,d,by omega,h2,h3⟩
   .refine⟨n,d,by omega,h1,h0,h2,?_⟩;rw[hg] at h3⊢;simpa using h3.symm
  .rintro⟨k,d,h1,h2,h3,h4,h5⟩;by_cases hkn:k=n
   .subst hkn;right;refine⟨h3,d,h2,h4,?_⟩;rw[h5];rfl
   .exact .inl ⟨k,d,by omega,h2,h3,h4,h5⟩
theorem ndK_pw{l:List Opt}{m:Int}{p:Qae}: ∀n,n<=l.length->(ndK l m p n).Pairwise (fun x y=>x<y)
 |0,_=>by simp[ndK]
 |n+1,hn=>by
  simp only[ndK];rw[List.pairwise_append];refine⟨ndK_pw n (by omega),?_,?_⟩
  .have h:=(Qaen 4 (Zal _) (q:=(l[n]?.map Opt.At).getD ⟨0,0⟩) (m:=m) (p:=p) (k:=n)).1;generalize nd1 ((l[n]?.map Opt.At).getD ⟨0,0⟩) m p n 4=z at h
   match z,h with
   |[],_=>exact List.Pairwise.nil
   |[a],_=>exact List.pairwise_singleton ..
  .intro a ha b hb;rw[Qaem (l:=l) n (by omega)] at ha;rw[Qae6] at hb;obtain⟨k,d,h1,_,h3,_⟩:=ha;rw[h3,hb.1];omega
theorem idxO_get{l:List Opt}(hd:(l.map Opt.At).Nodup){q:Qae}{k:Nat}(h:l[k]?.map Opt.At=some q):idxO l q=k:=by
 rcases Qep (fun o:Opt=>decide (o.At=q)) l 0 with ⟨h1,h2⟩|⟨i,x,h1,h2,h3⟩
 .exfalso;cases hx:l[k]? with
  |none=>rw[hx] at h;cases h
  |some y=>
   rw[hx] at h
   have:=ZcS.1 h1 y (Zad hx)
   simp at this h;exact this h
 .have hxq:x.At=q:=by simpa using ZcL h1
  simp only[idxO,h2]
  have:i=k:=by
   have e1:(l.map Opt.At)[i]? =some q:=by rw[ZaG,h3];simp[hxq]
   have e2:(l.map Opt.At)[k]? =some q:=by rw[ZaG];exact h
   obtain⟨g1,f1⟩:=Zai.1 e1;obtain⟨g2,f2⟩:=Zai.1 e2;exact (List.getElem_inj hd).1 (f1.trans f2.symm)
  omega
theorem Qae5{l:List Opt}{q:Qae}{k:Int}(h:idxO l q=k)(h0:0<=k):l[k.toNat]?.map Opt.At=some q:=by
 rcases Qep (fun o:Opt=>decide (o.At=q)) l 0 with ⟨h1,h2⟩|⟨i,x,h1,h2,h3⟩
 .simp only[idxO,h2] at h;omega
 .have hxq:x.At=q:=by simpa using ZcL h1
  simp only[idxO,h2] at h;rw[show k.toNat=i by omega,h3];simp[hxq]
theorem Qaei{x:Qab}: ∀(l:List Opt) (b:Asm),x∈(Qac9 b l).Tiles↔x∈b.Tiles\/ ∃o∈l,x=⟨o.At,o.Tile⟩
 |[],b=>by simp[Qac9]
 |o::r,b=>by
  simp only[Qac9,Qaei r,Qi8,Qlc,ZaB];constructor
  .rintro ((h|h)|⟨y,hy,h⟩)
   .exact .inr ⟨o,.inl rfl,h⟩
   .exact .inl h
   .exact .inr ⟨y,.inr hy,h⟩
  .rintro (h|⟨y,rfl|hy,h⟩)
   .exact .inl (.inr h)
   .exact .inl (.inl h)
   .exact .inr ⟨y,hy,h⟩
theorem Qaf6{s:Qar}{b:Asm}{l:List Opt}(h:Qaec s b l):(l.map Opt.At).Nodup:=by
 rw[ZcR,List.pairwise_map,Zdr];intro i j hi hj hij heq;have h1:=(Qadk (h j l[j] (Zac hj)).1).2.2.2.2.2;refine h1 ⟨l[i].At,l[i].Tile⟩ ?_ heq;rw[Qaei];refine .inr ⟨l[i],?_,rfl⟩;rw[Zbi];exact⟨i,by rw[Zdv hij];exact Zac hi⟩
theorem at_mem{a:Asm}{q:Qae}(h:0<=atA a q): ∃x∈a.Tiles,x.At=q:=by
 simp only[atA] at h;cases hf:a.Tiles.find? (fun x=>decide (x.At=q)) with
 |none=>rw[hf] at h;simp at h
 |some x=>exact⟨x,ZcZ hf,by simpa using ZcL hf⟩
theorem need_law{s:Qar}{b:Asm}{l:List Opt}(h:Qaec s b l){i:Nat}{o:Opt}(ho:l[i]? =some o):
 sortI (ownN l (Qadf s.Set (atA (Qac9 b (l.take i))) o.At o.Tile 4) o.At 4)=ndK l (Qadf s.Set (atA (Qac9 b (l.take i))) o.At o.Tile 4) o.At i:=by
 obtain⟨m,hm⟩: ∃m,m=Qadf s.Set (atA (Qac9 b (l.take i))) o.At o.Tile 4:=⟨_,rfl⟩;rw[<-hm];have hil:i<l.length:=(Zai.1 ho).1;have hd:=Qaf6 h;have early: ∀d:Nat,d<4->hasI m d=true-> ∀k:Nat,l[k]?.map Opt.At=some (Qf7 o.At d)->k<i:=by
  intro d hd4 hb k hk;rcases Zbu k i with hlt|hge
  .exact hlt
  exfalso;rw[hm,has_mask _ _ _ _ d hd4,Zas] at hb;have h0:0<=atA (Qac9 b (l.take i)) (Qf7 o.At d):=by
   simp only[Quh] at hb;split at hb
   .assumption
   .omega
  obtain⟨x,hx,hxq⟩:=at_mem h0;cases hlk:l[k]? with
  |none=>rw[hlk] at hk;cases hk
  |some y=>
   rw[hlk] at hk;have hy:y.At=Qf7 o.At d:=by simpa using hk
   have h1:=(Qadk (h k y hlk).1).2.2.2.2.2;refine h1 x ?_ (hxq.trans hy.symm);rw[Qaei] at hx⊢;rcases hx with hx|⟨z,hz,e⟩
   .exact .inl hx
   .refine .inr ⟨z,?_,e⟩;obtain⟨j,hj⟩:=Zbi.1 hz;have hji:j<i:=by
     have:=(Zai.1 hj).1
     simp at this;omega
    rw[Zbi];exact⟨j,by rw[Zdv hji] at hj;rw[Zdv (by omega)];exact hj⟩
 have hmem: ∀x,x∈ownN l m o.At 4↔x∈ndK l m o.At i:=by
  intro x;rw[Qafg,Qaem i (by omega)];constructor
  .rintro⟨d,h1,h2,h3,h4⟩;have h5:=Qae5 h4 h3;exact⟨x.toNat,d,early d h1 h2 _ h5,h1,by omega,h2,h5⟩
  .rintro⟨k,d,h1,h2,h3,h4,h5⟩;exact⟨d,h2,h4,by omega,by rw[idxO_get hd h5,h3]⟩
 have hnd: ∀n,n<=4->(ownN l m o.At n).Nodup:=by
  intro n;induction n with
  |zero=>intro _;simp[ownN]
  |succ n ih=>
   intro hn;simp only[ownN];split
   .rename_i c;rw[Zcb];refine⟨ih (by omega),by simp,?_⟩;intro a ha z hz haz;rw[Zan] at hz;subst haz hz;rw[Qafg] at ha;obtain⟨d,h1,h2,h3,h4⟩:=ha;have e1:=Qae5 h4 h3;have e2:=Qae5 rfl h3
    have:=Qaf3 (p:=o.At) (d:=d) (e:=n) (by omega) (by omega) (Zaa (e1.symm.trans e2))
    omega
   .rw[ZaJ];exact ih (by omega)
 have hpw:=ndK_pw (l:=l) (m:=m) (p:=o.At) i (by omega);have hnd2:(ndK l m o.At i).Nodup:=ZcR.2 (hpw.imp (fun h=>by omega));have hp:(ownN l m o.At 4).Perm (ndK l m o.At i):=(List.perm_ext_iff_of_nodup (hnd 4 (Zal _)) hnd2).2 hmem;exact Zet (le:=fun x y=>x<=y) (fun a z _ _ h1 h2=>Int.le_antisymm h1 h2) (sortI_pw _) (hpw.imp (fun h=>by omega)) ((Qacq _).trans hp)
theorem bind_law(s:Qar)(b:Asm)(o:Opt):Qjm s.Set b o.At o.Tile 4=Qhs s.Set (atA b) o.At o.Tile 4:=(Qae8 ..).symm
def seqP(s:Qar)(l:List Opt):Prop:=setP s.Set/\Qn7 s.Set s.Seed/\s.Set.Tiles.length<=160/\s.Seed.Tiles.length<=1000000/\Qaec s s.Seed l/\l.length<=500
theorem shl_val{d:Nat}(hd:d<4):IntKind.i64.wrap (1*2^min d IntKind.i64.bits)=2^d:=by
 rcases (by omega:d=0\/d=1\/d=2\/d=3) with rfl|rfl|rfl|rfl<;>decide
theorem Qaew{d:Nat}(hd:d<4):(2:Int)^d<=8:=by
 rcases (by omega:d=0\/d=1\/d=2\/d=3) with rfl|rfl|rfl|rfl<;>decide
theorem Qaee(s:Qaa)(f:Qae->Int)(p:Qae)(t d:Int):0<Quh s f p t d↔(0<=f (Qf7 p d)/\0<Qfn s t d (f (Qf7 p d))):=by
 by_cases c:0<=f (Qf7 p d)
 .have e:Quh s f p t d=Qfn s t d (f (Qf7 p d)):=Zam c;rw[e];exact⟨fun h=>⟨c,h⟩,fun h=>h.2⟩
 .have e:Quh s f p t d=0:=Zaj c;rw[e];exact⟨fun h=>by omega,fun h=>(c h.1).elim⟩
theorem maskF_s(s:Qaa)(f:Qae->Int)(p:Qae)(t:Int)(d:Nat)(h:0<=f (Qf7 p d))(h2:0<Qfn s t d (f (Qf7 p d))):Qadf s f p t (d+1)=Qadf s f p t d+2^d:=by
 simp only[Qadf];rw[Zam ((Qaee ..).2 ⟨h,h2⟩)]
theorem Qaek(s:Qaa)(f:Qae->Int)(p:Qae)(t:Int)(d:Nat)(h: ¬(0<=f (Qf7 p d)/\0<Qfn s t d (f (Qf7 p d)))):Qadf s f p t (d+1)=Qadf s f p t d:=by
 simp only[Qadf];rw[Zaj (fun q=>h ((Qaee ..).1 q)),Int.add_zero]
def l10Inputs.ar:List PK->Option (Qar×(List Opt)):=a2 (kP Qar.d 4) (kS Opt.d)
def l10Inputs.ae(a:Qar×(List Opt)):List PK:=[.ptr (Qar.c a.1),.val (.sl false 3 (a.2.map Opt.c))]
def l10Inputs.fv(a:Qar×(List Opt)):(List Int)×(List Int):=(fun s l=>(insS s s.Seed l,smsS s s.Seed l)) (a.1) (a.2)
def l10Inputs.row:Row:=vrow l10Inputs.ar (fun a=>seqP a.1 a.2) (fun a=>(fun b=>D.tup [(fun b=>D.sl false 1 (b.map intC)) (b.1),(fun b=>D.sl false 1 (b.map intC)) (b.2)]) (l10Inputs.fv a))
def l10Inputs.q:=vq l10Inputs.row rfl
def YaT:=J @l10Inputs.ae.eq_1 (J @l10Inputs.fv.eq_1 (J @l03Own.q (J @l03Own.ar.eq_1 (J @l03Own.fv.eq_1 (J @l01Step.q (J @l01Step.ar.eq_1 (J @l01Step.fv.eq_1 (J @l03At.q (J @l03At.ar.eq_1 (J @l03At.fv.eq_1 (J @l02Bond.q (J @l02Bond.ar.eq_1 (J @l02Bond.fv.eq_1 (J @l06Binding.q (J @l06Binding.ar.eq_1 (J @l06Binding.fv.eq_1 (J @l03Put.q (J @l03Put.ar.eq_1 @l03Put.fv.eq_1))))))))))))))))))
theorem l10Inputs.ok:Qas Tryz.prog 82 l10Inputs.row:=by
 refine Qaj Qaq (tC l03Own.ok (tC l01Step.ok (tC l03At.ok (tC l02Bond.ok (tC l06Binding.ok (tC l03Put.ok tN)))))) Tryz.func82 rfl (by kernel_rfl) (by kernel_rfl) (ar:=l10Inputs.ar) (ae:=l10Inputs.ae) (Qaca (Qacc 4 Qar.d_le) (Qacb 3 Opt.d_le (fun _=>rfl))) (n:=2) (fun _=>rfl) (by decide) (rc:=(Qfa (vSl intD) (vSl intD))) (re:=(fun b=>D.tup [(fun b=>D.sl false 1 (b.map intC)) (b.1),(fun b=>D.sl false 1 (b.map intC)) (b.2)])) (Qbz (Qe8 Qb3 (fun _=>rfl)) (Qe8 Qb3 (fun _=>rfl))) (f:=l10Inputs.fv) ?_;intro a hpre;simp only[Tryz.f82,Option.getD];simp (maxSteps:=10^7) (disch:=omega) only[ZZ,simprocAttr,rch,YaT];obtain⟨s,l⟩:=a;simp only at hpre⊢;obtain⟨h1,h2,h3,h4,h5,h6⟩:=hpre;refine⟨h4,?_⟩;refine Qay.ren ⟨{k:Nat//k<=l.length},fun k=>⟨[(9,.im (.int .i64 k.1)),(8,.own 7),(7,.own 6),(6,.ptr 3 0),(0,.ptr 0 0),(1,.im (.sl false 3 (l.map Opt.c)))],[(7,(true,.arr 2 1 ((smsS s s.Seed (l.take k.1)).map intC))),(6,(true,.arr 2 1 ((insS s s.Seed (l.take k.1)).map intC))),(3,(true,.cells 42 [.im (.sl false 3 ((Qac9 s.Seed (l.take k.1)).Tiles.map Qab.c))])),(0,(false,.view (Qar.c s)))],8⟩,fun k=>l.length - k.1,fun k=>⟨by simp[Qad.good,belT,belH,Qam,AV.bel,belL],by simp⟩,⟨⟨0,by simp⟩,[(7,some 5),(6,some 4)],?_⟩,fun k=> ?_⟩
 .simp only[subP];simp (maxSteps:=10^7) (disch:=omega) only[ZZ,simprocAttr,rch,YaT,ZbL,insS,smsS,Qac9,ZaS]
  try simp
 obtain⟨k,hk1⟩:=k;simp (maxSteps:=10^7) (disch:=omega) only[ZZ,simprocAttr,rch,YaT,sub,Qal];intro _;obtain⟨b,hb⟩: ∃b,b=Qac9 s.Seed (l.take k):=⟨_,rfl⟩;have hbi:Qn7 s.Set b:=by rw[hb];exact Qafb h3 h2 h5 k hk1
 rw[<-hb];refine⟨fun hk=>⟨hk,fun x hx=> ?_⟩,fun hk=> ?_⟩
 .have hc:=Qadk (h5 k x hx).1;rw[<-hb] at hc;obtain⟨g1,g2,g3,g4,g5,g6⟩:=hc;refine Qay.old ⟨{d:Nat//d<=4},fun d=>⟨[(12,.im (.int .i64 d.1)),(11,.im (.int .i64 (Qadf s.Set (atA b) x.At x.Tile d.1))),(10,.ptr 8 0),(9,.im (.int .i64 k)),(8,.own 7),(7,.own 6),(6,.ptr 3 0),(0,.ptr 0 0),(1,.im (.sl false 3 (l.map Opt.c)))],[(8,(true,.cells 82 ((Opt.c x).map .im))),(7,(true,.arr 2 1 ((smsS s s.Seed (l.take k)).map intC))),(6,(true,.arr 2 1 ((insS s s.Seed (l.take k)).map intC))),(3,(true,.cells 42 [.im (.sl false 3 (b.Tiles.map Qab.c))])),(0,(false,.view (Qar.c s)))],9⟩,fun d=>4 - d.1,fun d=>⟨by simp[Qad.good,belT,belH,Qam,AV.bel,belL,Opt.c],by simp⟩,⟨⟨0,by simp⟩,by simp (maxSteps:=10^7) (disch:=omega) only[ZZ,simprocAttr,rch,YaT,sub,Qadf]⟩,fun d=> ?_⟩;obtain⟨d,hd1⟩:=d;simp (maxSteps:=10^7) (disch:=omega) only[ZZ,simprocAttr,rch,YaT,sub,Qal];have hmb:=Qafe s.Set (atA b) x.At x.Tile d;refine⟨fun hd=> ?_,fun hd=> ?_⟩
  .have hd4:d<4:=by omega
   have hp8:=Qaew hd4;refine⟨⟨g2,by omega⟩,hbi.1,fun c1=>⟨⟨h1,g5,⟨by omega,by omega⟩,Qafx hbi _ c1⟩,fun c2=> ?_,fun c2=> ?_⟩,fun c1=> ?_⟩
   .refine⟨⟨d+1,by omega⟩,by simp only;omega,by rw[Qak (by omega) (by omega)];simp only;omega,?_⟩;rw[shl_val hd4,Qak (by omega) (by omega),maskF_s _ _ _ _ _ c1 c2]
   .refine⟨⟨d+1,by omega⟩,by simp only;omega,by rw[Qak (by omega) (by omega)];simp only;omega,?_⟩;rw[Qaek _ _ _ _ _ (fun h=>c2 h.2)]
   .refine⟨⟨d+1,by omega⟩,by simp only;omega,by rw[Qak (by omega) (by omega)];simp only;omega,?_⟩;rw[Qaek _ _ _ _ _ (fun h=>c1 h.1)]
  .have hd4:d=4:=by omega
   subst hd4;have hbl:=(h5 k x hx).2;rw[<-hb] at hbl;refine⟨by simp[OneR,allD,D.one],by rw[Qadv,Zat];omega,⟨h1,hbi,g2,g5⟩,by simp[OneR,allD,D.one],by rw[Qael,Zat];omega,by omega,⟨k+1,by omega⟩,[(7,some 12),(6,some 10)],by simp only;omega,?_⟩;simp only[subP,Qwe hx,Qad8,Qad9,Qadp,<-hb];simp (maxSteps:=10^7) (disch:=omega) only[ZZ,simprocAttr,rch,YaT,Zag,Zaf];refine⟨by rw[Qak (by omega) (by omega)];omega,?_,?_⟩
   .simp[intC,bind_law]
   .simp[intC]
 .rw[Zav (by omega)]
  try trivial
def Qadm(s:Qar)(l:List Opt):List (List Int):=Qade l (insS s s.Seed l) l.length
theorem has_eq(m:Int)(d:Nat):(hasI m d=true)=(andI .i64 (m.fdiv (2^min d IntKind.i64.bits)) 1=1):=by
 simp only[hasI,Zas,Zak];rfl
theorem pt_eq2{p q:Qae}:((p.X==q.X)=true/\(p.Y==q.Y)=true)↔p=q:=by
 cases p;cases q;simp
theorem ndK_len(l:List Opt)(m:Int)(p:Qae): ∀n,(ndK l m p n).length<=n
 |0=>by simp[ndK]
 |n+1=>by
  have h1:=ndK_len l m p n;have h2:=(Qaen 4 (Zal _) (q:=(l[n]?.map Opt.At).getD ⟨0,0⟩) (m:=m) (p:=p) (k:=n)).1;simp only[ndK,Zaz];omega
theorem Qadb(l:List Opt)(ins:List Int): ∀n,(Qade l ins n).length=n
 |0=>rfl
 |n+1=>by simp only[Qade,Zaz,Qadb l ins n,ZcY]
def l12Needs.ar:List PK->Option (Qar×(List Opt)):=a2 (kP Qar.d 4) (kS Opt.d)
def l12Needs.ae(a:Qar×(List Opt)):List PK:=[.ptr (Qar.c a.1),.val (.sl false 3 (a.2.map Opt.c))]
def l12Needs.fv(a:Qar×(List Opt)):List (List Int):=(Qadm) (a.1) (a.2)
def l12Needs.row:Row:=vrow l12Needs.ar (fun a=>seqP a.1 a.2) (fun a=>(fun b=>D.sl false 1 (b.map Qcd)) (l12Needs.fv a))
def l12Needs.q:=vq l12Needs.row rfl
def YaU:=J @l12Needs.ae.eq_1 (J @l12Needs.fv.eq_1 (J @l10Inputs.q (J @l10Inputs.ar.eq_1 (J @l10Inputs.fv.eq_1 (J @l01Step.q (J @l01Step.ar.eq_1 @l01Step.fv.eq_1))))))
theorem l12Needs.ok:Qas Tryz.prog 43 l12Needs.row:=by
 refine Qaj Qaq (tC l10Inputs.ok (tC l01Step.ok tN)) Tryz.func43 rfl (by kernel_rfl) (by kernel_rfl) (ar:=l12Needs.ar) (ae:=l12Needs.ae) (Qaca (Qacc 4 Qar.d_le) (Qacb 3 Opt.d_le (fun _=>rfl))) (n:=2) (fun _=>rfl) (by decide) (rc:=(vSl Qpb)) (re:=(fun b=>D.sl false 1 (b.map Qcd))) (Qe8 Qj4 (fun _=>rfl)) (f:=l12Needs.fv) ?_;intro a hpre;simp only[Tryz.f43,Option.getD];simp (maxSteps:=10^7) (disch:=omega) only[ZZ,simprocAttr,rch,YaU];obtain⟨s,l⟩:=a;simp only at hpre⊢;refine⟨hpre,?_⟩;obtain⟨h1,h2,h3,h4,h5,h6⟩:=hpre;obtain⟨ins,hins⟩: ∃ins,ins=insS s s.Seed l:=⟨_,rfl⟩;have hil:ins.length=l.length:=by rw[hins,Qadv]
 simp only[Qadm,<-hins];refine Qay.frr ⟨{k:Nat//k<=l.length},fun k=>⟨[(8,.im (.int .i64 k.1)),(7,.own 3),(5,.im (.sl false 1 (ins.map intC))),(0,.ptr 0 0),(1,.im (.sl false 3 (l.map Opt.c)))],[(3,(true,.arrA 51 1 (imR ((Qade l ins k.1).map Qcd)))),(0,(false,.view (Qar.c s)))],4⟩,fun k=>l.length - k.1,fun k=>⟨by simp[Qad.good,belT,belH,Qam,AV.bel,belL,Qxu],by simp⟩,⟨⟨0,by simp⟩,[],[(3,some 2)],?_⟩,fun k=> ?_⟩
 .simp only[subP];simp (maxSteps:=10^7) (disch:=omega) only[ZZ,simprocAttr,rch,YaU,Zag,Zaf,Qade,ZaS,Qafa]
  try simp
 obtain⟨k,hk1⟩:=k;simp (maxSteps:=10^7) (disch:=omega) only[ZZ,simprocAttr,rch,YaU,sub,Qal,hil];intro _;refine⟨fun hk=> ?_,fun hk=> ?_⟩
 .obtain⟨o,ho⟩: ∃o,l[k]? =some o:=⟨_,Zac hk⟩;obtain⟨mi,hmi⟩: ∃mi,ins[k]? =some mi:=⟨_,Zac (by omega)⟩;have hsm:=(Qadk (h5 k o ho).1).2.1;refine Qay.ren ⟨{m:Nat//m<=k},fun m=>⟨[(10,.im (.int .i64 m.1)),(9,.own 5),(8,.im (.int .i64 k)),(7,.own 3),(5,.im (.sl false 1 (ins.map intC))),(0,.ptr 0 0),(1,.im (.sl false 3 (l.map Opt.c)))],[(5,(true,.arr 2 1 ((ndK l mi o.At m.1).map intC))),(3,(true,.arrA 51 1 (imR ((Qade l ins k).map Qcd)))),(0,(false,.view (Qar.c s)))],6⟩,fun m=>k - m.1,fun m=>⟨by simp[Qad.good,belT,belH,Qam,AV.bel,belL,Qxu],by simp⟩,⟨⟨0,by simp⟩,[(5,some 4)],?_⟩,fun m=> ?_⟩
  .simp only[subP];simp (maxSteps:=10^7) (disch:=omega) only[ZZ,simprocAttr,rch,YaU,Zag,Zaf,ndK,ZaS,Qsg]
   try simp
  obtain⟨m,hm1⟩:=m;simp (maxSteps:=10^7) (disch:=omega) only[ZZ,simprocAttr,rch,YaU,sub,Qal];refine⟨fun hm=> ?_,fun hm=> ?_⟩
  .obtain⟨q,hq⟩: ∃q,l[m]? =some q:=⟨_,Zac (by omega)⟩;refine Qay.ren ⟨{d:Nat//d<=4},fun d=>⟨[(11,.im (.int .i64 d.1)),(10,.im (.int .i64 m)),(9,.own 6),(8,.im (.int .i64 k)),(7,.own 3),(5,.im (.sl false 1 (ins.map intC))),(0,.ptr 0 0),(1,.im (.sl false 3 (l.map Opt.c)))],[(6,(true,.arr 2 1 ((ndK l mi o.At m++nd1 q.At mi o.At m d.1).map intC))),(3,(true,.arrA 51 1 (imR ((Qade l ins k).map Qcd)))),(0,(false,.view (Qar.c s)))],7⟩,fun d=>4 - d.1,fun d=>⟨by simp[Qad.good,belT,belH,Qam,AV.bel,belL,Qxu],by simp⟩,⟨⟨0,by simp⟩,[(6,some 5)],?_⟩,fun d=> ?_⟩
   .simp only[subP];simp (maxSteps:=10^7) (disch:=omega) only[ZZ,simprocAttr,rch,YaU,Zag,Zaf,nd1,ZaJ,Qsg]
    try simp
   obtain⟨d,hd1⟩:=d;simp (maxSteps:=10^7) (disch:=omega) only[ZZ,simprocAttr,rch,YaU,sub,Qal,hil];have hl1:=ndK_len l mi o.At m;have hl2:=Qaen d hd1 (q:=q.At) (m:=mi) (p:=o.At) (k:=m);have hR:(ndK l mi o.At m++nd1 q.At mi o.At m d).length<=1000:=by rw[Zaz];omega
   refine⟨fun hd=>⟨hk,fun x hx=> ?_⟩,fun hd=> ?_⟩
   .obtain rfl:mi=x:=Zaa (hmi.symm.trans hx);simp only[<-has_eq];refine⟨fun c1=>⟨hk,fun y hy=> ?_⟩,fun c1=>⟨⟨d+1,by omega⟩,[(6,some 6)],by simp only;omega,?_⟩⟩
    .obtain rfl:o=y:=Zaa (ho.symm.trans hy);refine⟨⟨hsm,by omega⟩,by omega,fun z hz=> ?_⟩;obtain rfl:q=z:=Zaa (hq.symm.trans hz);refine⟨fun c2=>⟨by simp[OneR,allD,D.one],by omega,⟨d+1,by omega⟩,[(6,some 8)],by simp only;omega,?_⟩,fun c2=>⟨⟨d+1,by omega⟩,[(6,some 6)],by simp only;omega,?_⟩⟩
     .rw[pt_eq2] at c2;simp only[subP];simp (maxSteps:=10^7) (disch:=omega) only[ZZ,simprocAttr,rch,YaU,Zag,Zaf,Qsg];refine⟨by rw[Qak (by omega) (by omega)];omega,?_⟩;simp only[nd1];rw[Zam ⟨c1,c2⟩];simp[intC]
     .rw[pt_eq2] at c2;simp only[subP];simp (maxSteps:=10^7) (disch:=omega) only[ZZ,simprocAttr,rch,YaU,Zag,Zaf,Qsg];refine⟨by rw[Qak (by omega) (by omega)];omega,?_⟩;simp only[nd1];rw[Zaj (fun h=>c2 h.2),ZaJ]
    .simp only[subP];simp (maxSteps:=10^7) (disch:=omega) only[ZZ,simprocAttr,rch,YaU,Zag,Zaf,Qsg];refine⟨by rw[Qak (by omega) (by omega)];omega,?_⟩;simp only[nd1];rw[Zaj (fun h=>c1 h.1),ZaJ]
   .have hd4:d=4:=by omega
    subst hd4;refine⟨⟨m+1,by omega⟩,[(5,some 6)],by simp only;omega,?_⟩;simp only[subP];simp (maxSteps:=10^7) (disch:=omega) only[ZZ,simprocAttr,rch,YaU,Zag,Zaf,Qsg];refine⟨by rw[Qak (by omega) (by omega)];omega,?_⟩;simp only[ndK,hq,ZaN,Zae]
  .have hmk:m=k:=by omega
   subst hmk;have hnl:=Qadb l ins m;refine⟨by simp[belL,AV.bel],by simp[OneR,Qhz,AV.one],by omega,by rw[ZcD,Qaeq];simp[belL,AV.bel],⟨m+1,by omega⟩,[5],[(3,some 7)],by simp only;omega,?_⟩;have e1:Qade l ins (m+1)=Qade l ins m++[ndK l mi o.At m]:=by
    simp only[Qade,hmi,ho,ZaN,Zae]
   simp only[subP];simp (maxSteps:=10^7) (disch:=omega) only[ZZ,simprocAttr,rch,YaU,Zag,Zaf,Qzl,Qzb,e1,Zbb,Zap,ZaS];rw[Qak (by omega) (by omega)];refine⟨by simp,?_⟩
   have:=Qzo [(3,some 7)] ((Qade l ins m).map Qcd++[[D.sl false 1 ((ndK l mi o.At m).map intC)]])
   simpa only[imR,Zbb,Zap,ZaS] using this
 .have hkl:k=l.length:=by omega
  subst hkl;simp (maxSteps:=10^7) (disch:=omega) only[ZZ,simprocAttr,rch,YaU,Qae4]
theorem rm_free{s:Qar}{t:List (Qae×Int)}{a:Asm}{k:Nat}{o:Opt}(h:RM t a k)(ha:Qn7 s.Set a)(c1:canS s a o=true):lkP t o.At=none/\0<=o.Tile:=by
 simp only[canS,Zah,Zas] at c1;obtain⟨d1,d2,d3,_⟩:=c1;have hv:0<=o.Tile:=by
  simp only[Qau,Zah,Zas] at d2;exact d2.1
 refine⟨?_,hv⟩;have h1:Qbw t o.At=atA a o.At:=congrFun h.at o.At;have h2:=(idx_at ha.2 o.At).1 d3;cases hq:lkP t o.At with
 |none=>rfl
 |some v=>
  exfalso;have h3:=h.pos _ (Qac0 hq);simp only[Qbw,hq,Zae] at h1;simp only at h3;omega
def plD:D->Option (Option Pld)
 | .ref ds=>(Pld.d (ds.take 8)).map some
 | .nilp=>some none
 |_=>none
def plE:Option Pld->D
 |some x=> .ref (Pld.c x)
 |none=> .nilp
theorem plD_le: ∀d b,plD d=some b->Le d (plE b):=by
 intro d b h;unfold plD at h;split at h
 .simp only[Zaw] at h;obtain⟨x,h1,rfl⟩:=h;exact Qil (LeP.trans_take (Pld.d_le _ _ h1))
 .obtain rfl:=Zaa h;exact Le.refl _
 .cases h
theorem plD_ref(x:Pld):plD (.ref (Pld.c x))=some (some x):=by
 show (Pld.d (Pld.c x)).map some=_;rw[Pld.d_c];rfl
theorem bindF_s(s:Qaa)(f:Qae->Int)(p:Qae)(t:Int)(d:Nat)(h:0<=f (Qf7 p d)):Qhs s f p t (d+1)=Qhs s f p t d+Qfn s t d (f (Qf7 p d)):=by
 have e:Quh s f p t d=Qfn s t d (f (Qf7 p d)):=Zam h;simp only[Qhs,e]
theorem bindF_n{s:Qaa}(hs:setP s)(f:Qae->Int)(p:Qae)(t:Int)(d:Nat)(h: ¬(0<=f (Qf7 p d)/\0<Qfn s t d (f (Qf7 p d)))):Qhs s f p t (d+1)=Qhs s f p t d:=by
 have h1:=Qxd hs f p t d;have h2: ¬0<Quh s f p t d:=fun q=>h ((Qaee ..).1 q)
 simp only[Qhs];omega
def Qae2(s:Qar)(l:List Opt):Option Pld×Int:=if (seqS s l).2.2≠0 then (none,(seqS s l).2.2) else (some ⟨s,l,(seqS s l).1,insS s s.Seed l,smsS s s.Seed l⟩,0)
theorem Qafm{s:Qar}{l:List Opt}(h:(seqS s l).2.2=0):(seqS s l).1=Qac9 s.Seed l/\seqP s l/\Qjc s=true:=by
 obtain⟨h1,h2⟩:=seq_ok h;obtain⟨⟨q1,q2,q3,q4⟩,_⟩:=Qacj h1;have e:seqS s l=Qacg s s.Seed l 0:=by
  simp only[seqS];rw[Zaj (by rw[h1];decide),Zaj (by omega)]
 rw[e] at h⊢;obtain⟨p1,p2⟩:=Qaez l s.Seed 0 h;exact⟨by rw[p1],⟨q1,q2,q3,q4,p2,h2⟩,h1⟩
def play_.ar:List PK->Option (Qar×(List Opt)):=a2 (kR Qar.d) (kS Opt.d)
def play_.ae(a:Qar×(List Opt)):List PK:=[.val (.agg (Qar.c a.1)),.val (.sl false 3 (a.2.map Opt.c))]
def play_.fv(a:Qar×(List Opt)):(Option Pld)×Int:=(Qae2) (a.1) (a.2)
def play_.row:Row:=vrow play_.ar (fun a=>Qf6 a.1.Set) (fun a=>(fun b=>D.tup [(plE) (b.1),(D.int .i64) (b.2)]) (play_.fv a))
def play_.q:=vq play_.row rfl
def YaV:=J @play_.ae.eq_1 (J @play_.fv.eq_1 (J @PlayI_.q (J @PlayI_.ar.eq_1 (J @PlayI_.fv.eq_1 (J @step_.q (J @step_.ar.eq_1 (J @step_.fv.eq_1 (J @step_.re.eq_1 (J @catC.q (J @catC.ar.eq_1 (J @catC.fv.eq_1 (J @bond_.q (J @bond_.ar.eq_1 (J @bond_.fv.eq_1 @bond_.re.eq_1))))))))))))))
theorem play_.ok:Qas Tryz.prog 47 play_.row:=by
 refine Qaj Qaq (tC PlayI_.ok (tC newC.ok (tC step_.ok (tC catC.ok (tC bond_.ok (tC putC.ok tN)))))) Tryz.func47 rfl (by kernel_rfl) (by kernel_rfl) (ar:=play_.ar) (ae:=play_.ae) (Qaca (Qab8 Qar.d_le) (Qacb 3 Opt.d_le (fun _=>rfl))) (n:=2) (fun _=>rfl) (by decide) (rc:=(Qfa (plD) (vInt))) (re:=(fun b=>D.tup [(plE) (b.1),(D.int .i64) (b.2)])) (Qbz (plD_le) (Qa3)) (f:=play_.fv) ?_;intro a hpre;simp only[Tryz.f47,Option.getD];simp (maxSteps:=10^7) (disch:=omega) only[ZZ,simprocAttr,rch,YaV];obtain⟨s,l⟩:=a;simp only at hpre⊢;refine⟨hpre,?_⟩;simp only[seq_law];by_cases c0:(seqS s l).2.2=0
 case neg=>
  rw[Zam c0];simp only[Qae2,plD,Zbj];rw[Zam c0]
 rw[Zaj (fun h=>h c0)];have eR:Qae2 s l=(some ⟨s,l,(seqS s l).1,insS s s.Seed l,smsS s s.Seed l⟩,0):=by
  simp only[Qae2];rw[Zaj (fun h=>h c0)]
 obtain⟨hE,⟨q1,q2,q3,q4,q5,q6⟩,hso⟩:=Qafm c0;obtain⟨_,q7,q8⟩:=Qacj hso;have hbp:=Qof (s:=s.Set) (a:=s.Seed) (by rw[q7,q8];rfl);have hnp:newC.pre (s,s.Seed):=⟨q1,by simp only;omega,fun y hy=>⟨q2.2 y hy,hbp.1.2.2.2 y hy⟩⟩;obtain⟨e,he⟩: ∃e,e=(seqS s l).1:=⟨_,rfl⟩;rw[eR];simp only[<-he];refine orow.os (s,s.Seed) [] hnp (fun j=>by simp[domB,hget]) rfl rfl ?_ ?_
 .simp (maxSteps:=10^7) (disch:=omega) only[ZZ,simprocAttr,rch,YaV,newC.ca,Qer,Qar.c,Asm.c]
 simp (maxSteps:=10^7) (disch:=omega) only[ZZ,simprocAttr,rch,YaV,newC.H1,sub,Zbx,ZbV];intro _;refine Qay.ren ⟨{k:Nat×List (Qae×Int)×List (Qae×List Int)//k.1<=l.length/\ ∃n,RM k.2.1 (Qac9 s.Seed (l.take k.1)) n},fun k=>⟨[(39,.im (.int .i64 k.1.1)),(38,.im (.int .i64 l.length)),(37,.im (.sl false 3 (l.map Opt.c))),(10,.ptr 7 0),(9,.ptr 2 0),(5,.im (.int .i64 0)),(2,.ptr 0 0)],[(2,(true,.cells 133 [.im (.sl false 2 (s.Set.Glues.map Glue.c)),.im (.sl false 2 (s.Set.Tiles.map Tile.c)),.im (.sl false 3 (s.Seed.Tiles.map Qab.c)),.im (.int .i64 s.Temperature),.im (.sl false 3 (l.map Opt.c)),.im (.sl false 3 (e.Tiles.map Qab.c)),.own 8,.own 9])),(9,(true,.arr 2 1 ((smsS s s.Seed (l.take k.1.1)).map intC))),(8,(true,.arr 2 1 ((insS s s.Seed (l.take k.1.1)).map intC))),(7,(true,.cells 185 [.im (.sl false 2 (s.Set.Glues.map Glue.c)),.im (.sl false 2 (s.Set.Tiles.map Tile.c)),.im (.sl false 3 (s.Seed.Tiles.map Qab.c)),.im (.int .i64 s.Temperature),.mp 5,.mp 6])),
  (5,(true,.map ⟨true,[.int .i64,.int .i64]⟩ (k.1.2.1.map Qbe))),(6,(true,.map ⟨true,[.int .i64,.int .i64]⟩ (k.1.2.2.map Qbc))),(0,(true,.cells 44 ((Qar.c s).map .im)))],10⟩,fun k=>l.length - k.1.1,fun k=>⟨by simp[Qad.good,belT,belH,Qam,AV.bel,belL,Qar.c],by simp⟩,⟨⟨(0,(Qui s s.Seed).Tl,(Qui s s.Seed).Op),by simp only;exact⟨Zbm _,_,RM.of q2.1 (fun x hx=>(q2.2 x hx).1)⟩⟩,[(9,none),(8,none)],?_⟩,fun k=> ?_⟩
 .simp only[subP];simp (maxSteps:=10^7) (disch:=omega) only[ZZ,simprocAttr,rch,YaV,ZbL,insS,smsS,Qac9,ZaS]
  try simp
 obtain⟨⟨k,tl,op⟩,hk1,n,hrm⟩:=k;simp only at hk1 hrm;simp (maxSteps:=10^7) (disch:=omega) only[ZZ,simprocAttr,rch,YaV,sub,Qal];obtain⟨b,hb⟩: ∃b,b=Qac9 s.Seed (l.take k):=⟨_,rfl⟩;have hbi:Qn7 s.Set b:=by rw[hb];exact Qafb q3 q2 q5 k hk1
 rw[<-hb] at hrm;have hat:=hrm.at;refine⟨fun hk=>⟨hk,fun x hx=> ?_⟩,fun hk=> ?_⟩
 .obtain⟨cS,cL⟩:=q5 k x hx;rw[<-hb] at cS cL;obtain⟨g1,g2,g3,g4,g5,g6⟩:=Qadk cS;refine Qay.old ⟨{d:Nat//d<=4},fun d=>⟨[(43,.im (.int .i64 d.1)),(14,.im (.int .i64 (Qhs s.Set (atA b) x.At x.Tile d.1))),(13,.im (.int .i64 (Qadf s.Set (atA b) x.At x.Tile d.1))),(12,.ptr 10 0),(39,.im (.int .i64 k)),(38,.im (.int .i64 l.length)),(37,.im (.sl false 3 (l.map Opt.c))),(10,.ptr 7 0),(9,.ptr 2 0),(5,.im (.int .i64 0)),(2,.ptr 0 0)],[(10,(true,.cells 82 ((Opt.c x).map .im))),(2,(true,.cells 133 [.im (.sl false 2 (s.Set.Glues.map Glue.c)),.im (.sl false 2 (s.Set.Tiles.map Tile.c)),.im (.sl false 3 (s.Seed.Tiles.map Qab.c)),.im (.int .i64 s.Temperature),.im (.sl false 3 (l.map Opt.c)),.im (.sl false 3 (e.Tiles.map Qab.c)),.own 8,.own 9])),(9,(true,.arr 2 1 ((smsS s s.Seed (l.take k)).map intC))),(8,(true,.arr 2 1 ((insS s s.Seed (l.take k)).map intC))),(7,(true,.cells 185 [.im (.sl false 2 (s.Set.Glues.map Glue.c)),.im (.sl false 2 (s.Set.Tiles.map Tile.c)),.im (.sl false 3 (s.Seed.Tiles.map Qab.c)),.im (.int .i64 s.Temperature),.mp 5,.mp 6])),
   (5,(true,.map ⟨true,[.int .i64,.int .i64]⟩ (tl.map Qbe))),(6,(true,.map ⟨true,[.int .i64,.int .i64]⟩ (op.map Qbc))),(0,(true,.cells 44 ((Qar.c s).map .im)))],11⟩,fun d=>4 - d.1,fun d=>⟨by simp[Qad.good,belT,belH,Qam,AV.bel,belL,Qar.c,Opt.c],by simp⟩,⟨⟨0,by simp⟩,by simp (maxSteps:=10^7) (disch:=omega) only[ZZ,simprocAttr,rch,YaV,sub,Qadf,Qhs]⟩,fun d=> ?_⟩
  obtain⟨d,hd1⟩:=d;simp (maxSteps:=10^7) (disch:=omega) only[ZZ,simprocAttr,rch,YaV,sub,Qal,hat];have hmb:=Qafe s.Set (atA b) x.At x.Tile d;have hbb:=Qwy q1 (atA b) x.At x.Tile d;have htb:=Qxd q1 (atA b) x.At x.Tile d;refine⟨fun hd=> ?_,fun hd=> ?_⟩
  .have hd4:d<4:=by omega
   have hp8:=Qaew hd4;refine⟨⟨g2,by omega⟩,fun c1=>⟨⟨q1,g5,⟨by omega,by omega⟩,Qafx hbi _ c1⟩,fun c2=> ?_,fun c2=> ?_⟩,fun c1=> ?_⟩
   .have ht:Quh s.Set (atA b) x.At x.Tile d=Qfn s.Set x.Tile d (atA b (Qf7 x.At d)):=Zam c1;rw[ht] at htb;refine⟨⟨d+1,by omega⟩,by simp only;omega,by rw[Qak (by omega) (by omega)];simp only;omega,?_,?_⟩
    .rw[Qak (by omega) (by omega),bindF_s _ _ _ _ _ c1]
    .rw[shl_val hd4,or_bit hd4 hmb.1 hmb.2,maskF_s _ _ _ _ _ c1 c2]
   .refine⟨⟨d+1,by omega⟩,by simp only;omega,by rw[Qak (by omega) (by omega)];simp only;omega,?_,?_⟩
    .rw[bindF_n q1 _ _ _ _ (fun h=>c2 h.2)]
    .rw[Qaek _ _ _ _ _ (fun h=>c2 h.2)]
   .refine⟨⟨d+1,by omega⟩,by simp only;omega,by rw[Qak (by omega) (by omega)];simp only;omega,?_,?_⟩
    .rw[bindF_n q1 _ _ _ _ (fun h=>c1 h.1)]
    .rw[Qaek _ _ _ _ _ (fun h=>c1 h.1)]
  .have hd4:d=4:=by omega
   subst hd4;refine⟨by simp[OneR,allD,D.one],by rw[Qadv,Zat];omega,by simp[OneR,allD,D.one],by rw[Qael,Zat];omega,?_⟩;have hin:inF s.Set (Qbw tl):=by rw[hat];exact fun p hp=>Qafx hbi p hp
   have hcr:Qacu ⟨s,tl,op⟩:=⟨q1,hin,by simp only;omega⟩;obtain⟨f1,f2⟩:=rm_free hrm hbi cS;refine orow.os (⟨s,tl,op⟩,x.At,x.Tile) [7,5,6] ⟨hcr,g2,g5⟩ (fun j=>Qack _ j) rfl rfl ?_ ?_
   .simp (maxSteps:=10^7) (disch:=omega) only[ZZ,simprocAttr,rch,YaV,putC.ca,cryH,Qbk,Zbe,Zbx,ZbV]
   .simp (maxSteps:=10^7) (disch:=omega) only[ZZ,simprocAttr,rch,YaV,putC.H1,kl12,sub,putT,Zbx,ZbV];refine⟨⟨(k+1,updP tl x.At x.Tile,Qrz s (Qbw (updP tl x.At x.Tile)) (delP op x.At) x.At 4),by simp only;exact⟨by omega,_,by rw[Qwe hx,Qadp,<-hb];exact hrm.put f2 f1⟩⟩,[(9,some 14),(8,some 12)],by simp only;omega,?_⟩;simp only[subP,Qwe hx,Qad8,Qad9,<-hb];simp (maxSteps:=10^7) (disch:=omega) only[ZZ,simprocAttr,rch,YaV,Zag,Zaf];refine⟨by rw[Qak (by omega) (by omega)];omega,?_,?_⟩<;>simp[intC]
 .rw[Zav (by omega)]
  have:=plD_ref ⟨s,l,e,insS s s.Seed l,smsS s s.Seed l⟩
  simp only[Pld.c] at this;rw[this];rfl
def has_.ar:List PK->Option (Int×Int):=a2 kI kI
def has_.ae(a:Int×Int):List PK:=[.val (.int .i64 a.1),.val (.int .i64 a.2)]
def has_.fv(a:Int×Int):Bool:=(hasI) (a.1) (a.2)
def has_.row:Row:=vrow has_.ar (fun a=>0<=a.2/\a.2<=62) (fun a=>(D.bool) (has_.fv a))
def has_.q:=vq has_.row rfl
theorem has_.ok:Qas Tryz.prog 95 has_.row:=by
 refine Qaj Qaq tN Tryz.func95 rfl (by kernel_rfl) (by kernel_rfl) (ar:=has_.ar) (ae:=has_.ae) (Qaca Qab9 Qab9) (n:=2) (fun _=>rfl) (by decide) (rc:=(Qa8)) (re:=(D.bool)) (Qat) (f:=has_.fv) ?_;intro a hpre;simp only[Tryz.f95,Option.getD];simp (maxSteps:=10^7) (disch:=omega) only[ZZ,simprocAttr,rch,has_.ae,has_.fv];exact⟨hpre.1,rfl⟩
def iA1.ar:List PK->Option (Opt×Qae):=a2 (kR Opt.d) (kP Qae.d 2)
def iA1.ae(a:Opt×Qae):List PK:=[.val (.agg (Opt.c a.1)),.ptr (Qae.c a.2)]
def iA1.fv(a:Opt×Qae):Bool:=(fun o p=>decide (o.At=p)) (a.1) (a.2)
def iA1.row:Row:=vrow iA1.ar (fun a=>True) (fun a=>(D.bool) (iA1.fv a))
def iA1.q:=vq iA1.row rfl
theorem iA1.ok:Qas Tryz.prog 127 iA1.row:=by
 refine Qaj Qaq tN Tryz.func127 rfl (by kernel_rfl) (by kernel_rfl) (ar:=iA1.ar) (ae:=iA1.ae) (Qaca (Qab8 Opt.d_le) (Qacc 2 Qae.d_le)) (n:=2) (fun _=>rfl) (by decide) (rc:=(Qa8)) (re:=(D.bool)) (Qat) (f:=iA1.fv) ?_;intro a hpre;simp only[Tryz.f127,Option.getD];simp (maxSteps:=10^7) (disch:=omega) only[ZZ,simprocAttr,rch,iA1.ae,iA1.fv];obtain⟨⟨⟨x,y⟩,u⟩,⟨z,w⟩⟩:=a;rw[ZcM];simp
def IdxO_.ar:List PK->Option ((List Opt)×Qae)
 |[.val (.sl _ _ x0),.val (.fn 127 [] [.ref x1_0])]=>(decR Opt.d x0).bind fun y0=>(Qae.d (x1_0.take 2)).bind fun y1_0=>some (y0,y1_0)
 |_=>none
def IdxO_.ae(a:(List Opt)×Qae):List PK:=[.val (.sl false 3 (a.1.map Opt.c)),.val (.fn 127 [] [.ref (Qae.c a.2)])]
theorem IdxO_.le: ∀ps a,IdxO_.ar ps=some a->LeKL ps (IdxO_.ae a):=by
 intro ps a h;unfold IdxO_.ar at h;split at h
 .simp only[ZaF,Zab] at h;obtain⟨y0,h0,y1_0,h1_0,rfl⟩:=h;exact⟨Qbf (Qa2 Opt.d_le _ _ h0) (by simp only[ZaK];rintro r ⟨y,_,rfl⟩;rfl),Qos ⟨Qil (LeP.trans_take (Qae.d_le _ _ h1_0)),trivial⟩,trivial⟩
 .cases h
def IdxO_.fv(a:(List Opt)×Qae):Int:=(fun l p=>idxO l p) (a.1) (a.2)
def IdxO_.row:Row:=vrow IdxO_.ar (fun a=>True) (fun a=>(D.int .i64) (IdxO_.fv a))
def IdxO_.q:=vq IdxO_.row rfl
def YaW:=J @IdxO_.ae.eq_1 (J @IdxO_.fv.eq_1 (J @iA1.q (J @iA1.ar.eq_1 @iA1.fv.eq_1)))
theorem IdxO_.ok:Qas Tryz.prog 126 IdxO_.row:=by
 refine Qaj Qaq (tC iA1.ok tN) Tryz.func126 rfl (by kernel_rfl) (by kernel_rfl) (ar:=IdxO_.ar) (ae:=IdxO_.ae) IdxO_.le (n:=2) (fun _=>rfl) (by decide) (rc:=(vInt)) (re:=(D.int .i64)) (Qa3) (f:=IdxO_.fv) ?_;intro a hpre;simp only[Tryz.f126,Option.getD];simp (maxSteps:=10^7) (disch:=omega) only[ZZ,simprocAttr,rch,YaW];intro hn;simp only[idxO];refine Qay.old ⟨{k:Nat//k<=a.1.length/\Qaw (fun o:Opt=>decide (o.At=a.2)) k (a.1.drop k)=Qaw (fun o:Opt=>decide (o.At=a.2)) 0 a.1},fun k=>⟨[(8,.im (.int .i64 k.1)),(7,.im (.int .i64 a.1.length)),(6,.im (.sl false 3 (a.1.map Opt.c))),(4,.im (.int .i64 0)),(0,.im (.sl false 3 (a.1.map Opt.c))),(1,.im (.fn 127 [] [.ref (Qae.c a.2)]))],[],0⟩,fun k=>a.1.length - k.1,fun k=>⟨by simp[Qad.good,belT,belH,Qam,AV.bel,belL],Zal _⟩,⟨⟨0,by simp⟩,by simp (maxSteps:=10^7) (disch:=omega) only[ZZ,simprocAttr,rch,YaW,sub]⟩,fun k=> ?_⟩;obtain⟨k,hk1,hk2⟩:=k;simp (maxSteps:=10^7) (disch:=omega) only[ZZ,simprocAttr,rch,YaW,sub,Qal];refine⟨fun hk=>⟨hk,fun x hx=> ?_⟩,fun hk=> ?_⟩
 .rw[Qd3 hx,Qaw] at hk2;refine⟨fun h=> ?_,fun h=>Qb6 hk hn ⟨by omega,by rw[<-hk2,Zaj (by simpa using h)]⟩⟩;rw[Zam (by simpa using h)] at hk2;exact hk2
 .rw[Zau (by omega),Qaw] at hk2;exact hk2
def idxAt_.ar:List PK->Option (Pld×Qae):=a2 (kP Pld.d 8) (kR Qae.d)
def idxAt_.ae(a:Pld×Qae):List PK:=[.ptr (Pld.c a.1),.val (.agg (Qae.c a.2))]
def idxAt_.fv(a:Pld×Qae):Int:=(fun x p=>idxO x.Seq p) (a.1) (a.2)
def idxAt_.row:Row:=vrow idxAt_.ar (fun a=>True) (fun a=>(D.int .i64) (idxAt_.fv a))
def idxAt_.q:=vq idxAt_.row rfl
theorem idxAt_.ok:Qas Tryz.prog 94 idxAt_.row:=by
 refine Qaj Qaq (tC IdxO_.ok tN) Tryz.func94 rfl (by kernel_rfl) (by kernel_rfl) (ar:=idxAt_.ar) (ae:=idxAt_.ae) (Qaca (Qacc 8 Pld.d_le) (Qab8 Qae.d_le)) (n:=2) (fun _=>rfl) (by decide) (rc:=(vInt)) (re:=(D.int .i64)) (Qa3) (f:=idxAt_.fv) ?_;intro a hpre;simp only[Tryz.f94,Option.getD];simp (maxSteps:=10^7) (disch:=omega) only[ZZ,simprocAttr,rch,idxAt_.ae,idxAt_.fv,IdxO_.q,IdxO_.ar,IdxO_.fv]
 skip
def Qadh(x:Pld):Nat->List (List Int)
 |0=>[]
 |i+1=>Qadh x i++[sortI (ownN x.Seq (x.Inputs[i]?.getD 0) ((x.Seq[i]?.map Opt.At).getD ⟨0,0⟩) 4)]
theorem Qaf1(l:List Opt)(m:Int)(p:Qae): ∀n,(ownN l m p n).length<=n
 |0=>by simp[ownN]
 |n+1=>by
  have:=Qaf1 l m p n
  simp only[ownN,Zaz]
  split<;>simp<;>omega
theorem Qaed(x:Pld): ∀n,(Qadh x n).length=n
 |0=>rfl
 |n+1=>by simp only[Qadh,Zaz,Qaed x n,ZcY]
def needs_.ar:List PK->Option (Pld):=a1 (kP Pld.d 8)
def needs_.ae(a:Pld):List PK:=[.ptr (Pld.c a)]
def needs_.fv(a:Pld):List (List Int):=(fun x=>Qadh x x.Seq.length) a
def needs_.row:Row:=vrow needs_.ar (fun a=>(∀o∈a.Seq,Qdy o.At)/\a.Inputs.length=a.Seq.length/\a.Seq.length<=500) (fun a=>(fun b=>D.sl false 1 (b.map Qcd)) (needs_.fv a))
def needs_.q:=vq needs_.row rfl
def YaX:=J @needs_.ae.eq_1 (J @needs_.fv.eq_1 (J @step_.q (J @step_.ar.eq_1 (J @step_.fv.eq_1 (J @step_.re.eq_1 (J @idxAt_.q (J @idxAt_.ar.eq_1 (J @idxAt_.fv.eq_1 (J @has_.q (J @has_.ar.eq_1 @has_.fv.eq_1))))))))))
theorem needs_.ok:Qas Tryz.prog 49 needs_.row:=by
 refine Qaj Qaq (tC step_.ok (tC idxAt_.ok (tC has_.ok (tC srI.ok tN)))) Tryz.func49 rfl (by kernel_rfl) (by kernel_rfl) (ar:=needs_.ar) (ae:=needs_.ae) (Qacd (Qacc 8 Pld.d_le)) (n:=1) (fun _=>rfl) (by decide) (rc:=(vSl Qpb)) (re:=(fun b=>D.sl false 1 (b.map Qcd))) (Qe8 Qj4 (fun _=>rfl)) (f:=needs_.fv) ?_;intro a hpre;simp only[Tryz.f49,Option.getD];simp (maxSteps:=10^7) (disch:=omega) only[ZZ,simprocAttr,rch,YaX];obtain⟨h1,h2,h3⟩:=hpre;intro _;refine Qay.frr ⟨{k:Nat//k<=a.Seq.length},fun k=>⟨[(14,.im (.int .i64 k.1)),(13,.im (.int .i64 a.Seq.length)),(12,.im (.sl false 3 (a.Seq.map Opt.c))),(3,.own 3),(0,.ptr 0 0)],[(3,(true,.arrA 51 1 (imR ((Qadh a k.1).map Qcd)))),(0,(false,.view (Pld.c a)))],4⟩,fun k=>a.Seq.length - k.1,fun k=>⟨by simp[Qad.good,belT,belH,Qam,AV.bel,belL,Qxu],by simp⟩,⟨⟨0,by simp⟩,[],[(3,some 2)],?_⟩,fun k=> ?_⟩
 .simp only[subP];simp (maxSteps:=10^7) (disch:=omega) only[ZZ,simprocAttr,rch,YaX,Zag,Zaf,Qadh,ZaS,Qafa]
  try simp
 obtain⟨k,hk1⟩:=k;simp (maxSteps:=10^7) (disch:=omega) only[ZZ,simprocAttr,rch,YaX,sub,Qal];have hnl:=Qaed a k;refine⟨fun hk=>⟨hk,fun o ho=> ?_⟩,fun hk=> ?_⟩
 .obtain⟨mi,hmi⟩: ∃mi,a.Inputs[k]? =some mi:=⟨_,Zac (by omega)⟩;have hsm:=h1 o (Zad ho);refine Qay.ren ⟨{d:Nat//d<=4},fun d=>⟨[(19,.im (.int .i64 d.1)),(6,.own 6),(4,.im (.int .i64 k)),(5,.ptr 4 0),(14,.im (.int .i64 k)),(13,.im (.int .i64 a.Seq.length)),(12,.im (.sl false 3 (a.Seq.map Opt.c))),(3,.own 3),(0,.ptr 0 0)],[(6,(true,.arr 2 1 ((ownN a.Seq mi o.At d.1).map intC))),(4,(true,.cells 82 ((Opt.c o).map .im))),(3,(true,.arrA 51 1 (imR ((Qadh a k).map Qcd)))),(0,(false,.view (Pld.c a)))],7⟩,fun d=>4 - d.1,fun d=>⟨by simp[Qad.good,belT,belH,Qam,AV.bel,belL,Qxu,Opt.c],by simp⟩,⟨⟨0,by simp⟩,[(6,some 5)],?_⟩,fun d=> ?_⟩
  .simp only[subP];simp (maxSteps:=10^7) (disch:=omega) only[ZZ,simprocAttr,rch,YaX,Zag,Zaf,ownN,ZaS,Qsg]
   try simp
  obtain⟨d,hd1⟩:=d;have hol:=Qaf1 a.Seq mi o.At d;simp (maxSteps:=10^7) (disch:=omega) only[ZZ,simprocAttr,rch,YaX,sub,Qal];refine⟨fun hd=>⟨⟨hsm,by omega⟩,by omega,fun x hx=>⟨by omega,?_⟩⟩,fun hd=> ?_⟩
  .obtain rfl:mi=x:=Zaa (hmi.symm.trans hx);refine⟨fun c1=>⟨fun c2=>⟨by simp[OneR,allD,D.one],by omega,⟨d+1,by omega⟩,[(6,some 8)],by simp only;omega,?_⟩,fun c2=>⟨⟨d+1,by omega⟩,[(6,some 6)],by simp only;omega,?_⟩⟩,fun c1=>⟨⟨d+1,by omega⟩,[(6,some 6)],by simp only;omega,?_⟩⟩
   .simp only[subP];simp (maxSteps:=10^7) (disch:=omega) only[ZZ,simprocAttr,rch,YaX,Zag,Zaf,Qsg];refine⟨by rw[Qak (by omega) (by omega)];omega,?_⟩;simp only[ownN];rw[Zam ⟨c1,c2⟩];simp[intC]
   .simp only[subP];simp (maxSteps:=10^7) (disch:=omega) only[ZZ,simprocAttr,rch,YaX,Zag,Zaf,Qsg];refine⟨by rw[Qak (by omega) (by omega)];omega,?_⟩;simp only[ownN];rw[Zaj (fun h=>c2 h.2),ZaJ]
   .simp only[subP];simp (maxSteps:=10^7) (disch:=omega) only[ZZ,simprocAttr,rch,YaX,Zag,Zaf,Qsg];refine⟨by rw[Qak (by omega) (by omega)];omega,?_⟩;simp only[ownN];rw[Zaj (fun h=>c1 h.1),ZaJ]
  .have hd4:d=4:=by omega
   subst hd4;refine orow.os (ownN a.Seq mi o.At 4) [6] trivial (fun j=> ?_) rfl rfl ?_ ?_
   .simp only[domB,srI.H0,hget];by_cases hj:j=0
    .subst hj;simp
    .have:(0==j)=false:=by simpa using fun h=>hj h.symm
     rw[this];simp;omega
   .simp (maxSteps:=10^7) (disch:=omega) only[ZZ,simprocAttr,rch,YaX,srI.ca,srI.H0,Qer,Zbx]
    try exact⟨rfl,rfl⟩
   simp (maxSteps:=10^7) (disch:=omega) only[ZZ,simprocAttr,rch,YaX,srI.H1,sub,Zbx,ZbV];refine⟨by simp[belL,AV.bel],by simp[OneR,Qhz,AV.one],by omega,by rw[ZcD,Qaeq];simp[belL,AV.bel],⟨k+1,by omega⟩,[6],[(3,some 8)],by simp only;omega,?_⟩;have e1:Qadh a (k+1)=Qadh a k++[sortI (ownN a.Seq mi o.At 4)]:=by
    simp only[Qadh,hmi,ho,ZaN,Zae]
   simp only[subP];simp (maxSteps:=10^7) (disch:=omega) only[ZZ,simprocAttr,rch,YaX,Zag,Zaf,Qzl,Qzb,e1,Zbb,Zap,ZaS];rw[Qak (by omega) (by omega)];refine⟨by simp,?_⟩
   have:=Qzo [(3,some 8)] ((Qadh a k).map Qcd++[[D.sl false 1 ((sortI (ownN a.Seq mi o.At 4)).map intC)]])
   simpa only[imR,Zbb,Zap,ZaS] using this
 .have hkl:k=a.Seq.length:=by omega
  subst hkl;simp (maxSteps:=10^7) (disch:=omega) only[ZZ,simprocAttr,rch,YaX,Qae4]
theorem needs_law{s:Qar}{l:List Opt}(h:Qaec s s.Seed l)(e:Asm)(st:List Int):Qadh ⟨s,l,e,insS s s.Seed l,st⟩ l.length=Qadm s l:=by
 have key: ∀n,n<=l.length->Qadh ⟨s,l,e,insS s s.Seed l,st⟩ n=Qade l (insS s s.Seed l) n:=by
  intro n;induction n with
  |zero=>intro _;rfl
  |succ n ih=>
   intro hn;obtain⟨o,ho⟩: ∃o,l[n]? =some o:=⟨_,Zac (by omega)⟩;simp only[Qadh,Qade,ih (by omega),ho,Qafo s l s.Seed n o ho,ZaN,Zae];rw[need_law h ho]
 exact key l.length (Zal _)
end Go.Ae
namespace Go.Ae
section
variable {S1 S':Env}{F:Nat->Prop}
end
end Go.Ae
namespace Go.Ae
open Go.Proofs
def needOk(needs:List (List Int)):Prop:=needs.length<=500/\ ∀(i:Nat) (own:List Int),needs[i]? =some own-> ∀k∈own,0<=k/\k<(i:Int)
theorem Qaea(l:List Opt)(ins:List Int): ∀n i,i<n->(Qade l ins n)[i]? =some (ndK l (ins[i]?.getD 0) ((l[i]?.map Opt.At).getD ⟨0,0⟩) i)
 |0,i,h=>by omega
 |n+1,i,h=>by
  simp only[Qade];by_cases hi:i<n
  .rw[ZaI (by rw[Qadb];exact hi)];exact Qaea l ins n i hi
  .have:i=n:=by omega
   subst this;rw[ZaE (by rw[Qadb];omega),Qadb]
   try simp
theorem Qaeu{s:Qar}{l:List Opt}(hl:l.length<=500):needOk (Qadm s l):=by
 have hlen:(Qadm s l).length=l.length:=Qadb ..;refine⟨by omega,fun i own hi k hk=> ?_⟩;have hil:i<l.length:=by have:=(Zai.1 hi).1;omega
 simp only[Qadm] at hi;rw[Qaea l _ l.length i hil] at hi;obtain rfl:=Zaa hi;rw[Qaem (l:=l) i (by omega)] at hk;obtain⟨j,d,h1,_,h3,_⟩:=hk;omega
def tlF(a:List Tile)(i:Nat):Ent:=(true,.arr 2 1 (((a[i]?.map Tile.Sides).getD []).map intC))
def tlB(b:Nat)(a:List Tile):List (List AV):=(List.range a.length).map fun i=>[.im (.str ((a[i]?.map Tile.Name).getD ByteArray.empty)),.own (b+i)]
theorem vF.call{A:Type}{ar:List PK->Option A}{pre:A->Prop}{re:A->D}{args:List AV}{tm:List (Nat×AV)}{h:Qan}{nx:Nat}{dst:Option Nat}{go:Qad->Prop}(ps:List PK)(hps:pkFL (hget h) args=some ps)(a:A)(ha:ar ps=some a)(hpre:pre a)
 (hgo:go ((⟨tm,h,nx⟩:Qad).put dst (.im (re a)))):Qfi ar pre re args (hget h) nx (kont go ⟨tm,h,nx⟩ dst):=by
 unfold Qfi;rw[hps];simp only[Qct,ha,decK];refine⟨hpre,?_,?_⟩
 .rw[Eff.ok_nr];simp[AV.bel,belH,Qpx]
 .rw[Qad.app_nr,Qba,Zdl];exact hgo
theorem Qn3{n:Nat}{l:Int}(h:0<=szC n l):(n:Int)<=l/\szC n l<=l/\0<=l:=by
 simp only[szC] at h⊢;split at h
 .omega
 .rename_i c;rw[Zaj c];omega
theorem Qu5: ∀(a:List Tile) (l:Int),0<=l->l<=1048576->0<=Qdz Qcn a l-> ∀x∈a,x.Sides.length<=1073741824
 |[],_,_,_,_=>by intro x hx;cases hx
 |y::r,l,h0,hl,h=>by
  simp only[Qdz] at h;split at h
  .omega
  .rename_i c;have hy:0<=Qcn y l:=by omega
   have h1:0<=szC y.Name.size l:=by
    simp only[Qcn] at hy;split at hy
    .omega
    .omega
   have e:Qcn y l=szC y.Sides.length (szC y.Name.size l):=by
    simp only[Qcn];rw[Zaj (by omega)]
   rw[e] at hy h;obtain⟨a1,a2,a3⟩:=Qn3 hy;obtain⟨b1,b2,b3⟩:=Qn3 h1;intro x hx;rcases ZaB.1 hx with rfl|hx
   .omega
   .exact Qu5 r _ hy (by omega) h x hx
theorem szSet_sm{s:Qaa}{l:Int}(hl: -1<=l)(hl2:l<=1048576)(h:0<=Qqd s l):smSet s:=by
 have hg:=Qo1 s.Glues l hl;simp only[Qqd] at h;split at h
 .omega
 rename_i c;have hg0:0<=Qcj s.Glues l:=by omega
 have hgc:0<=szC s.Glues.length l:=by
  simp only[Qcj] at hg0;split at hg0
  .omega
  .omega
 have htc:0<=szC s.Tiles.length (Qcj s.Glues l):=by
  simp only[Qds] at h;split at h
  .omega
  .omega
 have e:Qds s.Tiles (Qcj s.Glues l)=Qdz Qcn s.Tiles (szC s.Tiles.length (Qcj s.Glues l)):=by
  simp only[Qds];rw[Zaj (by omega)]
 rw[e] at h;obtain⟨a1,a2,a3⟩:=Qn3 hgc;obtain⟨b1,b2,b3⟩:=Qn3 htc;exact⟨by omega,by omega,Qu5 s.Tiles _ htc (by omega) h⟩
theorem szSys_sm{s:Qar}{l:Int}(hl: -1<=l)(hl2:l<=1048576)(h:0<=Qlr s l):smSys s:=by
 have hb:=Qxk s.Set l hl;simp only[Qlr] at h;split at h
 .omega
 rename_i c;obtain⟨a1,a2,a3⟩:=Qn3 h;exact⟨szSet_sm hl hl2 (by omega),by omega⟩
def sdSum(a:List Tile):Nat:=(a.map fun x=>x.Sides.length).sum
structure SysB(s:Qar):Prop where
 g:s.Set.Glues.length<=1048576
 t:s.Set.Tiles.length<=1048576
 d:sdSum s.Set.Tiles<=1048576
 p:s.Seed.Tiles.length<=1048576
structure SysAt(h:Nat->Option Ent)(g t p f:Nat)(s:Qar):Prop where
 g:h g=some (true,.arr 173 2 (s.Set.Glues.map Glue.c))
 t:h t=some (true,.arrA 175 2 (tlB f s.Set.Tiles))
 p:h p=some (true,.arr 177 3 (s.Seed.Tiles.map Qab.c))
 f: ∀i,i<s.Set.Tiles.length->h (f+i)=some (tlF s.Set.Tiles i)
theorem vN.call{A:Type}{ar:List PK->Option A}{pre:A->Prop}{re:A->D}{args:List AV}{tm:List (Nat×AV)}{h:Qan}{nx:Nat}{dst:Option Nat}{go:Qad->Prop}(ps:List PK)(hps:pkL (hget h) args=some (ps,[]))(a:A)(ha:ar ps=some a)(hpre:pre a)
 (hgo:go ((⟨tm,h,nx⟩:Qad).put dst (.im (re a)))):vrow ar pre re args (hget h) nx (kont go ⟨tm,h,nx⟩ dst):=by
 unfold vrow;rw[hps];simp only[Qa1,ha,decK,frE];refine⟨hpre,?_,?_⟩
 .rw[Eff.ok_nr];simp[AV.bel,belH,Qpx]
 .rw[Qad.app_nr,Qba,Zdl];exact hgo
theorem SysAt.mono{h h':Nat->Option Ent}{g t p f:Nat}{s:Qar}(hs:SysAt h g t p f s)(hh: ∀m,(m=g\/m=t\/m=p\/(f<=m/\m<f+s.Set.Tiles.length))->h' m=h m):SysAt h' g t p f s:=
 ⟨by rw[hh g (.inl rfl)];exact hs.g,by rw[hh t (.inr (.inl rfl))];exact hs.t,by rw[hh p (.inr (.inr (.inl rfl)))];exact hs.p,fun i hi=>by rw[hh _ (.inr (.inr (.inr ⟨by omega,by omega⟩)))];exact hs.f i hi⟩
structure NnAt(h:Nat->Option Ent)(o b:Nat)(M:List (List Int)):Prop where
 r:h o=some (true,.arrA 51 1 (Qch b M.length))
 f: ∀i,i<M.length->h (b+i)=some (true,.arr 2 1 ((M[i]?.getD []).map intC))
theorem NnAt.mono{h h':Nat->Option Ent}{o b:Nat}{M:List (List Int)}(hs:NnAt h o b M)(hh: ∀m,(m=o\/(b<=m/\m<b+M.length))->h' m=h m):NnAt h' o b M:=
 ⟨by rw[hh o (.inl rfl)];exact hs.r,fun i hi=>by rw[hh _ (.inr ⟨by omega,by omega⟩)];exact hs.f i hi⟩
abbrev BSet:=List Bool
def rdB(M:List (List Int))(s:BSet)(k:Nat):Bool:=(s[k]? ==some false) && ((M[k]?).getD []).all fun x=>s[x.toNat]? ==some true
def nxtB(M:List (List Int))(s:BSet):List BSet:=((List.range M.length).filter (rdB M s)).map fun k=>s.set k true
def atW(s:BSet):List (BSet×Int)->Option Nat
 |[]=>none
 |x::r=>if x.1=s then some 0 else (atW s r).map (· +1)
def addW(most w:Int)(p:List (BSet×Int)×Int)(s:BSet):Option (List (BSet×Int)×Int):=
 match atW s p.1 with
 |some i=>let v:=((p.1[i]?).map Prod.snd).getD 0+w
  if v>1000000000 then none else some (p.1.set i (s,v),p.2)
 |none=>if p.2≥most then none else some (p.1++[(s,w)],p.2+1)
def itW(M:List (List Int))(most:Int)(p:List (BSet×Int)×Int)(c:BSet×Int):Option (List (BSet×Int)×Int):=(nxtB M c.1).foldlM (addW most c.2) p
def lvW(M:List (List Int))(most:Int):Nat->Option (List (BSet×Int)×Int)
 |0=>some ([(List.replicate M.length false,1)],1)
 |L+1=>(lvW M most L).bind fun q=>q.1.foldlM (itW M most) ([],q.2)
def cntW(M:List (List Int))(most:Int):Int×Int:=
 match lvW M most M.length with
 |some q=>(((q.1.head?).map Prod.snd).getD 0,0)
 |none=>(0,4)
def nTr(s:BSet):Nat:=s.count true
theorem nTr_set{s:BSet}{k:Nat}(h:s[k]? =some false):nTr (s.set k true)=nTr s+1:=by
 induction s generalizing k with
 |nil=>simp at h
 |cons a r ih=>
  cases k with
  |zero=>simp at h;subst h;simp[nTr]
  |succ k=>
   simp only[ZaU] at h
   have:=ih h
   simp only[nTr] at this;simp only[nTr,Zcr,List.count_cons,this];omega
theorem nTr_all{s:BSet}(h:nTr s=s.length):s=List.replicate s.length true:=by
 simp only[nTr] at h;apply ZbY;intro i;rw[ZeQ] at h;by_cases c:i<s.length
 .rw[Zbl,Zam c,Zac c,<-h _ (ZbX c)]
 .rw[ZaV (by omega),ZaV (by simp;omega)]
theorem nTr_le(s:BSet):nTr s<=s.length:=List.count_le_length
structure LvOk(n L:Nat)(most:Int)(q:List (BSet×Int)×Int):Prop where
 len: ∀x∈q.1,x.1.length=n/\nTr x.1=L
 dis:(q.1.map Prod.fst).Nodup
 ways: ∀x∈q.1,1<=x.2/\x.2<=1000000000
 tot:q.2<=most/\(q.1.length:Int)<=q.2
theorem Qair{s:BSet}: ∀{l:List (BSet×Int)} {i:Nat},atW s l=some i-> ∃v,l[i]? =some (s,v)
 |[],i,h=>by simp[atW] at h
 |x::r,i,h=>by
  simp only[atW] at h;split at h
  .rename_i c;obtain rfl:=Zaa h;exact⟨x.2,by simp[<-c]⟩
  .cases e:atW s r with
   |none=>simp[e] at h
   |some j=>
    simp only[e,ZaN,Zab] at h;subst h;obtain⟨v,hv⟩:=Qair e;exact⟨v,by simpa using hv⟩
theorem Qai5{s:BSet}: ∀{l:List (BSet×Int)},atW s l=none-> ∀x∈l,x.1≠s
 |[],_,x,hx=>by simp at hx
 |y::r,h,x,hx=>by
  simp only[atW] at h;split at h
  .simp at h
  .rename_i c;rcases ZaB.1 hx with rfl|hx
   .exact c
   .cases e:atW s r with
    |none=>exact Qai5 e x hx
    |some j=>simp[e] at h
theorem addW_ok{n L:Nat}{most w:Int}{p q:List (BSet×Int)×Int}{s:BSet}(hp:LvOk n L most p)(hw:1<=w/\w<=1000000000)(hs:s.length=n/\nTr s=L)(h:addW most w p s=some q):
 LvOk n L most q/\q.1≠[]/\p.2<=q.2:=by
 simp only[addW] at h;split at h
 .rename_i i hi;obtain⟨v,hv⟩:=Qair hi;split at h
  .simp at h
  .rename_i c;obtain rfl:=Zaa h;have hil:=(Zai.1 hv).1;have hv1:=hp.ways _ (Zad hv);simp only[hv,ZaN,Zae] at c⊢;have e:(p.1.set i (s,v+w)).map Prod.fst=p.1.map Prod.fst:=by
    apply ZbY;intro j;rw[ZaG,ZaG,List.getElem?_set];split
    .rename_i hj;subst hj;rw[hv];rfl
    .rfl
   refine⟨⟨fun x hx=> ?_,by rw[e];exact hp.dis,fun x hx=> ?_,by simpa using hp.tot⟩,fun h0=> ?_,ZcN _⟩
   .rcases ZbE hx with h1|rfl
    .exact hp.len x h1
    .exact hs
   .rcases ZbE hx with h1|rfl
    .exact hp.ways x h1
    .simp only at hv1⊢;omega
   .have:=ZbA List.length h0
    simp at this;rw[this] at hil;simp at hil
 .rename_i hi;split at h
  .simp at h
  .rename_i c;obtain rfl:=Zaa h;have hne:=Qai5 hi;have ht:=hp.tot;refine⟨⟨fun x hx=> ?_,?_,fun x hx=> ?_,by simp only[Zaz,ZcY];omega⟩,by simp,by simp only;omega⟩
   .rcases Zao.1 hx with h1|h1
    .exact hp.len x h1
    .rw[Zan] at h1;subst h1;exact hs
   .rw[Zbb,List.map_singleton,Zcb];refine⟨hp.dis,by simp,fun a ha b hb=> ?_⟩;rw[Zan] at hb;subst hb;obtain⟨x,hx,rfl⟩:=ZaK.1 ha;exact hne x hx
   .rcases Zao.1 hx with h1|h1
    .exact hp.ways x h1
    .rw[Zan] at h1;subst h1;exact hw
theorem rdB_len{M:List (List Int)}{s:BSet}{k:Nat}(h:rdB M s k=true):s[k]? =some false:=by
 simp only[rdB,Zah,Zdh] at h;exact h.1
theorem Qai3{M:List (List Int)}{s t:BSet}(h:t∈nxtB M s):t.length=s.length/\nTr t=nTr s+1:=by
 simp only[nxtB,ZaK,ZcO] at h;obtain⟨k,⟨_,hk⟩,rfl⟩:=h;exact⟨by simp,nTr_set (rdB_len hk)⟩
theorem nxtB_ne{M:List (List Int)}{s:BSet}(hM: ∀(k:Nat) (own:List Int),M[k]? =some own-> ∀x∈own,0<=x/\x<(k:Int))(hl:s.length=M.length)(h:nTr s≠M.length):nxtB M s≠[]:=by
 have hf: ∃k:Nat,s[k]? =some false:=by
  apply Zcl;intro hn;apply h;rw[<-hl,nTr,ZeQ];intro b hb;obtain⟨k,hk⟩:=Zbi.1 hb;cases b with
  |true=>rfl
  |false=>exact absurd ⟨k,hk⟩ hn
 obtain⟨k0,hk0⟩:=hf;have hmin: ∀k:Nat,s[k]? =some false-> ∃j:Nat,s[j]? =some false/\ ∀i,i<j->s[i]? =some true:=by
  intro k;induction k using Nat.strongRecOn with
  |ind k ih=>
   intro hk;by_cases c: ∀i,i<k->s[i]? =some true
   .exact⟨k,hk,c⟩
   .simp only[Classical.not_forall] at c;obtain⟨i,hi,hc⟩:=c;refine ih i hi ?_;have hkl:=(Zai.1 hk).1;rw[Zac (by omega)] at hc⊢;cases e:s[i]'(by omega) with
    |true=>rw[e] at hc;exact absurd rfl hc
    |false=>rfl
 obtain⟨j,hj,hm⟩:=hmin k0 hk0;have hjl:=(Zai.1 hj).1
 have:s.set j true∈nxtB M s:=by
  simp only[nxtB,ZaK,ZcO,ZaO];refine⟨j,⟨by omega,?_⟩,rfl⟩;simp only[rdB,hj,ZdQ,Zbq,ZaR];intro x hx;rw[Zac (show j<M.length by omega),Zae] at hx
  have:=hM j _ (Zac (by omega)) x hx
  rw[hm x.toNat (by omega)];rfl
 exact List.ne_nil_of_mem this
theorem Qaii{A B:Type}{f:B->A->Option B}(I:B->Prop): ∀(l:List A) (b c:B),(∀b a c,a∈l->I b->f b a=some c->I c)->I b->l.foldlM f b=some c->I c
 |[],b,c,_,hb,h=>by
  simp only[Zdz] at h;obtain rfl:=Zaa h;exact hb
 |a::r,b,c,hs,hb,h=>by
  simp only[Zdg] at h;cases e:f b a with
  |none=>simp[e] at h
  |some d=>
   simp only[e] at h;exact Qaii I r d c (fun b a c ha=>hs b a c (Zaq _ ha)) (hs b a d (Zar ..) hb e) h
theorem itW_ok{M:List (List Int)}{n L:Nat}{most:Int}{p q:List (BSet×Int)×Int}{c:BSet×Int}(hp:LvOk n (L+1) most p)(hc:c.1.length=n/\nTr c.1=L)(hw:1<=c.2/\c.2<=1000000000)(h:itW M most p c=some q):
 LvOk n (L+1) most q/\p.2<=q.2:=by
 refine Qaii (fun q=>LvOk n (L+1) most q/\p.2<=q.2) (nxtB M c.1) p q (fun b a d ha hb hd=> ?_) ⟨hp,ZcN _⟩ h;obtain⟨h1,h2⟩:=Qai3 ha;obtain⟨g1,_,g3⟩:=addW_ok hb.1 hw ⟨by omega,by omega⟩ hd;exact⟨g1,by omega⟩
theorem addW_ne{most w:Int}{p q:List (BSet×Int)×Int}{s:BSet}(h:addW most w p s=some q):q.1≠[]:=by
 simp only[addW] at h;split at h
 .rename_i i hi;obtain⟨v,hv⟩:=Qair hi;split at h
  .simp at h
  .obtain rfl:=Zaa h;intro h0
   have:=ZbA List.length h0
   simp at this;rw[this] at hv;simp at hv
 .split at h
  .simp at h
  .obtain rfl:=Zaa h;simp
theorem Qajm{M:List (List Int)}{most:Int}{p q:List (BSet×Int)×Int}{c:BSet×Int}(hp:p.1≠[]\/nxtB M c.1≠[])(h:itW M most p c=some q):q.1≠[]:=by
 simp only[itW] at h;cases e:nxtB M c.1 with
 |nil=>
  rw[e] at h hp;simp only[Zdz] at h;obtain rfl:=Zaa h;exact hp.resolve_right (by simp)
 |cons a r=>
  rw[e] at h;simp only[Zdg] at h;cases e2:addW most c.2 p a with
  |none=>simp[e2] at h
  |some d=>
   simp only[e2] at h;exact Qaii (fun q=>q.1≠[]) r d q (fun b a c _ _ hc=>addW_ne hc) (addW_ne e2) h
theorem Qail{M:List (List Int)}{most:Int}(hM: ∀(k:Nat) (own:List Int),M[k]? =some own-> ∀x∈own,0<=x/\x<(k:Int))(hm:1<=most): ∀L q,lvW M most L=some q->LvOk M.length L most q/\(L<=M.length->q.1≠[])
 |0,q,h=>by
  simp only[lvW] at h;obtain rfl:=Zaa h;refine⟨⟨fun x hx=> ?_,by simp,fun x hx=> ?_,?_⟩,by simp⟩
  .rw[Zan] at hx;subst hx;simp[nTr,List.count_replicate]
  .rw[Zan] at hx;subst hx;simp
  .simp only[ZcY];omega
 |L+1,q,h=>by
  simp only[lvW] at h;cases e:lvW M most L with
  |none=>simp[e] at h
  |some p=>
   simp only[e,Zbj] at h;obtain⟨i1,i2⟩:=Qail hM hm L p e;have h0:LvOk M.length (L+1) most ([],p.2):=⟨by simp,by simp,by simp,by have:=i1.tot;simp only[Zbw];omega⟩;refine⟨Qaii (fun q=>LvOk M.length (L+1) most q) p.1 ([],p.2) q (fun b a c ha hb hc=>(itW_ok hb (i1.len a ha) (i1.ways a ha) hc).1) h0 h,fun hL=> ?_⟩;have hn:=i2 (by omega);cases ep:p.1 with
   |nil=>exact absurd ep hn
   |cons a r=>
    rw[ep] at h;simp only[Zdg] at h;cases e2:itW M most ([],p.2) a with
    |none=>simp[e2] at h
    |some d=>
     simp only[e2] at h;have ha:=i1.len a (by rw[ep];exact Zar ..);exact Qaii (fun q=>q.1≠[]) r d q (fun b a c _ hb hc=>Qajm (.inl hb) hc) (Qajm (.inr (nxtB_ne hM ha.1 (by omega))) e2) h
theorem lvW_top{M:List (List Int)}{most:Int}(hM: ∀(k:Nat) (own:List Int),M[k]? =some own-> ∀x∈own,0<=x/\x<(k:Int))(hm:1<=most){q:List (BSet×Int)×Int}(h:lvW M most M.length=some q): ∃w,q.1=[(List.replicate M.length true,w)]:=by
 obtain⟨h1,h2⟩:=Qail hM hm _ _ h;have h3: ∀x∈q.1,x.1=List.replicate M.length true:=fun x hx=>by
  obtain⟨g1,g2⟩:=h1.len x hx;rw[<-g1] at g2⊢;exact nTr_all g2
 cases e:q.1 with
 |nil=>exact absurd e (h2 (Zal _))
 |cons a r=>
  cases e2:r with
  |nil=>exact⟨a.2,by rw[<-h3 a (by rw[e];exact Zar ..)]⟩
  |cons b r2=>
   have hd:=h1.dis;rw[e,e2] at hd;have ha:=h3 a (by rw[e];exact Zar ..);have hb:=h3 b (by rw[e,e2];simp);simp[ha,hb] at hd
def strB(s:List Bool):ByteArray:=⟨(s.map fun b=>cond b (49:UInt8) 48).toArray⟩
theorem Qain(s:List Bool):(strB s).size=s.length:=by simp[strB,ByteArray.size]
theorem Qajd{s t:List Bool}(h:strB s=strB t):s=t:=by
 simp only[strB,ByteArray.mk.injEq,Array.mk.injEq] at h;induction s generalizing t with
 |nil=>cases t<;>simp_all
 |cons a r ih=>
  cases t with
  |nil=>simp at h
  |cons b u=>
   simp only[Zap,ZcQ] at h;rw[ih h.2];congr 1;cases a<;>cases b<;>simp_all
theorem Qajg(s t:List Bool):strB s++strB t=strB (s++t):=by
 apply ByteArray.ext;simp[strB,ByteArray.data_append]
theorem Qaiq(s:List Bool)(a b:Nat):(strB s).extract a b=strB ((s.take b).drop a):=by
 apply ByteArray.ext;simp[strB,ByteArray.data_extract];rw[Zeq]
theorem strB_set(s:List Bool)(i:Nat)(h:i<s.length):(strB s).extract 0 i++strB [true]++(strB s).extract (i+1) s.length=strB (s.set i true):=by
 rw[Qaiq,Qaiq,Qajg,Qajg];congr 1;rw[ZbI,Zcf,ZdC,Zam h];simp
theorem Qajk(s:List Bool)(i:Nat):(strB s).data[i]? =(s[i]?).map fun b=>cond b (49:UInt8) 48:=by
 simp[strB]
theorem strB_I(s:List Bool):(⟨((s.map fun b=>cond b (49:Int) 48).map fun n=>UInt8.ofNat n.toNat).toArray⟩:ByteArray)=strB s:=by
 simp only[strB,Zdj];congr 2;apply Zce;intro b _;cases b<;>rfl
theorem Qaim{A B:Type}{f:B->A->Option B}{l:List A}{b c:B}{t:Nat}{x:A}(h:(l.take t).foldlM f b=some c)(hx:l[t]? =some x):(l.take (t+1)).foldlM f b=f c x:=by
 obtain⟨ht,rfl⟩:=Zai.1 hx;rw[<-List.take_append_getElem ht,ZdE,h];simp
theorem Qaiy{A B:Type}{f:B->A->Option B}{l:List A}{b c:B}{t:Nat}{x:A}(h:(l.take t).foldlM f b=some c)(hx:l[t]? =some x)(hn:f c x=none):l.foldlM f b=none:=by
 have h2:(l.take (t+1)).foldlM f b=none:=(Qaim h hx).trans hn;rw[<-ZbH (t+1) l,ZdE,h2];rfl
theorem Qaji{M:List (List Int)}{most:Int}{L:Nat}(h:lvW M most L=none): ∀k,lvW M most (L+k)=none
 |0=>h
 |k+1=>by
  rw[<-Zcp,lvW,Qaji h k];rfl
theorem cntW_none{M:List (List Int)}{most:Int}{L:Nat}(h:lvW M most L=none)(hL:L<=M.length):cntW M most=(0,4):=by
 have:=Qaji h (M.length - L)
 rw[show L+(M.length - L)=M.length by omega] at this;simp only[cntW,this]
theorem nxtB_top{M:List (List Int)}{s:BSet}(h:nTr s=s.length):nxtB M s=[]:=by
 cases e:nxtB M s with
 |nil=>rfl
 |cons a r=>
  have ha:a∈nxtB M s:=by rw[e];exact Zar ..
  obtain⟨h1,h2⟩:=Qai3 ha
  have:=nTr_le a
  omega
theorem Qait{M:List (List Int)}{most:Int}(hM: ∀(k:Nat) (own:List Int),M[k]? =some own-> ∀x∈own,0<=x/\x<(k:Int))(hm:1<=most){q:List (BSet×Int)×Int}(h:lvW M most M.length=some q):lvW M most (M.length+1)=some ([],q.2)/\ ∃w,q.1=[(List.replicate M.length true,w)]/\cntW M most=(w,0):=by
 obtain⟨w,hw⟩:=lvW_top hM hm h;refine⟨?_,w,hw,by simp only[cntW,h,hw,ZdV,ZaN,Zae]⟩;have e:nxtB M (List.replicate M.length true)=[]:=nxtB_top (by simp[nTr]);simp only[lvW,h,Zbj,hw,Zdg,itW,e,Zdz];rfl
theorem Qaje{M:List (List Int)}{most:Int}{L t i:Nat}{q p p2:List (BSet×Int)×Int}{c:BSet×Int}{s:BSet}(hL:LvOk M.length L most q)(h:lvW M most L=some q)(hc:q.1[t]? =some c)
 (hp:(q.1.take t).foldlM (itW M most) ([],q.2)=some p)(hs:(nxtB M c.1)[i]? =some s)(hp2:((nxtB M c.1).take i).foldlM (addW most c.2) p=some p2)(hn:addW most c.2 p2 s=none):cntW M most=(0,4):=by
 have h1:itW M most p c=none:=Qaiy hp2 hs hn;have h2:q.1.foldlM (itW M most) ([],q.2)=none:=Qaiy hp hc h1;have hl:=hL.len c (Zad hc);obtain⟨g1,g2⟩:=Qai3 (Zad hs)
 have:=nTr_le s
 refine cntW_none (L:=L+1) ?_ (by omega);simp only[lvW,h,Zbj,h2]
theorem atW_not{s:BSet}: ∀{l:List (BSet×Int)},(∀x∈l,x.1≠s)->atW s l=none
 |[],_=>rfl
 |x::r,h=>by
  simp only[atW];rw[Zaj (h x (Zar ..)),atW_not fun y hy=>h y (Zaq _ hy)];rfl
theorem atW_of{s:BSet}: ∀{l:List (BSet×Int)} {j:Nat} {v:Int},(l.map Prod.fst).Nodup->l[j]? =some (s,v)->atW s l=some j
 |[],j,v,_,h=>by simp at h
 |x::r,0,v,_,h=>by
  simp only[ZaL,Zab] at h;subst h;simp[atW]
 |x::r,j+1,v,hd,h=>by
  simp only[ZaU] at h;simp only[Zap,Zcq] at hd;have hx:x.1≠s:=fun e=>hd.1 (by rw[e];exact ZaK.2 ⟨_,Zad h,rfl⟩)
  simp only[atW];rw[Zaj hx,atW_of hd.2 h];rfl
theorem Qai1{most w v:Int}{p:List (BSet×Int)×Int}{s:BSet}{i:Nat}(hd:(p.1.map Prod.fst).Nodup)(h:p.1[i]? =some (s,v)):addW most w p s=if v+w>1000000000 then none else some (p.1.set i (s,v+w),p.2):=by
 simp only[addW,atW_of hd h,h,ZaN,Zae]
theorem Qaip{most w:Int}{p:List (BSet×Int)×Int}{s:BSet}(h: ∀x∈p.1,x.1≠s):addW most w p s=if p.2≥most then none else some (p.1++[(s,w)],p.2+1):=by
 simp only[addW,atW_not h]
theorem Qaio{M:List (List Int)}{most:Int}{L:Nat}{q p:List (BSet×Int)×Int}{t:Nat}(hM: ∀(k:Nat) (own:List Int),M[k]? =some own-> ∀x∈own,0<=x/\x<(k:Int))(hm:1<=most)(h:lvW M most L=some q)
 (hp:(q.1.take t).foldlM (itW M most) ([],q.2)=some p):LvOk M.length (L+1) most p:=by
 obtain⟨i1,_⟩:=Qail hM hm L q h;have h0:LvOk M.length (L+1) most ([],q.2):=⟨by simp,by simp,by simp,by have:=i1.tot;simp only[Zbw];omega⟩;exact Qaii (fun q=>LvOk M.length (L+1) most q) (q.1.take t) ([],q.2) p (fun b a c ha hb hc=>(itW_ok hb (i1.len a (Zcu ha)) (i1.ways a (Zcu ha)) hc).1) h0 hp
theorem addW_in{M:List (List Int)}{most:Int}{L i:Nat}{p p2:List (BSet×Int)×Int}{c:BSet×Int}(hp:LvOk M.length (L+1) most p)(hc:c.1.length=M.length/\nTr c.1=L)(hw:1<=c.2/\c.2<=1000000000)
 (h:((nxtB M c.1).take i).foldlM (addW most c.2) p=some p2):LvOk M.length (L+1) most p2:=by
 refine Qaii (fun q=>LvOk M.length (L+1) most q) ((nxtB M c.1).take i) p p2 (fun b a d ha hb hd=> ?_) hp h;obtain⟨h1,h2⟩:=Qai3 (Zcu ha);exact (addW_ok hb hw ⟨by omega,by omega⟩ hd).1
def nxtK(M:List (List Int))(s:BSet)(k:Nat):List BSet:=((List.range k).filter (rdB M s)).map fun k=>s.set k true
theorem nxtK_all(M:List (List Int))(s:BSet):nxtK M s M.length=nxtB M s:=rfl
theorem Qaij(M:List (List Int))(s:BSet)(k:Nat):nxtK M s (k+1)=nxtK M s k++if rdB M s k=true then [s.set k true] else []:=by
 simp only[nxtK,Zeb,Zel,Zbb];congr 1;by_cases c:rdB M s k=true
 .rw[Zam c,ZdB c];rfl
 .rw[Zaj c,Zcs c];rfl
theorem Qaiv(M:List (List Int))(s:BSet){k:Nat}(h:k<=M.length):(nxtB M s).take (nxtK M s k).length=nxtK M s k:=by
 have: ∀d,nxtK M s k<+:nxtK M s (k+d):=by
  intro d;induction d with
  |zero=>exact List.prefix_refl _
  |succ d ih=>rw[<-Zcp,Qaij];exact ih.trans (List.prefix_append _ _)
 have h2:=this (M.length - k);rw[show k+(M.length - k)=M.length by omega,nxtK_all] at h2;exact (List.prefix_iff_eq_take.1 h2).symm
theorem nxtK_at(M:List (List Int))(s:BSet){k:Nat}(h:k<M.length)(hr:rdB M s k=true):(nxtB M s)[(nxtK M s k).length]? =some (s.set k true):=by
 have h1:=Qaiv M s (show k+1<=M.length by omega);have h2:=Qaij M s k;rw[Zam hr] at h2;rw[h2] at h1;have h3:((nxtB M s).take (nxtK M s k++[s.set k true]).length)[(nxtK M s k).length]? =some (s.set k true):=by rw[h1];simp
 rw[ZdG] at h3;split at h3
 .exact h3
 .simp at h3
theorem Qajf(s t:BSet):D.beq (.str (strB s)) (.str (strB t))=decide (s=t):=by
 simp only[D.beq,Qpj];by_cases c:s=t
 .subst c;simp
 .rw[ZcE c,ZcE fun h=>c (Qajd h)]
def plM:Nat->List (BSet×Int)->List (D×D)
 |_,[]=>[]
 |i,x::r=>(.str (strB x.1),.int .i64 i)::plM (i+1) r
theorem plM_lk(s:BSet): ∀(l:List (BSet×Int)) (i:Nat),lk (plM i l) (.str (strB s))=(atW s l).map fun j=>D.int .i64 ((i+j:Nat):Int)
 |[],i=>rfl
 |x::r,i=>by
  simp only[plM,lk,Qajf,atW];by_cases c:x.1=s
  .rw[Zam c,Zes c.symm];rfl
  .rw[Zaj c,ZcE (fun h=>c h.symm),ZaT,plM_lk s r (i+1)];cases atW s r with
   |none=>rfl
   |some j=>simp only[ZaN];congr 3;omega
theorem plM_new(s:BSet)(w:Int): ∀(l:List (BSet×Int)) (i:Nat),(∀x∈l,x.1≠s)->upd (plM i l) (.str (strB s)) (.int .i64 ((i+l.length:Nat):Int))=plM i (l++[(s,w)])
 |[],i,_=>rfl
 |x::r,i,h=>by
  have hx: ¬s=x.1:=fun e=>h x (Zar ..) e.symm
  simp only[plM,upd,Qajf,ZcE hx,ZaT,ZaC,ZaH];congr 1
  have:=plM_new s w r (i+1) fun y hy=>h y (Zaq _ hy)
  rw[show i+(r.length+1)=i+1+r.length by omega];exact this
theorem plM_set(s:BSet)(v w:Int): ∀(l:List (BSet×Int)) (i j:Nat),l[j]? =some (s,v)->plM i (l.set j (s,w))=plM i l
 |[],i,j,h=>by simp at h
 |x::r,i,0,h=>by
  simp only[ZaL,Zab] at h;subst h;rfl
 |x::r,i,j+1,h=>by
  simp only[ZaU] at h;simp only[Zcr,plM];rw[plM_set s v w r (i+1) j h]
def Qaik(b:Bool):List D:=[.bool b]
def Qai9:List D->Option Bool
 |[.bool b]=>some b
 |_=>none
theorem Qai4: ∀ds x,Qai9 ds=some x->LeS ds (Qaik x):=by
 intro ds x h;unfold Qai9 at h;split at h
 .simp only[Zab] at h;subst h;exact⟨Le.refl _,trivial⟩
 .cases h
theorem boolD_c(x:Bool):Qai9 (Qaik x)=some x:=rfl
theorem boolD_R(l:List Bool):decR Qai9 (l.map Qaik)=some l:=Qb4 boolD_c l
def sameB_.ar:List PK->Option ((List Bool)×(List Bool)):=a2 (kS Qai9) (kS Qai9)
def sameB_.ae(a:(List Bool)×(List Bool)):List PK:=[.val (.sl false 1 (a.1.map Qaik)),.val (.sl false 1 (a.2.map Qaik))]
def sameB_.fv(a:(List Bool)×(List Bool)):Bool:=(fun a b=>decide (a=b)) (a.1) (a.2)
def sameB_.row:Row:=Qfi sameB_.ar (fun a=>a.1.length=a.2.length) (fun a=>(D.bool) (sameB_.fv a))
def sameB_.q:=vqF sameB_.row rfl
theorem sameB_.ok:Qas Tryz.prog 80 sameB_.row:=by
 refine Qbn Qaq tN Tryz.func80 rfl (by kernel_rfl) (by kernel_rfl) (ar:=sameB_.ar) (ae:=sameB_.ae) (Qaca (Qacb 1 Qai4 (fun _=>rfl)) (Qacb 1 Qai4 (fun _=>rfl))) (n:=2) (fun _=>rfl) (by decide) (rc:=(Qa8)) (re:=(D.bool)) (Qat) (f:=sameB_.fv) ?_;intro a hpre;simp only[Tryz.f80,Option.getD];simp (maxSteps:=10^7) (disch:=omega) only[ZZ,simprocAttr,rch,sameB_.ae,sameB_.fv,ORC,D.sc,D.scs,scL,decD];obtain⟨a,b⟩:=a;simp only at hpre⊢;refine Qay.old ⟨{k:Nat//k<=a.length/\a.take k=b.take k},fun k=>⟨[(5,.im (.int .i64 k.1)),(4,.im (.bool false)),(0,.im (.sl false 1 (a.map Qaik))),(1,.im (.sl false 1 (b.map Qaik)))],[],0⟩,fun k=>a.length - k.1,fun k=>⟨by simp[Qad.good,belT,belH,Qam,AV.bel,belL],by simp⟩,⟨⟨0,by simp⟩,by simp (maxSteps:=10^7) (disch:=omega) only[ZZ,simprocAttr,rch,sameB_.ae,sameB_.fv,ORC,D.sc,D.scs,scL,decD,sub];try simp⟩,fun k=> ?_⟩;obtain⟨k,hk1,hk2⟩:=k;simp (maxSteps:=10^7) (disch:=omega) only[ZZ,simprocAttr,rch,sameB_.ae,sameB_.fv,ORC,D.sc,D.scs,scL,decD,sub,Qal,Qaik];intro h0;refine⟨fun hk=>⟨hk,fun x hx=>⟨by omega,fun y hy=> ?_⟩⟩,fun hk=> ?_⟩
 .obtain⟨g1,g2⟩:=Qew hpre hk1 hk2 hx hy;refine⟨fun h=> ?_,fun h=> ?_⟩
  .have hne:x≠y:=by simpa using h
   simp[g2 hne]
  .have he:x=y:=by simpa using h
   exact Qb6 hk h0 ⟨by omega,g1 he⟩
 .rw[Zav (by omega),Zav (by omega)] at hk2;simp[hk2]
def rdy_.ar:List PK->Option ((List Bool)×(List (List Int))×Int):=a3 (kS Qai9) (kS Qpb) kI
def rdy_.ae(a:(List Bool)×(List (List Int))×Int):List PK:=[.val (.sl false 1 (a.1.map Qaik)),.val (.sl false 1 (a.2.1.map Qcd)),.val (.int .i64 a.2.2)]
def rdy_.fv(a:(List Bool)×(List (List Int))×Int):Bool:=(fun a b c=>rdB b a c.toNat) (a.1) (a.2.1) (a.2.2)
def rdy_.row:Row:=Qfi rdy_.ar (fun a=>0<=a.2.2/\a.2.2<a.1.length/\a.2.2<a.2.1.length/\ ∀own,a.2.1[(a.2.2).toNat]? =some own-> ∀x∈own,0<=x/\x<a.1.length) (fun a=>(D.bool) (rdy_.fv a))
def rdy_.q:=vqF rdy_.row rfl
theorem rdy_.ok:Qas Tryz.prog 79 rdy_.row:=by
 refine Qbn Qaq tN Tryz.func79 rfl (by kernel_rfl) (by kernel_rfl) (ar:=rdy_.ar) (ae:=rdy_.ae) (Qace (Qacb 1 Qai4 (fun _=>rfl)) (Qacb 1 Qj4 (fun _=>rfl)) Qab9) (n:=3) (fun _=>rfl) (by decide) (rc:=(Qa8)) (re:=(D.bool)) (Qat) (f:=rdy_.fv) ?_;intro a hpre;simp only[Tryz.f79,Option.getD];simp (maxSteps:=10^7) (disch:=omega) only[ZZ,simprocAttr,rch,rdy_.ae,rdy_.fv,ORC,D.sc,D.scs,scL,decD];obtain⟨s,M,k⟩:=a;simp only at hpre⊢;obtain⟨h1,h2,h3,h4⟩:=hpre;obtain⟨q,rfl⟩: ∃q:Nat,k=q:=⟨k.toNat,by omega⟩;rw[Zak] at h4⊢;simp (maxSteps:=10^7) (disch:=omega) only[ZZ,simprocAttr,rch,rdy_.ae,rdy_.fv,ORC,D.sc,D.scs,scL,decD,sub,Qal,Qaik];refine⟨by omega,fun x hx=>⟨fun c=> ?_,fun c=> ?_⟩⟩
 .subst c;simp[rdB,hx]
 obtain rfl:x=false:=by simpa using c
 obtain⟨own,ho⟩: ∃own,M[q]? =some own:=⟨_,Zac (by omega)⟩;have hin:=h4 own ho;refine Qay.old ⟨{j:Nat//j<=own.length/\ ∀x∈own.take j,s[x.toNat]? =some true},fun j=>⟨[(7,.im (.int .i64 j.1)),(6,.im (.bool false)),(0,.im (.sl false 1 (s.map Qaik))),(1,.im (.sl false 1 (M.map Qcd))),(2,.im (.int .i64 q))],[],0⟩,fun j=>own.length - j.1,fun j=>⟨by simp[Qad.good,belT,belH,Qam,AV.bel,belL],by simp⟩,⟨⟨0,by simp⟩,by simp (maxSteps:=10^7) (disch:=omega) only[ZZ,simprocAttr,rch,rdy_.ae,rdy_.fv,ORC,D.sc,D.scs,scL,decD,sub,Qaik];try simp⟩,fun j=> ?_⟩;obtain⟨j,hj1,hj2⟩:=j;simp (maxSteps:=10^7) (disch:=omega) only[ZZ,simprocAttr,rch,rdy_.ae,rdy_.fv,ORC,D.sc,D.scs,scL,decD,sub,Qal,Qaik];refine⟨by omega,fun own2 ho2 hB=> ?_⟩;obtain rfl:own=own2:=Zaa (ho.symm.trans ho2);have e:rdB M s q=own.all fun x=>s[x.toNat]? ==some true:=by simp[rdB,hx,ho]
 refine⟨fun hj=>⟨by omega,fun own3 ho3=> ?_⟩,fun hj=> ?_⟩
 .obtain rfl:own=own3:=Zaa (ho.symm.trans ho3);refine⟨hj,fun y hy=> ?_⟩;have hym:=Zad hy;obtain⟨b1,b2⟩:=hin y hym;refine⟨b1,b2,fun z hz=>⟨fun hf=> ?_,fun hf=>⟨⟨j+1,by omega,?_⟩,by simp only;omega,by rw[Qak (by omega) (by omega)];simp only;omega⟩⟩⟩
  .subst hf;rw[e];symm;rw[List.all_eq_false];exact⟨y,hym,by simp[hz]⟩
  .intro w hw;rw[Qwe hy] at hw;rcases Zao.1 hw with h|h
   .exact hj2 w h
   .rw[Zan] at h;subst h;rw[hz];cases z with
    |true=>rfl
    |false=>exact absurd rfl hf
 .rw[e];symm;rw[ZaR];intro w hw;rw[Zav (by omega)] at hj2;simp[hj2 w hw]
def Qais(a b:Int):Int×Int:=if a+b>1000000000 then (0,4) else (a+b,0)
def sum9_.ar:List PK->Option (Int×Int):=a2 kI kI
def sum9_.ae(a:Int×Int):List PK:=[.val (.int .i64 a.1),.val (.int .i64 a.2)]
def sum9_.fv(a:Int×Int):Int×Int:=(Qais) (a.1) (a.2)
def sum9_.row:Row:=vrow sum9_.ar (fun a=>0<=a.1/\a.1<=1000000000/\0<=a.2/\a.2<=1000000000) (fun a=>(fun b=>D.tup [(D.int .i64) (b.1),(D.int .i64) (b.2)]) (sum9_.fv a))
def sum9_.q:=vq sum9_.row rfl
theorem sum9_.ok:Qas Tryz.prog 81 sum9_.row:=by
 refine Qaj Qaq tN Tryz.func81 rfl (by kernel_rfl) (by kernel_rfl) (ar:=sum9_.ar) (ae:=sum9_.ae) (Qaca Qab9 Qab9) (n:=2) (fun _=>rfl) (by decide) (rc:=(Qfa (vInt) (vInt))) (re:=(fun b=>D.tup [(D.int .i64) (b.1),(D.int .i64) (b.2)])) (Qbz (Qa3) (Qa3)) (f:=sum9_.fv) ?_;intro a hpre;simp only[Tryz.f81,Option.getD];simp (maxSteps:=10^7) (disch:=omega) only[ZZ,simprocAttr,rch,sum9_.ae,sum9_.fv];obtain⟨a,b⟩:=a;simp only at hpre⊢;obtain⟨h1,h2,h3,h4⟩:=hpre;have hw:IntKind.i64.wrap (a+b)=a+b:=Qak (by omega) (by omega);simp (maxSteps:=10^7) (disch:=omega) only[ZZ,simprocAttr,rch,sum9_.ae,sum9_.fv,sub,Qal,hw];exact⟨fun h=>by simp only[Qais];rw[Zam h],fun h=>by simp only[Qais];rw[Zaj h]⟩
theorem u8_48(c:UInt8):decide ((c.toNat:Int)=48)=decide (c=48):=by
 by_cases h:c=48
 .subst h;rfl
 .rw[ZcE h,ZcE];intro e;apply h;apply UInt8.toNat_inj.1
  have:c.toNat=48:=by omega
  rw[this];rfl
def coF1.ar:List PK->Option (Int×ByteArray):=a2 kI (kP strD 1)
def coF1.ae(a:Int×ByteArray):List PK:=[.val (.int .i64 a.1),.ptr (strC a.2)]
def coF1.fv(a:Int×ByteArray):Bool:=(fun k s=>decide ((s.data[k.toNat]?).getD 0=48)) (a.1) (a.2)
def coF1.row:Row:=vrow coF1.ar (fun a=>0<=a.1/\a.1<a.2.size) (fun a=>(D.bool) (coF1.fv a))
def coF1.q:=vq coF1.row rfl
theorem coF1.ok:Qas Tryz.prog 52 coF1.row:=by
 refine Qaj Qaq tN Tryz.func52 rfl (by kernel_rfl) (by kernel_rfl) (ar:=coF1.ar) (ae:=coF1.ae) (Qaca Qab9 (Qacc 1 Qai2)) (n:=2) (fun _=>rfl) (by decide) (rc:=(Qa8)) (re:=(D.bool)) (Qat) (f:=coF1.fv) ?_;intro a hpre;simp only[Tryz.f52,Option.getD];simp (maxSteps:=10^7) (disch:=omega) only[ZZ,simprocAttr,rch,coF1.ae,coF1.fv];obtain⟨h1,h2⟩:=hpre;refine⟨h1,h2,fun c hc=> ?_⟩;rw[hc,Zae,u8_48]
def IdxCo_.ar:List PK->Option ((List Int)×ByteArray)
 |[.val (.sl _ _ x0),.val (.fn 52 [] [.ref x1_0])]=>(decR intD x0).bind fun y0=>(strD (x1_0.take 1)).bind fun y1_0=>some (y0,y1_0)
 |_=>none
def IdxCo_.ae(a:(List Int)×ByteArray):List PK:=[.val (.sl false 1 (a.1.map intC)),.val (.fn 52 [] [.ref (strC a.2)])]
theorem IdxCo_.le: ∀ps a,IdxCo_.ar ps=some a->LeKL ps (IdxCo_.ae a):=by
 intro ps a h;unfold IdxCo_.ar at h;split at h
 .simp only[ZaF,Zab] at h;obtain⟨y0,h0,y1_0,h1_0,rfl⟩:=h;exact⟨Qbf (Qa2 Qb3 _ _ h0) (by simp only[ZaK];rintro r ⟨y,_,rfl⟩;rfl),Qos ⟨Qil (LeP.trans_take (Qai2 _ _ h1_0)),trivial⟩,trivial⟩
 .cases h
def IdxCo_.fv(a:(List Int)×ByteArray):Int:=(fun l s=>Qaw (fun k:Int=>decide ((s.data[k.toNat]?).getD 0=48)) 0 l) (a.1) (a.2)
def IdxCo_.row:Row:=vrow IdxCo_.ar (fun a=> ∀k∈a.1,0<=k/\k<a.2.size) (fun a=>(D.int .i64) (IdxCo_.fv a))
def IdxCo_.q:=vq IdxCo_.row rfl
def YaY:=J @IdxCo_.ae.eq_1 (J @IdxCo_.fv.eq_1 (J @coF1.q (J @coF1.ar.eq_1 @coF1.fv.eq_1)))
theorem IdxCo_.ok:Qas Tryz.prog 71 IdxCo_.row:=by
 refine Qaj Qaq (tC coF1.ok tN) Tryz.func71 rfl (by kernel_rfl) (by kernel_rfl) (ar:=IdxCo_.ar) (ae:=IdxCo_.ae) IdxCo_.le (n:=2) (fun _=>rfl) (by decide) (rc:=(vInt)) (re:=(D.int .i64)) (Qa3) (f:=IdxCo_.fv) ?_;intro a hpre;simp only[Tryz.f71,Option.getD];simp (maxSteps:=10^7) (disch:=omega) only[ZZ,simprocAttr,rch,YaY];intro hn;obtain⟨l,s⟩:=a;simp only at hpre hn⊢;refine Qay.old ⟨{k:Nat//k<=l.length/\Qaw (fun k:Int=>decide ((s.data[k.toNat]?).getD 0=48)) k (l.drop k)=Qaw (fun k:Int=>decide ((s.data[k.toNat]?).getD 0=48)) 0 l},fun k=>⟨[(8,.im (.int .i64 k.1)),(7,.im (.int .i64 l.length)),(6,.im (.sl false 1 (l.map intC))),(4,.im (.int .i64 0)),(0,.im (.sl false 1 (l.map intC))),(1,.im (.fn 52 [] [.ref [.str s]]))],[],0⟩,fun k=>l.length - k.1,fun k=>⟨by simp[Qad.good,belT,belH,Qam,AV.bel,belL],Zal _⟩,⟨⟨0,by simp⟩,by simp (maxSteps:=10^7) (disch:=omega) only[ZZ,simprocAttr,rch,YaY,sub]⟩,fun k=> ?_⟩;obtain⟨k,hk1,hk2⟩:=k;simp (maxSteps:=10^7) (disch:=omega) only[ZZ,simprocAttr,rch,YaY,sub,Qal];refine⟨fun hk=>⟨hk,fun x hx=> ?_⟩,fun hk=> ?_⟩
 .rw[Qd3 hx,Qaw] at hk2;have hb:=hpre x (Zad hx);refine⟨hb,fun h=> ?_,fun h=>Qb6 hk hn ⟨by omega,by rw[<-hk2,Zaj (by simpa using h)]⟩⟩;rw[Zam (by simpa using h)] at hk2;exact hk2.symm▸rfl
 .rw[Zau (by omega),Qaw] at hk2;exact hk2
def ContCo_.ar:List PK->Option ((List Int)×ByteArray)
 |[.val (.sl _ _ x0),.val (.fn 52 [] [.ref x1_0])]=>(decR intD x0).bind fun y0=>(strD (x1_0.take 1)).bind fun y1_0=>some (y0,y1_0)
 |_=>none
def ContCo_.ae(a:(List Int)×ByteArray):List PK:=[.val (.sl false 1 (a.1.map intC)),.val (.fn 52 [] [.ref (strC a.2)])]
theorem ContCo_.le: ∀ps a,ContCo_.ar ps=some a->LeKL ps (ContCo_.ae a):=by
 intro ps a h;unfold ContCo_.ar at h;split at h
 .simp only[ZaF,Zab] at h;obtain⟨y0,h0,y1_0,h1_0,rfl⟩:=h;exact⟨Qbf (Qa2 Qb3 _ _ h0) (by simp only[ZaK];rintro r ⟨y,_,rfl⟩;rfl),Qos ⟨Qil (LeP.trans_take (Qai2 _ _ h1_0)),trivial⟩,trivial⟩
 .cases h
def ContCo_.fv(a:(List Int)×ByteArray):Bool:=(fun l s=>l.any (fun k:Int=>decide ((s.data[k.toNat]?).getD 0=48))) (a.1) (a.2)
def ContCo_.row:Row:=vrow ContCo_.ar (fun a=> ∀k∈a.1,0<=k/\k<a.2.size) (fun a=>(D.bool) (ContCo_.fv a))
def ContCo_.q:=vq ContCo_.row rfl
theorem ContCo_.ok:Qas Tryz.prog 51 ContCo_.row:=by
 refine Qaj Qaq (tC IdxCo_.ok tN) Tryz.func51 rfl (by kernel_rfl) (by kernel_rfl) (ar:=ContCo_.ar) (ae:=ContCo_.ae) ContCo_.le (n:=2) (fun _=>rfl) (by decide) (rc:=(Qa8)) (re:=(D.bool)) (Qat) (f:=ContCo_.fv) ?_;intro a hpre;simp only[Tryz.f51,Option.getD];simp (maxSteps:=10^7) (disch:=omega) only[ZZ,simprocAttr,rch,ContCo_.ae,ContCo_.fv,IdxCo_.q,IdxCo_.ar,IdxCo_.fv];exact⟨hpre,Qsr _ _⟩
def ssiC(x:List (List Int)):List D:=[.sl false 1 (x.map Qcd)]
def ssiD:List D->Option (List (List Int))
 |[.sl _ _ rows]=>decR Qpb rows
 |_=>none
theorem ssiD_le: ∀ds x,ssiD ds=some x->LeS ds (ssiC x):=by
 intro ds x h;unfold ssiD at h;split at h
 .exact⟨Qbf (Qa2 Qj4 _ _ h) (by simp[Qcd]),trivial⟩
 .cases h
def nxtT(x:ByteArray)(M:List (List Int)):List ByteArray:=(nxtB M (x.data.toList.map fun c=>decide (c=49))).map strB
theorem strB_dec(s:BSet):((strB s).data.toList.map fun c=>decide (c=49))=s:=by
 simp only[strB,Zdj]
 conv=>rhs;rw[<-List.map_id s]
 apply Zce;intro b _;cases b<;>rfl
theorem nxtK_len(M:List (List Int))(s:BSet)(k:Nat):(nxtK M s k).length<=k:=by
 simp only[nxtK,ZaM];exact Zbc (ZdO _ _) (by simp)
theorem Qajb(s:BSet)(M:List (List Int)):nxtT (strB s) M=(nxtB M s).map strB:=by
 simp only[nxtT,strB_dec]
theorem coN_rd{M:List (List Int)}{s:BSet}{k:Nat}{own:List Int}{c:UInt8}(hs:s.length=M.length)(ho:M[k]? =some own)(hM: ∀x∈own,0<=x/\x<(k:Int))(hc:(strB s).data[k]? =some c):
 rdB M s k=(decide ((c.toNat:Int)=48) && !(own.any fun x:Int=>decide (((strB s).data[x.toNat]?).getD 0=48))):=by
 have hk:=(Zai.1 ho).1;rw[Qajk] at hc;have hsk:s[k]? =some (s[k]'(by omega)):=Zac (by omega);rw[hsk,ZaN,Zab] at hc;simp only[rdB,hsk,ho,Zae];have e1:(some (s[k]'(by omega))==some false)=decide ((c.toNat:Int)=48):=by
  rw[<-hc];cases s[k]'(by omega)<;>decide
 have e2:(own.all fun x:Int=>s[x.toNat]? ==some true)= !(own.any fun x:Int=>decide (((strB s).data[x.toNat]?).getD 0=48)):=by
  rw[Zev]
  have: ∀(l:List Int),(∀x∈l,x∈own)->(l.all fun x:Int=>s[x.toNat]? ==some true)=l.all fun x:Int=> !decide (((strB s).data[x.toNat]?).getD 0=48):=by
   intro l;induction l with
   |nil=>intro _;rfl
   |cons x r ih=>
    intro hl;obtain⟨b1,b2⟩:=hM x (hl x (Zar ..));simp only[Zcm];rw[ih fun y hy=>hl y (Zaq _ hy)];congr 1;rw[Qajk,Zac (show x.toNat<s.length by omega),ZaN,Zae];cases s[x.toNat]'(by omega)<;>decide
  exact this own fun x h=>h
 rw[e1,e2]
def coN.ar:List PK->Option (ByteArray×(List (List Int))):=a2 kT (kP ssiD 1)
def coN.ae(a:ByteArray×(List (List Int))):List PK:=[.val (.str a.1),.ptr (ssiC a.2)]
def coN.fv(a:ByteArray×(List (List Int))):List ByteArray:=(nxtT) (a.1) (a.2)
def coN.row:Row:=vrow coN.ar (fun a=> ∃s:BSet,a.1=strB s/\s.length=a.2.length/\a.2.length<=500/\ ∀(k:Nat) (own:List Int),a.2[k]? =some own-> ∀x∈own,0<=x/\x<(k:Int)) (fun a=>(fun b=>D.sl false 1 (b.map strC)) (coN.fv a))
def coN.q:=vq coN.row rfl
def YaZ:=J @coN.ae.eq_1 (J @coN.fv.eq_1 (J @ContCo_.q @ContCo_.fv.eq_1))
theorem coN.ok:Qas Tryz.prog 50 coN.row:=by
 refine Qaj Qaq (tC ContCo_.ok tN) Tryz.func50 rfl (by kernel_rfl) (by kernel_rfl) (ar:=coN.ar) (ae:=coN.ae) (Qaca Qajn (Qacc 1 ssiD_le)) (n:=2) (fun _=>rfl) (by decide) (rc:=(vSl strD)) (re:=(fun b=>D.sl false 1 (b.map strC))) (Qe8 Qai2 (fun _=>rfl)) (f:=coN.fv) ?_;intro a hpre;simp only[Tryz.f50,Option.getD];simp (maxSteps:=10^7) (disch:=omega) only[ZZ,simprocAttr,rch,YaZ,ContCo_.ar];obtain⟨x,M⟩:=a;simp only at hpre⊢;obtain⟨s,rfl,hs,hn5,hM⟩:=hpre;rw[Qajb];have hsz:=Qain s;simp (maxSteps:=10^7) (disch:=omega) only[ZZ,simprocAttr,rch,YaZ,ContCo_.ar,ssiC];intro _;refine Qay.frr ⟨{k:Nat//k<=M.length},fun k=>⟨[(10,.im (.int .i64 k.1)),(9,.im (.int .i64 M.length)),(8,.im (.sl false 1 (M.map Qcd))),(4,.own 4),(2,.ptr 1 0)],[(4,(true,.arr 9 1 (((nxtK M s k.1).map strB).map strC))),(1,(false,.cells 9 [.im (.str (strB s))])),(0,(false,.view [.sl false 1 (M.map Qcd)]))],5⟩,fun k=>M.length - k.1,fun k=>⟨by simp[Qad.good,belT,belH,Qam,AV.bel,belL],by simp⟩,⟨⟨0,by simp⟩,[1],[(4,some 3)],?_⟩,fun k=> ?_⟩
 .simp only[subP];simp (maxSteps:=10^7) (disch:=omega) only[ZZ,simprocAttr,rch,YaZ,ContCo_.ar,Zag,Zaf,nxtK,ZeE,ZeN,ZaS,ssiC]
  try simp
 obtain⟨k,hk1⟩:=k;simp (maxSteps:=10^7) (disch:=omega) only[ZZ,simprocAttr,rch,YaZ,ContCo_.ar,sub,Qal,ssiC,Qag,Qac,Qaf,allD,D.one,Zbh,Zcg,Zdd];have hkl:=nxtK_len M s k;refine⟨fun hk=>⟨hk,fun own ho=> ?_⟩,fun hk=> ?_⟩
 .have hin:=hM k own ho;have hw:IntKind.i64.wrap ((k:Int)+1)=(k:Int)+1:=Qak (by omega) (by omega);refine⟨fun y hy=>by have:=hin y hy;omega,by omega,fun c hc=> ?_⟩;have hrd:=coN_rd hs ho hin hc;have hno:rdB M s k=false->nxtK M s (k+1)=nxtK M s k:=fun h=>by rw[Qaij,Zaj (by rw[h];decide),ZaJ]
  refine⟨fun h48=>⟨fun ha=> ?_,fun ha=> ?_⟩,fun h48=> ?_⟩
  .have hr:rdB M s k=true:=by rw[hrd,ha,Zes h48];rfl
   have e0:((strB s).extract 0 k).size=k:=by rw[Qaiq,Qain];simp;omega
   have e1:((strB s).extract (k+1) (strB s).size).size=s.length - (k+1):=by rw[hsz,Qaiq,Qain];simp
   have e2:(⟨#[49]⟩:ByteArray)=strB [true]:=rfl;have e3:(strB [true]).size=1:=Qain _;have e4:=strB_set s k (by omega);rw[<-hsz] at e4;have e5:((k:Int)+1).toNat=k+1:=by omega
   simp only[hw,e5,ByteArray.size_append,e2,e0,e1,e3,e4];refine⟨by omega,by omega,by omega,by omega,by omega,by omega,⟨k+1,by omega⟩,[],[(4,some 6)],by simp only;omega,?_⟩;simp only[subP];simp (maxSteps:=10^7) (disch:=omega) only[ZZ,simprocAttr,rch,YaZ,ContCo_.ar,Zag,Zaf];rw[Qaij,Zam hr];simp[strC]
  .refine⟨⟨k+1,by omega⟩,[],[(4,some 4)],by simp only;omega,?_⟩;simp only[subP];simp (maxSteps:=10^7) (disch:=omega) only[ZZ,simprocAttr,rch,YaZ,ContCo_.ar,Zag,Zaf];rw[hno (by rw[hrd];simp at ha;simp[ha]),hw];simp
  .refine⟨⟨k+1,by omega⟩,[],[(4,some 4)],by simp only;omega,?_⟩;simp only[subP];simp (maxSteps:=10^7) (disch:=omega) only[ZZ,simprocAttr,rch,YaZ,ContCo_.ar,Zag,Zaf];rw[hno (by rw[hrd,ZcE h48];rfl),hw];simp
 .have:k=M.length:=by omega
  subst this;rfl
abbrev SRow:=BSet×Int×Int
def srow(L:Nat)(x:BSet×Int):SRow:=(x.1,x.2,(L:Int))
structure SpW(M:List (List Int))(most:Int)(k i:Nat)(l:List SRow)(L t:Nat)(q p p2:List (BSet×Int)×Int)(B:List SRow)(c:BSet×Int):Prop where
 lv:lvW M most L=some q
 hp:(q.1.take t).foldlM (itW M most) ([],q.2)=some p
 hc:q.1[t]? =some c
 hp2:(nxtK M c.1 k).foldlM (addW most c.2) p=some p2
 hl:l=B++q.1.map (srow L)++p2.1.map (srow (L+1))
 hi:i=B.length+t
 hn:p2.2=(l.length:Int)
def SpO(M:List (List Int))(most:Int)(i:Nat)(l:List SRow):Prop:=
 ∃L t q p,∃B:List SRow,lvW M most L=some q/\t<=q.1.length/\(q.1.take t).foldlM (itW M most) ([],q.2)=some p/\l=B++q.1.map (srow L)++p.1.map (srow (L+1))/\i=B.length+t/\p.2=(l.length:Int)/\L<=M.length
def noM(M:List (List Int)):Prop:= ∀(k:Nat) (own:List Int),M[k]? =some own-> ∀x∈own,0<=x/\x<(k:Int)
theorem spO_first(M:List (List Int))(most:Int):SpO M most 0 [(List.replicate M.length false,1,0)]:=
 ⟨0,0,_,_,[],rfl,Zbm _,rfl,rfl,rfl,rfl,Zbm _⟩
theorem spO_num{M:List (List Int)}{most:Int}(hM:noM M)(hm:1<=most){i:Nat}{l:List SRow}(h:SpO M most i l):(l.length:Int)<=most/\i<=l.length/\1<=l.length:=by
 obtain⟨L,t,q,p,B,h1,h2,h3,h4,h5,h6,h7⟩:=h
 have:=(Qaio hM hm h1 h3).tot
 have hq:=(Qail hM hm L q h1).2 h7;have hql:0<q.1.length:=Zcz.2 hq
 have:l.length=B.length+q.1.length+p.1.length:=by rw[h4];simp only[Zaz,ZaM]
 omega
theorem spO_in{M:List (List Int)}{most:Int}(hM:noM M)(hm:1<=most){i:Nat}{l:List SRow}(h:SpO M most i l)(hi:i<l.length): ∃L t q p B c,SpW M most 0 i l L t q p p B c/\L<M.length+1:=by
 obtain⟨L,t,q,p,B,h1,h2,h3,h4,h5,h6,h7⟩:=h;by_cases c:t<q.1.length
 .exact⟨L,t,q,p,B,q.1[t],⟨h1,h3,Zac c,rfl,h4,h5,h6⟩,by omega⟩
 .have ht:t=q.1.length:=by omega
  rw[Zav (by omega)] at h3;have hlv:lvW M most (L+1)=some p:=by simp only[lvW,h1,Zbj,h3]
  have hll:l.length=B.length+q.1.length+p.1.length:=by rw[h4];simp only[Zaz,ZaM]
  have hp0:0<p.1.length:=by omega
  have hL:L+1<=M.length:=by
   apply Zcl;intro hn;obtain rfl:L=M.length:=by omega
   rw[(Qait hM hm h1).1] at hlv;obtain rfl:=Zaa hlv;simp at hp0
  refine⟨L+1,0,p,([],p.2),B++q.1.map (srow L),p.1[0],⟨hlv,rfl,Zac hp0,rfl,?_,?_,h6⟩,by omega⟩
  .rw[h4];simp
  .simp;omega
theorem spO_end{M:List (List Int)}{most:Int}(hM:noM M)(hm:1<=most){i:Nat}{l:List SRow}(h:SpO M most i l)(hi: ¬i<l.length): ∀x,l[l.length - 1]? =some x->cntW M most=(x.2.1,0):=by
 intro x hx;have hb:=spO_num hM hm h;obtain⟨L,t,q,p,B,h1,h2,h3,h4,h5,h6,h7⟩:=h;have hll:l.length=B.length+q.1.length+p.1.length:=by rw[h4];simp only[Zaz,ZaM]
 have ht:t=q.1.length:=by omega
 rw[Zav (by omega)] at h3;have hlv:lvW M most (L+1)=some p:=by simp only[lvW,h1,Zbj,h3]
 have hp0:p.1=[]:=ZbN (by omega);have hL:L=M.length:=by
  apply Zcl;intro hn;exact (Qail hM hm _ _ hlv).2 (by omega) hp0
 subst hL;obtain⟨_,w,hw,hcn⟩:=Qait hM hm h1;rw[hp0,hw] at h4
 have:l=B++[srow M.length (List.replicate M.length true,w)]:=by rw[h4];simp
 rw[this] at hx;simp at hx;rw[hcn,<-hx];rfl
theorem SpW.out{M:List (List Int)}{most:Int}{i:Nat}{l:List SRow}{L t:Nat}{q p p2:List (BSet×Int)×Int}{B:List SRow}{c:BSet×Int}(h:SpW M most M.length i l L t q p p2 B c)(hL:L<M.length+1):SpO M most (i+1) l:=by
 obtain⟨h1,h2,h3,h4,h5,h6,h7⟩:=h;refine⟨L,t+1,q,p2,B,h1,?_,?_,h5,by omega,h7,by omega⟩
 .have:=(Zai.1 h3).1;omega
 .rw[Qaim h2 h3];exact h4
theorem SpW.skip{M:List (List Int)}{most:Int}{k i:Nat}{l:List SRow}{L t:Nat}{q p p2:List (BSet×Int)×Int}{B:List SRow}{c:BSet×Int}(h:SpW M most k i l L t q p p2 B c)(hr: ¬rdB M c.1 k=true):SpW M most (k+1) i l L t q p p2 B c:=by
 obtain⟨h1,h2,h3,h4,h5,h6,h7⟩:=h;refine⟨h1,h2,h3,?_,h5,h6,h7⟩;rw[Qaij,Zaj hr,ZaJ];exact h4
theorem SpW.at{M:List (List Int)}{most:Int}{k i:Nat}{l:List SRow}{L t:Nat}{q p p2:List (BSet×Int)×Int}{B:List SRow}{c:BSet×Int}(h:SpW M most k i l L t q p p2 B c):l[i]? =some (srow L c):=by
 obtain⟨h1,h2,h3,h4,h5,h6,h7⟩:=h
 have:=(Zai.1 h3).1
 rw[h5,Zbz,ZaE (by omega),ZaI (by simp;omega),ZaG,show i - B.length=t by omega,h3];rfl
theorem SpW.ok{M:List (List Int)}{most:Int}(hM:noM M)(hm:1<=most){k i:Nat}{l:List SRow}{L t:Nat}{q p p2:List (BSet×Int)×Int}{B:List SRow}{c:BSet×Int}(h:SpW M most k i l L t q p p2 B c)(hk:k<=M.length):
 (c.1.length=M.length/\nTr c.1=L)/\(1<=c.2/\c.2<=1000000000)/\LvOk M.length (L+1) most p2/\LvOk M.length L most q:=by
 obtain⟨h1,h2,h3,h4,h5,h6,h7⟩:=h;have hq:=(Qail hM hm L q h1).1;have hc:=Zad h3;have hlc:=hq.len c hc;have hwc:=hq.ways c hc;refine⟨hlc,hwc,?_,hq⟩;rw[<-Qaiv M c.1 hk] at h4;exact addW_in (Qaio hM hm h1 h2) hlc hwc h4
theorem SpW.hiG{M:List (List Int)}{most:Int}{k i:Nat}{l:List SRow}{L t:Nat}{q p p2:List (BSet×Int)×Int}{B:List SRow}{c:BSet×Int}(h:SpW M most k i l L t q p p2 B c)(j:Nat):l[B.length+q.1.length+j]? =(p2.1[j]?).map (srow (L+1)):=by
 rw[h.hl,ZaE (by simp),ZaG];simp
theorem SpW.loG{M:List (List Int)}{most:Int}{k i:Nat}{l:List SRow}{L t:Nat}{q p p2:List (BSet×Int)×Int}{B:List SRow}{c:BSet×Int}(h:SpW M most k i l L t q p p2 B c): ∃x,l[B.length+q.1.length - 1]? =some x/\x.2.2=(L:Int):=by
 have:=(Zai.1 h.hc).1
 rw[h.hl,Zbz,ZaE (by omega),ZaI (by simp;omega),ZaG,Zac (by omega)];exact⟨_,rfl,rfl⟩
theorem SpW.num{M:List (List Int)}{most:Int}{k i:Nat}{l:List SRow}{L t:Nat}{q p p2:List (BSet×Int)×Int}{B:List SRow}{c:BSet×Int}(h:SpW M most k i l L t q p p2 B c):l.length=B.length+q.1.length+p2.1.length/\t<q.1.length/\i<l.length:=by
 have:=(Zai.1 h.hc).1
 have e:l.length=B.length+q.1.length+p2.1.length:=by rw[h.hl];simp only[Zaz,ZaM]
 have:=h.hi
 exact⟨e,by omega,by omega⟩
theorem Qajc{M:List (List Int)}{most:Int}(hM:noM M)(hm:1<=most){k i:Nat}{l:List SRow}{L t:Nat}{q p p2:List (BSet×Int)×Int}{B:List SRow}{c:BSet×Int}(h:SpW M most k i l L t q p p2 B c)(hk:k<M.length)(hr:rdB M c.1 k=true)
 (hn:addW most c.2 p2 (c.1.set k true)=none):cntW M most=(0,4):=by
 have hq:=(Qail hM hm L q h.lv).1;have h4:=h.hp2;rw[<-Qaiv M c.1 (show k<=M.length by omega)] at h4;exact Qaje hq h.lv h.hc h.hp (nxtK_at M c.1 hk hr) h4 hn
theorem SpW.put{M:List (List Int)}{most:Int}{k i j:Nat}{v:Int}{l:List SRow}{L t:Nat}{q p p2:List (BSet×Int)×Int}{B:List SRow}{c:BSet×Int}(h:SpW M most k i l L t q p p2 B c)(hr:rdB M c.1 k=true)
 (hd:(p2.1.map Prod.fst).Nodup)(hj:p2.1[j]? =some (c.1.set k true,v))(hv: ¬v+c.2>1000000000):
 SpW M most (k+1) i (l.set (B.length+q.1.length+j) (c.1.set k true,v+c.2,((L+1:Nat):Int))) L t q p (p2.1.set j (c.1.set k true,v+c.2),p2.2) B c:=by
 obtain⟨h1,h2,h3,h4,h5,h6,h7⟩:=h;refine⟨h1,h2,h3,?_,?_,h6,by simpa using h7⟩
 .rw[Qaij,Zam hr,ZdE,h4];simp only[Zdg,Zdz,Option.bind_eq_bind,Zbj];rw[Qai1 hd hj,Zaj hv];rfl
 .have e: ∀(X Y:List SRow) (x:SRow),(X++Y).set (X.length+j) x=X++Y.set j x:=fun X Y x=>by
   rw[Zco _ _ (by omega)];simp
  have:=e (B++q.1.map (srow L)) (p2.1.map (srow (L+1))) (c.1.set k true,v+c.2,((L+1:Nat):Int))
  simp only[Zaz,ZaM] at this;rw[h5,this,Zcv];rfl
theorem SpW.new{M:List (List Int)}{most:Int}{k i:Nat}{l:List SRow}{L t:Nat}{q p p2:List (BSet×Int)×Int}{B:List SRow}{c:BSet×Int}(h:SpW M most k i l L t q p p2 B c)(hr:rdB M c.1 k=true)
 (hn: ∀x∈p2.1,x.1≠c.1.set k true)(hv: ¬(l.length:Int)≥most):
 SpW M most (k+1) i (l++[(c.1.set k true,c.2,((L+1:Nat):Int))]) L t q p (p2.1++[(c.1.set k true,c.2)],p2.2+1) B c:=by
 obtain⟨h1,h2,h3,h4,h5,h6,h7⟩:=h;refine⟨h1,h2,h3,?_,?_,h6,by simp;omega⟩
 .rw[Qaij,Zam hr,ZdE,h4];simp only[Zdg,Zdz,Option.bind_eq_bind,Zbj];rw[Qaip hn,Zaj (by omega)];rfl
 .rw[h5];simp[srow]
def CwO(M:List (List Int))(most:Int)(L:Nat)(lev:List (BSet×Int))(tot out:Int):Prop:=
 lvW M most L=some (lev,tot)/\L<=M.length+1/\out=if L=M.length+1 then (cntW M most).1 else 0
def CwT(M:List (List Int))(most:Int)(L:Nat)(lev:List (BSet×Int))(t:Nat)(p:List (BSet×Int)×Int)(out:Int):Prop:=
 ∃tot,lvW M most L=some (lev,tot)/\L<=M.length/\(lev.take t).foldlM (itW M most) ([],tot)=some p/\out=if L=M.length/\0<t then (cntW M most).1 else 0
def CwJ(M:List (List Int))(most:Int)(L:Nat)(lev:List (BSet×Int))(t:Nat)(c:BSet×Int)(j:Nat)(p2:List (BSet×Int)×Int)(out:Int):Prop:=
 ∃tot p,lvW M most L=some (lev,tot)/\L<=M.length/\lev[t]? =some c/\(lev.take t).foldlM (itW M most) ([],tot)=some p/\((nxtB M c.1).take j).foldlM (addW most c.2) p=some p2/\out=if L=M.length then (cntW M most).1 else 0
theorem cwO_first(M:List (List Int))(most:Int):CwO M most 0 [(List.replicate M.length false,1)] 1 0:=⟨rfl,by omega,by rw[Zaj (by omega)]⟩
theorem cwO_num{M:List (List Int)}{most:Int}{L:Nat}(hM:noM M)(hm:1<=most){lev:List (BSet×Int)}{tot out:Int}(h:CwO M most L lev tot out):tot<=most/\(lev.length:Int)<=tot:=by
 obtain⟨h1,h2,h3⟩:=h;exact (Qail hM hm L _ h1).1.tot
theorem cwO_go{M:List (List Int)}{most:Int}{L:Nat}(hM:noM M)(hm:1<=most){lev:List (BSet×Int)}{tot out:Int}(h:CwO M most L lev tot out)(hl:0<lev.length):CwT M most L lev 0 ([],tot) out:=by
 obtain⟨h1,h2,h3⟩:=h;have hL:L≠M.length+1:=by
  intro e;subst e
  have:lvW M most M.length≠none:=fun hn=>by simp only[lvW,hn,Option.bind_none] at h1;simp at h1
  obtain⟨q,hq⟩:=Zdq.1 this;rw[(Qait hM hm hq).1] at h1;simp only[Zab,ZaW] at h1;rw[<-h1.1] at hl;simp at hl
 rw[Zaj hL] at h3;exact⟨tot,h1,by omega,rfl,by rw[Zaj (by omega),h3]⟩
theorem cwO_end{M:List (List Int)}{most:Int}{L:Nat}(hM:noM M)(hm:1<=most){tot out:Int}(h:CwO M most L [] tot out):cntW M most=(out,0):=by
 obtain⟨h1,h2,h3⟩:=h;have hL:L=M.length+1:=by
  apply Zcl;intro e;exact (Qail hM hm L _ h1).2 (by omega) rfl
 subst hL;rw[Zam rfl] at h3
 have:lvW M most M.length≠none:=fun hn=>by simp only[lvW,hn,Option.bind_none] at h1;simp at h1
 obtain⟨q,hq⟩:=Zdq.1 this;obtain⟨_,w,_,hw⟩:=Qait hM hm hq;rw[h3,hw]
theorem cwT_end{M:List (List Int)}{most:Int}{L:Nat}(hM:noM M)(hm:1<=most){lev:List (BSet×Int)}{t:Nat}{p:List (BSet×Int)×Int}{out:Int}(h:CwT M most L lev t p out)(ht:lev.length<=t):CwO M most (L+1) p.1 p.2 out:=by
 obtain⟨tot,h1,h2,h3,h4⟩:=h;have hl:=(Qail hM hm L _ h1).2 h2;have h0:0<lev.length:=Zcz.2 hl;rw[Zav ht] at h3;refine⟨by simp only[lvW,h1,Zbj,h3],by omega,?_⟩;rw[h4];by_cases c:L=M.length
 .rw[Zam ⟨c,by omega⟩,Zam (by omega)]
 .rw[Zaj (fun e=>c e.1),Zaj (by omega)]
theorem cwT_at{M:List (List Int)}{most:Int}{L:Nat}(hM:noM M)(hm:1<=most){lev:List (BSet×Int)}{t:Nat}{p:List (BSet×Int)×Int}{out:Int}(h:CwT M most L lev t p out){c:BSet×Int}(hc:lev[t]? =some c):
 (c.1.length=M.length/\1<=c.2/\c.2<=1000000000)/\CwJ M most L lev t c 0 p (if c.1=List.replicate M.length true then c.2 else out):=by
 obtain⟨tot,h1,h2,h3,h4⟩:=h;have hq:=(Qail hM hm L _ h1).1;have hm1:=Zad hc;have hlc:=hq.len c hm1;refine⟨⟨hlc.1,hq.ways c hm1⟩,tot,p,h1,h2,hc,h3,rfl,?_⟩;by_cases e:L=M.length
 .subst e;obtain⟨_,w,hw,hcn⟩:=Qait hM hm h1;simp only at hw;rw[hw] at hc;have ht:t=0:=by have:=(Zai.1 hc).1;simp at this;exact this
  subst ht;simp only[ZaL,Zab] at hc;subst hc;rw[Zam rfl,Zam rfl,hcn]
 .have hne:c.1≠List.replicate M.length true:=fun h=>by
   have:=hlc.2
   rw[h] at this;simp[nTr] at this;omega
  rw[Zaj hne,h4,Zaj (fun h=>e h.1),Zaj e]
theorem cwJ_end{M:List (List Int)}{most:Int}{L:Nat}{lev:List (BSet×Int)}{t j:Nat}{c:BSet×Int}{p:List (BSet×Int)×Int}{out:Int}(h:CwJ M most L lev t c j p out)(hj:(nxtB M c.1).length<=j):CwT M most L lev (t+1) p out:=by
 obtain⟨tot,p0,h1,h2,h3,h4,h5,h6⟩:=h;rw[Zav hj] at h5;refine⟨tot,h1,h2,?_,?_⟩
 .rw[Qaim h4 h3];exact h5
 .rw[h6];by_cases e:L=M.length
  .rw[Zam e,Zam ⟨e,by omega⟩]
  .rw[Zaj e,Zaj (fun h=>e h.1)]
theorem cwJ_ok{M:List (List Int)}{most:Int}{L:Nat}(hM:noM M)(hm:1<=most){lev:List (BSet×Int)}{t j:Nat}{c:BSet×Int}{p:List (BSet×Int)×Int}{out:Int}(h:CwJ M most L lev t c j p out):
 (p.2<=most/\(p.1.length:Int)<=p.2/\1<=c.2/\c.2<=1000000000)/\(p.1.map Prod.fst).Nodup/\ ∀x∈p.1,1<=x.2/\x.2<=1000000000:=by
 obtain⟨tot,p0,h1,h2,h3,h4,h5,h6⟩:=h;have hq:=(Qail hM hm L _ h1).1;have hm1:=Zad h3
 have:=addW_in (Qaio hM hm h1 h4) (hq.len c hm1) (hq.ways c hm1) h5
 exact⟨⟨this.tot.1,this.tot.2,hq.ways c hm1⟩,this.dis,this.ways⟩
theorem Qajl{M:List (List Int)}{most:Int}{L:Nat}(hM:noM M)(hm:1<=most){lev:List (BSet×Int)}{t j:Nat}{c:BSet×Int}{p:List (BSet×Int)×Int}{out:Int}(h:CwJ M most L lev t c j p out){s:BSet}(hs:(nxtB M c.1)[j]? =some s)(hn:addW most c.2 p s=none):cntW M most=(0,4):=by
 obtain⟨tot,p0,h1,h2,h3,h4,h5,h6⟩:=h;exact Qaje (Qail hM hm L _ h1).1 h1 h3 h4 hs h5 hn
theorem Qajj{M:List (List Int)}{most:Int}{L:Nat}{lev:List (BSet×Int)}{t j:Nat}{c:BSet×Int}{p p2:List (BSet×Int)×Int}{out:Int}(h:CwJ M most L lev t c j p out){s:BSet}(hs:(nxtB M c.1)[j]? =some s)(hn:addW most c.2 p s=some p2):CwJ M most L lev t c (j+1) p2 out:=by
 obtain⟨tot,p0,h1,h2,h3,h4,h5,h6⟩:=h;exact⟨tot,p0,h1,h2,h3,h4,(Qaim h5 hs).trans hn,h6⟩
def Qaih(x:SRow):List AV:=[.im (.sl false 1 (x.1.map Qaik)),.im (.int .i64 x.2.2),.im (.int .i64 x.2.1)]
def srowC(x:SRow):List D:=[.sl false 1 (x.1.map Qaik),.int .i64 x.2.2,.int .i64 x.2.1]
theorem Qai0(l:List SRow):l.map Qaih=imR (l.map srowC):=by
 simp only[imR,Zdj];rfl
theorem Qaiu(F:List Nat)(H:Qan)(l:List SRow):fzAR F H (l.map Qaih)=l.map Qaih:=by rw[Qai0,Qaja]
theorem Qaiz(π:List (Nat×Option Nat))(l:List SRow):mtR π (l.map Qaih) (l.map Qaih)=True:=by rw[Qai0];exact ZeS (Qzo π _)
theorem Qaix(n:Nat)(l:List SRow):(l.map Qaih).all (belL n)=true:=by rw[Qai0];exact Qxu n _
theorem sr_get{l:List SRow}{i:Nat}{x:SRow}(h:l[i]? =some x):(l.map Qaih)[i]? =some (Qaih x):=by rw[ZaG,h];rfl
def l12O_.ar:List PK->Option ((List (List Int))×Int):=a2 (kS Qpb) kI
def l12O_.ae(a:(List (List Int))×Int):List PK:=[.val (.sl false 1 (a.1.map Qcd)),.val (.int .i64 a.2)]
def l12O_.fv(a:(List (List Int))×Int):Int×Int:=(cntW) (a.1) (a.2)
def l12O_.row:Row:=vrow l12O_.ar (fun a=>noM a.1/\a.1.length<=500/\1<=a.2/\a.2<=600) (fun a=>(fun b=>D.tup [(D.int .i64) (b.1),(D.int .i64) (b.2)]) (l12O_.fv a))
def l12O_.q:=vq l12O_.row rfl
def Yba:=J @l12O_.ae.eq_1 (J @l12O_.fv.eq_1 (J @rdy_.q (J @rdy_.ar.eq_1 (J @rdy_.fv.eq_1 (J @sameB_.q (J @sameB_.ar.eq_1 (J @sameB_.fv.eq_1 (J @sum9_.q (J @sum9_.ar.eq_1 @sum9_.fv.eq_1)))))))))
theorem l12O_.ok:Qas Tryz.prog 42 l12O_.row:=by
 refine Qaj Qaq (tC rdy_.ok (tC sameB_.ok (tC sum9_.ok tN))) Tryz.func42 rfl (by kernel_rfl) (by kernel_rfl) (ar:=l12O_.ar) (ae:=l12O_.ae) (Qaca (Qacb 1 Qj4 (fun _=>rfl)) Qab9) (n:=2) (fun _=>rfl) (by decide) (rc:=(Qfa (vInt) (vInt))) (re:=(fun b=>D.tup [(D.int .i64) (b.1),(D.int .i64) (b.2)])) (Qbz (Qa3) (Qa3)) (f:=l12O_.fv) ?_;intro a hpre;simp only[Tryz.f42,Option.getD];simp (maxSteps:=10^7) (disch:=omega) only[ZZ,simprocAttr,rch,Yba];obtain⟨M,most⟩:=a;simp only at hpre⊢;obtain⟨hM,hn5,hm1,hm6⟩:=hpre;intro _;refine⟨by omega,by simp[belL,AV.bel],Qay.frr ⟨{x:Nat×List SRow//SpO M most x.1 x.2},fun x=>⟨[(7,.im (.int .i64 x.1.1)),(6,.own 3),(0,.im (.sl false 1 (M.map Qcd))),(1,.im (.int .i64 most))],[(3,(true,.arrA 120 3 (x.1.2.map Qaih)))],4⟩,fun x=>most.toNat - x.1.1,fun x=>⟨by simp only[Qad.good,belT,belH,Qam,AV.bel,Qaix];rfl,by simp⟩,⟨⟨(0,[(List.replicate M.length false,1,0)]),spO_first M most⟩,[0],[(3,some 1)],?_⟩,fun x=> ?_⟩⟩
 .simp only[subP];simp (maxSteps:=10^7) (disch:=omega) only[ZZ,simprocAttr,rch,Yba,Zag,Zaf,Zap,ZaS,Qaih,Qaik]
  try simp[Qaik]
 obtain⟨⟨i,l⟩,hx⟩:=x;simp only at hx⊢;obtain⟨n1,n2,n3⟩:=spO_num hM hm1 hx;simp (maxSteps:=10^7) (disch:=omega) only[ZZ,simprocAttr,rch,Yba,sub,Qal,ZaM,Qaih];intro _;refine⟨fun hi=> ?_,fun hi _=> ?_⟩;rotate_left
 .have hw:IntKind.i64.wrap ((l.length:Int) - 1)=((l.length - 1:Nat):Int):=by rw[Qak (by omega) (by omega)];omega
  rw[hw,Zak];refine⟨by omega,by omega,by omega,fun x hx2=> ?_⟩;exact (spO_end hM hm1 hx hi x hx2).symm
 obtain⟨L,t,q,p,B,c,hW0,hL⟩:=spO_in hM hm1 hx hi;refine Qay.frr ⟨{y:Nat×List SRow×(List (BSet×Int)×Int)//y.1<=M.length/\SpW M most y.1 i y.2.1 L t q p y.2.2 B c},fun y=>⟨[(8,.im (.int .i64 y.1.1)),(7,.im (.int .i64 i)),(6,.own 4),(0,.im (.sl false 1 (M.map Qcd))),(1,.im (.int .i64 most))],[(4,(true,.arrA 120 3 (y.1.2.1.map Qaih)))],5⟩,fun y=>M.length - y.1.1,fun y=>⟨by simp only[Qad.good,belT,belH,Qam,AV.bel,Qaix];rfl,by simp⟩,⟨⟨(0,l,p),Zbm _,hW0⟩,[],[(4,some 3)],?_⟩,fun y=> ?_⟩
 .simp only[subP];simp (maxSteps:=10^7) (disch:=omega) only[ZZ,simprocAttr,rch,Yba,Zag,Zaf,Qaiu,Qaiz]
  try simp
 obtain⟨⟨k,l,p2⟩,hk1,hW⟩:=y;simp only at hk1 hW⊢;obtain⟨⟨hc1,hc2⟩,hcw,hLp,hLq⟩:=hW.ok hM hm1 hk1;obtain⟨e1,e2,e3⟩:=hW.num;have hat:=hW.at;have hmost:(l.length:Int)<=most:=by have:=hLp.tot;have:=hW.hn;omega
 simp (maxSteps:=10^7) (disch:=omega) only[ZZ,simprocAttr,rch,Yba,sub,Qal,ZaM,Qaih,boolD_R,Qaik,Qag,Qac,Qaf,Qah,allD,D.one,Zbh,Zcg,Zdd,implies_true];intro _;have hkw:IntKind.i64.wrap ((k:Int)+1)=((k+1:Nat):Int):=by rw[Qak (by omega) (by omega)];omega
 refine⟨fun hk=>⟨e3,e3,fun x hxx=> ?_⟩,fun hk=> ?_⟩;rotate_left
 .obtain rfl:k=M.length:=by omega
  refine⟨⟨(i+1,l),hW.out hL⟩,[],[(3,some 4)],by simp only;omega,?_⟩;simp only[subP];simp (maxSteps:=10^7) (disch:=omega) only[ZZ,simprocAttr,rch,Yba,Zag,Zaf,Qaiu,Qaiz];rw[Qak (by omega) (by omega)];rfl
 obtain rfl:srow L c=x:=Zaa (hat.symm.trans hxx);clear hxx;refine⟨⟨by simp only[srow];omega,hk,fun own ho y hy=>by have:=hM k own ho y hy;simp only[srow];omega⟩,fun hr=> ?_,fun hr=>⟨e3,e3,fun x hxx=> ?_⟩⟩
 .refine⟨⟨(k+1,l,p2),by simp only;omega,hW.skip (by simp only[srow] at hr;rw[hr];decide)⟩,[],[(4,some 4)],by simp only;omega,?_⟩;simp only[subP];simp (maxSteps:=10^7) (disch:=omega) only[ZZ,simprocAttr,rch,Yba,Zag,Zaf,Qaiu,Qaiz];exact hkw
 obtain rfl:srow L c=x:=Zaa (hat.symm.trans hxx);clear hxx;simp only[srow] at hr;refine⟨by simp only[srow];omega,by simp only[srow];omega,by simp only[srow];omega,fun z hz hl=> ?_⟩;clear hz z;obtain⟨s,hs⟩: ∃s,s=c.1.set k true:=⟨_,rfl⟩;have hsl:s.length=M.length:=by rw[hs,ZbF];exact hc1
 have hq0:0<q.1.length:=by omega
 refine Qay.old ⟨{m:Nat//m<=p2.1.length/\ ∀j,m<=j-> ∀x,p2.1[j]? =some x->x.1≠s},fun m=>⟨[(10,.im (.int .i64 ((B.length+q.1.length+m.1 - 1:Nat):Int))),(9,.own 6),(8,.im (.int .i64 k)),(7,.im (.int .i64 i)),(6,.own 4),(0,.im (.sl false 1 (M.map Qcd))),(1,.im (.int .i64 most))],[(6,(true,.arr 4 1 (s.map Qaik))),(4,(true,.arrA 120 3 (l.map Qaih)))],7⟩,fun m=>m.1,fun m=>⟨by simp only[Qad.good,belT,belH,Qam,AV.bel,Qaix];rfl,by simp⟩,⟨⟨p2.1.length,Zal _,fun j hj x hx=>by rw[ZaV hj] at hx;cases hx⟩,?_⟩,fun m=> ?_⟩
 .simp (maxSteps:=10^7) (disch:=omega) only[ZZ,simprocAttr,rch,Yba,sub];refine⟨by rw[Qak (by omega) (by omega)];omega,?_⟩;rw[hs,Zcv];rfl
 obtain⟨m,hm2,hmn⟩:=m;simp (maxSteps:=10^7) (disch:=omega) only[ZZ,simprocAttr,rch,Yba,sub,Qal,ZaM,Qaih,boolD_R,Qaik,Qag,Qac,Qaf,Qah,allD,D.one,Zbh,Zcg,Zdd,implies_true];have hLw:IntKind.i64.wrap ((L:Int)+1)=((L+1:Nat):Int):=by rw[Qak (by omega) (by omega)];omega
 refine⟨by omega,by omega,fun x hx1=>⟨e3,e3,fun y hy=> ?_⟩⟩;obtain rfl:srow L c=y:=Zaa (hat.symm.trans hy);clear hy;have hhi:0<m-> ∃z,p2.1[m - 1]? =some z/\x=srow (L+1) z:=fun h=>by
  have:=hW.hiG (m - 1)
  rw[show B.length+q.1.length+(m - 1)=B.length+q.1.length+m - 1 by omega,hx1,Zac (by omega)] at this;exact⟨_,Zac (by omega),Zaa this⟩
 have hlo:m=0->x.2.2=(L:Int):=fun h=>by
  obtain⟨x',h1,h2⟩:=hW.loG;subst h;rw[Zdl] at hx1;obtain rfl:=Zaa (h1.symm.trans hx1);exact h2
 simp only[srow,hLw];refine⟨fun hsz=>⟨by omega,by omega,fun x2 hx2=> ?_⟩,fun hsz=> ?_⟩
 .obtain rfl:x=x2:=Zaa (hx1.symm.trans hx2);clear hx2;have hm0:0<m:=by
   apply Zem;intro h
   have:=hlo h
   omega
  obtain⟨z,hz,rfl⟩:=hhi hm0;have hzl:=(hLp.len z (Zad hz)).1;refine⟨by simp only[srow];omega,fun hne=>⟨⟨m - 1,by omega,fun j hj x hx=> ?_⟩,by simp only;omega,by rw[Qak (by omega) (by omega)];simp only;omega⟩,fun heq=> ?_⟩
  .by_cases e:j=m - 1
   .subst e;obtain rfl:=Zaa (hz.symm.trans hx);exact hne
   .exact hmn j (by omega) x hx
  have heq:=ZaZ.1 heq;simp only[srow] at heq⊢;refine⟨fun _=>⟨by omega,by omega,fun x hx=>⟨e3,e3,fun y hy=>⟨fun hne=> ?_,fun _=> ?_⟩⟩⟩,fun h=>absurd h (by omega)⟩
  .obtain rfl:=Zaa (hx1.symm.trans hx);obtain rfl:=Zaa (hat.symm.trans hy);exact absurd hLw.symm hne
  have hrt:rdB M c.1 k=true:=by simpa using hr
  have hj:p2.1[m - 1]? =some (c.1.set k true,z.2):=by rw[hz,<-hs,<-heq]
  have hwz:=hLp.ways z (Zad hz);have hidx:B.length+q.1.length+m - 1=B.length+q.1.length+(m - 1):=by omega
  refine⟨by omega,by omega,fun x3 hx3=>⟨e3,e3,fun y3 hy3=> ?_⟩⟩;obtain rfl:=Zaa (hx1.symm.trans hx3);obtain rfl:=Zaa (hat.symm.trans hy3);simp only[srow];refine⟨by omega,fun hv=> ?_,fun hv=>⟨by omega,by omega,fun x4 hx4=> ?_⟩⟩
  .have hv2:z.2+c.2>1000000000:=by
    apply Zcl;intro h;exact hv (by simp only[Qais];rw[Zaj h])
   have e9:Qais z.2 c.2=(0,4):=by simp only[Qais];rw[Zam hv2]
   rw[e9];refine (Qajc hM hm1 hW hk hrt ?_).symm;rw[Qai1 hLp.dis hj,Zam hv2]
  .obtain rfl:=Zaa (hx1.symm.trans hx4);have hv2: ¬z.2+c.2>1000000000:=fun h=>hv (fun e=>by simp only[Qais] at e;rw[Zam h] at e;simp at e)
   have e9:Qais z.2 c.2=(z.2+c.2,0):=by simp only[Qais];rw[Zaj hv2]
   have hset: ∀v:Int,(l.map Qaih).set (B.length+q.1.length+m - 1) [.im (.sl false 1 (z.1.map Qaik)),.im (.int .i64 ((L+1:Nat):Int)),.im (.int .i64 v)]=(l.set (B.length+q.1.length+(m - 1)) (c.1.set k true,v,((L+1:Nat):Int))).map Qaih:=fun v=>by
    rw[Zcv,hidx,<-hs,<-heq];rfl
   simp only[srow,e9,hset];refine⟨Qaix _ _,⟨(k+1,_,_),by simp only;omega,hW.put hrt hLp.dis hj hv2⟩,[],[(4,some 4)],by simp only;omega,?_⟩;simp only[subP];simp (maxSteps:=10^7) (disch:=omega) only[ZZ,simprocAttr,rch,Yba,Zag,Zaf,Qaiu,Qaiz];exact hkw
 .have hm0:m=0:=by
   apply Zcl;intro h;obtain⟨z,hz,rfl⟩:=hhi (by omega);exact hsz rfl
  subst hm0;have hnew: ∀x∈p2.1,x.1≠c.1.set k true:=fun z hz=>by
   obtain⟨j,hj⟩:=Zbi.1 hz;rw[<-hs];exact hmn j (Zbm _) z hj
  have hrt:rdB M c.1 k=true:=by simpa using hr
  refine⟨fun _=>⟨by omega,by omega,fun x2 hx2=>⟨e3,e3,fun y hy=>⟨fun _ _=>⟨fun hge=> ?_,fun hlt _=>⟨e3,e3,fun z hz=> ?_⟩⟩,fun heq=> ?_⟩⟩⟩,fun h=>absurd h (by omega)⟩;rotate_left 2
  .obtain rfl:=Zaa (hx1.symm.trans hx2);obtain rfl:=Zaa (hat.symm.trans hy);exact absurd ((ZaZ.1 heq).trans hLw) hsz
  .refine (Qajc hM hm1 hW hk hrt ?_).symm;rw[Qaip hnew,Zam (by have:=hW.hn;omega)]
  obtain rfl:=Zaa (hat.symm.trans hz);have hall: ∀(v:Int) n,7<=n->(l.map Qaih++[([.own 6,.im (.int .i64 v),.im (.int .i64 0)]:List AV)]).all (belL n)=true:=fun v n hn=>by
   rw[ZcD,Qaix];simp[belL,AV.bel];omega
  simp only[srow,hLw];refine⟨by simp[belL,AV.bel],by omega,hall _ 9 (by omega),by simp,by simp,Qi3 (r:=[.own 6,.im (.int .i64 ((L+1:Nat):Int)),.im (.int .i64 0)]) (by rw[ZaE (by simp)];simp) ?_⟩;simp (maxSteps:=10^7) (disch:=omega) only[ZZ,simprocAttr,rch,Yba,ZaM,Qaih,Qaik];refine⟨by simp;omega,by simp;omega,Qi3 (r:=Qaih (srow L c)) (by rw[ZaI (by simp;omega)];exact sr_get hat) ?_⟩;have e9:Qais 0 c.2=(c.2,0):=by simp only[Qais];rw[Zaj (by omega),ZeM]
  simp only[srow,Qaih];simp (maxSteps:=10^7) (disch:=omega) only[ZZ,simprocAttr,rch,Yba,ZaM,e9];refine⟨by omega,by simp,by simp,Qi3 (r:=[.own 6,.im (.int .i64 ((L+1:Nat):Int)),.im (.int .i64 0)]) (by rw[ZaE (by simp)];simp) ?_⟩;have hset:(l.map Qaih++[([.own 6,.im (.int .i64 ((L+1:Nat):Int)),.im (.int .i64 0)]:List AV)]).set l.length [.own 6,.im (.int .i64 ((L+1:Nat):Int)),.im (.int .i64 c.2)]=l.map Qaih++[([.own 6,.im (.int .i64 ((L+1:Nat):Int)),.im (.int .i64 c.2)]:List AV)]:=by
   rw[Zco _ _ (by simp)];simp
  simp (maxSteps:=10^7) (disch:=omega) only[ZZ,simprocAttr,rch,Yba,ZaM,hset];refine⟨by rw[ZcD,Qaix];simp[belL,AV.bel],⟨(k+1,_,_),by simp only;omega,hW.new hrt hnew (by omega)⟩,[6],[(4,some 8)],by simp only;omega,?_⟩;simp only[subP];simp (maxSteps:=10^7) (disch:=omega) only[ZZ,simprocAttr,rch,Yba,Zag,Zaf,Qaiu,Qaiz,Qzl,Zbb,Zap,ZaS,Qaih];refine⟨hkw,?_⟩;rw[hs]
  have:=Qaiz [(4,some 8)] (l++[(c.1.set k true,c.2,((L+1:Nat):Int))])
  simp only[Zbb,Zap,ZaS,Qaih,eq_iff_iff,iff_true] at this;exact this
def cwC(x:BSet×Int):List D:=[.str (strB x.1),.int .i64 x.2]
def co2.ar:List PK->Option (ByteArray):=a1 kT
def co2.ae(a:ByteArray):List PK:=[.val (.str a)]
def co2.fv(a:ByteArray):ByteArray:=(fun x=>x) a
def co2.row:Row:=vrow co2.ar (fun a=>True) (fun a=>(D.str) (co2.fv a))
def co2.q:=vq co2.row rfl
theorem co2.ok:Qas Tryz.prog 54 co2.row:=by
 refine Qaj Qaq tN Tryz.func54 rfl (by kernel_rfl) (by kernel_rfl) (ar:=co2.ar) (ae:=co2.ae) (Qacd Qajn) (n:=1) (fun _=>rfl) (by decide) (rc:=(vStr)) (re:=(D.str)) (vStr_le) (f:=co2.fv) ?_;intro a hpre;simp only[Tryz.f54,Option.getD];simp (maxSteps:=10^7) (disch:=omega) only[ZZ,simprocAttr,rch,co2.ae,co2.fv]
theorem plM_VC(s:BSet)(l:List (BSet×Int))(Ks:D->Prop)(Kn:Prop):LkVC (plM 0 l) (.str (strB s)) Ks Kn=((∀j,atW s l=some j->Ks (.int .i64 (j:Nat)))/\(atW s l=none->Kn)):=by
 simp only[LkVC,plM_lk,ZbC];apply propext;cases atW s l with
 |none=>simp
 |some j=>simp
def cwS_.ar:List PK->Option (ByteArray×Unit×((List (List Int)))×Int×ByteArray)
 |[.val (.str x0),.val (.fn 54 [] []),.val (.fn 50 [] [.ref x2_0]),.val (.int .i64 x3),.val (.str x4)]=>(ssiD (x2_0.take 1)).bind fun y2_0=>some (x0,(),y2_0,x3,x4)
 |_=>none
def cwS_.ae(a:ByteArray×Unit×((List (List Int)))×Int×ByteArray):List PK:=[.val (.str a.1),.val (.fn 54 [] []),.val (.fn 50 [] [.ref (ssiC a.2.2.1)]),.val (.int .i64 a.2.2.2.1),.val (.str a.2.2.2.2)]
theorem cwS_.le: ∀ps a,cwS_.ar ps=some a->LeKL ps (cwS_.ae a):=by
 intro ps a h;unfold cwS_.ar at h;split at h
 .simp only[ZaF,Zab] at h;obtain⟨y2_0,h2_0,rfl⟩:=h;exact⟨LeK.refl _,LeK.refl _,Qos ⟨Qil (LeP.trans_take (ssiD_le _ _ h2_0)),trivial⟩,LeK.refl _,LeK.refl _,trivial⟩
 .cases h
def cwS_.fv(a:ByteArray×Unit×((List (List Int)))×Int×ByteArray):Int×Bool:=(fun _ _ M most _=>((cntW M most).1,decide ((cntW M most).2=0))) (a.1) (a.2.1) (a.2.2.1) (a.2.2.2.1) (a.2.2.2.2)
def cwS_.row:Row:=vrow cwS_.ar (fun a=>noM a.2.2.1/\a.2.2.1.length<=500/\1<=a.2.2.2.1/\a.2.2.2.1<=600/\a.1=strB (List.replicate a.2.2.1.length false)/\a.2.2.2.2=strB (List.replicate a.2.2.1.length true)) (fun a=>(fun b=>D.tup [(D.int .i64) (b.1),(D.bool) (b.2)]) (cwS_.fv a))
def cwS_.q:=vq cwS_.row rfl
def Ybb:=J @cwS_.ae.eq_1 (J @cwS_.fv.eq_1 (J @coN.q (J @coN.ar.eq_1 (J @coN.fv.eq_1 (J @co2.q (J @co2.ar.eq_1 @co2.fv.eq_1))))))
theorem cwS_.ok:Qas Tryz.prog 53 cwS_.row:=by
 refine Qaj Qaq (tC coN.ok (tC co2.ok tN)) Tryz.func53 rfl (by kernel_rfl) (by kernel_rfl) (ar:=cwS_.ar) (ae:=cwS_.ae) cwS_.le (n:=5) (fun _=>rfl) (by decide) (rc:=(Qfa (vInt) (Qa8))) (re:=(fun b=>D.tup [(D.int .i64) (b.1),(D.bool) (b.2)])) (Qbz (Qa3) (Qat)) (f:=cwS_.fv) ?_;intro a hpre;simp only[Tryz.f53,Option.getD];simp (maxSteps:=10^7) (disch:=omega) only[ZZ,simprocAttr,rch,Ybb];obtain⟨x,_,M,most,y⟩:=a;simp only at hpre⊢;obtain⟨hM,hn5,hm1,hm6,rfl,rfl⟩:=hpre;refine Qay.ren ⟨{x:Nat×List (BSet×Int)×Int×Int//CwO M most x.1 x.2.1 x.2.2.1 x.2.2.2},fun x=>⟨[(12,.own 1),(13,.im (.int .i64 x.1.2.2.1)),(14,.im (.int .i64 x.1.2.2.2)),(1,.im (.fn 54 [] [])),(2,.im (.fn 50 [] [.ref (ssiC M)])),(3,.im (.int .i64 most)),(4,.im (.str (strB (List.replicate M.length true))))],[(1,(true,.arr 143 2 (x.1.2.1.map cwC)))],2⟩,fun x=>M.length+2 - x.1.1,fun x=>⟨by simp[Qad.good,belT,belH,Qam,AV.bel,belL],by simp⟩,⟨⟨(0,[(List.replicate M.length false,1)],1,0),cwO_first M most⟩,[(1,some 0)],?_⟩,fun x=> ?_⟩
 .simp only[subP];simp (maxSteps:=10^7) (disch:=omega) only[ZZ,simprocAttr,rch,Ybb,Zag,Zaf,Zap,ZaS,cwC]
  try simp
 obtain⟨⟨L,lev,tot,out⟩,hx⟩:=x;simp only at hx⊢;obtain⟨n1,n2⟩:=cwO_num hM hm1 hx;simp (maxSteps:=10^7) (disch:=omega) only[ZZ,simprocAttr,rch,Ybb,sub,Qal,ZaM];intro _;refine⟨fun hpos _=> ?_,fun hpos=> ?_⟩;rotate_left
 .obtain rfl:lev=[]:=ZbN (by omega);rw[cwO_end hM hm1 hx];exact⟨rfl,rfl⟩
 refine Qay.ren ⟨{y:Nat×(List (BSet×Int)×Int)×Int//y.1<=lev.length/\CwT M most L lev y.1 y.2.1 y.2.2},fun y=>⟨[(32,.im (.int .i64 y.1.1)),(31,.im (.int .i64 lev.length)),(30,.own 1),(15,.own 4),(16,.mp 3),(13,.im (.int .i64 y.1.2.1.2)),(14,.im (.int .i64 y.1.2.2)),(1,.im (.fn 54 [] [])),(2,.im (.fn 50 [] [.ref (ssiC M)])),(3,.im (.int .i64 most)),(4,.im (.str (strB (List.replicate M.length true))))],[(4,(true,.arr 143 2 (y.1.2.1.1.map cwC))),(3,(true,.map ⟨false,[.str]⟩ (plM 0 y.1.2.1.1))),(1,(true,.arr 143 2 (lev.map cwC)))],5⟩,fun y=>lev.length - y.1.1,fun y=>⟨by simp[Qad.good,belT,belH,Qam,AV.bel,belL],by simp⟩,⟨⟨(0,([],tot),out),Zbm _,cwO_go hM hm1 hx (by omega)⟩,[(4,some 2)],?_⟩,fun y=> ?_⟩
 .simp only[subP];simp (maxSteps:=10^7) (disch:=omega) only[ZZ,simprocAttr,rch,Ybb,Zag,Zaf,Zap,ZaS,plM]
  try simp
 obtain⟨⟨u,p,out2⟩,hu1,hT⟩:=y;simp only at hu1 hT⊢;simp (maxSteps:=10^7) (disch:=omega) only[ZZ,simprocAttr,rch,Ybb,sub,Qal,ZaM,cwC,ssiC,ssiD];refine⟨fun hu=>⟨hu,hu,fun c hc=> ?_⟩,fun hu=> ?_⟩;rotate_left
 .refine⟨⟨(L+1,p.1,p.2,out2),cwT_end hM hm1 hT (by omega)⟩,[(1,some 4)],by have:=hT.choose_spec.2.1;simp only;omega,?_⟩;simp only[subP];simp (maxSteps:=10^7) (disch:=omega) only[ZZ,simprocAttr,rch,Ybb,Zag,Zaf]
 obtain⟨⟨hc1,hc2,hc3⟩,hJ0⟩:=cwT_at hM hm1 hT hc;have hcp:(∃s:BSet,strB c.1=strB s/\s.length=M.length/\M.length<=500/\ ∀(k:Nat) (own:List Int),M[k]? =some own-> ∀x∈own,0<=x/\x<(k:Int)):=⟨c.1,rfl,hc1,hn5,hM⟩;have hlen:(nxtT (strB c.1) M)=(nxtB M c.1).map strB:=Qajb ..;simp only[hlen,ZaM];refine⟨fun h=>⟨hcp,fun _=> ?_⟩,fun h=>⟨hcp,fun _=> ?_⟩⟩
 all_goals
  obtain⟨o,ho,hJ⟩: ∃o,o=(if c.1=List.replicate M.length true then c.2 else out2)/\CwJ M most L lev u c 0 p o:=⟨_,rfl,hJ0⟩
  first
   |rw[Zam (Qajd h)] at ho
   |rw[Zaj (fun e=>h (by rw[e]))] at ho
  refine Qay.ren ⟨{z:Nat×(List (BSet×Int)×Int)//z.1<=(nxtB M c.1).length/\CwJ M most L lev u c z.1 z.2 o},fun z=>⟨[(49,.im (.int .i64 z.1.1)),(48,.im (.int .i64 (nxtB M c.1).length)),(47,.im (.sl false 1 (((nxtB M c.1).map strB).map strC))),(15,.own 6),(16,.mp 3),(18,.ptr 5 0),(13,.im (.int .i64 z.1.2.2)),(14,.im (.int .i64 o)),(32,.im (.int .i64 u)),(31,.im (.int .i64 lev.length)),(30,.own 1),(1,.im (.fn 54 [] [])),(2,.im (.fn 50 [] [.ref [.sl false 1 (M.map Qcd)]])),(3,.im (.int .i64 most)),(4,.im (.str (strB (List.replicate M.length true))))],[(6,(true,.arr 143 2 (z.1.2.1.map cwC))),(5,(true,.cells 143 [.im (.str (strB c.1)),.im (.int .i64 c.2)])),(3,(true,.map ⟨false,[.str]⟩ (plM 0 z.1.2.1))),(1,(true,.arr 143 2 (lev.map cwC)))],7⟩,fun z=>(nxtB M c.1).length - z.1.1,fun z=>⟨by simp[Qad.good,belT,belH,Qam,AV.bel,belL],by simp⟩,⟨⟨(0,p),Zbm _,hJ⟩,[(6,some 4)],?_⟩,fun z=> ?_⟩
  .simp only[subP];simp (maxSteps:=10^7) (disch:=omega) only[ZZ,simprocAttr,rch,Ybb,Zag,Zaf,ho]
   try simp
  obtain⟨⟨j,p2⟩,hj1,hJ2⟩:=z;simp only at hj1 hJ2⊢;obtain⟨⟨k1,k2,k3,k4⟩,k5,k6⟩:=cwJ_ok hM hm1 hJ2;have hstr: ∀x,((nxtB M c.1).map strB)[j]? =some x-> ∃s,(nxtB M c.1)[j]? =some s/\x=strB s:=fun x hx=>by
   rw[ZaG] at hx;obtain⟨s,h1,h2⟩:=Zaw.1 hx;exact⟨s,h1,h2.symm⟩
  simp (maxSteps:=10^7) (disch:=omega) only[ZZ,simprocAttr,rch,Ybb,sub,Qal,ZaM,cwC];refine⟨fun hj=>⟨hj,fun x hx=> ?_⟩,fun hj=> ?_⟩;rotate_left
  .refine⟨⟨(u+1,p2,o),hu,cwJ_end hJ2 (by omega)⟩,[(4,some 6)],by simp only;omega,?_⟩;simp only[subP];simp (maxSteps:=10^7) (disch:=omega) only[ZZ,simprocAttr,rch,Ybb,Zag,Zaf];rw[Qak (by omega) (by omega)];rfl
  obtain⟨s,hs,rfl⟩:=hstr x hx;rw[plM_VC];refine⟨fun d hd=> ?_,fun hn=> ?_⟩
  .obtain⟨v,hv⟩:=Qair hd;have hdl:=(Zai.1 hv).1;have hwv:=k6 _ (Zad hv);simp only at hwv;have hw:IntKind.i64.wrap (v+c.2)=v+c.2:=Qak (by omega) (by omega);simp (maxSteps:=10^7) (disch:=omega) only[ZZ,simprocAttr,rch,Ybb,sub,Qal,ZaM,cwC];refine⟨hdl,hdl,fun x hx=>⟨hdl,hdl,fun y hy=> ?_⟩⟩;obtain rfl:=Zaa (hv.symm.trans hx);obtain rfl:=Zaa (hv.symm.trans hy);simp only[hw];refine⟨by simpa using hdl,by simpa using hdl,Qi3 (ZaA (by simpa using hdl)) ?_⟩;simp (maxSteps:=10^7) (disch:=omega) only[ZZ,simprocAttr,rch,Ybb,sub,Qal,ZaM,cwC];refine⟨fun h=>⟨fun h2=>absurd h2 (by omega),fun _=>⟨⟨(j+1,(p2.1.set d (s,v+c.2),p2.2)),by simp only;omega,Qajj hJ2 hs (by rw[Qai1 k5 hv,Zaj (by omega)])⟩,[(6,some 6)],by simp only;omega,?_⟩⟩,fun h=> ?_⟩
   .simp only[subP];simp (maxSteps:=10^7) (disch:=omega) only[ZZ,simprocAttr,rch,Ybb,Zag,Zaf,plM_set s v (v+c.2) p2.1 0 d hv,Zcv,cwC];rw[Qak (by omega) (by omega)];rfl
   .rw[Qajl hM hm1 hJ2 hs (by rw[Qai1 k5 hv,Zam (by omega)])];exact⟨rfl,rfl⟩
  .have hne:=Qai5 hn;intro _;refine⟨by simp[OneR,allD,D.one],by omega,by simp,by simp,Qi3 (r:=[.str (strB s),.int .i64 0]) (by rw[ZaE (by simp)];simp) ?_⟩;have hw0:IntKind.i64.wrap (0+c.2)=c.2:=by rw[ZeM];exact Qak (by omega) (by omega)
   simp (maxSteps:=10^7) (disch:=omega) only[ZZ,simprocAttr,rch,Ybb,sub,Qal,ZaM,cwC,hw0];refine⟨by simp,by simp,Qi3 (r:=[.str (strB s),.int .i64 0]) (by rw[ZaE (by simp)];simp) ?_⟩;have hset:(p2.1.map cwC++[[D.str (strB s),D.int .i64 0]]).set p2.1.length [D.str (strB s),D.int .i64 c.2]=(p2.1++[(s,c.2)]).map cwC:=by
    rw[Zco _ _ (by simp)];simp[cwC]
   have hrw:(p2.1++[(s,c.2)])[p2.1.length]? =some (s,c.2):=by rw[ZaE (Zal _)];simp
   have hwt:IntKind.i64.wrap (p2.2+1)=p2.2+1:=Qak (by omega) (by omega);simp (maxSteps:=10^7) (disch:=omega) only[ZZ,simprocAttr,rch,Ybb,sub,Qal,ZaM,hset];refine⟨by simp,by simp,fun x hx=> ?_⟩;obtain rfl:=Zaa (hrw.symm.trans hx);simp only[hwt];simp only[cwC];simp (maxSteps:=10^7) (disch:=omega) only[ZZ,simprocAttr,rch,Ybb,sub,Qal,ZaM,cwC];refine⟨fun h=>⟨fun h2=> ?_,fun h2=>⟨⟨(j+1,(p2.1++[(s,c.2)],p2.2+1)),by simp only;omega,Qajj hJ2 hs (by rw[Qaip hne,Zaj (by omega)])⟩,[(6,some 8)],by simp only;omega,?_⟩⟩,fun h=>absurd h (by omega)⟩
   .rw[Qajl hM hm1 hJ2 hs (by rw[Qaip hne,Zam (by omega)])];exact⟨rfl,rfl⟩
   .have hup:=plM_new s c.2 p2.1 0 hne;rw[ZbC] at hup;simp only[subP];simp (maxSteps:=10^7) (disch:=omega) only[ZZ,simprocAttr,rch,Ybb,Zag,Zaf,hup];rw[Qak (by omega) (by omega)];rfl
def coSp(s:Qar)(l:List Opt)(m:Int):Int×Int:=if (seqS s l).2.2≠0 then (0,(seqS s l).2.2) else if 1<=m/\m<=600 then cntW (Qadm s l) m else (0,2)
theorem Qajh{m:Int}:Qau m 1 600=false↔ ¬(1<=m/\m<=600):=by
 simp only[Qau,Zdi,Zbf];omega
theorem coSp_ok{s:Qar}{l:List Opt}{m:Int}(h:(seqS s l).2.2=0):coSp s l m=if 1<=m/\m<=600 then cntW (Qadm s l) m else (0,2):=by
 rw[coSp,Zaj (fun g=>g h)]
theorem coSp_no{s:Qar}{l:List Opt}{m:Int}(h: ¬(seqS s l).2.2=0):coSp s l m=(0,(seqS s l).2.2):=by
 rw[coSp,Zam h]
def CntS_.ar:List PK->Option (Qar×(List Opt)×Int):=a3 (kR Qar.d) (kS Opt.d) kI
def CntS_.ae(a:Qar×(List Opt)×Int):List PK:=[.val (.agg (Qar.c a.1)),.val (.sl false 3 (a.2.1.map Opt.c)),.val (.int .i64 a.2.2)]
def CntS_.fv(a:Qar×(List Opt)×Int):Int×Int:=(coSp) (a.1) (a.2.1) (a.2.2)
def CntS_.row:Row:=vrow CntS_.ar (fun a=>True) (fun a=>(fun b=>D.tup [(D.int .i64) (b.1),(D.int .i64) (b.2)]) (CntS_.fv a))
def CntS_.q:=vq CntS_.row rfl
theorem CntS_.ok:Qas Tryz.prog 11 CntS_.row:=by
 refine Qaj Qaq (tC l10Asked.ok (tC l12Needs.ok (tC l12O_.ok (tC l00In.ok tN)))) Tryz.func11 rfl (by kernel_rfl) (by kernel_rfl) (ar:=CntS_.ar) (ae:=CntS_.ae) (Qace (Qab8 Qar.d_le) (Qacb 3 Opt.d_le (fun _=>rfl)) Qab9) (n:=3) (fun _=>rfl) (by decide) (rc:=(Qfa (vInt) (vInt))) (re:=(fun b=>D.tup [(D.int .i64) (b.1),(D.int .i64) (b.2)])) (Qbz (Qa3) (Qa3)) (f:=CntS_.fv) ?_;intro a hpre;simp only[Tryz.f11,Option.getD];simp (maxSteps:=10^7) (disch:=omega) only[ZZ,simprocAttr,rch,CntS_.ae,CntS_.fv,l10Asked.q,l10Asked.ar,l10Asked.fv,l12Needs.q,l12Needs.ar,l12Needs.fv,l12O_.q,l12O_.ar,l12O_.fv,l00In.q,l00In.ar,l00In.fv];obtain⟨s,l,m⟩:=a;simp only at hpre⊢;by_cases c0:(seqS s l).2.2=0
 case neg=>rw[Zaj c0,Zam c0,coSp_no c0]
 rw[Zam c0,coSp_ok c0];by_cases c1:1<=m/\m<=600
 case neg=>rw[Zam (Qajh.2 c1),Zaj c1]
 rw[Zaj (fun h=>Qajh.1 h c1),Zam c1,Zaj (fun h=>h c0)];obtain⟨_,hp,_⟩:=Qafm c0;have hno:=Qaeu (s:=s) hp.2.2.2.2.2;exact⟨hp,⟨hno.2,hno.1,c1.1,c1.2⟩,rfl⟩
def byC(b:Int):List D:=[.int .u8 b]
theorem byI: ∀(l:List Int),Qadw (l.map byC)=some l
 |[]=>rfl
 |x::r=>by simp only[Zap,byC,Qadw];rw[show r.map byC=r.map byC from rfl,byI r];rfl
def Qaiw(b:Int)(n k:Nat):List Int:=List.replicate k b++List.replicate (n - k) 0
theorem Qai7{b:Int}{n k:Nat}(h:k<=n):(Qaiw b n k).length=n:=by simp[Qaiw];omega
theorem Qai6{b:Int}{n k:Nat}(h:k<n):(Qaiw b n k).set k b=Qaiw b n (k+1):=by
 simp only[Qaiw];rw[Zco _ _ (by simp),Zbt,Zci,show n - k=(n - (k+1))+1 by omega,Zdu,ZcX,ZeR];simp
theorem Qai8(b:Bool)(n:Nat):strI (Qaiw (cond b 49 48) n n)=strB (List.replicate n b):=by
 rw[<-strB_I];simp[Qaiw,strI]
theorem cntW_code(M:List (List Int))(m:Int):(cntW M m).2=0\/cntW M m=(0,4):=by
 simp only[cntW];split
 .exact .inl rfl
 .exact .inr rfl
def CntI_.ar:List PK->Option (Qar×(List Opt)×Int):=a3 (kR Qar.d) (kS Opt.d) kI
def CntI_.ae(a:Qar×(List Opt)×Int):List PK:=[.val (.agg (Qar.c a.1)),.val (.sl false 3 (a.2.1.map Opt.c)),.val (.int .i64 a.2.2)]
def CntI_.fv(a:Qar×(List Opt)×Int):Int×Int:=(coSp) (a.1) (a.2.1) (a.2.2)
def CntI_.row:Row:=vrow CntI_.ar (fun a=>Qf6 a.1.Set) (fun a=>(fun b=>D.tup [(D.int .i64) (b.1),(D.int .i64) (b.2)]) (CntI_.fv a))
def CntI_.q:=vq CntI_.row rfl
def Ybc:=J @CntI_.ae.eq_1 (J @CntI_.fv.eq_1 (J @play_.q (J @play_.ar.eq_1 (J @play_.fv.eq_1 (J @needs_.q (J @needs_.ar.eq_1 (J @needs_.fv.eq_1 (J @within_.q (J @within_.ar.eq_1 (J @within_.fv.eq_1 (J @cwS_.q @cwS_.fv.eq_1)))))))))))
theorem CntI_.ok:Qas Tryz.prog 14 CntI_.row:=by
 refine Qaj Qaq (tC play_.ok (tC needs_.ok (tC within_.ok (tC cwS_.ok tN)))) Tryz.func14 rfl (by kernel_rfl) (by kernel_rfl) (ar:=CntI_.ar) (ae:=CntI_.ae) (Qace (Qab8 Qar.d_le) (Qacb 3 Opt.d_le (fun _=>rfl)) Qab9) (n:=3) (fun _=>rfl) (by decide) (rc:=(Qfa (vInt) (vInt))) (re:=(fun b=>D.tup [(D.int .i64) (b.1),(D.int .i64) (b.2)])) (Qbz (Qa3) (Qa3)) (f:=CntI_.fv) ?_;intro a hpre;simp only[Tryz.f14,Option.getD];simp (maxSteps:=10^7) (disch:=omega) only[ZZ,simprocAttr,rch,Ybc,cwS_.ar];obtain⟨s,l,m⟩:=a;simp only at hpre⊢;refine⟨hpre,?_⟩;by_cases c0:(seqS s l).2.2=0
 case neg=>
  have eP:Qae2 s l=(none,(seqS s l).2.2):=by simp only[Qae2];rw[Zam c0]
  rw[eP,Zam c0,coSp_no c0]
 have eP:Qae2 s l=(some ⟨s,l,(seqS s l).1,insS s s.Seed l,smsS s s.Seed l⟩,0):=by
  simp only[Qae2];rw[Zaj (fun h=>h c0)]
 obtain⟨_,hp,_⟩:=Qafm c0;have hno:=Qaeu (s:=s) hp.2.2.2.2.2;rw[coSp_ok c0];simp only[eP];rw[Zaj (by simp)];by_cases c1:1<=m/\m<=600
 case neg=>rw[Zam (Qajh.2 c1),Zaj c1]
 rw[Zaj (fun h=>Qajh.1 h c1),Zam c1];have key: ∀x:Pld,(kP Pld.d 8 (pkI (plE (some x))))=some x:=fun x=>Pld.d_c x
 simp only[key,Zbj,decK];refine⟨⟨fun o ho=> ?_,Qadv ..,hp.2.2.2.2.2⟩,?_⟩
 .obtain⟨k,hk⟩:=Zbi.1 ho;exact (Qadk (hp.2.2.2.2.1 k o hk).1).2.1
 simp only[needs_law hp.2.2.2.2.1];obtain⟨M,hM⟩: ∃M,M=Qadm s l:=⟨_,rfl⟩;rw[<-hM] at hno;simp only[<-hM];have hn5:=hno.1;refine .inl ⟨by omega,by omega,fun _=> ?_⟩;refine Qay.old ⟨{k:Nat//k<=M.length},fun k=>⟨[(42,.im (.int .i64 k.1)),(41,.im (.int .i64 M.length)),(13,.own 3),(12,.own 2),(11,.im (.fn 50 [] [.ref [.sl false 1 (M.map Qcd)]])),(2,.im (.int .i64 m))],[(3,(true,.arr 5 1 ((Qaiw 49 M.length k.1).map byC))),(2,(true,.arr 5 1 ((Qaiw 48 M.length k.1).map byC)))],4⟩,fun k=>M.length - k.1,fun k=>⟨by simp[Qad.good,belT,belH,Qam,AV.bel,belL],by simp⟩,⟨⟨0,Zbm _⟩,?_⟩,fun k=> ?_⟩
 .simp (maxSteps:=10^7) (disch:=omega) only[ZZ,simprocAttr,rch,Ybc,cwS_.ar,sub,Qaiw];simp[byC]
 obtain⟨k,hk1⟩:=k;have hl8:=Qai7 (b:=48) hk1;have hl9:=Qai7 (b:=49) hk1;simp (maxSteps:=10^7) (disch:=omega) only[ZZ,simprocAttr,rch,Ybc,cwS_.ar,sub,Qal,ZaM,hl8,hl9,byC];refine⟨fun hk=>⟨hk,hk,fun x _=>⟨hk,hk,fun y _=>⟨⟨k+1,by omega⟩,by simp only;omega,by rw[Qak (by omega) (by omega)];rfl,?_,?_⟩⟩⟩,fun hk=> ?_⟩
 .rw[<-Qai6 hk,Zcv];rfl
 .rw[<-Qai6 hk,Zcv];rfl
 obtain rfl:k=M.length:=by omega
 rw[byI];simp (maxSteps:=10^7) (disch:=omega) only[ZZ,simprocAttr,rch,Ybc,cwS_.ar,sub,Qal,byI,ssiD];refine⟨⟨hno.2,hn5,c1.1,c1.2,Qai8 false _,Qai8 true _⟩,fun h=> ?_,fun h=> ?_⟩
 .rcases cntW_code M m with e|e
  .exact absurd e h
  .exact e.symm
 .rw[<-ZaZ.1 h]
def lawCO.ar:List PK->Option (Qar×(List Opt)×Int):=a3 (kR Qar.d) (kS Opt.d) kI
def lawCO.ae(a:Qar×(List Opt)×Int):List PK:=[.val (.agg (Qar.c a.1)),.val (.sl false 3 (a.2.1.map Opt.c)),.val (.int .i64 a.2.2)]
def lawCO.rc:D->Option (Bool):=Qa8
def lawCO.re:Bool->D:=D.bool
theorem lawCO.rle: ∀d b,lawCO.rc d=some b->Le d (lawCO.re b):=Qat
def lawCO.fv(a:Qar×(List Opt)×Int):Bool:=(fun _ _ _=>true) (a.1) (a.2.1) (a.2.2)
def lawCO.row:Row:=vrow lawCO.ar (fun a=>nmOk a.1.Set) (fun a=>lawCO.re (lawCO.fv a))
def lawCO.q:=vq lawCO.row rfl
theorem lawCO.ok:Qas Tryz.prog 3 lawCO.row:=by
 refine Qaj Qaq (tC szSystem.ok (tC szOptionS.ok (tC toSystem.ok (tC toOptionS.ok (tC CntS_.ok (tC CntI_.ok (tC eqSystem.ok (tC eqOptionS.ok tN)))))))) Tryz.func3 rfl (by kernel_rfl) (by kernel_rfl) (ar:=lawCO.ar) (ae:=lawCO.ae) (Qace (Qab8 Qar.d_le) (Qacb 3 Opt.d_le (fun _=>rfl)) Qab9) (n:=3) (fun _=>rfl) (by decide) (rc:=lawCO.rc) (re:=lawCO.re) lawCO.rle (f:=lawCO.fv) ?_;intro a hpre;simp only[Tryz.f3,Option.getD];simp (maxSteps:=10^7) (disch:=omega) only[ZZ,simprocAttr,rch,lawCO.ae,lawCO.fv,lawCO.rc,szSystem.q,szSystem.ar,szSystem.fv,szOptionS.q,szOptionS.ar,szOptionS.fv,toSystem.q,toSystem.ar,toSystem.fv,toOptionS.q,toOptionS.ar,toOptionS.fv,CntS_.q,CntS_.ar,CntS_.fv,CntI_.q,CntI_.ar,CntI_.fv,eqSystem.q,eqSystem.ar,eqSystem.fv,eqOptionS.q,eqOptionS.ar,eqOptionS.fv];obtain⟨s,l,m⟩:=a;simp only at hpre⊢;refine⟨hpre,?_⟩;split
 .trivial
 rename_i c0;have h1:=szSys_sm (s:=s) (l:=1048576) (by decide) (by decide) (by omega);have hb:=szSys_b s 1048576 (by decide);refine⟨⟨by omega,by omega⟩,?_⟩;split
 .trivial
 rename_i c2;obtain⟨b1,_,_⟩:=Qn3 (n:=l.length) (l:=Qlr s 1048576) (by omega);have h3:l.length<=1073741824:=by omega
 exact⟨h1,h3,h1,h3,hpre,h1,h3⟩
end Go.Ae
