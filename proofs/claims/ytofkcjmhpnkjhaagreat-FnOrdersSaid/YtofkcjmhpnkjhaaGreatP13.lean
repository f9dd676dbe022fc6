/- Lemmas. Conditions: none. -/
import Derived.Test.YtofkcjmhpnkjhaaGreatP12
import Derived.Shelf.SortM.Plain
import Derived.Shelf.SortM.SortNone
set_option linter.all false
set_option maxHeartbeats 8000000
set_option maxRecDepth 100000
namespace Go.Proofs
open Go.Shelf
def Tryz.sortI_ren:Go.Shelf.Ren:=⟨fun|5=>39|8=>72|7=>71|19=>112|20=>113|10=>103|11=>104|12=>105|13=>106|14=>107|15=>108|16=>109|17=>110|18=>111|30=>139|31=>140|32=>141|33=>142|34=>143|35=>144|40=>169|n=>n,fun|23=>37|25=>2|3=>3|32=>124|22=>37|0=>0|44=>170|46=>92|4=>4|36=>163|35=>162|41=>167|5=>5|9=>9|53=>197|57=>201|63=>226|64=>227|n=>n,fun|n=>n⟩
theorem Tryz.sortI:Go.Proofs.SlLaysM.n5 Tryz.prog Tryz.sortI_ren:={
 mixed:=by kernel_rfl
 f5:=⟨Tryz.f39.name,by decide,Tryz.func39.trans (ZbJ some (by kernel_rfl))⟩
 f7:=⟨Tryz.f71.name,by decide,Tryz.func71.trans (ZbJ some (by kernel_rfl))⟩
 f8:=Tryz.func72.trans (ZbJ some (by kernel_rfl))
 f10:=⟨Tryz.f103.name,by decide,Tryz.func103.trans (ZbJ some (by kernel_rfl))⟩
 f11:=⟨Tryz.f104.name,by decide,Tryz.func104.trans (ZbJ some (by kernel_rfl))⟩
 f12:=⟨Tryz.f105.name,by decide,Tryz.func105.trans (ZbJ some (by kernel_rfl))⟩
 f13:=⟨Tryz.f106.name,by decide,Tryz.func106.trans (ZbJ some (by kernel_rfl))⟩
 f14:=⟨Tryz.f107.name,by decide,Tryz.func107.trans (ZbJ some (by kernel_rfl))⟩
 f15:=⟨Tryz.f108.name,by decide,Tryz.func108.trans (ZbJ some (by kernel_rfl))⟩
 f16:=⟨Tryz.f109.name,by decide,Tryz.func109.trans (ZbJ some (by kernel_rfl))⟩
 f17:=⟨Tryz.f110.name,by decide,Tryz.func110.trans (ZbJ some (by kernel_rfl))⟩
 f18:=⟨Tryz.f111.name,by decide,Tryz.func111.trans (ZbJ some (by kernel_rfl))⟩
 f19:=Tryz.func112.trans (ZbJ some (by kernel_rfl))
 f20:=Tryz.func113.trans (ZbJ some (by kernel_rfl))
 f30:=⟨Tryz.f139.name,by decide,Tryz.func139.trans (ZbJ some (by kernel_rfl))⟩
 f31:=Tryz.func140.trans (ZbJ some (by kernel_rfl))
 f32:=Tryz.func141.trans (ZbJ some (by kernel_rfl))
 f33:=⟨Tryz.f142.name,by decide,Tryz.func142.trans (ZbJ some (by kernel_rfl))⟩
 f34:=⟨Tryz.f143.name,by decide,Tryz.func143.trans (ZbJ some (by kernel_rfl))⟩
 f35:=⟨Tryz.f144.name,by decide,Tryz.func144.trans (ZbJ some (by kernel_rfl))⟩
 f40:=⟨Tryz.f169.name,by decide,Tryz.func169.trans (ZbJ some (by kernel_rfl))⟩
 t0:=Tryz.underlying0
 a0:=Tryz.isAgg0
 z0:=Tryz.sizeOf0
 v0:=Tryz.zeroValue0
 t3:=Tryz.underlying3
 a3:=Tryz.isAgg3
 z3:=Tryz.sizeOf3
 v3:=Tryz.zeroValue3
 t4:=Tryz.underlying4
 a4:=Tryz.isAgg4
 z4:=Tryz.sizeOf4
 v4:=Tryz.zeroValue4
 t5:=Tryz.underlying5
 a5:=Tryz.isAgg5
 z5:=Tryz.sizeOf5
 v5:=Tryz.zeroValue5
 t9:=Tryz.underlying9
 a9:=Tryz.isAgg9
 z9:=Tryz.sizeOf9
 v9:=Tryz.zeroValue9
 t22:=Tryz.underlying37
 a22:=Tryz.isAgg37
 z22:=Tryz.sizeOf37
 v22:=Tryz.zeroValue37
 t23:=Tryz.underlying37
 a23:=Tryz.isAgg37
 z23:=Tryz.sizeOf37
 v23:=Tryz.zeroValue37
 t25:=Tryz.underlying2
 a25:=Tryz.isAgg2
 z25:=Tryz.sizeOf2
 v25:=Tryz.zeroValue2
 t32:=Tryz.underlying124
 a32:=Tryz.isAgg124
 z32:=Tryz.sizeOf124
 v32:=Tryz.zeroValue124
 t35:=Tryz.underlying162
 a35:=Tryz.isAgg162
 z35:=Tryz.sizeOf162
 v35:=Tryz.zeroValue162
 t36:=Tryz.underlying163
 a36:=Tryz.isAgg163
 z36:=Tryz.sizeOf163
 v36:=Tryz.zeroValue163
 t41:=Tryz.underlying167
 a41:=Tryz.isAgg167
 z41:=Tryz.sizeOf167
 v41:=Tryz.zeroValue167
 t44:=Tryz.underlying170
 a44:=Tryz.isAgg170
 z44:=Tryz.sizeOf170
 v44:=Tryz.zeroValue170
 t46:=Tryz.underlying92
 a46:=Tryz.isAgg92
 z46:=Tryz.sizeOf92
 v46:=Tryz.zeroValue92
 t53:=Tryz.underlying197
 a53:=Tryz.isAgg197
 z53:=Tryz.sizeOf197
 v53:=Tryz.zeroValue197
 t57:=Tryz.underlying201
 a57:=Tryz.isAgg201
 z57:=Tryz.sizeOf201
 v57:=Tryz.zeroValue201
 t63:=Tryz.underlying226
 a63:=Tryz.isAgg226
 z63:=Tryz.sizeOf226
 v63:=Tryz.zeroValue226
 t64:=Tryz.underlying227
 a64:=Tryz.isAgg227
 z64:=Tryz.sizeOf227
 v64:=Tryz.zeroValue227}
end Go.Proofs
namespace Go.Ae
open Go.Proofs Go.Sort Go.Shelf
def cloI.ca(a:List Int):List AV:=[.im (.sl false 1 (a.map intC))]
def cloI.H1(a:List Int):Qan:=[(0,(true,.arr 2 1 (a.map intC)))]
def cloI.row:Row:=orow cloI.ca (fun _=>[]) 0 (fun a=>a.length<=4194304) (fun _=>false) (fun _=> .own 0) cloI.H1 20
theorem cloI.ok:Qas Tryz.prog 37 cloI.row:=by
 refine owN tN Tryz.func37 rfl (by kernel_rfl) (exB:=fun j=>j==0) (R:=fun _ r=>r= .own 0) (fun _=>rfl)
  (fun a=>by simp[cloI.ca,cloI.H1,belL,AV.bel,belH,Qam,Qc2,AObj.nms,nmsL,AV.nms,domB,hget]) (fun a p hp=> ?_) (fun a r h=>by subst h;exact LeV.refl _) ?_
 rotate_left
 intro a hpre;simp only[Tryz.f37,Option.getD,cloI.ca,cloI.H1];simp(maxSteps:=9^9)(disch:=omega)only[ZZ,simprocAttr,rch,Qc7,ORB,cloI.ca,cloI.H1];intro b hb;split
 .rename_i h;have h0:=hb h;refine⟨[],[(0,some 1)],⟨[(2,.own 0)],cloI.H1 a,1⟩,?_,by simp[cloI.H1,Qad.good,belT,belH,Qam,AV.bel,belL],by simp,?_⟩
  .simp only[subP,cloI.H1,h0];simp(maxSteps:=9^9)(disch:=omega)only[ZZ,simprocAttr,rch,Qc7,ORB,cloI.ca,cloI.H1,Zab,Zaa]
  .simp(maxSteps:=9^9)(disch:=omega)only[ZZ,simprocAttr,rch,Qc7,ORB,cloI.ca,cloI.H1]
 .refine⟨by omega,[],[(0,some 2)],⟨[(2,.own 0)],cloI.H1 a,1⟩,?_,by simp[cloI.H1,Qad.good,belT,belH,Qam,AV.bel,belL],by simp,?_⟩
  .simp only[subP,cloI.H1];simp(maxSteps:=9^9)(disch:=omega)only[ZZ,simprocAttr,rch,Qc7,ORB,cloI.ca,cloI.H1,Zab,Zaa]
  .simp(maxSteps:=9^9)(disch:=omega)only[ZZ,simprocAttr,rch,Qc7,ORB,cloI.ca,cloI.H1]
 simp[cloI.H1] at hp;subst hp;exact .inr ⟨by omega,by omega,rfl,rfl⟩
def flI(l:List Int):List Value:=l.map (Value.int .i64)
theorem Qac2{ok:Nat->Prop}{hp:Nat->Option Obj}: ∀(l:List Int) (L:List Value),rdr ok hp 1 (l.map intC) L↔ ∃r,L=flI l++r
 |[],L=>by simp[rdr,flI]
 |x::r,L=>by
  simp only[Zaq,rdr,Qac2 r,intC,rdp,rd,flI,Zaq];constructor
  .rintro⟨_,⟨v,L1,rfl,rfl,_⟩,q,hq⟩;exact⟨q,by simp only[Zcb,Zci] at hq;rw[hq];rfl⟩
  .rintro⟨q,rfl⟩;exact⟨rfl,⟨_,_,rfl,rfl,trivial⟩,q,rfl⟩
theorem Qacs(l:List Int):(flI l).length=l.length:=Zbr ..
def srI.ca(_:List Int):List AV:=[.own 0]
def srI.H0(a:List Int):Qan:=[(0,(true,.arr 2 1 (a.map intC)))]
def srI.H1(a:List Int):Qan:=[(0,(true,.arr 2 1 ((sortI a).map intC)))]
def srI.row:Row:=orow srI.ca srI.H0 1 (fun _=>True) (fun _=>true) (fun _=> .im (.tup [])) srI.H1 0
theorem srI.ok:Qas Tryz.prog 39 srI.row:=by
 rintro args h nx K ⟨a,τ,U,KL,hpre,rfl,hheap,hN,hK⟩;refine⟨Qh7 (by kernel_rfl),_,_,?_,hK⟩;intro C S vs R hW huse hfresh hnames hargs hfin;have hs0:sgx τ 1 nx 0=τ 0:=Zao (by omega);simp only[srI.ca,renL,AV.ren,hs0,Qa0,conc] at hargs;obtain⟨v0,r0,hv,⟨hone,hown⟩,hr1⟩:=hargs;subst hr1;have hvs:vs= #[v0]:=by apply Zei;simpa using hv
 subst hvs;have hm:h (τ 0)=some (true,.arr 2 1 (a.map intC)):=by
  have:=hheap.1
  rwa [hs0] at this
 have hd0:domB (srI.H0 a) 0=true:=rfl;have hSm:S.h (τ 0)=some (true,.arr 2 1 (a.map intC)):=by
  rw[huse (τ 0) (Zbl _ (hN.u 0 hd0)),hm]
 have hk0: ∀n,n∈KL↔n=τ 0:=by
  intro n;constructor
  .intro hn;obtain⟨j,h1,_,h3⟩:=hN.k1 n hn
   have:j=0:=by
    simp only[domB,srI.H0,hget] at h1;by_cases hj:j=0
    .exact hj
    .have:(0==j)=false:=by simpa using fun h=>hj h.symm
     rw[this] at h1;cases h1
   rw[h3,this]
  .rintro rfl;exact hN.k2 0 hd0 rfl
 obtain⟨m,hmm⟩: ∃m,m=τ 0:=⟨_,rfl⟩;rw[<-hmm] at hSm hown hk0;have hsl:=Qaci a;have fin: ∀(w':World),Qjb S m (.arr 2 1 ((sortI a).map intC)) (S.ρ m) [m] w'->
  (Pres (fun n=>S.h m≠none\/n≠m) S (S.one m (.arr 2 1 ((sortI a).map intC)) (S.ρ m) [m] w')->objc (S.one m (.arr 2 1 ((sortI a).map intC)) (S.ρ m) [m] w') (S.ρ m) (.arr 2 1 ((sortI a).map intC)))->R (.returned (.tuple #[])) w':=by
  intro w' hone hob;have hp:=Qg2 hW hone;refine hfin (.tuple #[]) _ (Qqp hW hone (hob hp)) ?_ ⟨hp.ok,fun n _=>hp.nm n (.inl (by rw[hSm];simp))⟩ ⟨#[],rfl,rfl⟩;funext n;simp only[Env.one,Eff.appf,srI.H1,renH,hs0,hget,AObj.ren,<-hmm];by_cases hn:n=m
  .subst hn;simp
  .have h1:(m==n)=false:=by simpa using fun h=>hn h.symm
   have h2:KL.contains n=false:=by
    rw[<-ZcV,Zbq,hk0];exact hn
   simp only[h1,ZaS,h2,hn,Zby,Zal]
 have hown':=hown _ hSm;have hobj:=hW.obj _ _ hSm;have hloc:=fun lc=>hW.loc m _ lc hSm
 cases hρ:S.ρ m with
 |none=>
  rw[hρ] at hown' hobj;simp only[objc] at hobj;have ha:a=[]:=by simpa using hobj.2
  subst ha;simp only at hown';rw[hown'];refine (AnyM.slices_Sort_int_none Tryz.sortI none 0 S.w).mono ?_;rintro e w' ⟨rfl,rfl⟩;refine fin S.w (Qacz hSm (fun l hl=>by rw[hρ] at hl;cases hl) (by first|rfl|simp[AObj.len,sortI]) (by first|rfl|simp[AObj.len,sortI])) (fun _=> ?_);rw[hρ];exact⟨by simp[sortI],by simp[sortI]⟩
 |some lc=>
  rw[hρ] at hown' hobj;simp only[objc,AObj.len] at hobj hown';obtain⟨g1,g2,cv,g3,g4,g5⟩:=hobj;obtain⟨hlb,hlk⟩:=hloc lc hρ;rw[Qac2] at g5;obtain⟨rest,g5⟩:=g5;simp only[Zbr] at g1 g2 hown';have hheap:S.w.heap[lc.b]? =some (.cells cv 2 (0,0)):=g3;have hlen:lc.p+a.length<=cv.size:=by omega
  have hget: ∀j,j<a.length->cv[lc.p+j]? =some (Value.int .i64 (a.toArray[j]!)):=by
   intro j hj;have h1:(cv.toList.drop lc.p)[j]? =(flI a++rest)[j]? :=by rw[g5]
   rw[Zbz,Zbe,Zav (by rw[Qacs];exact hj),flI,ZaN,Zad hj] at h1;rw[h1,getElem!_pos _ _ (by simpa using hj)];simp
  have hH:Holds (Value.int .i64) S.w lc.b lc.p a.toArray:=by
   intro j hj;have hj:j<a.length:=by simpa using hj
   refine⟨?_,?_⟩
   .simp only[World.cell?,hheap,ZcT,ZaB,Zby,id];exact hget j hj
   .simp only[World.frozen?,hheap];simp
  have hc:=AnyM.slices_Sort_int Tryz.sortI lc.b lc.p lc.cap a S.w hH hlb (by simp only[LIM] at g1⊢;omega);rw[hown'];refine hc.mono ?_;rintro e w' ⟨rfl,n,os,rfl⟩;change R _ (grow (putRow (Value.int .i64) (Sort.ahead S.w n) lc.b lc.p (sortI a).toArray) os);have hsize:S.w.heap.size<=(grow (putRow (Value.int .i64) (Sort.ahead S.w n) lc.b lc.p (sortI a).toArray) os).heap.size:=by
   simp[grow,putRow,mapBlock,Sort.ahead]
  have hb: ∀b,b<S.w.heap.size->(grow (putRow (Value.int .i64) (Sort.ahead S.w n) lc.b lc.p (sortI a).toArray) os).heap[b]? =if lc.b=b then S.w.heap[b]?.map (onCells (putCells (Value.int .i64) lc.p (sortI a).toArray)) else S.w.heap[b]? :=by
   intro b hb;have e0:b<(putRow (Value.int .i64) (Sort.ahead S.w n) lc.b lc.p (sortI a).toArray).heap.size:=by simpa[putRow,mapBlock,Sort.ahead] using hb
   simp only[grow];rw[Zdw e0];simp only[putRow,mapBlock,Sort.ahead,ZdX]
  refine fin _ ⟨rfl,rfl,rfl,hsize,?_,.inl (by simp),?_,?_,?_⟩ ?_
  .intro b hb1 hb2;rw[hb b hb1,Zaj (hb2 m _ lc (by simp) hSm hρ)]
  .intro lo hlo;rw[hρ] at hlo;obtain rfl:=Zac hlo;exact⟨Zbn hlb hsize,.inr ⟨m,_,lc,by simp,hSm,hρ,rfl⟩⟩
  .intro f hf;rw[hSm] at hf;obtain rfl:=Zac hf;exact⟨rfl,rfl,by simp[AObj.len,hsl]⟩
  .intro n' f _ hnone;rw[hSm] at hnone;cases hnone
  .intro _;rw[hρ];simp only[objc,Zbr,hsl];refine⟨g1,g2,putCells (Value.int .i64) lc.p (sortI a).toArray cv,?_,by simpa[putCells] using g4,?_⟩
   .simp only[Env.one,Env.hp];rw[hb lc.b hlb,Zao rfl,hheap];rfl
   .rw[Qac2];refine⟨(cv.toList.drop (lc.p+a.length)),?_⟩;apply ZbM;intro t;rw[Zbz,Zbe,putCells,ZeS];by_cases ht:t<a.length
    .rw[Zav (by rw[Qacs,hsl];exact ht),flI,ZaN,Zad (by rw[hsl];exact ht),Zbt (show lc.p+t<cv.size by omega)];simp only[ZaO];rw[Zao ⟨by omega,by simp[hsl];omega⟩,ZcX,getElem!_pos _ _ (by simpa[hsl] using ht)];simp
    .rw[ZaC (by rw[Qacs,hsl];omega),Qacs,hsl,Zbz,Zbe,show lc.p+a.length+(t - a.length)=lc.p+t by omega];cases cv[lc.p+t]? with
     |none=>rfl
     |some x=>simp only[ZaO];rw[Zaj (by simp[hsl];omega)]
def rgI(n:Nat):List Int:=(List.range n).map fun (i:Nat)=>(i:Int)
theorem rgI_len(n:Nat):(rgI n).length=n:=by simp[rgI]
theorem rgI_get{n k:Nat}(h:k<n):(rgI n)[k]? =some (k:Int):=by simp only[rgI,ZaN];rw[ZbF h];rfl
def Qacf(o:List Int)(n:Int):Bool:=decide (sortI o=rgI o.length) && decide ((o.length:Int)=n)
def isOrder_.fv(a:(List Int)×Int):Bool:=(Qacf) (a.1) (a.2)
def isOrder_.row:Row:=vKF (b2 (qS Qb3 Qant) qI) rB (fun a=>a.1.length<=4194304) isOrder_.fv
def isOrder_.q:=vKFq (R:=isOrder_.row) rfl
theorem isOrder_.ok:Qas Tryz.prog 43 isOrder_.row:=by
 refine vwF (tC cloI.ok (tC srI.ok tN)) Tryz.func43 rfl (by kernel_rfl) ?_;intro a hpre;simp only[Tryz.f43,Option.getD];simp(maxSteps:=9^9)(disch:=omega)only[ZZ,simprocAttr,rch,isOrder_.fv,ORC,D.sc,D.scs,scL,decD];refine orow.os a.1 [] hpre (fun j=>by simp[domB,hget]) rfl rfl ?_ ?_
 .simp(maxSteps:=9^9)(disch:=omega)only[ZZ,simprocAttr,rch,isOrder_.fv,ORC,D.sc,D.scs,scL,decD,cloI.ca,Qer,Qb4]
 simp(maxSteps:=9^9)(disch:=omega)only[ZZ,simprocAttr,rch,isOrder_.fv,ORC,D.sc,D.scs,scL,decD,cloI.H1,sub];refine orow.os a.1 [0] trivial (fun j=> ?_) rfl rfl ?_ ?_
 .simp only[domB,srI.H0,hget];by_cases hj:j=0
  .subst hj;simp
  .have:(0==j)=false:=by simpa using fun h=>hj h.symm
   rw[this];simp;omega
 .simp(maxSteps:=9^9)(disch:=omega)only[ZZ,simprocAttr,rch,isOrder_.fv,ORC,D.sc,D.scs,scL,decD,srI.ca,srI.H0,Qer]
  try exact⟨rfl,rfl⟩
 simp(maxSteps:=9^9)(disch:=omega)only[ZZ,simprocAttr,rch,isOrder_.fv,ORC,D.sc,D.scs,scL,decD,srI.H1,sub,Zak,ZbE];obtain⟨o,n⟩:=a;simp only at hpre⊢;have hsl:=Qaci o;have hrl:(sortI o).length=(rgI o.length).length:=by rw[hsl,rgI_len]
 intro _;refine Qay.old ⟨{k:Nat//k<=(sortI o).length/\(sortI o).take k=(rgI o.length).take k},fun k=>⟨[(14,.im (.int .i64 k.1)),(13,.im (.int .i64 (sortI o).length)),(12,.own 0),(4,.im (.bool false)),(0,.im (.sl false 1 (o.map intC))),(1,.im (.int .i64 n))],[(0,(true,.arr 2 1 ((sortI o).map intC)))],20⟩,fun k=>(sortI o).length - k.1,fun k=>⟨by simp[Qad.good,belT,belH,Qam,AV.bel,belL],by simp⟩,⟨⟨0,by simp⟩,by simp(maxSteps:=9^9)(disch:=omega)only[ZZ,simprocAttr,rch,isOrder_.fv,ORC,D.sc,D.scs,scL,decD,sub]⟩,fun k=> ?_⟩;obtain⟨k,hk1,hk2⟩:=k;simp(maxSteps:=9^9)(disch:=omega)only[ZZ,simprocAttr,rch,isOrder_.fv,ORC,D.sc,D.scs,scL,decD,sub,Qal];refine⟨fun hk=>⟨hk,hk,fun x hx=> ?_⟩,fun hk=> ?_⟩
 .obtain⟨g1,g2⟩:=Qew hrl hk1 hk2 hx (rgI_get (n:=o.length) (by omega));refine⟨fun h=> ?_,fun h=>Qb6 hk (by omega) ⟨by omega,g1 (Zbc.1 h)⟩⟩;simp only[Qacf];rw[Zer (g2 h),Zbu]
 .rw[ZaL (by omega),ZaL (by omega)] at hk2;intro _;simp only[Qacf];rw[ZeG hk2,Zbj]
end Go.Ae
namespace Go.Ae
open Go.Proofs
theorem rm_free{s:Qar}{t:List (Qae×Int)}{a:Asm}{k:Nat}{o:Opt}(h:RM t a k)(ha:Qn7 s.Set a)(c1:canS s a o=true):lkP t o.At=none/\0<=o.Tile:=by
 simp only[canS,Zah,Zar] at c1;obtain⟨d1,d2,d3,_⟩:=c1;have hv:0<=o.Tile:=by
  simp only[Qau,Zah,Zar] at d2;exact d2.1
 refine⟨?_,hv⟩;have h1:Qbw t o.At=atA a o.At:=congrFun h.at o.At;have h2:=(Qala ha.2 o.At).1 d3;cases hq:lkP t o.At with
 |none=>rfl
 |some v=>
  exfalso;have h3:=h.pos _ (Qac0 hq);simp only[Qbw,hq,Zag] at h1;simp only at h3;omega
def plD:D->Option (Option Pld)
 | .ref ds=>(Pld.d (ds.take 8)).map some
 | .nilp=>some none
 |_=>none
def plE:Option Pld->D
 |some x=> .ref (Pld.c x)
 |none=> .nilp
theorem plD_le: ∀d b,plD d=some b->Le d (plE b):=by
 intro d b h;unfold plD at h;split at h
 .simp only[Zay] at h;obtain⟨x,h1,rfl⟩:=h;exact Qil (LeP.trans_take (Pld.d_le _ _ h1))
 .obtain rfl:=Zac h;exact Le.refl _
 .cases h
theorem plD_ref(x:Pld):plD (.ref (Pld.c x))=some (some x):=by
 show (Pld.d (Pld.c x)).map some=_;rw[Pld.d_c];rfl
theorem bindF_s(s:Qaa)(f:Qae->Int)(p:Qae)(t:Int)(d:Nat)(h:0<=f (Qf7 p d)):Qhs s f p t (d+1)=Qhs s f p t d+Qfn s t d (f (Qf7 p d)):=by
 have e:Quh s f p t d=Qfn s t d (f (Qf7 p d)):=Zao h;simp only[Qhs,e]
theorem bindF_n{s:Qaa}(hs:setP s)(f:Qae->Int)(p:Qae)(t:Int)(d:Nat)(h: ¬(0<=f (Qf7 p d)/\0<Qfn s t d (f (Qf7 p d)))):Qhs s f p t (d+1)=Qhs s f p t d:=by
 have h1:=Qxd hs f p t d;have h2: ¬0<Quh s f p t d:=fun q=>h ((Qaee ..).1 q)
 simp only[Qhs];omega
def Qae2(s:Qar)(l:List Opt):Option Pld×Int:=if (seqS s l).2.2≠0 then (none,(seqS s l).2.2) else (some ⟨s,l,(seqS s l).1,insS s s.Seed l,smsS s s.Seed l⟩,0)
theorem Qafm{s:Qar}{l:List Opt}(h:(seqS s l).2.2=0):(seqS s l).1=Qac9 s.Seed l/\seqP s l/\Qjc s=true:=by
 obtain⟨h1,h2⟩:=seq_ok h;obtain⟨⟨q1,q2,q3,q4⟩,_⟩:=Qacj h1;have e:seqS s l=Qacg s s.Seed l 0:=by
  simp only[seqS];rw[Zaj (by rw[h1];decide),Zaj (by omega)]
 rw[e] at h⊢;obtain⟨p1,p2⟩:=Qaez l s.Seed 0 h;exact⟨by rw[p1],⟨q1,q2,q3,q4,p2,h2⟩,h1⟩
def play_.fv(a:Qar×(List Opt)):(Option Pld)×Int:=(Qae2) (a.1) (a.2)
def play_.row:Row:=vK (b2 (qR Qar.d_le) (qS Opt.d_le Opt.c_n)) (r2 (RK.mk (plD) (plE) (plD_le)) rI) (fun a=>Qf6 a.1.Set) play_.fv
def play_.q:=vKq (R:=play_.row) rfl
def YaF:=J @play_.fv.eq_1<|J @PlayI_.q<|J @PlayI_.fv.eq_1<|J @step_.q<|J @step_.fv.eq_1<|J @step_.re.eq_1<|J @catC.q<|J @catC.fv.eq_1<|J @bond_.q<|J @bond_.fv.eq_1 @bond_.re.eq_1
theorem play_.ok:Qas Tryz.prog 23 play_.row:=by
 refine vw (tC PlayI_.ok (tC newC.ok (tC step_.ok (tC catC.ok (tC bond_.ok (tC putC.ok tN)))))) Tryz.func23 rfl (by kernel_rfl) ?_;intro a hpre;simp only[Tryz.f23,Option.getD];simp(maxSteps:=9^9)(disch:=omega)only[ZZ,simprocAttr,rch,YaF];obtain⟨s,l⟩:=a;simp only at hpre⊢;refine⟨hpre,?_⟩;simp only[Qap0];by_cases c0:(seqS s l).2.2=0
 case neg=>
  rw[Zao c0];simp only[Qae2,plD,ZbK];rw[Zao c0]
 rw[Zaj (fun h=>h c0)];have eR:Qae2 s l=(some ⟨s,l,(seqS s l).1,insS s s.Seed l,smsS s s.Seed l⟩,0):=by
  simp only[Qae2];rw[Zaj (fun h=>h c0)]
 obtain⟨hE,⟨q1,q2,q3,q4,q5,q6⟩,hso⟩:=Qafm c0;obtain⟨_,q7,q8⟩:=Qacj hso;have hbp:=Qof (s:=s.Set) (a:=s.Seed) (by rw[q7,q8];rfl);have hnp:newC.pre (s,s.Seed):=⟨q1,by simp only;omega,fun y hy=>⟨q2.2 y hy,hbp.1.2.2.2 y hy⟩⟩;obtain⟨e,he⟩: ∃e,e=(seqS s l).1:=⟨_,rfl⟩;rw[eR];simp only[<-he];refine orow.os (s,s.Seed) [] hnp (fun j=>by simp[domB,hget]) rfl rfl ?_ ?_
 .simp(maxSteps:=9^9)(disch:=omega)only[ZZ,simprocAttr,rch,YaF,newC.ca,Qer,Qar.c,Asm.c]
 simp(maxSteps:=9^9)(disch:=omega)only[ZZ,simprocAttr,rch,YaF,newC.H1,sub,Zak,ZbE];intro _;refine Qay.ren ⟨{k:Nat×List (Qae×Int)×List (Qae×List Int)//k.1<=l.length/\ ∃n,RM k.2.1 (Qac9 s.Seed (l.take k.1)) n},fun k=>⟨[(39,.im (.int .i64 k.1.1)),(38,.im (.int .i64 l.length)),(37,.im (.sl false 3 (l.map Opt.c))),(10,.ptr 7 0),(9,.ptr 2 0),(5,.im (.int .i64 0)),(2,.ptr 0 0)],[(2,(true,.cells 105 [.im (.sl false 2 (s.Set.Glues.map Glue.c)),.im (.sl false 2 (s.Set.Tiles.map Tile.c)),.im (.sl false 3 (s.Seed.Tiles.map Qab.c)),.im (.int .i64 s.Temperature),.im (.sl false 3 (l.map Opt.c)),.im (.sl false 3 (e.Tiles.map Qab.c)),.own 8,.own 9])),(9,(true,.arr 2 1 ((smsS s s.Seed (l.take k.1.1)).map intC))),(8,(true,.arr 2 1 ((insS s s.Seed (l.take k.1.1)).map intC))),(7,(true,.cells 82 [.im (.sl false 2 (s.Set.Glues.map Glue.c)),.im (.sl false 2 (s.Set.Tiles.map Tile.c)),.im (.sl false 3 (s.Seed.Tiles.map Qab.c)),.im (.int .i64 s.Temperature),.mp 5,.mp 6])),
  (5,(true,.map ⟨true,[.int .i64,.int .i64]⟩ (k.1.2.1.map Qbe))),(6,(true,.map ⟨true,[.int .i64,.int .i64]⟩ (k.1.2.2.map Qbc))),(0,(true,.cells 32 ((Qar.c s).map .im)))],10⟩,fun k=>l.length - k.1.1,fun k=>⟨by simp[Qad.good,belT,belH,Qam,AV.bel,belL,Qar.c],by simp⟩,⟨⟨(0,(Qui s s.Seed).Tl,(Qui s s.Seed).Op),by simp only;exact⟨ZaU _,_,RM.of q2.1 (fun x hx=>(q2.2 x hx).1)⟩⟩,[(9,none),(8,none)],?_⟩,fun k=> ?_⟩
 .simp only[subP];simp(maxSteps:=9^9)(disch:=omega)only[ZZ,simprocAttr,rch,YaF,Zbk,insS,smsS,Qac9,ZaG]
  try simp
 obtain⟨⟨k,tl,op⟩,hk1,n,hrm⟩:=k;simp only at hk1 hrm;simp(maxSteps:=9^9)(disch:=omega)only[ZZ,simprocAttr,rch,YaF,sub,Qal];obtain⟨b,hb⟩: ∃b,b=Qac9 s.Seed (l.take k):=⟨_,rfl⟩;have hbi:Qn7 s.Set b:=by rw[hb];exact Qafb q3 q2 q5 k hk1
 rw[<-hb] at hrm;have hat:=hrm.at;refine⟨fun hk=>⟨hk,fun x hx=> ?_⟩,fun hk=> ?_⟩
 .obtain⟨cS,cL⟩:=q5 k x hx;rw[<-hb] at cS cL;obtain⟨g1,g2,g3,g4,g5,g6⟩:=Qadk cS;refine Qay.old ⟨{d:Nat//d<=4},fun d=>⟨[(43,.im (.int .i64 d.1)),(14,.im (.int .i64 (Qhs s.Set (atA b) x.At x.Tile d.1))),(13,.im (.int .i64 (Qadf s.Set (atA b) x.At x.Tile d.1))),(12,.ptr 10 0),(39,.im (.int .i64 k)),(38,.im (.int .i64 l.length)),(37,.im (.sl false 3 (l.map Opt.c))),(10,.ptr 7 0),(9,.ptr 2 0),(5,.im (.int .i64 0)),(2,.ptr 0 0)],[(10,(true,.cells 71 ((Opt.c x).map .im))),(2,(true,.cells 105 [.im (.sl false 2 (s.Set.Glues.map Glue.c)),.im (.sl false 2 (s.Set.Tiles.map Tile.c)),.im (.sl false 3 (s.Seed.Tiles.map Qab.c)),.im (.int .i64 s.Temperature),.im (.sl false 3 (l.map Opt.c)),.im (.sl false 3 (e.Tiles.map Qab.c)),.own 8,.own 9])),(9,(true,.arr 2 1 ((smsS s s.Seed (l.take k)).map intC))),(8,(true,.arr 2 1 ((insS s s.Seed (l.take k)).map intC))),(7,(true,.cells 82 [.im (.sl false 2 (s.Set.Glues.map Glue.c)),.im (.sl false 2 (s.Set.Tiles.map Tile.c)),.im (.sl false 3 (s.Seed.Tiles.map Qab.c)),.im (.int .i64 s.Temperature),.mp 5,.mp 6])),
   (5,(true,.map ⟨true,[.int .i64,.int .i64]⟩ (tl.map Qbe))),(6,(true,.map ⟨true,[.int .i64,.int .i64]⟩ (op.map Qbc))),(0,(true,.cells 32 ((Qar.c s).map .im)))],11⟩,fun d=>4 - d.1,fun d=>⟨by simp[Qad.good,belT,belH,Qam,AV.bel,belL,Qar.c,Opt.c],by simp⟩,⟨⟨0,by simp⟩,by simp(maxSteps:=9^9)(disch:=omega)only[ZZ,simprocAttr,rch,YaF,sub,Qadf,Qhs]⟩,fun d=> ?_⟩
  obtain⟨d,hd1⟩:=d;simp(maxSteps:=9^9)(disch:=omega)only[ZZ,simprocAttr,rch,YaF,sub,Qal,hat];have hmb:=Qafe s.Set (atA b) x.At x.Tile d;have hbb:=Qwy q1 (atA b) x.At x.Tile d;have htb:=Qxd q1 (atA b) x.At x.Tile d;refine⟨fun hd=> ?_,fun hd=> ?_⟩
  .have hd4:d<4:=by omega
   have hp8:=Qaew hd4;refine⟨⟨g2,by omega⟩,fun c1=>⟨⟨q1,g5,⟨by omega,by omega⟩,Qafx hbi _ c1⟩,fun c2=> ?_,fun c2=> ?_⟩,fun c1=> ?_⟩
   .have ht:Quh s.Set (atA b) x.At x.Tile d=Qfn s.Set x.Tile d (atA b (Qf7 x.At d)):=Zao c1;rw[ht] at htb;refine⟨⟨d+1,by omega⟩,by simp only;omega,by rw[Qak (by omega) (by omega)];simp only;omega,?_,?_⟩
    .rw[Qak (by omega) (by omega),bindF_s _ _ _ _ _ c1]
    .rw[shl_val hd4,or_bit hd4 hmb.1 hmb.2,maskF_s _ _ _ _ _ c1 c2]
   .refine⟨⟨d+1,by omega⟩,by simp only;omega,by rw[Qak (by omega) (by omega)];simp only;omega,?_,?_⟩
    .rw[bindF_n q1 _ _ _ _ (fun h=>c2 h.2)]
    .rw[Qaek _ _ _ _ _ (fun h=>c2 h.2)]
   .refine⟨⟨d+1,by omega⟩,by simp only;omega,by rw[Qak (by omega) (by omega)];simp only;omega,?_,?_⟩
    .rw[bindF_n q1 _ _ _ _ (fun h=>c1 h.1)]
    .rw[Qaek _ _ _ _ _ (fun h=>c1 h.1)]
  .have hd4:d=4:=by omega
   subst hd4;refine⟨by simp[OneR,allD,D.one],by rw[Qadv,Zau];omega,by simp[OneR,allD,D.one],by rw[Qael,Zau];omega,?_⟩;have hin:inF s.Set (Qbw tl):=by rw[hat];exact fun p hp=>Qafx hbi p hp
   have hcr:Qacu ⟨s,tl,op⟩:=⟨q1,hin,by simp only;omega⟩;obtain⟨f1,f2⟩:=rm_free hrm hbi cS;refine orow.os (⟨s,tl,op⟩,x.At,x.Tile) [7,5,6] ⟨hcr,g2,g5⟩ (fun j=>Qack _ j) rfl rfl ?_ ?_
   .simp(maxSteps:=9^9)(disch:=omega)only[ZZ,simprocAttr,rch,YaF,putC.ca,cryH,Qbk,ZaQ,Zak,ZbE]
   .simp(maxSteps:=9^9)(disch:=omega)only[ZZ,simprocAttr,rch,YaF,putC.H1,kl12,sub,putT,Zak,ZbE];refine⟨⟨(k+1,updP tl x.At x.Tile,Qrz s (Qbw (updP tl x.At x.Tile)) (delP op x.At) x.At 4),by simp only;exact⟨by omega,_,by rw[Qwe hx,Qadp,<-hb];exact hrm.put f2 f1⟩⟩,[(9,some 14),(8,some 12)],by simp only;omega,?_⟩;simp only[subP,Qwe hx,Qad8,Qad9,<-hb];simp(maxSteps:=9^9)(disch:=omega)only[ZZ,simprocAttr,rch,YaF,Zab,Zaa];refine⟨by rw[Qak (by omega) (by omega)];omega,?_,?_⟩<;>simp[intC]
 .rw[ZaL (by omega)]
  have:=plD_ref ⟨s,l,e,insS s s.Seed l,smsS s s.Seed l⟩
  simp only[Pld.c] at this;rw[this];rfl
def has_.fv(a:Int×Int):Bool:=(hasI) (a.1) (a.2)
def has_.row:Row:=vK (b2 qI qI) rB (fun a=>0<=a.2/\a.2<=62) has_.fv
def has_.q:=vKq (R:=has_.row) rfl
theorem has_.ok:Qas Tryz.prog 59 has_.row:=by
 refine vw tN Tryz.func59 rfl (by kernel_rfl) ?_;intro a hpre;simp only[Tryz.f59,Option.getD];simp(maxSteps:=9^9)(disch:=omega)only[ZZ,simprocAttr,rch,has_.fv];exact⟨hpre.1,rfl⟩
def iA1.fv(a:Opt×Qae):Bool:=(fun o p=>decide (o.At=p)) (a.1) (a.2)
def iA1.row:Row:=vK (b2 (qR Opt.d_le) (qP 2 Qae.d_le)) rB (fun a=>True) iA1.fv
def iA1.q:=vKq (R:=iA1.row) rfl
theorem iA1.ok:Qas Tryz.prog 91 iA1.row:=by
 refine vw tN Tryz.func91 rfl (by kernel_rfl) ?_;intro a hpre;simp only[Tryz.f91,Option.getD];simp(maxSteps:=9^9)(disch:=omega)only[ZZ,simprocAttr,rch,iA1.fv];obtain⟨⟨⟨x,y⟩,u⟩,⟨z,w⟩⟩:=a;rw[ZcN];simp
def IdxO_.ar:List PK->Option ((List Opt)×Qae)
 |[.val (.sl _ _ x0),.val (.fn 91 [] [.ref x1_0])]=>(decR Opt.d x0).bind fun y0=>(Qae.d (x1_0.take 2)).bind fun y1_0=>some (y0,y1_0)
 |_=>none
def IdxO_.ae(a:(List Opt)×Qae):List PK:=[.val (.sl false 3 (a.1.map Opt.c)),.val (.fn 91 [] [.ref (Qae.c a.2)])]
theorem IdxO_.le: ∀ps a,IdxO_.ar ps=some a->LeKL ps (IdxO_.ae a):=by
 intro ps a h;unfold IdxO_.ar at h;split at h
 .simp only[ZaM,Zae] at h;obtain⟨y0,h0,y1_0,h1_0,rfl⟩:=h;exact⟨Qbf (Qa2 Opt.d_le _ _ h0) (by simp only[ZaJ];rintro r ⟨y,_,rfl⟩;rfl),Qos ⟨Qil (LeP.trans_take (Qae.d_le _ _ h1_0)),trivial⟩,trivial⟩
 .cases h
def IdxO_.fv(a:(List Opt)×Qae):Int:=(fun l p=>idxO l p) (a.1) (a.2)
def IdxO_.row:Row:=vrow IdxO_.ar (fun a=>True) (fun a=>(D.int .i64) (IdxO_.fv a))
def IdxO_.q:=vq IdxO_.row rfl
theorem IdxO_.ok:Qas Tryz.prog 90 IdxO_.row:=by
 refine Qaj Qaq (tC iA1.ok tN) Tryz.func90 rfl (by kernel_rfl) (by kernel_rfl) (ar:=IdxO_.ar) (ae:=IdxO_.ae) IdxO_.le (n:=2) (fun _=>rfl) (by decide) (rc:=(vInt)) (re:=(D.int .i64)) (Qa3) (f:=IdxO_.fv) ?_;intro a hpre;simp only[Tryz.f90,Option.getD];simp(maxSteps:=9^9)(disch:=omega)only[ZZ,simprocAttr,rch,IdxO_.ae,IdxO_.fv,iA1.q,iA1.fv];intro hn;simp only[idxO];refine Qay.old ⟨{k:Nat//k<=a.1.length/\Qaw (fun o:Opt=>decide (o.At=a.2)) k (a.1.drop k)=Qaw (fun o:Opt=>decide (o.At=a.2)) 0 a.1},fun k=>⟨[(8,.im (.int .i64 k.1)),(7,.im (.int .i64 a.1.length)),(6,.im (.sl false 3 (a.1.map Opt.c))),(4,.im (.int .i64 0)),(0,.im (.sl false 3 (a.1.map Opt.c))),(1,.im (.fn 91 [] [.ref (Qae.c a.2)]))],[],0⟩,fun k=>a.1.length - k.1,fun k=>⟨by simp[Qad.good,belT,belH,Qam,AV.bel,belL],Zap _⟩,⟨⟨0,by simp⟩,by simp(maxSteps:=9^9)(disch:=omega)only[ZZ,simprocAttr,rch,IdxO_.ae,IdxO_.fv,iA1.q,iA1.fv,sub]⟩,fun k=> ?_⟩;obtain⟨k,hk1,hk2⟩:=k;simp(maxSteps:=9^9)(disch:=omega)only[ZZ,simprocAttr,rch,IdxO_.ae,IdxO_.fv,iA1.q,iA1.fv,sub,Qal];refine⟨fun hk=>⟨hk,fun x hx=> ?_⟩,fun hk=> ?_⟩
 .rw[Qd3 hx,Qaw] at hk2;refine⟨fun h=> ?_,fun h=>Qb6 hk hn ⟨by omega,by rw[<-hk2,Zaj (by simpa using h)]⟩⟩;rw[Zao (by simpa using h)] at hk2;exact hk2
 .rw[Zax (by omega),Qaw] at hk2;exact hk2
def idxAt_.fv(a:Pld×Qae):Int:=(fun x p=>idxO x.Seq p) (a.1) (a.2)
def idxAt_.row:Row:=vK (b2 (qP 8 Pld.d_le) (qR Qae.d_le)) rI (fun a=>True) idxAt_.fv
def idxAt_.q:=vKq (R:=idxAt_.row) rfl
theorem idxAt_.ok:Qas Tryz.prog 58 idxAt_.row:=by
 refine vw (tC IdxO_.ok tN) Tryz.func58 rfl (by kernel_rfl) ?_;intro a hpre;simp only[Tryz.f58,Option.getD];simp(maxSteps:=9^9)(disch:=omega)only[ZZ,simprocAttr,rch,idxAt_.fv,IdxO_.q,IdxO_.ar,IdxO_.fv]
 skip
def Qadh(x:Pld):Nat->List (List Int)
 |0=>[]
 |i+1=>Qadh x i++[sortI (ownN x.Seq (x.Inputs[i]?.getD 0) ((x.Seq[i]?.map Opt.At).getD ⟨0,0⟩) 4)]
theorem Qaf1(l:List Opt)(m:Int)(p:Qae): ∀n,(ownN l m p n).length<=n
 |0=>by simp[ownN]
 |n+1=>by
  have:=Qaf1 l m p n
  simp only[ownN,Zaz]
  split<;>simp<;>omega
theorem Qaed(x:Pld): ∀n,(Qadh x n).length=n
 |0=>rfl
 |n+1=>by simp only[Qadh,Zaz,Qaed x n,ZbT]
def needs_.fv(a:Pld):List (List Int):=(fun x=>Qadh x x.Seq.length) a
def needs_.row:Row:=vK (b1 (qP 8 Pld.d_le)) (rS Qj4 Qaoj) (fun a=>(∀o∈a.Seq,Qdy o.At)/\a.Inputs.length=a.Seq.length/\a.Seq.length<=500) needs_.fv
def needs_.q:=vKq (R:=needs_.row) rfl
def YaG:=J @needs_.fv.eq_1<|J @step_.q<|J @step_.fv.eq_1<|J @step_.re.eq_1<|J @idxAt_.q<|J @idxAt_.fv.eq_1<|J @has_.q @has_.fv.eq_1
theorem needs_.ok:Qas Tryz.prog 25 needs_.row:=by
 refine vw (tC step_.ok (tC idxAt_.ok (tC has_.ok (tC srI.ok tN)))) Tryz.func25 rfl (by kernel_rfl) ?_;intro a hpre;simp only[Tryz.f25,Option.getD];simp(maxSteps:=9^9)(disch:=omega)only[ZZ,simprocAttr,rch,YaG];obtain⟨h1,h2,h3⟩:=hpre;intro _;refine Qay.frr ⟨{k:Nat//k<=a.Seq.length},fun k=>⟨[(14,.im (.int .i64 k.1)),(13,.im (.int .i64 a.Seq.length)),(12,.im (.sl false 3 (a.Seq.map Opt.c))),(3,.own 3),(0,.ptr 0 0)],[(3,(true,.arrA 37 1 (imR ((Qadh a k.1).map Qcd)))),(0,(false,.view (Pld.c a)))],4⟩,fun k=>a.Seq.length - k.1,fun k=>⟨by simp[Qad.good,belT,belH,Qam,AV.bel,belL,Qxu],by simp⟩,⟨⟨0,by simp⟩,[],[(3,some 2)],?_⟩,fun k=> ?_⟩
 .simp only[subP];simp(maxSteps:=9^9)(disch:=omega)only[ZZ,simprocAttr,rch,YaG,Zab,Zaa,Qadh,ZaG,Qafa]
  try simp
 obtain⟨k,hk1⟩:=k;simp(maxSteps:=9^9)(disch:=omega)only[ZZ,simprocAttr,rch,YaG,sub,Qal];have hnl:=Qaed a k;refine⟨fun hk=>⟨hk,fun o ho=> ?_⟩,fun hk=> ?_⟩
 .obtain⟨mi,hmi⟩: ∃mi,a.Inputs[k]? =some mi:=⟨_,Zad (by omega)⟩;have hsm:=h1 o (Zaf ho);refine Qay.ren ⟨{d:Nat//d<=4},fun d=>⟨[(19,.im (.int .i64 d.1)),(6,.own 6),(4,.im (.int .i64 k)),(5,.ptr 4 0),(14,.im (.int .i64 k)),(13,.im (.int .i64 a.Seq.length)),(12,.im (.sl false 3 (a.Seq.map Opt.c))),(3,.own 3),(0,.ptr 0 0)],[(6,(true,.arr 2 1 ((ownN a.Seq mi o.At d.1).map intC))),(4,(true,.cells 71 ((Opt.c o).map .im))),(3,(true,.arrA 37 1 (imR ((Qadh a k).map Qcd)))),(0,(false,.view (Pld.c a)))],7⟩,fun d=>4 - d.1,fun d=>⟨by simp[Qad.good,belT,belH,Qam,AV.bel,belL,Qxu,Opt.c],by simp⟩,⟨⟨0,by simp⟩,[(6,some 5)],?_⟩,fun d=> ?_⟩
  .simp only[subP];simp(maxSteps:=9^9)(disch:=omega)only[ZZ,simprocAttr,rch,YaG,Zab,Zaa,ownN,ZaG,Qsg]
   try simp
  obtain⟨d,hd1⟩:=d;have hol:=Qaf1 a.Seq mi o.At d;simp(maxSteps:=9^9)(disch:=omega)only[ZZ,simprocAttr,rch,YaG,sub,Qal];refine⟨fun hd=>⟨⟨hsm,by omega⟩,by omega,fun x hx=>⟨by omega,?_⟩⟩,fun hd=> ?_⟩
  .obtain rfl:mi=x:=Zac (hmi.symm.trans hx);refine⟨fun c1=>⟨fun c2=>⟨by simp[OneR,allD,D.one],by omega,⟨d+1,by omega⟩,[(6,some 8)],by simp only;omega,?_⟩,fun c2=>⟨⟨d+1,by omega⟩,[(6,some 6)],by simp only;omega,?_⟩⟩,fun c1=>⟨⟨d+1,by omega⟩,[(6,some 6)],by simp only;omega,?_⟩⟩
   .simp only[subP];simp(maxSteps:=9^9)(disch:=omega)only[ZZ,simprocAttr,rch,YaG,Zab,Zaa,Qsg];refine⟨by rw[Qak (by omega) (by omega)];omega,?_⟩;simp only[ownN];rw[Zao ⟨c1,c2⟩];simp[intC]
   .simp only[subP];simp(maxSteps:=9^9)(disch:=omega)only[ZZ,simprocAttr,rch,YaG,Zab,Zaa,Qsg];refine⟨by rw[Qak (by omega) (by omega)];omega,?_⟩;simp only[ownN];rw[Zaj (fun h=>c2 h.2),ZaK]
   .simp only[subP];simp(maxSteps:=9^9)(disch:=omega)only[ZZ,simprocAttr,rch,YaG,Zab,Zaa,Qsg];refine⟨by rw[Qak (by omega) (by omega)];omega,?_⟩;simp only[ownN];rw[Zaj (fun h=>c1 h.1),ZaK]
  .have hd4:d=4:=by omega
   subst hd4;refine orow.os (ownN a.Seq mi o.At 4) [6] trivial (fun j=> ?_) rfl rfl ?_ ?_
   .simp only[domB,srI.H0,hget];by_cases hj:j=0
    .subst hj;simp
    .have:(0==j)=false:=by simpa using fun h=>hj h.symm
     rw[this];simp;omega
   .simp(maxSteps:=9^9)(disch:=omega)only[ZZ,simprocAttr,rch,YaG,srI.ca,srI.H0,Qer,Zak]
    try exact⟨rfl,rfl⟩
   simp(maxSteps:=9^9)(disch:=omega)only[ZZ,simprocAttr,rch,YaG,srI.H1,sub,Zak,ZbE];refine⟨by simp[belL,AV.bel],by simp[OneR,Qhz,AV.one],by omega,by rw[ZbY,Qaeq];simp[belL,AV.bel],⟨k+1,by omega⟩,[6],[(3,some 8)],by simp only;omega,?_⟩;have e1:Qadh a (k+1)=Qadh a k++[sortI (ownN a.Seq mi o.At 4)]:=by
    simp only[Qadh,hmi,ho,ZaO,Zag]
   simp only[subP];simp(maxSteps:=9^9)(disch:=omega)only[ZZ,simprocAttr,rch,YaG,Zab,Zaa,Qzl,Qzb,e1,ZaT,Zaq,ZaG];rw[Qak (by omega) (by omega)];refine⟨by simp,?_⟩
   have:=Qzo [(3,some 8)] ((Qadh a k).map Qcd++[[D.sl false 1 ((sortI (ownN a.Seq mi o.At 4)).map intC)]])
   simpa only[imR,ZaT,Zaq,ZaG] using this
 .have hkl:k=a.Seq.length:=by omega
  subst hkl;simp(maxSteps:=9^9)(disch:=omega)only[ZZ,simprocAttr,rch,YaG,Qae4]
theorem Qagn{s:Qar}{l:List Opt}(h:Qaec s s.Seed l)(e:Asm)(st:List Int):Qadh ⟨s,l,e,insS s s.Seed l,st⟩ l.length=Qadm s l:=by
 have key: ∀n,n<=l.length->Qadh ⟨s,l,e,insS s s.Seed l,st⟩ n=Qade l (insS s s.Seed l) n:=by
  intro n;induction n with
  |zero=>intro _;rfl
  |succ n ih=>
   intro hn;obtain⟨o,ho⟩: ∃o,l[n]? =some o:=⟨_,Zad (by omega)⟩;simp only[Qadh,Qade,ih (by omega),ho,Qafo s l s.Seed n o ho,ZaO,Zag];rw[need_law h ho]
 exact key l.length (Zap _)
end Go.Ae
namespace Go.Ae
theorem Qadc{m:Nat}: ∀{rows:List (List AV)},m∈nmsR rows↔ ∃r∈rows,m∈nmsL r
 |[]=>by simp[nmsR]
 |r::rs=>by simp[nmsR,Qadc (rows:=rs)]
section
variable {S1 S':Env}{F:Nat->Prop}
end
end Go.Ae
namespace Go.Ae
open Go.Proofs
def lvT(out own:List Int):Nat->Int
 |0=>0
 |j+1=>max (lvT out own j) ((out[(own[j]?.getD 0).toNat]?).getD 0)
def levK(needs:List (List Int)):Nat->List Int
 |0=>[]
 |i+1=>levK needs i++[lvT (levK needs i) (needs[i]?.getD []) (needs[i]?.getD []).length+1]
theorem Qaig{out own:List Int}{B:Int}(h: ∀x∈out,0<=x/\x<=B)(hB:0<=B): ∀j,0<=lvT out own j/\lvT out own j<=B
 |0=>⟨Zch _,hB⟩
 |j+1=>by
  have h1:=Qaig (own:=own) h hB j;have h2:0<=(out[(own[j]?.getD 0).toNat]?).getD 0/\(out[(own[j]?.getD 0).toNat]?).getD 0<=B:=by
   cases hq:out[(own[j]?.getD 0).toNat]? with
   |none=>exact⟨Zch _,hB⟩
   |some y=>exact h y (Zaf hq)
  simp only[lvT];omega
theorem Qadd(needs:List (List Int)): ∀i,(levK needs i).length=i
 |0=>rfl
 |i+1=>by simp only[levK,Zaz,Qadd needs i,ZbT]
theorem Qafw(needs:List (List Int)): ∀i,∀x∈levK needs i,0<=x/\x<=(i:Int)
 |0,x,h=>by cases h
 |i+1,x,h=>by
  simp only[levK,Zan,Zal] at h;rcases h with h|rfl
  .have:=Qafw needs i x h
   omega
  .have:=Qaig (own:=needs[i]?.getD []) (Qafw needs i) (by omega) (needs[i]?.getD []).length
   omega
def Qag3(needs:List (List Int)):Prop:=needs.length<=500/\ ∀(i:Nat) (own:List Int),needs[i]? =some own-> ∀k∈own,0<=k/\k<(i:Int)
theorem Qaea(l:List Opt)(ins:List Int): ∀n i,i<n->(Qade l ins n)[i]? =some (ndK l (ins[i]?.getD 0) ((l[i]?.map Opt.At).getD ⟨0,0⟩) i)
 |0,i,h=>by omega
 |n+1,i,h=>by
  simp only[Qade];by_cases hi:i<n
  .rw[Zav (by rw[Qadb];exact hi)];exact Qaea l ins n i hi
  .have:i=n:=by omega
   subst this;rw[ZaC (by rw[Qadb];omega),Qadb]
   try simp
theorem Qaeu{s:Qar}{l:List Opt}(hl:l.length<=500):Qag3 (Qadm s l):=by
 have hlen:(Qadm s l).length=l.length:=Qadb ..;refine⟨by omega,fun i own hi k hk=> ?_⟩;have hil:i<l.length:=by have:=(Zai.1 hi).1;omega
 simp only[Qadm] at hi;rw[Qaea l _ l.length i hil] at hi;obtain rfl:=Zac hi;rw[Qaem (l:=l) i (by omega)] at hk;obtain⟨j,d,h1,_,h3,_⟩:=hk;omega
theorem maxI_max(a b:Int):maxI a b=max a b:=by simp only[maxI];omega
def l12Levels.fv(a:(List (List Int))):List Int:=(fun n=>levK n n.length) a
def l12Levels.row:Row:=vK (b1 (qS Qj4 Qaoj)) (rS Qb3 Qant) (fun a=>Qag3 a) l12Levels.fv
def l12Levels.q:=vKq (R:=l12Levels.row) rfl
def YaH:=J @l12Levels.fv.eq_1 (J @l00Max.q @l00Max.fv.eq_1)
theorem l12Levels.ok:Qas Tryz.prog 27 l12Levels.row:=by
 refine vw (tC l00Max.ok tN) Tryz.func27 rfl (by kernel_rfl) ?_;intro a hpre;simp only[Tryz.f27,Option.getD];simp(maxSteps:=9^9)(disch:=omega)only[ZZ,simprocAttr,rch,YaH];obtain⟨h1,h2⟩:=hpre;refine Qay.ren ⟨{k:Nat//k<=a.length},fun k=>⟨[(4,.im (.int .i64 k.1)),(3,.own 2),(0,.im (.sl false 1 (a.map Qcd)))],[(2,(true,.arr 2 1 ((levK a k.1).map intC)))],3⟩,fun k=>a.length - k.1,fun k=>⟨by simp[Qad.good,belT,belH,Qam,AV.bel,belL],by simp⟩,⟨⟨0,by simp⟩,[(2,some 1)],?_⟩,fun k=> ?_⟩
 .simp only[subP];simp(maxSteps:=9^9)(disch:=omega)only[ZZ,simprocAttr,rch,YaH,Zab,Zaa,levK,ZaG]
  try simp
 obtain⟨k,hk1⟩:=k;have hll:=Qadd a k;have hlb:=Qafw a k;simp(maxSteps:=9^9)(disch:=omega)only[ZZ,simprocAttr,rch,YaH,sub,Qal];intro _;refine⟨fun hk=> ?_,fun hk=> ?_⟩
 .obtain⟨own,hown⟩: ∃own,a[k]? =some own:=⟨_,Zad hk⟩;have hin:=h2 k own hown;refine Qay.old ⟨{j:Nat//j<=own.length},fun j=>⟨[(6,.im (.int .i64 j.1)),(5,.im (.int .i64 (lvT (levK a k) own j.1))),(4,.im (.int .i64 k)),(3,.own 2),(0,.im (.sl false 1 (a.map Qcd)))],[(2,(true,.arr 2 1 ((levK a k).map intC)))],3⟩,fun j=>own.length - j.1,fun j=>⟨by simp[Qad.good,belT,belH,Qam,AV.bel,belL],by simp⟩,⟨⟨0,by simp⟩,by simp(maxSteps:=9^9)(disch:=omega)only[ZZ,simprocAttr,rch,YaH,sub,lvT]⟩,fun j=> ?_⟩;obtain⟨j,hj1⟩:=j;simp(maxSteps:=9^9)(disch:=omega)only[ZZ,simprocAttr,rch,YaH,sub,Qal,hll];have hvb:=Qaig (own:=own) hlb (by omega) j;refine⟨hk,fun x hx hxl=> ?_⟩;obtain rfl:own=x:=Zac (hown.symm.trans hx);refine⟨fun hj=>⟨hk,fun y hy=> ?_⟩,fun hj=> ?_⟩
  .obtain rfl:own=y:=Zac (hown.symm.trans hy);refine⟨hj,fun z hz=> ?_⟩;have hz2:=hin z (Zaf hz);refine⟨hz2.1,hz2.2,by omega,fun v hv=> ?_⟩;refine⟨⟨j+1,by omega⟩,by simp only;omega,by rw[Qak (by omega) (by omega)];simp only;omega,?_⟩;simp only[lvT,hz,Zag,hv,maxI_max]
  .have hjl:j=own.length:=by omega
   subst hjl;refine⟨by simp[OneR,allD,D.one],by omega,⟨k+1,by omega⟩,[(2,some 4)],by simp only;omega,?_⟩;simp only[subP,levK,hown,Zag];simp(maxSteps:=9^9)(disch:=omega)only[ZZ,simprocAttr,rch,YaH,Zab,Zaa];refine⟨by rw[Qak (by omega) (by omega)];omega,?_⟩;rw[Qak (by omega) (by omega)];simp[intC]
 .have hkl:k=a.length:=by omega
  subst hkl;rfl
def levC.ca(a:List (List Int)):List AV:=[.im (.sl false 1 (a.map Qcd))]
def levC.H1(a:List (List Int)):Qan:=[(1,(true,.arr 2 1 ((levK a a.length).map intC)))]
def levC.row:Row:=orow levC.ca (fun _=>[]) 0 Qag3 (fun _=>false) (fun _=> .own 1) levC.H1 2
def Qadr(a:List (List Int))(i:Nat)(v:Int):List Int:=levK a i++v::List.replicate (a.length - i - 1) 0
def levO(a:List (List Int))(i:Nat):List Int:=levK a i++List.replicate (a.length - i) 0
theorem levO_to{a:List (List Int)}{i:Nat}(h:i<a.length):levO a i=Qadr a i 0:=by
 rw[levO,Qadr,show a.length - i=(a.length - i - 1)+1 by omega,Zeo];simp
theorem levTo_len{a:List (List Int)}{i:Nat}(h:i<a.length)(v:Int):(Qadr a i v).length=a.length:=by simp[Qadr,Qadd];omega
theorem Qafu(a:List (List Int))(i:Nat)(v:Int):(Qadr a i v)[i]? =some v:=by
 rw[Qadr,ZaC (by rw[Qadd];omega),Qadd];simp
theorem levTo_lo{a:List (List Int)}{i j:Nat}(h:j<i)(v:Int):(Qadr a i v)[j]? =(levK a i)[j]? :=by
 rw[Qadr,Zav (by rw[Qadd];omega)]
theorem Qae0(a:List (List Int))(i:Nat)(v w:Int):(Qadr a i v).set i w=Qadr a i w:=by
 rw[Qadr,Zea _ _ (by rw[Qadd];omega),Qadd,Zcj,Zde,Qadr]
theorem levTo_end{a:List (List Int)}{i:Nat}{own:List Int}(h:a[i]? =some own):Qadr a i (lvT (levK a i) own own.length+1)=levO a (i+1):=by
 have hi:=(Zai.1 h).1;simp only[Qadr,levO,levK,h,Zag,ZbA,List.singleton_append];rw[show a.length - (i+1)=a.length - i - 1 by omega]
theorem levO_all(a:List (List Int)):levO a a.length=levK a a.length:=by simp[levO]
theorem Qado(l:List Int)(i:Nat)(x:Int):(l.map intC).set i [.int .i64 x]=(l.set i x).map intC:=by rw[ZcY];rfl
theorem levC.ok:Qas Tryz.prog 24 levC.row:=by
 refine ow tN Tryz.func24 rfl (by kernel_rfl) (exB:=fun j=>j==1) (R:=fun _ r=>r= .own 1) (fun _=>rfl)
  (fun a=>by simp[levC.ca,levC.H1,belL,AV.bel,belH,Qam,Qc2,AObj.nms,nmsL,AV.nms,domB,hget]) (fun a p hp=> ?_) (fun a r h=>by subst h;exact LeV.refl _) ?_
 rotate_left
 intro a hpre;simp only[Tryz.f24,Option.getD,levC.ca,levC.H1];simp(maxSteps:=9^9)(disch:=omega)only[ZZ,simprocAttr,rch,ORB,levC.ca,levC.H1];obtain⟨h1,h2⟩:=hpre;intro _;refine⟨by omega,fun _=> ?_⟩;refine Qay.old ⟨{k:Nat//k<=a.length},fun k=>⟨[(13,.im (.int .i64 k.1)),(12,.im (.int .i64 a.length)),(11,.im (.sl false 1 (a.map Qcd))),(3,.own 1)],[(1,(true,.arr 2 1 ((levO a k.1).map intC)))],2⟩,fun k=>a.length - k.1,fun k=>⟨by simp[Qad.good,belT,belH,Qam,AV.bel,belL],by simp⟩,⟨⟨0,by simp⟩,by simp(maxSteps:=9^9)(disch:=omega)only[ZZ,simprocAttr,rch,ORB,levC.ca,levC.H1,sub,levO,levK];simp[intC]⟩,fun k=> ?_⟩;obtain⟨k,hk1⟩:=k;have hlb:=Qafw a k;have hll:=Qadd a k;simp(maxSteps:=9^9)(disch:=omega)only[ZZ,simprocAttr,rch,ORB,levC.ca,levC.H1,sub,Qal];refine⟨fun hk=>⟨hk,fun own hown hol=> ?_⟩,fun hk=> ?_⟩
 .have hin:=h2 k own hown;rw[levO_to hk];refine Qay.old ⟨{j:Nat//j<=own.length},fun j=>⟨[(20,.im (.int .i64 j.1)),(19,.im (.int .i64 own.length)),(18,.im (.sl false 1 (own.map intC))),(4,.im (.int .i64 k)),(13,.im (.int .i64 k)),(12,.im (.int .i64 a.length)),(11,.im (.sl false 1 (a.map Qcd))),(3,.own 1)],[(1,(true,.arr 2 1 ((Qadr a k (lvT (levK a k) own j.1)).map intC)))],2⟩,fun j=>own.length - j.1,fun j=>⟨by simp[Qad.good,belT,belH,Qam,AV.bel,belL],by simp⟩,⟨⟨0,by simp⟩,by simp(maxSteps:=9^9)(disch:=omega)only[ZZ,simprocAttr,rch,ORB,levC.ca,levC.H1,sub,lvT]⟩,fun j=> ?_⟩;obtain⟨j,hj1⟩:=j;have hvb:=Qaig (own:=own) hlb (by omega) j;have htl:=levTo_len hk (lvT (levK a k) own j);simp(maxSteps:=9^9)(disch:=omega)only[ZZ,simprocAttr,rch,ORB,levC.ca,levC.H1,sub,Qal,htl];refine⟨fun hj=>⟨hj,fun x hx=>⟨hk,hk,fun y hy=> ?_⟩⟩,fun hj=>⟨hk,hk,fun y hy=>⟨hk,hk,fun y' _=> ?_⟩⟩⟩
  .have hz2:=hin x (Zaf hx);rw[Qafu] at hy;obtain rfl:=Zac hy;refine⟨hz2.1,by omega,by omega,fun z hz=>⟨hk,hk,fun y' _=> ?_⟩⟩;rw[levTo_lo (by omega)] at hz;refine⟨⟨j+1,by omega⟩,by simp only;omega,by rw[Qak (by omega) (by omega)];simp only;omega,?_⟩;rw[Qado,Qae0];simp only[lvT,hx,Zag,hz]
  .have hjl:j=own.length:=by omega
   subst hjl;rw[Qafu] at hy;obtain rfl:=Zac hy;refine⟨⟨k+1,by omega⟩,by simp only;omega,by rw[Qak (by omega) (by omega)];simp only;omega,?_⟩;rw[Qak (by omega) (by omega),Qado,Qae0,levTo_end hown]
 .have hkl:k=a.length:=by omega
  subst hkl;rw[levO_all]
  skip
 simp[levC.H1] at hp;subst hp;exact .inr ⟨by omega,by omega,rfl,rfl⟩
def tlF(a:List Tile)(i:Nat):Ent:=(true,.arr 2 1 (((a[i]?.map Tile.Sides).getD []).map intC))
theorem outOk_fam(h:Nat->Option Ent)(F:AV->Option AV)(b:Nat)(f:Nat->Ent)(n:Nat)(H: ∀i,i<n->h (b+i)=some (f i))(hc: ∀i,i<n->cvtE F (f i).2=some (f i).2):Qhk h F (famH b n f):=by
 have: ∀(l:List Nat),(∀i∈l,i<n)->Qhk h F (l.map fun i=>(b+i,f i)):=by
  intro l;induction l with
  |nil=>intro _;simp[Qhk]
  |cons i r ih=>
   intro hl;simp only[Zaq,Qhk];refine⟨?_,ih (fun j hj=>hl j (Zas _ hj))⟩;rw[H i (hl i (Zat ..))];exact⟨rfl,hc i (hl i (Zat ..))⟩
 exact this _ (fun i hi=>ZaI.1 hi)
def toLX.pre(a:List Tile):Prop:=a.length<=1048576/\ ∀x∈a,x.Sides.length<=1073741824
def tlB(b:Nat)(a:List Tile):List (List AV):=(List.range a.length).map fun i=>[.im (.str ((a[i]?.map Tile.Name).getD ByteArray.empty)),.own (b+i)]
theorem Qad3(k:List Nat)(nx cnt:Nat): ∀(H:Qan),(∀p∈H,nx<=p.1/\p.1<nx+cnt)->Qpx k nx cnt H=true
 |[],_=>rfl
 |(i,e)::r,h=>by
  have h1:=h (i,e) (Zat ..);simp only at h1;simp only[Qpx,Qafj,Qad3 k nx cnt r (fun p hp=>h p (Zas _ hp)),ZaX,ZbX,Zah,ZcS,ZbW];exact .inl h1
theorem kxB_ge{lo cnt m:Nat}(h1:lo<=m)(h2:m<cnt):(kxB [] 0 cnt fun j=>decide (lo<=j)) m=some m:=by
 have hb:(decide (lo<=m) && (Nat.ble 0 m && Nat.blt m (0+cnt)))=true:=by
  simp only[Zah,Zar,ZcS,ZbW];omega
 simp only[kxB,domB,hget,ZcT,Zef,hb,Zbf]
def toSX.pre(a:Qaa):Prop:=a.Glues.length<=1073741824/\toLX.pre a.Tiles
def toYX.pre(a:Qar):Prop:=toSX.pre a.Set/\a.Seed.Tiles.length<=1073741824
def f6b_.fv(a:(List Int)):Bool:=(fun l=>decide (4096<(l.length:Int))) a
def f6b_.row:Row:=vK (b1 (qS Qaq6 Qarj)) rB (fun a=>True) f6b_.fv
def f6b_.q:=vKq (R:=f6b_.row) rfl
theorem f6b_.ok:Qas Tryz.prog 4 f6b_.row:=by
 refine vw tN Tryz.func4 rfl (by kernel_rfl) ?_;intro a hpre;simp only[Tryz.f4,Option.getD];simp(maxSteps:=9^9)(disch:=omega)only[ZZ,simprocAttr,rch,f6b_.fv];exact fun _=>trivial
def f6i_.fv(a:(List Int)×(List Int)):Bool:=(fun a b=>decide (a=b)) (a.1) (a.2)
def f6i_.row:Row:=vKF (b2 (qS Qb3 Qant) (qS Qb3 Qant)) rB (fun a=>True) f6i_.fv
def f6i_.q:=vKFq (R:=f6i_.row) rfl
theorem f6i_.ok:Qas Tryz.prog 14 f6i_.row:=by
 refine vwF tN Tryz.func14 rfl (by kernel_rfl) ?_;intro a hpre;simp only[Tryz.f14,Option.getD];simp(maxSteps:=9^9)(disch:=omega)only[ZZ,simprocAttr,rch,f6i_.fv,ORC,D.sc,D.scs,scL,decD];intro h1 h2;simp only[Qal];refine⟨fun hl=> ?_,fun hl=> ?_⟩
 .have:a.1≠a.2:=fun h=>hl (by rw[h])
  simp[this]
 have hl:a.1.length=a.2.length:=by omega
 refine Qay.old ⟨{k:Nat//k<=a.1.length/\a.1.take k=a.2.take k},fun k=>⟨[(5,.im (.int .i64 k.1)),(4,.im (.bool false)),(0,.im (.sl false 1 (a.1.map intC))),(1,.im (.sl false 1 (a.2.map intC)))],[],0⟩,fun k=>a.1.length - k.1,fun k=>⟨by simp[Qad.good,belT,belH,Qam,AV.bel,belL],Zap _⟩,⟨⟨0,by simp⟩,by simp(maxSteps:=9^9)(disch:=omega)only[ZZ,simprocAttr,rch,f6i_.fv,ORC,D.sc,D.scs,scL,decD,sub]⟩,fun k=> ?_⟩;obtain⟨k,hk1,hk2⟩:=k;simp(maxSteps:=9^9)(disch:=omega)only[ZZ,simprocAttr,rch,f6i_.fv,ORC,D.sc,D.scs,scL,decD,sub,Qal];intro _;refine⟨fun hk=>⟨hk,fun x hx=>⟨by omega,fun y hy=> ?_⟩⟩,fun hk=> ?_⟩
 .obtain⟨g1,g2⟩:=Qew hl hk1 hk2 hx hy;exact⟨fun h=>by simp[g2 h],fun h=>Qb6 hk h1 ⟨by omega,g1 (by simpa using h)⟩⟩
 .rw[ZaL (by omega),ZaL (by omega)] at hk2;simp[hk2]
def smA_.fv(a:Asm×Asm):Bool:=(fun a b=>decide (a=b)) (a.1) (a.2)
def smA_.row:Row:=vK (b2 (qR Asm.d_le) (qR Asm.d_le)) rB (fun a=>True) smA_.fv
def smA_.q:=vKq (R:=smA_.row) rfl
theorem smA_.ok:Qas Tryz.prog 11 smA_.row:=by
 refine vw (tC l03Same.ok tN) Tryz.func11 rfl (by kernel_rfl) ?_;intro a hpre;simp only[Tryz.f11,Option.getD];simp(maxSteps:=9^9)(disch:=omega)only[ZZ,simprocAttr,rch,smA_.fv,l03Same.q,l03Same.fv]
def nextTo(p q:Qae):Prop:= ∃d:Nat,d<4/\Qf7 p d=q
def insQ(p:Qae):List Qae->List Qae
 |[]=>[p]
 |y::r=>if Qap y p=true then y::insQ p r else if y=p then y::r else p::y::r
abbrev ltQ(l:List Qae):Prop:=l.Pairwise fun a b=>Qap a b=true
theorem Qajr{a b c:Qae}(h1:Qap a b=true)(h2:Qap b c=true):Qap a c=true:=by simp only[Qap] at*;grind
theorem Qako{a b:Qae}(h1:Qap a b=false)(h2:a≠b):Qap b a=true:=by
 obtain⟨ax,ay⟩:=a;obtain⟨bx,by'⟩:=b;simp only[Qap,ne_eq,Qae.mk.injEq] at*
 grind
theorem Qaj7{p q:Qae}: ∀{l:List Qae},q∈insQ p l↔q=p\/q∈l
 |[]=>by simp[insQ]
 |y::r=>by
  simp only[insQ];split
  .simp only[Zaw,Qaj7 (l:=r)];constructor
   .rintro (h|h|h)
    .exact .inr (.inl h)
    .exact .inl h
    .exact .inr (.inr h)
   .rintro (h|h|h)
    .exact .inr (.inl h)
    .exact .inl h
    .exact .inr (.inr h)
  .split
   .rename_i c;subst c;simp
   .simp
theorem insQ_lt{p:Qae}: ∀{l:List Qae},ltQ l->ltQ (insQ p l)
 |[],_=>by simp[insQ]
 |y::r,h=>by
  rw[ltQ,ZbH] at h;simp only[insQ];split
  .rename_i c;rw[ltQ,ZbH];refine⟨fun z hz=> ?_,insQ_lt h.2⟩;rcases Qaj7.1 hz with rfl|hz
   .exact c
   .exact h.1 z hz
  .rename_i c;split
   .rw[ltQ,ZbH];exact h
   .rename_i e;have hpy:=Qako (by simpa using c) e;rw[ltQ,ZbH,ZbH];refine⟨fun z hz=> ?_,h⟩;rcases Zaw.1 hz with rfl|hz
    .exact hpy
    .exact Qajr hpy (h.1 z hz)
def Qajv(a:Asm)(p:Qae)(l:List Qae):Nat->List Qae
 |0=>l
 |k+1=>if Qbi (Qf7 p k)=true/\atA a (Qf7 p k)<0 then insQ (Qf7 p k) (Qajv a p l k) else Qajv a p l k
def Qajq(a:Asm):Nat->List Qae
 |0=>[]
 |i+1=>Qajv a ((a.Tiles[i]?.map Qab.At).getD ⟨0,0⟩) (Qajq a i) 4
theorem Qaj6{a:Asm}{p:Qae}{l:List Qae}(h:ltQ l): ∀k,ltQ (Qajv a p l k)
 |0=>h
 |k+1=>by
  simp only[Qajv];split
  .exact insQ_lt (Qaj6 h k)
  .exact Qaj6 h k
theorem Qaki(a:Asm): ∀i,ltQ (Qajq a i)
 |0=>List.Pairwise.nil
 |i+1=>Qaj6 (Qaki a i) 4
theorem Qakw{a:Asm}{p q:Qae}{l:List Qae}: ∀k,q∈Qajv a p l k↔q∈l\/(Qbi q=true/\atA a q<0)/\ ∃d:Nat,d<k/\Qf7 p d=q
 |0=>by simp[Qajv]
 |k+1=>by
  simp only[Qajv];have ih:=Qakw (a:=a) (p:=p) (q:=q) (l:=l) k;split
  .rename_i c;rw[Qaj7,ih];constructor
   .rintro (rfl|h|⟨h,d,h1,h2⟩)
    .exact .inr ⟨c,k,by omega,rfl⟩
    .exact .inl h
    .exact .inr ⟨h,d,by omega,h2⟩
   .rintro (h|⟨h,d,h1,h2⟩)
    .exact .inr (.inl h)
    .by_cases e:d=k
     .subst e;exact .inl h2.symm
     .exact .inr (.inr ⟨h,d,by omega,h2⟩)
  .rename_i c;rw[ih];constructor
   .rintro (h|⟨h,d,h1,h2⟩)
    .exact .inl h
    .exact .inr ⟨h,d,by omega,h2⟩
   .rintro (h|⟨h,d,h1,h2⟩)
    .exact .inl h
    .by_cases e:d=k
     .subst e;subst h2;exact absurd h c
     .exact .inr ⟨h,d,by omega,h2⟩
theorem Qajz{a:Asm}{q:Qae}: ∀i,i<=a.Tiles.length->(q∈Qajq a i↔(Qbi q=true/\atA a q<0)/\ ∃x∈a.Tiles.take i,nextTo x.At q)
 |0,_=>by simp[Qajq]
 |i+1,hi=>by
  have hx:a.Tiles[i]? =some (a.Tiles[i]'(by omega)):=Zad (by omega);simp only[Qajq];rw[Qakw,Qajz i (by omega),Qwe hx,hx,ZaO,Zag];constructor
  .rintro (⟨h,x,h1,h2⟩|⟨h,h2⟩)
   .exact⟨h,x,Zbl _ h1,h2⟩
   .exact⟨h,_,ZbD _ (Zat ..),h2⟩
  .rintro⟨h,x,h1,h2⟩;rcases Zan.1 h1 with h1|h1
   .exact .inl ⟨h,x,h1,h2⟩
   .rw[Zal] at h1;subst h1;exact .inr ⟨h,h2⟩
def atU(s:Qar)(f:Qae->Int)(q:Qae):Nat->List Int
 |0=>[]
 |k+1=>atU s f q k++(if s.Temperature<=Qhs s.Set f q k 4 then [(k:Int)] else [])
theorem Qakm(s:Qar)(f:Qae->Int)(q:Qae): ∀k,(atU s f q k).length<=k
 |0=>by simp[atU]
 |k+1=>by
  have:=Qakm s f q k
  simp only[atU,Zaz]
  split<;>simp<;>omega
def mkO2(p:Qae)(k:Int):Opt:=⟨p,k⟩
def Qajs(g:Qae->List Int)(l:List Qae):List Opt:=l.flatMap fun p=>(g p).map (mkO2 p)
def Qaj8(s:Qar)(a:Asm):List Opt:=Qajs (fun p=>atU s (atA a) p s.Set.Tiles.length) (Qajq a a.Tiles.length)
def posQ(p:Qae)(l:List Qae):Nat:=(l.takeWhile fun y=>Qap y p).length
theorem Qald(p:Qae): ∀(l:List Qae),insQ p l=if l[posQ p l]? =some p then l else l.take (posQ p l)++p::l.drop (posQ p l)
 |[]=>by simp[insQ,posQ]
 |y::r=>by
  have ih:=Qald p r;simp only[insQ];by_cases c:Qap y p=true
  .have e:posQ p (y::r)=posQ p r+1:=by simp[posQ,Zda,c]
   rw[Zao c,ih,e,Zba];split
   .rfl
   .simp
  .have e:posQ p (y::r)=0:=by simp[posQ,Zda,c]
   rw[Zaj c,e];simp
theorem posQ_eq{p:Qae}: ∀{l:List Qae} {k:Nat},ltQ l->k<=l.length->(∀(i:Nat) (y:Qae),k<=i->l[i]? =some y->Qap y p=false)->(∀y,k≠0->l[k - 1]? =some y->Qap y p=true)->posQ p l=k
 |[],k,_,hk,_,_=>by simp at hk;simp[posQ,hk]
 |y::r,0,_,_,h1,_=>by
  have:=h1 0 y (Zap _) rfl
  simp[posQ,Zda,this]
 |y::r,k+1,hl,hk,h1,h2=>by
  rw[ltQ,ZbH] at hl;have hy:Qap y p=true:=by
   cases k with
   |zero=>exact h2 y (by omega) rfl
   |succ k=>
    have hlt:k+1<(y::r).length:=by simp at hk⊢;omega
    have h3:=h2 _ (by omega) (Zad (l:=y::r) (i:=k+1) hlt);refine Qajr (hl.1 _ ?_) h3;simp
  have ih:=posQ_eq (p:=p) (l:=r) (k:=k) hl.2 (by simpa using hk) (fun i z hi hz=>h1 (i+1) z (by omega) (by simpa using hz)) (fun z hk0 hz=>h2 z (by omega) (by
   obtain⟨m,rfl⟩: ∃m,k=m+1:=⟨k - 1,by omega⟩;simpa using hz))
  simp only[posQ] at ih;simp[posQ,Zda,hy,ih]
def shQ(p:Qae)(l:List Qae)(i:Nat):List Qae:=(l++[p]).take (i+1)++l.drop i
theorem Qak6{p:Qae}{l:List Qae}{i:Nat}(h:i<=l.length):(shQ p l i).length=l.length+1:=by simp[shQ];omega
theorem shQ_all(p:Qae)(l:List Qae):shQ p l l.length=l++[p]:=by simp[shQ,ZaL]
theorem shQ_step{p x:Qae}{l:List Qae}{i:Nat}(h:i+1<=l.length)(hx:(shQ p l (i+1))[i]? =some x):(shQ p l (i+1)).set (i+1) x=shQ p l i:=by
 have hx2:l[i]? =some x:=by
  rw[<-hx,shQ,Zav (by simp;omega),ZcB,Zao (by omega),Zav (by omega)]
 apply ZbM;intro j;have e1:((l++[p]).take (i+1+1)).length=i+2:=by simp;omega
 have e2:((l++[p]).take (i+1)).length=i+1:=by simp;omega
 by_cases c:j=i+1
 .subst c;rw[ZaD (by rw[Qak6 h];omega),shQ,ZaC (by omega),e2,Zcj,Zbz,Zds,hx2]
 .rw[ZaF (Zcz c)];simp only[shQ];by_cases c2:j<i+1
  .rw[Zav (by omega),Zav (by omega),ZcB,ZcB,Zao (by omega),Zao c2]
  .rw[ZaC (by omega),ZaC (by omega),e1,e2,Zbz,Zbz];congr 1;omega
theorem shQ_end{p:Qae}{l:List Qae}{k:Nat}(h:k<=l.length):(shQ p l k).set k p=l.take k++p::l.drop k:=by
 apply ZbM;intro j;have e2:((l++[p]).take (k+1)).length=k+1:=by simp;omega
 have e3:(l.take k).length=k:=by simp;omega
 by_cases c:j=k
 .subst c;rw[ZaD (by rw[Qak6 h];omega),ZaC (by omega),e3,Zcj];simp
 .rw[ZaF (Zcz c)];simp only[shQ];by_cases c2:j<k
  .rw[Zav (by omega),Zav (by omega),ZcB,ZcB,Zao (by omega),Zao c2,Zav (by omega)]
  .obtain⟨m,rfl⟩: ∃m,j=k+1+m:=⟨j - (k+1),by omega⟩;rw[ZaC (by omega),ZaC (by omega),e2,e3,Zbz,show k+1+m - k=m+1 by omega,Zba,Zbz];congr 1;omega
theorem pt_eq3{p q:Qae}:((p.X==q.X)=true/\(p.Y==q.Y)=true)↔p=q:=by
 obtain⟨px,py⟩:=p;obtain⟨qx,qy⟩:=q;simp
def putQ.ca(a:List Qae×Qae):List AV:=[.own 0,.im (.agg [.int .i64 a.2.X,.int .i64 a.2.Y])]
def putQ.H0(a:List Qae×Qae):Qan:=[(0,(true,.arr 69 2 (a.1.map Qae.c)))]
def putQ.H1(a:List Qae×Qae):Qan:=[(1,(true,.arr 69 2 ((insQ a.2 a.1).map Qae.c)))]
def kl0(j:Nat):Bool:=j==0
def putQ.row:Row:=orow putQ.ca putQ.H0 1 (fun a=>ltQ a.1/\a.1.length<=1000000) kl0 (fun _=> .own 1) putQ.H1 1
def YaI:=J @l_LessPoint.q @l_LessPoint.fv.eq_1
theorem putQ.ok:Qas Tryz.prog 125 putQ.row:=by
 refine owN (tC l_LessPoint.ok tN) Tryz.func125 rfl (by kernel_rfl) (exB:=fun j=>j==1) (R:=fun _ r=>r= .own 1) (fun _=>rfl)
  (fun a=>by simp[putQ.ca,putQ.H0,putQ.H1,kl0,belL,AV.bel,belH,Qam,Qc2,AObj.nms,nmsL,AV.nms,domB,hget]) (fun a p hp=> ?_) (fun a r h=>by subst h;exact LeV.refl _) ?_
 rotate_left
 intro a hpre;simp only[Tryz.f125,Option.getD,putQ.ca,putQ.H0,putQ.H1,kl0];simp(maxSteps:=9^9)(disch:=omega)only[ZZ,simprocAttr,rch,YaI,Qc7,ORB,putQ.ca,putQ.H0,putQ.H1,kl0];rotate_left
 .simp[putQ.H1] at hp;subst hp;exact .inr ⟨by omega,by omega,rfl,rfl⟩
 obtain⟨l,p⟩:=a;obtain⟨hl,hn⟩:=hpre;simp only at hl hn⊢;intro _;refine Qay.old ⟨{k:Nat//k<=l.length/\ ∀(i:Nat) (y:Qae),k<=i->l[i]? =some y->Qap y p=false},fun k=>⟨[(5,.im (.int .i64 k.1)),(3,.ptr 1 0),(0,.own 0)],[(1,(true,.cells 69 [.im (.int .i64 p.X),.im (.int .i64 p.Y)])),(0,(true,.arr 69 2 (l.map Qae.c)))],3⟩,fun k=>k.1,fun k=>⟨by simp[Qad.good,belT,belH,Qam,AV.bel,belL],by simp⟩,⟨⟨l.length,Zap _,fun i y hi hy=>by rw[ZaY hi] at hy;cases hy⟩,by simp(maxSteps:=9^9)(disch:=omega)only[ZZ,simprocAttr,rch,YaI,Qc7,ORB,putQ.ca,putQ.H0,putQ.H1,kl0,sub]⟩,fun k=> ?_⟩;obtain⟨k,hk,hkn⟩:=k;simp(maxSteps:=9^9)(disch:=omega)only[ZZ,simprocAttr,rch,YaI,Qc7,ORB,putQ.ca,putQ.H0,putQ.H1,kl0,sub,Qal,Zbr];have hkw:0<k->IntKind.i64.wrap ((k:Int) - 1)=((k - 1:Nat):Int):=fun h=>by rw[Qak (by omega) (by omega)];omega
 refine⟨fun hk0=>⟨by rw[hkw (by omega)];omega,by rw[hkw (by omega)];omega,by rw[hkw (by omega)];omega,fun x hx=>⟨fun hlt=> ?r,fun hlt=>⟨fun hkl=>⟨hkl,hkl,fun y hy=>⟨fun e=> ?a1,fun e=> ?b1⟩⟩,fun hkl=> ?b2⟩⟩⟩,fun hk0=>⟨fun hkl=>⟨hkl,hkl,fun y hy=>⟨fun e=> ?a2,fun e=> ?b3⟩⟩,fun hkl=> ?b4⟩⟩
 case r=>
  rw[hkw (by omega),Zam] at hx;refine⟨⟨k - 1,by omega,fun i y hi hy=> ?_⟩,by simp only;omega,by rw[hkw (by omega)]⟩;by_cases c:i=k - 1
  .subst c;obtain rfl:=Zac (hx.symm.trans hy);exact hlt
  .exact hkn i y (by omega) hy
 all_goals
  have hpos:posQ p l=k:=posQ_eq hl hk hkn (fun y hk0' hy=>by
   first
    |(rw[hkw (by omega),Zam] at hx;obtain rfl:=Zac (hx.symm.trans hy);simpa using hlt)
    |(exact absurd (by omega) hk0))
  have hins:=Qald p l;rw[hpos] at hins
 case a1=>
  have ey:y=p:=pt_eq3.1 e;rw[hy,ey,Zao rfl] at hins;refine⟨[],[(1,some 0)],⟨[(4,.own 1)],putQ.H1 (l,p),2⟩,?_,by simp[putQ.H1,Qad.good,belT,belH,Qam,AV.bel],by simp,?_⟩
  .simp only[subP,putQ.H1,hins];simp(maxSteps:=9^9)(disch:=omega)only[ZZ,simprocAttr,rch,YaI,Qc7,ORB,putQ.ca,putQ.H0,putQ.H1,kl0,Zab,Zaa]
  .simp(maxSteps:=9^9)(disch:=omega)only[ZZ,simprocAttr,rch,YaI,Qc7,ORB,putQ.ca,putQ.H0,putQ.H1,kl0,putQ.H1]
 case a2=>
  have ey:y=p:=pt_eq3.1 e;rw[hy,ey,Zao rfl] at hins;refine⟨[],[(1,some 0)],⟨[(4,.own 1)],putQ.H1 (l,p),2⟩,?_,by simp[putQ.H1,Qad.good,belT,belH,Qam,AV.bel],by simp,?_⟩
  .simp only[subP,putQ.H1,hins];simp(maxSteps:=9^9)(disch:=omega)only[ZZ,simprocAttr,rch,YaI,Qc7,ORB,putQ.ca,putQ.H0,putQ.H1,kl0,Zab,Zaa]
  .simp(maxSteps:=9^9)(disch:=omega)only[ZZ,simprocAttr,rch,YaI,Qc7,ORB,putQ.ca,putQ.H0,putQ.H1,kl0,putQ.H1]
 all_goals
  have hne:l[k]? ≠some p:=fun h=>by
   first
    |(obtain rfl:=Zac (hy.symm.trans h);exact e (pt_eq3.2 rfl))
    |(rw[ZaY (by omega)] at h;cases h)
  rw[Zaj hne] at hins;have hap:l.map Qae.c++[[D.int .i64 p.X,D.int .i64 p.Y]]=(l++[p]).map Qae.c:=by rw[ZaT];rfl
  rw[hap];refine⟨by omega,fun _=> ?_⟩;refine Qay.old ⟨{i:Nat//k<=i/\i<=l.length},fun i=>⟨[(6,.im (.int .i64 i.1)),(5,.im (.int .i64 k)),(0,.own 4),(3,.ptr 1 0)],[(4,(true,.arr 69 2 ((shQ p l i.1).map Qae.c))),(1,(true,.cells 69 [.im (.int .i64 p.X),.im (.int .i64 p.Y)]))],5⟩,fun i=>i.1,fun i=>⟨by simp[Qad.good,belT,belH,Qam,AV.bel,belL],by simp⟩,⟨⟨l.length,hk,Zap _⟩,?_⟩,fun i=> ?_⟩
  .simp(maxSteps:=9^9)(disch:=omega)only[ZZ,simprocAttr,rch,YaI,Qc7,ORB,putQ.ca,putQ.H0,putQ.H1,kl0,sub,shQ_all];rw[Zaz,ZbT,Qak (by omega) (by omega)];omega
  obtain⟨i,hi1,hi2⟩:=i;have hsl:=Qak6 (p:=p) hi2;simp(maxSteps:=9^9)(disch:=omega)only[ZZ,simprocAttr,rch,YaI,Qc7,ORB,putQ.ca,putQ.H0,putQ.H1,kl0,sub,Qal,Zbr,hsl];refine⟨fun hki=> ?_,fun hki=>⟨by omega,by omega,fun x hx=> ?_⟩⟩
  .have hiw:IntKind.i64.wrap ((i:Int) - 1)=((i - 1:Nat):Int):=by rw[Qak (by omega) (by omega)];omega
   rw[hiw,Zam];refine⟨by omega,by omega,by omega,fun x hx=>⟨by omega,by omega,fun z hz=>⟨⟨i - 1,by omega,by omega⟩,by simp only;omega,rfl,?_⟩⟩⟩;have hst:=shQ_step (p:=p) (x:=x) (l:=l) (i:=i - 1) (by omega) (by rwa [show i - 1+1=i by omega]);rw[show i - 1+1=i by omega] at hst;rw[<-hst,ZcY];rfl
  .obtain rfl:i=k:=by omega
   have hse:((shQ p l i).map Qae.c).set i [D.int .i64 p.X,D.int .i64 p.Y]=(insQ p l).map Qae.c:=by
    rw[hins,<-shQ_end hk,ZcY];rfl
   refine⟨[],[(1,some 4)],⟨[(4,.own 1)],putQ.H1 (l,p),2⟩,?_,by simp[putQ.H1,Qad.good,belT,belH,Qam,AV.bel],by simp,?_⟩
   .simp only[subP,putQ.H1,hse];simp(maxSteps:=9^9)(disch:=omega)only[ZZ,simprocAttr,rch,YaI,Qc7,ORB,putQ.ca,putQ.H0,putQ.H1,kl0,Zab,Zaa]
   .simp(maxSteps:=9^9)(disch:=omega)only[ZZ,simprocAttr,rch,YaI,Qc7,ORB,putQ.ca,putQ.H0,putQ.H1,kl0,putQ.H1]
theorem putQ_dom(a:List Qae×Qae)(j:Nat):domB (putQ.H0 a) j=true↔j<1:=by
 simp only[domB,putQ.H0,hget];by_cases hj:j=0
 .subst hj;simp
 .have:(0==j)=false:=by simpa using fun h=>hj h.symm
  rw[this];simp;omega
theorem Qalj(p:Qae): ∀(l:List Qae),(insQ p l).length<=l.length+1
 |[]=>by simp[insQ]
 |y::r=>by
  have:=Qalj p r
  simp only[insQ];split
  .simp only[ZaE];omega
  .split<;>simp
theorem Qakd(a:Asm)(p:Qae)(l:List Qae): ∀k,(Qajv a p l k).length<=l.length+k
 |0=>by simp[Qajv]
 |k+1=>by
  have:=Qakd a p l k
  simp only[Qajv];split
  .have:=Qalj (Qf7 p k) (Qajv a p l k);omega
  .omega
theorem Qaj2(a:Asm): ∀i,(Qajq a i).length<=4*i
 |0=>by simp[Qajq]
 |i+1=>by
  have:=Qaj2 a i
  have:=Qakd a ((a.Tiles[i]?.map Qab.At).getD ⟨0,0⟩) (Qajq a i) 4
  simp only[Qajq];omega
def nearS_.fv(a:Asm):List Qae:=(fun a=>Qajq a a.Tiles.length) a
def nearS_.row:Row:=vK (b1 (qP 1 Asm.d_le)) (rS Qae.d_le Qae.c_n) (fun a=>Qaz none a.Tiles=true/\a.Tiles.length<=1000/\ ∃s,∀x∈a.Tiles,Qcs s x.Tile) nearS_.fv
def nearS_.q:=vKq (R:=nearS_.row) rfl
def YaJ:=J @nearS_.fv.eq_1<|J @l01Step.q<|J @l01Step.fv.eq_1<|J @l01Point.q<|J @l01Point.fv.eq_1<|J @l03Index.q @l03Index.fv.eq_1
theorem nearS_.ok:Qas Tryz.prog 84 nearS_.row:=by
 refine vw (tC l01Step.ok (tC l01Point.ok (tC l03Index.ok (tC putQ.ok tN)))) Tryz.func84 rfl (by kernel_rfl) ?_;intro a hpre;simp only[Tryz.f84,Option.getD];simp(maxSteps:=9^9)(disch:=omega)only[ZZ,simprocAttr,rch,YaJ];obtain⟨h1,h2,s0,h3⟩:=hpre;refine Qay.ren ⟨{i:Nat//i<=a.Tiles.length},fun i=>⟨[(4,.im (.int .i64 i.1)),(3,.own 3),(0,.ptr 0 0)],[(3,(true,.arr 69 2 ((Qajq a i.1).map Qae.c))),(0,(false,.view (Asm.c a)))],4⟩,fun i=>a.Tiles.length - i.1,fun i=>⟨by simp[Qad.good,belT,belH,Qam,AV.bel,belL],by simp⟩,⟨⟨0,ZaU _⟩,[(3,some 2)],?_⟩,fun i=> ?_⟩
 .simp only[subP];simp(maxSteps:=9^9)(disch:=omega)only[ZZ,simprocAttr,rch,YaJ,Zab,Zaa,Qajq,ZaG]
  try simp
 obtain⟨i,hi⟩:=i;simp(maxSteps:=9^9)(disch:=omega)only[ZZ,simprocAttr,rch,YaJ,sub,Qal];intro _;refine⟨fun hi2=> ?_,fun hi2=> ?_⟩;rotate_left
 .obtain rfl:i=a.Tiles.length:=by omega
  rfl
 obtain⟨x,hx⟩: ∃x,a.Tiles[i]? =some x:=⟨_,Zad hi2⟩;have hxo:=(Qh6 _ _ h1 x (Zaf hx)).1;have e1:Qajq a (i+1)=Qajv a x.At (Qajq a i) 4:=by simp only[Qajq,hx];rfl
 have hnl:=Qaj2 a i;have hlt:=Qaki a i;refine Qay.ren ⟨{d:Nat//d<=4},fun d=>⟨[(5,.im (.int .i64 d.1)),(4,.im (.int .i64 i)),(3,.own 4),(0,.ptr 0 0)],[(4,(true,.arr 69 2 ((Qajv a x.At (Qajq a i) d.1).map Qae.c))),(0,(false,.view (Asm.c a)))],5⟩,fun d=>4 - d.1,fun d=>⟨by simp[Qad.good,belT,belH,Qam,AV.bel,belL],by simp⟩,⟨⟨0,ZaU _⟩,[(4,some 3)],?_⟩,fun d=> ?_⟩
 .simp only[subP];simp(maxSteps:=9^9)(disch:=omega)only[ZZ,simprocAttr,rch,YaJ,Zab,Zaa,Qajv]
  try simp
 obtain⟨d,hd⟩:=d;have htl:=Qakd a x.At (Qajq a i) d;have htt:=Qaj6 (a:=a) (p:=x.At) hlt d;simp(maxSteps:=9^9)(disch:=omega)only[ZZ,simprocAttr,rch,YaJ,sub,Qal];have hdw:IntKind.i64.wrap ((d:Int)+1)=((d+1:Nat):Int):=by rw[Qak (by omega) (by omega)];omega
 refine⟨fun hd4=>⟨hi2,fun y hy=> ?_⟩,fun hd4=> ?_⟩;rotate_left
 .obtain rfl:d=4:=by omega
  refine⟨⟨i+1,by omega⟩,[(3,some 4)],by simp only;omega,?_⟩;simp only[subP];simp(maxSteps:=9^9)(disch:=omega)only[ZZ,simprocAttr,rch,YaJ,Zab,Zaa,e1];rw[Qak (by omega) (by omega)];rfl
 obtain rfl:=Zac (hx.symm.trans hy);refine⟨⟨Qkc hxo,by omega⟩,fun hok=>⟨h1,fun hix=> ?_,fun hix=> ?_⟩,fun hok=> ?_⟩
 .have hat:=(Qala h3 (Qf7 x.At d)).1 hix;refine orow.os (Qajv a x.At (Qajq a i) d,Qf7 x.At d) [4] ⟨htt,by simp only;omega⟩ (putQ_dom _) rfl rfl ?_ ?_
  .simp(maxSteps:=9^9)(disch:=omega)only[ZZ,simprocAttr,rch,YaJ,putQ.ca,putQ.H0,Qer,Zak]
  simp(maxSteps:=9^9)(disch:=omega)only[ZZ,simprocAttr,rch,YaJ,putQ.H1,sub,kl0,Zak,ZbE];refine⟨⟨d+1,by omega⟩,[(4,some 6)],by simp only;omega,?_⟩;simp only[subP];simp(maxSteps:=9^9)(disch:=omega)only[ZZ,simprocAttr,rch,YaJ,Zab,Zaa,Qajv];rw[Zao ⟨hok,hat⟩];exact⟨hdw,rfl⟩
 all_goals
  refine⟨⟨d+1,by omega⟩,[(4,some 4)],by simp only;omega,?_⟩;simp only[subP];simp(maxSteps:=9^9)(disch:=omega)only[ZZ,simprocAttr,rch,YaJ,Zab,Zaa,Qajv];refine⟨hdw,?_⟩;rw[Zaj];rintro⟨g1,g2⟩
  first
   |exact hix ((Qala h3 _).2 g2)
   |exact hok g1
def glQ(s:Qaa)(a:Asm)(p:Qae):Nat->List Int
 |0=>[]
 |k+1=>glQ s a p k++[if atA a (Qf7 p k)<0 then 0 else Qqu s (atA a (Qf7 p k)) (((k:Int)+2) % 4)]
theorem Qaj4(s:Qaa)(a:Asm)(p:Qae): ∀k,(glQ s a p k).length=k
 |0=>rfl
 |k+1=>by simp[glQ,Qaj4 s a p k]
theorem Qak3{s:Qaa}{a:Asm}{p:Qae}: ∀{n k:Nat},k<n->(glQ s a p n)[k]? =some (if atA a (Qf7 p k)<0 then 0 else Qqu s (atA a (Qf7 p k)) (((k:Int)+2) % 4))
 |0,k,h=>by omega
 |n+1,k,h=>by
  simp only[glQ];by_cases c:k<n
  .rw[Zav (by rw[Qaj4];exact c),Qak3 c]
  .obtain rfl:k=n:=by omega
   rw[ZaC (by rw[Qaj4];omega),Qaj4,Zcj];rfl
theorem term_gl{s:Qaa}{a:Asm}{p:Qae}{i:Int}{k:Nat}{g:Int}(hg:g=if atA a (Qf7 p k)<0 then 0 else Qqu s (atA a (Qf7 p k)) (((k:Int)+2) % 4)):(if Qqu s i k=g then Qe1 s g else 0)=Quh s (atA a) p i k:=by
 simp only[Quh,Qfn];by_cases c:atA a (Qf7 p k)<0
 .rw[Zao c] at hg;subst hg;rw[Zaj (show ¬0<=atA a (Qf7 p k) by omega),glue_no (by omega)]
  split<;>rfl
 .rw[Zaj c] at hg;rw[Zao (show 0<=atA a (Qf7 p k) by omega),<-hg];split
  .rename_i e;rw[e]
  .rfl
theorem side_b{s:Qaa}(h:setP s){t:Int}{d:Int}:0<=Qqu s t d/\Qqu s t d<=s.Glues.length:=by
 simp only[Qqu];cases e:s.Tiles[t.toNat]? with
 |none=>simp
 |some x=>
  simp only[ZaO,Zag];cases e2:x.Sides[d.toNat]? with
  |none=>simp
  |some g=>
   simp only[Zag];exact (h.2.1 x (Zaf e)).2 g (Zaf e2)
def atQ_.fv(a:Qaa×Asm×Qae×Int):List Int:=(fun s a p t=>atU ⟨s,a,t⟩ (atA a) p s.Tiles.length) (a.1) (a.2.1) (a.2.2.1) (a.2.2.2)
def atQ_.row:Row:=vK (b4 (qP 2 Qaa.d_le) (qP 1 Asm.d_le) (qR Qae.d_le) qI) (rS Qb3 Qant) (fun a=>setP a.1/\Qn7 a.1 a.2.1/\Qdy a.2.2.1/\a.1.Tiles.length<=1000000) atQ_.fv
def atQ_.q:=vKq (R:=atQ_.row) rfl
def YaK:=J @atQ_.fv.eq_1<|J @l01Step.q<|J @l01Step.fv.eq_1<|J @l03At.q<|J @l03At.fv.eq_1<|J @Opposite_.q<|J @Opposite_.fv.eq_1<|J @l02Strength.q @l02Strength.fv.eq_1
theorem atQ_.ok:Qas Tryz.prog 85 atQ_.row:=by
 refine vw (tC l01Step.ok (tC l03At.ok (tC Opposite_.ok (tC l02Strength.ok tN)))) Tryz.func85 rfl (by kernel_rfl) ?_;intro a hpre;simp only[Tryz.f85,Option.getD];simp(maxSteps:=9^9)(disch:=omega)only[ZZ,simprocAttr,rch,YaK];obtain⟨s,a,p,t⟩:=a;obtain⟨h1,h2,h3,h4⟩:=hpre;simp only at h1 h2 h3 h4⊢;refine Qay.ren ⟨{d:Nat//d<=4},fun d=>⟨[(10,.im (.int .i64 d.1)),(9,.own 5),(6,.ptr 2 0),(0,.ptr 0 0),(1,.ptr 1 0),(3,.im (.int .i64 t))],[(5,(true,.arr 2 1 ((glQ s a p d.1).map intC))),(2,(true,.cells 69 [.im (.int .i64 p.X),.im (.int .i64 p.Y)])),(0,(false,.view (Qaa.c s))),(1,(false,.view (Asm.c a)))],6⟩,fun d=>4 - d.1,fun d=>⟨by simp[Qad.good,belT,belH,Qam,AV.bel,belL],by simp⟩,⟨⟨0,ZaU _⟩,[(5,some 4)],?_⟩,fun d=> ?_⟩
 .simp only[subP];simp(maxSteps:=9^9)(disch:=omega)only[ZZ,simprocAttr,rch,YaK,Zab,Zaa,glQ,ZaG]
  try simp
 obtain⟨d,hd⟩:=d;have hgl:=Qaj4 s a p d;simp(maxSteps:=9^9)(disch:=omega)only[ZZ,simprocAttr,rch,YaK,sub,Qal,Qag,Qac,Qaf,allD,D.one,ZaX,Zcl,Zdi];have hdw:IntKind.i64.wrap ((d:Int)+1)=((d+1:Nat):Int):=by rw[Qak (by omega) (by omega)];omega
 refine⟨fun hd4=>⟨⟨h3,by omega⟩,h2.1,fun hn=>⟨by omega,⟨d+1,by omega⟩,[(5,some 7)],by simp only;omega,?_⟩,fun hn=> ?_⟩,fun hd4=> ?_⟩
 .simp only[subP];simp(maxSteps:=9^9)(disch:=omega)only[ZZ,simprocAttr,rch,YaK,Zab,Zaa,glQ];rw[Zao hn];refine⟨hdw,by simp[intC]⟩
 .obtain⟨b1,b2⟩:=Qafx h2 (Qf7 p d) (by omega);refine⟨b1,b2,fun x hx=>⟨by omega,by omega,by rw[(h1.2.1 x (Zaf hx)).1];omega,fun g hg=>⟨by omega,⟨d+1,by omega⟩,[(5,some 7)],by simp only;omega,?_⟩⟩⟩;have hse:Qqu s (atA a (Qf7 p d)) (((d:Int)+2) % 4)=g:=Qpn hx hg;simp only[subP];simp(maxSteps:=9^9)(disch:=omega)only[ZZ,simprocAttr,rch,YaK,Zab,Zaa,glQ];rw[Zaj hn,hse];refine⟨hdw,by simp[intC]⟩
 obtain rfl:d=4:=by omega
 clear hdw hd4 hd;obtain⟨S,hS⟩: ∃S:Qar,S=⟨s,a,t⟩:=⟨_,rfl⟩;rw[<-hS];refine Qay.ren ⟨{i:Nat//i<=s.Tiles.length},fun i=>⟨[(13,.im (.int .i64 i.1)),(12,.own 7),(9,.own 5),(0,.ptr 0 0),(3,.im (.int .i64 t))],[(7,(true,.arr 2 1 ((atU S (atA a) p i.1).map intC))),(5,(true,.arr 2 1 ((glQ s a p 4).map intC))),(0,(false,.view (Qaa.c s))),(1,(false,.view (Asm.c a)))],8⟩,fun i=>s.Tiles.length - i.1,fun i=>⟨by simp[Qad.good,belT,belH,Qam,AV.bel,belL],by simp⟩,⟨⟨0,ZaU _⟩,[(7,some 6)],?_⟩,fun i=> ?_⟩
 .simp only[subP];simp(maxSteps:=9^9)(disch:=omega)only[ZZ,simprocAttr,rch,YaK,Zab,Zaa,atU,ZaG]
  try simp
 obtain⟨i,hi⟩:=i;have hul:=Qakm S (atA a) p i;simp(maxSteps:=9^9)(disch:=omega)only[ZZ,simprocAttr,rch,YaK,sub,Qal];intro _;refine⟨fun hi2=> ?_,fun hi2=> ?_⟩;rotate_left
 .obtain rfl:i=s.Tiles.length:=by omega
  rfl
 refine Qay.old ⟨{k:Nat//k<=4},fun k=>⟨[(15,.im (.int .i64 k.1)),(14,.im (.int .i64 (Qhs s (atA a) p i k.1))),(13,.im (.int .i64 i)),(12,.own 7),(9,.own 5),(0,.ptr 0 0),(3,.im (.int .i64 t))],[(7,(true,.arr 2 1 ((atU S (atA a) p i).map intC))),(5,(true,.arr 2 1 ((glQ s a p 4).map intC))),(0,(false,.view (Qaa.c s))),(1,(false,.view (Asm.c a)))],8⟩,fun k=>4 - k.1,fun k=>⟨by simp[Qad.good,belT,belH,Qam,AV.bel,belL],by simp⟩,⟨⟨0,ZaU _⟩,?_⟩,fun k=> ?_⟩
 .simp(maxSteps:=9^9)(disch:=omega)only[ZZ,simprocAttr,rch,YaK,sub,Qhs]
 obtain⟨k,hk⟩:=k;simp(maxSteps:=9^9)(disch:=omega)only[ZZ,simprocAttr,rch,YaK,sub,Qal,Qag,Qac,Qaf,allD,D.one,ZaX,Zcl,Zdi];have hkw:IntKind.i64.wrap ((k:Int)+1)=((k+1:Nat):Int):=by rw[Qak (by omega) (by omega)];omega
 have hbb:=Qwy h1 (atA a) p i k;have htb:=Qxd h1 (atA a) p i k;have h4l:=Qaj4 s a p 4;rw[h4l];refine⟨fun hk4=>⟨hi2,fun x hx=>⟨by rw[(h1.2.1 x (Zaf hx)).1];omega,fun g hg=>⟨by omega,by omega,fun y hy=> ?_⟩⟩⟩,fun hk4=> ?_⟩
 .have hse:Qqu s i k=g:=Qpn (by simpa using hx) (by simpa using hg);rw[Qak3 (by omega),Zae] at hy;have htl:=term_gl (i:=i) hy.symm;rw[hse] at htl;refine⟨fun e=>⟨by omega,by omega,fun z hz=> ?_⟩,fun e=>⟨⟨k+1,by omega⟩,by simp only;omega,hkw,?_⟩⟩
  .rw[Qak3 (by omega),Zae] at hz;obtain rfl:y=z:=hy.symm.trans hz;rw[Zao e] at htl;have hyb:0<=y/\y<=s.Glues.length:=by
    have:=side_b h1 (t:=i) (d:=k)
    rw[hse,e] at this;exact this
   refine⟨⟨hyb.1,hyb.2,h1.1⟩,⟨k+1,by omega⟩,by simp only;omega,hkw,?_⟩;rw[htl,Qak (by omega) (by omega)];rfl
  .rw[Zaj e] at htl;simp only[Qhs,<-htl];omega
 .obtain rfl:k=4:=by omega
  have hiw:IntKind.i64.wrap ((i:Int)+1)=((i+1:Nat):Int):=by rw[Qak (by omega) (by omega)];omega
  have e1:S.Temperature=t:=by rw[hS]
  have e2:S.Set=s:=by rw[hS]
  refine⟨fun e=>⟨by omega,⟨i+1,by omega⟩,[(7,some 9)],by simp only;omega,?_⟩,fun e=>⟨⟨i+1,by omega⟩,[(7,some 7)],by simp only;omega,?_⟩⟩
  .simp only[subP];simp(maxSteps:=9^9)(disch:=omega)only[ZZ,simprocAttr,rch,YaK,Zab,Zaa,atU,e1,e2];rw[Zao e];exact⟨hiw,by simp[intC]⟩
  .simp only[subP];simp(maxSteps:=9^9)(disch:=omega)only[ZZ,simprocAttr,rch,YaK,Zab,Zaa,atU,e1,e2];rw[Zaj e,ZaK];exact⟨hiw,rfl⟩
theorem atU_S(s:Qar)(a b:Asm)(f:Qae->Int)(p:Qae): ∀n,atU ⟨s.Set,a,s.Temperature⟩ f p n=atU s f p n
 |0=>rfl
 |n+1=>by simp only[atU,atU_S s a b f p n]
def Qakh(g:Qae->List Int)(l:List Qae)(i:Nat):List Opt:=Qajs g (l.take i)
theorem Qalm{g:Qae->List Int}{l:List Qae}{i:Nat}{p:Qae}(h:l[i]? =some p):Qakh g l (i+1)=Qakh g l i++(g p).map (mkO2 p):=by
 simp only[Qakh,Qajs,Qwe h,ZdG,ZbN,ZdE,ZaK]
theorem Qakc{g:Qae->List Int}{m:Nat}(hg: ∀p,(g p).length<=m): ∀(l:List Qae),(Qajs g l).length<=l.length*m
 |[]=>by simp[Qajs]
 |p::r=>by
  have ih:=Qakc hg r
  have:=hg p
  simp only[Qajs] at ih;simp only[Qajs,ZbN,Zaz,Zbr,ZaE,Zfb];omega
def opsS_.fv(a:Qar×Asm):List Opt:=(Qaj8) (a.1) (a.2)
def opsS_.row:Row:=vK (b2 (qP 4 Qar.d_le) (qP 1 Asm.d_le)) (rS Opt.d_le Opt.c_n) (fun a=>setP a.1.Set/\Qn7 a.1.Set a.2/\a.2.Tiles.length<=500/\a.1.Set.Tiles.length<=1000) opsS_.fv
def opsS_.q:=vKq (R:=opsS_.row) rfl
def YaL:=J @opsS_.fv.eq_1<|J @nearS_.q<|J @nearS_.fv.eq_1<|J @atQ_.q @atQ_.fv.eq_1
theorem opsS_.ok:Qas Tryz.prog 52 opsS_.row:=by
 refine vw (tC nearS_.ok (tC atQ_.ok tN)) Tryz.func52 rfl (by kernel_rfl) ?_;intro a hpre;simp only[Tryz.f52,Option.getD];simp(maxSteps:=9^9)(disch:=omega)only[ZZ,simprocAttr,rch,YaL];obtain⟨s,a⟩:=a;obtain⟨h1,h2,h3,h4⟩:=hpre;simp only at h1 h2 h3 h4⊢;refine⟨⟨h2.1,by omega,s.Set,h2.2⟩,?_⟩;obtain⟨L,hL⟩: ∃L,L=Qajq a a.Tiles.length:=⟨_,rfl⟩;obtain⟨g,hg⟩: ∃g,g=fun p=>atU s (atA a) p s.Set.Tiles.length:=⟨_,rfl⟩
 have hop:Qaj8 s a=Qajs g L:=by rw[hg,hL];rfl
 rw[hop];have hLl:L.length<=2000:=by have:=Qaj2 a a.Tiles.length;rw[hL];omega
 have hgl: ∀p,(g p).length<=1000:=fun p=>by have:=Qakm s (atA a) p s.Set.Tiles.length;rw[hg];simp only;omega
 have hLo: ∀p∈L,Qbi p=true:=fun p hp=>by
  rw[hL,Qajz _ (Zap _)] at hp;exact hp.1.1
 simp only[<-hL];refine Qay.ren ⟨{i:Nat//i<=L.length},fun i=>⟨[(7,.im (.int .i64 i.1)),(6,.im (.sl false 2 (L.map Qae.c))),(5,.own 4),(0,.ptr 0 0),(1,.ptr 1 0)],[(4,(true,.arr 71 3 ((Qakh g L i.1).map Opt.c))),(0,(false,.view (Qar.c s))),(1,(false,.view (Asm.c a)))],5⟩,fun i=>L.length - i.1,fun i=>⟨by simp[Qad.good,belT,belH,Qam,AV.bel,belL],by simp⟩,⟨⟨0,ZaU _⟩,[(4,some 3)],?_⟩,fun i=> ?_⟩
 .simp only[subP];simp(maxSteps:=9^9)(disch:=omega)only[ZZ,simprocAttr,rch,YaL,Zab,Zaa,Qakh,Zbk,Qajs,ZdE,ZaG]
  try simp
 obtain⟨i,hi⟩:=i;simp(maxSteps:=9^9)(disch:=omega)only[ZZ,simprocAttr,rch,YaL,sub,Qal];intro _;refine⟨fun hi2=> ?_,fun hi2=> ?_⟩;rotate_left
 .obtain rfl:i=L.length:=by omega
  rw[Qakh,ZbP]
 have hol:(Qakh g L i).length<=2000*1000:=by
  have:=Qakc hgl (L.take i)
  have h9:(L.take i).length*1000<=2000*1000:=Zbm _ (by simp;omega);simp only[Qakh];omega
 refine⟨hi2,fun p hp=> ?_⟩;have hpo:=hLo p (Zaf hp);refine⟨⟨h1,h2,Qkc hpo,by omega⟩,?_⟩;have hga:atU ⟨s.Set,a,s.Temperature⟩ (atA a) p s.Set.Tiles.length=g p:=by rw[atU_S _ _ a,hg]
 rw[hga];have hgp:=hgl p;refine Qay.ren ⟨{k:Nat//k<=(g p).length},fun k=>⟨[(9,.im (.int .i64 k.1)),(8,.im (.sl false 1 ((g p).map intC))),(7,.im (.int .i64 i)),(6,.im (.sl false 2 (L.map Qae.c))),(5,.own 5),(0,.ptr 0 0),(1,.ptr 1 0)],[(5,(true,.arr 71 3 ((Qakh g L i++((g p).take k.1).map (mkO2 p)).map Opt.c))),(0,(false,.view (Qar.c s))),(1,(false,.view (Asm.c a)))],6⟩,fun k=>(g p).length - k.1,fun k=>⟨by simp[Qad.good,belT,belH,Qam,AV.bel,belL],by simp⟩,⟨⟨0,ZaU _⟩,[(5,some 4)],?_⟩,fun k=> ?_⟩
 .simp only[subP];simp(maxSteps:=9^9)(disch:=omega)only[ZZ,simprocAttr,rch,YaL,Zab,Zaa,Zbk,ZaG,ZaK]
  try simp
 obtain⟨k,hk⟩:=k;simp(maxSteps:=9^9)(disch:=omega)only[ZZ,simprocAttr,rch,YaL,sub,Qal,Qag,Qac,Qaf,allD,D.one,ZaX,Zcl,Zdi,Zaz];intro _;refine⟨fun hk2=>⟨hi2,fun q hq=>⟨hk2,fun x hx=>⟨?_,⟨k+1,by omega⟩,[(5,some 7)],by simp only;omega,?_⟩⟩⟩,fun hk2=>⟨⟨i+1,by omega⟩,[(4,some 5)],by simp only;omega,?_⟩⟩
 .have:((g p).take k).length<=1000:=by simp;omega
  omega
 .obtain rfl:=Zac (hp.symm.trans hq);simp only[subP];simp(maxSteps:=9^9)(disch:=omega)only[ZZ,simprocAttr,rch,YaL,Zab,Zaa];refine⟨by rw[Qak (by omega) (by omega)];rfl,?_⟩;rw[Qwe hx];simp[mkO2,Opt.c,Qae.c]
 .obtain rfl:k=(g p).length:=by omega
  simp only[subP];simp(maxSteps:=9^9)(disch:=omega)only[ZZ,simprocAttr,rch,YaL,Zab,Zaa];refine⟨by rw[Qak (by omega) (by omega)];rfl,?_⟩;rw[Qalm hp,ZbP]
theorem at_uniq{l:List Opt}(hd:(l.map Opt.At).Nodup){q:Qae}{j k:Nat}(h1:l[j]?.map Opt.At=some q)(h2:l[k]?.map Opt.At=some q):j=k:=by
 have a1:=Qane hd h1;have a2:=Qane hd h2;omega
theorem atA_of{a:Asm}(h:Qaz none a.Tiles=true){x:Qab}(hx:x∈a.Tiles):atA a x.At=x.Tile:=by
 simp only[atA];cases hf:a.Tiles.find? (fun y=>decide (y.At=x.At)) with
 |none=>
  have:=ZcR.1 hf x hx
  simp at this
 |some y=>
  have hy:=ZcL hf;have e:y.At=x.At:=by simpa using ZcO hf
  rw[nodup_at (Qix h) y hy x hx e];rfl
theorem Qann{s:Qaa}{f g:Qae->Int}{p:Qae}{t:Int}: ∀(k:Nat),(∀d:Nat,d<k->Quh s f p t d<=Quh s g p t d)->Qhs s f p t k<=Qhs s g p t k
 |0,_=>Zch _
 |k+1,h=>by
  have h1:=Qann k fun d hd=>h d (by omega)
  have h2:=h k (by omega);simp only[Qhs];omega
theorem play_of{s:Qar}: ∀(l:List Opt) (b:Asm) (i:Nat),Qaec s b l->Qacg s b l i=(Qac9 b l,0,0)
 |[],_,_,_=>rfl
 |o::r,b,i,h=>by
  have h0:=h 0 o rfl;simp only[Zbk,Qac9] at h0;simp only[Qacg];rw[Zaj (by rw[h0.1];simp),Zaj (by omega),play_of r _ (i+1) fun k o' hk=>h (k+1) o' hk];rfl
def sdL(a:List Tile)(i:Nat):List Int:=(a[i]?.map Tile.Sides).getD []
def tlK(a:List Tile)(k:Int):Nat->Int
 |0=>k
 |i+1=>tlK a k i+1+(sdL a i).length
def mkLC.pre(a:List Tile×Int):Prop:=a.1.length<=1048576/\0<=a.2/\tlK a.1 a.2 a.1.length<=1099511627776
mutual
theorem Qadz{n:Nat}: ∀x:AV,(∀m∈x.nms,m<n)->x.bel n=true
 | .any,_=>rfl
 | .im _,_=>rfl
 | .agg cs,h=>by simp only[AV.nms] at h;simp only[AV.bel];exact Qada cs h
 | .tup cs,h=>by simp only[AV.nms] at h;simp only[AV.bel];exact Qada cs h
 | .ptr o _,h=>by simp only[AV.bel,ZbW];exact h o (by simp[AV.nms])
 | .eptr o _ _,h=>by simp only[AV.bel,ZbW];exact h o (by simp[AV.nms])
 | .own o,h=>by simp only[AV.bel,ZbW];exact h o (by simp[AV.nms])
 | .mp o,h=>by simp only[AV.bel,ZbW];exact h o (by simp[AV.nms])
 | .ch o,h=>by simp only[AV.bel,ZbW];exact h o (by simp[AV.nms])
 | .it o,h=>by simp only[AV.bel,ZbW];exact h o (by simp[AV.nms])
 | .osl o _ _,h=>by simp only[AV.bel,ZbW];exact h o (by simp[AV.nms])
 | .clo _ a c,h=>by
   simp only[AV.nms,Zan] at h;simp only[AV.bel,Qada a fun m hm=>h m (.inl hm),Qada c fun m hm=>h m (.inr hm),Zee]
theorem Qada{n:Nat}: ∀xs:List AV,(∀m∈nmsL xs,m<n)->belL n xs=true
 |[],_=>rfl
 |x::r,h=>by
  simp only[nmsL,Zan] at h;simp only[belL,Qadz x fun m hm=>h m (.inl hm),Qada r fun m hm=>h m (.inr hm),Zee]
end
theorem Qad4{n:Nat}: ∀H:Qan,(∀p∈H,∀m∈p.2.2.nms,m<n)->belH n H=true
 |[],_=>rfl
 |(i,(mu,e))::r,h=>by
  have h1:=h _ (Zat ..);have ih:=Qad4 r fun p hp=>h p (Zas _ hp)
  cases e with
  |cells T cs=>simp only[belH,ih,ZaX];exact Qada cs (by simpa[AObj.nms] using h1)
  |arrA T k rows=>
   simp only[belH,ih,ZaX,Zbv];refine fun q hq=>Qada q fun m hm=>h1 m ?_
   simp only[AObj.nms];exact Qadc.2 ⟨q,hq,hm⟩
  |_=>simp only[belH,ih]
mutual
theorem nms_ren(σ:Nat->Nat): ∀x:AV,(x.ren σ).nms=x.nms.map σ
 | .any=>rfl
 | .im _=>rfl
 | .agg cs=>by simp only[AV.ren,AV.nms];exact Qadl σ cs
 | .tup cs=>by simp only[AV.ren,AV.nms];exact Qadl σ cs
 | .ptr o _=>rfl
 | .eptr o _ _=>rfl
 | .own o=>rfl
 | .mp o=>rfl
 | .ch o=>rfl
 | .it o=>rfl
 | .osl o _ _=>rfl
 | .clo _ a c=>by simp only[AV.ren,AV.nms,Qadl σ a,Qadl σ c,ZaT]
theorem Qadl(σ:Nat->Nat): ∀xs:List AV,nmsL (renL σ xs)=(nmsL xs).map σ
 |[]=>rfl
 |x::r=>by simp only[renL,nmsL,nms_ren σ x,Qadl σ r,ZaT]
end
theorem Qafh(σ:Nat->Nat)(e:AObj): ∀m∈(e.ren σ).nms,∃j∈e.nms,m=σ j:=by
 intro m hm;cases e with
 |cells T cs=>
  simp only[AObj.ren,AObj.nms,Qadl,ZaJ] at hm⊢;obtain⟨j,hj,rfl⟩:=hm;exact⟨j,hj,rfl⟩
 |arrA T k rows=>
  simp only[AObj.ren,AObj.nms] at hm⊢;obtain⟨r,hr,hm⟩:=Qadc.1 hm;obtain⟨q,hq,rfl⟩:=ZaJ.1 hr;rw[Qadl,ZaJ] at hm;obtain⟨j,hj,rfl⟩:=hm;exact⟨j,Qadc.2 ⟨q,hq,hj⟩,rfl⟩
 |_=>simp[AObj.ren,AObj.nms] at hm
theorem belH_ren{σ:Nat->Nat}{N:Nat}(H:Qan)(h: ∀p∈H,∀m∈p.2.2.nms,σ m<N):belH N (renH σ H)=true:=by
 refine Qad4 _ ?_;induction H with
 |nil=>intro p hp;cases hp
 |cons x r ih=>
  obtain⟨i,mu,e⟩:=x;intro p hp m hm;rcases Zaw.1 hp with rfl|hp
  .obtain⟨j,hj,rfl⟩:=Qafh σ e m hm;exact h _ (Zat ..) j hj
  .exact ih (fun p hp=>h p (Zas _ hp)) p hp m hm
theorem kont_new{go:Qad->Prop}{tm:List (Nat×AV)}{h:Qan}{nx:Nat}{dst:Option Nat}{σ:Nat->Nat}(hσ: ∀j,σ j=nx+j){r0:AV}{H1:Qan}{cnt:Nat}{u kl:List Nat}(hkl:kl=[])
 (hcl: ∀p∈H1,p.1<cnt/\ ∀m∈p.2.2.nms,m<cnt)(hb: ∀m∈r0.nms,m<cnt)
 (hgo: ∀HH:Qan,(∀j e,hget H1 j=some e->hget HH (nx+j)=some (e.1,e.2.ren σ))->(∀m,m<nx->hget HH m=hget h m)->go ((⟨tm,HH,nx+cnt⟩:Qad).put dst (r0.ren σ))):
 kont go ⟨tm,h,nx⟩ dst (r0.ren σ) {use:=u,kill:=kl,new:=renH σ H1,cnt:=cnt}:=by
 subst hkl;refine⟨?_,?_⟩
 .have hb2:(r0.ren σ).bel (nx+cnt)=true:=by
   refine Qadz _ fun m hm=> ?_
   rw[nms_ren,ZaJ] at hm;obtain⟨j,hj,rfl⟩:=hm
   have:=hb j hj
   rw[hσ];omega
  have hbE:belH (nx+cnt) (renH σ H1)=true:=belH_ren _ fun p hp m hm=>by
   have:=(hcl p hp).2 m hm
   rw[hσ];omega
  rw[Eff.ok_nr,hb2,hbE,Zbj,Zbj];refine Qad3 _ _ _ _ fun p hp=> ?_
  have: ∀H:Qan,(∀p∈H,p.1<cnt)-> ∀p∈renH σ H,nx<=p.1/\p.1<nx+cnt:=by
   intro H;induction H with
   |nil=>intro _ p hp;cases hp
   |cons x r ih=>
    obtain⟨i,mu,e⟩:=x;intro hx p hp;have h1:=hx _ (Zat ..);simp only at h1;simp only[renH,Zaw] at hp;rcases hp with rfl|hp
    .simp only;rw[hσ];omega
    .exact ih (fun p h=>hx p (Zas _ h)) p hp
  exact this _ (fun p hp=>(hcl p hp).1) p hp
 rw[Qad.app_nr,Qba];refine hgo _ (fun j e he=> ?_) (fun m hm=> ?_)
 .rw[Qol,<-hσ j,Qafs (fun i j h=>by rw[hσ,hσ] at h;omega),he];rfl
 .rw[Qol];cases hq:hget (renH σ H1) m with
  |some e=>
   obtain⟨j,e0,_,h2,_⟩:=Qzm hq;rw[hσ] at h2;omega
  |none=>rfl
theorem orow.nw{A:Type}{ca:A->List AV}{H0:A->Qan}{pre:A->Prop}{klB:Nat->Bool}{r0:A->AV}{H1:A->Qan}{cnt:Nat}{args:List AV}{tm:List (Nat×AV)}{h:Qan}{nx:Nat}{dst:Option Nat}{go:Qad->Prop}(a:A)(hpre:pre a)(h0:H0 a=[])
 (hx:args=renL (fun j=>nx+j) (ca a))(hcl: ∀p∈H1 a,p.1<cnt/\ ∀m∈p.2.2.nms,m<cnt)(hb: ∀m∈(r0 a).nms,m<cnt)
 (hgo: ∀HH:Qan,(∀j e,hget (H1 a) j=some e->hget HH (nx+j)=some (e.1,e.2.ren fun j=>nx+j))->(∀m,m<nx->hget HH m=hget h m)->go ((⟨tm,HH,nx+cnt⟩:Qad).put dst ((r0 a).ren fun j=>nx+j))):
 orow ca H0 0 pre klB r0 H1 cnt args (hget h) nx (kont go ⟨tm,h,nx⟩ dst):=by
 have e:sgx (osn []) 0 nx=fun j=>nx+j:=funext fun j=>by simp[sgx]
 refine orow.os a [] hpre (fun j=>by rw[h0];simp[domB,hget]) rfl rfl ⟨by rw[e];exact hx,by rw[h0];trivial⟩ ?_;rw[e];exact kont_new (fun _=>rfl) rfl hcl hb hgo
theorem vF.call{A:Type}{ar:List PK->Option A}{pre:A->Prop}{re:A->D}{args:List AV}{tm:List (Nat×AV)}{h:Qan}{nx:Nat}{dst:Option Nat}{go:Qad->Prop}(ps:List PK)(hps:pkFL (hget h) args=some ps)(a:A)(ha:ar ps=some a)(hpre:pre a)
 (hgo:go ((⟨tm,h,nx⟩:Qad).put dst (.im (re a)))):Qfi ar pre re args (hget h) nx (kont go ⟨tm,h,nx⟩ dst):=by
 unfold Qfi;rw[hps];simp only[Qct,ha,decK];refine⟨hpre,?_,?_⟩
 .rw[Eff.ok_nr];simp[AV.bel,belH,Qpx]
 .rw[Qad.app_nr,Qba,Zds];exact hgo
def tsK(a:Qaa×Int):Int:=a.2+2*a.1.Glues.length
def mkTS.pre(a:Qaa×Int):Prop:=0<=a.2/\a.1.Tiles.length<=1048576/\tlK a.1.Tiles (tsK a) a.1.Tiles.length<=1099511627776
def syK(a:Qar×Int):Int:=tlK a.1.Set.Tiles (tsK (a.1.Set,a.2)) a.1.Set.Tiles.length
def mkSy.pre(a:Qar×Int):Prop:=0<=a.2/\a.1.Set.Tiles.length<=1048576/\syK a+3*a.1.Seed.Tiles.length<=1099511627776
def sdSum(a:List Tile):Nat:=(a.map fun x=>x.Sides.length).sum
structure SysB(s:Qar):Prop where
 g:s.Set.Glues.length<=1048576
 t:s.Set.Tiles.length<=1048576
 d:sdSum s.Set.Tiles<=1048576
 p:s.Seed.Tiles.length<=1048576
structure SysAt(h:Nat->Option Ent)(g t p f:Nat)(s:Qar):Prop where
 g:h g=some (true,.arr 128 2 (s.Set.Glues.map Glue.c))
 t:h t=some (true,.arrA 130 2 (tlB f s.Set.Tiles))
 p:h p=some (true,.arr 116 3 (s.Seed.Tiles.map Qab.c))
 f: ∀i,i<s.Set.Tiles.length->h (f+i)=some (tlF s.Set.Tiles i)
theorem vN.call{A:Type}{ar:List PK->Option A}{pre:A->Prop}{re:A->D}{args:List AV}{tm:List (Nat×AV)}{h:Qan}{nx:Nat}{dst:Option Nat}{go:Qad->Prop}(ps:List PK)(hps:pkL (hget h) args=some (ps,[]))(a:A)(ha:ar ps=some a)(hpre:pre a)
 (hgo:go ((⟨tm,h,nx⟩:Qad).put dst (.im (re a)))):vrow ar pre re args (hget h) nx (kont go ⟨tm,h,nx⟩ dst):=by
 unfold vrow;rw[hps];simp only[Qa1,ha,decK,frE];refine⟨hpre,?_,?_⟩
 .rw[Eff.ok_nr];simp[AV.bel,belH,Qpx]
 .rw[Qad.app_nr,Qba,Zds];exact hgo
theorem intR(l:List Int)(k:Int):a2 (kS intD) kI [.val (.sl false 1 (l.map intC)),.val (.int .i64 k)]=some (l,k):=by simp only[a2,kS,kI,Qb4 intD_c,ZbK]
theorem SysAt.mono{h h':Nat->Option Ent}{g t p f:Nat}{s:Qar}(hs:SysAt h g t p f s)(hh: ∀m,(m=g\/m=t\/m=p\/(f<=m/\m<f+s.Set.Tiles.length))->h' m=h m):SysAt h' g t p f s:=
 ⟨by rw[hh g (.inl rfl)];exact hs.g,by rw[hh t (.inr (.inl rfl))];exact hs.t,by rw[hh p (.inr (.inr (.inl rfl)))];exact hs.p,fun i hi=>by rw[hh _ (.inr (.inr (.inr ⟨by omega,by omega⟩)))];exact hs.f i hi⟩
theorem pk2{h:Nat->Option Ent}{x y:AV}{p q:PK}(hx:pkF h x=some p)(hy:pkF h y=some q):pkFL h [x,y]=some [p,q]:=by simp only[pkFL,hx,hy,Qabo]
theorem pkArr{h:Nat->Option Ent}{o T k:Nat}{mu:Bool}{rows:List (List D)}(g:h o=some (mu,.arr T k rows)):pkF h (.own o)=some (.val (.sl false k rows)):=by simp only[pkF,bk,g,Qwz,pkFV,ZaO]
theorem imP_app(π:List (Nat×Option Nat)): ∀a b:Qan,imP π (a++b)=imP π a++imP π b
 |[],_=>rfl
 |(n,_)::r,b=>by simp only[ZaA,imP,imP_app π r b]
theorem Qagg: ∀a b:List (Option Nat),nodS a=true->nodS b=true->(∀m,some m∈a->some m∉b)->nodS (a++b)=true
 |[],_,_,h,_=>h
 |none::r,b,h1,h2,h3=>by
  simp only[ZaA,nodS] at h1⊢;exact Qagg r b h1 h2 fun m hm=>h3 m (Zas _ hm)
 |some x::r,b,h1,h2,h3=>by
  simp only[ZaA,nodS,Zah,ZbZ,Zdz,Zan,Zbb] at h1⊢;refine⟨fun h=> ?_,Qagg r b h1.2 h2 fun m hm=>h3 m (Zas _ hm)⟩;rcases h with h|h
  .exact h1.1 h
  .exact h3 x (Zat ..) h
theorem Qaf7{lo:Nat}{π:List (Nat×Option Nat)}{s:Qad}{tm:List (Nat×AV)}{A:Qan}{b n nx:Nat}{f:Nat->Ent}(g:Nat->Nat)(hge:geP lo π)(hA:nodS (imP π A)=true)(hpm: ∀i,i<n->pm π (b+i)=some (g i))(hg: ∀i j,i<n->j<n->g i=g j->i=j)
 (hd: ∀m,some m∈imP π A-> ∀i,i<n->g i≠m)(hT:Qpt π s tm)(hHA:Qgb π s A)(hE: ∀i,i<n->entN s π (f i).1 (f i).2 (some (g i))):subP lo π s ⟨tm,A++famH b n f,nx⟩:=by
 have e:imP π (famH b n f)=(List.range n).map fun i=>pm π (b+i):=by
  rw[Qi7,Qe0,Zdq];rfl
 refine⟨hge,?_,hT,?_⟩
 .simp only;rw[imP_app,e];refine Qagg _ _ hA (Ql1 _ _ List.nodup_range fun x hx y hy m h1 h2=> ?_) fun m hm h=> ?_
  .have hx:=ZaI.1 hx;have hy:=ZaI.1 hy;rw[hpm x hx] at h1;rw[hpm y hy] at h2;exact hg x y hx hy (Zac (h1.trans h2.symm))
  .obtain⟨i,hi,h⟩:=ZaJ.1 h;have hi:=ZaI.1 hi;rw[hpm i hi] at h;exact hd m hm i hi (Zac h)
 .simp only;rw[Qns];exact⟨hHA,(Qgn _ _ _ _ _).2 fun i hi=>by rw[hpm i hi];exact hE i hi⟩
theorem Qagc{N b n:Nat}{f:Nat->Ent}{tm:List (Nat×AV)}{A:Qan}(ht:belT N tm=true)(hA:belH N A=true)(hk:Qam N A=true)(hf: ∀i,belH N [(b+i,f i)]=true)(h:b+n<=N):Qad.good ⟨tm,A++famH b n f,N⟩=true:=by
 simp only[Qad.good,Qk6,Qmd,ht,hA,hk,Zbj,Zah];exact⟨Qi1 _ _ _ hf _,Qd8 _ _ _ _ h⟩
theorem Qage{b n k:Nat}{f:Nat->Ent}(h:k<b\/b+n<=k):hdel (famH b n f) [k]=famH b n f:=Qadi _ _ _ _ fun x hx=>by rw[Zal] at hx;subst hx;exact h
mutual
theorem fzA_nil(H:Qan): ∀x:AV,x.fzA [] H=x
 | .own n=>rfl
 | .agg cs=>by simp only[AV.fzA,Qagd H cs]
 | .any=>rfl
 | .im d=>rfl
 | .tup cs=>rfl
 | .ptr o p=>rfl
 | .eptr o i p=>rfl
 | .mp o=>rfl
 | .ch o=>rfl
 | .it o=>rfl
 | .osl o a n=>rfl
 | .clo f a c=>rfl
theorem Qagd(H:Qan): ∀xs:List AV,fzAL [] H xs=xs
 |[]=>rfl
 |x::r=>by simp only[fzAL,fzA_nil H x,Qagd H r]
end
theorem Qagw(H:Qan): ∀xs:List (List AV),fzAR [] H xs=xs
 |[]=>rfl
 |x::r=>by simp only[fzAR,Qagd H x,Qagw H r]
theorem Qagj(H:Qan): ∀X:Qan,fzAH [] H X=X
 |[]=>rfl
 |(n,(mu,e))::r=>by
  have:e.fzA [] H=e:=by cases e<;>simp only[AObj.fzA,Qagd,Qagw]
  simp only[fzAH,this,Qagj H r,ZcG,ZcJ,ZaX]
def totI(M:List (List Int)):Nat:=(M.map List.length).sum
def mkSS.pre(a:List (List Int)×Int):Prop:=a.1.length<=1048576/\0<=a.2/\a.2+totI a.1<=1099511627776
structure NnAt(h:Nat->Option Ent)(o b:Nat)(M:List (List Int)):Prop where
 r:h o=some (true,.arrA 37 1 (Qch b M.length))
 f: ∀i,i<M.length->h (b+i)=some (true,.arr 2 1 ((M[i]?.getD []).map intC))
theorem NnAt.mono{h h':Nat->Option Ent}{o b:Nat}{M:List (List Int)}(hs:NnAt h o b M)(hh: ∀m,(m=o\/(b<=m/\m<b+M.length))->h' m=h m):NnAt h' o b M:=
 ⟨by rw[hh o (.inl rfl)];exact hs.r,fun i hi=>by rw[hh _ (.inr ⟨by omega,by omega⟩)];exact hs.f i hi⟩
def nxF(p:Int->Bool):List Int->Int
 |[]=> -1
 |x::r=>if p x=true then x else nxF p r
theorem Qag5(p:Int->Bool): ∀l:List Int,(nxF p l= -1/\ ∀x∈l,p x=false)\/(nxF p l∈l/\p (nxF p l)=true)
 |[]=> .inl ⟨rfl,by simp⟩
 |x::r=>by
  simp only[nxF];by_cases c:p x=true
  .rw[Zao c];exact .inr ⟨Zat ..,c⟩
  .rw[Zaj c];rcases Qag5 p r with ⟨h1,h2⟩|⟨h1,h2⟩
   .exact .inl ⟨h1,fun y hy=>by
     rcases Zaw.1 hy with rfl|hy
     .simpa using c
     .exact h2 y hy⟩
   .exact .inr ⟨Zas _ h1,h2⟩
def isB(lv:List Int)(a:Nat)(k:Int):Bool:=decide ((lv[k.toNat]?).getD 0=(lv[a]?).getD 0 - 1)
def nxC(nd:List (List Int))(lv:List Int)(a:Nat):Int:=nxF (isB lv a) ((nd[a]?).getD [])
theorem nxC_b{nd:List (List Int)}(h:Qag3 nd)(lv:List Int){a:Nat}(ha:a<nd.length): -1<=nxC nd lv a/\nxC nd lv a<(a:Int):=by
 obtain⟨own,ho⟩: ∃own,nd[a]? =some own:=⟨_,Zad ha⟩;simp only[nxC,ho,Zag];rcases Qag5 (isB lv a) own with ⟨h1,_⟩|⟨h1,_⟩
 .omega
 .have:=h.2 a own ho _ h1
  omega
theorem Qag1(nd:List (List Int)): ∀n i,i<n->(levK nd n)[i]? =some (lvT (levK nd i) ((nd[i]?).getD []) ((nd[i]?).getD []).length+1)
 |0,i,h=>by omega
 |n+1,i,h=>by
  simp only[levK];by_cases hi:i<n
  .rw[Zav (by rw[Qadd];exact hi)];exact Qag1 nd n i hi
  .obtain rfl:i=n:=by omega
   rw[ZaC (by rw[Qadd];omega),Qadd];simp
theorem levK_lo(nd:List (List Int)){n i k:Nat}(hk:k<i)(hi:i<=n):(levK nd n)[k]? =(levK nd i)[k]? :=by
 rw[Qag1 nd n k (by omega),Qag1 nd i k hk]
theorem lvT_at(out own:List Int): ∀j,j<=own.length->(∀t,t<j->(out[((own[t]?).getD 0).toNat]?).getD 0<=lvT out own j)/\(lvT out own j=0\/ ∃t,t<j/\(out[((own[t]?).getD 0).toNat]?).getD 0=lvT out own j)
 |0,_=>⟨fun t h=>by omega,.inl rfl⟩
 |j+1,h=>by
  obtain⟨h1,h2⟩:=lvT_at out own j (by omega);simp only[lvT];refine⟨fun t ht=> ?_,?_⟩
  .by_cases c:t=j
   .subst c;omega
   .have:=h1 t (by omega);omega
  .by_cases c:lvT out own j<=(out[((own[j]?).getD 0).toNat]?).getD 0
   .exact .inr ⟨j,by omega,by omega⟩
   .rcases h2 with h2|⟨t,h2,h3⟩
    .exact .inl (by omega)
    .exact .inr ⟨t,by omega,by omega⟩
theorem lev_step{nd:List (List Int)}(h:Qag3 nd){a:Nat}(ha:a<nd.length):(1<((levK nd nd.length)[a]?).getD 0->0<=nxC nd (levK nd nd.length) a)/\(((levK nd nd.length)[a]?).getD 0<=1->nxC nd (levK nd nd.length) a= -1):=by
 obtain⟨own,ho⟩: ∃own,nd[a]? =some own:=⟨_,Zad ha⟩;have hin:=h.2 a own ho;have e:=Qag1 nd nd.length a ha;simp only[ho,Zag] at e;obtain⟨q1,q2⟩:=lvT_at (levK nd a) own own.length (Zap _);have ev: ∀t,t<own.length-> ∃x,own[t]? =some x/\0<=x/\x<(a:Int)/\((levK nd nd.length)[x.toNat]?).getD 0=((levK nd a)[x.toNat]?).getD 0:=fun t ht=>by
  have hx:own[t]? =some own[t]:=Zad ht
  have:=hin _ (Zaf hx)
  exact⟨_,hx,this.1,this.2,by rw[levK_lo nd (show own[t].toNat<a by omega) (by omega)]⟩
 simp only[nxC,ho,Zag,e];rcases Qag5 (isB (levK nd nd.length) a) own with ⟨h1,h2⟩|⟨h1,h2⟩
 .refine⟨fun c=> ?_,fun _=>h1⟩;exfalso;rcases q2 with q2|⟨t,ht,q2⟩
  .omega
  .obtain⟨x,hx,hx0,hxa,hxe⟩:=ev t ht
   have:=h2 x (Zaf hx)
   simp only[isB,e,Zag,Zbb] at this;rw[hx,Zag] at q2;apply this;rw[hxe,q2];omega
 .have hn:=hin _ h1;refine⟨fun _=>hn.1,fun c=> ?_⟩;exfalso;simp only[isB,e,Zag,Zar] at h2;have hb:=Qafw nd a;have e2:=Qag1 nd a (nxF (isB (levK nd nd.length) a) own).toNat (by omega);rw[levK_lo nd (show (nxF (isB (levK nd nd.length) a) own).toNat<a by omega) (by omega),e2,Zag] at h2
  have:=Qaig (out:=levK nd (nxF (isB (levK nd nd.length) a) own).toNat) (own:=(nd[(nxF (isB (levK nd nd.length) a) own).toNat]?).getD []) (Qafw nd _) (by omega) ((nd[(nxF (isB (levK nd nd.length) a) own).toNat]?).getD []).length
  omega
def idxS_.fv(a:(List Int)×Int):Int:=(fun l x=>Qaw (fun y=>decide (x=y)) 0 l) (a.1) (a.2)
def idxS_.row:Row:=vKF (b2 (qS Qb3 Qant) qI) rI (fun a=>True) idxS_.fv
def idxS_.q:=vKFq (R:=idxS_.row) rfl
theorem idxS_.ok:Qas Tryz.prog 70 idxS_.row:=by
 refine vwF tN Tryz.func70 rfl (by kernel_rfl) ?_;intro a hpre;simp only[Tryz.f70,Option.getD];simp(maxSteps:=9^9)(disch:=omega)only[ZZ,simprocAttr,rch,idxS_.fv,ORC,D.sc,D.scs,scL,decD];intro hn;refine Qay.old ⟨{k:Nat//k<=a.1.length/\Qaw (fun y=>decide (a.2=y)) k (a.1.drop k)=Qaw (fun y=>decide (a.2=y)) 0 a.1},fun k=>⟨[(8,.im (.int .i64 k.1)),(7,.im (.int .i64 a.1.length)),(4,.im (.int .i64 0)),(0,.im (.sl false 1 (a.1.map intC))),(1,.im (.int .i64 a.2))],[],0⟩,fun k=>a.1.length - k.1,fun k=>⟨by simp[Qad.good,belT,belH,Qam,AV.bel,belL],Zap _⟩,⟨⟨0,by simp⟩,by simp(maxSteps:=9^9)(disch:=omega)only[ZZ,simprocAttr,rch,idxS_.fv,ORC,D.sc,D.scs,scL,decD,sub]⟩,fun k=> ?_⟩;obtain⟨k,hk1,hk2⟩:=k;simp(maxSteps:=9^9)(disch:=omega)only[ZZ,simprocAttr,rch,idxS_.fv,ORC,D.sc,D.scs,scL,decD,sub,Qal];refine⟨fun hk=>⟨hk,fun x hx=> ?_⟩,fun hk=> ?_⟩
 .rw[Qd3 hx,Qaw] at hk2;refine⟨fun h=> ?_,fun h=>Qb6 hk hn ⟨by omega,by rw[<-hk2,Zaj (by simpa using h)]⟩⟩;rw[Zao (by simpa using h)] at hk2;exact hk2
 .rw[Zax (by omega),Qaw] at hk2;exact hk2
def Qahr(x:List Opt):List D:=[.sl false 3 (x.map Opt.c)]
theorem soptC_n(x:List Opt):(Qahr x).length=1:=rfl
def soptD:List D->Option (List Opt)
 |[.sl _ _ rows]=>decR Opt.d rows
 |_=>none
theorem soptD_le: ∀ds x,soptD ds=some x->LeS ds (Qahr x):=by
 intro ds x h;unfold soptD at h;split at h
 .exact⟨Qbf (Qa2 Opt.d_le _ _ h) (by simp[Opt.c]),trivial⟩
 .cases h
theorem soptD_c(x:List Opt):soptD (Qahr x)=some x:=Opt.d_R x
theorem soptD_R(l:List (List Opt)):decR soptD (l.map Qahr)=some l:=Qb4 soptD_c l
def optZ:Opt:=⟨⟨0,0⟩,0⟩
def filt(l:List Opt)(lv:List Int)(q:Int):Nat->List Opt
 |0=>[]
 |i+1=>filt l lv q i++if (lv[i]?).getD 0=q then [(l[i]?).getD optZ] else []
def mxL(lv:List Int):Nat->Int
 |0=>0
 |i+1=>max (mxL lv i) ((lv[i]?).getD 0)
def imN(l:List Opt)(lv:List Int)(i:Nat):List (List Opt):=(List.range (mxL lv i).toNat).map fun (q:Nat)=>filt l lv ((q:Int)+1) i
theorem mxL_b(lv:List Int): ∀i,0<=mxL lv i
 |0=>Zch _
 |i+1=>by have:=mxL_b lv i;simp only[mxL];omega
theorem Qah4(lv:List Int): ∀i,(∀j,j<i->(lv[j]?).getD 0<=mxL lv i)/\(mxL lv i=0\/ ∃j,j<i/\(lv[j]?).getD 0=mxL lv i)
 |0=>⟨fun j h=>by omega,.inl rfl⟩
 |i+1=>by
  obtain⟨h1,h2⟩:=Qah4 lv i;simp only[mxL];refine⟨fun j hj=> ?_,?_⟩
  .by_cases c:j=i
   .subst c;omega
   .have:=h1 j (by omega);omega
  .by_cases c:mxL lv i<=(lv[i]?).getD 0
   .exact .inr ⟨i,by omega,by omega⟩
   .rcases h2 with h2|⟨j,h2,h3⟩
    .exact .inl (by omega)
    .exact .inr ⟨j,by omega,by omega⟩
theorem filt_ne{l:List Opt}{lv:List Int}{q:Int}: ∀n j,j<n->(lv[j]?).getD 0=q->filt l lv q n≠[]
 |0,j,h,_=>by omega
 |n+1,j,h,hq=>by
  simp only[filt];by_cases c:j=n
  .subst c;rw[Zao hq];simp
  .have:=filt_ne (l:=l) n j (by omega) hq
   intro h2;exact this (ZeQ.1 h2).1
theorem Qah3{l:List Opt}{lv:List Int}{q:Int}: ∀n,(∀j,j<n->(lv[j]?).getD 0≠q)->filt l lv q n=[]
 |0,_=>rfl
 |n+1,h=>by
  simp only[filt];rw[Qah3 n fun j hj=>h j (by omega),Zaj (h n (by omega))];rfl
theorem Qahy(l:List Opt)(lv:List Int)(q:Int): ∀n,(filt l lv q n).length<=n
 |0=>by simp[filt]
 |n+1=>by
  have:=Qahy l lv q n
  simp only[filt,Zaz]
  split<;>simp<;>omega
theorem Qaia{nd:List (List Int)}(h:Qag3 nd): ∀(n i:Nat),i<n->i<nd.length-> ∀q:Int,1<=q->q<=((levK nd nd.length)[i]?).getD 0-> ∃j,j<=i/\((levK nd nd.length)[j]?).getD 0=q
 |0,i,hi,_,_,_,_=>by omega
 |n+1,i,hi,hil,q,h1,h2=>by
  by_cases c:((levK nd nd.length)[i]?).getD 0=q
  .exact⟨i,Zap _,c⟩
  .have hs:=(lev_step h hil).1 (by omega);have hb:=nxC_b h (levK nd nd.length) hil;obtain⟨own,ho⟩: ∃own,nd[i]? =some own:=⟨_,Zad hil⟩;have hp:isB (levK nd nd.length) i (nxC nd (levK nd nd.length) i)=true:=by
    simp only[nxC,ho,Zag] at hs⊢;rcases Qag5 (isB (levK nd nd.length) i) own with ⟨e,_⟩|⟨_,e⟩
    .omega
    .exact e
   simp only[isB,Zar] at hp;obtain⟨j,hj,hq⟩:=Qaia h n (nxC nd (levK nd nd.length) i).toNat (by omega) (by omega) q h1 (by omega);exact⟨j,by omega,hq⟩
theorem Qah6{nd:List (List Int)}(h:Qag3 nd){l:List Opt}(hl:l.length=nd.length):mxL (levK nd nd.length) l.length<=nd.length/\(∀q:Nat,q<(mxL (levK nd nd.length) l.length).toNat->filt l (levK nd nd.length) ((q:Int)+1) l.length≠[])/\
 filt l (levK nd nd.length) (((mxL (levK nd nd.length) l.length).toNat:Int)+1) l.length=[]:=by
 obtain⟨h1,h2⟩:=Qah4 (levK nd nd.length) l.length;have hb:=mxL_b (levK nd nd.length) l.length;refine⟨?_,fun q hq=> ?_,Qah3 _ fun j hj=> ?_⟩
 .rcases h2 with h2|⟨j,hj,h2⟩
  .omega
  .rw[<-h2];have hjl:j<(levK nd nd.length).length:=by rw[Qadd];omega
   have hx:(levK nd nd.length)[j]? =some (levK nd nd.length)[j]:=Zad hjl
   have:=Qafw nd nd.length _ (Zaf hx)
   rw[hx,Zag];omega
 .rcases h2 with h2|⟨j,hj,h2⟩
  .omega
  .obtain⟨i,hi,he⟩:=Qaia h (j+1) j (by omega) (by omega) ((q:Int)+1) (by omega) (by omega);exact filt_ne _ i (by omega) he
 .have:=h1 j hj
  omega
def Qahs(s:Qar)(l:List Opt):List (List Opt)×Int:=if (seqS s l).2.2≠0 then ([],(seqS s l).2.2) else (imN l (levK (Qadm s l) l.length) l.length,0)
def layS_.fv(a:Qar×(List Opt)):(List (List Opt))×Int:=(Qahs) (a.1) (a.2)
def layS_.row:Row:=vK (b2 (qR Qar.d_le) (qS Opt.d_le Opt.c_n)) (r2 (rS soptD_le soptC_n) rI) (fun a=>True) layS_.fv
def layS_.q:=vKq (R:=layS_.row) rfl
def YaM:=J @layS_.fv.eq_1<|J @l10Asked.q<|J @l10Asked.fv.eq_1<|J @l12Needs.q<|J @l12Needs.fv.eq_1<|J @l12Levels.q @l12Levels.fv.eq_1
theorem layS_.ok:Qas Tryz.prog 9 layS_.row:=by
 refine vw (tC l10Asked.ok (tC l12Needs.ok (tC l12Levels.ok tN))) Tryz.func9 rfl (by kernel_rfl) ?_;intro a hpre;simp only[Tryz.f9,Option.getD];simp(maxSteps:=9^9)(disch:=omega)only[ZZ,simprocAttr,rch,YaM];obtain⟨s,l⟩:=a;simp only at hpre⊢;by_cases c0:(seqS s l).2.2=0
 case neg=>
  rw[Zao c0];simp only[Qahs];rw[Zao c0]
 rw[Zaj (fun h=>h c0)];obtain⟨_,hp,_⟩:=Qafm c0;have hlen:(Qadm s l).length=l.length:=Qadb ..;have hno:=Qaeu (s:=s) hp.2.2.2.2.2;refine⟨hp,hno,?_⟩;have eR:Qahs s l=(imN l (levK (Qadm s l) (Qadm s l).length) l.length,0):=by
  simp only[Qahs];rw[Zaj (fun h=>h c0),hlen]
 rw[eR];obtain⟨b1,b2,b3⟩:=Qah6 hno hlen.symm;obtain⟨lv,hlv⟩: ∃lv,lv=levK (Qadm s l) (Qadm s l).length:=⟨_,rfl⟩;have hll:lv.length=l.length:=by rw[hlv,Qadd,hlen]
 have hl5:=hp.2.2.2.2.2;rw[<-hlv] at b1 b2 b3;simp only[<-hlv];obtain⟨m,hm⟩: ∃m,m=(mxL lv l.length).toNat:=⟨_,rfl⟩;rw[<-hm] at b2 b3;have hmb:m<=500:=by omega
 have hR:imN l lv l.length=(List.range m).map fun (t:Nat)=>filt l lv ((t:Int)+1) l.length:=by rw[hm];rfl
 rw[hR];refine Qay.frr ⟨{a:Nat//a<=m},fun a=>⟨[(9,.im (.int .i64 ((a.1:Int)+1))),(8,.own 3),(7,.im (.sl false 1 (lv.map intC))),(1,.im (.sl false 3 (l.map Opt.c)))],[(3,(true,.arrA 34 1 (imR (((List.range a.1).map fun (t:Nat)=>filt l lv ((t:Int)+1) l.length).map Qahr))))],4⟩,fun a=>m - a.1,fun a=>⟨by simp[Qad.good,belT,belH,Qam,AV.bel,belL,Qxu],by simp⟩,⟨⟨0,by omega⟩,[],[(3,some 2)],?_⟩,fun a=> ?_⟩
 .simp only[subP];simp(maxSteps:=9^9)(disch:=omega)only[ZZ,simprocAttr,rch,YaM,Zab,Zaa,ZdN,ZaG,Qafa]
  try simp
 obtain⟨a,ha⟩:=a;simp(maxSteps:=9^9)(disch:=omega)only[ZZ,simprocAttr,rch,YaM,sub,Qal];refine Qay.ren ⟨{j:Nat//j<=l.length},fun j=>⟨[(11,.im (.int .i64 j.1)),(10,.own 6),(9,.im (.int .i64 ((a:Int)+1))),(8,.own 3),(7,.im (.sl false 1 (lv.map intC))),(1,.im (.sl false 3 (l.map Opt.c)))],[(6,(true,.arr 71 3 ((filt l lv ((a:Int)+1) j.1).map Opt.c))),(3,(true,.arrA 34 1 (imR (((List.range a).map fun (t:Nat)=>filt l lv ((t:Int)+1) l.length).map Qahr))))],7⟩,fun j=>l.length - j.1,fun j=>⟨by simp[Qad.good,belT,belH,Qam,AV.bel,belL,Qxu],by simp⟩,⟨⟨0,by simp⟩,[(6,some 4)],?_⟩,fun j=> ?_⟩
 .simp only[subP];simp(maxSteps:=9^9)(disch:=omega)only[ZZ,simprocAttr,rch,YaM,Zab,Zaa,filt,ZaG,Qsg]
  try simp
 obtain⟨j,hj1⟩:=j;have hfl:=Qahy l lv ((a:Int)+1) j;simp(maxSteps:=9^9)(disch:=omega)only[ZZ,simprocAttr,rch,YaM,sub,Qal];intro _;refine⟨fun hj=>⟨by omega,fun x hx=>⟨fun c1=>⟨hj,fun o ho=>⟨by simp[OneR,allD,D.one],by omega,⟨j+1,by omega⟩,[(6,some 8)],by simp only;omega,?_⟩⟩,fun c1=>⟨⟨j+1,by omega⟩,[(6,some 6)],by simp only;omega,?_⟩⟩⟩,fun hj=> ?_⟩
 .simp only[subP];simp(maxSteps:=9^9)(disch:=omega)only[ZZ,simprocAttr,rch,YaM,Zab,Zaa,Qsg];refine⟨by rw[Qak (by omega) (by omega)];omega,?_⟩;simp only[filt,hx,ho,Zag,Zao c1,ZaT,Zaq,ZaG,Opt.c]
  try simp
 .simp only[subP];simp(maxSteps:=9^9)(disch:=omega)only[ZZ,simprocAttr,rch,YaM,Zab,Zaa,Qsg];refine⟨by rw[Qak (by omega) (by omega)];omega,?_⟩;simp only[filt,hx,Zag,Zaj c1,ZaK]
  try simp
 .have hjl:j=l.length:=by omega
  subst hjl;intro _;obtain⟨Z,hZ⟩: ∃Z,Z=(List.range a).map fun (t:Nat)=>filt l lv ((t:Int)+1) l.length:=⟨_,rfl⟩
  have hZl:Z.length=a:=by rw[hZ];simp
  rw[<-hZ];refine⟨fun c1=> ?_,fun c1=> ?_⟩
  .have ham:a=m:=by
    by_cases h:a<m
    .have:=b2 a h
     have h0:(filt l lv ((a:Int)+1) l.length).length=0:=by omega
     exact absurd (ZbS.1 h0) this
    .omega
   subst ham;rw[<-hZ];simp(maxSteps:=9^9)(disch:=omega)only[ZZ,simprocAttr,rch,YaM,Qae4,soptD_R]
   try trivial
  .have ham:a<m:=by
    by_cases h:a=m
    .subst h;rw[b3] at c1;simp at c1
    .omega
   refine⟨by simp[belL,AV.bel],by simp[OneR,Qhz,AV.one],by rw[Zcs];omega,by rw[ZbY,Qaeq];simp[belL,AV.bel],⟨a+1,by omega⟩,[6],[(3,some 8)],by simp only;omega,?_⟩;have e1:((List.range (a+1)).map fun (t:Nat)=>filt l lv ((t:Int)+1) l.length)=Z++[filt l lv ((a:Int)+1) l.length]:=by rw[Zen,ZaT,<-hZ];rfl
   simp only[subP];simp(maxSteps:=9^9)(disch:=omega)only[ZZ,simprocAttr,rch,YaM,Zab,Zaa,Qzl,Qzb,e1,ZaT,Zaq,ZaG];rw[Qak (by omega) (by omega)];refine⟨by omega,?_⟩
   have:=Qzo [(3,some 8)] (Z.map Qahr++[[D.sl false 3 ((filt l lv ((a:Int)+1) l.length).map Opt.c)]])
   simp only[imR,ZaT,Zaq,ZaG] at this;exact this
def putN:List Int->Int->List Int
 |[],n=>[n]
 |x::r,n=>if n<=x then (if n<x then n::x::r else x::r) else x::putN r n
def rowI(nd:List (List Int))(x:Int):List Int:=(nd[x.toNat]?).getD []
def anK(nd:List (List Int)):Nat->List Int->List Int
 |0,out=>out
 |i+1,out=>anK nd i (if (i:Int)∈out then (rowI nd i).foldl putN out else out)
def adN(o:List Int)(n:Int):List Int:=if n∈o then o else o++[n]
def wlN(nd:List (List Int)):Nat->Nat->List Int->List Int
 |0,_,out=>out
 |f+1,i,out=>if i<out.length then wlN nd f (i+1) ((rowI nd ((out[i]?).getD 0)).foldl adN out) else out
theorem Qahg{n x:Int}: ∀l:List Int,x∈putN l n↔x=n\/x∈l
 |[]=>by simp[putN]
 |y::r=>by
  simp only[putN];have ih:=Qahg (n:=n) (x:=x) r;split
  .split
   .simp
   .have:n=y:=by omega
    subst this;simp
  .simp only[Zaw,ih];constructor
   .rintro (h|h|h)
    .exact .inr (.inl h)
    .exact .inl h
    .exact .inr (.inr h)
   .rintro (h|h|h)
    .exact .inr (.inl h)
    .exact .inl h
    .exact .inr (.inr h)
theorem putN_pw{n:Int}: ∀l:List Int,l.Pairwise (· < ·)->(putN l n).Pairwise (· < ·)
 |[],_=>by simp[putN]
 |y::r,h=>by
  rw[ZbH] at h;simp only[putN];split
  .split
   .rw[ZbH,ZbH];refine⟨fun z hz=> ?_,h⟩;rcases Zaw.1 hz with rfl|hz
    .assumption
    .have:=h.1 z hz;omega
   .rw[ZbH];exact h
  .rw[ZbH];refine⟨fun z hz=> ?_,putN_pw r h.2⟩;rcases (Qahg r).1 hz with rfl|hz
   .omega
   .exact h.1 z hz
theorem Qahl{x:Int}: ∀(own out:List Int),x∈own.foldl putN out↔x∈own\/x∈out
 |[],out=>by simp
 |y::r,out=>by
  rw[Zco,Qahl r,Qahg,Zaw];constructor
  .rintro (h|h|h)
   .exact .inl (.inr h)
   .exact .inl (.inl h)
   .exact .inr h
  .rintro ((h|h)|h)
   .exact .inr (.inl h)
   .exact .inl h
   .exact .inr (.inr h)
theorem Qaho: ∀(own out:List Int),out.Pairwise (· < ·)->(own.foldl putN out).Pairwise (· < ·)
 |[],out,h=>h
 |y::r,out,h=>Qaho r _ (putN_pw out h)
theorem Qahc{x:Int}: ∀(own out:List Int),x∈own.foldl adN out↔x∈own\/x∈out
 |[],out=>by simp
 |y::r,out=>by
  rw[Zco,Qahc r,Zaw]
  have:x∈adN out y↔x=y\/x∈out:=by
   simp only[adN];split
   .rename_i c;constructor
    .exact .inr
    .rintro (rfl|h)
     .exact c
     .exact h
   .simp only[Zan,Zal];exact⟨fun h=>h.symm,fun h=>h.symm⟩
  rw[this];constructor
  .rintro (h|h|h)
   .exact .inl (.inr h)
   .exact .inl (.inl h)
   .exact .inr h
  .rintro ((h|h)|h)
   .exact .inr (.inl h)
   .exact .inl h
   .exact .inr (.inr h)
theorem Qag8: ∀(own out:List Int),out.Nodup->(own.foldl adN out).Nodup
 |[],out,h=>h
 |y::r,out,h=>by
  rw[Zco];refine Qag8 r _ ?_;simp only[adN];split
  .exact h
  .rename_i c;rw[ZbV];exact⟨h,by simp,fun a ha b hb=>by rw[Zal] at hb;subst hb;exact fun e=>c (e▸ha)⟩
theorem Qahi: ∀(own out:List Int),∃r,own.foldl adN out=out++r
 |[],out=>⟨[],by simp⟩
 |y::r,out=>by
  rw[Zco];obtain⟨q,hq⟩:=Qahi r (adN out y);rw[hq];simp only[adN];split
  .exact⟨q,rfl⟩
  .exact⟨[y]++q,by rw[ZbA]⟩
def rchN(nd:List (List Int))(k x:Int):Prop:= ∀S:Int->Prop,(∀y∈rowI nd k,S y)->(∀y,S y-> ∀z∈rowI nd y,S z)->S x
structure Qaha(nd:List (List Int))(k:Int)(out:List Int):Prop where
 base: ∀x∈rowI nd k,x∈out
 sub: ∀x∈out,rchN nd k x
 lt: ∀x∈out,0<=x/\x<k
theorem Qahb{nd:List (List Int)}{k x:Int}(h:x∈rowI nd k):rchN nd k x:=fun _ h1 _=>h1 x h
theorem rchN_step{nd:List (List Int)}{k x y:Int}(h:rchN nd k y)(hx:x∈rowI nd y):rchN nd k x:=fun S h1 h2=>h2 y (h S h1 h2) x hx
theorem Qag9{nd:List (List Int)}(h:Qag3 nd){k x:Int}(hk:0<=k)(hx:x∈rowI nd k):0<=x/\x<k:=by
 simp only[rowI] at hx;cases hq:nd[k.toNat]? with
 |none=>rw[hq] at hx;cases hx
 |some own=>
  rw[hq,Zag] at hx
  have:=h.2 _ own hq x hx
  omega
theorem Qaha.grow{nd:List (List Int)}(hn:Qag3 nd){k:Int}{out out':List Int}(h:Qaha nd k out){y:Int}(hy:y∈out)(hm: ∀x,x∈out'↔x∈rowI nd y\/x∈out):Qaha nd k out':=by
 have hy2:=h.lt y hy;refine⟨fun x hx=>(hm x).2 (.inr (h.base x hx)),fun x hx=> ?_,fun x hx=> ?_⟩
 .rcases (hm x).1 hx with hx|hx
  .exact rchN_step (h.sub y hy) hx
  .exact h.sub x hx
 .rcases (hm x).1 hx with hx|hx
  .have:=Qag9 hn hy2.1 hx;omega
  .exact h.lt x hx
theorem Qahn{nd:List (List Int)}(hn:Qag3 nd){k:Int}: ∀(i:Nat) (out:List Int),Qaha nd k out->out.Pairwise (· < ·)->(∀x∈out,(i:Int)<=x-> ∀y∈rowI nd x,y∈out)->
 Qaha nd k (anK nd i out)/\(anK nd i out).Pairwise (· < ·)/\ ∀x∈anK nd i out,∀y∈rowI nd x,y∈anK nd i out
 |0,out,h,hp,hc=>⟨h,hp,fun x hx=>hc x hx (by have:=(h.lt x hx).1;simpa using this)⟩
 |i+1,out,h,hp,hc=>by
  simp only[anK];by_cases c:(i:Int)∈out
  .rw[Zao c];have hm:=fun x=>Qahl (x:=x) (rowI nd i) out
   refine Qahn hn i _ (h.grow hn c hm) (Qaho _ _ hp) fun x hx hi y hy=> ?_
   by_cases e:x=i
   .subst e;exact (hm y).2 (.inl hy)
   .rcases (hm x).1 hx with hx|hx
    .have:=Qag9 hn (by omega) hx;omega
    .exact (hm y).2 (.inr (hc x hx (by omega) y hy))
  .rw[Zaj c];refine Qahn hn i out h hp fun x hx hi y hy=>hc x hx ?_ y hy
   have:x≠i:=fun e=>c (e▸hx)
   omega
theorem Qahf: ∀(l:List Int) (a k:Int),l.Pairwise (· < ·)->(∀x∈l,a<=x/\x<k)->l.length<=(k - a).toNat
 |[],_,_,_,_=>ZaU _
 |x::r,a,k,h,hl=>by
  rw[ZbH] at h;have h1:=hl x (Zat ..);have ih:=Qahf r (x+1) k h.2 fun y hy=>by
   have:=h.1 y hy
   have:=hl y (Zas _ hy)
   omega
  simp only[ZaE];omega
theorem Qary{l l':List Int}(hp:l.Perm l')(hs:l'.Pairwise (fun x y=>x<=y)):sortI l=l':=
 ZdI (le:=fun x y=>x<=y) (fun a b _ _ h1 h2=>by omega) (Qahe l) hs ((Qacq l).trans hp)
theorem Qahh{k:Int}(hk:0<=k){l:List Int}(h:l.Nodup)(hl: ∀x∈l,0<=x/\x<k):l.length<=k.toNat:=by
 have h1:(sortI l).Pairwise (· < ·):=by
  have hn:(sortI l).Nodup:=(Qacq l).nodup_iff.2 h;exact (Qahe l).imp₂ (fun a b h1 h2=>by omega) (Zbo.1 hn)
 have:=Qahf (sortI l) 0 k h1 fun x hx=>hl x ((Qacq l).mem_iff.1 hx)
 rw[Qaci] at this;omega
theorem wlN_ok{nd:List (List Int)}(hn:Qag3 nd){k:Int}(hk:0<=k): ∀(f i:Nat) (out:List Int),Qaha nd k out->out.Nodup->(∀(t:Nat) (x:Int),t<i->out[t]? =some x-> ∀y∈rowI nd x,y∈out)->k.toNat<=f+i->
 Qaha nd k (wlN nd f i out)/\(wlN nd f i out).Nodup/\ ∀x∈wlN nd f i out,∀y∈rowI nd x,y∈wlN nd f i out
 |0,i,out,h,hd,hc,hf=>by
  refine⟨h,hd,fun x hx y hy=> ?_⟩;obtain⟨t,ht⟩:=ZaP.1 hx;have h1:=Qahh hk hd h.lt;have h2:t<out.length:=(Zai.1 ht).1;exact hc t x (by omega) ht y hy
 |f+1,i,out,h,hd,hc,hf=>by
  simp only[wlN];by_cases c:i<out.length
  .rw[Zao c];have hx:out[i]? =some out[i]:=Zad c;rw[hx,Zag];have hm:=fun x=>Qahc (x:=x) (rowI nd out[i]) out
   obtain⟨r,hr⟩:=Qahi (rowI nd out[i]) out;refine wlN_ok hn hk f (i+1) _ (h.grow hn (Zcf c) hm) (Qag8 _ _ hd) (fun t x ht hx2 y hy=> ?_) (by omega);rw[hr,Zav (by omega)] at hx2;by_cases e:t=i
   .subst e;rw[Zad c] at hx2;have hx3:=Zac hx2;rw[<-hx3] at hy;exact (hm y).2 (.inl hy)
   .exact (hm y).2 (.inr (hc t x (by omega) hx2 y hy))
  .rw[Zaj c];refine⟨h,hd,fun x hx y hy=> ?_⟩;obtain⟨t,ht⟩:=ZaP.1 hx
   have:=(Zai.1 ht).1
   exact hc t x (by omega) ht y hy
theorem anc_law{nd:List (List Int)}(hn:Qag3 nd)(hp: ∀own∈nd,own.Pairwise (· < ·)){k:Int}(hk:0<=k)(f:Nat)(hf:k.toNat<=f):sortI (wlN nd f 0 (rowI nd k))=anK nd k.toNat (rowI nd k):=by
 have hrow:(rowI nd k).Pairwise (· < ·):=by
  simp only[rowI];cases hq:nd[k.toNat]? with
  |none=>simp
  |some own=>exact hp own (Zaf hq)
 have h0:Qaha nd k (rowI nd k):=⟨fun _ h=>h,fun _ h=>Qahb h,fun _ h=>Qag9 hn hk h⟩;obtain⟨a1,a2,a3⟩:=Qahn hn k.toNat (rowI nd k) h0 hrow fun x hx hi=>by have:=(h0.lt x hx).2;omega
 obtain⟨b1,b2,b3⟩:=wlN_ok hn hk f 0 (rowI nd k) h0 (Zbo.2 (hrow.imp fun h=>by omega)) (fun t x ht=>by omega) (by omega);have hmem: ∀x,x∈wlN nd f 0 (rowI nd k)↔x∈anK nd k.toNat (rowI nd k):=fun x=>
  ⟨fun h=>b1.sub x h (fun y=>y∈anK nd k.toNat (rowI nd k)) a1.base (fun y hy z hz=>a3 y hy z hz),fun h=>a1.sub x h (fun y=>y∈wlN nd f 0 (rowI nd k)) b1.base (fun y hy z hz=>b3 y hy z hz)⟩
 have an:(anK nd k.toNat (rowI nd k)).Nodup:=Zbo.2 (a2.imp fun h=>by omega);have hperm:(wlN nd f 0 (rowI nd k)).Perm (anK nd k.toNat (rowI nd k)):=(Zdb b2 an).2 hmem;exact Qary hperm (a2.imp fun h=>by omega)
theorem Qahp(n:Int): ∀l:List Int,(putN l n).length<=l.length+1
 |[]=>by simp[putN]
 |x::r=>by
  have:=Qahp n r
  simp only[putN];split
  .split<;>simp
  .simp only[ZaE];omega
theorem Qahk: ∀(own out:List Int),(own.foldl putN out).length<=out.length+own.length
 |[],out=>by simp
 |y::r,out=>by
  have h1:=Qahk r (putN out y);have h2:=Qahp y out;simp only[Zco,ZaE];omega
def anSp(s:Qar)(l:List Opt)(k:Int):List Int×Int:=if (seqS s l).2.2≠0 then ([],(seqS s l).2.2) else if Qau k 0 ((l.length:Int) - 1)=true then (anK (Qadm s l) k.toNat (rowI (Qadm s l) k),0) else ([],2)
def putN_.fv(a:(List Int)×Int):List Int:=(putN) (a.1) (a.2)
def putN_.row:Row:=vK (b2 (qS Qb3 Qant) qI) (rS Qb3 Qant) (fun a=>a.1.length<=1000000) putN_.fv
def putN_.q:=vKq (R:=putN_.row) rfl
theorem putN_.ok:Qas Tryz.prog 42 putN_.row:=by
 refine vw tN Tryz.func42 rfl (by kernel_rfl) ?_;intro a hpre;simp only[Tryz.f42,Option.getD];simp(maxSteps:=9^9)(disch:=omega)only[ZZ,simprocAttr,rch,putN_.fv];obtain⟨l,n⟩:=a;simp only at hpre⊢;refine Qay.ren ⟨{x:Nat×Bool×List Int//x.1<=l.length/\(x.2.2.length<=x.1+1/\(x.2.1=false->x.2.2.length<=x.1))/\(if x.2.1=true then x.2.2++l.drop x.1=putN l n else x.2.2++putN (l.drop x.1) n=putN l n)},fun x=>⟨[(7,.im (.int .i64 x.1.1)),(6,.im (.bool x.1.2.1)),(5,.own 2),(0,.im (.sl false 1 (l.map intC))),(1,.im (.int .i64 n))],[(2,(true,.arr 2 1 (x.1.2.2.map intC)))],3⟩,fun x=>l.length - x.1.1,fun x=>⟨by simp[Qad.good,belT,belH,Qam,AV.bel,belL],by simp⟩,⟨⟨(0,false,[]),by simp⟩,[(2,some 1)],?_⟩,fun x=> ?_⟩
 .simp only[subP];simp(maxSteps:=9^9)(disch:=omega)only[ZZ,simprocAttr,rch,putN_.fv,Zab,Zaa,ZaG]
  try simp
 obtain⟨⟨i,dn,out⟩,p1,⟨p2,p4⟩,p3⟩:=x;simp only at p1 p2 p3 p4;cases dn
 .simp only[ZaB,Zby] at p3;simp(maxSteps:=9^9)(disch:=omega)only[ZZ,simprocAttr,rch,putN_.fv,sub,Qal];intro _;refine⟨fun hi=>⟨hi,fun x hx=> ?_⟩,fun hi=> ?_⟩
  .rw[Qd3 hx,putN] at p3;refine⟨fun c1=>⟨hi,fun x1 hx1=>⟨fun c2=>⟨by simp[OneR,allD,D.one],by omega,hi,fun x2 hx2=>⟨by simp[OneR,allD,D.one],by simp only[Zaz,Zbr,ZbT];omega,?_⟩⟩,fun c2=>⟨hi,fun x2 hx2=>⟨by simp[OneR,allD,D.one],by omega,?_⟩⟩⟩⟩,fun c1=>⟨hi,fun x2 hx2=>⟨by simp[OneR,allD,D.one],by omega,?_⟩⟩⟩
   .obtain rfl:x=x1:=Zac (hx.symm.trans hx1);obtain rfl:x=x2:=Zac (hx.symm.trans hx2);rw[Zao c1,Zao c2] at p3;refine⟨⟨(i+1,true,out++[n]++[x]),by simp only;omega,by simp only[Zaz,ZbT];first|exact⟨by have:=p4 rfl;omega,fun h=>by have:=p4 rfl;first|omega|cases h⟩|exact⟨by omega,fun h=>by cases h⟩,?_⟩,[(2,some 6)],by simp only;omega,?_⟩
    .simp only[ZaQ];rw[<-p3];simp
    .simp only[subP];simp(maxSteps:=9^9)(disch:=omega)only[ZZ,simprocAttr,rch,putN_.fv,Zab,Zaa];rw[Qak (by omega) (by omega)];simp[intC]
   .obtain rfl:x=x1:=Zac (hx.symm.trans hx1);obtain rfl:x=x2:=Zac (hx.symm.trans hx2);rw[Zao c1,Zaj c2] at p3;refine⟨⟨(i+1,true,out++[x]),by simp only;omega,by simp only[Zaz,ZbT];first|exact⟨by have:=p4 rfl;omega,fun h=>by have:=p4 rfl;first|omega|cases h⟩|exact⟨by omega,fun h=>by cases h⟩,?_⟩,[(2,some 4)],by simp only;omega,?_⟩
    .simp only[ZaQ];rw[<-p3];simp
    .simp only[subP];simp(maxSteps:=9^9)(disch:=omega)only[ZZ,simprocAttr,rch,putN_.fv,Zab,Zaa];rw[Qak (by omega) (by omega)];simp[intC]
   .obtain rfl:x=x2:=Zac (hx.symm.trans hx2);rw[Zaj c1] at p3;refine⟨⟨(i+1,false,out++[x]),by simp only;omega,by simp only[Zaz,ZbT];first|exact⟨by have:=p4 rfl;omega,fun h=>by have:=p4 rfl;first|omega|cases h⟩|exact⟨by omega,fun h=>by cases h⟩,?_⟩,[(2,some 4)],by simp only;omega,?_⟩
    .simp only[ZaB,Zby];rw[<-p3];simp
    .simp only[subP];simp(maxSteps:=9^9)(disch:=omega)only[ZZ,simprocAttr,rch,putN_.fv,Zab,Zaa];rw[Qak (by omega) (by omega)];simp[intC]
  .rw[Zax (by omega),putN] at p3;refine⟨by simp[OneR,allD,D.one],by omega,?_⟩;rw[<-p3];simp[Qahq,decR,intD,Qb4 intD_c,intC]
 .simp only[ZaQ] at p3;simp(maxSteps:=9^9)(disch:=omega)only[ZZ,simprocAttr,rch,putN_.fv,sub,Qal];intro _;refine⟨fun hi=>⟨hi,fun x hx=>⟨by simp[OneR,allD,D.one],by omega,?_⟩⟩,fun hi=> ?_⟩
  .rw[Qd3 hx] at p3;refine⟨⟨(i+1,true,out++[x]),by simp only;omega,by simp only[Zaz,ZbT];first|exact⟨by have:=p4 rfl;omega,fun h=>by have:=p4 rfl;first|omega|cases h⟩|exact⟨by omega,fun h=>by cases h⟩,?_⟩,[(2,some 4)],by simp only;omega,?_⟩
   .simp only[ZaQ];rw[<-p3];simp
   .simp only[subP];simp(maxSteps:=9^9)(disch:=omega)only[ZZ,simprocAttr,rch,putN_.fv,Zab,Zaa];rw[Qak (by omega) (by omega)];simp[intC]
  .rw[Zax (by omega),ZaK] at p3;exact p3
def hasN_.fv(a:(List Int)×Int):Bool:=(fun l n=>decide (n∈l)) (a.1) (a.2)
def hasN_.row:Row:=vK (b2 (qS Qb3 Qant) qI) rB (fun a=>True) hasN_.fv
def hasN_.q:=vKq (R:=hasN_.row) rfl
theorem hasN_.ok:Qas Tryz.prog 41 hasN_.row:=by
 refine vw tN Tryz.func41 rfl (by kernel_rfl) ?_;intro a hpre;simp only[Tryz.f41,Option.getD];simp(maxSteps:=9^9)(disch:=omega)only[ZZ,simprocAttr,rch,hasN_.fv];refine Qay.old ⟨{k:Nat//k<=a.1.length/\a.2∉a.1.take k},fun k=>⟨[(5,.im (.int .i64 k.1)),(4,.im (.bool false)),(0,.im (.sl false 1 (a.1.map intC))),(1,.im (.int .i64 a.2))],[],0⟩,fun k=>a.1.length - k.1,fun k=>⟨by simp[Qad.good,belT,belH,Qam,AV.bel,belL],Zap _⟩,⟨⟨0,by simp⟩,by simp(maxSteps:=9^9)(disch:=omega)only[ZZ,simprocAttr,rch,hasN_.fv,sub]⟩,fun k=> ?_⟩;obtain⟨k,hk1,hk2⟩:=k;simp(maxSteps:=9^9)(disch:=omega)only[ZZ,simprocAttr,rch,hasN_.fv,sub,Qal];intro _;refine⟨fun hk=>⟨hk,fun x hx=>⟨fun h=> ?_,fun h=>⟨⟨k+1,by omega,?_⟩,by simp only;omega,by rw[Qak (by omega) (by omega)];simp only;omega⟩⟩⟩,fun hk=> ?_⟩
 .have:a.2∈a.1:=h▸Zaf hx
  simp[this]
 .rw[Qwe hx,Zan,Zal];exact fun e=>e.elim hk2 fun e=>h e.symm
 .rw[ZaL (by omega)] at hk2;simp[hk2]
def lOwn_.fv(a:(List Int)):List Int:=(fun l=>l) a
def lOwn_.row:Row:=vK (b1 (qS Qb3 Qant)) (rS Qb3 Qant) (fun a=>a.length<=1000000) lOwn_.fv
def lOwn_.q:=vKq (R:=lOwn_.row) rfl
theorem lOwn_.ok:Qas Tryz.prog 40 lOwn_.row:=by
 refine vw tN Tryz.func40 rfl (by kernel_rfl) ?_;intro a hpre;simp only[Tryz.f40,Option.getD];simp(maxSteps:=9^9)(disch:=omega)only[ZZ,simprocAttr,rch,lOwn_.fv];exact⟨by simp[OneR,allD,D.one,intC],by omega⟩
def contS_.fv(a:(List Int)×Int):Bool:=(fun l n=>decide (n∈l)) (a.1) (a.2)
def contS_.row:Row:=vKF (b2 (qS Qb3 Qant) qI) rB (fun a=>True) contS_.fv
theorem contS_.ok:Qas Tryz.prog 38 contS_.row:=by
 refine vwF (tC idxS_.ok tN) Tryz.func38 rfl (by kernel_rfl) ?_;intro a hpre;simp only[Tryz.f38,Option.getD];simp(maxSteps:=9^9)(disch:=omega)only[ZZ,simprocAttr,rch,contS_.fv,idxS_.q,idxS_.fv,ORC,D.sc,D.scs,scL,decD];rw[Zec];rcases Qyg (fun y=>decide (a.2=y)) a.1 0 with ⟨h,_⟩|⟨h1,h2⟩
 .rw[h,Zeb];constructor
  .rintro⟨x,hx,he⟩
   have:a.2=x:=by simpa using he
   rw[this];exact hx
  .exact fun hx=>⟨_,hx,by simp⟩
 .rw[h2,h1];simp
def anS_.fv(a:Qar×(List Opt)×Int):(List Int)×Int:=(anSp) (a.1) (a.2.1) (a.2.2)
def anS_.row:Row:=vK (b3 (qR Qar.d_le) (qS Opt.d_le Opt.c_n) qI) (r2 (rS Qb3 Qant) rI) (fun a=>True) anS_.fv
def anS_.q:=vKq (R:=anS_.row) rfl
def YaN:=J @anS_.fv.eq_1<|J @l10Asked.q<|J @l10Asked.fv.eq_1<|J @l12Needs.q<|J @l12Needs.fv.eq_1<|J @l00In.q<|J @l00In.fv.eq_1<|J @lOwn_.q<|J @lOwn_.fv.eq_1<|J @hasN_.q<|J @hasN_.fv.eq_1<|J @putN_.q @putN_.fv.eq_1
theorem anS_.ok:Qas Tryz.prog 13 anS_.row:=by
 refine vw (tC l10Asked.ok (tC l12Needs.ok (tC l00In.ok (tC lOwn_.ok (tC hasN_.ok (tC putN_.ok tN)))))) Tryz.func13 rfl (by kernel_rfl) ?_;intro a hpre;simp only[Tryz.f13,Option.getD];simp(maxSteps:=9^9)(disch:=omega)only[ZZ,simprocAttr,rch,YaN];obtain⟨s,l,k⟩:=a;simp only at hpre⊢;by_cases c0:(seqS s l).2.2=0
 case neg=>
  rw[Zaj c0,Zao c0];simp only[anSp];rw[Zao c0]
 rw[Zao c0];obtain⟨_,hp,_⟩:=Qafm c0;have hlen:(Qadm s l).length=l.length:=Qadb ..;have hno:=Qaeu (s:=s) hp.2.2.2.2.2;have hl5:=hp.2.2.2.2.2;intro _;rw[Qak (by omega) (by omega)];by_cases cw:Qau k 0 ((l.length:Int) - 1)=true
 case neg=>
  rw[Zao (by simpa using cw)];simp only[anSp];rw[Zaj (fun h=>h c0),Zaj cw]
 rw[Zaj (by simp[cw]),Zaj (fun h=>h c0)];have eR:anSp s l k=(anK (Qadm s l) k.toNat (rowI (Qadm s l) k),0):=by
  simp only[anSp];rw[Zaj (fun h=>h c0),Zao cw]
 rw[eR];simp only[Qau,Zah,Zar] at cw;obtain⟨nd,hnd⟩: ∃nd,nd=Qadm s l:=⟨_,rfl⟩;rw[<-hnd] at hno hlen;simp only[<-hnd];have hro: ∀(x:Nat) (own:List Int),nd[x]? =some own->own.length<=500:=fun x own ho=>by
  rw[hnd] at ho;have hil:x<l.length:=by
   have:=(Zai.1 ho).1
   rw[<-hnd] at this;omega
  simp only[Qadm] at ho;rw[Qaea l _ l.length x hil] at ho;obtain rfl:=Zac ho
  have:=Qagr l ((insS s s.Seed l)[x]?.getD 0) ((l[x]?.map Opt.At).getD ⟨0,0⟩) x
  omega
 refine⟨hp,by omega,by omega,fun own ho=>⟨by have:=hro _ _ ho;omega,?_⟩⟩;have er:rowI nd k=own:=by simp only[rowI,ho,Zag]
 rw[er];refine Qay.old ⟨{x:Nat×List Int//x.1<=k.toNat/\anK nd x.1 x.2=anK nd k.toNat own/\x.2.length+500*x.1<=250500},fun x=>⟨[(11,.im (.int .i64 ((x.1.1:Int) - 1))),(10,.im (.sl false 1 (x.1.2.map intC))),(9,.im (.sl false 1 (nd.map Qcd)))],[],2⟩,fun x=>x.1.1,fun x=>⟨by simp[Qad.good,belT,belH,Qam,AV.bel,belL],by simp⟩,⟨⟨(k.toNat,own),Zap _,rfl,by have:=hro _ _ ho;simp only;omega⟩,?_⟩,fun x=> ?_⟩
 .simp(maxSteps:=9^9)(disch:=omega)only[ZZ,simprocAttr,rch,YaN,sub];rw[Qak (by omega) (by omega)];omega
 obtain⟨⟨i,out⟩,p1,p2,p3⟩:=x;simp only at p1 p2 p3;simp(maxSteps:=9^9)(disch:=omega)only[ZZ,simprocAttr,rch,YaN,sub,Qal];refine⟨fun c1=> ?_,fun c1=> ?_⟩
 .obtain⟨m,rfl⟩: ∃m,i=m+1:=⟨i - 1,by omega⟩;have hm:((m+1:Nat):Int) - 1=(m:Int):=by omega
  simp only[hm];rw[anK] at p2;refine⟨fun c2=> ?_,fun c2=>⟨⟨(m,out),by simp only;omega,by rw[Zaj c2] at p2;exact p2,by simp only;omega⟩,by simp only;omega,by rw[Qak (by omega) (by omega)],rfl⟩⟩;rw[Zao c2] at p2;obtain⟨w,hw⟩: ∃w,nd[m]? =some w:=⟨_,Zad (by omega)⟩;have ew:rowI nd m=w:=by simp only[rowI,Zam,hw,Zag]
  rw[ew] at p2;have hwl:=hro m w hw;refine Qay.old ⟨{j:Nat//j<=w.length},fun j=>⟨[(12,.im (.int .i64 j.1)),(11,.im (.int .i64 m)),(10,.im (.sl false 1 (((w.take j.1).foldl putN out).map intC))),(9,.im (.sl false 1 (nd.map Qcd)))],[],2⟩,fun j=>w.length - j.1,fun j=>⟨by simp[Qad.good,belT,belH,Qam,AV.bel,belL],by simp⟩,⟨⟨0,by simp⟩,by simp(maxSteps:=9^9)(disch:=omega)only[ZZ,simprocAttr,rch,YaN,sub,Zbk,ZdD]⟩,fun j=> ?_⟩;obtain⟨j,hj1⟩:=j;have hfl:=Qahk (w.take j) out;rw[Zau] at hfl;simp(maxSteps:=9^9)(disch:=omega)only[ZZ,simprocAttr,rch,YaN,sub,Qal];refine⟨by omega,fun x hx _=> ?_⟩;obtain rfl:w=x:=Zac (hw.symm.trans hx);refine⟨fun hj=>⟨by omega,fun x hx=> ?_⟩,fun hj=> ?_⟩
  .obtain rfl:w=x:=Zac (hw.symm.trans hx);refine⟨hj,fun y hy=>⟨by omega,⟨j+1,by omega⟩,by simp only;omega,by rw[Qak (by omega) (by omega)];simp only;omega,?_⟩⟩;simp only;rw[Qwe hy,ZdU];rfl
  .have hj2:w.take j=w:=ZaL (by omega);rw[hj2] at hfl⊢;refine⟨⟨(m,w.foldl putN out),by simp only;omega,p2,by simp only;omega⟩,by simp only;omega,by rw[Qak (by omega) (by omega)],rfl⟩
 .have hi0:i=0:=by omega
  subst hi0;rw[anK] at p2;exact p2
theorem Qahd{s:Qar}{l:List Opt}: ∀own∈Qadm s l,own.Pairwise (· < ·):=by
 intro own ho;obtain⟨i,hi⟩:=ZaP.1 ho;have hil:i<l.length:=by
  have h1:=(Zai.1 hi).1;have e:(Qadm s l).length=l.length:=Qadb ..;omega
 simp only[Qadm] at hi;rw[Qaea l _ l.length i hil] at hi;obtain rfl:=Zac hi;exact ndK_pw i (by omega)
theorem wlN_end{nd:List (List Int)}(f:Nat){i:Nat}{out:List Int}(h:out.length<=i):wlN nd f i out=out:=by
 cases f with
 |zero=>rfl
 |succ f=>simp only[wlN];rw[Zaj (by omega)]
theorem Qahj: ∀(own out:List Int),(own.foldl adN out).length<=out.length+own.length
 |[],out=>by simp
 |y::r,out=>by
  have h1:=Qahj r (adN out y);have h2:(adN out y).length<=out.length+1:=by
   simp only[adN];split
   .omega
   .simp
  simp only[Zco,ZaE];omega
theorem vKF.callL{A B:Type}{k:AK A}{r:RK B}{pre:A->Prop}{f:A->B}{args:List AV}{tm:List (Nat×AV)}{h:Qan}{nx:Nat}{dst:Option Nat}{go:Qad->Prop}(ps:List PK)(hps:pkFL (hget h) args=some ps)(a:A)(ha:k.r ps=some a)(hpre:pre a)(hgo:go ((⟨tm,h,nx⟩:Qad).put dst (.im (r.e (f a))))):vKF k r pre f args (hget h) nx (kont go ⟨tm,h,nx⟩ dst):=vF.call ps hps a ha hpre hgo
def anI.ca(a:Qar×List Opt×Int):List AV:=[.im (.agg (Qar.c a.1)),.im (.sl false 3 (a.2.1.map Opt.c)),.im (.int .i64 a.2.2)]
def anI.H1(a:Qar×List Opt×Int):Qan:=[(0,(true,.arr 2 1 ((anSp a.1 a.2.1 a.2.2).1.map intC)))]
def anI.r0(a:Qar×List Opt×Int):AV:= .tup [.own 0,.im (.int .i64 (anSp a.1 a.2.1 a.2.2).2)]
def anI.row:Row:=orow anI.ca (fun _=>[]) 0 (fun a=>Qf6 a.1.Set) (fun _=>false) anI.r0 anI.H1 20
def YaO:=J @play_.q<|J @play_.fv.eq_1<|J @isIndex.q<|J @isIndex.fv.eq_1<|J @needs_.q @needs_.fv.eq_1
theorem anI.ok:Qas Tryz.prog 12 anI.row:=by
 refine owN (tC play_.ok (tC isIndex.ok (tC needs_.ok (tC cloI.ok (tC contS_.ok (tC srI.ok tN)))))) Tryz.func12 rfl (by kernel_rfl) (exB:=fun j=>j==0) (R:=fun a r=>r=anI.r0 a) (fun _=>rfl)
  (fun a=>by simp[anI.ca,anI.H1,Qar.c,belL,AV.bel,belH,Qam,Qc2,AObj.nms,nmsL,AV.nms,domB,hget]) (fun a p hp=> ?_) (fun a r h=>by subst h;exact LeV.refl _) ?_
 rotate_left
 intro a hpre;simp only[Tryz.f12,Option.getD,anI.ca,anI.H1,Qar.c];simp(maxSteps:=9^9)(disch:=omega)only[ZZ,simprocAttr,rch,YaO,Qc7,ORB,anI.ca,anI.H1,Qar.c];obtain⟨s,l,q⟩:=a;simp only at hpre⊢;refine⟨hpre,?_⟩;by_cases c0:(seqS s l).2.2=0
 case neg=>
  have eP:Qae2 s l=(none,(seqS s l).2.2):=by simp only[Qae2];rw[Zao c0]
  have eL:anSp s l q=([],(seqS s l).2.2):=by simp only[anSp];rw[Zao c0]
  simp only[eP];rw[Zao c0];refine⟨[],[(0,some 2)],⟨[(6,.own 0),(7,.im (.int .i64 ((seqS s l).2.2)))],anI.H1 (s,l,q),1⟩,?_,by simp[anI.H1,Qad.good,belT,belH,Qam,AV.bel,belL],by simp,?_⟩
  .simp only[subP,anI.H1,eL];simp(maxSteps:=9^9)(disch:=omega)only[ZZ,simprocAttr,rch,YaO,Qc7,ORB,anI.ca,anI.H1,Qar.c,Zab,Zaa,ZaG]
   try simp
  .simp(maxSteps:=9^9)(disch:=omega)only[ZZ,simprocAttr,rch,YaO,Qc7,ORB,anI.ca,anI.H1,Qar.c,anI.r0,eL]
 have eP:Qae2 s l=(some ⟨s,l,(seqS s l).1,insS s s.Seed l,smsS s s.Seed l⟩,0):=by
  simp only[Qae2];rw[Zaj (fun h=>h c0)]
 obtain⟨_,hp,_⟩:=Qafm c0;have hlen:(Qadm s l).length=l.length:=Qadb ..;have hno:=Qaeu (s:=s) hp.2.2.2.2.2;have hl5:=hp.2.2.2.2.2;have has:=Qahd (s:=s) (l:=l);simp only[eP];rw[Zaj (fun h=>h trivial)];intro _;refine⟨⟨by omega,by omega⟩,?_⟩;by_cases cw:Qau q 0 ((l.length:Int) - 1)=true
 case neg=>
  have eL:anSp s l q=([],2):=by
   simp only[anSp];rw[Zaj (fun h=>h c0),Zaj cw]
  rw[Zao (by simpa using cw)];refine⟨[],[(0,some 2)],⟨[(6,.own 0),(7,.im (.int .i64 (2)))],anI.H1 (s,l,q),1⟩,?_,by simp[anI.H1,Qad.good,belT,belH,Qam,AV.bel,belL],by simp,?_⟩
  .simp only[subP,anI.H1,eL];simp(maxSteps:=9^9)(disch:=omega)only[ZZ,simprocAttr,rch,YaO,Qc7,ORB,anI.ca,anI.H1,Qar.c,Zab,Zaa,ZaG]
   try simp
  .simp(maxSteps:=9^9)(disch:=omega)only[ZZ,simprocAttr,rch,YaO,Qc7,ORB,anI.ca,anI.H1,Qar.c,anI.r0,eL]
 rw[Zaj (by simp[cw])];have eL:anSp s l q=(anK (Qadm s l) q.toNat (rowI (Qadm s l) q),0):=by
  simp only[anSp];rw[Zaj (fun h=>h c0),Zao cw]
 simp only[Qau,Zah,Zar] at cw;have key: ∀x:Pld,(kP Pld.d 8 (pkI (plE (some x))))=some x:=fun x=>Pld.d_c x
 simp only[key,ZbK,decK];refine⟨⟨fun o ho=> ?_,Qadv ..,hp.2.2.2.2.2⟩,?_⟩
 .obtain⟨k,hk⟩:=ZaP.1 ho;exact (Qadk (hp.2.2.2.2.1 k o hk).1).2.1
 simp only[Qagn hp.2.2.2.2.1];obtain⟨nd,hnd⟩: ∃nd,nd=Qadm s l:=⟨_,rfl⟩;rw[<-hnd] at hno hlen eL has;simp only[<-hnd];refine⟨by omega,by omega,fun own ho=> ?_⟩;have er:rowI nd q=own:=by simp only[rowI,ho,Zag]
 rw[er] at eL;have hB:=anc_law hno has (k:=q) (by omega) 501 (by omega);rw[er] at hB;have h0:Qaha nd q own:=by
  rw[<-er];exact⟨fun _ h=>h,fun _ h=>Qahb h,fun _ h=>Qag9 hno (by omega) h⟩
 have hnd0:own.Nodup:=Zbo.2 ((has own (Zaf ho)).imp fun h=>by omega);have hol:=Qahh (by omega) hnd0 h0.lt;refine orow.os own [] (show own.length<=4194304 by omega) (fun j=>by simp[domB,hget]) rfl rfl ?_ ?_
 .simp(maxSteps:=9^9)(disch:=omega)only[ZZ,simprocAttr,rch,YaO,Qc7,ORB,anI.ca,anI.H1,Qar.c,cloI.ca,Qer]
 simp(maxSteps:=9^9)(disch:=omega)only[ZZ,simprocAttr,rch,YaO,Qc7,ORB,anI.ca,anI.H1,Qar.c,cloI.H1,sub,Zak,ZbE];refine Qay.ren ⟨{x:Nat×List Int//Qaha nd q x.2/\x.2.Nodup/\x.1<=500/\wlN nd (501 - x.1) x.1 x.2=wlN nd 501 0 own},fun x=>⟨[(12,.im (.int .i64 x.1.1)),(11,.own 30),(10,.im (.sl false 1 (nd.map Qcd)))],[(30,(true,.arr 2 1 (x.1.2.map intC)))],31⟩,fun x=>501 - x.1.1,fun x=>⟨by simp[Qad.good,belT,belH,Qam,AV.bel,belL],by simp⟩,⟨⟨(0,own),h0,hnd0,ZaU _,rfl⟩,[(30,some 2)],?_⟩,fun x=> ?_⟩
 .simp only[subP];simp(maxSteps:=9^9)(disch:=omega)only[ZZ,simprocAttr,rch,YaO,Qc7,ORB,anI.ca,anI.H1,Qar.c,Zab,Zaa]
  try simp
 obtain⟨⟨i,out⟩,p1,p2,p3,p4⟩:=x;simp only at p1 p2 p3 p4;have hlo:=Qahh (by omega) p2 p1.lt;simp(maxSteps:=9^9)(disch:=omega)only[ZZ,simprocAttr,rch,YaO,Qc7,ORB,anI.ca,anI.H1,Qar.c,sub,Qal];intro _;refine⟨fun hi=>⟨hi,hi,fun x hx=> ?_⟩,fun hi=> ?_⟩
 .have hxb:=p1.lt x (Zaf hx);obtain⟨w,hw⟩: ∃w,nd[x.toNat]? =some w:=⟨_,Zad (by omega)⟩;have ew:rowI nd x=w:=by simp only[rowI,hw,Zag]
  have hwl:w.length<=500:=by
   have:=Qahf w 0 x (has w (Zaf hw)) fun y hy=>Qag9 hno hxb.1 (by rw[ew];exact hy)
   omega
  have hstep:wlN nd (501 - i) i out=wlN nd (501 - (i+1)) (i+1) (w.foldl adN out):=by
   rw[show 501 - i=(501 - (i+1))+1 by omega,wlN,Zao (by omega),hx,Zag,ew]
  rw[hstep] at p4;have hg:Qaha nd q (w.foldl adN out):=p1.grow hno (Zaf hx) fun y=>by rw[ew];exact Qahc w out
  refine⟨hxb.1,by omega,fun w' hw' _=> ?_⟩;obtain rfl:w=w':=Zac (hw.symm.trans hw');refine Qay.ren ⟨{j:Nat//j<=w.length},fun j=>⟨[(52,.im (.int .i64 j.1)),(51,.im (.int .i64 w.length)),(50,.im (.sl false 1 (w.map intC))),(12,.im (.int .i64 i)),(11,.own 40),(10,.im (.sl false 1 (nd.map Qcd)))],[(40,(true,.arr 2 1 (((w.take j.1).foldl adN out).map intC)))],41⟩,fun j=>w.length - j.1,fun j=>⟨by simp[Qad.good,belT,belH,Qam,AV.bel,belL],by simp⟩,⟨⟨0,by simp⟩,[(40,some 30)],?_⟩,fun j=> ?_⟩
  .simp only[subP];simp(maxSteps:=9^9)(disch:=omega)only[ZZ,simprocAttr,rch,YaO,Qc7,ORB,anI.ca,anI.H1,Qar.c,Zab,Zaa,Zbk,ZdD]
   try simp
  obtain⟨j,hj1⟩:=j;have hfl:=Qahj (w.take j) out;rw[Zau] at hfl;simp(maxSteps:=9^9)(disch:=omega)only[ZZ,simprocAttr,rch,YaO,Qc7,ORB,anI.ca,anI.H1,Qar.c,sub,Qal];refine⟨fun hj=>⟨hj,fun y hy=> ?_⟩,fun hj=> ?_⟩
  .obtain⟨O,hO⟩: ∃O,O=(w.take j).foldl adN out:=⟨_,rfl⟩;rw[<-hO] at hfl;simp only[<-hO];have hnext:(w.take (j+1)).foldl adN out=adN O y:=by rw[Qwe hy,ZdU,hO];rfl
   refine vKF.callL [_,_] (pk2 (pkArr rfl) rfl) (O,y) (intR _ _) trivial ?_;have hf:contS_.fv (O,y)=decide (y∈O):=rfl;simp only[hf];simp(maxSteps:=9^9)(disch:=omega)only[ZZ,simprocAttr,rch,YaO,Qc7,ORB,anI.ca,anI.H1,Qar.c,sub,Qal,Qba];refine⟨fun c=>⟨by omega,⟨j+1,by omega⟩,[(40,some 42)],by simp only;omega,?_⟩,fun c=>⟨⟨j+1,by omega⟩,[(40,some 40)],by simp only;omega,?_⟩⟩
   .simp only[subP,hnext,adN,Zaj c];simp(maxSteps:=9^9)(disch:=omega)only[ZZ,simprocAttr,rch,YaO,Qc7,ORB,anI.ca,anI.H1,Qar.c,Zab,Zaa];rw[Qak (by omega) (by omega)];simp[intC]
   .simp only[subP,hnext,adN,Zao (Zbc.1 c)];simp(maxSteps:=9^9)(disch:=omega)only[ZZ,simprocAttr,rch,YaO,Qc7,ORB,anI.ca,anI.H1,Qar.c,Zab,Zaa];rw[Qak (by omega) (by omega)]
    try simp
  .have hjl:j=w.length:=by omega
   subst hjl;rw[ZbP] at hfl⊢;refine⟨⟨(i+1,w.foldl adN out),hg,Qag8 _ _ p2,by simp only;omega,p4⟩,[(30,some 40)],by simp only;omega,?_⟩;simp only[subP];simp(maxSteps:=9^9)(disch:=omega)only[ZZ,simprocAttr,rch,YaO,Qc7,ORB,anI.ca,anI.H1,Qar.c,Zab,Zaa];rw[Qak (by omega) (by omega)]
   try simp
 .have hout:wlN nd (501 - i) i out=out:=wlN_end _ (by omega);rw[hout] at p4;refine orow.os out [30] trivial (fun j=> ?_) rfl rfl ?_ ?_
  .simp only[domB,srI.H0,hget];by_cases hj:j=0
   .subst hj;simp
   .have:(0==j)=false:=by simpa using fun h=>hj h.symm
    rw[this];simp;omega
  .simp(maxSteps:=9^9)(disch:=omega)only[ZZ,simprocAttr,rch,YaO,Qc7,ORB,anI.ca,anI.H1,Qar.c,srI.ca,srI.H0,Qer,Zak]
   try exact⟨rfl,rfl⟩
  simp(maxSteps:=9^9)(disch:=omega)only[ZZ,simprocAttr,rch,YaO,Qc7,ORB,anI.ca,anI.H1,Qar.c,srI.H1,sub,Qba,Zak,ZbE];refine⟨[],[(0,some 30)],⟨[(6,.own 0),(7,.im (.int .i64 0))],anI.H1 (s,l,q),1⟩,?_,by simp[anI.H1,Qad.good,belT,belH,Qam,AV.bel,belL],by simp,?_⟩
  .simp only[subP,anI.H1,eL];simp(maxSteps:=9^9)(disch:=omega)only[ZZ,simprocAttr,rch,YaO,Qc7,ORB,anI.ca,anI.H1,Qar.c,Zab,Zaa];rw[p4,hB]
   try simp
  .simp(maxSteps:=9^9)(disch:=omega)only[ZZ,simprocAttr,rch,YaO,Qc7,ORB,anI.ca,anI.H1,Qar.c,anI.r0,eL]
 simp[anI.H1] at hp;subst hp;exact .inr ⟨by omega,by omega,rfl,rfl⟩
theorem anSp_len(s:Qar)(l:List Opt)(q:Int):(anSp s l q).1.length<=500:=by
 simp only[anSp];split
 .simp
 split
 .rename_i c0 cw;obtain⟨_,hp,_⟩:=Qafm (Zbc.1 c0);have hl5:=hp.2.2.2.2.2;have hno:=Qaeu (s:=s) hl5;have hlen:(Qadm s l).length=l.length:=Qadb ..;simp only[Qau,Zah,Zar] at cw;have hrow:(rowI (Qadm s l) q).Pairwise (· < ·):=by
   simp only[rowI];cases hq:(Qadm s l)[q.toNat]? with
   |none=>simp
   |some own=>exact Qahd own (Zaf hq)
  have h0:Qaha (Qadm s l) q (rowI (Qadm s l) q):=⟨fun _ h=>h,fun _ h=>Qahb h,fun _ h=>Qag9 hno (by omega) h⟩;obtain⟨a1,a2,_⟩:=Qahn hno q.toNat (rowI (Qadm s l) q) h0 hrow fun x hx hi=>by have:=(h0.lt x hx).2;omega
  have:=Qahf _ 0 q a2 a1.lt
  simp only;omega
 .simp
end Go.Ae
namespace Go.Ae
open Go.Proofs Go.Sort Go.Shelf
instance:Inhabited Qae:=⟨⟨0,0⟩⟩
end Go.Ae
namespace Go.Ae
open Go.Proofs
theorem opts_len(s:Qar){b:Asm}(h1:b.Tiles.length<=500)(h2:s.Set.Tiles.length<=160):(Qaj8 s b).length<=320000:=by
 have h7:=Qakc (g:=fun p=>atU s (atA b) p s.Set.Tiles.length) (m:=160) (fun p=>Zbd (Qakm s (atA b) p _) (by omega)) (Qajq b b.Tiles.length);have h8:=Qaj2 b b.Tiles.length;have h9:(Qajq b b.Tiles.length).length*160<=2000*160:=Zbm _ (by omega);exact Zbd h7 h9
def badS(n:Int):Bool:= !Qau n 0 1000
def Qanv(l:List Int):Bool:=decide (l.length<=200) && !l.any badS
def schN(l:List Int)(n k:Nat):Nat:=if l.length=0 then 0 else (((l[k % l.length]?).getD 0) % (n:Int)).toNat
theorem schOk_at{l:List Int}(h:Qanv l=true){x:Int}(hx:x∈l):0<=x/\x<=1000:=by
 simp only[Qanv,Zah,ZbZ] at h;have h1:badS x=false:=by
  cases hb:badS x with
  |false=>rfl
  |true=>rw[Zeb.2 ⟨x,hx,hb⟩] at h;cases h.2
 simpa[badS,Qau] using h1
theorem schN_lt{l:List Int}{n k:Nat}(hn:0<n):schN l n k<n:=by
 simp only[schN];split
 .exact hn
 .have h1:=Int.emod_nonneg ((l[k % l.length]?).getD 0) (b:=(n:Int)) (by omega);have h2:=Int.emod_lt_of_pos ((l[k % l.length]?).getD 0) (b:=(n:Int)) (by omega);omega
def nxO(s:Qar)(l:List Int)(b:Asm)(k:Nat):Option Opt:=(Qaj8 s b)[schN l (Qaj8 s b).length k]?
theorem Qanx{s:Qar}{l:List Int}{b:Asm}{k:Nat}:nxO s l b k=none↔Qaj8 s b=[]:=by
 simp only[nxO,ZeE];constructor
 .intro h;cases he:Qaj8 s b with
  |nil=>rfl
  |cons x r=>
   have:=schN_lt (l:=l) (k:=k) (n:=(Qaj8 s b).length) (by rw[he];simp)
   omega
 .intro h;rw[h];simp
def grw(s:Qar)(l:List Int):Nat->Asm->List Opt->List Opt×Asm×Int
 |0,b,d=>(d,b,0)
 |n+1,b,d=>match nxO s l b d.length with
  |none=>(d,b,0)
  |some o=>if 500<=b.Tiles.length then ([],⟨[]⟩,4) else grw s l n (putA b o.At o.Tile) (d++[o])
theorem Qanu(b:Asm)(p:Qae)(t:Int):(putA b p t).Tiles.length=b.Tiles.length+1:=by
 rw[Qi8];rw[(Qn1 ⟨p,t⟩ b.Tiles).length_eq,ZaE]
def gwN(s:Qar)(l:List Int)(n:Int):List Opt×Asm×Int:=if Qjc s=false then ([],⟨[]⟩,1) else if Qanv l=false\/Qau n 0 500=false then ([],⟨[]⟩,2) else grw s l n.toNat s.Seed []
theorem opt_can{s:Qar}{b:Asm}(hb:Qn7 s.Set b){o:Opt}(h:o∈Qaj8 s b):canS s b o=true:=by
 rw[Qaj8,Qajs,ZeN] at h;obtain⟨p,hp,h⟩:=h;obtain⟨t,ht,rfl⟩:=ZaJ.1 h;rw[Qajz _ (Zap _)] at hp;obtain⟨⟨h1,h2⟩,_⟩:=hp;have key: ∀n,t∈atU s (atA b) p n->0<=t/\t<n/\s.Temperature<=Qhs s.Set (atA b) p t 4:=by
  intro n;induction n with
  |zero=>intro h;simp[atU] at h
  |succ n ih=>
   intro h;simp only[atU,Zan] at h;rcases h with h|h
   .have:=ih h;exact⟨this.1,by omega,this.2.2⟩
   .split at h
    .rename_i c;simp only[Zal] at h;subst h;exact⟨by omega,by omega,c⟩
    .cases h
 obtain⟨k1,k2,k3⟩:=key _ ht;show canS s b ⟨p,t⟩=true;simp only[canS,Qau,Zah,Zar];exact⟨h1,⟨k1,by omega⟩,(Qala hb.2 p).2 h2,by rw[<-Qae8];exact k3⟩
theorem nxO_can{s:Qar}{l:List Int}{b:Asm}{k:Nat}(hb:Qn7 s.Set b){o:Opt}(h:nxO s l b k=some o):canS s b o=true:=opt_can hb (Zaf h)
def grwX(s:Qar)(l:List Int):Nat->Asm->List Opt->List Opt×Asm×Bool×Int
 |0,b,d=>(d,b,(nxO s l b d.length).isNone,0)
 |n+1,b,d=>match nxO s l b d.length with
  |none=>(d,b,true,0)
  |some o=>if 500<=b.Tiles.length then ([],⟨[]⟩,false,4) else grwX s l n (putA b o.At o.Tile) (d++[o])
theorem grwX_eq{s:Qar}{l:List Int}: ∀(n:Nat) (b:Asm) (d:List Opt),((grwX s l n b d).1,(grwX s l n b d).2.1,(grwX s l n b d).2.2.2)=grw s l n b d
 |0,b,d=>rfl
 |n+1,b,d=>by
  rw[grwX,grw];split
  .rfl
  .split
   .rfl
   .exact grwX_eq n _ _
def Qarh(nd:List (List Int))(o:List Int):Prop:= ∀(j:Nat) (i:Int),o[j]? =some i-> ∀x∈rowI nd i,x∈o.take j
theorem Qar8{s:Qar}{l:List Opt}{k:Nat}{o:Opt}(ho:l[k]? =some o):rowI (Qadm s l) k=ndK l (Qadf s.Set (atA (Qac9 s.Seed (l.take k))) o.At o.Tile 4) o.At k:=by
 have hk:=(Zai.1 ho).1;rw[rowI,Zam,Qadm,Qaea _ _ _ _ hk,Qafo s l s.Seed k o ho,ho];rfl
theorem Qaq0{l:List Opt}{o:List Int}{x:Opt}(hb: ∀i∈o,0<=i/\i<l.length):x∈Qach l o↔ ∃i∈o,l[i.toNat]? =some x:=by
 simp only[Qach,ZaJ];constructor
 .rintro⟨i,hi,h⟩
  have:=hb i hi
  refine⟨i,hi,?_⟩;rw[Zad (by omega)] at h⊢;rw[<-h];rfl
 .rintro⟨i,hi,h⟩;exact⟨i,hi,by rw[h];rfl⟩
theorem pick_get{l:List Opt}{o:List Int}{j:Nat}{x:Opt}(hb: ∀i∈o,0<=i/\i<l.length)(h:(Qach l o)[j]? =some x): ∃i,o[j]? =some i/\l[i.toNat]? =some x:=by
 simp only[Qach,ZaN] at h;cases hj:o[j]? with
 |none=>rw[hj] at h;cases h
 |some i=>
  rw[hj] at h
  have:=hb i (Zaf hj)
  refine⟨i,rfl,?_⟩;have hl:i.toNat<l.length:=by omega
  have h:=Zac h;simp only[Zad hl,Zag] at h⊢;rw[h]
theorem Qarp(l:List Opt)(o:List Int)(j:Nat):(Qach l o).take j=Qach l (o.take j):=by simp only[Qach,List.map_take]
theorem Qaq9: ∀(l:List Opt) (b:Asm),(Qac9 b l).Tiles.length=b.Tiles.length+l.length
 |[],b=>rfl
 |x::r,b=>by rw[Qac9,Qaq9 r,Qanu,ZaE];omega
theorem Qare{s:Qar}{l:List Opt}(h:seqP s l){o:List Int}(hb: ∀i∈o,0<=i/\i<l.length)(hd:o.Nodup)(hl:o.length=l.length)(hg:Qarh (Qadm s l) o):
 Qaec s s.Seed (Qach l o):=by
 obtain⟨h1,h2,h3,_,h5,_⟩:=h;have hnd:=Qaf6 h5;have hlen:(Qach l o).length=l.length:=by rw[<-hl];simp[Qach]
 have key: ∀n,n<=l.length-> ∀j x,j<n->(Qach l o)[j]? =some x->canS s (Qac9 s.Seed ((Qach l o).take j)) x=true/\(Qac9 s.Seed ((Qach l o).take j)).Tiles.length<500:=by
  intro n;induction n with
  |zero=>intro _ j x hj;omega
  |succ n ih=>
   intro hn j x hj hx;rcases Zbp j n with c|c
   .exact ih (by omega) j x c hx
   obtain rfl:j=n:=by omega
   have hplay:Qaec s s.Seed ((Qach l o).take j):=by
    intro k y hy;have hk:k<j:=by
     have:=(Zai.1 hy).1
     rw[Zau] at this;omega
    rw[Zcn hk] at hy;rw[List.take_take,Zeq (by omega)];exact ih (by omega) k y hk hy
   have hbj:Qn7 s.Set (Qac9 s.Seed ((Qach l o).take j)):=by
    have:=Qafb h3 h2 hplay ((Qach l o).take j).length (Zap _)
    rwa [ZbP] at this
   obtain⟨i,hi,hix⟩:=pick_get hb hx;obtain⟨k,rfl⟩: ∃k:Nat,i=k:=⟨i.toNat,by have:=(hb i (Zaf hi)).1;omega⟩;rw[Zam] at hix;obtain⟨c1,c2⟩:=h5 k x hix;have hbk:Qn7 s.Set (Qac9 s.Seed (l.take k)):=Qafb h3 h2 h5 k (by have:=(Zai.1 hix).1;omega);have hgj:=hg j k hi;have hbt: ∀i∈o.take j,0<=i/\i<l.length:=fun i hi=>hb i (Zdh hi)
   have hsz:(Qac9 s.Seed ((Qach l o).take j)).Tiles.length<500:=by
    obtain⟨y,hy⟩: ∃y,l[l.length - 1]? =some y:=⟨_,Zad (by omega)⟩
    have:=(h5 _ y hy).2
    rw[Qaq9,Zau] at this⊢;omega
   refine⟨?_,hsz⟩;simp only[canS,Zah,Zar] at c1⊢;obtain⟨e1,e2,e3,e4⟩:=c1;refine⟨e1,e2,?_,?_⟩
   .rw[Qala hbj.2];by_cases c:0<=atA (Qac9 s.Seed ((Qach l o).take j)) x.At
    case neg=>omega
    exfalso;obtain⟨y,hy,hyq⟩:=at_mem c;rw[Qaei] at hy;rcases hy with hy|⟨z,hz,rfl⟩
    .have:=Qma e3 y (by rw[Qaei];exact .inl hy)
     exact this hyq
    .rw[Qarp,Qaq0 hbt] at hz;obtain⟨m,hm,hmz⟩:=hz;have hmb:=hbt m hm;have e:m.toNat=k:=at_uniq hnd (q:=x.At) (by rw[hmz];simpa using hyq) (by rw[hix];rfl);have hmk:m=k:=by omega
     subst hmk;obtain⟨t,ht⟩:=ZaP.1 hm;have htj:t<j:=by
      have:=(Zai.1 ht).1
      rw[Zau] at this;omega
     rw[Zcn htj] at ht;obtain⟨g1,f1⟩:=Zai.1 ht;obtain⟨g2,f2⟩:=Zai.1 hi
     have:=(List.getElem_inj hd).1 (f1.trans f2.symm)
     omega
   .rw[Qar1] at e4⊢;refine Int.le_trans e4 (Qann 4 fun d hd4=> ?_);have hpos:=Qxd h1 (atA (Qac9 s.Seed ((Qach l o).take j))) x.At x.Tile d;by_cases c:0<Quh s.Set (atA (Qac9 s.Seed (l.take k))) x.At x.Tile d
    case neg=>omega
    have c3:=((Qaee ..).1 c).1;obtain⟨y,hy,hyq⟩:=at_mem c3;have hyt:=atA_of hbk.1 hy;have hin:y∈(Qac9 s.Seed ((Qach l o).take j)).Tiles:=by
     rw[Qaei] at hy⊢;rcases hy with hy|⟨z,hz,rfl⟩
     .exact .inl hy
     .refine .inr ⟨z,?_,rfl⟩;rw[Qarp,Qaq0 hbt];obtain⟨m,hm⟩:=ZaP.1 hz;have hmk:m<k:=by
       have:=(Zai.1 hm).1
       rw[Zau] at this;omega
      rw[Zcn hmk] at hm;refine⟨m,hgj m ?_,by rw[Zam];exact hm⟩;rw[Qar8 hix,Qaem k (by have:=(Zai.1 hix).1;omega)];refine⟨m,d,hmk,hd4,rfl,?_,by rw[hm];simpa using hyq⟩;rw[Qar6 _ _ _ _ d hd4,Zar];exact c
    have hyt2:=atA_of hbj.1 hin;have e:atA (Qac9 s.Seed ((Qach l o).take j)) (Qf7 x.At d)=atA (Qac9 s.Seed (l.take k)) (Qf7 x.At d):=by
     rw[<-hyq,hyt,hyt2]
    simp only[Quh,e];exact Zch _
 intro j x hx;exact key l.length (Zap _) j x (by have:=(Zai.1 hx).1;omega) hx
theorem Qaq8: ∀(l m:List Nat),l.Nodup->(∀x∈l,x∈m)->l.length<=m.length
 |[],_,_,_=>ZaU _
 |x::r,m,h1,h2=>by
  simp only[Zcq] at h1;have hx:x∈m:=h2 x (Zat ..)
  have:=Qaq8 r (m.erase x) h1.2 (fun y hy=>by
   have hne:y≠x:=fun h=>h1.1 (h▸hy)
   exact (List.mem_erase_of_ne hne).2 (h2 y (Zas _ hy)))
  rw[List.length_erase_of_mem hx] at this
  have:=ZeR hx
  simp only[ZaE];omega
theorem ord_same{s:Qar}{l:List Opt}(h:seqP s l){o:List Int}(hb: ∀i∈o,0<=i/\i<l.length)(hd:o.Nodup)(hl:o.length=l.length)(hg:Qarh (Qadm s l) o):
 Qac9 s.Seed (Qach l o)=Qac9 s.Seed l:=by
 have hp:=Qare h hb hd hl hg;obtain⟨h1,h2,h3,_,h5,_⟩:=h;have ha:Qn7 s.Set (Qac9 s.Seed (Qach l o)):=by
  have:=Qafb h3 h2 hp (Qach l o).length (Zap _)
  rwa [ZbP] at this
 have hc:Qn7 s.Set (Qac9 s.Seed l):=by
  have:=Qafb h3 h2 h5 l.length (Zap _)
  rwa [ZbP] at this
 have hmem: ∀x,x∈(Qac9 s.Seed (Qach l o)).Tiles↔x∈(Qac9 s.Seed l).Tiles:=by
  intro x;rw[Qaei,Qaei];refine or_congr Iff.rfl ⟨?_,?_⟩
  .rintro⟨y,hy,e⟩;obtain⟨i,_,hi⟩:=(Qaq0 hb).1 hy;exact⟨y,Zaf hi,e⟩
  .rintro⟨y,hy,e⟩;refine⟨y,(Qaq0 hb).2 ?_,e⟩;obtain⟨k,hk⟩:=ZaP.1 hy;have hkl:=(Zai.1 hk).1;refine⟨k,?_,by rw[Zam];exact hk⟩;have hsub:(o.map Int.toNat).Nodup:=by
    rw[Zbo,Zdk];refine (Zbo.1 hd).imp_of_mem fun {a b} ha hb' hab e=>hab ?_
    have:=hb a ha;have:=hb b hb';omega
   have hex:k∈o.map Int.toNat:=by
    refine ZdB fun hno=> ?_
    have:=Qaq8 (k::o.map Int.toNat) (List.range l.length) (Zcq.2 ⟨hno,hsub⟩) fun a ha=>by
     rcases Zaw.1 ha with rfl|ha
     .exact ZaI.2 hkl
     .obtain⟨i,hi,rfl⟩:=ZaJ.1 ha
      have:=hb i hi
      exact ZaI.2 (by omega)
    simp[hl] at this;omega
   obtain⟨i,hi,e⟩:=ZaJ.1 hex
   have:=hb i hi
   rwa [show (k:Int)=i by omega]
 have hA:=Qix ha.1;have hC:=Qix hc.1;have hpm:(Qac9 s.Seed (Qach l o)).Tiles.Perm (Qac9 s.Seed l).Tiles:=(Zdb ((Zdk.1 hA).imp fun h e=>h (by rw[e])) ((Zdk.1 hC).imp fun h e=>h (by rw[e]))).2 hmem;have hpw: ∀{a:Asm},Qaz none a.Tiles=true->a.Tiles.Pairwise (fun x y=>Qap y.At x.At=false):=by
  intro a hf;have hs:=(Qe4 _ _ hf).2;rw[ZcM];intro i j hi hj hij
  have:=hs i j a.Tiles[i] a.Tiles[j] hij (Zad hi) (Zad hj)
  simp only[Qap] at this⊢
  grind
 have e1:=Qlp hC hpm (hpw ha.1);have e2:=Qlp hC (ZdC _) (hpw hc.1);have e:(Qac9 s.Seed (Qach l o)).Tiles=(Qac9 s.Seed l).Tiles:=e1.trans e2.symm;cases hA':Qac9 s.Seed (Qach l o);cases hC':Qac9 s.Seed l;rw[hA',hC'] at e;simp only at e;rw[e]
def schS_.fv(a:(List Int)):Bool:=(Qanv) a
def schS_.row:Row:=vK (b1 (qS Qb3 Qant)) rB (fun a=>True) schS_.fv
def schS_.q:=vKq (R:=schS_.row) rfl
theorem schS_.ok:Qas Tryz.prog 19 schS_.row:=by
 refine vw (tC l00In.ok tN) Tryz.func19 rfl (by kernel_rfl) ?_;intro a hpre;simp only[Tryz.f19,Option.getD];simp(maxSteps:=9^9)(disch:=omega)only[ZZ,simprocAttr,rch,schS_.fv,l00In.q,l00In.fv];intro _;by_cases c:a.length<=200
 case neg=>
  rw[Zao (by omega)];simp only[Qanv,Zer c,Zbu]
 rw[Zaj (by omega)];have hw:Qanv a= !a.any badS:=by simp only[Qanv,ZeG c,Zbj]
 rw[hw];refine Qay.old ⟨{k:Nat//k<=a.length/\(a.drop k).any badS=a.any badS},fun k=>⟨[(3,.im (.int .i64 k.1)),(2,.im (.bool false)),(0,.im (.sl false 1 (a.map intC)))],[],0⟩,fun k=>a.length - k.1,fun k=>⟨by simp[Qad.good,belT,belH,Qam,AV.bel,belL],by simp⟩,⟨⟨0,by simp⟩,by simp(maxSteps:=9^9)(disch:=omega)only[ZZ,simprocAttr,rch,schS_.fv,l00In.q,l00In.fv,sub]⟩,fun k=> ?_⟩;obtain⟨k,hk1,hk2⟩:=k;simp(maxSteps:=9^9)(disch:=omega)only[ZZ,simprocAttr,rch,schS_.fv,l00In.q,l00In.fv,sub,Qal];intro _;refine⟨fun hk=>⟨hk,fun x hx=> ?_⟩,fun hk=> ?_⟩
 .rw[Qd3 hx,List.any_cons] at hk2;refine⟨fun h=> ?_,fun h=>⟨⟨k+1,by omega,?_⟩,by simp only;omega,by rw[Qak (by omega) (by omega)];simp only;omega⟩⟩
  .have:badS x=true:=by simp only[badS,h];rfl
   rw[this,Zey] at hk2;rw[<-hk2];rfl
  .have:badS x=false:=by simp only[badS];simpa using h
   rw[this,Zef] at hk2;exact hk2
 .rw[Zax (by omega)] at hk2;rw[<-hk2];rfl
def grwS_.fv(a:Qar×Asm×(List Int)×Int):(List Opt)×Asm×Bool×Int:=(fun s b l n=>grwX s l n.toNat b []) (a.1) (a.2.1) (a.2.2.1) (a.2.2.2)
def grwS_.row:Row:=vK (b4 (qP 4 Qar.d_le) (qP 1 Asm.d_le) (qS Qb3 Qant) qI) (r4 (rS Opt.d_le Opt.c_n) (rA Asm.d_le) rB rI) (fun a=>setP a.1.Set/\Qn7 a.1.Set a.2.1/\a.2.1.Tiles.length<=500/\a.1.Set.Tiles.length<=160/\Qanv a.2.2.1=true/\0<=a.2.2.2/\a.2.2.2<=500) grwS_.fv
def grwS_.q:=vKq (R:=grwS_.row) rfl
def YaP:=J @grwS_.fv.eq_1<|J @l03Own.q<|J @l03Own.fv.eq_1<|J @opsS_.q<|J @opsS_.fv.eq_1<|J @l08Attach.q @l08Attach.fv.eq_1
theorem grwS_.ok:Qas Tryz.prog 21 grwS_.row:=by
 refine vw (tC l03Own.ok (tC opsS_.ok (tC l08Attach.ok tN))) Tryz.func21 rfl (by kernel_rfl) ?_;intro a hpre;simp only[Tryz.f21,Option.getD];simp(maxSteps:=9^9)(disch:=omega)only[ZZ,simprocAttr,rch,YaP];obtain⟨s,b,l,n⟩:=a;obtain⟨h1,h2,h3,h4,h5,h6,h7⟩:=hpre;simp only at h1 h2 h3 h4 h5 h6 h7⊢;refine⟨by omega,?_⟩;refine Qay.ren ⟨{q:Asm×List Opt//q.2.length<=n.toNat/\Qn7 s.Set q.1/\q.1.Tiles.length<=500/\grwX s l (n.toNat - q.2.length) q.1 q.2=grwX s l n.toNat b []},fun q=>⟨[(13,.own 6),(12,.ptr 4 0),(11,.im (.int .i64 0)),(10,.im (.bool false)),(9,.ptr 3 0),(8,.own 2),(0,.ptr 0 0),(2,.im (.sl false 1 (l.map intC))),(3,.im (.int .i64 n))],[(6,(true,.arr 71 3 (q.1.2.map Opt.c))),(4,(true,.cells 30 [.im (.sl false 3 (q.1.1.Tiles.map Qab.c))])),(3,(true,.cells 30 [.im (.sl true 0 [])])),(2,(true,.arr 71 3 [])),(0,(false,.view (Qar.c s))),(1,(false,.view (Asm.c b)))],7⟩,fun q=>n.toNat - q.1.2.length,fun q=>⟨by simp[Qad.good,belT,belH,Qam,AV.bel,belL],by simp⟩,⟨⟨(b,[]),by simp only;exact⟨ZaU _,h2,h3,by rw[ZbB,ZdJ]⟩⟩,[(6,some 5)],?_⟩,fun q=> ?_⟩
 .simp only[subP];simp(maxSteps:=9^9)(disch:=omega)only[ZZ,simprocAttr,rch,YaP,Zab,Zaa,ZaG]
  try simp
 obtain⟨⟨b1,d⟩,e1,e2,e3,e4⟩:=q;simp only at e1 e2 e3 e4;simp(maxSteps:=9^9)(disch:=omega)only[ZZ,simprocAttr,rch,YaP,sub,Qal];have hol:=opts_len s e3 h4;have hX: ∀m,n.toNat - d.length=m+1-> ∀o,nxO s l b1 d.length=some o->grwX s l n.toNat b []=if 500<=b1.Tiles.length then ([],⟨[]⟩,false,4) else grwX s l m (putA b1 o.At o.Tile) (d++[o]):=by
  intro m hm o ho;rw[<-e4,hm,grwX,ho]
 refine⟨⟨h1,e2,e3,by omega⟩,fun _=>⟨fun c1=> ?_,fun c1 _=>⟨fun c2=> ?_,fun c2 _=> ?_⟩⟩⟩
 .have hno:=Qanx (s:=s) (l:=l) (b:=b1) (k:=d.length)|>.2 (ZbS.1 (by omega))
  rw[<-e4];cases hm:n.toNat - d.length with
  |zero=>rw[grwX,hno];rfl
  |succ m=>rw[grwX,hno]
 .have hsm:(nxO s l b1 d.length).isNone=false:=by
   cases hq:nxO s l b1 d.length with
   |none=>exact absurd (by rw[Qanx.1 hq];rfl) c1
   |some o=>rfl
  rw[<-e4,show n.toNat - d.length=0 by omega,grwX,hsm]
 have hn:(0:Int)<(Qaj8 s b1).length:=by omega
 obtain⟨m,hm⟩: ∃m,n.toNat - d.length=m+1:=⟨n.toNat - d.length - 1,by omega⟩;have fin1: ∀o,nxO s l b1 d.length=some o-> ¬(attA b1 o).2=0->([],(⟨[]⟩:Asm),false,(attA b1 o).2)=grwX s l n.toNat b []:=fun o ho h=>by
  rw[hX m hm o ho];simp only[attA] at h⊢;split at h
  .rename_i c;rw[Zao c,Zao c]
  .simp at h
 have fin2: ∀o,nxO s l b1 d.length=some o->(attA b1 o).2=0->b1.Tiles.length<500/\(attA b1 o).1=putA b1 o.At o.Tile/\Qn7 s.Set (putA b1 o.At o.Tile)/\grwX s l (n.toNat - (d++[o]).length) (putA b1 o.At o.Tile) (d++[o])=grwX s l n.toNat b []:=fun o ho h=>by
  rw[hX m hm o ho];simp only[attA] at h⊢;split at h
  .simp at h
  .rename_i c;rw[Zaj c,Zaj c,show n.toNat - (d++[o]).length=m by simp;omega];exact⟨by omega,rfl,Qaog h4 e2 (nxO_can e2 ho),rfl⟩
 have key: ∀i:Nat,i=schN l (Qaj8 s b1).length d.length->nxO s l b1 d.length=(Qaj8 s b1)[i]? :=fun i hi=>by rw[hi];rfl
 refine⟨fun c3 _ _=>⟨by omega,ZeU _ (by omega),Zez _ (by omega),fun x hx _=> ?_⟩,fun c3=> ?_⟩
 .have hx0:=schOk_at h5 (Zaf hx);have e5:(x.tmod (Qaj8 s b1).length).toNat=schN l (Qaj8 s b1).length d.length:=by
   rw[Zck (by omega),<-Int.natCast_emod,Zam] at hx;simp only[schN];rw[Zaj (by omega),hx,Zag,Zck hx0.1]
  refine⟨c1,ZeU _ hx0.1,Zez _ hn,fun o ho=> ?_⟩;have hnx:=(key _ e5).trans ho;refine⟨fin1 o hnx,fun c4=>⟨ZeU _ hx0.1,Zez _ hn,fun o2 ho2=> ?_⟩⟩;obtain rfl:o=o2:=Zac (ho.symm.trans ho2);obtain⟨f1,f2,f3,f4⟩:=fin2 o hnx (Decidable.not_not.1 c4);refine⟨by simp[OneR,allD,D.one],by omega,⟨(putA b1 o.At o.Tile,d++[o]),by simp only;exact⟨by simp;omega,f3,by rw[Qanu];omega,f4⟩⟩,[(6,some 9)],by simp;omega,?_⟩;simp only[subP,f2];simp(maxSteps:=9^9)(disch:=omega)only[ZZ,simprocAttr,rch,YaP,Zab,Zaa];simp[Opt.c]
 .have e5:0=schN l (Qaj8 s b1).length d.length:=by
   simp only[schN];rw[Zao (by omega)]
  refine⟨hn,fun o ho=> ?_⟩;have hnx:=(key _ e5).trans ho;refine⟨fin1 o hnx,fun c4=>⟨hn,fun o2 ho2=> ?_⟩⟩;obtain rfl:o=o2:=Zac (ho.symm.trans ho2);obtain⟨f1,f2,f3,f4⟩:=fin2 o hnx (Decidable.not_not.1 c4);refine⟨by simp[OneR,allD,D.one],by omega,⟨(putA b1 o.At o.Tile,d++[o]),by simp only;exact⟨by simp;omega,f3,by rw[Qanu];omega,f4⟩⟩,[(6,some 9)],by simp;omega,?_⟩;simp only[subP,f2];simp(maxSteps:=9^9)(disch:=omega)only[ZZ,simprocAttr,rch,YaP,Zab,Zaa];simp[Opt.c]
theorem sch_pre{s:Qar}(c1: ¬Qjc s=false):setP s.Set/\Qn7 s.Set s.Seed/\s.Seed.Tiles.length<=500/\s.Set.Tiles.length<=160:=by
 rw[ZaZ] at c1;obtain⟨⟨q1,q2,q3,_⟩,_,q6⟩:=Qacj c1;exact⟨q1,q2,(Qdg q6).2,q3⟩
def GrwNS_.fv(a:Qar×(List Int)×Int):(List Opt)×Asm×Int:=(gwN) (a.1) (a.2.1) (a.2.2)
def GrwNS_.row:Row:=vK (b3 (qR Qar.d_le) (qS Qb3 Qant) qI) (r3 (rS Opt.d_le Opt.c_n) (rA Asm.d_le) rI) (fun a=>True) GrwNS_.fv
def GrwNS_.q:=vKq (R:=GrwNS_.row) rfl
theorem GrwNS_.ok:Qas Tryz.prog 6 GrwNS_.row:=by
 refine vw (tC l08Ok.ok (tC schS_.ok (tC l00In.ok (tC grwS_.ok tN)))) Tryz.func6 rfl (by kernel_rfl) ?_;intro a hpre;simp only[Tryz.f6,Option.getD];simp(maxSteps:=9^9)(disch:=omega)only[ZZ,simprocAttr,rch,GrwNS_.fv,l08Ok.q,l08Ok.fv,schS_.q,schS_.fv,l00In.q,l00In.fv,grwS_.q,grwS_.fv];obtain⟨s,l,n⟩:=a;simp only[gwN];by_cases c1:Qjc s=false
 .rw[Zao c1,Zao c1]
 rw[Zaj c1,Zaj c1];by_cases c2:Qanv l=true
 case neg=>
  rw[Zaj c2,Zao (.inl (by simpa using c2))]
 rw[Zao c2];by_cases c3:Qau n 0 500=false
 .rw[Zao c3,Zao (.inr c3)]
 rw[Zaj c3,Zaj (fun h=>h.elim (fun h=>by rw[c2] at h;cases h) c3)];obtain⟨q1,q2,q3,q4⟩:=sch_pre c1;have c4:0<=n/\n<=500:=by simpa[Qau] using c3
 exact⟨⟨q1,q2,q3,q4,c2,c4⟩,grwX_eq n.toNat s.Seed []⟩
theorem isOrdI_in{o:List Int}{n:Int}(h:Qacf o n=true):(o.length:Int)=n/\ ∀x∈o,0<=x/\x<o.length:=by
 simp only[Qacf,Zah,Zar] at h;refine⟨h.2,fun x hx=> ?_⟩;have h1:=(Qacq o).mem_iff.2 hx;rw[h.1] at h1;simp only[rgI,ZaJ,ZaI] at h1;obtain⟨i,hi,rfl⟩:=h1;exact⟨by omega,by omega⟩
def Qaco(s:Qar)(l:List Opt)(o:List Int):Bool×Int:=
 if (seqI s l).2.2≠0 then (false,(seqI s l).2.2)
 else if Qacf o l.length=false then (false,2)
 else (decide ((seqI s (Qach l o)).2.2=0),0)
def IsOrdI_.fv(a:Qar×(List Opt)×(List Int)):Bool×Int:=(Qaco) (a.1) (a.2.1) (a.2.2)
def IsOrdI_.row:Row:=vK (b3 (qR Qar.d_le) (qS Opt.d_le Opt.c_n) (qS Qb3 Qant)) (r2 rB rI) (fun a=>Qf6 a.1.Set/\a.2.2.length<=4194304) IsOrdI_.fv
def IsOrdI_.q:=vKq (R:=IsOrdI_.row) rfl
def YaQ:=J @IsOrdI_.fv.eq_1<|J @PlayI_.q<|J @PlayI_.fv.eq_1<|J @isOrder_.q @isOrder_.fv.eq_1
theorem IsOrdI_.ok:Qas Tryz.prog 15 IsOrdI_.row:=by
 refine vw (tC PlayI_.ok (tC isOrder_.ok tN)) Tryz.func15 rfl (by kernel_rfl) ?_;intro a hpre;simp only[Tryz.f15,Option.getD];simp(maxSteps:=9^9)(disch:=omega)only[ZZ,simprocAttr,rch,YaQ];obtain⟨s,l,o⟩:=a;simp only at hpre⊢;obtain⟨hp1,hp2⟩:=hpre;refine⟨hp1,?_⟩;by_cases c1:(seqI s l).2.2=0
 case neg=>
  rw[Zao c1];simp only[Qaco];rw[Zao c1]
 rw[Zaj (fun h=>h c1)];intro _;refine⟨hp2,?_⟩;by_cases c2:Qacf o l.length=false
 .rw[Zao c2];simp only[Qaco];rw[Zaj (fun h=>h c1),Zao c2]
 rw[Zaj c2];have eR:Qaco s l o=(decide ((seqI s (Qach l o)).2.2=0),0):=by
  simp only[Qaco];rw[Zaj (fun h=>h c1),Zaj c2]
 rw[ZaZ] at c2;obtain⟨hl,hin⟩:=isOrdI_in c2;intro _;refine Qay.ren ⟨{k:Nat//k<=o.length},fun k=>⟨[(34,.im (.int .i64 k.1)),(33,.im (.int .i64 o.length)),(32,.im (.sl false 1 (o.map intC))),(11,.own 3),(7,.im (.int .i64 0)),(6,.im (.bool false)),(3,.ptr 0 0),(1,.im (.sl false 3 (l.map Opt.c)))],[(3,(true,.arr 71 3 ((Qach l (o.take k.1)).map Opt.c))),(0,(true,.cells 32 ((Qar.c s).map .im)))],4⟩,fun k=>o.length - k.1,fun k=>⟨by simp[Qad.good,belT,belH,Qam,AV.bel,belL,Qar.c],by simp⟩,⟨⟨0,by simp⟩,[(3,some 2)],?_⟩,fun k=> ?_⟩
 .simp only[subP];simp(maxSteps:=9^9)(disch:=omega)only[ZZ,simprocAttr,rch,YaQ,Zbk,Qach,ZaG]
  try simp
 obtain⟨k,hk1⟩:=k;simp(maxSteps:=9^9)(disch:=omega)only[ZZ,simprocAttr,rch,YaQ,sub,Qal];refine⟨fun hk=>⟨hk,fun x hx=> ?_⟩,fun hk=> ?_⟩
 .obtain⟨b1,b2⟩:=hin x (Zaf hx);refine⟨b1,by omega,fun y hy=>⟨by simp[OneR,allD,D.one],by simp only[Qach,Zbr,Zau];omega,⟨k+1,by omega⟩,[(3,some 5)],by simp only;omega,?_⟩⟩;simp only[subP,Qwe hx];simp(maxSteps:=9^9)(disch:=omega)only[ZZ,simprocAttr,rch,YaQ,Zab,Zaa];refine⟨?_,?_⟩
  .rw[Qak (by omega) (by omega)];omega
  .simp[Qach,hy,Opt.c]
 .rw[ZaL (by omega)];exact⟨hp1,by rw[eR]⟩
theorem Qard{nd:List (List Int)}{o A:List Int}(h:Qarh nd o)(h2: ∀i∈A,∀x∈rowI nd i,x∈o):Qarh nd (o++A):=by
 intro j i hj x hx;rcases Zbp j o.length with c|c
 .rw[Zav c] at hj
  have:=h j i hj x hx
  rw[List.take_append_of_le_length (by omega)];exact this
 .rw[ZaC c] at hj;have hm:=h2 i (Zaf hj) x hx;rw[List.take_append,ZaL c];exact Zbl _ hm
theorem good_asc{nd:List (List Int)}{o:List Int}(hn:Qag3 nd)(hp:o.Pairwise (· < ·))(h0: ∀x∈o,0<=x)(hc: ∀i∈o,∀x∈rowI nd i,x∈o):Qarh nd o:=by
 intro j i hj x hx;have hi:=Zaf hj;have hxm:=hc i hi x hx;have hlt:=Qag9 hn (h0 i hi) hx;obtain⟨t,ht⟩:=ZaP.1 hxm;obtain⟨g1,f1⟩:=Zai.1 hj;obtain⟨g2,f2⟩:=Zai.1 ht
 have:t<j:=by
  refine ZdB fun hge=> ?_
  rcases Zbp j t with c|c
  .have:=ZcM.1 hp j t g1 g2 c
   omega
  .obtain rfl:t=j:=by omega
   omega
 exact ZaP.2 ⟨t,by rw[Zcn this];exact ht⟩
def ordN(o:List Int):Nat->List Int
 |0=>o
 |i+1=>adN (ordN o i) i
theorem Qarx{nd:List (List Int)}{n:Nat}{o:List Int}(hn:Qag3 nd)(h1:Qarh nd o)(h2:o.Nodup)(h3: ∀x∈o,0<=x/\x<(n:Int)): ∀i,i<=n->Qarh nd (ordN o i)/\(ordN o i).Nodup/\(∀x∈ordN o i,0<=x/\x<(n:Int))/\ ∀x:Int,0<=x->x<i->x∈ordN o i
 |0,_=>⟨h1,h2,h3,fun x a b=>by omega⟩
 |i+1,hi=>by
  obtain⟨g1,g2,g3,g4⟩:=Qarx hn h1 h2 h3 i (by omega);simp only[ordN,adN];by_cases c:(i:Int)∈ordN o i
  .rw[Zao c];refine⟨g1,g2,g3,fun x a b=> ?_⟩;by_cases e:x=i
   .exact e▸c
   .exact g4 x a (by omega)
  .rw[Zaj c];refine⟨Qard g1 fun k hk x hx=> ?_,?_,fun x hx=> ?_,fun x a b=> ?_⟩
   .obtain rfl:=Zal.1 hk
    have:=Qag9 hn (by omega) hx
    exact g4 x this.1 this.2
   .rw[ZbV];refine⟨g2,by simp,fun a ha b hb e=> ?_⟩;obtain rfl:=Zal.1 hb;exact c (e▸ha)
   .rcases Zan.1 hx with hx|hx
    .exact g3 x hx
    .obtain rfl:=Zal.1 hx;omega
   .by_cases e:x=i
    .exact ZbD _ (Zal.2 e)
    .exact Zbl _ (g4 x a (by omega))
theorem rg_asc(n:Nat):(rgI n).Pairwise (· < ·):=by
 rw[rgI,Zdk];exact List.pairwise_lt_range.imp fun h=>by omega
theorem Qarm{o:List Int}{n:Nat}(h2:o.Nodup)(h3: ∀x∈o,0<=x/\x<(n:Int))(h4: ∀x:Int,0<=x->x<n->x∈o):o.Perm (rgI n):=by
 refine (Zdb h2 (Zbo.2 ((rg_asc n).imp fun h=>by omega))).2 fun x=>⟨fun h=> ?_,fun h=> ?_⟩
 .obtain⟨a,b⟩:=h3 x h;exact ZaJ.2 ⟨x.toNat,ZaI.2 (by omega),by omega⟩
 .obtain⟨k,hk,rfl⟩:=ZaJ.1 h
  have:=ZaI.1 hk
  exact h4 _ (by omega) (by omega)
theorem Qar5{o:List Int}{n:Nat}(h2:o.Nodup)(h3: ∀x∈o,0<=x/\x<(n:Int))(h4: ∀x:Int,0<=x->x<n->x∈o):o.length=n:=by
 rw[(Qarm h2 h3 h4).length_eq,rgI_len]
def Qarc(lv:List Int)(q:Int):Nat->List Int
 |0=>[]
 |i+1=>Qarc lv q i++if (lv[i]?).getD 0=q then [(i:Int)] else []
theorem Qars(l:List Opt)(lv:List Int)(q:Int): ∀n,filt l lv q n=Qach l (Qarc lv q n)
 |0=>rfl
 |n+1=>by
  rw[filt,Qarc,Qars l lv q n];simp only[Qach,ZaT];congr 1
  split<;>simp[optZ]
theorem Qaqq(lv:List Int)(q:Int)(x:Int): ∀n:Nat,x∈Qarc lv q n↔0<=x/\x<n/\(lv[x.toNat]?).getD 0=q
 |0=>by simp only[Qarc,Zca,false_iff];omega
 |n+1=>by
  rw[Qarc,Zan,Qaqq lv q x n];by_cases c:(lv[n]?).getD 0=q
  .rw[Zao c,Zal];constructor
   .rintro (⟨a,b,e⟩|rfl)
    .exact⟨a,by omega,e⟩
    .exact⟨by omega,by omega,by simpa using c⟩
   .rintro⟨a,b,e⟩;by_cases h:x=n
    .exact .inr h
    .exact .inl ⟨a,by omega,e⟩
  .rw[Zaj c];simp only[Zca,ZdQ];constructor
   .rintro⟨a,b,e⟩;exact⟨a,by omega,e⟩
   .rintro⟨a,b,e⟩;refine⟨a,?_,e⟩
    have:x≠n:=fun h=>c (by rw[h] at e;simpa using e)
    omega
theorem Qarl(lv:List Int)(q:Int): ∀n:Nat,(Qarc lv q n).Pairwise (· < ·)
 |0=> .nil
 |n+1=>by
  rw[Qarc,Zfe];refine⟨Qarl lv q n,by split<;>simp,fun a ha b hb=> ?_⟩
  have:=((Qaqq lv q a n).1 ha).2.1
  split at hb
  .obtain rfl:=Zal.1 hb;omega
  .cases hb
def Qaqw(lv:List Int)(n:Nat):Nat->List Int
 |0=>[]
 |m+1=>Qaqw lv n m++Qarc lv ((m:Int)+1) n
theorem Qaqn(lv:List Int)(n:Nat)(x:Int): ∀m:Nat,x∈Qaqw lv n m↔0<=x/\x<n/\1<=(lv[x.toNat]?).getD 0/\(lv[x.toNat]?).getD 0<=m
 |0=>by simp only[Qaqw,Zca,false_iff];omega
 |m+1=>by
  rw[Qaqw,Zan,Qaqn lv n x m,Qaqq];omega
theorem Qaqs(lv:List Int)(n:Nat): ∀m:Nat,(Qaqw lv n m).Nodup
 |0=> .nil
 |m+1=>by
  rw[Qaqw,ZbV];refine⟨Qaqs lv n m,Zbo.2 ((Qarl _ _ _).imp fun h=>by omega),fun a ha b hb e=> ?_⟩;have h1:=((Qaqn lv n a m).1 ha).2.2.2;have h2:=((Qaqq lv _ b n).1 hb).2.2;rw[e] at h1;omega
theorem lev_lt{nd:List (List Int)}(hn:Qag3 nd){i x:Int}(h0:0<=i)(hi:i<nd.length)(hx:x∈rowI nd i):((levK nd nd.length)[x.toNat]?).getD 0<((levK nd nd.length)[i.toNat]?).getD 0:=by
 have hlt:=Qag9 hn h0 hx;rw[Qag1 nd nd.length i.toNat (by omega),Qag1 nd nd.length x.toNat (by omega)];obtain⟨t,ht⟩:=ZaP.1 hx;have h1:=(lvT_at (levK nd i.toNat) (rowI nd i) (rowI nd i).length (Zap _)).1 t (Zai.1 ht).1;rw[ht,Zag,Qag1 nd i.toNat x.toNat (by omega)] at h1;simp only[Zag,rowI] at h1⊢;omega
theorem lev_ge{nd:List (List Int)}{i:Nat}(hi:i<nd.length):1<=((levK nd nd.length)[i]?).getD 0:=by
 rw[Qag1 nd nd.length i hi,Zag]
 have:=(Qaig (out:=levK nd i) (own:=(nd[i]?).getD []) (Qafw nd i) (by omega) ((nd[i]?).getD []).length).1
 omega
theorem Qarr{nd:List (List Int)}(hn:Qag3 nd): ∀m:Nat,Qarh nd (Qaqw (levK nd nd.length) nd.length m)
 |0=>fun j i h=>by simp[Qaqw] at h
 |m+1=>by
  refine Qard (Qarr hn m) fun i hi x hx=> ?_
  obtain⟨a,b,e⟩:=(Qaqq _ _ _ _).1 hi;have hlt:=Qag9 hn a hx
  have:=lev_lt hn a b hx
  have:=lev_ge (nd:=nd) (i:=x.toNat) (by omega)
  exact (Qaqn _ _ _ _).2 ⟨hlt.1,by omega,by omega,by omega⟩
theorem seq_of{s:Qar}{l o:List Opt}(h:(seqS s l).2.2=0)(hp:Qaec s s.Seed o)(hl:o.length=l.length):seqS s o=(Qac9 s.Seed o,0,0):=by
 obtain⟨_,hs,hk⟩:=Qafm h
 have:=hs.2.2.2.2.2
 simp only[seqS];rw[Zaj (by rw[hk];decide),Zaj (by omega)];exact play_of _ _ _ hp
theorem flat_law{s:Qar}{l:List Opt}(h:(seqS s l).2.2=0):seqI s (Qach l (Qaqw (levK (Qadm s l) l.length) l.length (mxL (levK (Qadm s l) l.length) l.length).toNat))=((seqS s l).1,0,0):=by
 obtain⟨h1,hs,hk⟩:=Qafm h;have hlen:(Qadm s l).length=l.length:=Qadb ..;have hno:=Qaeu (s:=s) hs.2.2.2.2.2;obtain⟨nd,hnd⟩: ∃nd,nd=Qadm s l:=⟨_,rfl⟩;have hg:=Qarr hno (mxL (levK (Qadm s l) (Qadm s l).length) l.length).toNat;rw[hlen] at hg;obtain⟨o,ho⟩: ∃o,o=Qaqw (levK (Qadm s l) l.length) l.length (mxL (levK (Qadm s l) l.length) l.length).toNat:=⟨_,rfl⟩;rw[<-ho] at hg;have hb: ∀i∈o,0<=i/\i<l.length:=fun i hi=>by
  rw[ho,Qaqn] at hi;exact⟨hi.1,hi.2.1⟩
 have hd:o.Nodup:=by rw[ho];exact Qaqs _ _ _
 have hall: ∀x:Int,0<=x->x<l.length->x∈o:=fun x a b=>by
  rw[ho,Qaqn];have g1:=lev_ge (nd:=Qadm s l) (i:=x.toNat) (by omega);have g2:=(Qah4 (levK (Qadm s l) l.length) l.length).1 x.toNat (by omega);rw[hlen] at g1;exact⟨a,b,g1,by omega⟩
 have hl:=Qar5 hd hb hall;rw[Qap0,<-ho,seq_of h (Qare hs hb hd hl hg) (by simp[Qach,hl]),ord_same hs hb hd hl hg,<-h1]
theorem ordF_law{s:Qar}{l:List Opt}(h:(seqS s l).2.2=0){k:Nat}(hk:k<l.length):Qaco s l (ordN ((anSp s l k).1++[(k:Int)]) l.length)=(true,0)/\(anSp s l k).2=0/\ ∀i,i<=l.length->(ordN ((anSp s l k).1++[(k:Int)]) i).length<=l.length:=by
 obtain⟨h1,hs,_⟩:=Qafm h;have hlen:(Qadm s l).length=l.length:=Qadb ..;have hno:=Qaeu (s:=s) hs.2.2.2.2.2;have hw:Qau (k:Int) 0 ((l.length:Int) - 1)=true:=by simp only[Qau,Zah,Zar];omega
 have ea:anSp s l k=(anK (Qadm s l) k (rowI (Qadm s l) k),0):=by
  simp only[anSp];rw[Zaj (fun c=>c h),Zao hw,Zam]
 rw[ea];have hrow:(rowI (Qadm s l) k).Pairwise (· < ·):=by
  simp only[rowI];cases hq:(Qadm s l)[(k:Int).toNat]? with
  |none=>simp
  |some own=>exact Qahd own (Zaf hq)
 have h0:Qaha (Qadm s l) k (rowI (Qadm s l) k):=⟨fun _ h=>h,fun _ h=>Qahb h,fun _ h=>Qag9 hno (by omega) h⟩;obtain⟨a1,a2,a3⟩:=Qahn hno k (rowI (Qadm s l) k) h0 hrow fun x hx hi=>by have:=(h0.lt x hx).2;omega
 obtain⟨d,hd⟩: ∃d,d=anK (Qadm s l) k (rowI (Qadm s l) k):=⟨_,rfl⟩;rw[<-hd] at a1 a2 a3;simp only[<-hd];have g0:Qarh (Qadm s l) (d++[(k:Int)]):=Qard (good_asc hno a2 (fun x hx=>(a1.lt x hx).1) a3) fun i hi x hx=>by
  obtain rfl:=Zal.1 hi;exact a1.base x hx
 have n0:(d++[(k:Int)]).Nodup:=by
  rw[ZbV];refine⟨Zbo.2 (a2.imp fun h=>by omega),by simp,fun a ha b hb e=> ?_⟩;obtain rfl:=Zal.1 hb
  have:=(a1.lt a ha).2
  omega
 have b0: ∀x∈d++[(k:Int)],0<=x/\x<(l.length:Int):=fun x hx=>by
  rcases Zan.1 hx with hx|hx
  .have:=a1.lt x hx
   omega
  .obtain rfl:=Zal.1 hx;omega
 refine⟨?_,trivial,fun i hi=> ?_⟩
 .obtain⟨g1,g2,g3,g4⟩:=Qarx hno g0 n0 b0 l.length (Zap _);have hl:=Qar5 g2 g3 g4;have hI:Qacf (ordN (d++[(k:Int)]) l.length) l.length=true:=by
   simp only[Qacf,Zah,Zar];refine⟨?_,by omega⟩;rw[hl];exact Qary (Qarm g2 g3 g4) ((rg_asc _).imp fun h=>by omega)
  simp only[Qaco,Qap0];rw[Zaj (fun c=>c h),Zaj (by rw[hI];decide),seq_of h (Qare hs g3 g2 hl g1) (by simp[Qach,hl])];rfl
 .obtain⟨g1,g2,g3,_⟩:=Qarx hno g0 n0 b0 i hi
  have:=Qahh (k:=(l.length:Int)) (by omega) g2 g3
  omega
theorem grw_pl2{s:Qar}{l:List Int}(hs:s.Set.Tiles.length<=160): ∀(n:Nat) (b:Asm) (d:List Opt),Qn7 s.Set b->(grw s l n b d).2.2=0-> ∃r,(grw s l n b d).1=d++r/\r.length<=n/\ ∀i,Qacg s b r i=((grw s l n b d).2.1,0,0)
 |0,b,d,_,_=>⟨[],by simp[grw],by simp,fun i=>by simp only[Qacg,grw]⟩
 |n+1,b,d,hb,h=>by
  rw[grw] at h⊢;cases ho:nxO s l b d.length with
  |none=>exact⟨[],by simp,by simp,fun i=>by simp only[Qacg]⟩
  |some o=>
   rw[ho] at h;simp only at h⊢;by_cases c5:500<=b.Tiles.length
   .rw[Zao c5] at h;exact absurd h (by decide)
   .rw[Zaj c5] at h⊢;have hc:=nxO_can hb ho;obtain⟨r,h1,h3,h2⟩:=grw_pl2 hs n _ _ (Qaog hs hb hc) h;refine⟨o::r,by rw[h1,ZbA];rfl,by rw[ZaE];omega,fun i=> ?_⟩;rw[Qacg,Zaj (by simp[hc]),Zaj c5];exact h2 _
theorem gwN_seq{s:Qar}{l:List Int}{n:Int}(h:(gwN s l n).2.2=0):seqS s (gwN s l n).1=((gwN s l n).2.1,0,0):=by
 by_cases c1:Qjc s=false
 .simp only[gwN] at h;rw[Zao c1] at h;exact absurd h (by decide)
 by_cases c2:Qanv l=false\/Qau n 0 500=false
 .simp only[gwN] at h;rw[Zaj c1,Zao c2] at h;exact absurd h (by decide)
 have hw:Qau n 0 500=true:=by
  cases c:Qau n 0 500
  .exact (c2 (.inr c)).elim
  .rfl
 simp only[Qau,Zah,Zar] at hw;have e:gwN s l n=grw s l n.toNat s.Seed []:=by simp only[gwN];rw[Zaj c1,Zaj c2]
 rw[e] at h⊢;obtain⟨_,q2,_,q4⟩:=sch_pre c1;obtain⟨r,h1,h3,h2⟩:=grw_pl2 q4 n.toNat s.Seed [] q2 h;rw[Zbi] at h1;simp only[seqS];rw[Zaj c1,h1,Zaj (by omega)];exact h2 0
theorem imN_len(l:List Opt)(lv:List Int)(n:Nat):(imN l lv n).length=(mxL lv n).toNat:=by simp[imN]
theorem Qaro(l:List Opt)(lv:List Int)(n:Nat): ∀i,i<=(mxL lv n).toNat->((imN l lv n).take i).flatten=Qach l (Qaqw lv n i)
 |0,_=>rfl
 |i+1,h=>by
  have e:(imN l lv n)[i]? =some (filt l lv ((i:Int)+1) n):=by simp only[imN,ZaN,ZbF (show i<(mxL lv n).toNat by omega),ZaO]
  rw[Zfi,e,List.flatten_append,Qaro l lv n i (by omega),Qaqw];simp only[Option.toList,List.flatten_cons,List.flatten_nil,ZaK,Qars,Qach,ZaT]
theorem flatI_len(lv:List Int)(n m:Nat):(Qaqw lv n m).length<=n:=by
 have:=Qahh (k:=(n:Int)) (by omega) (Qaqs lv n m) fun x hx=>by
  have:=(Qaqn lv n x m).1 hx
  exact⟨this.1,this.2.1⟩
 omega
def gN4(l:List Glue):Prop:= ∀g∈l,g.Name.size<=4
def tN4(l:List Tile):Prop:= ∀t∈l,t.Name.size<=4
theorem Qaqk(c:UInt8)(k:Int):(nmS c k).size<=4:=by
 simp only[nmS,ByteArray.size_append,digS_size];exact (by decide:1+1<=4)
theorem Qaq3{l m:List Glue}(h1:gN4 l)(h2:gN4 m):gN4 (l++m):=fun g hg=>(Zan.1 hg).elim (h1 g) (h2 g)
theorem Qaqx{l m:List Tile}(h1:tN4 l)(h2:tN4 m):tN4 (l++m):=fun g hg=>(Zan.1 hg).elim (h1 g) (h2 g)
theorem Qaqy{g:Glue}(h:g.Name.size<=4):gN4 [g]:=fun x hx=>by obtain rfl:=Zal.1 hx;exact h
theorem Qaqr{g:Tile}(h:g.Name.size<=4):tN4 [g]:=fun x hx=>by obtain rfl:=Zal.1 hx;exact h
theorem Qarw{l:List Tile}(h:tN4 l)(i d:Nat)(v:Int):tN4 (Qaqh l i d v):=by
 intro T hT;obtain⟨j,hj⟩:=ZaP.1 hT;rw[Qaqj] at hj;obtain⟨U,hU,rfl⟩:=Zay.1 hj
 have:=h U (Zaf hU)
 split<;>exact this
theorem dgR_n4(x:Rnd): ∀k,gN4 (dgR k x).1
 |0=>fun g hg=>by cases hg
 |k+1=>Qaq3 (dgR_n4 x k) (Qaqy (Qaqk _ _))
theorem dtR_n4(g:Int)(x:Rnd): ∀k,tN4 (dtR g k x).1
 |0=>fun g hg=>by cases hg
 |k+1=>Qaqx (dtR_n4 g x k) (Qaqr (Qaqk _ _))
theorem lnR_n4(t g:Int)(x:Rnd): ∀k,gN4 (lnR t g k x).1.1/\tN4 (lnR t g k x).1.2
 |0=>⟨fun g hg=>by simp[lnR] at hg,fun g hg=>by simp[lnR] at hg⟩
 |k+1=>by
  obtain⟨h1,h2⟩:=lnR_n4 t g x k;simp only[lnR];exact⟨Qaq3 h1 (Qaqy (Qaqk _ _)),Qaqx h2 (Qaqr (Qaqk _ _))⟩
theorem c1R_n4(x:Rnd): ∀k,gN4 (c1R k x).1.1/\tN4 (c1R k x).1.2
 |0=>by
  simp only[c1R];refine⟨Qaq3 (l:=[_]) (Qaqy (by decide)) (Qaqy (by decide)),Qaqr (by decide)⟩
 |k+1=>by
  obtain⟨h1,h2⟩:=c1R_n4 x k;simp only[c1R];exact⟨Qaq3 h1 (Qaqy (Qaqk _ _)),Qaqx (Qarw h2 _ _ _) (Qaqr (Qaqk _ _))⟩
theorem c2R_n4{w:Nat}{s:(List Glue×List Tile)×Rnd}(hs:gN4 s.1.1/\tN4 s.1.2): ∀k,gN4 (c2R w s k).1.1/\tN4 (c2R w s k).1.2
 |0=>hs
 |k+1=>by
  obtain⟨h1,h2⟩:=c2R_n4 (w:=w) hs k;simp only[c2R];exact⟨Qaq3 h1 (Qaqy (Qaqk _ _)),Qaqx (Qarw h2 _ _ _) (Qaqr (Qaqk _ _))⟩
theorem c3R_n4{s:List Tile×Rnd}(hs:tN4 s.1): ∀k,tN4 (c3R s k).1
 |0=>hs
 |k+1=>by
  simp only[c3R];exact Qaqx (c3R_n4 hs k) (Qaqr (Qaqk _ _))
theorem sysR_n4(x:Rnd):gN4 (sysR x).1.Set.Glues/\tN4 (sysR x).1.Set.Tiles:=by
 simp only[sysR];split
 .simp only[wldR,drwR];exact⟨dgR_n4 _ _,dtR_n4 _ _ _⟩
 .split
  .simp only[linR];obtain⟨h1,h2⟩:=lnR_n4 (1+(Qaqd (Qaqd x 7).2 2).1) (2+(Qaqd (Qaqd (Qaqd x 7).2 2).2 6).1) (Qaqd (Qaqd (Qaqd x 7).2 2).2 6).2 (2+(Qaqd (Qaqd (Qaqd x 7).2 2).2 6).1).toNat;split
   .exact⟨h1,Qarw h2 _ _ _⟩
   .exact⟨h1,h2⟩
  .simp only[corR];refine⟨(c2R_n4 (c1R_n4 _ _) _).1,?_⟩;have h:=c3R_n4 (s:=((c2R (1+(Qaqd (Qaqd x 7).2 4).1).toNat (c1R (1+(Qaqd (Qaqd x 7).2 4).1).toNat (Qaqd (Qaqd (Qaqd x 7).2 4).2 4).2) (1+(Qaqd (Qaqd (Qaqd x 7).2 4).2 4).1).toNat).1.2,(c2R (1+(Qaqd (Qaqd x 7).2 4).1).toNat (c1R (1+(Qaqd (Qaqd x 7).2 4).1).toNat (Qaqd (Qaqd (Qaqd x 7).2 4).2 4).2) (1+(Qaqd (Qaqd (Qaqd x 7).2 4).2 4).1).toNat).2)) (c2R_n4 (c1R_n4 _ _) _).2 4;split
   .exact Qaqx h (Qaqr (show (⟨#[114,52]⟩:ByteArray).size<=4 by decide))
   .exact h
theorem lawSys_sm(code:List Int):Qf6 (Qarv code).Set:=by
 obtain⟨h1,h2⟩:=sysR_n4 ⟨code,0,0⟩;exact⟨fun g hg=>Zbd (h1 g hg) (by decide),fun t ht=>Zbd (h2 t ht) (by decide)⟩
def totO(M:List (List Opt)):Nat:=(M.map List.length).sum
def mkOO.pre(a:List (List Opt)×Int):Prop:=a.1.length<=1048576/\0<=a.2/\a.2+3*totO a.1<=1099511627776
theorem Qaht(s:Qar)(l:List Opt):(Qahs s l).1.length<=500:=by
 simp only[Qahs];split
 .simp
 .rename_i c0;obtain⟨_,hp,_⟩:=Qafm (Zbc.1 c0);have hlen:(Qadm s l).length=l.length:=Qadb ..;have hno:=Qaeu (s:=s) hp.2.2.2.2.2;obtain⟨b1,_,_⟩:=Qah6 hno hlen.symm
  have:=hp.2.2.2.2.2
  rw[hlen] at b1;simp only[imN,Zbr,Zcs];omega
def lyF(M:List (List Opt))(i:Nat):Ent:=(true,.arr 71 3 (((M[i]?).getD []).map Opt.c))
def lyH(M:List (List Opt)):Qan:=[(5,(true,.arrA 34 1 (Qch 1002 (min M.length 500))))]++famH 1002 (min M.length 500) (lyF M)
theorem Qaic(M:List (List Opt))(tm:List (Nat×AV))(N:Nat)(ht:belT N tm=true)(h:1502<=N):Qad.good ⟨tm,lyH M,N⟩=true:=by
 have hm:min M.length 500<=500:=ZcE _ _;refine Qagc ht ?_ ?_ (fun i=>rfl) (by omega)
 .simp only[belH,ZaX];exact Qdv _ _ _ (by omega)
 .simp[Qam];omega
theorem ly_mem{M:List (List Opt)}{p:Nat×Ent}(hp:p∈lyH M):0<=p.1/\p.1<0+2002/\Nat.ble 5 p.1=true/\p.2.1=true:=by
 have hm:min M.length 500<=500:=ZcE _ _;simp only[lyH,ZaA,Zbi,Zaw,famH,ZaJ,ZaI] at hp;rcases hp with rfl|⟨i,hi,rfl⟩
 .exact⟨by omega,by simp only;omega,rfl,rfl⟩
 .exact⟨by omega,by simp only;omega,by simp only[ZcS];omega,rfl⟩
theorem ly_ret(M:List (List Opt)):Option.map (AObj.arrA 34 1) (mapO (mapO (cvt (hget ((5,(true,AObj.arrA 34 1 (Qch 1002 (min M.length 500))))::famH 1002 (min M.length 500) (lyF M))) (kxB [] 0 2002 fun j=>decide (5<=j)) 9)) (Qch 1002 (min M.length 500)))=some (AObj.arrA 34 1 (Qch 1002 (min M.length 500)))/\
 Qhk (hget ((5,(true,AObj.arrA 34 1 (Qch 1002 (min M.length 500))))::famH 1002 (min M.length 500) (lyF M))) (cvt (hget ((5,(true,AObj.arrA 34 1 (Qch 1002 (min M.length 500))))::famH 1002 (min M.length 500) (lyF M))) (kxB [] 0 2002 fun j=>decide (5<=j)) 9) (famH 1002 (min M.length 500) (lyF M)):=by
 have hm:min M.length 500<=500:=ZcE _ _;refine⟨?_,outOk_fam _ _ _ _ _ (fun i hi=> ?_) (fun i _=>rfl)⟩
 .rw[Quf (fun i hi=>kxB_ge (by omega) (by omega))];rfl
 .simp only[hget,Qao _ _ (show 5≠1002+i by omega),ZaS];exact Qcy _ _ _ _ hi
def nilR:List AV:=[.im (.sl true 0 [])]
def lyR(b m k:Nat):List (List AV):=Qch b m++List.replicate (k - m) nilR
theorem Qah7(b:Nat){m k:Nat}(h:m<=k):(lyR b m k).length=k:=by simp[lyR,Qbj];omega
theorem lyR_self(b m:Nat):lyR b m m=Qch b m:=by simp[lyR]
theorem Qaie(b:Nat){m k:Nat}(h:m<=k):lyR b m k++[nilR]=lyR b m (k+1):=by
 simp only[lyR,ZbA];congr 1;rw[show k+1 - m=(k - m)+1 by omega,Zff]
theorem Qah9(b m k N:Nat)(h:b+m<=N):(lyR b m k).all (belL N)=true:=by
 rw[lyR,ZbY,Qdv _ _ _ h,Zbj,Zbv];intro r hr;rw[Zbw hr];rfl
theorem Qaif(b:Nat){m k i:Nat}(h:i<m):(lyR b m k)[i]? =some [.own (b+i)]:=by
 rw[lyR,Zav (by rw[Qbj];exact h),Qo7 _ _ _ h]
theorem lyR_hi(b:Nat){m k i:Nat}(h:m<=i)(h2:i<k):(lyR b m k)[i]? =some nilR:=by
 rw[lyR,ZaC (by rw[Qbj];exact h),Qbj,Zbx,Zao (by omega)]
theorem lyR_mt{π:List (Nat×Option Nat)}{b m k:Nat}(h: ∀i,i<m->pm π (b+i)=some (b+i)):mtR π (lyR b m k) (lyR b m k):=by
 rw[Ql2];refine⟨rfl,fun i x y hx hy=> ?_⟩;obtain rfl:x=y:=Zac (hx.symm.trans hy);by_cases c:i<m
 .rw[Qaif b c] at hx;obtain rfl:=Zac hx;simp only[mtL,mt,h i c,ownM,Zcl]
 .have:=(Zai.1 hx).1
  have hk:i<k:=by
   simp only[lyR,Zaz,Qbj,ZbC] at this;omega
  rw[lyR_hi b (by omega) hk] at hx;obtain rfl:=Zac hx;simp only[nilR,mtL,mt,Zcl]
theorem Qahz(b m k q c N:Nat)(h:b+m<=N)(hc:c<N):((lyR b m k).set q [.own c]).all (belL N)=true:=by
 rw[Zbv];intro r hr;rcases ZbU hr with h1|rfl
 .exact Zbv.1 (Qah9 b m k N h) r h1
 .simp[belL,AV.bel,hc]
theorem lyR_put{π:List (Nat×Option Nat)}{b m k q c:Nat}(hq:q<k)(hm:m<=k)(h: ∀i,i<k->i≠q->i<m/\pm π (b+i)=some (b+i))(hc:pm π (b+q)=some c):mtR π (Qch b k) ((lyR b m k).set q [.own c]):=by
 rw[Ql2];refine⟨by rw[ZbG,Qah7 b hm,Qbj],fun i x y hx hy=> ?_⟩;have hi:i<k:=by have:=(Zai.1 hx).1;rwa [Qbj] at this
 rw[Qo7 _ _ _ hi] at hx;obtain rfl:=Zac hx;by_cases e:i=q
 .subst e;rw[ZaD (by rw[Qah7 b hm];exact hi)] at hy;obtain rfl:=Zac hy;simp only[mtL,mt,hc,ownM,Zcl]
 .obtain⟨h1,h2⟩:=h i hi e;rw[ZaF (Zcz e),Qaif b h1] at hy;obtain rfl:=Zac hy;simp only[mtL,mt,h2,ownM,Zcl]
def layF(l:List Opt)(lv:List Int)(i q:Nat):Ent:=(true,.arr 71 3 ((filt l lv ((q:Int)+1) i).map Opt.c))
theorem layF_ne{l:List Opt}{lv:List Int}{i q j:Nat}(h:(lv[i]?).getD 0=(q:Int)+1)(hj:j≠q):layF l lv (i+1) j=layF l lv i j:=by
 simp only[layF,filt];rw[Zaj (by omega),ZaK]
theorem layF_eq{l:List Opt}{lv:List Int}{i q:Nat}{o:Opt}(h:(lv[i]?).getD 0=(q:Int)+1)(ho:l[i]? =some o):layF l lv (i+1) q=(true,.arr 71 3 ((filt l lv ((q:Int)+1) i).map Opt.c++[Opt.c o])):=by
 simp only[layF,filt];rw[Zao h,ho,Zag,ZaT,Zaq,ZaG]
def lyI.ca(a:Qar×List Opt):List AV:=[.im (.agg (Qar.c a.1)),.im (.sl false 3 (a.2.map Opt.c))]
def lyI.H1(a:Qar×List Opt):Qan:=lyH (Qahs a.1 a.2).1
def lyI.r0(a:Qar×List Opt):AV:= .tup [.own 5,.im (.int .i64 (Qahs a.1 a.2).2)]
def lyI.row:Row:=orow lyI.ca (fun _=>[]) 0 (fun a=>Qf6 a.1.Set) (fun _=>false) lyI.r0 lyI.H1 2002
def YaR:=J @play_.q<|J @play_.fv.eq_1<|J @needs_.q @needs_.fv.eq_1
theorem lyI.ok:Qas Tryz.prog 8 lyI.row:=by
 refine owN (tC play_.ok (tC needs_.ok (tC levC.ok tN))) Tryz.func8 rfl (by kernel_rfl) (exB:=fun j=>Nat.ble 5 j) (R:=fun a r=>r=lyI.r0 a) (fun _=>rfl)
  (fun a=>by simp[lyI.ca,Qar.c,belL,AV.bel,belH,Qam,Qc2,AObj.nms,nmsL,AV.nms,domB,hget]) (fun a p hp=> ?_) (fun a r h=>by subst h;exact LeV.refl _) ?_
 rotate_left
 intro a hpre;simp only[Tryz.f8,Option.getD,lyI.ca,Qar.c];simp(maxSteps:=9^9)(disch:=omega)only[ZZ,simprocAttr,rch,YaR,Qc7,ORB,lyI.ca,Qar.c];obtain⟨s,l⟩:=a;simp only at hpre⊢;refine⟨hpre,?_⟩;by_cases c0:(seqS s l).2.2=0
 case neg=>
  have eP:Qae2 s l=(none,(seqS s l).2.2):=by simp only[Qae2];rw[Zao c0]
  have eL:Qahs s l=([],(seqS s l).2.2):=by simp only[Qahs];rw[Zao c0]
  simp only[eP];rw[Zao c0];refine⟨[],[(5,some 2)],⟨[(4,.own 5),(5,.im (.int .i64 (seqS s l).2.2))],lyH [],2002⟩,?_,Qaic _ _ _ (by simp[belT,AV.bel]) (by omega),by simp,?_⟩
  .simp only[subP,lyH,ZbB,Nat.zero_min,famH,Qch,ZdN,ZaG,ZaK];simp(maxSteps:=9^9)(disch:=omega)only[ZZ,simprocAttr,rch,YaR,Qc7,ORB,lyI.ca,Qar.c,Zab,Zaa,ZaG]
   try simp
  .simp only[lyI.H1,lyI.r0,eL];simp(maxSteps:=9^9)(disch:=omega)only[ZZ,simprocAttr,rch,YaR,Qc7,ORB,lyI.ca,Qar.c,lyH,ZaA,Zbi];exact ly_ret []
 have eP:Qae2 s l=(some ⟨s,l,(seqS s l).1,insS s s.Seed l,smsS s s.Seed l⟩,0):=by
  simp only[Qae2];rw[Zaj (fun h=>h c0)]
 obtain⟨_,hp,_⟩:=Qafm c0;have hlen:(Qadm s l).length=l.length:=Qadb ..;have hno:=Qaeu (s:=s) hp.2.2.2.2.2;have eL:Qahs s l=(imN l (levK (Qadm s l) (Qadm s l).length) l.length,0):=by
  simp only[Qahs];rw[Zaj (fun h=>h c0),hlen]
 simp only[eP];rw[Zaj (by simp)];have key: ∀x:Pld,(kP Pld.d 8 (pkI (plE (some x))))=some x:=fun x=>Pld.d_c x
 simp only[key,ZbK,decK];refine⟨⟨fun o ho=> ?_,Qadv ..,hp.2.2.2.2.2⟩,?_⟩
 .obtain⟨k,hk⟩:=ZaP.1 ho;exact (Qadk (hp.2.2.2.2.1 k o hk).1).2.1
 simp only[Qagn hp.2.2.2.2.1];obtain⟨nd,hnd⟩: ∃nd,nd=Qadm s l:=⟨_,rfl⟩;rw[<-hnd] at hno hlen eL;simp only[<-hnd];refine orow.os nd [] hno (fun j=>by simp[domB,hget]) rfl rfl ?_ ?_
 .simp(maxSteps:=9^9)(disch:=omega)only[ZZ,simprocAttr,rch,YaR,Qc7,ORB,lyI.ca,Qar.c,levC.ca,Qer]
 obtain⟨lv,hlv⟩: ∃lv,lv=levK nd nd.length:=⟨_,rfl⟩;obtain⟨b1,b2,b3⟩:=Qah6 hno hlen.symm;rw[<-hlv] at eL b1 b2 b3;simp only[levC.H1,<-hlv];have hll:lv.length=nd.length:=by rw[hlv];exact Qadd ..
 have hn5:=hno.1;have hlb: ∀x∈lv,0<=x/\x<=500:=fun x hx=>by
  rw[hlv] at hx
  have:=Qafw nd nd.length x hx
  omega
 simp(maxSteps:=9^9)(disch:=omega)only[ZZ,simprocAttr,rch,YaR,Qc7,ORB,lyI.ca,Qar.c,sub,Zak,ZbE];intro _;have hmb: ∀i,mxL lv i<=500:=fun i=>by
  rcases (Qah4 lv i).2 with h|⟨j,_,h⟩
  .omega
  .rw[<-h];cases hq:lv[j]? with
   |none=>simp
   |some y=>rw[Zag];exact (hlb y (Zaf hq)).2
 have hm0:=mxL_b lv;refine Qay.ren ⟨{i:Nat//i<=lv.length},fun i=>⟨[(24,.im (.int .i64 i.1)),(23,.im (.int .i64 lv.length)),(22,.own 4),(8,.own 5),(1,.im (.sl false 3 (l.map Opt.c)))],[(5,(true,.arrA 34 1 (Qch 1002 (mxL lv i.1).toNat))),(4,(true,.arr 2 1 (lv.map intC)))]++famH 1002 (mxL lv i.1).toNat (layF l lv i.1),2002⟩,fun i=>lv.length - i.1,fun i=>⟨Qagc (by simp[belT,AV.bel]) (by simp only[belH,ZaX];exact Qdv _ _ _ (by have:=hmb i.1;omega)) (by simp[Qam]) (fun j=>rfl) (by have:=hmb i.1;omega),by simp⟩,⟨⟨0,by simp⟩,[(5,some 2)],?_⟩,fun i=> ?_⟩
 .simp only[subP,mxL,Zfg,famH,Qch,ZdN,ZaG,ZaK];simp(maxSteps:=9^9)(disch:=omega)only[ZZ,simprocAttr,rch,YaR,Qc7,ORB,lyI.ca,Qar.c,Zab,Zaa]
  try simp
 obtain⟨i,hi1⟩:=i;obtain⟨M,hM⟩: ∃M,M=(mxL lv i).toNat:=⟨_,rfl⟩;have hMb:=hmb i;have hM0:=hm0 i;simp only[ZaA,Zbi,<-hM];simp(maxSteps:=9^9)(disch:=omega)only[ZZ,simprocAttr,rch,YaR,Qc7,ORB,lyI.ca,Qar.c,sub,Qal,Qba];refine⟨fun hi=>⟨hi,hi,fun x hx=> ?_⟩,fun hi=> ?_⟩
 .have hx1:1<=x/\x<=(M:Int)+1:=by
   have hil:i<nd.length:=by omega
   have e:=Qag1 nd nd.length i hil;rw[<-hlv,hx] at e;have e2:=Zac e;have hb:=Qaig (own:=(nd[i]?).getD []) (Qafw nd i) (by omega) ((nd[i]?).getD []).length;refine⟨by omega,?_⟩;by_cases c:x=1
   .omega
   .obtain⟨j,hj,he⟩:=Qaia hno (i+1) i (by omega) hil (x - 1) (by omega) (by rw[<-hlv,hx,Zag];omega);rw[<-hlv] at he;have hji:j≠i:=fun h=>by
     subst h;rw[hx,Zag] at he;omega
    have:=(Qah4 lv i).1 j (by omega)
    omega
  refine Qay.ren ⟨{k:Nat//M<=k/\(k=M\/(k:Int)<=x)},fun k=>⟨[(24,.im (.int .i64 i)),(23,.im (.int .i64 lv.length)),(22,.own 4),(10,.im (.int .i64 x)),(9,.im (.int .i64 i)),(8,.own 2002),(1,.im (.sl false 3 (l.map Opt.c)))],[(2002,(true,.arrA 34 1 (lyR 1002 M k.1))),(4,(true,.arr 2 1 (lv.map intC)))]++famH 1002 M (layF l lv i),2003⟩,fun k=>x.toNat - k.1,fun k=>⟨Qagc (by simp[belT,AV.bel]) (by simp only[belH,ZaX];exact Qah9 _ _ _ _ (by omega)) (by simp[Qam]) (fun j=>rfl) (by omega),by simp⟩,⟨⟨M,Zap _,.inl rfl⟩,[(2002,some 5)],?_⟩,fun k=> ?_⟩
  .refine Qaf7 (A:=[_,_]) (fun i=>1002+i) (by simp[geP]) (by simp[imP,pm,nodS]) (fun i hi=>by simp only[pm];rw[Zaj (by omega)]) (fun i j _ _ h=>by omega) (fun m hm i hi=>by simp[imP,pm] at hm;omega) ?_ ?_ (fun q hq=> ?_)
   .simp only[Qpt];simp(maxSteps:=9^9)(disch:=omega)only[ZZ,simprocAttr,rch,YaR,Qc7,ORB,lyI.ca,Qar.c,Zab,Zaa]
   .simp only[Qgb,lyR_self];simp(maxSteps:=9^9)(disch:=omega)only[ZZ,simprocAttr,rch,YaR,Qc7,ORB,lyI.ca,Qar.c,Zab,Zaa];exact Qyn (g:=fun i=>1002+i) (fun i hi=>by simp only[pm];rw[Zaj (by omega)]) rfl
   .simp only[entN,hget,Qao _ _ (show 5≠1002+q by omega),Qao _ _ (show 4≠1002+q by omega),ZaS];rw[Qcy _ _ _ _ hq];exact⟨rfl,rfl⟩
  obtain⟨k,hk1,hk2⟩:=k;have hkl:=Qah7 1002 hk1;simp only[ZaA,Zbi];simp(maxSteps:=9^9)(disch:=omega)only[ZZ,simprocAttr,rch,YaR,Qc7,ORB,lyI.ca,Qar.c,sub,Qal,Qba,Qage,hkl];intro _;refine⟨fun c=> ?_,fun c=> ?_⟩
  .refine⟨by omega,by rw[show [[AV.im (D.sl true 0 [])]]=[nilR] from rfl,Qaie 1002 hk1];exact Qah9 _ _ _ _ (by omega),⟨k+1,by omega,.inr (by omega)⟩,[(2002,some 2004)],by simp only;omega,?_⟩;refine Qaf7 (A:=[_,_]) (fun i=>1002+i) (by simp[geP]) (by simp[imP,pm,nodS]) (fun i hi=>by simp only[pm];rw[Zaj (by omega)]) (fun i j _ _ h=>by omega) (fun m hm i hi=>by simp[imP,pm] at hm;omega) ?_ ?_ (fun q hq=> ?_)
   .simp only[Qpt];simp(maxSteps:=9^9)(disch:=omega)only[ZZ,simprocAttr,rch,YaR,Qc7,ORB,lyI.ca,Qar.c,Zab,Zaa]
   .simp only[Qgb];simp(maxSteps:=9^9)(disch:=omega)only[ZZ,simprocAttr,rch,YaR,Qc7,ORB,lyI.ca,Qar.c,Zab,Zaa];rw[show [[AV.im (D.sl true 0 [])]]=[nilR] from rfl,Qaie 1002 hk1];exact lyR_mt (fun i hi=>by simp only[pm];rw[Zaj (by omega)])
   .simp only[entN,hget,Qao _ _ (show 2004≠1002+q by omega),Qao _ _ (show 2003≠1002+q by omega),Qao _ _ (show 2002≠1002+q by omega),Qao _ _ (show 4≠1002+q by omega),ZaS];rw[Qcy _ _ _ _ hq];exact⟨rfl,rfl⟩
  .have hw:IntKind.i64.wrap (x - 1)=x - 1:=Qak (by omega) (by omega);obtain⟨q,hq⟩: ∃q,q=(x - 1).toNat:=⟨_,rfl⟩;have hqk:q<k:=by omega
   have hqx:x=(q:Int)+1:=by omega
   rw[hw,<-hq];refine⟨by omega,by omega,hqk,?_⟩;by_cases cq:q<M
   .refine Qi3 (Qaif 1002 cq) ?_;have n1:=Qao _ _ (show 2003≠1002+q by omega);have n2:=Qao _ _ (show 2002≠1002+q by omega);have n3:=Qao _ _ (show 4≠1002+q by omega);have hf:=Qcy 1002 M (layF l lv i) q cq;simp(maxSteps:=9^9)(disch:=omega)only[ZZ,simprocAttr,rch,YaR,Qc7,ORB,lyI.ca,Qar.c,sub,Qal,Qba,show ∀p:Prop,(1002+q<2003\/p)=True from fun p=>ZdV (.inl (by omega)),ZaQ,Zdi,true_or];refine⟨by omega,by omega,fun o ho=> ?_⟩;simp only[layF] at hf;simp(maxSteps:=9^9)(disch:=omega)only[ZZ,simprocAttr,rch,YaR,Qc7,ORB,lyI.ca,Qar.c,sub,Qal,Qba,Qjf,hf,hkl,Qkf,Zeh,ZdV (show 1002+q<2003 by omega),ZdV (show 1002+q<2004 by omega),ZaQ,Qage];have hfl:=Qahy l lv ((q:Int)+1) i;refine⟨by omega,by omega,?_⟩;simp only[n1,n2,n3,ZaB,Zby];simp(maxSteps:=9^9)(disch:=omega)only[ZZ,simprocAttr,rch,YaR,Qc7,ORB,lyI.ca,Qar.c,sub,Qal,Qba,Qjf,hf,hkl,Qkf,Zeh,ZdV (show 1002+q<2003 by omega),ZdV (show 1002+q<2004 by omega),ZaQ,Qage];refine⟨by omega,by omega,by omega,?_⟩;rw[<-hq];refine Qi3 (Qaif 1002 cq) ?_;simp(maxSteps:=9^9)(disch:=omega)only[ZZ,simprocAttr,rch,YaR,Qc7,ORB,lyI.ca,Qar.c,sub,Qal,Qba,Qjf,hf,hkl,Qkf,Zeh,ZdV (show 1002+q<2003 by omega),ZdV (show 1002+q<2004 by omega),ZaQ,Qage];refine⟨Qahz _ _ _ _ _ _ (by omega) (by omega),⟨i+1,by omega⟩,[(5,some 2002),(1002+q,some 2004)],by simp only;omega,?_⟩;have hw2:IntKind.i64.wrap ((i:Int)+1)=(i:Int)+1:=Qak (by omega) (by omega);have hK:(mxL lv (i+1)).toNat=k:=by simp only[mxL,hx,Zag];omega
    simp only[hK,hw2];have n4: ¬(1002+q=4):=by omega
    refine Qaf7 (A:=[_,_]) (fun j=>if j=q then 2004 else 1002+j) (by simp[geP];try omega) (by simp[imP,pm,nodS,n4]) (fun j hj=>by simp only[pm];rw[Zaj (by omega)];by_cases e:j=q<;>simp[e];omega) (fun j j' h h' e=>by split at e<;>split at e<;>omega) (fun m hm j hj=>by simp[imP,pm,n4] at hm;split<;>omega) ?_ ?_ (fun j hj=> ?_)
    .simp only[Qpt];simp(maxSteps:=9^9)(disch:=omega)only[ZZ,simprocAttr,rch,YaR,Qc7,ORB,lyI.ca,Qar.c,Zab,Zaa,Zaj n4]
     try simp[ownM]
    .simp only[Qgb];simp(maxSteps:=9^9)(disch:=omega)only[ZZ,simprocAttr,rch,YaR,Qc7,ORB,lyI.ca,Qar.c,Zab,Zaa,Zaj n4];exact lyR_put (π:=[(5,some 2002),(1002+q,some 2004)]) (b:=1002) hqk hk1 (fun j hj e=>⟨by omega,by simp only[pm];rw[Zaj (by omega),Zaj (by omega)]⟩) (by simp[pm];omega)
    .by_cases e:j=q
     .subst e;rw[layF_eq (by rw[hx,Zag];exact hqx) ho,Zao rfl];simp only[entN,hget];exact⟨rfl,rfl⟩
     .rw[layF_ne (by rw[hx,Zag];exact hqx) e,Zaj e];simp only[entN,hget,Qao _ _ (show 2004≠1002+j by omega),Qao _ _ (show 2003≠1002+j by omega),Qao _ _ (show 2002≠1002+j by omega),Qao _ _ (show 4≠1002+j by omega),ZaS];rw[Qce _ _ _ (by omega),Qce _ _ _ (by omega),Qcy _ _ _ _ (by omega)];exact⟨rfl,rfl⟩
   .have hqM:q=M:=by omega
    have hkM:k=M+1:=by omega
    refine Qi3 (lyR_hi 1002 (by omega) hqk) ?_;simp(maxSteps:=9^9)(disch:=omega)only[ZZ,simprocAttr,rch,YaR,Qc7,ORB,lyI.ca,Qar.c,sub,Qal,Qba,nilR];refine⟨by omega,fun o ho=> ?_⟩;refine⟨by omega,by omega,by omega,?_⟩;refine Qi3 (lyR_hi 1002 (by omega) (by omega)) ?_;simp(maxSteps:=9^9)(disch:=omega)only[ZZ,simprocAttr,rch,YaR,Qc7,ORB,lyI.ca,Qar.c,sub,Qal,Qba,nilR,Zeh,Qage];rw[<-hq];refine⟨Qahz _ _ _ _ _ _ (by omega) (by omega),⟨i+1,by omega⟩,[(5,some 2002),(1002+q,some 2004)],by simp only;omega,?_⟩;have hw2:IntKind.i64.wrap ((i:Int)+1)=(i:Int)+1:=Qak (by omega) (by omega);have hK:(mxL lv (i+1)).toNat=k:=by simp only[mxL,hx,Zag];omega
    simp only[hK,hw2];have n4: ¬(1002+q=4):=by omega
    refine Qaf7 (A:=[_,_]) (fun j=>if j=q then 2004 else 1002+j) (by simp[geP];try omega) (by simp[imP,pm,nodS,n4]) (fun j hj=>by simp only[pm];rw[Zaj (by omega)];by_cases e:j=q<;>simp[e];omega) (fun j j' h h' e=>by split at e<;>split at e<;>omega) (fun m hm j hj=>by simp[imP,pm,n4] at hm;split<;>omega) ?_ ?_ (fun j hj=> ?_)
    .simp only[Qpt];simp(maxSteps:=9^9)(disch:=omega)only[ZZ,simprocAttr,rch,YaR,Qc7,ORB,lyI.ca,Qar.c,Zab,Zaa,Zaj n4]
     try simp[ownM]
    .simp only[Qgb];simp(maxSteps:=9^9)(disch:=omega)only[ZZ,simprocAttr,rch,YaR,Qc7,ORB,lyI.ca,Qar.c,Zab,Zaa,Zaj n4];exact lyR_put (π:=[(5,some 2002),(1002+q,some 2004)]) (b:=1002) hqk hk1 (fun j hj e=>⟨by omega,by simp only[pm];rw[Zaj (by omega),Zaj (by omega)]⟩) (by simp[pm];omega)
    .by_cases e:j=q
     .subst e;rw[layF_eq (by rw[hx,Zag];exact hqx) ho,Zao rfl];simp only[entN,hget];rw[Qah3 i (fun j hj=>by have:=(Qah4 lv i).1 j hj;omega)];exact⟨rfl,rfl⟩
     .rw[layF_ne (by rw[hx,Zag];exact hqx) e,Zaj e];simp only[entN,hget,Qao _ _ (show 2004≠1002+j by omega),Qao _ _ (show 2003≠1002+j by omega),Qao _ _ (show 2002≠1002+j by omega),Qao _ _ (show 4≠1002+j by omega),ZaS];rw[Qcy _ _ _ _ (by omega)];exact⟨rfl,rfl⟩
 .have hil:i=l.length:=by omega
  subst hil;have hL:(imN l lv l.length).length=M:=by simp[imN,hM]
  have hmn:min (imN l lv l.length).length 500=M:=by rw[hL];omega
  refine⟨[],[],⟨[(4,.own 5),(5,.im (.int .i64 0))],lyH (imN l lv l.length),2002⟩,?_,Qaic _ _ _ (by simp[belT,AV.bel]) (by omega),by simp,?_⟩
  .simp only[lyH,hmn];refine Qaf7 (A:=[_]) (fun i=>1002+i) (by simp[geP]) (by simp[imP,pm,nodS]) (fun i hi=>rfl) (fun i j _ _ h=>by omega) (fun m hm i hi=>by simp[imP,pm] at hm;omega) ?_ ?_ (fun q hq=> ?_)
   .simp only[Qpt];simp(maxSteps:=9^9)(disch:=omega)only[ZZ,simprocAttr,rch,YaR,Qc7,ORB,lyI.ca,Qar.c,Zab,Zaa]
   .simp only[Qgb];simp(maxSteps:=9^9)(disch:=omega)only[ZZ,simprocAttr,rch,YaR,Qc7,ORB,lyI.ca,Qar.c,Zab,Zaa,Qagj,Qagw];exact Qyn (π:=[]) (g:=fun i=>1002+i) (fun i hi=>rfl) rfl
   .have e:(imN l lv l.length)[q]? =some (filt l lv ((q:Int)+1) l.length):=by
     simp only[imN,<-hM];rw[ZaN,ZbF hq];rfl
    simp only[entN,fzAS,Qagj,hget,Qao _ _ (show 5≠1002+q by omega),Qao _ _ (show 4≠1002+q by omega),ZaS];rw[Qcy _ _ _ _ hq];simp only[lyF,e,Zag];exact⟨rfl,rfl⟩
  .simp only[lyI.H1,lyI.r0,eL];simp(maxSteps:=9^9)(disch:=omega)only[ZZ,simprocAttr,rch,YaR,Qc7,ORB,lyI.ca,Qar.c,lyH,ZaA,Zbi];exact ly_ret _
 exact .inr (ly_mem hp)
structure OoAt(h:Nat->Option Ent)(o b:Nat)(M:List (List Opt)):Prop where
 r:h o=some (true,.arrA 34 1 (Qch b M.length))
 f: ∀i,i<M.length->h (b+i)=some (true,.arr 71 3 ((M[i]?.getD []).map Opt.c))
theorem OoAt.mono{h h':Nat->Option Ent}{o b:Nat}{M:List (List Opt)}(hs:OoAt h o b M)(hh: ∀m,(m=o\/(b<=m/\m<b+M.length))->h' m=h m):OoAt h' o b M:=
 ⟨by rw[hh o (.inl rfl)];exact hs.r,fun i hi=>by rw[hh _ (.inr ⟨by omega,by omega⟩)];exact hs.f i hi⟩
theorem oo_at{M:List (List Opt)}(hM:M.length<=500){nx:Nat}{HH:Qan}(h: ∀j e,hget (lyH M) j=some e->hget HH (nx+j)=some (e.1,e.2.ren fun j=>nx+j)):OoAt (hget HH) (nx+5) (nx+1002) M:=by
 have hm:min M.length 500=M.length:=by omega
 refine⟨?_,fun i hi=> ?_⟩
 .rw[h 5 _ rfl];simp only[AObj.ren,hm];congr 3;simp only[Qch,Zdq];refine Zcp fun i hi=> ?_
  simp only[Function.comp,renL,AV.ren];rw[ZcC]
 .have e:hget (lyH M) (1002+i)=some (true,.arr 71 3 ((M[i]?.getD []).map Opt.c)):=by
   simp only[lyH,ZaA,Zbi,hget,Qao _ _ (show 5≠1002+i by omega),ZaS,hm];exact Qcy _ _ _ _ hi
  rw[ZcC,h _ _ e];rfl
theorem ly_cl(s:Qar)(l:List Opt): ∀p∈lyI.H1 (s,l),p.1<2002/\ ∀m∈p.2.2.nms,m<2002:=by
 intro p hp;have hm:min (Qahs s l).1.length 500<=500:=ZcE _ _;simp only[lyI.H1,lyH,ZaA,Zbi,Zaw,famH,famH,ZaJ,ZaI] at hp;rcases hp with rfl|⟨i,hi,rfl⟩
 .refine⟨by omega,fun m hm=> ?_⟩;obtain⟨i,hi,rfl⟩:=Qu6 _ _ m hm;omega
 .exact⟨by simp only;omega,by simp[AObj.nms,lyF]⟩
theorem Qarn(F:List Nat)(H:Qan)(m:Nat): ∀h:Qan,hget (fzAH F H h) m=(hget h m).map fun e=>(e.1 && !F.contains m,e.2.fzA F H)
 |[]=>rfl
 |(n,(mu,e))::r=>by
  simp only[fzAH,hget];cases c:n==m with
  |true=>
   have:n=m:=by simpa using c
   subst this;rfl
  |false=>simp only[ZaS];exact Qarn F H m r
def famF(b n:Nat):List Nat:=(List.range n).map fun i=>b+i
theorem famF_in{b n i:Nat}(h:i<n):(famF b n).contains (b+i)=true:=by
 simp only[famF,Zdz,Zar,ZaJ,ZaI];exact⟨i,h,rfl⟩
theorem Qaq1{b n m:Nat}(h:m<b\/b+n<=m):(famF b n).contains m=false:=by
 simp only[famF,Zdz,Zbb,ZaJ,ZaI];rintro⟨i,hi,rfl⟩;omega
theorem fz_rows{M:List (List Opt)}{b:Nat}{H:Qan}{T:TypeId}(hf: ∀i,i<M.length->hget H (b+i)=some (true,.arr T 3 ((M[i]?.getD []).map Opt.c))):fzAR (famF b M.length) H (Qch b M.length)=imR (M.map Qahr):=by
 rw[Qaq2];apply ZbM;intro i;rw[ZaN,Qch,ZaN,imR,ZaN,ZaN];rcases Zbp i M.length with c|c
 .rw[ZbF c,Zad c]
  have:=hf i c
  rw[Zad c] at this;simp only[ZaO,fzAL,AV.fzA,famF_in c,Zbf,this,ownD,objD,Zag];rfl
 .rw[ZaY (by simpa using c),ZaY c];rfl
def lawOr.rc:D->Option (Bool):=Qa8
def lawOr.re:Bool->D:=D.bool
theorem lawOr.rle: ∀d b,lawOr.rc d=some b->Le d (lawOr.re b):=Qat
def lawOr.ar:List PK->Option ((List Int)×(List Int)):=a2 (kS bytD) (kS bytD)
def lawOr.fv(a:(List Int)×(List Int)):Bool:=(fun _ _=>true) (a.1) (a.2)
def lawOr.row:Row:=vK (b2 (qS Qaq6 Qarj) (qS Qaq6 Qarj)) (RK.mk lawOr.rc lawOr.re lawOr.rle) (fun a=>bytR a.1/\bytR a.2) lawOr.fv
def lawOr.q:=vKq (R:=lawOr.row) rfl
def YaS:=J @lawOr.fv.eq_1<|J @lawOr.rc.eq_1<|J @f6b_.q<|J @f6b_.fv.eq_1<|J @lws_.q<|J @lws_.fv.eq_1<|J @lsc_.q<|J @lsc_.fv.eq_1<|J @GrwNS_.q<|J @GrwNS_.fv.eq_1<|J @layS_.q<|J @layS_.fv.eq_1<|J @PlayI_.q<|J @PlayI_.fv.eq_1<|J @smA_.q<|J @smA_.fv.eq_1<|J @anS_.q<|J @anS_.fv.eq_1<|J @f6i_.q<|J @f6i_.fv.eq_1<|J @IsOrdI_.q @IsOrdI_.fv.eq_1
theorem lawOr.ok:Qas Tryz.prog 3 lawOr.row:=by
 refine vw (tC f6b_.ok (tC lws_.ok (tC lsc_.ok (tC GrwNS_.ok (tC lyI.ok (tC layS_.ok (tC PlayI_.ok (tC smA_.ok (tC anI.ok (tC anS_.ok (tC f6i_.ok (tC IsOrdI_.ok tN)))))))))))) Tryz.func3 rfl (by kernel_rfl) ?_;intro a hpre;simp only[Tryz.f3,Option.getD];simp(maxSteps:=9^9)(disch:=omega)only[ZZ,simprocAttr,rch,YaS];obtain⟨code,more⟩:=a;obtain⟨hp1,hp2⟩:=hpre;simp only at hp1 hp2⊢;simp only[bytD_R,ZbK,decK];split
 case isFalse=>trivial
 split
 .trivial
 refine⟨hp1,hp2,?_⟩;obtain⟨s,hs⟩: ∃s,s=Qarv code:=⟨_,rfl⟩;obtain⟨w,hw⟩: ∃w,w=gwN s (lawSch more) 20:=⟨_,rfl⟩;have hsm:Qf6 s.Set:=hs▸lawSys_sm code;simp only[<-hs,<-hw];split
 .trivial
 rename_i cn;have c0:w.2.2=0:=Zbc.1 cn;clear cn;have hq:seqS s w.1=(w.2.1,0,0):=by rw[hw] at c0⊢;exact gwN_seq c0
 obtain⟨⟨l,a,z⟩,hwe⟩: ∃v,v=w:=⟨_,rfl⟩;rw[<-hwe] at hq c0;simp only[<-hwe] at hq c0⊢;clear hwe hw w;refine orow.nw (s,l) hsm rfl rfl (ly_cl s l) (by simp[lyI.r0,AV.nms,nmsL]) fun HH hH1 hH2=> ?_
 have g0:hget HH 0=some (true,.cells 32 [AV.im (D.sl false 2 (List.map Glue.c s.Set.Glues)),AV.im (D.sl false 2 (List.map Tile.c s.Set.Tiles)),AV.im (D.sl false 3 (List.map Qab.c s.Seed.Tiles)),AV.im (D.int IntKind.i64 s.Temperature)]):=hH2 0 (by omega);have g1:hget HH 1=some (true,.cells 30 [AV.im (D.sl false 3 (List.map Qab.c a.Tiles))]):=hH2 1 (by omega);have gg:OoAt (hget HH) 7 1004 (Qahs s l).1:=oo_at (Qaht s l) hH1;clear hH1 hH2;have eL:Qahs s l=(imN l (levK (Qadm s l) l.length) l.length,0):=by
  simp only[Qahs];rw[Zaj (fun h=>h (by rw[hq]))]
 obtain⟨M,hM⟩: ∃M,M=imN l (levK (Qadm s l) l.length) l.length:=⟨_,rfl⟩;rw[<-hM] at eL;have hMl:M.length<=500:=by have:=Qaht s l;rw[eL] at this;exact this
 simp only[lyI.r0,AV.ren,renL,eL] at gg⊢;have g7:=gg.r;have hrl:(Qch 1004 M.length).length=M.length:=by simp[Qch]
 simp(maxSteps:=9^9)(disch:=omega)only[ZZ,simprocAttr,rch,YaS,sub,Qba,g0,g1,g7,hrl,eL];intro _ _;have hz:z=0:=c0;subst hz;refine Qay.frr ⟨{i:Nat//i<=M.length},fun i=>⟨[(14,.im (.int .i64 i.1)),(13,.own 2005),(11,.im (.sl false 1 (M.map Qahr))),(9,.own 7),(7,.ptr 1 0),(6,.im (.sl false 3 (l.map Opt.c))),(5,.ptr 0 0)],[(0,(true,.cells 32 [AV.im (D.sl false 2 (List.map Glue.c s.Set.Glues)),AV.im (D.sl false 2 (List.map Tile.c s.Set.Tiles)),AV.im (D.sl false 3 (List.map Qab.c s.Seed.Tiles)),AV.im (D.int IntKind.i64 s.Temperature)])),(1,(true,.cells 30 [AV.im (D.sl false 3 (List.map Qab.c a.Tiles))])),(7,(true,.arrA 34 1 (imR (M.map Qahr)))),(2005,(true,.arr 71 3 ((M.take i.1).flatten.map Opt.c)))],2006⟩,fun i=>M.length - i.1,fun i=>⟨by simp[Qad.good,belT,belH,Qam,AV.bel,belL,Qxu],by simp⟩,⟨⟨0,ZaU _⟩,famF 1004 M.length,[(2005,some 2004)],?_⟩,fun i=> ?_⟩
 .have f0:(famF 1004 M.length).contains 0=false:=Qaq1 (by omega);have f1:(famF 1004 M.length).contains 1=false:=Qaq1 (by omega);have f7:(famF 1004 M.length).contains 7=false:=Qaq1 (by omega);have f4:(famF 1004 M.length).contains 2004=false:=Qaq1 (by omega);simp only[subP,Zbk,List.flatten_nil,ZaG];refine⟨by simp[geP],by simp[imP,pm,nodS],?_,?_⟩
  .simp(maxSteps:=9^9)(disch:=omega)only[ZZ,simprocAttr,rch,YaS,f7,f4,Zab,Zaa]
  .simp(maxSteps:=9^9)(disch:=omega)only[ZZ,simprocAttr,rch,YaS,f0,f1,f7,f4,Qarn,g0,g1,g7,Zab,Zaa];refine (ZbJ (mtR _ _) (fz_rows (T:=71) fun i hi=> ?_)).mpr (Qzo _ _);simp only[hget,Qao _ _ (show 2004≠1004+i by omega),ZaS];exact gg.f i hi
 obtain⟨i,hi⟩:=i;have hil:(imR (M.map Qahr)).length=M.length:=by simp[imR]
 have hfl:=Qaro l (levK (Qadm s l) l.length) l.length i (by rw[<-imN_len l,<-hM];exact hi);rw[<-hM] at hfl;have hl5:=(seq_ok (s:=s) (l:=l) (by rw[hq])).2;have hfb:(M.take i).flatten.length<=l.length:=by rw[hfl,Qach,Zbr];exact flatI_len _ _ _
 simp(maxSteps:=9^9)(disch:=omega)only[ZZ,simprocAttr,rch,YaS,sub,Qal,hil];refine fun _=>⟨fun hi2=>⟨hi2,hi2,fun x hx=> ?_⟩,fun hi2=> ?_⟩
 .obtain⟨y,hy⟩: ∃y,M[i]? =some y:=⟨_,Zad hi2⟩;rw[ZaN,hy,ZaO] at hx;obtain rfl:=(Zac hx).symm;simp(maxSteps:=9^9)(disch:=omega)only[ZZ,simprocAttr,rch,YaS,Qahr,Zaq,ZaG,ZbI,Zbk,hy,hil];refine⟨hi2,fun x hx=> ?_⟩;have hxy:x=y:=by first|exact (Zac (hy.symm.trans hx)).symm|(rw[hy] at hx;exact (Zac hx).symm)|(subst hx;rfl)
  subst hxy;rw[Zaj (fun h=>h rfl)];refine⟨hi2,hi2,fun x2 hx2=> ?_⟩;rw[ZaN,hy,ZaO] at hx2;obtain rfl:=(Zac hx2).symm;simp(maxSteps:=9^9)(disch:=omega)only[ZZ,simprocAttr,rch,YaS,Qahr,Zaq,ZaG,ZbI,Zbk,hy,hil];have hxl:x.length<=l.length:=by
   rw[hM] at hy;obtain⟨q,_,rfl⟩:=ZaJ.1 (Zaf hy);exact Qahy _ _ _ _
  refine⟨by simp[OneR,Opt.c,allD,D.one],by omega,⟨i+1,by omega⟩,[],[(2005,some 2006)],by simp only;omega,?_⟩;simp only[subP];simp(maxSteps:=9^9)(disch:=omega)only[ZZ,simprocAttr,rch,YaS,Zab,Zaa,Qzb,Qsg];refine⟨by rw[Qak (by omega) (by omega)];omega,?_⟩;rw[Zfi,hy];simp
 .have him:i=(mxL (levK (Qadm s l) l.length) l.length).toNat:=by rw[<-imN_len l,<-hM];omega
  have hfin:seqI s (M.take i).flatten=(a,0,0):=by
   rw[hfl,him,flat_law (by rw[hq]),hq]
  simp only[hfin];refine⟨hsm,fun _=>⟨fun h=>(h trivial).elim,fun _=> ?_⟩,fun h=>(h trivial).elim⟩;refine Qay.old ⟨{k:Nat//k<=l.length},fun k=>⟨[(18,.im (.int .i64 k.1)),(6,.im (.sl false 3 (l.map Opt.c))),(5,.ptr 0 0)],[(0,(true,.cells 32 [AV.im (D.sl false 2 (List.map Glue.c s.Set.Glues)),AV.im (D.sl false 2 (List.map Tile.c s.Set.Tiles)),AV.im (D.sl false 3 (List.map Qab.c s.Seed.Tiles)),AV.im (D.int IntKind.i64 s.Temperature)]))],2007⟩,fun k=>l.length - k.1,fun k=>⟨by simp[Qad.good,belT,belH,Qam,AV.bel,belL],by simp⟩,⟨⟨0,ZaU _⟩,by simp(maxSteps:=9^9)(disch:=omega)only[ZZ,simprocAttr,rch,YaS,sub]⟩,fun k=> ?_⟩;obtain⟨k,hk⟩:=k;simp(maxSteps:=9^9)(disch:=omega)only[ZZ,simprocAttr,rch,YaS,sub,Qal];refine fun _=>⟨fun hk2=> ?_,fun hk2=> ?_⟩
  .obtain⟨o1,o2,o3⟩:=ordF_law (s:=s) (l:=l) (by rw[hq]) hk2;refine orow.os (s,l,(k:Int)) [] hsm (fun j=>by simp[domB,hget]) rfl rfl ?_ ?_
   .simp(maxSteps:=9^9)(disch:=omega)only[ZZ,simprocAttr,rch,YaS,anI.ca,Qer,Qar.c]
    try exact⟨rfl,rfl⟩
   obtain⟨⟨d,dz⟩,hd⟩: ∃v,v=anSp s l k:=⟨_,rfl⟩;have hdl:=anSp_len s l k;rw[<-hd] at o1 o2 o3 hdl;have o2:dz=0:=o2;subst o2;simp only at o1 o3 hdl;simp(maxSteps:=9^9)(disch:=omega)only[ZZ,simprocAttr,rch,YaS,anI.H1,anI.r0,sub,Zak,<-hd];refine⟨by simp[OneR,intC,allD,D.one],by omega,by simp[OneR,allD,D.one],by omega,?_⟩;obtain⟨oo,hoo⟩: ∃oo:Nat->List Int,oo=ordN (d++[(k:Int)]):=⟨_,rfl⟩;have oo0:oo 0=d++[(k:Int)]:=by rw[hoo];rfl
   have ooS: ∀i:Nat,oo (i+1)=if (i:Int)∈oo i then oo i else oo i++[(i:Int)]:=fun i=>by rw[hoo];rfl
   rw[<-hoo] at o1;simp only[<-hoo] at o3;refine Qay.ren ⟨{i:Nat//i<=l.length},fun i=>⟨[(24,.im (.int .i64 i.1)),(23,.own 2031),(18,.im (.int .i64 k)),(6,.im (.sl false 3 (l.map Opt.c))),(5,.ptr 0 0)],[(0,(true,.cells 32 [AV.im (D.sl false 2 (List.map Glue.c s.Set.Glues)),AV.im (D.sl false 2 (List.map Tile.c s.Set.Tiles)),AV.im (D.sl false 3 (List.map Qab.c s.Seed.Tiles)),AV.im (D.int IntKind.i64 s.Temperature)])),(2031,(true,.arr 2 1 ((oo i.1).map intC)))],2032⟩,fun i=>l.length - i.1,fun i=>⟨by simp[Qad.good,belT,belH,Qam,AV.bel,belL],by simp⟩,⟨⟨0,ZaU _⟩,[(2031,some 2030)],?_⟩,fun i=> ?_⟩
   .simp only[subP,oo0];simp(maxSteps:=9^9)(disch:=omega)only[ZZ,simprocAttr,rch,YaS,Zab,Zaa,ZaT]
    try simp[intC]
   obtain⟨i,hi⟩:=i;have hol:=o3 i hi;simp(maxSteps:=9^9)(disch:=omega)only[ZZ,simprocAttr,rch,YaS,sub,Qal];refine fun _=>⟨fun hi2=> ?_,fun hi2=> ?_⟩
   .refine Qay.old ⟨{j:Nat//j<=(oo i).length},fun j=>⟨[(26,.im (.int .i64 j.1)),(25,.im (.bool (decide ((i:Int)∈(oo i).take j.1)))),(24,.im (.int .i64 i)),(23,.own 2031),(18,.im (.int .i64 k)),(6,.im (.sl false 3 (l.map Opt.c))),(5,.ptr 0 0)],[(0,(true,.cells 32 [AV.im (D.sl false 2 (List.map Glue.c s.Set.Glues)),AV.im (D.sl false 2 (List.map Tile.c s.Set.Tiles)),AV.im (D.sl false 3 (List.map Qab.c s.Seed.Tiles)),AV.im (D.int IntKind.i64 s.Temperature)])),(2031,(true,.arr 2 1 ((oo i).map intC)))],2032⟩,fun j=>(oo i).length - j.1,fun j=>⟨by simp[Qad.good,belT,belH,Qam,AV.bel,belL],by simp⟩,⟨⟨0,ZaU _⟩,by simp(maxSteps:=9^9)(disch:=omega)only[ZZ,simprocAttr,rch,YaS,sub,Zbk,Zca,ZdL]⟩,fun j=> ?_⟩;obtain⟨j,hj⟩:=j;simp(maxSteps:=9^9)(disch:=omega)only[ZZ,simprocAttr,rch,YaS,sub,Qal];have hwj:j<(oo i).length->IntKind.i64.wrap ((j:Int)+1)=((j+1:Nat):Int):=fun h=>by rw[Qak (by omega) (by omega)];omega
    have hwi:IntKind.i64.wrap ((i:Int)+1)=((i+1:Nat):Int):=by rw[Qak (by omega) (by omega)];omega
    refine fun _=>⟨fun hj2=>⟨fun c=>⟨hj2,hj2,fun x hx=>⟨⟨j+1,by omega⟩,by simp only;omega,hwj hj2,?_⟩⟩,fun c=>⟨⟨j+1,by omega⟩,by simp only;omega,hwj hj2,?_⟩⟩,fun hj2=> ?_⟩
    .rw[Zec,Qwe hx,Zan,Zal];exact⟨fun e=> .inr e.symm,fun e=>e.elim (fun e=>absurd e c) fun e=>e.symm⟩
    .have c2:=Zbc.1 c;symm;rw[Zar,Zfi];exact Zbl _ c2
    .have hje:(oo i).take j=oo i:=ZaL (by omega);simp only[hje];refine⟨fun c=>⟨by simp[OneR,allD,D.one],by omega,⟨i+1,by omega⟩,[(2031,some 2033)],by simp only;omega,?_⟩,fun c=>⟨⟨i+1,by omega⟩,[],by simp only;omega,?_⟩⟩
     .simp only[subP,ooS i,Zaj c];simp(maxSteps:=9^9)(disch:=omega)only[ZZ,simprocAttr,rch,YaS,Zab,Zaa,ZaT];exact hwi
     .simp only[subP,ooS i,Zao (Zbc.1 c)];simp(maxSteps:=9^9)(disch:=omega)only[ZZ,simprocAttr,rch,YaS,Zab,Zaa,ZaT];exact hwi
   .obtain rfl:i=l.length:=by omega
    simp only[o1];refine⟨⟨hsm,by omega⟩,fun _=>⟨fun h=>by simp at h,fun _=>⟨⟨k+1,by omega⟩,by simp only;omega,?_⟩⟩,fun h=>(h trivial).elim⟩;rw[Qak (by omega) (by omega)];simp only;omega
  .trivial
end Go.Ae
