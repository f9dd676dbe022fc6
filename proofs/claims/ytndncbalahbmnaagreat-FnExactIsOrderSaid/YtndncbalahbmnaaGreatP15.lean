/- What is proved: the law FnExactIsOrder returns true for every input, and each argument reads afterwards as it read before. Conditions: none. -/
import Derived.Test.YtndncbalahbmnaaGreatP14
import Derived.Shelf.SortM.Plain
import Derived.Shelf.SortM.SortNone
set_option linter.all false
set_option maxHeartbeats 8000000
set_option maxRecDepth 100000
namespace Go.Proofs
open Go.Shelf
def Tryz.sortI_ren:Go.Shelf.Ren:=⟨fun|5=>45|8=>69|7=>68|19=>101|20=>102|10=>92|11=>93|12=>94|13=>95|14=>96|15=>97|16=>98|17=>99|18=>100|30=>125|31=>126|32=>127|33=>128|34=>129|35=>130|40=>161|n=>n,fun|23=>32|25=>2|3=>3|32=>133|22=>32|0=>0|44=>163|46=>165|4=>4|36=>155|35=>154|41=>160|5=>5|9=>9|53=>191|57=>195|63=>228|64=>229|n=>n,fun|n=>n⟩
theorem Tryz.sortI:Go.Proofs.SlLaysM.n5 Tryz.prog Tryz.sortI_ren:={
 mixed:=by kernel_rfl
 f5:=⟨Tryz.f45.name,by decide,Tryz.func45.trans (congrArg some (by kernel_rfl))⟩
 f7:=⟨Tryz.f68.name,by decide,Tryz.func68.trans (congrArg some (by kernel_rfl))⟩
 f8:=Tryz.func69.trans (congrArg some (by kernel_rfl))
 f10:=⟨Tryz.f92.name,by decide,Tryz.func92.trans (congrArg some (by kernel_rfl))⟩
 f11:=⟨Tryz.f93.name,by decide,Tryz.func93.trans (congrArg some (by kernel_rfl))⟩
 f12:=⟨Tryz.f94.name,by decide,Tryz.func94.trans (congrArg some (by kernel_rfl))⟩
 f13:=⟨Tryz.f95.name,by decide,Tryz.func95.trans (congrArg some (by kernel_rfl))⟩
 f14:=⟨Tryz.f96.name,by decide,Tryz.func96.trans (congrArg some (by kernel_rfl))⟩
 f15:=⟨Tryz.f97.name,by decide,Tryz.func97.trans (congrArg some (by kernel_rfl))⟩
 f16:=⟨Tryz.f98.name,by decide,Tryz.func98.trans (congrArg some (by kernel_rfl))⟩
 f17:=⟨Tryz.f99.name,by decide,Tryz.func99.trans (congrArg some (by kernel_rfl))⟩
 f18:=⟨Tryz.f100.name,by decide,Tryz.func100.trans (congrArg some (by kernel_rfl))⟩
 f19:=Tryz.func101.trans (congrArg some (by kernel_rfl))
 f20:=Tryz.func102.trans (congrArg some (by kernel_rfl))
 f30:=⟨Tryz.f125.name,by decide,Tryz.func125.trans (congrArg some (by kernel_rfl))⟩
 f31:=Tryz.func126.trans (congrArg some (by kernel_rfl))
 f32:=Tryz.func127.trans (congrArg some (by kernel_rfl))
 f33:=⟨Tryz.f128.name,by decide,Tryz.func128.trans (congrArg some (by kernel_rfl))⟩
 f34:=⟨Tryz.f129.name,by decide,Tryz.func129.trans (congrArg some (by kernel_rfl))⟩
 f35:=⟨Tryz.f130.name,by decide,Tryz.func130.trans (congrArg some (by kernel_rfl))⟩
 f40:=⟨Tryz.f161.name,by decide,Tryz.func161.trans (congrArg some (by kernel_rfl))⟩
 t0:=Tryz.underlying0
 a0:=Tryz.isAgg0
 z0:=Tryz.sizeOf0
 v0:=Tryz.zeroValue0
 t3:=Tryz.underlying3
 a3:=Tryz.isAgg3
 z3:=Tryz.sizeOf3
 v3:=Tryz.zeroValue3
 t4:=Tryz.underlying4
 a4:=Tryz.isAgg4
 z4:=Tryz.sizeOf4
 v4:=Tryz.zeroValue4
 t5:=Tryz.underlying5
 a5:=Tryz.isAgg5
 z5:=Tryz.sizeOf5
 v5:=Tryz.zeroValue5
 t9:=Tryz.underlying9
 a9:=Tryz.isAgg9
 z9:=Tryz.sizeOf9
 v9:=Tryz.zeroValue9
 t22:=Tryz.underlying32
 a22:=Tryz.isAgg32
 z22:=Tryz.sizeOf32
 v22:=Tryz.zeroValue32
 t23:=Tryz.underlying32
 a23:=Tryz.isAgg32
 z23:=Tryz.sizeOf32
 v23:=Tryz.zeroValue32
 t25:=Tryz.underlying2
 a25:=Tryz.isAgg2
 z25:=Tryz.sizeOf2
 v25:=Tryz.zeroValue2
 t32:=Tryz.underlying133
 a32:=Tryz.isAgg133
 z32:=Tryz.sizeOf133
 v32:=Tryz.zeroValue133
 t35:=Tryz.underlying154
 a35:=Tryz.isAgg154
 z35:=Tryz.sizeOf154
 v35:=Tryz.zeroValue154
 t36:=Tryz.underlying155
 a36:=Tryz.isAgg155
 z36:=Tryz.sizeOf155
 v36:=Tryz.zeroValue155
 t41:=Tryz.underlying160
 a41:=Tryz.isAgg160
 z41:=Tryz.sizeOf160
 v41:=Tryz.zeroValue160
 t44:=Tryz.underlying163
 a44:=Tryz.isAgg163
 z44:=Tryz.sizeOf163
 v44:=Tryz.zeroValue163
 t46:=Tryz.underlying165
 a46:=Tryz.isAgg165
 z46:=Tryz.sizeOf165
 v46:=Tryz.zeroValue165
 t53:=Tryz.underlying191
 a53:=Tryz.isAgg191
 z53:=Tryz.sizeOf191
 v53:=Tryz.zeroValue191
 t57:=Tryz.underlying195
 a57:=Tryz.isAgg195
 z57:=Tryz.sizeOf195
 v57:=Tryz.zeroValue195
 t63:=Tryz.underlying228
 a63:=Tryz.isAgg228
 z63:=Tryz.sizeOf228
 v63:=Tryz.zeroValue228
 t64:=Tryz.underlying229
 a64:=Tryz.isAgg229
 z64:=Tryz.sizeOf229
 v64:=Tryz.zeroValue229}
end Go.Proofs
namespace Go.Ae
open Go.Proofs Go.Sort Go.Shelf
def cloI.ca(a:List Int):List AV:=[.im (.sl false 1 (a.map intC))]
def cloI.H1(a:List Int):Qan:=[(0,(true,.arr 2 1 (a.map intC)))]
def cloI.row:Row:=orow cloI.ca (fun _=>[]) 0 (fun a=>a.length≤4194304) (fun _=>false) (fun _=> .own 0) cloI.H1 20
theorem cloI.ok:Qas Tryz.prog 44 cloI.row:=by
 refine Qnh Qaq tN Tryz.func44 rfl (by kernel_rfl) (by kernel_rfl) (exB:=fun j=>j==0) (R:=fun _ r=>r= .own 0) (n:=1) (fun _=>rfl) (by decide)
  (fun a=>by simp[cloI.ca,cloI.H1,belL,AV.bel]) (fun a=>by simp[cloI.ca,cloI.H1,belH,belL,AV.bel]) (fun a=>by simp[cloI.ca,cloI.H1,Qam])
  (fun a=>by simp[Qc2,cloI.ca,cloI.H1,AObj.nms,nmsL,AV.nms,domB,hget]) (fun a p hp=> ?_) (fun a r h=>by subst h;exact LeV.refl _) ?_
 rotate_left
 intro a hpre;simp only[Tryz.f44,Option.getD,cloI.ca,cloI.H1];simp (config:={maxSteps:=10000000}) (disch:=omega) only[ZA,ZT,simprocAttr,Asm.d,rch,Qc7,Qah,Qag,Qac,Qaf,Qai,List.getD_cons_zero,List.getD_cons_succ,cloI.ca,cloI.H1];intro b hb;split
 ·rename_i h;have h0:=hb h;refine⟨[],[(0,some 1)],⟨[(2,.own 0)],cloI.H1 a,1⟩,?_,by simp[cloI.H1,Qad.good,belT,belH,Qam,AV.bel,belL],by simp,?_⟩
  ·simp only[subP,cloI.H1,h0];simp (config:={maxSteps:=10000000}) (disch:=omega) only[ZA,ZT,simprocAttr,Asm.d,rch,Qc7,Qah,Qag,Qac,Qaf,Qai,List.getD_cons_zero,List.getD_cons_succ,cloI.ca,cloI.H1,Option.some_beq_some,Option.some_beq_none]
  ·simp (config:={maxSteps:=10000000}) (disch:=omega) only[ZA,ZT,simprocAttr,Asm.d,rch,Qc7,Qah,Qag,Qac,Qaf,Qai,List.getD_cons_zero,List.getD_cons_succ,cloI.ca,cloI.H1]
 ·refine⟨by omega,[],[(0,some 2)],⟨[(2,.own 0)],cloI.H1 a,1⟩,?_,by simp[cloI.H1,Qad.good,belT,belH,Qam,AV.bel,belL],by simp,?_⟩
  ·simp only[subP,cloI.H1];simp (config:={maxSteps:=10000000}) (disch:=omega) only[ZA,ZT,simprocAttr,Asm.d,rch,Qc7,Qah,Qag,Qac,Qaf,Qai,List.getD_cons_zero,List.getD_cons_succ,cloI.ca,cloI.H1,Option.some_beq_some,Option.some_beq_none]
  ·simp (config:={maxSteps:=10000000}) (disch:=omega) only[ZA,ZT,simprocAttr,Asm.d,rch,Qc7,Qah,Qag,Qac,Qaf,Qai,List.getD_cons_zero,List.getD_cons_succ,cloI.ca,cloI.H1]
 simp[cloI.H1] at hp;subst hp;exact .inr ⟨by omega,by omega,rfl,rfl⟩
def sortI(l:List Int):List Int:=l.mergeSort fun x y=>decide (x≤y)
theorem Qaci(l:List Int):(sortI l).length=l.length:=List.length_mergeSort l
def flI(l:List Int):List Value:=l.map (Value.int .i64)
theorem Qac2{ok:Nat→Prop}{hp:Nat→Option Obj}: ∀(l:List Int) (L:List Value),rdr ok hp 1 (l.map intC) L↔ ∃r,L=flI l++r
 |[],L=>by simp[rdr,flI]
 |x::r,L=>by
  simp only[List.map_cons,rdr,Qac2 r,intC,rdp,rd,flI,List.map_cons];constructor
  ·rintro⟨_,⟨v,L1,rfl,rfl,_⟩,q,hq⟩;exact⟨q,by simp only[List.drop_succ_cons,List.drop_zero] at hq;rw[hq];rfl⟩
  ·rintro⟨q,rfl⟩;exact⟨rfl,⟨_,_,rfl,rfl,trivial⟩,q,rfl⟩
theorem Qacs(l:List Int):(flI l).length=l.length:=List.length_map ..
def srI.ca(_:List Int):List AV:=[.own 0]
def srI.H0(a:List Int):Qan:=[(0,(true,.arr 2 1 (a.map intC)))]
def srI.H1(a:List Int):Qan:=[(0,(true,.arr 2 1 ((sortI a).map intC)))]
def srI.row:Row:=orow srI.ca srI.H0 1 (fun _=>True) (fun _=>true) (fun _=> .im (.tup [])) srI.H1 0
theorem srI.ok:Qas Tryz.prog 45 srI.row:=by
 rintro args h nx K ⟨a,τ,U,KL,hpre,rfl,hheap,hN,hK⟩;refine⟨Qh7 (by kernel_rfl),_,_,?_,hK⟩;intro C S vs R hW huse hfresh hnames hargs hfin;have hs0:sgx τ 1 nx 0=τ 0:=if_pos (by omega);simp only[srI.ca,renL,AV.ren,hs0,Qa0,conc] at hargs;obtain⟨v0,r0,hv,⟨hone,hown⟩,hr1⟩:=hargs;subst hr1;have hvs:vs= #[v0]:=by apply Array.ext';simpa using hv
 subst hvs;have hm:h (τ 0)=some (true,.arr 2 1 (a.map intC)):=by
  have:=hheap.1
  rwa [hs0] at this
 have hd0:domB (srI.H0 a) 0=true:=rfl;have hSm:S.h (τ 0)=some (true,.arr 2 1 (a.map intC)):=by
  rw[huse (τ 0) (List.mem_append_left _ (hN.u 0 hd0)),hm]
 have hk0: ∀n,n∈KL↔n=τ 0:=by
  intro n;constructor
  ·intro hn;obtain⟨j,h1,_,h3⟩:=hN.k1 n hn
   have:j=0:=by
    simp only[domB,srI.H0,hget] at h1;by_cases hj:j=0
    ·exact hj
    ·have:(0==j)=false:=by simpa using fun h=>hj h.symm
     rw[this] at h1;cases h1
   rw[h3,this]
  ·rintro rfl;exact hN.k2 0 hd0 rfl
 obtain⟨m,hmm⟩: ∃m,m=τ 0:=⟨_,rfl⟩;rw[←hmm] at hSm hown hk0;have hsl:=Qaci a;have fin: ∀(w':World),Qjb S m (.arr 2 1 ((sortI a).map intC)) (S.ρ m) [m] w'→
  (Pres (fun n=>S.h m≠none∨n≠m) S (S.one m (.arr 2 1 ((sortI a).map intC)) (S.ρ m) [m] w')→objc (S.one m (.arr 2 1 ((sortI a).map intC)) (S.ρ m) [m] w') (S.ρ m) (.arr 2 1 ((sortI a).map intC)))→R (.returned (.tuple #[])) w':=by
  intro w' hone hob;have hp:=Qg2 hW hone;refine hfin (.tuple #[]) _ (Qqp hW hone (hob hp)) ?_ ⟨hp.ok,fun n _=>hp.nm n (.inl (by rw[hSm];simp))⟩ ⟨#[],rfl,rfl⟩;funext n;simp only[Env.one,Eff.appf,srI.H1,renH,hs0,hget,AObj.ren,←hmm];by_cases hn:n=m
  ·subst hn;simp
  ·have h1:(m==n)=false:=by simpa using fun h=>hn h.symm
   have h2:KL.contains n=false:=by
    rw[←Bool.not_eq_true,List.contains_iff_mem,hk0];exact hn
   simp only[h1,cond_false,h2,hn,if_false,List.mem_singleton]
 have hown':=hown _ hSm;have hobj:=hW.obj _ _ hSm;have hloc:=fun lc=>hW.loc m _ lc hSm
 cases hρ:S.ρ m with
 |none=>
  rw[hρ] at hown' hobj;simp only[objc] at hobj;have ha:a=[]:=by simpa using hobj.2
  subst ha;simp only at hown';rw[hown'];refine (AnyM.slices_Sort_int_none Tryz.sortI none 0 S.w).mono ?_;rintro e w' ⟨rfl,rfl⟩;refine fin S.w (Qacz hSm (fun l hl=>by rw[hρ] at hl;cases hl) (by first|rfl|simp[AObj.len,sortI]) (by first|rfl|simp[AObj.len,sortI])) (fun _=> ?_);rw[hρ];exact⟨by simp[sortI],by simp[sortI]⟩
 |some lc=>
  rw[hρ] at hown' hobj;simp only[objc,AObj.len] at hobj hown';obtain⟨g1,g2,cv,g3,g4,g5⟩:=hobj;obtain⟨hlb,hlk⟩:=hloc lc hρ;rw[Qac2] at g5;obtain⟨rest,g5⟩:=g5;simp only[List.length_map] at g1 g2 hown';have hheap:S.w.heap[lc.b]? =some (.cells cv 2 (0,0)):=g3;have hlen:lc.p+a.length≤cv.size:=by omega
  have hget: ∀j,j<a.length→cv[lc.p+j]? =some (Value.int .i64 (a.toArray[j]!)):=by
   intro j hj;have h1:(cv.toList.drop lc.p)[j]? =(flI a++rest)[j]? :=by rw[g5]
   rw[List.getElem?_drop,Array.getElem?_toList,List.getElem?_append_left (by rw[Qacs];exact hj),flI,List.getElem?_map,List.getElem?_eq_getElem hj] at h1;rw[h1,getElem!_pos _ _ (by simpa using hj)];simp
  have hH:Holds (Value.int .i64) S.w lc.b lc.p a.toArray:=by
   intro j hj;have hj:j<a.length:=by simpa using hj
   refine⟨?_,?_⟩
   ·simp only[World.cell?,hheap,Option.isSome_none,Bool.false_eq_true,if_false,id];exact hget j hj
   ·simp only[World.frozen?,hheap];simp
  have hc:=AnyM.slices_Sort_int Tryz.sortI lc.b lc.p lc.cap a S.w hH hlb (by simp only[LIM] at g1⊢;omega);rw[hown'];refine hc.mono ?_;rintro e w' ⟨rfl,n,os,rfl⟩;change R _ (grow (putRow (Value.int .i64) (Sort.ahead S.w n) lc.b lc.p (sortI a).toArray) os);have hsize:S.w.heap.size≤(grow (putRow (Value.int .i64) (Sort.ahead S.w n) lc.b lc.p (sortI a).toArray) os).heap.size:=by
   simp[grow,putRow,mapBlock,Sort.ahead]
  have hb: ∀b,b<S.w.heap.size→(grow (putRow (Value.int .i64) (Sort.ahead S.w n) lc.b lc.p (sortI a).toArray) os).heap[b]? =if lc.b=b then S.w.heap[b]?.map (onCells (putCells (Value.int .i64) lc.p (sortI a).toArray)) else S.w.heap[b]? :=by
   intro b hb;have e0:b<(putRow (Value.int .i64) (Sort.ahead S.w n) lc.b lc.p (sortI a).toArray).heap.size:=by simpa[putRow,mapBlock,Sort.ahead] using hb
   simp only[grow];rw[Array.getElem?_append_left e0];simp only[putRow,mapBlock,Sort.ahead,Array.getElem?_modify]
  refine fin _ ⟨rfl,rfl,rfl,hsize,?_,.inl (by simp),?_,?_,?_⟩ ?_
  ·intro b hb1 hb2;rw[hb b hb1,if_neg (hb2 m _ lc (by simp) hSm hρ)]
  ·intro lo hlo;rw[hρ] at hlo;obtain rfl:=Option.some.inj hlo;exact⟨Nat.lt_of_lt_of_le hlb hsize,.inr ⟨m,_,lc,by simp,hSm,hρ,rfl⟩⟩
  ·intro f hf;rw[hSm] at hf;obtain rfl:=Option.some.inj hf;exact⟨rfl,rfl,by simp[AObj.len,hsl]⟩
  ·intro n' f _ hnone;rw[hSm] at hnone;cases hnone
  ·intro _;rw[hρ];simp only[objc,List.length_map,hsl];refine⟨g1,g2,putCells (Value.int .i64) lc.p (sortI a).toArray cv,?_,by simpa[putCells] using g4,?_⟩
   ·simp only[Env.one,Env.hp];rw[hb lc.b hlb,if_pos rfl,hheap];rfl
   ·rw[Qac2];refine⟨(cv.toList.drop (lc.p+a.length)),?_⟩;apply List.ext_getElem?;intro t;rw[List.getElem?_drop,Array.getElem?_toList,putCells,Array.getElem?_mapIdx];by_cases ht:t<a.length
    ·rw[List.getElem?_append_left (by rw[Qacs,hsl];exact ht),flI,List.getElem?_map,List.getElem?_eq_getElem (by rw[hsl];exact ht),Array.getElem?_eq_getElem (show lc.p+t<cv.size by omega)];simp only[Option.map_some];rw[if_pos ⟨by omega,by simp[hsl];omega⟩,Nat.add_sub_cancel_left,getElem!_pos _ _ (by simpa[hsl] using ht)];simp
    ·rw[List.getElem?_append_right (by rw[Qacs,hsl];omega),Qacs,hsl,List.getElem?_drop,Array.getElem?_toList,show lc.p+a.length+(t - a.length)=lc.p+t by omega];cases cv[lc.p+t]? with
     |none=>rfl
     |some x=>simp only[Option.map_some];rw[if_neg (by simp[hsl];omega)]
def rgI(n:Nat):List Int:=(List.range n).map fun (i:Nat)=>(i:Int)
theorem rgI_len(n:Nat):(rgI n).length=n:=by simp[rgI]
theorem rgI_get{n k:Nat}(h:k<n):(rgI n)[k]? =some (k:Int):=by simp only[rgI,List.getElem?_map];rw[List.getElem?_range h];rfl
def Qacf(o:List Int)(n:Int):Bool:=decide (sortI o=rgI o.length) && decide ((o.length:Int)=n)
def isOrder_.ar:List PK→Option ((List Int)×Int):=a2 (kS intD) kI
def isOrder_.ae(a:(List Int)×Int):List PK:=[.val (.sl false 1 (a.1.map intC)),.val (.int .i64 a.2)]
def isOrder_.fv(a:(List Int)×Int):Bool:=(Qacf) (a.1) (a.2)
def isOrder_.row:Row:=Qfi isOrder_.ar (fun a=>a.1.length≤4194304) (fun a=>(D.bool) (isOrder_.fv a))
def isOrder_.q(a:List AV)(h:Nat→Option Ent)(n:Nat)(K:Kont):=show isOrder_.row a h n K=Qct _ _ _ (rchL h a) K (pkFL h a) from rfl
theorem isOrder_.ok:Qas Tryz.prog 23 isOrder_.row:=by
 refine Qbn Qaq (tC cloI.ok (tC srI.ok tN)) Tryz.func23 rfl (by kernel_rfl) (by kernel_rfl) (ar:=isOrder_.ar) (ae:=isOrder_.ae) (Qaca (Qacb 1 Qb3 (fun _=>rfl)) Qab9) (n:=2) (fun _=>rfl) (by decide) (rc:=(Qa8)) (re:=(D.bool)) (Qat) (f:=isOrder_.fv) ?_;intro a hpre;simp only[Tryz.f23,Option.getD];simp (config:={maxSteps:=10000000}) (disch:=omega) only[ZA,ZT,simprocAttr,Asm.d,rch,isOrder_.ae,isOrder_.fv,Qah,Qag,Qac,Qaf,Qai,D.sc,D.scs,scL,decD];refine orow.os a.1 [] hpre (fun j=>by simp[domB,hget]) rfl rfl ?_ ?_
 ·simp (config:={maxSteps:=10000000}) (disch:=omega) only[ZA,ZT,simprocAttr,Asm.d,rch,isOrder_.ae,isOrder_.fv,Qah,Qag,Qac,Qaf,Qai,D.sc,D.scs,scL,decD,cloI.ca,Qer,Qb4]
 simp (config:={maxSteps:=10000000}) (disch:=omega) only[ZA,ZT,simprocAttr,Asm.d,rch,isOrder_.ae,isOrder_.fv,Qah,Qag,Qac,Qaf,Qai,D.sc,D.scs,scL,decD,cloI.H1,sub];refine orow.os a.1 [0] trivial (fun j=> ?_) rfl rfl ?_ ?_
 ·simp only[domB,srI.H0,hget];by_cases hj:j=0
  ·subst hj;simp
  ·have:(0==j)=false:=by simpa using fun h=>hj h.symm
   rw[this];simp;omega
 ·simp (config:={maxSteps:=10000000}) (disch:=omega) only[ZA,ZT,simprocAttr,Asm.d,rch,isOrder_.ae,isOrder_.fv,Qah,Qag,Qac,Qaf,Qai,D.sc,D.scs,scL,decD,srI.ca,srI.H0,Qer]
  try exact⟨rfl,rfl⟩
 simp (config:={maxSteps:=10000000}) (disch:=omega) only[ZA,ZT,simprocAttr,Asm.d,rch,isOrder_.ae,isOrder_.fv,Qah,Qag,Qac,Qaf,Qai,D.sc,D.scs,scL,decD,srI.H1,sub,List.getD_cons_zero,List.getD_cons_succ];obtain⟨o,n⟩:=a;simp only at hpre⊢;have hsl:=Qaci o;have hrl:(sortI o).length=(rgI o.length).length:=by rw[hsl,rgI_len]
 intro _;refine Qay.old ⟨{k:Nat//k≤(sortI o).length∧(sortI o).take k=(rgI o.length).take k},fun k=>⟨[(14,.im (.int .i64 k.1)),(13,.im (.int .i64 (sortI o).length)),(12,.own 0),(4,.im (.bool false)),(0,.im (.sl false 1 (o.map intC))),(1,.im (.int .i64 n))],[(0,(true,.arr 2 1 ((sortI o).map intC)))],20⟩,fun k=>(sortI o).length - k.1,fun k=>⟨by simp[Qad.good,belT,belH,Qam,AV.bel,belL],by simp⟩,⟨⟨0,by simp⟩,by simp (config:={maxSteps:=10000000}) (disch:=omega) only[ZA,ZT,simprocAttr,Asm.d,rch,isOrder_.ae,isOrder_.fv,Qah,Qag,Qac,Qaf,Qai,D.sc,D.scs,scL,decD,sub]⟩,fun k=> ?_⟩;obtain⟨k,hk1,hk2⟩:=k;simp (config:={maxSteps:=10000000}) (disch:=omega) only[ZA,ZT,simprocAttr,Asm.d,rch,isOrder_.ae,isOrder_.fv,Qah,Qag,Qac,Qaf,Qai,D.sc,D.scs,scL,decD,sub,Qal];refine⟨fun hk=>⟨hk,hk,fun x hx=> ?_⟩,fun hk=> ?_⟩
 ·obtain⟨g1,g2⟩:=Qew hrl hk1 hk2 hx (rgI_get (n:=o.length) (by omega));refine⟨fun h=> ?_,fun h=>Qb6 hk (by omega) ⟨by omega,g1 (Classical.not_not.1 h)⟩⟩;simp only[Qacf];rw[decide_eq_false (g2 h),Bool.false_and]
 ·rw[List.take_of_length_le (by omega),List.take_of_length_le (by omega)] at hk2;intro _;simp only[Qacf];rw[decide_eq_true hk2,Bool.true_and]
end Go.Ae
namespace Go.Ae
open Go.Proofs
def seqI(s:Qar)(l:List Opt):Asm×Int×Int:=if Qk1 s=false then (⟨[]⟩,0,1) else if 500<l.length then (⟨[]⟩,0,2) else Qacn s (tlUp s.Seed.Tiles) l 0
theorem Qacl{β:Type}(p:Qae)(v:β): ∀(t:List (Qae×β)),(t.map Prod.fst).Nodup→((updP t p v).map Prod.fst).Nodup∧(∀q,q∈(updP t p v).map Prod.fst→q=p∨q∈t.map Prod.fst)∧(updP t p v).length≤t.length+1
 |[],_=>by simp[updP]
 |(k,w)::r,h=>by
  rw[List.map_cons,List.nodup_cons] at h;simp only[updP];by_cases c:p=k
  ·subst c;rw[if_pos rfl];refine⟨by rw[List.map_cons,List.nodup_cons];exact h,fun q hq=> .inr hq,by simp⟩
  ·rw[if_neg c];obtain⟨h1,h2,h3⟩:=Qacl p v r h.2;refine⟨?_,?_,by simp only[List.length_cons];omega⟩
   ·rw[List.map_cons,List.nodup_cons];refine⟨fun hk=> ?_,h1⟩;rcases h2 _ hk with hk|hk
    ·exact c hk.symm
    ·exact h.1 hk
   ·intro q hq;rw[List.map_cons] at hq⊢;rcases List.mem_cons.1 hq with rfl|hq
    ·exact .inr (List.mem_cons_self ..)
    ·rcases h2 _ hq with hq|hq
     ·exact .inl hq
     ·exact .inr (List.mem_cons_of_mem _ hq)
theorem tlUp_keys(l:List Qab):((tlUp l).map Prod.fst).Nodup∧(tlUp l).length≤l.length:=by
 have key: ∀(l:List Qab) (t:List (Qae×Int)),(t.map Prod.fst).Nodup→((l.foldl (fun t x=>updP t x.At x.Tile) t).map Prod.fst).Nodup∧(l.foldl (fun t x=>updP t x.At x.Tile) t).length≤t.length+l.length:=by
  intro l;induction l with
  |nil=>intro t h;exact⟨h,by simp⟩
  |cons x r ih=>
   intro t h;obtain⟨h1,_,h3⟩:=Qacl x.At x.Tile t h;obtain⟨h4,h5⟩:=ih _ h1;exact⟨h4,by simp only[List.foldl_cons,List.length_cons] at h5⊢;omega⟩
 have:=key l [] (by simp)
 exact⟨this.1,by simpa[tlUp] using this.2⟩
theorem Qac7{s:Qar}{l:List Opt}{i:Nat}{o:Opt}(hx:l[i]? =some o)(t:List (Qae×Int)):Qacn s t (l.drop i) i=if (Qau o.Tile 0 (s.Set.Tiles.length - 1) && Qpg s (Qbw t) o.At o.Tile)=false then (⟨[]⟩,(i:Int),5) else if 500≤t.length then (⟨[]⟩,0,4) else Qacn s (updP t o.At o.Tile) (l.drop (i+1)) (i+1):=by
 rw[Qd3 hx,Qacn]
def PlayI_.ar:List PK→Option (Qar×(List Opt)):=a2 (kR Qar.d) (kS Opt.d)
def PlayI_.ae(a:Qar×(List Opt)):List PK:=[.val (.agg (Qar.c a.1)),.val (.sl false 3 (a.2.map Opt.c))]
def PlayI_.fv(a:Qar×(List Opt)):Asm×Int×Int:=(seqI) (a.1) (a.2)
def PlayI_.row:Row:=vrow PlayI_.ar (fun a=>Qf6 a.1.Set) (fun a=>(fun b=>D.tup [(fun b=>D.agg (Asm.c b)) (b.1),(D.int .i64) (b.2.1),(D.int .i64) (b.2.2)]) (PlayI_.fv a))
def PlayI_.q(a:List AV)(h:Nat→Option Ent)(n:Nat)(K:Kont):=show PlayI_.row a h n K=Qa1 _ _ _ (nmsL a) K (pkL h a) from rfl
theorem PlayI_.ok:Qas Tryz.prog 22 PlayI_.row:=by
 refine Qaj Qaq (tC validI_.ok (tC newC.ok (tC isTile.ok (tC fitsC.ok (tC putC.ok (tC asmC.ok tN)))))) Tryz.func22 rfl (by kernel_rfl) (by kernel_rfl) (ar:=PlayI_.ar) (ae:=PlayI_.ae) (Qaca (Qab8 Qar.d_le) (Qacb 3 Opt.d_le (fun _=>rfl))) (n:=2) (fun _=>rfl) (by decide) (rc:=(Qac1 (vAgg Asm.d) (vInt) (vInt))) (re:=(fun b=>D.tup [(fun b=>D.agg (Asm.c b)) (b.1),(D.int .i64) (b.2.1),(D.int .i64) (b.2.2)])) (Qact (Qb1 Asm.d_le) (Qa3) (Qa3)) (f:=PlayI_.fv) ?_;intro a hpre;simp only[Tryz.f22,Option.getD];simp (config:={maxSteps:=10000000}) (disch:=omega) only[ZA,ZT,simprocAttr,Asm.d,rch,PlayI_.ae,PlayI_.fv,validI_.q,validI_.ar,validI_.fv,isTile.q,isTile.ar,isTile.fv,fitsC.q,fitsC.ar,fitsC.fv];obtain⟨s,l⟩:=a;simp only at hpre⊢;refine⟨hpre,?_⟩;by_cases c1:Qk1 s=false
 ·rw[if_pos c1];simp only[seqI];rw[if_pos c1]
 rw[if_neg c1];intro _;by_cases c2:500<l.length
 ·rw[if_pos (by omega)];simp only[seqI];rw[if_neg c1,if_pos c2]
 rw[if_neg (by omega)];have eR:seqI s l=Qacn s (tlUp s.Seed.Tiles) l 0:=by simp only[seqI];rw[if_neg c1,if_neg c2]
 rw[Bool.not_eq_false,Qacv] at c1;obtain⟨⟨q1,q2,q3,_⟩,q5,q6⟩:=Qacj c1;have hbp:=Qof (s:=s.Set) (a:=s.Seed) (by rw[q5,q6];rfl);have hnp:newC.pre (s,s.Seed):=⟨q1,by simp only;omega,fun y hy=>⟨q2.2 y hy,hbp.1.2.2.2 y hy⟩⟩;have hcp:=cryOf_pre hnp;have hk0:=tlUp_keys s.Seed.Tiles;refine orow.os (s,s.Seed) [] hnp (fun j=>by simp[domB,hget]) rfl rfl ?_ ?_
 ·simp (config:={maxSteps:=10000000}) (disch:=omega) only[ZA,ZT,simprocAttr,Asm.d,rch,PlayI_.ae,PlayI_.fv,validI_.q,validI_.ar,validI_.fv,isTile.q,isTile.ar,isTile.fv,fitsC.q,fitsC.ar,fitsC.fv,newC.ca,Qer,Qar.c,Asm.c]
 simp (config:={maxSteps:=10000000}) (disch:=omega) only[ZA,ZT,simprocAttr,Asm.d,rch,PlayI_.ae,PlayI_.fv,validI_.q,validI_.ar,validI_.fv,isTile.q,isTile.ar,isTile.fv,fitsC.q,fitsC.ar,fitsC.fv,newC.H1,sub];intro _;refine Qay.old ⟨{k:Nat×List (Qae×Int)×List (Qae×List Int)//k.1≤l.length∧inF s.Set (Qbw k.2.1)∧(k.2.1.map Prod.fst).Nodup∧k.2.1.length≤1000∧seqI s l=Qacn s k.2.1 (l.drop k.1) k.1},fun k=>⟨[(26,.im (.int .i64 k.1.1)),(25,.im (.int .i64 l.length)),(24,.im (.sl false 3 (l.map Opt.c))),(7,.ptr 6 0),(6,.im (.int .i64 0)),(5,.im (.int .i64 0)),(4,.ptr 1 0),(2,.ptr 0 0)],[(6,(true,.cells 97 [.im (.sl false 2 (s.Set.Glues.map Glue.c)),.im (.sl false 2 (s.Set.Tiles.map Tile.c)),.im (.sl false 3 (s.Seed.Tiles.map Qab.c)),.im (.int .i64 s.Temperature),.mp 4,.mp 5])),
  (4,(true,.map ⟨true,[.int .i64,.int .i64]⟩ (k.1.2.1.map Qbe))),(5,(true,.map ⟨true,[.int .i64,.int .i64]⟩ (k.1.2.2.map Qbc))),(1,(true,.cells 43 [.im (.sl true 0 [])])),(0,(true,.cells 45 ((Qar.c s).map .im)))],7⟩,fun k=>l.length - k.1.1,fun k=>⟨by simp[Qad.good,belT,belH,Qam,AV.bel,belL,Qar.c],by simp⟩,⟨⟨(0,(cryOf s s.Seed).Tl,(cryOf s s.Seed).Op),by simp only;exact⟨Nat.zero_le _,hcp.2.1,hk0.1,Nat.le_trans hk0.2 (by omega),eR⟩⟩,by simp (config:={maxSteps:=10000000}) (disch:=omega) only[ZA,ZT,simprocAttr,Asm.d,rch,PlayI_.ae,PlayI_.fv,validI_.q,validI_.ar,validI_.fv,isTile.q,isTile.ar,isTile.fv,fitsC.q,fitsC.ar,fitsC.fv,sub]⟩,fun k=> ?_⟩
 obtain⟨⟨k,tl,op⟩,hk1,hk2,hk3,hk4,hk5⟩:=k;simp only at hk1 hk2 hk3 hk4 hk5;simp (config:={maxSteps:=10000000}) (disch:=omega) only[ZA,ZT,simprocAttr,Asm.d,rch,PlayI_.ae,PlayI_.fv,validI_.q,validI_.ar,validI_.fv,isTile.q,isTile.ar,isTile.fv,fitsC.q,fitsC.ar,fitsC.fv,sub,Qal];refine⟨fun hk=>⟨hk,fun x hx=> ?_⟩,fun hk=> ?_⟩
 ·rw[Qac7 hx] at hk5;by_cases d1:Qau x.Tile 0 ((s.Set.Tiles.length:Int) - 1)=true
  case neg=>
   refine⟨fun h=>(d1 h).elim,fun _=> ?_⟩;rw[Bool.not_eq_true] at d1;rw[hk5,d1,Bool.false_and,if_pos rfl]
  refine⟨fun _=> ?_,fun h=>(h d1).elim⟩;have hti:Qcs s.Set x.Tile:=by
   simp only[Qau,Bool.and_eq_true,decide_eq_true_eq] at d1;exact⟨d1.1,by omega⟩
  rw[d1,Bool.true_and] at hk5;refine⟨⟨q1,hk2,hti⟩,fun d2=> ?_,fun d2=>⟨fun d3=> ?_,fun d3=> ?_⟩⟩
  ·rw[hk5,if_pos d2]
  ·rw[hk5,if_neg d2,if_pos (by omega)]
  ·rw[if_neg d2,if_neg (by omega)] at hk5;have hsm:Qdy x.At:=by
    rw[Bool.not_eq_false] at d2;simp only[Qpg,Bool.and_eq_true] at d2;exact Qkc d2.1
   have hcr:Qacu ⟨s,tl,op⟩:=⟨q1,hk2,by simp only;omega⟩;obtain⟨u1,_,u3⟩:=Qacl x.At x.Tile tl hk3;refine orow.os (⟨s,tl,op⟩,x.At,x.Tile) [6,4,5] ⟨hcr,hsm,hti⟩ (fun j=>Qack _ j) rfl rfl ?_ ?_
   ·simp (config:={maxSteps:=10000000}) (disch:=omega) only[ZA,ZT,simprocAttr,Asm.d,rch,PlayI_.ae,PlayI_.fv,validI_.q,validI_.ar,validI_.fv,isTile.q,isTile.ar,isTile.fv,fitsC.q,fitsC.ar,fitsC.fv,putC.ca,cryH,Qbk,if_true,List.getD_cons_zero,List.getD_cons_succ]
   ·simp (config:={maxSteps:=10000000}) (disch:=omega) only[ZA,ZT,simprocAttr,Asm.d,rch,PlayI_.ae,PlayI_.fv,validI_.q,validI_.ar,validI_.fv,isTile.q,isTile.ar,isTile.fv,fitsC.q,fitsC.ar,fitsC.fv,putC.H1,kl12,sub,putT,List.getD_cons_zero,List.getD_cons_succ];exact⟨⟨(k+1,updP tl x.At x.Tile,Qrz s (Qbw (updP tl x.At x.Tile)) (delP op x.At) x.At 4),by simp only;exact⟨by omega,putT_in hk2 hti,u1,by omega,hk5⟩⟩,by simp only;omega,by rw[Qak (by omega) (by omega)];simp only;omega,rfl,rfl⟩
 ·rw[List.drop_eq_nil_of_le (by omega),Qacn] at hk5;refine orow.os ⟨s,tl,op⟩ [6,4,5] ⟨hk3,by simp only;omega⟩ (fun j=>Qack _ j) rfl rfl ?_ ?_
  ·simp (config:={maxSteps:=10000000}) (disch:=omega) only[ZA,ZT,simprocAttr,Asm.d,rch,PlayI_.ae,PlayI_.fv,validI_.q,validI_.ar,validI_.fv,isTile.q,isTile.ar,isTile.fv,fitsC.q,fitsC.ar,fitsC.fv,asmC.ca,cryH,Qbk,if_true,List.getD_cons_zero,List.getD_cons_succ]
  ·simp (config:={maxSteps:=10000000}) (disch:=omega) only[ZA,ZT,simprocAttr,Asm.d,rch,PlayI_.ae,PlayI_.fv,validI_.q,validI_.ar,validI_.fv,isTile.q,isTile.ar,isTile.fv,fitsC.q,fitsC.ar,fitsC.fv,asmC.H1,klA,sub,asmT,List.getD_cons_zero,List.getD_cons_succ];rw[hk5]
end Go.Ae
namespace Go.Ae
open Go.Proofs
theorem Qacq(l:List Int):(sortI l).Perm l:=List.mergeSort_perm l _
theorem isOrdI_in{o:List Int}{n:Int}(h:Qacf o n=true):(o.length:Int)=n∧ ∀x∈o,0≤x∧x<o.length:=by
 simp only[Qacf,Bool.and_eq_true,decide_eq_true_eq] at h;refine⟨h.2,fun x hx=> ?_⟩;have h1:=(Qacq o).mem_iff.2 hx;rw[h.1] at h1;simp only[rgI,List.mem_map,List.mem_range] at h1;obtain⟨i,hi,rfl⟩:=h1;exact⟨by omega,by omega⟩
def Qaco(s:Qar)(l:List Opt)(o:List Int):Bool×Int:=
 if (seqI s l).2.2≠0 then (false,(seqI s l).2.2)
 else if Qacf o l.length=false then (false,2)
 else (decide ((seqI s (Qach l o)).2.2=0),0)
def IsOrdI_.ar:List PK→Option (Qar×(List Opt)×(List Int)):=a3 (kR Qar.d) (kS Opt.d) (kS intD)
def IsOrdI_.ae(a:Qar×(List Opt)×(List Int)):List PK:=[.val (.agg (Qar.c a.1)),.val (.sl false 3 (a.2.1.map Opt.c)),.val (.sl false 1 (a.2.2.map intC))]
def IsOrdI_.fv(a:Qar×(List Opt)×(List Int)):Bool×Int:=(Qaco) (a.1) (a.2.1) (a.2.2)
def IsOrdI_.row:Row:=vrow IsOrdI_.ar (fun a=>Qf6 a.1.Set∧a.2.2.length≤4194304) (fun a=>(fun b=>D.tup [(D.bool) (b.1),(D.int .i64) (b.2)]) (IsOrdI_.fv a))
def IsOrdI_.q(a:List AV)(h:Nat→Option Ent)(n:Nat)(K:Kont):=show IsOrdI_.row a h n K=Qa1 _ _ _ (nmsL a) K (pkL h a) from rfl
theorem IsOrdI_.ok:Qas Tryz.prog 10 IsOrdI_.row:=by
 refine Qaj Qaq (tC PlayI_.ok (tC isOrder_.ok tN)) Tryz.func10 rfl (by kernel_rfl) (by kernel_rfl) (ar:=IsOrdI_.ar) (ae:=IsOrdI_.ae) (Qace (Qab8 Qar.d_le) (Qacb 3 Opt.d_le (fun _=>rfl)) (Qacb 1 Qb3 (fun _=>rfl))) (n:=3) (fun _=>rfl) (by decide) (rc:=(Qfa (Qa8) (vInt))) (re:=(fun b=>D.tup [(D.bool) (b.1),(D.int .i64) (b.2)])) (Qbz (Qat) (Qa3)) (f:=IsOrdI_.fv) ?_;intro a hpre;simp only[Tryz.f10,Option.getD];simp (config:={maxSteps:=10000000}) (disch:=omega) only[ZA,ZT,simprocAttr,Asm.d,rch,IsOrdI_.ae,IsOrdI_.fv,PlayI_.q,PlayI_.ar,PlayI_.fv,isOrder_.q,isOrder_.ar,isOrder_.fv];obtain⟨s,l,o⟩:=a;simp only at hpre⊢;obtain⟨hp1,hp2⟩:=hpre;refine⟨hp1,?_⟩;by_cases c1:(seqI s l).2.2=0
 case neg=>
  rw[if_pos c1];simp only[Qaco];rw[if_pos c1]
 rw[if_neg (fun h=>h c1)];intro _;refine⟨hp2,?_⟩;by_cases c2:Qacf o l.length=false
 ·rw[if_pos c2];simp only[Qaco];rw[if_neg (fun h=>h c1),if_pos c2]
 rw[if_neg c2];have eR:Qaco s l o=(decide ((seqI s (Qach l o)).2.2=0),0):=by
  simp only[Qaco];rw[if_neg (fun h=>h c1),if_neg c2]
 rw[Bool.not_eq_false] at c2;obtain⟨hl,hin⟩:=isOrdI_in c2;intro _;refine Qay.ren ⟨{k:Nat//k≤o.length},fun k=>⟨[(34,.im (.int .i64 k.1)),(33,.im (.int .i64 o.length)),(32,.im (.sl false 1 (o.map intC))),(11,.own 3),(7,.im (.int .i64 0)),(6,.im (.bool false)),(3,.ptr 0 0),(1,.im (.sl false 3 (l.map Opt.c)))],[(3,(true,.arr 63 3 ((Qach l (o.take k.1)).map Opt.c))),(0,(true,.cells 45 ((Qar.c s).map .im)))],4⟩,fun k=>o.length - k.1,fun k=>⟨by simp[Qad.good,belT,belH,Qam,AV.bel,belL,Qar.c],by simp⟩,⟨⟨0,by simp⟩,[(3,some 2)],?_⟩,fun k=> ?_⟩
 ·simp only[subP];simp (config:={maxSteps:=10000000}) (disch:=omega) only[ZA,ZT,simprocAttr,Asm.d,rch,IsOrdI_.ae,IsOrdI_.fv,PlayI_.q,PlayI_.ar,PlayI_.fv,isOrder_.q,isOrder_.ar,isOrder_.fv,List.take_zero,Qach,List.map_nil]
  try simp
 obtain⟨k,hk1⟩:=k;simp (config:={maxSteps:=10000000}) (disch:=omega) only[ZA,ZT,simprocAttr,Asm.d,rch,IsOrdI_.ae,IsOrdI_.fv,PlayI_.q,PlayI_.ar,PlayI_.fv,isOrder_.q,isOrder_.ar,isOrder_.fv,sub,Qal];refine⟨fun hk=>⟨hk,fun x hx=> ?_⟩,fun hk=> ?_⟩
 ·obtain⟨b1,b2⟩:=hin x (List.mem_of_getElem? hx);refine⟨b1,by omega,fun y hy=>⟨by simp[OneR,allD,D.one],by simp only[Qach,List.length_map,List.length_take];omega,⟨k+1,by omega⟩,[(3,some 5)],by simp only;omega,?_⟩⟩;simp only[subP,Qwe hx];simp (config:={maxSteps:=10000000}) (disch:=omega) only[ZA,ZT,simprocAttr,Asm.d,rch,IsOrdI_.ae,IsOrdI_.fv,PlayI_.q,PlayI_.ar,PlayI_.fv,isOrder_.q,isOrder_.ar,isOrder_.fv,Option.some_beq_some,Option.some_beq_none];refine⟨?_,?_⟩
  ·rw[Qak (by omega) (by omega)];omega
  ·simp[Qach,hy,Opt.c]
 ·rw[List.take_of_length_le (by omega)];exact⟨hp1,by rw[eR]⟩
theorem seq_law(s:Qar)(l:List Opt):seqI s l=seqS s l:=by
 simp only[seqI,seqS,Qacv];by_cases c1:Qjc s=false
 ·rw[if_pos c1,if_pos c1]
 rw[if_neg c1,if_neg c1];rw[Bool.not_eq_false] at c1;obtain⟨⟨q1,q2,q3,_⟩,_⟩:=Qacj c1;rw[Qac5 q3 l (tlUp s.Seed.Tiles) s.Seed s.Seed.Tiles.length 0 (RM.of q2.1 (fun x hx=>(q2.2 x hx).1)) q2]
theorem rgI_nodup(n:Nat):(rgI n).Nodup:=by
 rw[rgI,List.nodup_iff_pairwise_ne,List.pairwise_map];exact (List.nodup_iff_pairwise_ne.1 List.nodup_range).imp (fun h=>by omega)
theorem sortI_pw(l:List Int):(sortI l).Pairwise (fun x y=>x≤y):=by
 have:=List.pairwise_mergeSort (le:=fun (x y:Int)=>decide (x≤y)) (fun a b c h1 h2=>by simp at*;omega) (fun a b=>by simp;omega) l
 exact this.imp (fun h=>by simpa using h)
theorem rise_all{s:List Int}(hp:s.Pairwise (fun x y=>x<y))(hb: ∀x∈s,0≤x∧x<s.length):s=rgI s.length:=by
 rw[List.pairwise_iff_getElem] at hp;have lo: ∀i (h:i<s.length),(i:Int)≤s[i]:=by
  intro i;induction i with
  |zero=>intro h;exact (hb _ (List.getElem_mem h)).1
  |succ i ih=>
   intro h;have h1:=ih (by omega);have h2:=hp i (i+1) (by omega) h (by omega);omega
 have hi: ∀d i (h:i<s.length),i+d+1=s.length→s[i]+d<s.length:=by
  intro d;induction d with
  |zero=>intro i h _;have:=(hb _ (List.getElem_mem h)).2;omega
  |succ d ih=>
   intro i h he;have h1:=ih (i+1) (by omega) (by omega);have h2:=hp i (i+1) h (by omega) (by omega);omega
 apply List.ext_getElem?;intro i;by_cases h:i<s.length
 ·rw[rgI_get h,List.getElem?_eq_getElem h];have h1:=lo i h;have h2:=hi (s.length - 1 - i) i h (by omega);congr 1;omega
 ·rw[List.getElem?_eq_none (by omega),List.getElem?_eq_none (by rw[rgI_len];omega)]
theorem ord_law{o:List Int}{n:Nat}(hl:o.length=n):Qacf o n=Qacr o n:=by
 subst hl;simp only[Qacf,decide_true,Bool.and_true];rw[Bool.eq_iff_iff,decide_eq_true_eq];simp only[Qacr,Bool.and_eq_true,List.all_eq_true,Qau,decide_eq_true_eq];have hpm:=Qacq o;constructor
 ·intro h;rw[h] at hpm;refine⟨fun x hx=> ?_,hpm.nodup_iff.1 (rgI_nodup _)⟩
  have:=hpm.mem_iff.2 hx
  simp only[rgI,List.mem_map,List.mem_range] at this;obtain⟨i,hi,rfl⟩:=this;omega
 ·rintro⟨h1,h2⟩;have hd:=hpm.nodup_iff.2 h2;rw[←Qaci o];refine rise_all ?_ (fun x hx=> ?_)
  ·exact (sortI_pw o).imp₂ (fun a b h3 h4=>by omega) (List.nodup_iff_pairwise_ne.1 hd)
  ·have:=h1 x (hpm.mem_iff.1 hx)
   rw[Qaci];omega
theorem order_law(s:Qar)(l:List Opt)(o:List Int):Qaco s l o=Qacm s l o:=by
 simp only[Qaco,Qacm,seq_law];by_cases c1:(seqS s l).2.2=0
 case neg=>rw[if_pos c1,if_pos c1]
 have n1: ¬((seqS s l).2.2≠0):=fun h=>h c1
 rw[if_neg n1,if_neg n1];by_cases c2:o.length=l.length
 case neg=>
  rw[if_pos c2]
  have:Qacf o l.length=false:=by
   simp only[Qacf];rw[decide_eq_false (p:=((o.length:Int)=(l.length:Int))) (by omega),Bool.and_false]
  rw[if_pos this]
 have n2: ¬(o.length≠l.length):=fun h=>h c2
 rw[if_neg n2,ord_law c2];by_cases c3:Qacr o l.length=false
 ·rw[if_pos c3,if_pos c3]
 rw[if_neg c3,if_neg c3];obtain⟨hs,hl⟩:=seq_ok c1
 have:seqS s (Qach l o)=Qacg s s.Seed (Qach l o) 0:=by
  simp only[seqS];rw[if_neg (by rw[hs];decide),if_neg (by simp only[Qach,List.length_map];omega)]
 rw[this]
end Go.Ae
namespace Go.Ae
open Go.Proofs
theorem Qn3{n:Nat}{l:Int}(h:0≤szC n l):(n:Int)≤l∧szC n l≤l∧0≤l:=by
 simp only[szC] at h⊢;split at h
 ·omega
 ·rename_i c;rw[if_neg c];omega
theorem Qu5: ∀(a:List Tile) (l:Int),0≤l→l≤1048576→0≤Qdz Qcn a l→ ∀x∈a,x.Sides.length≤1073741824
 |[],_,_,_,_=>by intro x hx;cases hx
 |y::r,l,h0,hl,h=>by
  simp only[Qdz] at h;split at h
  ·omega
  ·rename_i c;have hy:0≤Qcn y l:=by omega
   have h1:0≤szC y.Name.size l:=by
    simp only[Qcn] at hy;split at hy
    ·omega
    ·omega
   have e:Qcn y l=szC y.Sides.length (szC y.Name.size l):=by
    simp only[Qcn];rw[if_neg (by omega)]
   rw[e] at hy h;obtain⟨a1,a2,a3⟩:=Qn3 hy;obtain⟨b1,b2,b3⟩:=Qn3 h1;intro x hx;rcases List.mem_cons.1 hx with rfl|hx
   ·omega
   ·exact Qu5 r _ hy (by omega) h x hx
theorem szSet_sm{s:Qaa}{l:Int}(hl: -1≤l)(hl2:l≤1048576)(h:0≤Qqd s l):smSet s:=by
 have hg:=Qo1 s.Glues l hl;simp only[Qqd] at h;split at h
 ·omega
 rename_i c;have hg0:0≤Qcj s.Glues l:=by omega
 have hgc:0≤szC s.Glues.length l:=by
  simp only[Qcj] at hg0;split at hg0
  ·omega
  ·omega
 have htc:0≤szC s.Tiles.length (Qcj s.Glues l):=by
  simp only[Qds] at h;split at h
  ·omega
  ·omega
 have e:Qds s.Tiles (Qcj s.Glues l)=Qdz Qcn s.Tiles (szC s.Tiles.length (Qcj s.Glues l)):=by
  simp only[Qds];rw[if_neg (by omega)]
 rw[e] at h;obtain⟨a1,a2,a3⟩:=Qn3 hgc;obtain⟨b1,b2,b3⟩:=Qn3 htc;exact⟨by omega,by omega,Qu5 s.Tiles _ htc (by omega) h⟩
theorem szSys_sm{s:Qar}{l:Int}(hl: -1≤l)(hl2:l≤1048576)(h:0≤Qlr s l):smSys s:=by
 have hb:=Qxk s.Set l hl;simp only[Qlr] at h;split at h
 ·omega
 rename_i c;obtain⟨a1,a2,a3⟩:=Qn3 h;exact⟨szSet_sm hl hl2 (by omega),by omega⟩
end Go.Ae
namespace Go.Ae
open Go.Proofs
def lawIO.ar:List PK→Option (Qar×(List Opt)×(List Int)):=a3 (kR Qar.d) (kS Opt.d) (kS intD)
def lawIO.ae(a:Qar×(List Opt)×(List Int)):List PK:=[.val (.agg (Qar.c a.1)),.val (.sl false 3 (a.2.1.map Opt.c)),.val (.sl false 1 (a.2.2.map intC))]
def lawIO.rc:D→Option (Bool):=Qa8
def lawIO.re:Bool→D:=D.bool
theorem lawIO.rle: ∀d b,lawIO.rc d=some b→Le d (lawIO.re b):=Qat
def lawIO.fv(a:Qar×(List Opt)×(List Int)):Bool:=(fun _ _ _=>true) (a.1) (a.2.1) (a.2.2)
def lawIO.row:Row:=vrow lawIO.ar (fun a=>nmOk a.1.Set) (fun a=>lawIO.re (lawIO.fv a))
def lawIO.q(a:List AV)(h:Nat→Option Ent)(n:Nat)(K:Kont):=show lawIO.row a h n K=Qa1 _ _ _ (nmsL a) K (pkL h a) from rfl
theorem lawIO.ok:Qas Tryz.prog 3 lawIO.row:=by
 refine Qaj Qaq (tC szSystem.ok (tC szOptionS.ok (tC toSystem.ok (tC toOptionS.ok (tC toInt64S.ok (tC IsOrdS_.ok (tC IsOrdI_.ok (tC eqSystem.ok (tC eqOptionS.ok (tC eqInt64S.ok tN)))))))))) Tryz.func3 rfl (by kernel_rfl) (by kernel_rfl) (ar:=lawIO.ar) (ae:=lawIO.ae) (Qace (Qab8 Qar.d_le) (Qacb 3 Opt.d_le (fun _=>rfl)) (Qacb 1 Qb3 (fun _=>rfl))) (n:=3) (fun _=>rfl) (by decide) (rc:=lawIO.rc) (re:=lawIO.re) lawIO.rle (f:=lawIO.fv) ?_;intro a hpre;simp only[Tryz.f3,Option.getD];simp (config:={maxSteps:=10000000}) (disch:=omega) only[ZA,ZT,simprocAttr,Asm.d,rch,lawIO.ae,lawIO.fv,lawIO.rc,szSystem.q,szSystem.ar,szSystem.fv,szOptionS.q,szOptionS.ar,szOptionS.fv,toSystem.q,toSystem.ar,toSystem.fv,toOptionS.q,toOptionS.ar,toOptionS.fv,toInt64S.q,toInt64S.ar,toInt64S.fv,IsOrdS_.q,IsOrdS_.ar,IsOrdS_.fv,IsOrdI_.q,IsOrdI_.ar,IsOrdI_.fv,eqSystem.q,eqSystem.ar,eqSystem.fv,eqOptionS.q,eqOptionS.ar,eqOptionS.fv,eqInt64S.q,eqInt64S.ar,eqInt64S.fv];obtain⟨s,l,o⟩:=a;simp only at hpre⊢;intro _;split
 ·trivial
 rename_i c0;refine⟨hpre,?_⟩;split
 ·trivial
 rename_i c1;have h1:=szSys_sm (s:=s) (l:=1048576) (by decide) (by decide) (by omega);have hb:=szSys_b s 1048576 (by decide);refine⟨⟨by omega,by omega⟩,?_⟩;split
 ·trivial
 rename_i c2;obtain⟨b1,_,_⟩:=Qn3 (n:=l.length) (l:=Qlr s 1048576) (by omega);have h3:l.length≤1073741824:=by omega
 have h4:o.length≤1073741824:=by omega
 refine⟨h1,h3,h4,h1,h3,h4,⟨hpre,by omega⟩,?_⟩;rw[order_law,bne_self_eq_false,if_pos rfl,if_neg (fun h=>h rfl)];exact⟨h1,h3,h4⟩
end Go.Ae
namespace Go.Ae
open Go Go.Proofs Go.RowKit
theorem lawIO.call{W:World}{args:Array Value}(x0:Qar)(x1:List Opt)(x2:List Int)(hn:nmOk x0.Set)
 (hargs:rdl (fun b=>b<W.heap.size) (fun b=>W.heap[b]?) [.agg (Qar.c x0),.sl false 3 (x1.map Opt.c),.sl false 1 (x2.map intC)] args.toList):Calls Tryz.prog 3 args W fun e W'=>e= .returned (.bool true)∧Below W.heap.size W W':=by
 refine call_law (lawIO.ok) ?_ hargs;simp only[List.map_cons,List.map_nil];simp (config:={maxSteps:=10000000}) (disch:=omega) only[ZA,ZT,simprocAttr,Asm.d,rch,lawIO.q,lawIO.ar,lawIO.re,lawIO.fv];exact hn
end Go.Ae
namespace Go.Proofs.YtndncbalahbmnaaGreat
open Go Go.Ae Go.ChangeShapes Go.WideShapes Go.ChangeAt Go.RowKit
theorem own:ownKnob Tryz.prog.godebug=none:=by kernel_rfl
theorem laidOut:laidOutB Tryz.prog=true:=by kernel_rfl
theorem contract(H:Type)(enc:TypeId×Value→H)(W:World)(base:Nat)(args:Array Value)(ds gs:List (DataW H))(before:List MemPlace)
 (hval: ∀(j:Nat) t v,Tryz.f3.params[j]? =some t→args[j]? =some v→Value.okWide Tryz.prog W .any base t v)
 (hW:DataW.Whole enc Tryz.prog Tryz.f3.params.toList Rows.fnExactIsOrderSpec.vars false W args.toList ds gs before)
 (hsz:(DataW.weightsEach Tryz.prog (Tryz.f3.params.toList++Rows.fnExactIsOrderSpec.plain.varTypes Tryz.prog) (ds++gs)).all (· ≤reachBytes)=true):
 Calls Tryz.prog 3 args W fun e W'=> ∃v,e= .returned v∧Rows.fnExactIsOrderSpec.post enc Tryz.prog Tryz.f3 false true false false W args v W':=by
 have hW':=hW;obtain⟨p,q,hA0,hV,rfl,hfz,hnd⟩:=hW;have hA:DataW.TrodAll enc Tryz.prog W 0 (fun _=>true) true Tryz.f3.params.toList args.toList ds p:=hA0;rw[Tryz.params3] at hA hval hsz;obtain⟨v0,vs0,d0,ds0,p0,q0,hargs,rfl,rfl,h0,r0⟩:=trodAll_cons hA;obtain⟨v1,vs1,d1,ds1,p1,q1,rfl,rfl,rfl,h1,r1⟩:=trodAll_cons r0;obtain⟨v2,vs2,d2,ds2,p2,q2,rfl,rfl,rfl,h2,r2⟩:=trodAll_cons r1;obtain⟨rfl,rfl,rfl⟩:=trodAll_nil r2;obtain rfl:args= #[v0,v1,v2]:=by cases args;simp_all
 obtain⟨rfl,rfl⟩:=trodVars_none hV;have hw: ∀(j:Nat) (t:TypeId) (d:DataW H),#[30,31,32].toList[j]? =some t→[d0,d1,d2][j]? =some d→(d.weights Tryz.prog t).all (· ≤reachBytes)=true:=by
  intro j t d ht hd;rw[List.all_eq_true] at hsz⊢;intro k hk;exact hsz k (DataW.weights_mem_each (j:=j) (t:=t) (d:=d) (by rw[List.getElem?_append_left];exact ht;exact (List.getElem?_eq_some_iff.1 ht).1) (by rw[List.append_nil];exact hd) k hk)
 obtain⟨c0,rfl,_⟩:=okWide_struct Tryz.underlying30 (hval 0 30 v0 rfl rfl);obtain⟨a1,b1,c1,rfl⟩:=okWide_slice Tryz.underlying31 (hval 1 31 v1 rfl rfl);obtain⟨a2,b2,c2,rfl⟩:=okWide_slice Tryz.underlying32 (hval 2 32 v2 rfl rfl);have h0':=h0;obtain⟨f0,g0⟩:=h0;have h1':=h1;obtain⟨f1,g1⟩:=h1;have h2':=h2;obtain⟨f2,g2⟩:=h2;obtain⟨x0,s0,m0⟩:=rSys f0 _ _ g0 (hw 0 30 d0 rfl rfl);obtain⟨x1,s1,m1⟩:=rOpts f1 _ _ g1 (hw 1 31 d1 rfl rfl);obtain⟨x2,s2,m2⟩:=rInts f2 _ _ g2 (hw 2 32 d2 rfl rfl);obtain⟨z1,y1,e1,t1,u1⟩:=s1;obtain⟨rfl,rfl⟩:=List.cons.inj (show [Value.slice a1 b1 c1]=z1::y1 from e1);obtain⟨z2,y2,e2,t2,u2⟩:=s2;obtain⟨rfl,rfl⟩:=List.cons.inj (show [Value.slice a2 b2 c2]=z2::y2 from e2);have hrd:rdl (fun b=>b<W.heap.size) (fun b=>W.heap[b]?) [.agg (Qar.c x0),.sl false 3 (x1.map Opt.c),.sl false 1 (x2.map intC)] (#[Value.agg c0,Value.slice a1 b1 c1,Value.slice a2 b2 c2]:Array Value).toList:=
  ⟨_,_,rfl,⟨c0,rfl,s0⟩,_,_,rfl,t1,_,_,rfl,t2,rfl⟩
 have hlt: ∀x∈p0++(p1++(p2++[]))++[],x.block<W.heap.size:=fun x hx=>by simpa using hW'.lt x hx
 refine (lawIO.call x0 x1 x2 (m0) hrd).mono fun e W' ⟨he,hB⟩=> ?_
 subst he;refine⟨_,rfl,[d0,d1,d2],[],_,[],p0++(p1++(p2++[])),[],hW',?_,?_,?_,hB.frame _,fun h=>by cases h⟩
 ·exact trodAll_cons_mk (shut_bool Tryz.underlying4 _) trodAll_mk0
 ·refine trodAll_cons_mk ?_ (trodAll_cons_mk ?_ (trodAll_cons_mk ?_ trodAll_mk0))
  ·exact Below.trod laidOut (by kernel_rfl) (of_decide_eq_true (by kernel_rfl)) h0' hB (fun x hx=>hlt x (by simp[hx]))
  ·exact Below.trod laidOut (by kernel_rfl) (of_decide_eq_true (by kernel_rfl)) h1' hB (fun x hx=>hlt x (by simp[hx]))
  ·exact Below.trod laidOut (by kernel_rfl) (of_decide_eq_true (by kernel_rfl)) h2' hB (fun x hx=>hlt x (by simp[hx]))
 ·exact rfl
theorem lifted(os:Os)(started:os.Started)(H:Type)(enc:TypeId×Value→H):
 ReturnsInHanded {} Tryz.checked os 3 .any (Rows.fnExactIsOrderSpec.pre6 enc Tryz.prog Tryz.f3 Rows.fnExactIsOrderRow.domain false) (Rows.fnExactIsOrderSpec.post enc Tryz.prog Tryz.f3 false true false false):=by
 refine returnsInHanded_of_change_sized (C:=Tryz.checked) own started (by kernel_rfl) Tryz.func3
  (ChangeSpec.witness6 (enc:=enc) (C:=Tryz.checked) false ⟨#[],#[.agg #[.slice none 0 0,.slice none 0 0,.slice none 0 0,.int .i64 0],.slice none 0 0,.slice none 0 0],[]⟩ 8 (by kernel_rfl) (by kernel_rfl) (by kernel_rfl) (by kernel_rfl)) ?_
 intro W base args ds gs before hval hW _ hsz _;exact contract H enc W base args ds gs before hval hW hsz
theorem over:Rows.fnExactIsOrderRow.holds Tryz.pinned (OpenSpec.ofChange Rows.fnExactIsOrderSpec):=
 OpenClaim.holds_of_wide 3 Tryz.f3 rfl rfl rfl rfl rfl rfl rfl ⟨rfl,rfl,rfl,rfl,rfl⟩ rfl rfl rfl rfl rfl (by kernel_rfl) Tryz.func3 (by kernel_rfl)
  (of_decide_eq_true (by kernel_rfl)) (by unfold Func.isWrapper;first|(rw[if_pos (by decide+kernel)];kernel_rfl)|(rw[if_neg (by decide+kernel)];exact⟨rfl,rfl⟩))
  (fun os started H enc _=>lifted os started H enc)
theorem fnExactIsOrder_holds:Rows.FnExactIsOrderSaid:=over
end Go.Proofs.YtndncbalahbmnaaGreat
