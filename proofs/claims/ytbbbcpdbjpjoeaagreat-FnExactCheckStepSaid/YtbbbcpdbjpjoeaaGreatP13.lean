/- What is proved: the law FnExactCheckStep returns true for every input, and each argument reads afterwards as it read before. Conditions: none. -/
import Derived.Test.YtbbbcpdbjpjoeaaGreatP12
import Derived.Shelf.SlSortCmp.NoneTotal
set_option linter.all false
set_option maxHeartbeats 8000000
set_option maxRecDepth 100000
namespace Go.Ae
open Go.Proofs Go.Sort Go.Shelf
instance:Inhabited Qab:=⟨⟨⟨0,0⟩,0⟩⟩
def encP(x:Qab):List Value:=[.int .i64 x.At.X,.int .i64 x.At.Y,.int .i64 x.Tile]
def cfP(x y:Qab):Int:=Qabu (x.At.X,x.At.Y) (y.At.X,y.At.Y)
theorem Qz0(x y:Qab):ltOf cfP x y=Qap x.At y.At:=by
 simp only[ltOf,cfP,Qabu,Lib.compareInt,Qap]
 grind
theorem swoP:SWO (ltOf cfP) where
 irrefl x:=by rw[Qz0];simp only[Qap];grind
 trans x y z h1 h2:=by rw[Qz0] at*;simp only[Qap] at*;grind
 ntrans x y z h1 h2:=by rw[Qz0] at*;simp only[Qap] at*;grind
def Qfh(l:List Qab):List Qab:=l.foldr (fun x r=>insT x.At x.Tile r) []
theorem Qn1(x:Qab): ∀(l:List Qab),(insT x.At x.Tile l).Perm (x::l)
 |[]=>List.Perm.refl _
 |y::r=>by
  simp only[insT];split
  ·exact List.Perm.refl _
  ·exact ((Qn1 x r).cons y).trans (List.Perm.swap x y r)
theorem Qd4: ∀(l:List Qab),(Qfh l).Perm l
 |[]=>List.Perm.refl _
 |x::r=>(Qn1 x (Qfh r)).trans ((Qd4 r).cons x)
theorem Quq{a b c:Qae}(h1:Qap a b=true)(h2:Qap c b=false):Qap c a=false:=by
 simp only[Qap] at*;grind
theorem Qx3(x:Qab): ∀(l:List Qab),l.Pairwise (fun a b=>Qap b.At a.At=false)→(insT x.At x.Tile l).Pairwise (fun a b=>Qap b.At a.At=false)
 |[],_=>by simp[insT]
 |y::r,h=>by
  rw[List.pairwise_cons] at h;simp only[insT];split
  ·rename_i hl;rw[List.pairwise_cons,List.pairwise_cons];refine⟨fun z hz=> ?_,h⟩;have hyx:Qap y.At x.At=false:=by simp only[Qap] at*;grind
   rcases List.mem_cons.1 hz with rfl|hz
   ·exact hyx
   ·have:=h.1 z hz
    exact Quq hl this
  ·rename_i hl;rw[List.pairwise_cons];refine⟨fun z hz=> ?_,Qx3 x r h.2⟩;rcases (Qlc _ _ _ _).1 hz with rfl|hz
   ·simpa using hl
   ·exact h.1 z hz
theorem Qnm: ∀(l:List Qab),(Qfh l).Pairwise (fun a b=>Qap b.At a.At=false)
 |[]=>List.Pairwise.nil
 |x::r=>Qx3 x _ (Qnm r)
theorem sortP_len(l:List Qab):(Qfh l).length=l.length:=(Qd4 l).length_eq
theorem at_inj{l:List Qab}(h:(l.map Qab.At).Nodup){x y:Qab}(hx:x∈l)(hy:y∈l)(he:x.At=y.At):x=y:=by
 induction l with
 |nil=>cases hx
 |cons z r ih=>
  rw[List.map_cons,List.nodup_cons] at h;rcases List.mem_cons.1 hx with h1|h1<;>rcases List.mem_cons.1 hy with h2|h2
  ·rw[h1,h2]
  ·exact absurd (show z.At∈r.map Qab.At by rw[←h1,he];exact List.mem_map_of_mem h2) h.1
  ·exact absurd (show z.At∈r.map Qab.At by rw[←h2,←he];exact List.mem_map_of_mem h1) h.1
  ·exact ih h.2 h1 h2
theorem Qlp{l l':List Qab}(hd:(l.map Qab.At).Nodup)(hp:l'.Perm l)(hs:l'.Pairwise (fun a b=>Qap b.At a.At=false)):l'=Qfh l:=by
 refine List.Perm.eq_of_pairwise (le:=fun a b=>Qap b.At a.At=false) (fun a b ha hb h1 h2=> ?_) hs (Qnm l) (hp.trans (Qd4 l).symm);refine at_inj hd (hp.mem_iff.1 ha) ((Qd4 l).mem_iff.1 hb) ?_;revert h1 h2;obtain⟨⟨ax,ay⟩,at'⟩:=a;obtain⟨⟨bx,by'⟩,bt⟩:=b;simp only[Qap,Qae.mk.injEq]
 grind
def flP(l:List Qab):List Value:=l.flatMap encP
theorem Qlt(l:List Qab):(flP l).length=l.length*3:=by
 induction l with
 |nil=>rfl
 |cons x r ih=>simp only[flP,List.flatMap_cons,List.length_append,List.length_cons] at ih⊢;rw[ih];simp[encP];omega
theorem Ql5{ok:Nat→Prop}{hp:Nat→Option Obj}: ∀(l:List Qab) (L:List Value),rdr ok hp 3 (l.map Qab.c) L↔ ∃r,L=flP l++r
 |[],L=>by simp[rdr,flP]
 |x::r,L=>by
  simp only[List.map_cons,rdr,Ql5 r,Qab.c,rdp,rd,flP,List.flatMap_cons];constructor
  ·rintro⟨_,⟨v,L1,rfl,rfl,v2,L2,rfl,rfl,v3,L3,rfl,rfl,_⟩,q,hq⟩;exact⟨q,by simp only[List.drop_succ_cons,List.drop_zero] at hq;rw[hq];rfl⟩
  ·rintro⟨q,rfl⟩;exact⟨rfl,⟨_,_,rfl,rfl,_,_,rfl,rfl,_,_,rfl,rfl,trivial⟩,q,rfl⟩
theorem flP_get: ∀(l:List Qab) (t:Nat),t<l.length*3→(flP l)[t]? =some ((encP (l[t/3]?.getD default))[t % 3]!)
 |[],t,h=>by simp at h
 |x::r,t,h=>by
  by_cases ht:t<3
  ·have:t=0∨t=1∨t=2:=by omega
   rcases this with rfl|rfl|rfl<;>simp[flP,encP]
  ·obtain⟨u,rfl⟩: ∃u,t=u+3:=⟨t - 3,by omega⟩;have e1:(u+3)/3=u/3+1:=by omega
   have e2:(u+3) % 3=u % 3:=by omega
   have ih:=flP_get r u (by simp at h;omega);rw[e1,e2,List.getElem?_cons_succ,←ih];simp[flP,encP]
theorem Qvu(l:List Qab):(flatK encP 3 l.toArray).toList=flP l:=by
 apply List.ext_getElem?;intro t;by_cases ht:t<l.length*3
 ·rw[flP_get l t ht];have hs:t<(flatK encP 3 l.toArray).size:=by simp only[size_flatK,List.size_toArray];exact ht
  have h1:=get_flatK encP 3 l.toArray t (by simpa using ht);rw[Array.getElem?_toList,Array.getElem?_eq_getElem hs,←getElem!_pos (flatK encP 3 l.toArray) t hs,h1];congr 3;simp[getElem!_def];cases l[t/3]? <;>rfl
 ·have a1:(flatK encP 3 l.toArray).toList.length≤t:=by rw[Array.length_toList,size_flatK,List.size_toArray];omega
  have a2:(flP l).length≤t:=by rw[Qlt];omega
  rw[List.getElem?_eq_none a1,List.getElem?_eq_none a2]
def srt.ca(_:List Qab):List AV:=[.own 0,.im (.fn 90 [] [])]
def srt.H0(a:List Qab):Qan:=[(0,(true,.arr 101 3 (a.map Qab.c)))]
def srt.H1(a:List Qab):Qan:=[(0,(true,.arr 101 3 ((Qfh a).map Qab.c)))]
def srt.row:Row:=orow srt.ca srt.H0 1 (fun a=>(a.map Qab.At).Nodup) (fun _=>true) (fun _=> .im (.tup [])) srt.H1 0
theorem srt.ok:Qas Tryz.prog 89 srt.row:=by
 rintro args h nx K ⟨a,τ,U,KL,hpre,rfl,hheap,hN,hK⟩;refine⟨Qh7 (by kernel_rfl),_,_,?_,hK⟩;intro C S vs R hW huse hfresh hnames hargs hfin;have hs0:sgx τ 1 nx 0=τ 0:=if_pos (by omega);simp only[srt.ca,renL,AV.ren,hs0,Qa0,conc,rd,rdl] at hargs;obtain⟨v0,r0,hv,⟨hone,hown⟩,v1,r1,hr1,⟨ac,cc,hv1,hac,hcc⟩,hr2⟩:=hargs;have hac:ac= #[]:=by apply Array.ext';simpa using hac
 have hcc:cc= #[]:=by apply Array.ext';simpa using hcc
 subst hac hcc hr2 hr1 hv1;have hvs:vs= #[v0,.func (fnV 90) #[] #[]]:=by apply Array.ext';simpa using hv
 subst hvs;have hm:h (τ 0)=some (true,.arr 101 3 (a.map Qab.c)):=by
  have:=hheap.1
  rwa [hs0] at this
 have hd0:domB (srt.H0 a) 0=true:=rfl;have hSm:S.h (τ 0)=some (true,.arr 101 3 (a.map Qab.c)):=by
  rw[huse (τ 0) (List.mem_append_left _ (hN.u 0 hd0)),hm]
 have hk0: ∀n,n∈KL↔n=τ 0:=by
  intro n;constructor
  ·intro hn;obtain⟨j,h1,_,h3⟩:=hN.k1 n hn
   have:j=0:=by
    simp only[domB,srt.H0,hget] at h1;by_cases hj:j=0
    ·exact hj
    ·have:(0==j)=false:=by simpa using fun h=>hj h.symm
     rw[this] at h1;cases h1
   rw[h3,this]
  ·rintro rfl;exact hN.k2 0 hd0 rfl
 obtain⟨m,hmm⟩: ∃m,m=τ 0:=⟨_,rfl⟩;rw[←hmm] at hSm hown hk0;have hsl:=sortP_len a;have fin: ∀(w':World),Qjb S m (.arr 101 3 ((Qfh a).map Qab.c)) (S.ρ m) [m] w'→
  (Pres (fun n=>S.h m≠none∨n≠m) S (S.one m (.arr 101 3 ((Qfh a).map Qab.c)) (S.ρ m) [m] w')→objc (S.one m (.arr 101 3 ((Qfh a).map Qab.c)) (S.ρ m) [m] w') (S.ρ m) (.arr 101 3 ((Qfh a).map Qab.c)))→R (.returned (.tuple #[])) w':=by
  intro w' hone hob;have hp:=Qg2 hW hone;refine hfin (.tuple #[]) _ (Qqp hW hone (hob hp)) ?_ ⟨hp.ok,fun n _=>hp.nm n (.inl (by rw[hSm];simp))⟩ ⟨#[],rfl,rfl⟩;funext n;simp only[Env.one,Eff.appf,srt.H1,renH,hs0,hget,AObj.ren,←hmm];by_cases hn:n=m
  ·subst hn;simp
  ·have h1:(m==n)=false:=by simpa using fun h=>hn h.symm
   have h2:KL.contains n=false:=by
    rw[←Bool.not_eq_true,List.contains_iff_mem,hk0];exact hn
   simp only[h1,cond_false,h2,hn,if_false,List.mem_singleton]
 have hown':=hown _ hSm;have hobj:=hW.obj _ _ hSm;have hloc:=fun lc=>hW.loc m _ lc hSm
 cases hρ:S.ρ m with
 |none=>
  rw[hρ] at hown' hobj;simp only[objc] at hobj;have ha:a=[]:=by simpa using hobj.2
  subst ha;simp only at hown';rw[hown',Qoi (by decide)];refine (AnyF.slices_SortFunc_none Tryz.sortPl none 0 (.func (.func 90) #[] #[]) S.w).mono ?_;rintro e w' ⟨rfl,rfl⟩;refine fin S.w (oneSame hSm (fun l hl=>by rw[hρ] at hl;cases hl) rfl rfl) (fun _=> ?_);rw[hρ];exact⟨Nat.zero_le _,rfl⟩
 |some lc=>
  rw[hρ] at hown' hobj;simp only[objc,AObj.len] at hobj hown';obtain⟨g1,g2,cv,g3,g4,g5⟩:=hobj;obtain⟨hlb,hlk⟩:=hloc lc hρ;rw[Ql5] at g5;obtain⟨rest,g5⟩:=g5;simp only[List.length_map] at g1 g2 hown';have hheap:S.w.heap[lc.b]? =some (.cells cv 101 (0,0)):=g3;have hlen:lc.p+a.length*3≤cv.size:=by omega
  have hF:(flatK encP 3 a.toArray).size=a.length*3:=by simp
  have hget: ∀j,j<a.length*3→cv[lc.p+j]? =some ((flatK encP 3 a.toArray)[j]!):=by
   intro j hj;have h1:(cv.toList.drop lc.p)[j]? =(flP a++rest)[j]? :=by rw[g5]
   rw[List.getElem?_drop,Array.getElem?_toList,List.getElem?_append_left (by rw[Qlt];exact hj),←Qvu,Array.getElem?_toList] at h1;rw[h1,Array.getElem?_eq_getElem (by rw[hF];exact hj),getElem!_pos _ _ (by rw[hF];exact hj)]
  have hH:HoldsK encP 3 S.w lc.b lc.p a.toArray:=by
   intro j hj;rw[hF] at hj;refine⟨?_,?_⟩
   ·simp only[World.cell?,hheap,Option.isSome_none,Bool.false_eq_true,if_false,id];exact hget j hj
   ·simp only[World.frozen?,hheap];simp
  have hc:=AnyQ.slices_SortFunc Tryz.sortPl 3 Tryz.isAgg101 Tryz.sizeOf101 encP (fun _=>rfl) (fun x v hv=>by simp[encP] at hv;rcases hv with rfl|rfl|rfl<;>rfl) cfP swoP 90 #[] lc.b lc.p lc.cap a.toArray S.w
   (Qhx (Qh7 (by kernel_rfl))) (fun m os dk hs x y=>Tryz.cmpPlaced90 _ _ _ _ _ _ _) hH hlb (by simp only[List.size_toArray,LIM] at g1⊢;omega)
  rw[hown',Qoi (by decide)];refine hc.mono ?_;rintro e w' ⟨rfl,d',n,os,hperm,hsort,rfl⟩;have hsz:d'.size=a.length:=hperm.1;have hd':d'.toList=Qfh a:=by
   refine Qlp hpre ?_ ?_
   ·have:=hperm.2.2
    rwa [show d'.extract 0 a.toArray.size=d' by rw[List.size_toArray,←hsz];exact Array.extract_size,show a.toArray.extract 0 a.toArray.size=a.toArray from Array.extract_size] at this
   ·rw[List.pairwise_iff_getElem];intro i j hi hj hij
    have:=hsort i j (Nat.zero_le _) hij (by rw[List.size_toArray,←hsz];simpa using hj)
    rw[Qz0,getElem!_pos d' i (by simpa using hi),getElem!_pos d' j (by simpa using hj)] at this;simpa using this
  obtain rfl:d'=(Qfh a).toArray:=by apply Array.ext';rw[hd']
  have hF':(flatK encP 3 (Qfh a).toArray).size=a.length*3:=by simp[hsl]
  have hl2:(flatK encP 3 (Qfh a).toArray).toList.length=a.length*3:=by rw[Array.length_toList,hF']
  have hsize:S.w.heap.size≤(sortWorldK encP 3 S.w lc.b lc.p n (Qfh a).toArray os).heap.size:=by
   simp[sortWorldK,grow,putRowK,Sort.ahead]
  have hb: ∀b,b<S.w.heap.size→(sortWorldK encP 3 S.w lc.b lc.p n (Qfh a).toArray os).heap[b]? =if lc.b=b then S.w.heap[b]?.map (onCells (putCells id lc.p (flatK encP 3 (Qfh a).toArray))) else S.w.heap[b]? :=by
   intro b hb;have e0:b<(putRowK encP 3 (Sort.ahead S.w n) lc.b lc.p (Qfh a).toArray).heap.size:=by simpa[putRowK,Sort.ahead] using hb
   simp only[sortWorldK,grow];rw[Array.getElem?_append_left e0];simp only[putRowK,putRow,mapBlock,Sort.ahead,Array.getElem?_modify]
  refine fin _ ⟨rfl,rfl,rfl,hsize,?_,.inl (by simp),?_,?_,?_⟩ ?_
  ·intro b hb1 hb2;rw[hb b hb1,if_neg (hb2 m _ lc (by simp) hSm hρ)]
  ·intro lo hlo;rw[hρ] at hlo;obtain rfl:=Option.some.inj hlo;exact⟨Nat.lt_of_lt_of_le hlb hsize,.inr ⟨m,_,lc,by simp,hSm,hρ,rfl⟩⟩
  ·intro f hf;rw[hSm] at hf;obtain rfl:=Option.some.inj hf;exact⟨rfl,rfl,by simp[AObj.len,hsl]⟩
  ·intro n' f _ hnone;rw[hSm] at hnone;cases hnone
  ·intro _;rw[hρ];simp only[objc,List.length_map,hsl];refine⟨g1,g2,putCells id lc.p (flatK encP 3 (Qfh a).toArray) cv,?_,by simpa[putCells] using g4,?_⟩
   ·simp only[Env.one,Env.hp];rw[hb lc.b hlb,if_pos rfl,hheap];rfl
   ·rw[Ql5];refine⟨(cv.toList.drop (lc.p+a.length*3)),?_⟩;apply List.ext_getElem?;intro t;rw[List.getElem?_drop,Array.getElem?_toList,putCells,Array.getElem?_mapIdx,hF',←Qvu];by_cases ht:t<a.length*3
    ·rw[List.getElem?_append_left (by rw[hl2];exact ht),Array.getElem?_toList,Array.getElem?_eq_getElem (show lc.p+t<cv.size by omega),Array.getElem?_eq_getElem (by rw[hF'];exact ht)];simp only[Option.map_some,id];rw[if_pos ⟨by omega,by omega⟩,Nat.add_sub_cancel_left,getElem!_pos _ _ (by rw[hF'];exact ht)]
    ·rw[List.getElem?_append_right (by rw[hl2];omega),hl2,List.getElem?_drop,Array.getElem?_toList,show lc.p+a.length*3+(t - a.length*3)=lc.p+t by omega];cases cv[lc.p+t]? with
     |none=>rfl
     |some x=>simp only[Option.map_some];rw[if_neg (by omega)]
end Go.Ae
namespace Go.Ae
open Go.Proofs
def asmOf.ar:List PK→Option ((List Qab))
 |[.val (.sl _ _ x0)]=>(decR Qab.d x0).bind fun y0=>some y0
 |_=>none
def asmOf.ae(a:(List Qab)):List PK:=[.val (.sl false 3 (a.map Qab.c))]
theorem asmOf.le: ∀ps a,asmOf.ar ps=some a→LeKL ps (asmOf.ae a):=by
 intro ps a h;unfold asmOf.ar at h;split at h
 ·simp only[Option.bind_eq_some_iff,Option.some.injEq] at h;obtain⟨y0,h0,rfl⟩:=h;exact⟨Qbf (Qa2 Qab.d_le _ _ h0) (by simp only[List.mem_map];rintro r ⟨y,_,rfl⟩;rfl),trivial⟩
 ·cases h
def asmOf.fv(a:(List Qab)):Asm:=(fun l=>⟨Qfh l⟩) a
def asmOf.row:Row:=vrow asmOf.ar (fun a=>(a.map Qab.At).Nodup∧a.length≤1000000) (fun a=>(fun b=>D.agg (Asm.c b)) (asmOf.fv a))
def asmOf.q(a:List AV)(h:Nat→Option Ent)(n:Nat)(K:Kont):=show asmOf.row a h n K=Qa1 _ _ _ (nmsL a) K (pkL h a) from rfl
theorem asmOf.ok:Qas Tryz.prog 57 asmOf.row:=by
 refine Qaj Qaq (tC clonC.ok (tC srt.ok tN)) Tryz.func57 rfl (by kernel_rfl) (by kernel_rfl) asmOf.le (n:=1) (fun _=>rfl) (by decide) (rc:=(vAgg Asm.d)) (re:=(fun b=>D.agg (Asm.c b))) (Qb1 Asm.d_le) (f:=asmOf.fv) ?_;intro a hpre;simp only[Tryz.f57,Option.getD];simp (config:={maxSteps:=10000000}) (disch:=omega) only[ZA,ZT,simprocAttr,Asm.d,rch,asmOf.ae,asmOf.fv];refine orow.os a [] hpre.2 (fun j=>by simp[domB,hget]) rfl rfl ?_ ?_
 ·simp (config:={maxSteps:=10000000}) (disch:=omega) only[ZA,ZT,simprocAttr,Asm.d,rch,asmOf.ae,asmOf.fv,clonC.ca,Qer,Qb4]
 simp (config:={maxSteps:=10000000}) (disch:=omega) only[ZA,ZT,simprocAttr,Asm.d,rch,asmOf.ae,asmOf.fv,clonC.H1,sub];refine orow.os a [1] hpre.1 (fun j=> ?_) rfl rfl ?_ ?_
 ·simp only[domB,srt.H0,hget];by_cases hj:j=0
  ·subst hj;simp
  ·have:(0==j)=false:=by simpa using fun h=>hj h.symm
   rw[this];simp;omega
 ·simp (config:={maxSteps:=10000000}) (disch:=omega) only[ZA,ZT,simprocAttr,Asm.d,rch,asmOf.ae,asmOf.fv,srt.ca,srt.H0,Qer];exact⟨rfl,rfl⟩
 simp (config:={maxSteps:=10000000}) (disch:=omega) only[ZA,ZT,simprocAttr,Asm.d,rch,asmOf.ae,asmOf.fv,srt.H1,sub,List.getD_cons_zero,List.getD_cons_succ]
end Go.Ae
namespace Go.Ae
open Go.Proofs
def mkPl(q:Qae×Int):Qab:=⟨q.1,q.2⟩
def Qabn(m:Sim)(t:List (Qae×Int))(x:Qab):Option (List (Qae×Int)):=
 if (m.Labels[x.Tile.toNat]?.getD 0)<0 then some t
 else if (lkP t (Qgu x.At m.Scale).1).getD (m.Labels[x.Tile.toNat]?.getD 0)≠(m.Labels[x.Tile.toNat]?.getD 0) then none
 else some (updP t (Qgu x.At m.Scale).1 (m.Labels[x.Tile.toNat]?.getD 0))
def repM(m:Sim)(a:Asm):Nat→Option (List (Qae×Int))
 |0=>some []
 |k+1=>match a.Tiles[k]?,repM m a k with
  |some x,some t=>Qabn m t x
  |_,r=>r
theorem Qwg(m:Sim)(a:Asm)(k:Nat)(h:repM m a k=none): ∀j,repM m a (k+j)=none
 |0=>h
 |j+1=>by
  have ih:=Qwg m a k h j;rw[show k+(j+1)=k+j+1 by omega,repM,ih];split
  ·rename_i h2;cases h2
  ·rfl
theorem find_perm{l l':List Qab}(hp:l.Perm l')(hd:(l'.map Qab.At).Nodup)(p:Qae):l.find? (fun x=>decide (x.At=p))=l'.find? (fun x=>decide (x.At=p)):=by
 cases h1:l.find? (fun x=>decide (x.At=p)) with
 |none=>
  symm;rw[List.find?_eq_none] at h1⊢;exact fun x hx=>h1 x (hp.mem_iff.2 hx)
 |some x=>
  have hx:=hp.mem_iff.1 (List.mem_of_find?_eq_some h1);have hxp:=List.find?_some h1;cases h2:l'.find? (fun x=>decide (x.At=p)) with
  |none=>
   rw[List.find?_eq_none] at h2;exact absurd hxp (h2 x hx)
  |some y=>
   have hy:=List.mem_of_find?_eq_some h2;have hyp:=List.find?_some h2;rw[at_inj hd hx hy];rw[decide_eq_true_eq] at hxp hyp;rw[hxp,hyp]
theorem lk_find(p:Qae): ∀(t:List (Qae×Int)),(((t.map mkPl).find? (fun x=>decide (x.At=p))).map Qab.Tile)=lkP t p
 |[]=>rfl
 |(k,w)::r=>by
  simp only[List.map_cons,List.find?_cons,mkPl,lkP];by_cases h:k=p
  ·subst h;simp
  ·have h1:decide (k=p)=false:=by simpa using h
   have h2: ¬p=k:=fun h3=>h h3.symm
   rw[h1,if_neg h2];exact lk_find p r
theorem mk_ats(t:List (Qae×Int)):(t.map mkPl).map Qab.At=t.map Prod.fst:=by simp[mkPl]
theorem lk_at{t:List (Qae×Int)}(hd:(t.map Prod.fst).Nodup)(p:Qae):atA ⟨Qfh (t.map mkPl)⟩ p=(lkP t p).getD (-1):=by
 have hd':((t.map mkPl).map Qab.At).Nodup:=by rw[mk_ats];exact hd
 simp only[atA];rw[find_perm (Qd4 _) hd',lk_find]
theorem Qm3{t:List (Qae×Int)}{p:Qae}(v:Int)(h:lkP t p=none):updP t p v=t++[(p,v)]:=by
 induction t with
 |nil=>rfl
 |cons q r ih=>
  obtain⟨k,w⟩:=q;simp only[lkP] at h;split at h
  ·cases h
  ·rename_i hn;simp only[updP,if_neg hn,List.cons_append];rw[ih h]
theorem updP_same{t:List (Qae×Int)}{p:Qae}{v:Int}(h:lkP t p=some v):updP t p v=t:=by
 induction t with
 |nil=>cases h
 |cons q r ih=>
  obtain⟨k,w⟩:=q;simp only[lkP] at h;simp only[updP];split at h
  ·rename_i he;obtain rfl:=Option.some.inj h;rw[if_pos he,he]
  ·rename_i hn;rw[if_neg hn,ih h]
theorem Qyz{t:List (Qae×Int)}{p:Qae}(h:lkP t p=none):p∉t.map Prod.fst:=by
 induction t with
 |nil=>simp
 |cons q r ih=>
  obtain⟨k,w⟩:=q;simp only[lkP] at h;split at h
  ·cases h
  ·rename_i hn;simp only[List.map_cons,List.mem_cons,not_or];exact⟨hn,ih h⟩
theorem lkP_mem{t:List (Qae×Int)}{p:Qae}{v:Int}(h:lkP t p=some v):(p,v)∈t:=by
 induction t with
 |nil=>cases h
 |cons q r ih=>
  obtain⟨k,w⟩:=q;simp only[lkP] at h;split at h
  ·rename_i he;obtain rfl:=Option.some.inj h;rw[he];exact List.mem_cons_self ..
  ·exact List.mem_cons_of_mem _ (ih h)
structure RM(t:List (Qae×Int))(o:Asm)(k:Nat):Prop where
 nd:(t.map Prod.fst).Nodup
 pos: ∀q∈t,0≤q.2
 eq:o=⟨Qfh (t.map mkPl)⟩
 len:t.length≤k
theorem RM.step{m:Sim}{t:List (Qae×Int)}{o:Asm}{k:Nat}(h:RM t o k)(x:Qab):(∃t' o',Qabn m t x=some t'∧Quo m o x=some o'∧RM t' o' (k+1))∨(Qabn m t x=none∧Quo m o x=none):=by
 obtain⟨nd,pos,rfl,len⟩:=h;simp only[Qabn,Quo];generalize m.Labels[x.Tile.toNat]?.getD 0=n;generalize (Qgu x.At m.Scale).1=p;by_cases c1:n<0
 ·rw[if_pos c1,if_pos c1];exact .inl ⟨_,_,rfl,rfl,nd,pos,rfl,by omega⟩
 rw[if_neg c1,if_neg c1,lk_at nd];cases hq:lkP t p with
 |none=>
  simp only[Option.getD_none];rw[if_neg (by simp),if_neg (by omega),if_pos (by omega)];refine .inl ⟨_,_,rfl,rfl,?_,?_,?_,?_⟩
  ·rw[Qm3 n hq,List.map_append,List.nodup_append];refine⟨nd,by simp,?_⟩;intro a ha b hb hab;simp only[List.map_cons,List.map_nil,List.mem_singleton] at hb;exact Qyz hq (by rw[←hb,←hab];exact ha)
  ·intro q hm;rw[Qm3 n hq] at hm;rcases List.mem_append.1 hm with hm|hm
   ·exact pos q hm
   ·simp only[List.mem_singleton] at hm;subst hm;simp only;omega
  ·rw[Qi8,Qm3 n hq];congr 1;have hd':(((t++[(p,n)]).map mkPl).map Qab.At).Nodup:=by
    rw[mk_ats,List.map_append,List.nodup_append];refine⟨nd,by simp,?_⟩;intro a ha b hb hab;simp only[List.map_cons,List.map_nil,List.mem_singleton] at hb;exact Qyz hq (by rw[←hb,←hab];exact ha)
   refine Qlp hd' ?_ (Qx3 ⟨p,n⟩ _ (Qnm _));refine (Qn1 ⟨p,n⟩ _).trans ?_;rw[List.map_append];refine ((Qd4 _).cons _).trans ?_;exact (List.perm_append_singleton _ _).symm
  ·rw[Qm3 n hq];simp;omega
 |some v=>
  simp only[Option.getD_some];have hv:=pos _ (lkP_mem hq);simp only at hv;by_cases c2:v=n
  ·subst c2;rw[if_neg (by simp),if_neg (by simp),if_neg (by omega),updP_same hq];exact .inl ⟨_,_,rfl,rfl,nd,pos,rfl,by omega⟩
  ·rw[if_pos c2,if_pos ⟨hv,c2⟩];exact .inr ⟨rfl,rfl⟩
theorem Qys(m:Sim)(a:Asm): ∀k,(∃t o,repM m a k=some t∧Qf0 m a k=some o∧RM t o k)∨(repM m a k=none∧Qf0 m a k=none)
 |0=> .inl ⟨_,_,rfl,rfl,by simp,by simp,rfl,Nat.le_refl _⟩
 |k+1=>by
  simp only[repM,Qf0];rcases Qys m a k with ⟨t,o,h1,h2,h3⟩|⟨h1,h2⟩
  ·rw[h1,h2];cases a.Tiles[k]? with
   |none=>exact .inl ⟨_,_,rfl,rfl,h3.nd,h3.pos,h3.eq,by have:=h3.len;omega⟩
   |some x=>exact h3.step x
  ·rw[h1,h2];cases a.Tiles[k]? <;>exact .inr ⟨rfl,rfl⟩
theorem rep_law{m:Sim}{a:Asm}{t:List (Qae×Int)}(h:repM m a a.Tiles.length=some t){l:List Qab}(hl:l.Perm (t.map mkPl)):repS m a=(⟨Qfh l⟩,true)∧(l.map Qab.At).Nodup∧l.length≤a.Tiles.length:=by
 rcases Qys m a a.Tiles.length with ⟨t',o,h1,h2,h3⟩|⟨h1,h2⟩
 ·rw[h] at h1;obtain rfl:=Option.some.inj h1;have hd':((t.map mkPl).map Qab.At).Nodup:=by rw[mk_ats];exact h3.nd
  refine⟨?_,?_,?_⟩
  ·simp only[repS,h2,h3.eq];congr 2;exact (Qlp hd' ((Qd4 _).trans hl) (Qnm _)).symm
  ·exact (hl.map Qab.At).nodup_iff.2 hd'
  ·rw[hl.length_eq,List.length_map];exact h3.len
 ·rw[h] at h1;cases h1
theorem Qzg{m:Sim}{a:Asm}{k:Nat}(hk:k≤a.Tiles.length)(h:repM m a k=none):repS m a=(⟨[]⟩,false):=by
 have hn:=Qwg m a k h (a.Tiles.length - k);rw[show k+(a.Tiles.length - k)=a.Tiles.length by omega] at hn;rcases Qys m a a.Tiles.length with ⟨t',o,h1,h2,h3⟩|⟨h1,h2⟩
 ·rw[hn] at h1;cases h1
 ·simp only[repS,h2]
end Go.Ae
namespace Go.Ae
open Go.Proofs
theorem Qwf{A B:Type}(f:A→B): ∀(l:List A) (i:Nat),(l.map f).eraseIdx i=(l.eraseIdx i).map f
 |[],_=>rfl
 |_::_,0=>rfl
 |x::r,i+1=>by simp only[List.map_cons,List.eraseIdx_cons_succ,Qwf f r i]
theorem Qqq{A:Type}: ∀(l:List A) (i:Nat) (x:A),l[i]? =some x→(x::l.eraseIdx i).Perm l
 |[],i,x,h=>by simp at h
 |y::r,0,x,h=>by
  simp only[List.getElem?_cons_zero,Option.some.injEq] at h;subst h;exact List.Perm.refl _
 |y::r,i+1,x,h=>by
  rw[List.getElem?_cons_succ] at h;rw[List.eraseIdx_cons_succ];exact (List.Perm.swap y x _).trans ((Qqq r i x h).cons y)
def Qnc(m:Sim):List AV:=[.im (.sl false 2 (m.Big.Set.Glues.map Glue.c)),.im (.sl false 2 (m.Big.Set.Tiles.map Tile.c)),.im (.sl false 3 (m.Big.Seed.Tiles.map Qab.c)),.im (.int .i64 m.Big.Temperature),.im (.sl false 2 (m.Small.Set.Glues.map Glue.c)),.im (.sl false 2 (m.Small.Set.Tiles.map Tile.c)),.im (.sl false 3 (m.Small.Seed.Tiles.map Qab.c)),.im (.int .i64 m.Small.Temperature),.im (.int .i64 m.Scale),.im (.sl false 1 (m.Labels.map intC))]
def rep_.ar:List PK→Option (Sim×Asm)
 |[.val (.agg x0),.val (.agg x1)]=>(Sim.d x0).bind fun y0=>(Asm.d x1).bind fun y1=>some (y0,y1)
 |_=>none
def rep_.ae(a:Sim×Asm):List PK:=[.val (.agg (Sim.c a.1)),.val (.agg (Asm.c a.2))]
theorem rep_.le: ∀ps a,rep_.ar ps=some a→LeKL ps (rep_.ae a):=by
 intro ps a h;unfold rep_.ar at h;split at h
 ·simp only[Option.bind_eq_some_iff,Option.some.injEq] at h;obtain⟨y0,h0,y1,h1,rfl⟩:=h;exact⟨Qav (Sim.d_le _ _ h0),Qav (Asm.d_le _ _ h1),trivial⟩
 ·cases h
def rep_.fv(a:Sim×Asm):Asm×Bool:=(repS) (a.1) (a.2)
def rep_.row:Row:=vrow rep_.ar (fun a=>Qt2 a.1 a.2) (fun a=>(fun b=>D.tup [(fun b=>D.agg (Asm.c b)) (b.1),(D.bool) (b.2)]) (rep_.fv a))
def rep_.q(a:List AV)(h:Nat→Option Ent)(n:Nat)(K:Kont):=show rep_.row a h n K=Qa1 _ _ _ (nmsL a) K (pkL h a) from rfl
theorem rep_.ok:Qas Tryz.prog 29 rep_.row:=by
 refine Qaj Qaq (tC blockOf.ok (tC asmOf.ok tN)) Tryz.func29 rfl (by kernel_rfl) (by kernel_rfl) rep_.le (n:=2) (fun _=>rfl) (by decide) (rc:=(Qfa (vAgg Asm.d) (Qa8))) (re:=(fun b=>D.tup [(fun b=>D.agg (Asm.c b)) (b.1),(D.bool) (b.2)])) (Qbz (Qb1 Asm.d_le) (Qat)) (f:=rep_.fv) ?_;intro a hpre;simp only[Tryz.f29,Option.getD];simp (config:={maxSteps:=10000000}) (disch:=omega) only[ZA,ZT,simprocAttr,Asm.d,rch,rep_.ae,rep_.fv,blockOf.q,blockOf.ar,blockOf.fv,asmOf.q,asmOf.ar,asmOf.fv];obtain⟨m,a⟩:=a;simp only at hpre⊢;obtain⟨h1,h2,h3,h4,h5⟩:=hpre;have hin:=Qdg h4;have hform:=hin.1.1;intro hlen;refine Qay.old ⟨{k:Nat×List (Qae×Int)//k.1≤a.Tiles.length∧repM m a k.1=some k.2},fun k=>⟨[(21,.im (.int .i64 k.1.1)),(20,.im (.int .i64 a.Tiles.length)),(19,.im (.sl false 3 (a.Tiles.map Qab.c))),(6,.mp 3),(4,.ptr 2 0),(2,.ptr 0 0)],[(3,(true,.map ⟨true,[.int .i64,.int .i64]⟩ (k.1.2.map Qbe))),(2,(true,.cells 47 [.im (.sl true 0 [])])),(0,(true,.cells 51 (Qnc m)))],4⟩,fun k=>a.Tiles.length - k.1.1,fun k=>⟨by simp[Qad.good,belT,belH,Qam,AV.bel,belL,Qnc],by simp⟩,⟨⟨(0,[]),by simp[repM]⟩,by simp (config:={maxSteps:=10000000}) (disch:=omega) only[ZA,ZT,simprocAttr,Asm.d,rch,rep_.ae,rep_.fv,blockOf.q,blockOf.ar,blockOf.fv,asmOf.q,asmOf.ar,asmOf.fv,sub,Qnc]⟩,fun k=> ?_⟩;obtain⟨⟨k,t⟩,hk1,hk2⟩:=k;simp only at hk1 hk2;simp (config:={maxSteps:=10000000}) (disch:=omega) only[ZA,ZT,simprocAttr,Asm.d,rch,rep_.ae,rep_.fv,blockOf.q,blockOf.ar,blockOf.fv,asmOf.q,asmOf.ar,asmOf.fv,sub,Qal,Qnc];refine⟨fun hk=>⟨hk,fun x hx=> ?_⟩,fun hk=> ?_⟩
 ·have hxm:=List.mem_of_getElem? hx;have hti:=hin.1.2 x hxm;have hsc:=h2;simp only[Qau,Bool.and_eq_true,decide_eq_true_eq] at hsc;refine⟨hti.1,by rw[h5];exact hti.2,fun lb hlb=>⟨⟨Qkc (Qh6 _ _ hform x hxm).1,hsc.1,by omega⟩,?_⟩⟩;have eR:repM m a (k+1)=Qabn m t x:=by simp only[repM,hx,hk2]
  simp only[Qabn,hlb,Option.getD_some] at eR;have hmk: ∀t',repM m a (k+1)=some t'→ ∃k':{k:Nat×List (Qae×Int)//k.1≤a.Tiles.length∧repM m a k.1=some k.2},k'.1=(k+1,t'):=fun t' h=>⟨⟨(k+1,t'),by simp only;omega,h⟩,rfl⟩
  rw[lkVC_pi];obtain⟨bp,hbp⟩: ∃bp,bp=Qgu x.At m.Scale:=⟨_,rfl⟩;simp only[←hbp] at eR⊢;refine⟨fun v hv=> ?_,fun hv=> ?_⟩
  ·simp (config:={maxSteps:=10000000}) (disch:=omega) only[ZA,ZT,simprocAttr,Asm.d,rch,rep_.ae,rep_.fv,blockOf.q,blockOf.ar,blockOf.fv,asmOf.q,asmOf.ar,asmOf.fv,sub,Qal,upd_pi];have hv':lkP t bp.1=some v:=hv;rw[hv',Option.getD_some] at eR;refine⟨fun c1=> ?_,fun c1=>⟨fun c2=> ?_,fun c2=> ?_⟩⟩
   ·rw[if_pos c1] at eR;exact⟨⟨(k+1,t),by simp only;omega,eR⟩,by simp only;omega,by rw[Qak (by omega) (by omega)];simp only;omega,rfl⟩
   ·first
     |(rw[if_neg c1,if_pos c2] at eR
       exact (Qzg (by omega) eR).symm)
     |(rw[if_neg c1,if_neg (fun h=>h c2)] at eR
       exact⟨⟨(k+1,_),by simp only;omega,eR⟩,by simp only;omega,by rw[Qak (by omega) (by omega)];simp only;omega,rfl⟩)
   ·first
     |(rw[if_neg c1,if_pos c2] at eR
       exact (Qzg (by omega) eR).symm)
     |(rw[if_neg c1,if_neg c2] at eR
       exact⟨⟨(k+1,_),by simp only;omega,eR⟩,by simp only;omega,by rw[Qak (by omega) (by omega)];simp only;omega,rfl⟩)
  ·simp (config:={maxSteps:=10000000}) (disch:=omega) only[ZA,ZT,simprocAttr,Asm.d,rch,rep_.ae,rep_.fv,blockOf.q,blockOf.ar,blockOf.fv,asmOf.q,asmOf.ar,asmOf.fv,sub,Qal,upd_pi];have hv':lkP t bp.1=none:=hv;rw[hv',Option.getD_none] at eR;refine⟨fun c1=> ?_,fun c1=> ?_⟩
   ·rw[if_pos c1] at eR;exact⟨⟨(k+1,t),by simp only;omega,eR⟩,by simp only;omega,by rw[Qak (by omega) (by omega)];simp only;omega,rfl⟩
   ·rw[if_neg c1,if_neg (by simp)] at eR;exact⟨⟨(k+1,_),by simp only;omega,eR⟩,by simp only;omega,by rw[Qak (by omega) (by omega)];simp only;omega,rfl⟩
 ·have hkl:k=a.Tiles.length:=by omega
  subst hkl;refine Qay.ren ⟨{s:Option (D×D)×List (Qae×Int)×List Qab//(s.2.2++s.2.1.map mkPl).Perm (t.map mkPl)},fun s=>⟨[(61,.it 5),(14,.own 6),(4,.ptr 2 0)],[(6,(true,.arr 101 3 (s.1.2.2.map Qab.c))),(5,(true,.iter s.1.1 (s.1.2.1.map Qbe))),(2,(true,.cells 47 [.im (.sl true 0 [])]))],7⟩,fun s=>s.1.2.1.length,fun s=>⟨by simp[Qad.good,belT,belH,Qam,AV.bel,belL],by simp⟩,⟨⟨(none,t,[]),by simp⟩,[(6,some 4)],?_⟩,fun s=> ?_⟩
  ·simp only[subP];simp (config:={maxSteps:=10000000}) (disch:=omega) only[ZA,ZT,simprocAttr,Asm.d,rch,rep_.ae,rep_.fv,blockOf.q,blockOf.ar,blockOf.fv,asmOf.q,asmOf.ar,asmOf.fv,List.map_nil]
   try simp
  obtain⟨⟨last,left,col⟩,hs⟩:=s;simp only at hs;simp (config:={maxSteps:=10000000}) (disch:=omega) only[ZA,ZT,simprocAttr,Asm.d,rch,rep_.ae,rep_.fv,blockOf.q,blockOf.ar,blockOf.fv,asmOf.q,asmOf.ar,asmOf.fv,sub,Qal];refine⟨fun hl=> ?_,fun i p hp=> ?_⟩
  ·have hl':left=[]:=by simpa using hl
   subst hl';rw[List.map_nil,List.append_nil] at hs;obtain⟨r1,r2,r3⟩:=rep_law hk2 hs;exact⟨⟨r2,by omega⟩,r1.symm⟩
  ·rw[List.getElem?_map] at hp;cases hq:left[i]? with
   |none=>rw[hq] at hp;cases hp
   |some q=>
    rw[hq] at hp;obtain rfl:=Option.some.inj hp;obtain⟨⟨qx,qy⟩,qn⟩:=q;simp only[Qbe,Qae.c];simp (config:={maxSteps:=10000000}) (disch:=omega) only[ZA,ZT,simprocAttr,Asm.d,rch,rep_.ae,rep_.fv,blockOf.q,blockOf.ar,blockOf.fv,asmOf.q,asmOf.ar,asmOf.fv,sub,Qal];have hi:i<left.length:=by
     rcases Nat.lt_or_ge i left.length with h|h
     ·exact h
     ·rw[List.getElem?_eq_none h] at hq;cases hq
    have hpm:((⟨qx,qy⟩,qn)::left.eraseIdx i).Perm left:=Qqq _ _ _ hq;have hP:((col++[(⟨⟨qx,qy⟩,qn⟩:Qab)])++(left.eraseIdx i).map mkPl).Perm (t.map mkPl):=by
     rw[List.append_assoc];refine (List.Perm.append_left col ?_).trans hs;exact hpm.map mkPl
    have hcl:col.length≤a.Tiles.length:=by
     have r3:=(rep_law hk2 hs).2.2;simp at r3;omega
    refine⟨by simp[OneR,allD,D.one],by omega,⟨⟨(some (D.agg [.int .i64 qx,.int .i64 qy],D.int .i64 qn),left.eraseIdx i,col++[(⟨⟨qx,qy⟩,qn⟩:Qab)]),hP⟩,[(6,some 9)],?_,?_⟩⟩
    ·simp only[List.length_eraseIdx];rw[if_pos hi];omega
    ·simp only[subP];simp (config:={maxSteps:=10000000}) (disch:=omega) only[ZA,ZT,simprocAttr,Asm.d,rch,rep_.ae,rep_.fv,blockOf.q,blockOf.ar,blockOf.fv,asmOf.q,asmOf.ar,asmOf.fv];simp[Qab.c,Qwf]
end Go.Ae
namespace Go.Ae
open Go.Proofs
def folI(m:Sim)(x b:Asm):List Opt×Bool:=
 if (repS m x).2=false∨(repS m b).2=false then ([],false)
 else if (repS m x).1=(repS m b).1 then ([],true)
 else ([(Qd7 (repS m x).1 (repS m b).1).1],(Qd7 (repS m x).1 (repS m b).1).2 && Qpg m.Small (Qbw (Qui m.Small (repS m x).1).Tl) (Qd7 (repS m x).1 (repS m b).1).1.At (Qd7 (repS m x).1 (repS m b).1).1.Tile)
def folPre(m:Sim)(x b:Asm):Prop:=Qeh m=true∧Qcp m.Big.Set x=true∧Qcp m.Big.Set b=true
def fol_.ar:List PK→Option (Sim×Asm×Asm)
 |[.val (.agg x0),.val (.agg x1),.val (.agg x2)]=>(Sim.d x0).bind fun y0=>(Asm.d x1).bind fun y1=>(Asm.d x2).bind fun y2=>some (y0,y1,y2)
 |_=>none
def fol_.ae(a:Sim×Asm×Asm):List PK:=[.val (.agg (Sim.c a.1)),.val (.agg (Asm.c a.2.1)),.val (.agg (Asm.c a.2.2))]
theorem fol_.le: ∀ps a,fol_.ar ps=some a→LeKL ps (fol_.ae a):=by
 intro ps a h;unfold fol_.ar at h;split at h
 ·simp only[Option.bind_eq_some_iff,Option.some.injEq] at h;obtain⟨y0,h0,y1,h1,y2,h2,rfl⟩:=h;exact⟨Qav (Sim.d_le _ _ h0),Qav (Asm.d_le _ _ h1),Qav (Asm.d_le _ _ h2),trivial⟩
 ·cases h
def fol_.fv(a:Sim×Asm×Asm):(List Opt)×Bool:=(folI) (a.1) (a.2.1) (a.2.2)
def fol_.row:Row:=Qfi fol_.ar (fun a=>folPre a.1 a.2.1 a.2.2) (fun a=>(fun b=>D.tup [(fun b=>D.sl false 3 (b.map Opt.c)) (b.1),(D.bool) (b.2)]) (fol_.fv a))
def fol_.q(a:List AV)(h:Nat→Option Ent)(n:Nat)(K:Kont):=show fol_.row a h n K=Qct _ _ _ (rchL h a) K (pkFL h a) from rfl
theorem fol_.ok:Qas Tryz.prog 30 fol_.row:=by
 refine Qbn Qaq (tC rep_.ok (tC SameAsm.ok (tC gained_.ok (tC newC.ok (tC fitsC.ok tN))))) Tryz.func30 rfl (by kernel_rfl) (by kernel_rfl) fol_.le (n:=3) (fun _=>rfl) (by decide) (rc:=(Qfa (vSl Opt.d) (Qa8))) (re:=(fun b=>D.tup [(fun b=>D.sl false 3 (b.map Opt.c)) (b.1),(D.bool) (b.2)])) (Qbz (Qe8 Opt.d_le (fun _=>rfl)) (Qat)) (f:=fol_.fv) ?_;intro a hpre;simp only[Tryz.f30,Option.getD];simp (config:={maxSteps:=10000000}) (disch:=omega) only[ZA,ZT,simprocAttr,Asm.d,rch,fol_.ae,fol_.fv,rep_.q,rep_.ar,rep_.fv,SameAsm.q,SameAsm.ar,SameAsm.fv,gained_.q,gained_.ar,gained_.fv,fitsC.q,fitsC.ar,fitsC.fv,Qah,Qag,Qac,Qaf,Qai,D.sc,D.scs,scL,decD];obtain⟨m,x,b⟩:=a;obtain⟨h0,hax,hab⟩:=hpre;simp only at h0 hax hab⊢;have h1:=Qdf h0 hax;have h2:=Qdf h0 hab;have hix:=Qph h0 hax;have hib:=Qph h0 hab;have h3:setP m.Small.Set:=by
  simp only[Qeh,Qjc,Bool.and_eq_true] at h0;exact Qge h0.2.1.1
 refine⟨h1,h2,?_⟩;simp only[folI];by_cases c1:(repS m x).2=true
 case neg=>rw[if_neg c1,if_pos (.inl (by simpa using c1))]
 rw[if_pos c1];by_cases c2:(repS m b).2=false
 case pos=>rw[if_pos c2,if_pos (.inr c2)]
 have c3: ¬((repS m x).2=false∨(repS m b).2=false):=by rintro (h|h);rw[c1] at h;cases h;exact c2 h
 rw[if_neg c2,if_neg c3];have hfx:=Qgc h1;have hfb:=Qgc h2;obtain⟨p,hp⟩: ∃p,p=(repS m x).1:=⟨_,rfl⟩;obtain⟨q,hq⟩: ∃q,q=(repS m b).1:=⟨_,rfl⟩;simp only[←hp,←hq] at hfx hfb hix hib⊢;by_cases c4:p=q
 case pos=>rw[if_pos c4,if_pos c4]
 rw[if_neg c4,if_neg c4];obtain⟨g,hg⟩: ∃g,g=Qd7 p q:=⟨_,rfl⟩;simp only[←hg];by_cases c5:g.2=true
 ·rw[if_pos c5,c5];have hsm: ∀y∈p.Tiles,Qcs m.Small.Set y.Tile∧Qdy y.At:=fun y hy=>by
   refine⟨hix.2 y hy,?_⟩
   have:=(Qh6 _ _ hfx y hy).1
   simp only[Qbi,Qau,Bool.and_eq_true,decide_eq_true_eq] at this;refine⟨?_,?_,?_,?_⟩<;>omega
  have h1':=h1.2.2.1;have hnp:newC.pre (m.Small,p):=⟨h3,by simp only;omega,hsm⟩;have hgt:Qcs m.Small.Set g.1.Tile:=by
   rw[hg] at c5⊢;simp only[Qd7] at c5⊢;by_cases hh:q.Tiles.length=p.Tiles.length+1∧Qhi p q=true
   ·rw[if_pos hh];obtain⟨_,y,hy,_⟩:=Qjz hfx hfb hh.1;simp only[hy,Option.map_some,Option.getD_some];exact hib.2 y (List.mem_of_find?_eq_some hy)
   ·rw[if_neg hh] at c5;cases c5
  refine orow.os (m.Small,p) [] ?_ (fun j=>by simp[domB,hget]) rfl rfl ?_ ?_
  ·exact hnp
  ·simp (config:={maxSteps:=10000000}) (disch:=omega) only[ZA,ZT,simprocAttr,Asm.d,rch,fol_.ae,fol_.fv,rep_.q,rep_.ar,rep_.fv,SameAsm.q,SameAsm.ar,SameAsm.fv,gained_.q,gained_.ar,gained_.fv,fitsC.q,fitsC.ar,fitsC.fv,Qah,Qag,Qac,Qaf,Qai,D.sc,D.scs,scL,decD,newC.ca,Qer,Qar.c,Asm.c]
  simp (config:={maxSteps:=10000000}) (disch:=omega) only[ZA,ZT,simprocAttr,Asm.d,rch,fol_.ae,fol_.fv,rep_.q,rep_.ar,rep_.fv,SameAsm.q,SameAsm.ar,SameAsm.fv,gained_.q,gained_.ar,gained_.fv,fitsC.q,fitsC.ar,fitsC.fv,Qah,Qag,Qac,Qaf,Qai,D.sc,D.scs,scL,decD,newC.H1,sub];exact⟨h3,(Qwp hnp).2.1,hgt⟩
 ·rw[if_neg c5];rw[Bool.not_eq_true] at c5;simp[c5]
end Go.Ae
