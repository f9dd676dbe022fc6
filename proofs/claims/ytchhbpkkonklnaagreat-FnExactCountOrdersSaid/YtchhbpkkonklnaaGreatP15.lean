/- Lemmas for fnExactCountOrders_holds. Conditions: none. -/
import Derived.Test.YtchhbpkkonklnaaGreatP14
import Derived.Shelf.SlSortCmp.NoneTotal
set_option linter.all false
set_option maxHeartbeats 8000000
set_option maxRecDepth 100000
namespace Go.Ae
open Go.Proofs Go.Sort Go.Shelf
instance:Inhabited Qab:=⟨⟨⟨0,0⟩,0⟩⟩
def encP(x:Qab):List Value:=[.int .i64 x.At.X,.int .i64 x.At.Y,.int .i64 x.Tile]
def cfP(x y:Qab):Int:=Qabu (x.At.X,x.At.Y) (y.At.X,y.At.Y)
theorem Qz0(x y:Qab):ltOf cfP x y=Qap x.At y.At:=by
 simp only[ltOf,cfP,Qabu,Lib.compareInt,Qap]
 grind
theorem swoP:SWO (ltOf cfP) where
 irrefl x:=by rw[Qz0];simp only[Qap];grind
 trans x y z h1 h2:=by rw[Qz0] at*;simp only[Qap] at*;grind
 ntrans x y z h1 h2:=by rw[Qz0] at*;simp only[Qap] at*;grind
def Qfh(l:List Qab):List Qab:=l.foldr (fun x r=>insT x.At x.Tile r) []
theorem Qn1(x:Qab): ∀(l:List Qab),(insT x.At x.Tile l).Perm (x::l)
 |[]=>ZdL _
 |y::r=>by
  simp only[insT];split
  .exact ZdL _
  .exact ((Qn1 x r).cons y).trans (List.Perm.swap x y r)
theorem Qd4: ∀(l:List Qab),(Qfh l).Perm l
 |[]=>ZdL _
 |x::r=>(Qn1 x (Qfh r)).trans ((Qd4 r).cons x)
theorem Quq{a b c:Qae}(h1:Qap a b=true)(h2:Qap c b=false):Qap c a=false:=by
 simp only[Qap] at*;grind
theorem Qx3(x:Qab): ∀(l:List Qab),l.Pairwise (fun a b=>Qap b.At a.At=false)->(insT x.At x.Tile l).Pairwise (fun a b=>Qap b.At a.At=false)
 |[],_=>by simp[insT]
 |y::r,h=>by
  rw[Zdy] at h;simp only[insT];split
  .rename_i hl;rw[Zdy,Zdy];refine⟨fun z hz=> ?_,h⟩;have hyx:Qap y.At x.At=false:=by simp only[Qap] at*;grind
   rcases ZaB.1 hz with rfl|hz
   .exact hyx
   .have:=h.1 z hz
    exact Quq hl this
  .rename_i hl;rw[Zdy];refine⟨fun z hz=> ?_,Qx3 x r h.2⟩;rcases (Qlc _ _ _ _).1 hz with rfl|hz
   .simpa using hl
   .exact h.1 z hz
theorem Qnm: ∀(l:List Qab),(Qfh l).Pairwise (fun a b=>Qap b.At a.At=false)
 |[]=>List.Pairwise.nil
 |x::r=>Qx3 x _ (Qnm r)
theorem Qacy(l:List Qab):(Qfh l).length=l.length:=(Qd4 l).length_eq
theorem at_inj{l:List Qab}(h:(l.map Qab.At).Nodup){x y:Qab}(hx:x∈l)(hy:y∈l)(he:x.At=y.At):x=y:=by
 induction l with
 |nil=>cases hx
 |cons z r ih=>
  rw[Zap,Zcq] at h;rcases ZaB.1 hx with h1|h1<;>rcases ZaB.1 hy with h2|h2
  .rw[h1,h2]
  .exact absurd (show z.At∈r.map Qab.At by rw[<-h1,he];exact Zdc h2) h.1
  .exact absurd (show z.At∈r.map Qab.At by rw[<-h2,<-he];exact Zdc h1) h.1
  .exact ih h.2 h1 h2
theorem Qlp{l l':List Qab}(hd:(l.map Qab.At).Nodup)(hp:l'.Perm l)(hs:l'.Pairwise (fun a b=>Qap b.At a.At=false)):l'=Qfh l:=by
 refine Zet (le:=fun a b=>Qap b.At a.At=false) (fun a b ha hb h1 h2=> ?_) hs (Qnm l) (hp.trans (Qd4 l).symm);refine at_inj hd (hp.mem_iff.1 ha) ((Qd4 l).mem_iff.1 hb) ?_;revert h1 h2;obtain⟨⟨ax,ay⟩,at'⟩:=a;obtain⟨⟨bx,by'⟩,bt⟩:=b;simp only[Qap,Qae.mk.injEq]
 grind
def flP(l:List Qab):List Value:=l.flatMap encP
theorem flP_len(l:List Qab):(flP l).length=l.length*3:=by
 induction l with
 |nil=>rfl
 |cons x r ih=>simp only[flP,ZbM,Zaz,ZaH] at ih⊢;rw[ih];simp[encP];omega
theorem Ql5{ok:Nat->Prop}{hp:Nat->Option Obj}: ∀(l:List Qab) (L:List Value),rdr ok hp 3 (l.map Qab.c) L↔ ∃r,L=flP l++r
 |[],L=>by simp[rdr,flP]
 |x::r,L=>by
  simp only[Zap,rdr,Ql5 r,Qab.c,rdp,rd,flP,ZbM];constructor
  .rintro⟨_,⟨v,L1,rfl,rfl,v2,L2,rfl,rfl,v3,L3,rfl,rfl,_⟩,q,hq⟩;exact⟨q,by simp only[ZbS,ZbI] at hq;rw[hq];rfl⟩
  .rintro⟨q,rfl⟩;exact⟨rfl,⟨_,_,rfl,rfl,_,_,rfl,rfl,_,_,rfl,rfl,trivial⟩,q,rfl⟩
theorem flP_get: ∀(l:List Qab) (t:Nat),t<l.length*3->(flP l)[t]? =some ((encP (l[t/3]?.getD default))[t % 3]!)
 |[],t,h=>by simp at h
 |x::r,t,h=>by
  by_cases ht:t<3
  .have:t=0\/t=1\/t=2:=by omega
   rcases this with rfl|rfl|rfl<;>simp[flP,encP]
  .obtain⟨u,rfl⟩: ∃u,t=u+3:=⟨t - 3,by omega⟩;have e1:(u+3)/3=u/3+1:=by omega
   have e2:(u+3) % 3=u % 3:=by omega
   have ih:=flP_get r u (by simp at h;omega);rw[e1,e2,ZaU,<-ih];simp[flP,encP]
theorem Qvu(l:List Qab):(flatK encP 3 l.toArray).toList=flP l:=by
 apply ZbY;intro t;by_cases ht:t<l.length*3
 .rw[flP_get l t ht];have hs:t<(flatK encP 3 l.toArray).size:=by simp only[size_flatK,ZcA];exact ht
  have h1:=get_flatK encP 3 l.toArray t (by simpa using ht);rw[ZaY,Zbk hs,<-getElem!_pos (flatK encP 3 l.toArray) t hs,h1];congr 3;simp[getElem!_def];cases l[t/3]? <;>rfl
 .have a1:(flatK encP 3 l.toArray).toList.length<=t:=by rw[ZaQ,size_flatK,ZcA];omega
  have a2:(flP l).length<=t:=by rw[flP_len];omega
  rw[ZaV a1,ZaV a2]
def srt.ca(_:List Qab):List AV:=[.own 0,.im (.fn 180 [] [])]
def srt.H0(a:List Qab):Qan:=[(0,(true,.arr 177 3 (a.map Qab.c)))]
def srt.H1(a:List Qab):Qan:=[(0,(true,.arr 177 3 ((Qfh a).map Qab.c)))]
def srt.row:Row:=orow srt.ca srt.H0 1 (fun a=>(a.map Qab.At).Nodup) (fun _=>true) (fun _=> .im (.tup [])) srt.H1 0
theorem srt.ok:Qas Tryz.prog 179 srt.row:=by
 rintro args h nx K ⟨a,τ,U,KL,hpre,rfl,hheap,hN,hK⟩;refine⟨Qh7 (by kernel_rfl),_,_,?_,hK⟩;intro C S vs R hW huse hfresh hnames hargs hfin;have hs0:sgx τ 1 nx 0=τ 0:=Zam (by omega);simp only[srt.ca,renL,AV.ren,hs0,Qa0,conc,rd,rdl] at hargs;obtain⟨v0,r0,hv,⟨hone,hown⟩,v1,r1,hr1,⟨ac,cc,hv1,hac,hcc⟩,hr2⟩:=hargs;have hac:ac= #[]:=by apply ZdT;simpa using hac
 have hcc:cc= #[]:=by apply ZdT;simpa using hcc
 subst hac hcc hr2 hr1 hv1;have hvs:vs= #[v0,.func (fnV 180) #[] #[]]:=by apply ZdT;simpa using hv
 subst hvs;have hm:h (τ 0)=some (true,.arr 177 3 (a.map Qab.c)):=by
  have:=hheap.1
  rwa [hs0] at this
 have hd0:domB (srt.H0 a) 0=true:=rfl;have hSm:S.h (τ 0)=some (true,.arr 177 3 (a.map Qab.c)):=by
  rw[huse (τ 0) (ZbD _ (hN.u 0 hd0)),hm]
 have hk0: ∀n,n∈KL↔n=τ 0:=by
  intro n;constructor
  .intro hn;obtain⟨j,h1,_,h3⟩:=hN.k1 n hn
   have:j=0:=by
    simp only[domB,srt.H0,hget] at h1;by_cases hj:j=0
    .exact hj
    .have:(0==j)=false:=by simpa using fun h=>hj h.symm
     rw[this] at h1;cases h1
   rw[h3,this]
  .rintro rfl;exact hN.k2 0 hd0 rfl
 obtain⟨m,hmm⟩: ∃m,m=τ 0:=⟨_,rfl⟩;rw[<-hmm] at hSm hown hk0;have hsl:=Qacy a;have fin: ∀(w':World),Qjb S m (.arr 177 3 ((Qfh a).map Qab.c)) (S.ρ m) [m] w'->
  (Pres (fun n=>S.h m≠none\/n≠m) S (S.one m (.arr 177 3 ((Qfh a).map Qab.c)) (S.ρ m) [m] w')->objc (S.one m (.arr 177 3 ((Qfh a).map Qab.c)) (S.ρ m) [m] w') (S.ρ m) (.arr 177 3 ((Qfh a).map Qab.c)))->R (.returned (.tuple #[])) w':=by
  intro w' hone hob;have hp:=Qg2 hW hone;refine hfin (.tuple #[]) _ (Qqp hW hone (hob hp)) ?_ ⟨hp.ok,fun n _=>hp.nm n (.inl (by rw[hSm];simp))⟩ ⟨#[],rfl,rfl⟩;funext n;simp only[Env.one,Eff.appf,srt.H1,renH,hs0,hget,AObj.ren,<-hmm];by_cases hn:n=m
  .subst hn;simp
  .have h1:(m==n)=false:=by simpa using fun h=>hn h.symm
   have h2:KL.contains n=false:=by
    rw[<-ZcH,Zbp,hk0];exact hn
   simp only[h1,ZaT,h2,hn,Zbv,Zan]
 have hown':=hown _ hSm;have hobj:=hW.obj _ _ hSm;have hloc:=fun lc=>hW.loc m _ lc hSm
 cases hρ:S.ρ m with
 |none=>
  rw[hρ] at hown' hobj;simp only[objc] at hobj;have ha:a=[]:=by simpa using hobj.2
  subst ha;simp only at hown';rw[hown',Qoi (by decide)];refine (AnyF.slices_SortFunc_none Tryz.sortPl none 0 (.func (.func 180) #[] #[]) S.w).mono ?_;rintro e w' ⟨rfl,rfl⟩;refine fin S.w (Qacz hSm (fun l hl=>by rw[hρ] at hl;cases hl) rfl rfl) (fun _=> ?_);rw[hρ];exact⟨Zbm _,rfl⟩
 |some lc=>
  rw[hρ] at hown' hobj;simp only[objc,AObj.len] at hobj hown';obtain⟨g1,g2,cv,g3,g4,g5⟩:=hobj;obtain⟨hlb,hlk⟩:=hloc lc hρ;rw[Ql5] at g5;obtain⟨rest,g5⟩:=g5;simp only[ZaM] at g1 g2 hown';have hheap:S.w.heap[lc.b]? =some (.cells cv 177 (0,0)):=g3;have hlen:lc.p+a.length*3<=cv.size:=by omega
  have hF:(flatK encP 3 a.toArray).size=a.length*3:=by simp
  have hget: ∀j,j<a.length*3->cv[lc.p+j]? =some ((flatK encP 3 a.toArray)[j]!):=by
   intro j hj;have h1:(cv.toList.drop lc.p)[j]? =(flP a++rest)[j]? :=by rw[g5]
   rw[ZbQ,ZaY,ZaI (by rw[flP_len];exact hj),<-Qvu,ZaY] at h1;rw[h1,Zbk (by rw[hF];exact hj),getElem!_pos _ _ (by rw[hF];exact hj)]
  have hH:HoldsK encP 3 S.w lc.b lc.p a.toArray:=by
   intro j hj;rw[hF] at hj;refine⟨?_,?_⟩
   .simp only[World.cell?,hheap,ZcW,Zax,Zbv,id];exact hget j hj
   .simp only[World.frozen?,hheap];simp
  have hc:=AnyQ.slices_SortFunc Tryz.sortPl 3 Tryz.isAgg177 Tryz.sizeOf177 encP (fun _=>rfl) (fun x v hv=>by simp[encP] at hv;rcases hv with rfl|rfl|rfl<;>rfl) cfP swoP 180 #[] lc.b lc.p lc.cap a.toArray S.w
   (Qhx (Qh7 (by kernel_rfl))) (fun m os dk hs x y=>Tryz.cmpPlaced90 _ _ _ _ _ _ _) hH hlb (by simp only[ZcA,LIM] at g1⊢;omega)
  rw[hown',Qoi (by decide)];refine hc.mono ?_;rintro e w' ⟨rfl,d',n,os,hperm,hsort,rfl⟩;have hsz:d'.size=a.length:=hperm.1;have hd':d'.toList=Qfh a:=by
   refine Qlp hpre ?_ ?_
   .have:=hperm.2.2
    rwa [show d'.extract 0 a.toArray.size=d' by rw[ZcA,<-hsz];exact Array.extract_size,show a.toArray.extract 0 a.toArray.size=a.toArray from Array.extract_size] at this
   .rw[Zdr];intro i j hi hj hij
    have:=hsort i j (Zbm _) hij (by rw[ZcA,<-hsz];simpa using hj)
    rw[Qz0,getElem!_pos d' i (by simpa using hi),getElem!_pos d' j (by simpa using hj)] at this;simpa using this
  obtain rfl:d'=(Qfh a).toArray:=by apply ZdT;rw[hd']
  have hF':(flatK encP 3 (Qfh a).toArray).size=a.length*3:=by simp[hsl]
  have hl2:(flatK encP 3 (Qfh a).toArray).toList.length=a.length*3:=by rw[ZaQ,hF']
  have hsize:S.w.heap.size<=(sortWorldK encP 3 S.w lc.b lc.p n (Qfh a).toArray os).heap.size:=by
   simp[sortWorldK,grow,putRowK,Sort.ahead]
  have hb: ∀b,b<S.w.heap.size->(sortWorldK encP 3 S.w lc.b lc.p n (Qfh a).toArray os).heap[b]? =if lc.b=b then S.w.heap[b]?.map (onCells (putCells id lc.p (flatK encP 3 (Qfh a).toArray))) else S.w.heap[b]? :=by
   intro b hb;have e0:b<(putRowK encP 3 (Sort.ahead S.w n) lc.b lc.p (Qfh a).toArray).heap.size:=by simpa[putRowK,Sort.ahead] using hb
   simp only[sortWorldK,grow];rw[Zee e0];simp only[putRowK,putRow,mapBlock,Sort.ahead,ZdN]
  refine fin _ ⟨rfl,rfl,rfl,hsize,?_,.inl (by simp),?_,?_,?_⟩ ?_
  .intro b hb1 hb2;rw[hb b hb1,Zaj (hb2 m _ lc (by simp) hSm hρ)]
  .intro lo hlo;rw[hρ] at hlo;obtain rfl:=Zaa hlo;exact⟨Zbg hlb hsize,.inr ⟨m,_,lc,by simp,hSm,hρ,rfl⟩⟩
  .intro f hf;rw[hSm] at hf;obtain rfl:=Zaa hf;exact⟨rfl,rfl,by simp[AObj.len,hsl]⟩
  .intro n' f _ hnone;rw[hSm] at hnone;cases hnone
  .intro _;rw[hρ];simp only[objc,ZaM,hsl];refine⟨g1,g2,putCells id lc.p (flatK encP 3 (Qfh a).toArray) cv,?_,by simpa[putCells] using g4,?_⟩
   .simp only[Env.one,Env.hp];rw[hb lc.b hlb,Zam rfl,hheap];rfl
   .rw[Ql5];refine⟨(cv.toList.drop (lc.p+a.length*3)),?_⟩;apply ZbY;intro t;rw[ZbQ,ZaY,putCells,ZeD,hF',<-Qvu];by_cases ht:t<a.length*3
    .rw[ZaI (by rw[hl2];exact ht),ZaY,Zbk (show lc.p+t<cv.size by omega),Zbk (by rw[hF'];exact ht)];simp only[ZaN,id];rw[Zam ⟨by omega,by omega⟩,ZcI,getElem!_pos _ _ (by rw[hF'];exact ht)]
    .rw[ZaE (by rw[hl2];omega),hl2,ZbQ,ZaY,show lc.p+a.length*3+(t - a.length*3)=lc.p+t by omega];cases cv[lc.p+t]? with
     |none=>rfl
     |some x=>simp only[ZaN];rw[Zaj (by omega)]
end Go.Ae
namespace Go.Ae
open Go.Proofs
def asmOf.ar:List PK->Option ((List Qab)):=a1 (kS Qab.d)
def asmOf.ae(a:(List Qab)):List PK:=[.val (.sl false 3 (a.map Qab.c))]
def asmOf.fv(a:(List Qab)):Asm:=(fun l=>⟨Qfh l⟩) a
def asmOf.row:Row:=vrow asmOf.ar (fun a=>(a.map Qab.At).Nodup/\a.length<=1000000) (fun a=>(fun b=>D.agg (Asm.c b)) (asmOf.fv a))
def asmOf.q:=vq asmOf.row rfl
def YaN:=J @asmOf.ae.eq_1 @asmOf.fv.eq_1
theorem asmOf.ok:Qas Tryz.prog 158 asmOf.row:=by
 refine Qaj Qaq (tC clonC.ok (tC srt.ok tN)) Tryz.func158 rfl (by kernel_rfl) (by kernel_rfl) (ar:=asmOf.ar) (ae:=asmOf.ae) (Qacd (Qacb 3 Qab.d_le (fun _=>rfl))) (n:=1) (fun _=>rfl) (by decide) (rc:=(vAgg Asm.d)) (re:=(fun b=>D.agg (Asm.c b))) (Qb1 Asm.d_le) (f:=asmOf.fv) ?_;intro a hpre;simp only[Tryz.f158,Option.getD];simp (maxSteps:=10^7) (disch:=omega) only[ZZ,simprocAttr,rch,YaN];refine orow.os a [] hpre.2 (fun j=>by simp[domB,hget]) rfl rfl ?_ ?_
 .simp (maxSteps:=10^7) (disch:=omega) only[ZZ,simprocAttr,rch,YaN,clonC.ca,Qer,Qb4]
 simp (maxSteps:=10^7) (disch:=omega) only[ZZ,simprocAttr,rch,YaN,clonC.H1,sub];refine orow.os a [1] hpre.1 (fun j=> ?_) rfl rfl ?_ ?_
 .simp only[domB,srt.H0,hget];by_cases hj:j=0
  .subst hj;simp
  .have:(0==j)=false:=by simpa using fun h=>hj h.symm
   rw[this];simp;omega
 .simp (maxSteps:=10^7) (disch:=omega) only[ZZ,simprocAttr,rch,YaN,srt.ca,srt.H0,Qer];exact⟨rfl,rfl⟩
 simp (maxSteps:=10^7) (disch:=omega) only[ZZ,simprocAttr,rch,YaN,srt.H1,sub,Zbx,ZbV]
def mkPl(q:Qae×Int):Qab:=⟨q.1,q.2⟩
def repM1(m:Sim)(t:List (Qae×Int))(x:Qab):Option (List (Qae×Int)):=
 if (m.Labels[x.Tile.toNat]?.getD 0)<0 then some t
 else if (lkP t (Qgu x.At m.Scale).1).getD (m.Labels[x.Tile.toNat]?.getD 0)≠(m.Labels[x.Tile.toNat]?.getD 0) then none
 else some (updP t (Qgu x.At m.Scale).1 (m.Labels[x.Tile.toNat]?.getD 0))
theorem find_perm{l l':List Qab}(hp:l.Perm l')(hd:(l'.map Qab.At).Nodup)(p:Qae):l.find? (fun x=>decide (x.At=p))=l'.find? (fun x=>decide (x.At=p)):=by
 cases h1:l.find? (fun x=>decide (x.At=p)) with
 |none=>
  symm;rw[ZcS] at h1⊢;exact fun x hx=>h1 x (hp.mem_iff.2 hx)
 |some x=>
  have hx:=hp.mem_iff.1 (ZcZ h1);have hxp:=ZcL h1;cases h2:l'.find? (fun x=>decide (x.At=p)) with
  |none=>
   rw[ZcS] at h2;exact absurd hxp (h2 x hx)
  |some y=>
   have hy:=ZcZ h2;have hyp:=ZcL h2;rw[at_inj hd hx hy];rw[Zas] at hxp hyp;rw[hxp,hyp]
theorem lk_find(p:Qae): ∀(t:List (Qae×Int)),(((t.map mkPl).find? (fun x=>decide (x.At=p))).map Qab.Tile)=lkP t p
 |[]=>rfl
 |(k,w)::r=>by
  simp only[Zap,Zea,mkPl,lkP];by_cases h:k=p
  .subst h;simp
  .have h1:decide (k=p)=false:=by simpa using h
   have h2: ¬p=k:=fun h3=>h h3.symm
   rw[h1,Zaj h2];exact lk_find p r
theorem Qac3(t:List (Qae×Int)):(t.map mkPl).map Qab.At=t.map Prod.fst:=by simp[mkPl]
theorem lk_at{t:List (Qae×Int)}(hd:(t.map Prod.fst).Nodup)(p:Qae):atA ⟨Qfh (t.map mkPl)⟩ p=(lkP t p).getD (-1):=by
 have hd':((t.map mkPl).map Qab.At).Nodup:=by rw[Qac3];exact hd
 simp only[atA];rw[find_perm (Qd4 _) hd',lk_find]
theorem Qm3{t:List (Qae×Int)}{p:Qae}(v:Int)(h:lkP t p=none):updP t p v=t++[(p,v)]:=by
 induction t with
 |nil=>rfl
 |cons q r ih=>
  obtain⟨k,w⟩:=q;simp only[lkP] at h;split at h
  .cases h
  .rename_i hn;simp only[updP,Zaj hn,ZaC];rw[ih h]
theorem updP_same{t:List (Qae×Int)}{p:Qae}{v:Int}(h:lkP t p=some v):updP t p v=t:=by
 induction t with
 |nil=>cases h
 |cons q r ih=>
  obtain⟨k,w⟩:=q;simp only[lkP] at h;simp only[updP];split at h
  .rename_i he;obtain rfl:=Zaa h;rw[Zam he,he]
  .rename_i hn;rw[Zaj hn,ih h]
theorem Qyz{t:List (Qae×Int)}{p:Qae}(h:lkP t p=none):p∉t.map Prod.fst:=by
 induction t with
 |nil=>simp
 |cons q r ih=>
  obtain⟨k,w⟩:=q;simp only[lkP] at h;split at h
  .cases h
  .rename_i hn;simp only[Zap,ZaB,not_or];exact⟨hn,ih h⟩
theorem Qac0{t:List (Qae×Int)}{p:Qae}{v:Int}(h:lkP t p=some v):(p,v)∈t:=by
 induction t with
 |nil=>cases h
 |cons q r ih=>
  obtain⟨k,w⟩:=q;simp only[lkP] at h;split at h
  .rename_i he;obtain rfl:=Zaa h;rw[he];exact Zar ..
  .exact Zaq _ (ih h)
structure RM(t:List (Qae×Int))(o:Asm)(k:Nat):Prop where
 nd:(t.map Prod.fst).Nodup
 pos: ∀q∈t,0<=q.2
 eq:o=⟨Qfh (t.map mkPl)⟩
 len:t.length<=k
theorem RM.step{m:Sim}{t:List (Qae×Int)}{o:Asm}{k:Nat}(h:RM t o k)(x:Qab):(∃t' o',repM1 m t x=some t'/\repS1 m o x=some o'/\RM t' o' (k+1))\/(repM1 m t x=none/\repS1 m o x=none):=by
 obtain⟨nd,pos,rfl,len⟩:=h;simp only[repM1,repS1];generalize m.Labels[x.Tile.toNat]?.getD 0=n;generalize (Qgu x.At m.Scale).1=p;by_cases c1:n<0
 .rw[Zam c1,Zam c1];exact .inl ⟨_,_,rfl,rfl,nd,pos,rfl,by omega⟩
 rw[Zaj c1,Zaj c1,lk_at nd];cases hq:lkP t p with
 |none=>
  simp only[Option.getD_none];rw[Zaj (by simp),Zaj (by omega),Zam (by omega)];refine .inl ⟨_,_,rfl,rfl,?_,?_,?_,?_⟩
  .rw[Qm3 n hq,Zbb,Zcb];refine⟨nd,by simp,?_⟩;intro a ha b hb hab;simp only[Zap,ZaS,Zan] at hb;exact Qyz hq (by rw[<-hb,<-hab];exact ha)
  .intro q hm;rw[Qm3 n hq] at hm;rcases Zao.1 hm with hm|hm
   .exact pos q hm
   .simp only[Zan] at hm;subst hm;simp only;omega
  .rw[Qi8,Qm3 n hq];congr 1;have hd':(((t++[(p,n)]).map mkPl).map Qab.At).Nodup:=by
    rw[Qac3,Zbb,Zcb];refine⟨nd,by simp,?_⟩;intro a ha b hb hab;simp only[Zap,ZaS,Zan] at hb;exact Qyz hq (by rw[<-hb,<-hab];exact ha)
   refine Qlp hd' ?_ (Qx3 ⟨p,n⟩ _ (Qnm _));refine (Qn1 ⟨p,n⟩ _).trans ?_;rw[Zbb];refine ((Qd4 _).cons _).trans ?_;exact (Zeg _ _).symm
  .rw[Qm3 n hq];simp;omega
 |some v=>
  simp only[Zae];have hv:=pos _ (Qac0 hq);simp only at hv;by_cases c2:v=n
  .subst c2;rw[Zaj (by simp),Zaj (by simp),Zaj (by omega),updP_same hq];exact .inl ⟨_,_,rfl,rfl,nd,pos,rfl,by omega⟩
  .rw[Zam c2,Zam ⟨hv,c2⟩];exact .inr ⟨rfl,rfl⟩
theorem idx_at{s:Qaa}{a:Asm}(h: ∀x∈a.Tiles,Qcs s x.Tile)(p:Qae):Qaw (fun x=>decide (x.At=p)) 0 a.Tiles<0↔atA a p<0:=by
 simp only[atA];rcases Qep (fun x=>decide (x.At=p)) a.Tiles 0 with ⟨h1,h2⟩|⟨i,x,h1,h2,h3⟩
 .rw[h1,h2];simp
 .rw[h1,h2]
  have:=(h x (Zad h3)).1
  simp only[ZaN,Zae];omega
theorem RM.put{t:List (Qae×Int)}{o:Asm}{k:Nat}(h:RM t o k){p:Qae}{v:Int}(hv:0<=v)(hn:lkP t p=none):RM (updP t p v) (putA o p v) (k+1):=by
 obtain⟨nd,pos,rfl,len⟩:=h;have hnd:((t++[(p,v)]).map Prod.fst).Nodup:=by
  rw[Zbb,Zcb];refine⟨nd,by simp,?_⟩;intro a ha b hb hab;simp only[Zap,ZaS,Zan] at hb;exact Qyz hn (by rw[<-hb,<-hab];exact ha)
 rw[Qm3 v hn];refine⟨hnd,?_,?_,by simp;omega⟩
 .intro q hm;rcases Zao.1 hm with hm|hm
  .exact pos q hm
  .simp only[Zan] at hm;subst hm;exact hv
 .rw[Qi8];congr 1;have hd':(((t++[(p,v)]).map mkPl).map Qab.At).Nodup:=by rw[Qac3];exact hnd
  refine Qlp hd' ?_ (Qx3 ⟨p,v⟩ _ (Qnm _));refine (Qn1 ⟨p,v⟩ _).trans ?_;rw[Zbb];refine ((Qd4 _).cons _).trans ?_;exact (Zeg _ _).symm
theorem RM.at{t:List (Qae×Int)}{o:Asm}{k:Nat}(h:RM t o k):Qbw t=atA o:=by
 funext p;rw[h.eq,lk_at h.nd];rfl
theorem RM.size{t:List (Qae×Int)}{o:Asm}{k:Nat}(h:RM t o k):o.Tiles.length=t.length:=by
 rw[h.eq];simp only[Qacy,ZaM]
theorem Qac4: ∀(l t:List Qab),((t++l).map Qab.At).Nodup->l.foldl (fun u x=>updP u x.At x.Tile) (t.map fun x=>(x.At,x.Tile))=(t++l).map fun x=>(x.At,x.Tile)
 |[],t,_=>by simp
 |x::r,t,h=>by
  have hx:lkP (t.map fun x=>(x.At,x.Tile)) x.At=none:=by
   cases hq:lkP (t.map fun x=>(x.At,x.Tile)) x.At with
   |none=>rfl
   |some v=>
    exfalso;obtain⟨y,hy,he⟩:=ZaK.1 (Qac0 hq);have e1:y.At=x.At:=ZbA Prod.fst he;rw[Zbb,Zcb] at h;exact h.2.2 _ (Zdc hy) _ (Zdc (Zar ..)) e1
  rw[Zdm,Qm3 _ hx]
  have:=Qac4 r (t++[x]) (by simpa using h)
  simpa using this
theorem RM.of{a:Asm}(hf:Qaz none a.Tiles=true)(hp: ∀x∈a.Tiles,0<=x.Tile):RM (tlUp a.Tiles) a a.Tiles.length:=by
 have hn:=Qix hf;have e:tlUp a.Tiles=a.Tiles.map fun x=>(x.At,x.Tile):=by
  have:=Qac4 a.Tiles [] (by simpa using hn)
  simpa[tlUp] using this
 have em:(a.Tiles.map fun x=>(x.At,x.Tile)).map mkPl=a.Tiles:=by
  rw[Zdj];exact List.map_id' _
 rw[e];refine⟨by rw[Zdj];exact hn,?_,?_,by simp⟩
 .intro q hq;obtain⟨x,hx,rfl⟩:=ZaK.1 hq;exact hp x hx
 .rw[em];have hs:=(Qe4 _ _ hf).2;have hw:a.Tiles.Pairwise (fun x y=>Qap y.At x.At=false):=by
   rw[Zdr];intro i j hi hj hij
   have:=hs i j a.Tiles[i] a.Tiles[j] hij (Zac hi) (Zac hj)
   simp only[Qap] at this⊢
   grind
  rw[<-Qlp hn (ZdL _) hw]
theorem fit_at{s:Qar}{a:Asm}(h:Qn7 s.Set a)(o:Opt):(Qau o.Tile 0 (s.Set.Tiles.length - 1) && Qpg s (atA a) o.At o.Tile)=canS s a o:=by
 have h2:decide (atA a o.At<0)=decide (Qaw (fun x=>decide (x.At=o.At)) 0 a.Tiles<0):=by rw[decide_eq_decide];exact (idx_at h.2 o.At).symm
 simp only[Qpg,canS,Qae8];rw[h2];cases Qbi o.At<;>cases Qau o.Tile 0 (s.Set.Tiles.length - 1)<;>simp
def Qacn(s:Qar):List (Qae×Int)->List Opt->Nat->Asm×Int×Int
 |t,[],_=>(⟨Qfh (t.map mkPl)⟩,0,0)
 |t,o::r,i=>if (Qau o.Tile 0 (s.Set.Tiles.length - 1) && Qpg s (Qbw t) o.At o.Tile)=false then (⟨[]⟩,(i:Int),5) else if 500<=t.length then (⟨[]⟩,0,4) else Qacn s (updP t o.At o.Tile) r (i+1)
def Qacg(s:Qar):Asm->List Opt->Nat->Asm×Int×Int
 |a,[],_=>(a,0,0)
 |a,o::r,i=>if canS s a o=false then (⟨[]⟩,(i:Int),5) else if 500<=a.Tiles.length then (⟨[]⟩,0,4) else Qacg s (putA a o.At o.Tile) r (i+1)
theorem Qac5{s:Qar}(hs:s.Set.Tiles.length<=160): ∀(l:List Opt) (t:List (Qae×Int)) (a:Asm) (k i:Nat),RM t a k->Qn7 s.Set a->Qacn s t l i=Qacg s a l i
 |[],t,a,k,i,h,_=>by simp only[Qacn,Qacg,h.eq]
 |o::r,t,a,k,i,h,ha=>by
  simp only[Qacn,Qacg];rw[h.at,fit_at ha,<-h.size];by_cases c1:canS s a o=false
  .rw[Zam c1,Zam c1]
  rw[Zaj c1,Zaj c1];by_cases c2:500<=a.Tiles.length
  .rw[Zam c2,Zam c2]
  rw[Zaj c2,Zaj c2];rw[Zba] at c1;simp only[canS,Zah,Zas] at c1;obtain⟨d1,d2,d3,_⟩:=c1;have hno:=Qma d3;have hv:0<=o.Tile:=by
   simp only[Qau,Zah,Zas] at d2;exact d2.1
  have hlk:lkP t o.At=none:=by
   have h1:Qbw t o.At=atA a o.At:=congrFun h.at o.At;have h2:=(idx_at ha.2 o.At).1 d3;cases hq:lkP t o.At with
   |none=>rfl
   |some v=>
    exfalso;have h3:=h.pos _ (Qac0 hq);simp only[Qbw,hq,Zae] at h1;simp only at h3;omega
  have hw:Qau o.Tile 0 159=true:=by
   simp only[Qau,Zah,Zas] at d2⊢;omega
  refine Qac5 hs r _ _ (k+1) (i+1) (h.put hv hlk) ⟨?_,?_⟩
  .rw[Qi8];exact Qki d1 hw _ none ha.1 (fun q hq=>by cases hq) hno
  .intro x hx;rw[Qi8] at hx;rcases (Qlc _ _ _ _).1 hx with rfl|hx
   .simp only[Qau,Zah,Zas] at d2;exact⟨hv,by simp only;omega⟩
   .exact ha.2 x hx
def eqOption.ar:List PK->Option (Opt×Opt):=a2 (kR Opt.d) (kR Opt.d)
def eqOption.ae(a:Opt×Opt):List PK:=[.val (.agg (Opt.c a.1)),.val (.agg (Opt.c a.2))]
def eqOption.fv(a:Opt×Opt):Bool:=(fun a b=>decide (a=b)) (a.1) (a.2)
def eqOption.row:Row:=vrow eqOption.ar (fun a=>True) (fun a=>(D.bool) (eqOption.fv a))
def eqOption.q:=vq eqOption.row rfl
theorem eqOption.ok:Qas Tryz.prog 57 eqOption.row:=by
 refine Qaj Qaq (tC eqPoint.ok tN) Tryz.func57 rfl (by kernel_rfl) (by kernel_rfl) (ar:=eqOption.ar) (ae:=eqOption.ae) (Qaca (Qab8 Opt.d_le) (Qab8 Opt.d_le)) (n:=2) (fun _=>rfl) (by decide) (rc:=(Qa8)) (re:=(D.bool)) (Qat) (f:=eqOption.fv) ?_;intro a hpre;simp only[Tryz.f57,Option.getD];simp (maxSteps:=10^7) (disch:=omega) only[ZZ,simprocAttr,rch,eqOption.ae,eqOption.fv,eqPoint.q,eqPoint.ar,eqPoint.fv];obtain⟨⟨⟨x,y⟩,u⟩,⟨⟨z,w⟩,v⟩⟩:=a;simp only[Opt.mk.injEq,Qae.mk.injEq]
 grind
def szOptionS.ar:List PK->Option ((List Opt)×Int):=a2 (kS Opt.d) kI
def szOptionS.ae(a:(List Opt)×Int):List PK:=[.val (.sl false 3 (a.1.map Opt.c)),.val (.int .i64 a.2)]
def szOptionS.fv(a:(List Opt)×Int):Int:=(fun a l=>szC a.length l) (a.1) (a.2)
def szOptionS.row:Row:=vrow szOptionS.ar (fun a=> -1<=a.2/\a.2<=1048576) (fun a=>(D.int .i64) (szOptionS.fv a))
def szOptionS.q:=vq szOptionS.row rfl
theorem szOptionS.ok:Qas Tryz.prog 10 szOptionS.row:=by
 refine Qaj Qaq tN Tryz.func10 rfl (by kernel_rfl) (by kernel_rfl) (ar:=szOptionS.ar) (ae:=szOptionS.ae) (Qaca (Qacb 3 Opt.d_le (fun _=>rfl)) Qab9) (n:=2) (fun _=>rfl) (by decide) (rc:=(vInt)) (re:=(D.int .i64)) (Qa3) (f:=szOptionS.fv) ?_;intro a hpre;simp only[Tryz.f10,Option.getD];simp (maxSteps:=10^7) (disch:=omega) only[ZZ,simprocAttr,rch,szOptionS.ae,szOptionS.fv];intro h;rw[Qak (by omega) (by omega)];simp only[szC];grind
def toOptionS.ar:List PK->Option ((List Opt)):=a1 (kS Opt.d)
def toOptionS.ae(a:(List Opt)):List PK:=[.val (.sl false 3 (a.map Opt.c))]
def toOptionS.fv(a:(List Opt)):List Opt:=(fun p=>p) a
def toOptionS.row:Row:=vrow toOptionS.ar (fun a=>a.length<=1073741824) (fun a=>(fun b=>D.sl false 3 (b.map Opt.c)) (toOptionS.fv a))
def toOptionS.q:=vq toOptionS.row rfl
def YaO:=J @toOptionS.ae.eq_1 (J @toOptionS.fv.eq_1 (J @toOption.q (J @toOption.ar.eq_1 @toOption.fv.eq_1)))
theorem toOptionS.ok:Qas Tryz.prog 13 toOptionS.row:=by
 refine Qaj Qaq (tC toOption.ok tN) Tryz.func13 rfl (by kernel_rfl) (by kernel_rfl) (ar:=toOptionS.ar) (ae:=toOptionS.ae) (Qacd (Qacb 3 Opt.d_le (fun _=>rfl))) (n:=1) (fun _=>rfl) (by decide) (rc:=(vSl Opt.d)) (re:=(fun b=>D.sl false 3 (b.map Opt.c))) (Qe8 Opt.d_le (fun _=>rfl)) (f:=toOptionS.fv) ?_;intro a hpre;simp only[Tryz.f13,Option.getD];simp (maxSteps:=10^7) (disch:=omega) only[ZZ,simprocAttr,rch,YaO];intro hlen;have hpl:a.length<=1073741824:=hpre;refine⟨by omega,?_⟩;refine Qay.old ⟨{k:Nat//k<=a.length},fun k=>⟨[(4,.im (.int .i64 k.1)),(3,.own 1),(0,.im (.sl false 3 (a.map Opt.c)))],[(1,(true,.arr 82 3 ((a.take k.1).map Opt.c++List.replicate (a.length - k.1) [.int .i64 0,.int .i64 0,.int .i64 0])))],2⟩,fun k=>a.length - k.1,fun k=>⟨by simp[Qad.good,belT,belH,Qam,AV.bel,belL],Zal _⟩,⟨⟨0,by omega⟩,by simp (maxSteps:=10^7) (disch:=omega) only[ZZ,simprocAttr,rch,YaO,sub];simp⟩,fun k=> ?_⟩;obtain⟨k,hk1⟩:=k;simp (maxSteps:=10^7) (disch:=omega) only[ZZ,simprocAttr,rch,YaO,sub,Qal,Qk2 _ _ a k hk1];intro _;refine⟨fun hk=> ?_,fun hk=> ?_⟩
 .refine⟨hk,fun x hx=>⟨hk,hk,Qi3 (Qj5 Opt.c _ a k x hx) ?_⟩⟩;simp (maxSteps:=10^7) (disch:=omega) only[ZZ,simprocAttr,rch,YaO,sub];refine⟨⟨k+1,by omega⟩,by simp only;omega,?_,?_⟩
  .rw[Qak (by omega) (by omega)];simp only;omega
  .exact Qli Opt.c _ a k x hx
 .rw[Qkp Opt.c _ a k (by omega)];simp[Opt.d_R]
def eqOptionS.ar:List PK->Option ((List Opt)×(List Opt)):=a2 (kS Opt.d) (kS Opt.d)
def eqOptionS.ae(a:(List Opt)×(List Opt)):List PK:=[.val (.sl false 3 (a.1.map Opt.c)),.val (.sl false 3 (a.2.map Opt.c))]
def eqOptionS.fv(a:(List Opt)×(List Opt)):Bool:=(fun a b=>decide (a=b)) (a.1) (a.2)
def eqOptionS.row:Row:=vrow eqOptionS.ar (fun a=>True) (fun a=>(D.bool) (eqOptionS.fv a))
def eqOptionS.q:=vq eqOptionS.row rfl
def YaP:=J @eqOptionS.ae.eq_1 (J @eqOptionS.fv.eq_1 (J @eqOption.q (J @eqOption.ar.eq_1 @eqOption.fv.eq_1)))
theorem eqOptionS.ok:Qas Tryz.prog 16 eqOptionS.row:=by
 refine Qaj Qaq (tC eqOption.ok tN) Tryz.func16 rfl (by kernel_rfl) (by kernel_rfl) (ar:=eqOptionS.ar) (ae:=eqOptionS.ae) (Qaca (Qacb 3 Opt.d_le (fun _=>rfl)) (Qacb 3 Opt.d_le (fun _=>rfl))) (n:=2) (fun _=>rfl) (by decide) (rc:=(Qa8)) (re:=(D.bool)) (Qat) (f:=eqOptionS.fv) ?_;intro a hpre;simp only[Tryz.f16,Option.getD];simp (maxSteps:=10^7) (disch:=omega) only[ZZ,simprocAttr,rch,YaP];intro h1 h2;simp only[Qal];refine⟨fun hl=> ?_,fun hl=> ?_⟩
 .have:a.1≠a.2:=fun h=>hl (by rw[h])
  simp[this]
 have hl:a.1.length=a.2.length:=by omega
 refine Qay.old ⟨{k:Nat//k<=a.1.length/\a.1.take k=a.2.take k},fun k=>⟨[(5,.im (.int .i64 k.1)),(4,.im (.bool false)),(0,.im (.sl false 3 (a.1.map Opt.c))),(1,.im (.sl false 3 (a.2.map Opt.c)))],[],0⟩,fun k=>a.1.length - k.1,fun k=>⟨by simp[Qad.good,belT,belH,Qam,AV.bel,belL],Zal _⟩,⟨⟨0,by simp⟩,by simp (maxSteps:=10^7) (disch:=omega) only[ZZ,simprocAttr,rch,YaP,sub]⟩,fun k=> ?_⟩;obtain⟨k,hk1,hk2⟩:=k;simp (maxSteps:=10^7) (disch:=omega) only[ZZ,simprocAttr,rch,YaP,sub,Qal];intro _;refine⟨fun hk=>⟨hk,fun x hx=>⟨by omega,fun y hy=> ?_⟩⟩,fun hk=> ?_⟩
 .obtain⟨g1,g2⟩:=Qew hl hk1 hk2 hx hy;exact⟨fun h=>by simp[g2 (show x≠y from h)],fun h=>Qb6 hk h1 ⟨by omega,g1 (show x=y from ZaZ.1 h)⟩⟩
 .rw[Zav (by omega),Zav (by omega)] at hk2;simp[hk2]
def l03Own.ar:List PK->Option (Asm):=a1 (kP Asm.d 1)
def l03Own.ae(a:Asm):List PK:=[.ptr (Asm.c a)]
def l03Own.fv(a:Asm):Asm:=(fun a=>a) a
def l03Own.row:Row:=vrow l03Own.ar (fun a=>a.Tiles.length<=1000000) (fun a=>(fun b=>D.agg (Asm.c b)) (l03Own.fv a))
def l03Own.q:=vq l03Own.row rfl
theorem l03Own.ok:Qas Tryz.prog 110 l03Own.row:=by
 refine Qaj Qaq tN Tryz.func110 rfl (by kernel_rfl) (by kernel_rfl) (ar:=l03Own.ar) (ae:=l03Own.ae) (Qacd (Qacc 1 Asm.d_le)) (n:=1) (fun _=>rfl) (by decide) (rc:=(vAgg Asm.d)) (re:=(fun b=>D.agg (Asm.c b))) (Qb1 Asm.d_le) (f:=l03Own.fv) ?_;intro a hpre;simp only[Tryz.f110,Option.getD];simp (maxSteps:=10^7) (disch:=omega) only[ZZ,simprocAttr,rch,l03Own.ae,l03Own.fv];exact⟨by simp[OneR,allD,D.one,Qab.c],by omega⟩
theorem Qac8{s:Qar}{l:List Opt}{i:Nat}{o:Opt}(hx:l[i]? =some o)(b:Asm):Qacg s b (l.drop i) i=if canS s b o=false then (⟨[]⟩,(i:Int),5) else if 500<=b.Tiles.length then (⟨[]⟩,0,4) else Qacg s (putA b o.At o.Tile) (l.drop (i+1)) (i+1):=by
 rw[Qd3 hx,Qacg]
theorem can_in{s:Qar}{b:Asm}(hs:s.Set.Tiles.length<=160)(ha:Qn7 s.Set b){o:Opt}(h:canS s b o=true):Qn7 s.Set (putA b o.At o.Tile):=by
 simp only[canS,Zah,Zas] at h;obtain⟨d1,d2,d3,_⟩:=h;have hno:=Qma d3;have hw:Qau o.Tile 0 159=true:=by
  simp only[Qau,Zah,Zas] at d2⊢;omega
 refine⟨?_,?_⟩
 .rw[Qi8];exact Qki d1 hw _ none ha.1 (fun q hq=>by cases hq) hno
 .intro x hx;rw[Qi8] at hx;rcases (Qlc _ _ _ _).1 hx with rfl|hx
  .simp only[Qau,Zah,Zas] at d2;exact⟨by simp only;omega,by simp only;omega⟩
  .exact ha.2 x hx
def l08Play.ar:List PK->Option (Qar×(List Opt)):=a2 (kP Qar.d 4) (kS Opt.d)
def l08Play.ae(a:Qar×(List Opt)):List PK:=[.ptr (Qar.c a.1),.val (.sl false 3 (a.2.map Opt.c))]
def l08Play.fv(a:Qar×(List Opt)):Asm×Int×Int:=(fun s l=>Qacg s s.Seed l 0) (a.1) (a.2)
def l08Play.row:Row:=vrow l08Play.ar (fun a=>setP a.1.Set/\Qn7 a.1.Set a.1.Seed/\a.1.Set.Tiles.length<=160/\a.1.Seed.Tiles.length<=1000000) (fun a=>(fun b=>D.tup [(fun b=>D.agg (Asm.c b)) (b.1),(D.int .i64) (b.2.1),(D.int .i64) (b.2.2)]) (l08Play.fv a))
def l08Play.q:=vq l08Play.row rfl
def YaQ:=J @l08Play.ae.eq_1 (J @l08Play.fv.eq_1 (J @l03Own.q (J @l03Own.ar.eq_1 (J @l03Own.fv.eq_1 (J @l08Can.q (J @l08Can.ar.eq_1 (J @l08Can.fv.eq_1 (J @l08Attach.q (J @l08Attach.ar.eq_1 @l08Attach.fv.eq_1)))))))))
theorem l08Play.ok:Qas Tryz.prog 109 l08Play.row:=by
 refine Qaj Qaq (tC l03Own.ok (tC l08Can.ok (tC l08Attach.ok tN))) Tryz.func109 rfl (by kernel_rfl) (by kernel_rfl) (ar:=l08Play.ar) (ae:=l08Play.ae) (Qaca (Qacc 4 Qar.d_le) (Qacb 3 Opt.d_le (fun _=>rfl))) (n:=2) (fun _=>rfl) (by decide) (rc:=(Qac1 (vAgg Asm.d) (vInt) (vInt))) (re:=(fun b=>D.tup [(fun b=>D.agg (Asm.c b)) (b.1),(D.int .i64) (b.2.1),(D.int .i64) (b.2.2)])) (Qact (Qb1 Asm.d_le) (Qa3) (Qa3)) (f:=l08Play.fv) ?_;intro a hpre;simp only[Tryz.f109,Option.getD];simp (maxSteps:=10^7) (disch:=omega) only[ZZ,simprocAttr,rch,YaQ];obtain⟨s,l⟩:=a;simp only at hpre⊢;obtain⟨h1,h2,h3,h4⟩:=hpre;refine⟨h4,?_⟩;refine Qay.old ⟨{k:Nat×Asm//k.1<=l.length/\Qn7 s.Set k.2/\Qacg s s.Seed l 0=Qacg s k.2 (l.drop k.1) k.1},fun k=>⟨[(8,.im (.int .i64 k.1.1)),(7,.ptr 2 0),(6,.im (.int .i64 0)),(5,.im (.int .i64 0)),(4,.ptr 1 0),(0,.ptr 0 0),(1,.im (.sl false 3 (l.map Opt.c)))],[(2,(true,.cells 42 [.im (.sl false 3 (k.1.2.Tiles.map Qab.c))])),(1,(true,.cells 42 [.im (.sl true 0 [])])),(0,(false,.view (Qar.c s)))],3⟩,fun k=>l.length - k.1.1,fun k=>⟨by simp[Qad.good,belT,belH,Qam,AV.bel,belL],Zal _⟩,⟨⟨(0,s.Seed),by simp[h2]⟩,by simp (maxSteps:=10^7) (disch:=omega) only[ZZ,simprocAttr,rch,YaQ,sub]⟩,fun k=> ?_⟩;obtain⟨⟨k,b⟩,hk1,hk2,hk3⟩:=k;simp only at hk1 hk2 hk3;simp (maxSteps:=10^7) (disch:=omega) only[ZZ,simprocAttr,rch,YaQ,sub,Qal];intro hn;refine⟨fun hk=>⟨hk,fun x hx=>⟨⟨h1,hk2⟩,?_⟩⟩,fun hk=> ?_⟩
 .rw[Qac8 hx] at hk3;have e:(Qbi x.At && (Qau x.Tile 0 ((s.Set.Tiles.length:Int) - 1) && (decide (Qaw (fun y=>decide (y.At=x.At)) 0 b.Tiles<0) && decide (s.Temperature<=Qjm s.Set b x.At x.Tile 4))))=canS s b x:=rfl;simp only[e];refine⟨fun c1=> ?_,fun c1=>⟨hk,fun y hy=> ?_⟩⟩
  .rw[hk3,Zam c1]
  obtain rfl:x=y:=Zaa (hx.symm.trans hy);rw[Zaj c1] at hk3;by_cases c2:500<=b.Tiles.length
  .have q:attA b x=(⟨[]⟩,4):=Zam c2;rw[q,hk3,Zam c2];exact⟨fun _=>rfl,fun h=>(h (by decide)).elim⟩
  .have q:attA b x=(putA b x.At x.Tile,0):=Zaj c2;rw[q];rw[Zaj c2] at hk3;rw[Zba] at c1;exact⟨fun h=>(h rfl).elim,fun _=>⟨⟨(k+1,putA b x.At x.Tile),by simp only;omega,can_in h3 hk2 c1,hk3⟩,by simp only;omega,by rw[Qak (by omega) (by omega)];simp only;omega,rfl⟩⟩
 .rw[hk3,Zau (by omega),Qacg]
def seqS(s:Qar)(l:List Opt):Asm×Int×Int:=if Qjc s=false then (⟨[]⟩,0,1) else if 500<l.length then (⟨[]⟩,0,2) else Qacg s s.Seed l 0
theorem Qacj{s:Qar}(h:Qjc s=true):(setP s.Set/\Qn7 s.Set s.Seed/\s.Set.Tiles.length<=160/\s.Seed.Tiles.length<=1000000)/\Qcl s.Set=true/\Qcp s.Set s.Seed=true:=by
 simp only[Qjc,Zah] at h;obtain⟨h1,h2,_⟩:=h;have h3:=Qdg h2;have h4:=Qge h1;have h5:=h1;simp only[Qcl,Qau,Zah,Zas] at h5;exact⟨⟨h4,h3.1,by omega,by omega⟩,h1,h2⟩
def PlayS_.ar:List PK->Option (Qar×(List Opt)):=a2 (kR Qar.d) (kS Opt.d)
def PlayS_.ae(a:Qar×(List Opt)):List PK:=[.val (.agg (Qar.c a.1)),.val (.sl false 3 (a.2.map Opt.c))]
def PlayS_.fv(a:Qar×(List Opt)):Asm×Int×Int:=(seqS) (a.1) (a.2)
def PlayS_.row:Row:=vrow PlayS_.ar (fun a=>True) (fun a=>(fun b=>D.tup [(fun b=>D.agg (Asm.c b)) (b.1),(D.int .i64) (b.2.1),(D.int .i64) (b.2.2)]) (PlayS_.fv a))
def PlayS_.q:=vq PlayS_.row rfl
theorem PlayS_.ok:Qas Tryz.prog 78 PlayS_.row:=by
 refine Qaj Qaq (tC l08Ok.ok (tC l08Play.ok tN)) Tryz.func78 rfl (by kernel_rfl) (by kernel_rfl) (ar:=PlayS_.ar) (ae:=PlayS_.ae) (Qaca (Qab8 Qar.d_le) (Qacb 3 Opt.d_le (fun _=>rfl))) (n:=2) (fun _=>rfl) (by decide) (rc:=(Qac1 (vAgg Asm.d) (vInt) (vInt))) (re:=(fun b=>D.tup [(fun b=>D.agg (Asm.c b)) (b.1),(D.int .i64) (b.2.1),(D.int .i64) (b.2.2)])) (Qact (Qb1 Asm.d_le) (Qa3) (Qa3)) (f:=PlayS_.fv) ?_;intro a hpre;simp only[Tryz.f78,Option.getD];simp (maxSteps:=10^7) (disch:=omega) only[ZZ,simprocAttr,rch,PlayS_.ae,PlayS_.fv,l08Ok.q,l08Ok.ar,l08Ok.fv,l08Play.q,l08Play.ar,l08Play.fv];by_cases c1:Qjc a.1=false
 .rw[Zam c1];simp only[seqS];rw[Zam c1]
 rw[Zaj c1];intro _;by_cases c2:500<a.2.length
 .rw[Zam (by omega)];simp only[seqS];rw[Zaj c1,Zam c2]
 rw[Zaj (by omega)];rw[Zba] at c1;refine⟨(Qacj c1).1,?_⟩;simp only[seqS];rw[Zaj (by rw[c1];decide),Zaj c2]
def l10Asked.ar:List PK->Option (Qar×(List Opt)):=a2 (kP Qar.d 4) (kS Opt.d)
def l10Asked.ae(a:Qar×(List Opt)):List PK:=[.ptr (Qar.c a.1),.val (.sl false 3 (a.2.map Opt.c))]
def l10Asked.fv(a:Qar×(List Opt)):Int:=(fun s l=>(seqS s l).2.2) (a.1) (a.2)
def l10Asked.row:Row:=vrow l10Asked.ar (fun a=>True) (fun a=>(D.int .i64) (l10Asked.fv a))
def l10Asked.q:=vq l10Asked.row rfl
theorem l10Asked.ok:Qas Tryz.prog 40 l10Asked.row:=by
 refine Qaj Qaq (tC PlayS_.ok tN) Tryz.func40 rfl (by kernel_rfl) (by kernel_rfl) (ar:=l10Asked.ar) (ae:=l10Asked.ae) (Qaca (Qacc 4 Qar.d_le) (Qacb 3 Opt.d_le (fun _=>rfl))) (n:=2) (fun _=>rfl) (by decide) (rc:=(vInt)) (re:=(D.int .i64)) (Qa3) (f:=l10Asked.fv) ?_;intro a hpre;simp only[Tryz.f40,Option.getD];simp (maxSteps:=10^7) (disch:=omega) only[ZZ,simprocAttr,rch,l10Asked.ae,l10Asked.fv,PlayS_.q,PlayS_.ar,PlayS_.fv]
theorem seq_ok{s:Qar}{l:List Opt}(h:(seqS s l).2.2=0):Qjc s=true/\l.length<=500:=by
 simp only[seqS] at h;split at h
 .simp at h
 rename_i c1;split at h
 .simp at h
 .rw[Zba] at c1;exact⟨c1,by omega⟩
theorem Qwf{A B:Type}(f:A->B): ∀(l:List A) (i:Nat),(l.map f).eraseIdx i=(l.eraseIdx i).map f
 |[],_=>rfl
 |_::_,0=>rfl
 |x::r,i+1=>by simp only[Zap,Zde,Qwf f r i]
theorem Qqq{A:Type}: ∀(l:List A) (i:Nat) (x:A),l[i]? =some x->(x::l.eraseIdx i).Perm l
 |[],i,x,h=>by simp at h
 |y::r,0,x,h=>by
  simp only[ZaL,Zab] at h;subst h;exact ZdL _
 |y::r,i+1,x,h=>by
  rw[ZaU] at h;rw[Zde];exact (List.Perm.swap y x _).trans ((Qqq r i x h).cons y)
def putT(c:Cry)(p:Qae)(t:Int):Cry:=⟨c.Sys,updP c.Tl p t,Qrz c.Sys (Qbw (updP c.Tl p t)) (delP c.Op p) p 4⟩
theorem putT_in{s:Qaa}{t:List (Qae×Int)}{p:Qae}{v:Int}(h:inF s (Qbw t))(hv:Qcs s v):inF s (Qbw (updP t p v)):=by
 intro q hq;simp only[Qbw,Qyq] at hq⊢;by_cases c:q=p
 .rw[Zam c];exact hv
 .rw[Zaj c] at hq⊢;exact h q hq
def putC.ca(a:Cry×Qae×Int):List AV:=[.ptr 0 0,.im (.agg [.int .i64 a.2.1.X,.int .i64 a.2.1.Y]),.im (.int .i64 a.2.2)]
def putC.H1(a:Cry×Qae×Int):Qan:=[(1,(true,.map ⟨true,[.int .i64,.int .i64]⟩ ((putT a.1 a.2.1 a.2.2).Tl.map Qbe))),(2,(true,.map ⟨true,[.int .i64,.int .i64]⟩ ((putT a.1 a.2.1 a.2.2).Op.map Qbc)))]
def kl12(j:Nat):Bool:=j==1||j==2
def putC.row:Row:=orow putC.ca (fun a=>cryH a.1) 3 (fun a=>Qacu a.1/\Qdy a.2.1/\Qcs a.1.Sys.Set a.2.2) kl12 (fun _=> .im (.tup [])) putC.H1 0
theorem putC.ok:Qas Tryz.prog 93 putC.row:=by
 refine Qf1 Qaq (tC lookC.ok tN) Tryz.func93 rfl (by kernel_rfl) (by kernel_rfl) (exB:=fun _=>false) (R:=fun _ r=>r= .im (.tup [])) (n:=3) (fun _=>rfl) (by decide)
  (fun a=>by simp[putC.ca,cryH,Qbk,putC.H1,kl12,belL,AV.bel]) (fun a=>by simp[putC.ca,cryH,Qbk,putC.H1,kl12,belH,belL,AV.bel]) (fun a=>by simp[putC.ca,cryH,Qbk,putC.H1,kl12,Qam])
  (fun a=>by simp[Qc2,putC.ca,cryH,Qbk,putC.H1,kl12,AObj.nms,nmsL,AV.nms,domB,hget]) (fun a p hp=> ?_) (fun a r h=>by subst h;exact LeV.refl _) ?_
 rotate_left
 intro a hpre;simp only[Tryz.f93,Option.getD,putC.ca,cryH,Qbk,putC.H1,kl12];simp (maxSteps:=10^7) (disch:=omega) only[ZZ,simprocAttr,rch,ORB,putC.ca,cryH,Qbk,putC.H1,kl12];obtain⟨hp1,hp2,hp3⟩:=hpre;rw[upd_pi,del_ps];have hq:Qacu ⟨a.1.Sys,updP a.1.Tl a.2.1 a.2.2,delP a.1.Op a.2.1⟩:=⟨hp1.1,putT_in hp1.2.1 hp3,hp1.2.2⟩;refine orow.os (⟨a.1.Sys,updP a.1.Tl a.2.1 a.2.2,delP a.1.Op a.2.1⟩,a.2.1) [0,1,2] ⟨hq,hp2⟩ (fun j=>Qack _ j) rfl rfl ?_ ?_
 .simp (maxSteps:=10^7) (disch:=omega) only[ZZ,simprocAttr,rch,ORB,putC.ca,cryH,Qbk,putC.H1,kl12,lookC.ca,cryH,Qbk,Zbe]
 .simp (maxSteps:=10^7) (disch:=omega) only[ZZ,simprocAttr,rch,ORB,putC.ca,cryH,Qbk,putC.H1,kl12,lookC.H1,kl2,sub,putT]
 simp[putC.H1] at hp;rcases hp with rfl|rfl
 .exact .inl ⟨by omega,rfl,rfl⟩
 .exact .inl ⟨by omega,rfl,rfl⟩
def asmC.ca(_:Cry):List AV:=[.ptr 0 0]
def asmC.H1(a:Cry):Qan:=[(1,(false,.map ⟨true,[.int .i64,.int .i64]⟩ (a.Tl.map Qbe)))]
def klA(j:Nat):Bool:=j==1
theorem asmT_perm{t:List (Qae×Int)}{l:List Qab}(hd:(t.map Prod.fst).Nodup)(h:l.Perm (t.map mkPl)):Qfh l=Qfh (t.map mkPl)/\(l.map Qab.At).Nodup/\l.length=t.length:=by
 have hd':((t.map mkPl).map Qab.At).Nodup:=by rw[Qac3];exact hd
 refine⟨Qlp hd' ((Qd4 l).trans h) (Qnm l),(h.map Qab.At).nodup_iff.2 hd',by rw[h.length_eq,ZaM]⟩
def asmT(t:List (Qae×Int)):Asm:=⟨Qfh (t.map mkPl)⟩
def asmC.row:Row:=orow asmC.ca cryH 3 (fun a=>(a.Tl.map Prod.fst).Nodup/\a.Tl.length<=100000) klA (fun a=> .im (.agg (Asm.c (asmT a.Tl)))) asmC.H1 0
def YaR:=J @asmOf.q (J @asmOf.ar.eq_1 @asmOf.fv.eq_1)
theorem asmC.ok:Qas Tryz.prog 121 asmC.row:=by
 refine Qf1 Qaq (tC asmOf.ok tN) Tryz.func121 rfl (by kernel_rfl) (by kernel_rfl) (exB:=fun _=>false) (R:=fun a r=>r= .im (.agg (Asm.c (asmT a.Tl)))) (n:=1) (fun _=>rfl) (by decide)
  (fun a=>by simp[asmC.ca,cryH,Qbk,asmC.H1,klA,belL,AV.bel]) (fun a=>by simp[asmC.ca,cryH,Qbk,asmC.H1,klA,belH,belL,AV.bel]) (fun a=>by simp[asmC.ca,cryH,Qbk,asmC.H1,klA,Qam])
  (fun a=>by simp[Qc2,asmC.ca,cryH,Qbk,asmC.H1,klA,AObj.nms,nmsL,AV.nms,domB,hget]) (fun a p hp=> ?_) (fun a r h=>by subst h;exact LeV.refl _) ?_
 rotate_left
 intro a hpre;simp only[Tryz.f121,Option.getD,asmC.ca,cryH,Qbk,asmC.H1,klA];simp (maxSteps:=10^7) (disch:=omega) only[ZZ,simprocAttr,rch,YaR,ORB,asmC.ca,cryH,Qbk,asmC.H1,klA];obtain⟨hp1,hp2⟩:=hpre;refine Qay.ren ⟨{s:Option (D×D)×List (Qae×Int)×List Qab//(s.2.2++s.2.1.map mkPl).Perm (a.Tl.map mkPl)},fun s=>⟨[(10,.it 5),(3,.own 6),(2,.ptr 3 0),(0,.ptr 0 0)],[(6,(true,.arr 177 3 (s.1.2.2.map Qab.c))),(5,(true,.iter s.1.1 (s.1.2.1.map Qbe))),(3,(true,.cells 42 [.im (.sl true 0 [])])),(0,(true,.cells 185 (Qbk a.Sys))),(1,(false,.map ⟨true,[.int .i64,.int .i64]⟩ (a.Tl.map Qbe))),(2,(true,.map ⟨true,[.int .i64,.int .i64]⟩ (a.Op.map Qbc)))],7⟩,fun s=>s.1.2.1.length,fun s=>⟨by simp[Qad.good,belT,belH,Qam,AV.bel,belL,Qbk],by simp⟩,⟨⟨(none,a.Tl,[]),by simp⟩,[(6,some 4)],?_⟩,fun s=> ?_⟩
 .simp only[subP,Qbk];simp (maxSteps:=10^7) (disch:=omega) only[ZZ,simprocAttr,rch,YaR,ORB,asmC.ca,cryH,Qbk,asmC.H1,klA,ZaS]
  try simp
 obtain⟨⟨last,left,col⟩,hs⟩:=s;simp only at hs;simp only[Qbk];simp (maxSteps:=10^7) (disch:=omega) only[ZZ,simprocAttr,rch,YaR,ORB,asmC.ca,cryH,Qbk,asmC.H1,klA,sub,Qal];refine⟨fun hl=> ?_,fun i p hp=> ?_⟩
 .have hl':left=[]:=by simpa using hl
  subst hl';rw[ZaS,ZaJ] at hs;obtain⟨r1,r2,r3⟩:=asmT_perm hp1 hs;exact⟨⟨r2,by omega⟩,by simp only[asmT,r1]⟩
 .rw[ZaG] at hp;cases hq:left[i]? with
  |none=>rw[hq] at hp;cases hp
  |some q=>
   rw[hq] at hp;obtain rfl:=Zaa hp;obtain⟨⟨qx,qy⟩,qn⟩:=q;simp only[Qbe,Qae.c];simp (maxSteps:=10^7) (disch:=omega) only[ZZ,simprocAttr,rch,YaR,ORB,asmC.ca,cryH,Qbk,asmC.H1,klA,sub,Qal];have hi:i<left.length:=by
    rcases Zbu i left.length with h|h
    .exact h
    .rw[ZaV h] at hq;cases hq
   have hpm:((⟨qx,qy⟩,qn)::left.eraseIdx i).Perm left:=Qqq _ _ _ hq;have hP:((col++[(⟨⟨qx,qy⟩,qn⟩:Qab)])++(left.eraseIdx i).map mkPl).Perm (a.Tl.map mkPl):=by
    rw[Zbz];refine (List.Perm.append_left col ?_).trans hs;exact hpm.map mkPl
   have hcl:col.length<=a.Tl.length:=by
    have r3:=hs.length_eq;simp at r3;omega
   refine⟨by omega,⟨⟨(some (D.agg [.int .i64 qx,.int .i64 qy],D.int .i64 qn),left.eraseIdx i,col++[(⟨⟨qx,qy⟩,qn⟩:Qab)]),hP⟩,[(6,some 9)],?_,?_⟩⟩
   .simp only[List.length_eraseIdx];rw[Zam hi];omega
   .simp only[subP];simp (maxSteps:=10^7) (disch:=omega) only[ZZ,simprocAttr,rch,YaR,ORB,asmC.ca,cryH,Qbk,asmC.H1,klA];simp[Qab.c,Qwf]
 simp[asmC.H1] at hp;subst hp;exact .inl ⟨by omega,rfl,rfl⟩
end Go.Ae
