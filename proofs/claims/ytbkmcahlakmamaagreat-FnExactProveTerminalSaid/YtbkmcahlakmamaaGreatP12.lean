/- Lemmas. Conditions: none. -/
import Derived.Test.YtbkmcahlakmamaaGreatP11
import Derived.Shelf.SlSortCmp.WholeK
import Derived.Shelf.SlicesG.Cmp
import Derived.StillTailTactics
import Derived.Lib.Small
import Derived.Lib.Walk
import Derived.Shelf.SlSortCmp.NoneTotal
set_option linter.all false
set_option maxHeartbeats 8000000
set_option maxRecDepth 100000
namespace Go.Proofs
open Go.Shelf
def Tryz.sortPl_ren:Go.Shelf.Ren:=⟨fun|6=>246|15=>193|14=>290|28=>257|29=>258|20=>314|21=>315|22=>316|23=>317|24=>318|25=>319|26=>320|27=>321|46=>338|47=>292|48=>293|49=>339|50=>340|57=>347|n=>n,fun|22=>44|24=>187|25=>296|3=>3|39=>245|0=>0|53=>306|55=>228|4=>4|46=>299|45=>298|50=>303|5=>5|9=>9|66=>336|70=>340|76=>367|77=>368|n=>n,fun|n=>n⟩
theorem Tryz.sortPl:Go.Proofs.SlLaysF0.n6 Tryz.prog Tryz.sortPl_ren:={
 mixed:=by kernel_rfl
 f6:=⟨Tryz.f246.name,by decide,Tryz.func246.trans (Zcy some (by kernel_rfl))⟩
 f14:=⟨Tryz.f290.name,by decide,Tryz.func290.trans (Zcy some (by kernel_rfl))⟩
 f15:=Tryz.func193.trans (Zcy some (by kernel_rfl))
 f20:=⟨Tryz.f314.name,by decide,Tryz.func314.trans (Zcy some (by kernel_rfl))⟩
 f21:=⟨Tryz.f315.name,by decide,Tryz.func315.trans (Zcy some (by kernel_rfl))⟩
 f22:=⟨Tryz.f316.name,by decide,Tryz.func316.trans (Zcy some (by kernel_rfl))⟩
 f23:=⟨Tryz.f317.name,by decide,Tryz.func317.trans (Zcy some (by kernel_rfl))⟩
 f24:=⟨Tryz.f318.name,by decide,Tryz.func318.trans (Zcy some (by kernel_rfl))⟩
 f25:=⟨Tryz.f319.name,by decide,Tryz.func319.trans (Zcy some (by kernel_rfl))⟩
 f26:=⟨Tryz.f320.name,by decide,Tryz.func320.trans (Zcy some (by kernel_rfl))⟩
 f27:=⟨Tryz.f321.name,by decide,Tryz.func321.trans (Zcy some (by kernel_rfl))⟩
 f28:=Tryz.func257.trans (Zcy some (by kernel_rfl))
 f29:=Tryz.func258.trans (Zcy some (by kernel_rfl))
 f46:=⟨Tryz.f338.name,by decide,Tryz.func338.trans (Zcy some (by kernel_rfl))⟩
 f47:=Tryz.func292.trans (Zcy some (by kernel_rfl))
 f48:=Tryz.func293.trans (Zcy some (by kernel_rfl))
 f49:=⟨Tryz.f339.name,by decide,Tryz.func339.trans (Zcy some (by kernel_rfl))⟩
 f50:=⟨Tryz.f340.name,by decide,Tryz.func340.trans (Zcy some (by kernel_rfl))⟩
 f57:=⟨Tryz.f347.name,by decide,Tryz.func347.trans (Zcy some (by kernel_rfl))⟩
 t0:=Tryz.underlying0
 a0:=Tryz.isAgg0
 z0:=Tryz.sizeOf0
 v0:=Tryz.zeroValue0
 t3:=Tryz.underlying3
 a3:=Tryz.isAgg3
 z3:=Tryz.sizeOf3
 v3:=Tryz.zeroValue3
 t4:=Tryz.underlying4
 a4:=Tryz.isAgg4
 z4:=Tryz.sizeOf4
 v4:=Tryz.zeroValue4
 t5:=Tryz.underlying5
 a5:=Tryz.isAgg5
 z5:=Tryz.sizeOf5
 v5:=Tryz.zeroValue5
 t9:=Tryz.underlying9
 a9:=Tryz.isAgg9
 z9:=Tryz.sizeOf9
 v9:=Tryz.zeroValue9
 t22:=Tryz.underlying44
 a22:=Tryz.isAgg44
 z22:=Tryz.sizeOf44
 v22:=Tryz.zeroValue44
 t25:=Tryz.underlying296
 a25:=Tryz.isAgg296
 z25:=Tryz.sizeOf296
 v25:=Tryz.zeroValue296
 t39:=Tryz.underlying245
 a39:=Tryz.isAgg245
 z39:=Tryz.sizeOf245
 v39:=Tryz.zeroValue245
 t45:=Tryz.underlying298
 a45:=Tryz.isAgg298
 z45:=Tryz.sizeOf298
 v45:=Tryz.zeroValue298
 t46:=Tryz.underlying299
 a46:=Tryz.isAgg299
 z46:=Tryz.sizeOf299
 v46:=Tryz.zeroValue299
 t50:=Tryz.underlying303
 a50:=Tryz.isAgg303
 z50:=Tryz.sizeOf303
 v50:=Tryz.zeroValue303
 t53:=Tryz.underlying306
 a53:=Tryz.isAgg306
 z53:=Tryz.sizeOf306
 v53:=Tryz.zeroValue306
 t55:=Tryz.underlying228
 a55:=Tryz.isAgg228
 z55:=Tryz.sizeOf228
 v55:=Tryz.zeroValue228
 t66:=Tryz.underlying336
 a66:=Tryz.isAgg336
 z66:=Tryz.sizeOf336
 v66:=Tryz.zeroValue336
 t70:=Tryz.underlying340
 a70:=Tryz.isAgg340
 z70:=Tryz.sizeOf340
 v70:=Tryz.zeroValue340
 t76:=Tryz.underlying367
 a76:=Tryz.isAgg367
 z76:=Tryz.sizeOf367
 v76:=Tryz.zeroValue367
 t77:=Tryz.underlying368
 a77:=Tryz.isAgg368
 z77:=Tryz.sizeOf368
 v77:=Tryz.zeroValue368}
def Tryz.cmpI64_ren:Go.Shelf.Ren:=⟨fun|5=>263|7=>296|n=>n,fun|22=>2|3=>3|4=>4|n=>n,fun|n=>n⟩
theorem Tryz.cmpI64:Go.Proofs.SlLaysC2.n5 Tryz.prog Tryz.cmpI64_ren:={
 mixed:=by kernel_rfl
 f5:=⟨Tryz.f263.name,by decide,Tryz.func263.trans (Zcy some (by kernel_rfl))⟩
 f7:=⟨Tryz.f296.name,by decide,Tryz.func296.trans (Zcy some (by kernel_rfl))⟩
 t3:=Tryz.underlying3
 a3:=Tryz.isAgg3
 z3:=Tryz.sizeOf3
 v3:=Tryz.zeroValue3
 t4:=Tryz.underlying4
 a4:=Tryz.isAgg4
 z4:=Tryz.sizeOf4
 v4:=Tryz.zeroValue4
 t22:=Tryz.underlying2
 a22:=Tryz.isAgg2
 z22:=Tryz.sizeOf2
 v22:=Tryz.zeroValue2}
end Go.Proofs
namespace Go.Proofs
open Go.Shelf Go.RowKit Go.Lib Go.Sort
theorem Tryz.cmp64(x y:Int)(W:World):Calls Tryz.prog 263 #[.int .i64 x,.int .i64 y] W fun e w'=>e= .returned (.int .i64 (Lib.compareInt x y))/\w'=W:=
 AnyG.cmp_Compare_int Tryz.cmpI64 x y W
theorem Tryz.orTwo(b:Nat)(x y:Int)(W:World)(h0:W.cell? ⟨b,0,none⟩=some (.int .i64 x))(h1:W.cell? ⟨b,1,none⟩=some (.int .i64 y)):
 Calls Tryz.prog 262 #[.slice (some ⟨b,0,none⟩) 2 2] W fun e w'=>e= .returned (.int .i64 (if x=0 then y else x))/\w'=W:=by
 go_enter Tryz.func262,Tryz.ntmps262
 go_wp2
 refine wp_loop_rounds 3 ?_;rw[rounds_succ]
 go_wp2
 all_goals (try rw[rounds_succ])
 all_goals (try go_wp2)
 all_goals (try rw[rounds_succ])
 all_goals (try go_wp2)
 all_goals (go_ret;refine⟨?_,rfl⟩;simp_all)
theorem two_cells(W:World)(a b a' b':Value)(T:TypeId):
 let w3:=((W.alloc (Obj.cells #[a,b] T)).alloc (Obj.cells #[a',b'] T)).drew
 w3.cell? ⟨W.heap.size,0,none⟩=some a/\w3.cell? ⟨W.heap.size,1,none⟩=some b/\w3.cell? ⟨W.heap.size+1,0,none⟩=some a'/\w3.cell? ⟨W.heap.size+1,1,none⟩=some b'/\
  ∃os0,w3=grow (W.drewN 1) os0:=by
 have e:((W.alloc (Obj.cells #[a,b] T)).alloc (Obj.cells #[a',b'] T)).drew=grow (W.drewN 1) #[Obj.cells #[a,b] T,Obj.cells #[a',b'] T]:=by
  rw[alloc_eq_grow,alloc_eq_grow,grow_grow];rfl
 have h0:(W.heap++ #[Obj.cells #[a,b] T,Obj.cells #[a',b'] T])[W.heap.size]? =some (Obj.cells #[a,b] T):=by
  rw[ZdZ (Zak _),Zca];rfl
 have h1:(W.heap++ #[Obj.cells #[a,b] T,Obj.cells #[a',b'] T])[W.heap.size+1]? =some (Obj.cells #[a',b'] T):=by
  rw[ZdZ (Nat.le_succ _),show W.heap.size.succ - W.heap.size=1 by omega];rfl
 simp only[e];refine⟨?_,?_,?_,?_,_,rfl⟩<;>unfold World.cell? <;>simp only[grow,World.drewN,h0,h1]<;>rfl
theorem Qvb(w:World)(a b:Value)(T:TypeId):(w.alloc (Obj.cells #[a,b] T)).cell? ⟨w.heap.size,0,none⟩=some a/\(w.alloc (Obj.cells #[a,b] T)).cell? ⟨w.heap.size,1,none⟩=some b:=by
 have h0:(w.heap.push (Obj.cells #[a,b] T))[w.heap.size]? =some (Obj.cells #[a,b] T):=by simp
 constructor<;>unfold World.cell? <;>simp only[World.alloc,h0]<;>rfl
def Qabu(p q:Int×Int):Int:=if Lib.compareInt p.2 q.2=0 then Lib.compareInt p.1 q.1 else Lib.compareInt p.2 q.2
theorem Tryz.cmpPoints(x y x' y':Int)(W:World):Calls Tryz.prog 197 #[.agg #[.int .i64 x,.int .i64 y],.agg #[.int .i64 x',.int .i64 y']] W fun e w'=>
 e= .returned (.int .i64 (Qabu (x,y) (x',y')))/\ ∃q os',w'=grow (W.drewN q) os':=by
 have hc1:=fun W'=>Tryz.cmp64 y y' W'
 have hc2:=fun W'=>Tryz.cmp64 x x' W'
 unfold Qabu;simp only;generalize Lib.compareInt y y'=r1 at hc1⊢;generalize Lib.compareInt x x'=r2 at hc2⊢;have hor:=fun (b:Nat) W'=>Tryz.orTwo b r1 r2 W'
 generalize (if r1=0 then r2 else r1)=r at hor⊢
 go_enter Tryz.func197,Tryz.ntmps197
 go_wp2
 refine wp_region_still_tail 10 (by kernel_rfl) (by kernel_rfl) ?_;simp only[ZbX,ZbJ,ZbY,ZbK];obtain⟨d1,d2,d3,d4,hg⟩:=two_cells W (.int .i64 x) (.int .i64 y) (.int .i64 x') (.int .i64 y') 61;change wpStill _ _ ((W.alloc (Obj.cells #[Value.int IntKind.i64 x,Value.int IntKind.i64 y] 61)).alloc (Obj.cells #[Value.int IntKind.i64 x',Value.int IntKind.i64 y'] 61)).drew (fun a'=>wpList _ _ _ _ a' ((W.alloc (Obj.cells #[Value.int IntKind.i64 x,Value.int IntKind.i64 y] 61)).alloc (Obj.cells #[Value.int IntKind.i64 x',Value.int IntKind.i64 y'] 61)).drew) _ _;generalize ((W.alloc (Obj.cells #[Value.int IntKind.i64 x,Value.int IntKind.i64 y] 61)).alloc (Obj.cells #[Value.int IntKind.i64 x',Value.int IntKind.i64 y'] 61)).drew=w3 at d1 d2 d3 d4 hg⊢
 still_step
 still_step
 still_step
 still_step
 still_call (hc1 _)
 still_step
 still_step
 still_step
 still_step
 still_call (hc2 _)
 refine wpStill_nil ?_
 go_wp2_with (go_at_call 262;refine (hor _ _ (Qvb _ _ _ _).1 (Qvb _ _ _ _).2).mono ?_;rintro e w' ⟨rfl,rfl⟩)
 go_ret
 obtain⟨os0,rfl⟩:=hg;exact⟨rfl,1,_,by rw[alloc_eq_grow,grow_grow]⟩
theorem Tryz.cmpPlaced90(x y t x' y' t':Int)(W:World):Calls Tryz.prog 247 #[.agg #[.int .i64 x,.int .i64 y,.int .i64 t],.agg #[.int .i64 x',.int .i64 y',.int .i64 t']] W fun e w'=>
 e= .returned (.int .i64 (Qabu (x,y) (x',y')))/\ ∃q os',w'=grow (W.drewN q) os':=by
 have hcon:=fun W'=>Tryz.cmpPoints x y x' y' W'
 generalize Qabu (x,y) (x',y')=r at hcon⊢
 go_enter Tryz.func247,Tryz.ntmps247
 go_wp2_with (go_at_call 197;refine (hcon _).mono ?_;rintro e w' ⟨rfl,q,os',rfl⟩)
 go_ret
 exact⟨rfl,q,_,by rw[alloc_eq_grow,alloc_eq_grow,grow_grow];show grow (grow (W.drewN q) _) os'=_;rw[grow_grow]⟩
end Go.Proofs
namespace Go.Ae
open Go.Proofs Go.Sort Go.Shelf
instance:Inhabited Qab:=⟨⟨⟨0,0⟩,0⟩⟩
def encP(x:Qab):List Value:=[.int .i64 x.At.X,.int .i64 x.At.Y,.int .i64 x.Tile]
def cfP(x y:Qab):Int:=Qabu (x.At.X,x.At.Y) (y.At.X,y.At.Y)
theorem Qz0(x y:Qab):ltOf cfP x y=Qap x.At y.At:=by
 simp only[ltOf,cfP,Qabu,Lib.compareInt,Qap]
 grind
theorem swoP:SWO (ltOf cfP) where
 irrefl x:=by rw[Qz0];simp only[Qap];grind
 trans x y z h1 h2:=by rw[Qz0] at*;simp only[Qap] at*;grind
 ntrans x y z h1 h2:=by rw[Qz0] at*;simp only[Qap] at*;grind
def Qfh(l:List Qab):List Qab:=l.foldr (fun x r=>insT x.At x.Tile r) []
theorem Qn1(x:Qab): ∀(l:List Qab),(insT x.At x.Tile l).Perm (x::l)
 |[]=>ZdJ _
 |y::r=>by
  simp only[insT];split
  .exact ZdJ _
  .exact ((Qn1 x r).cons y).trans (List.Perm.swap x y r)
theorem Qd4: ∀(l:List Qab),(Qfh l).Perm l
 |[]=>ZdJ _
 |x::r=>(Qn1 x (Qfh r)).trans ((Qd4 r).cons x)
theorem Quq{a b c:Qae}(h1:Qap a b=true)(h2:Qap c b=false):Qap c a=false:=by
 simp only[Qap] at*;grind
theorem Qx3(x:Qab): ∀(l:List Qab),l.Pairwise (fun a b=>Qap b.At a.At=false)->(insT x.At x.Tile l).Pairwise (fun a b=>Qap b.At a.At=false)
 |[],_=>by simp[insT]
 |y::r,h=>by
  rw[Zci] at h;simp only[insT];split
  .rename_i hl;rw[Zci,Zci];refine⟨fun z hz=> ?_,h⟩;have hyx:Qap y.At x.At=false:=by simp only[Qap] at*;grind
   rcases Zas.1 hz with rfl|hz
   .exact hyx
   .have:=h.1 z hz
    exact Quq hl this
  .rename_i hl;rw[Zci];refine⟨fun z hz=> ?_,Qx3 x r h.2⟩;rcases (Qlc _ _ _ _).1 hz with rfl|hz
   .simpa using hl
   .exact h.1 z hz
theorem Qnm: ∀(l:List Qab),(Qfh l).Pairwise (fun a b=>Qap b.At a.At=false)
 |[]=>List.Pairwise.nil
 |x::r=>Qx3 x _ (Qnm r)
theorem Qacy(l:List Qab):(Qfh l).length=l.length:=(Qd4 l).length_eq
theorem at_inj{l:List Qab}(h:(l.map Qab.At).Nodup){x y:Qab}(hx:x∈l)(hy:y∈l)(he:x.At=y.At):x=y:=by
 induction l with
 |nil=>cases hx
 |cons z r ih=>
  rw[Zal,ZbP] at h;rcases Zas.1 hx with h1|h1<;>rcases Zas.1 hy with h2|h2
  .rw[h1,h2]
  .exact absurd (show z.At∈r.map Qab.At by rw[<-h1,he];exact Zcv h2) h.1
  .exact absurd (show z.At∈r.map Qab.At by rw[<-h2,<-he];exact Zcv h1) h.1
  .exact ih h.2 h1 h2
theorem Qlp{l l':List Qab}(hd:(l.map Qab.At).Nodup)(hp:l'.Perm l)(hs:l'.Pairwise (fun a b=>Qap b.At a.At=false)):l'=Qfh l:=by
 refine Zet (le:=fun a b=>Qap b.At a.At=false) (fun a b ha hb h1 h2=> ?_) hs (Qnm l) (hp.trans (Qd4 l).symm);refine at_inj hd (hp.mem_iff.1 ha) ((Qd4 l).mem_iff.1 hb) ?_;revert h1 h2;obtain⟨⟨ax,ay⟩,at'⟩:=a;obtain⟨⟨bx,by'⟩,bt⟩:=b;simp only[Qap,Qae.mk.injEq]
 grind
def flP(l:List Qab):List Value:=l.flatMap encP
theorem flP_len(l:List Qab):(flP l).length=l.length*3:=by
 induction l with
 |nil=>rfl
 |cons x r ih=>simp only[flP,Zbm,ZaH,ZaE] at ih⊢;rw[ih];simp[encP];omega
theorem Ql5{ok:Nat->Prop}{hp:Nat->Option Obj}: ∀(l:List Qab) (L:List Value),rdr ok hp 3 (l.map Qab.c) L↔ ∃r,L=flP l++r
 |[],L=>by simp[rdr,flP]
 |x::r,L=>by
  simp only[Zal,rdr,Ql5 r,Qab.c,rdp,rd,flP,Zbm];constructor
  .rintro⟨_,⟨v,L1,rfl,rfl,v2,L2,rfl,rfl,v3,L3,rfl,rfl,_⟩,q,hq⟩;exact⟨q,by simp only[ZbY,ZbK] at hq;rw[hq];rfl⟩
  .rintro⟨q,rfl⟩;exact⟨rfl,⟨_,_,rfl,rfl,_,_,rfl,rfl,_,_,rfl,rfl,trivial⟩,q,rfl⟩
theorem flP_get: ∀(l:List Qab) (t:Nat),t<l.length*3->(flP l)[t]? =some ((encP (l[t/3]?.getD default))[t % 3]!)
 |[],t,h=>by simp at h
 |x::r,t,h=>by
  by_cases ht:t<3
  .have:t=0\/t=1\/t=2:=by omega
   rcases this with rfl|rfl|rfl<;>simp[flP,encP]
  .obtain⟨u,rfl⟩: ∃u,t=u+3:=⟨t - 3,by omega⟩;have e1:(u+3)/3=u/3+1:=by omega
   have e2:(u+3) % 3=u % 3:=by omega
   have ih:=flP_get r u (by simp at h;omega);rw[e1,e2,Zbp,<-ih];simp[flP,encP]
theorem Qvu(l:List Qab):(flatK encP 3 l.toArray).toList=flP l:=by
 apply ZbV;intro t;by_cases ht:t<l.length*3
 .rw[flP_get l t ht];have hs:t<(flatK encP 3 l.toArray).size:=by simp only[size_flatK,ZcE];exact ht
  have h1:=get_flatK encP 3 l.toArray t (by simpa using ht);rw[Zbr,Zbt hs,<-getElem!_pos (flatK encP 3 l.toArray) t hs,h1];congr 3;simp[getElem!_def];cases l[t/3]? <;>rfl
 .have a1:(flatK encP 3 l.toArray).toList.length<=t:=by rw[ZaS,size_flatK,ZcE];omega
  have a2:(flP l).length<=t:=by rw[flP_len];omega
  rw[ZaT a1,ZaT a2]
def srt.ca(_:List Qab):List AV:=[.own 0,.im (.fn 247 [] [])]
def srt.H0(a:List Qab):Qan:=[(0,(true,.arr 187 3 (a.map Qab.c)))]
def srt.H1(a:List Qab):Qan:=[(0,(true,.arr 187 3 ((Qfh a).map Qab.c)))]
def srt.row:Row:=orow srt.ca srt.H0 1 (fun a=>(a.map Qab.At).Nodup) (fun _=>true) (fun _=> .im (.tup [])) srt.H1 0
theorem srt.ok:Qas Tryz.prog 246 srt.row:=by
 rintro args h nx K ⟨a,τ,U,KL,hpre,rfl,hheap,hN,hK⟩;refine⟨Qh7 (by kernel_rfl),_,_,?_,hK⟩;intro C S vs R hW huse hfresh hnames hargs hfin;have hs0:sgx τ 1 nx 0=τ 0:=Zao (by omega);simp only[srt.ca,renL,AV.ren,hs0,Qa0,conc,rd,rdl] at hargs;obtain⟨v0,r0,hv,⟨hone,hown⟩,v1,r1,hr1,⟨ac,cc,hv1,hac,hcc⟩,hr2⟩:=hargs;have hac:ac= #[]:=by apply Zeu;simpa using hac
 have hcc:cc= #[]:=by apply Zeu;simpa using hcc
 subst hac hcc hr2 hr1 hv1;have hvs:vs= #[v0,.func (fnV 247) #[] #[]]:=by apply Zeu;simpa using hv
 subst hvs;have hm:h (τ 0)=some (true,.arr 187 3 (a.map Qab.c)):=by
  have:=hheap.1
  rwa [hs0] at this
 have hd0:domB (srt.H0 a) 0=true:=rfl;have hSm:S.h (τ 0)=some (true,.arr 187 3 (a.map Qab.c)):=by
  rw[huse (τ 0) (Zby _ (hN.u 0 hd0)),hm]
 have hk0: ∀n,n∈KL↔n=τ 0:=by
  intro n;constructor
  .intro hn;obtain⟨j,h1,_,h3⟩:=hN.k1 n hn
   have:j=0:=by
    simp only[domB,srt.H0,hget] at h1;by_cases hj:j=0
    .exact hj
    .have:(0==j)=false:=by simpa using fun h=>hj h.symm
     rw[this] at h1;cases h1
   rw[h3,this]
  .rintro rfl;exact hN.k2 0 hd0 rfl
 obtain⟨m,hmm⟩: ∃m,m=τ 0:=⟨_,rfl⟩;rw[<-hmm] at hSm hown hk0;have hsl:=Qacy a;have fin: ∀(w':World),Qjb S m (.arr 187 3 ((Qfh a).map Qab.c)) (S.ρ m) [m] w'->
  (Pres (fun n=>S.h m≠none\/n≠m) S (S.one m (.arr 187 3 ((Qfh a).map Qab.c)) (S.ρ m) [m] w')->objc (S.one m (.arr 187 3 ((Qfh a).map Qab.c)) (S.ρ m) [m] w') (S.ρ m) (.arr 187 3 ((Qfh a).map Qab.c)))->R (.returned (.tuple #[])) w':=by
  intro w' hone hob;have hp:=Qg2 hW hone;refine hfin (.tuple #[]) _ (Qqp hW hone (hob hp)) ?_ ⟨hp.ok,fun n _=>hp.nm n (.inl (by rw[hSm];simp))⟩ ⟨#[],rfl,rfl⟩;funext n;simp only[Env.one,Eff.appf,srt.H1,renH,hs0,hget,AObj.ren,<-hmm];by_cases hn:n=m
  .subst hn;simp
  .have h1:(m==n)=false:=by simpa using fun h=>hn h.symm
   have h2:KL.contains n=false:=by
    rw[<-Zck,Zbi,hk0];exact hn
   simp only[h1,ZaL,h2,hn,ZbA,Zap]
 have hown':=hown _ hSm;have hobj:=hW.obj _ _ hSm;have hloc:=fun lc=>hW.loc m _ lc hSm
 cases hρ:S.ρ m with
 |none=>
  rw[hρ] at hown' hobj;simp only[objc] at hobj;have ha:a=[]:=by simpa using hobj.2
  subst ha;simp only at hown';rw[hown',Qoi (by decide)];refine (AnyF.slices_SortFunc_none Tryz.sortPl none 0 (.func (.func 247) #[] #[]) S.w).mono ?_;rintro e w' ⟨rfl,rfl⟩;refine fin S.w (oneSame hSm (fun l hl=>by rw[hρ] at hl;cases hl) rfl rfl) (fun _=> ?_);rw[hρ];exact⟨Zbh _,rfl⟩
 |some lc=>
  rw[hρ] at hown' hobj;simp only[objc,AObj.len] at hobj hown';obtain⟨g1,g2,cv,g3,g4,g5⟩:=hobj;obtain⟨hlb,hlk⟩:=hloc lc hρ;rw[Ql5] at g5;obtain⟨rest,g5⟩:=g5;simp only[Zbv] at g1 g2 hown';have hheap:S.w.heap[lc.b]? =some (.cells cv 187 (0,0)):=g3;have hlen:lc.p+a.length*3<=cv.size:=by omega
  have hF:(flatK encP 3 a.toArray).size=a.length*3:=by simp
  have hget: ∀j,j<a.length*3->cv[lc.p+j]? =some ((flatK encP 3 a.toArray)[j]!):=by
   intro j hj;have h1:(cv.toList.drop lc.p)[j]? =(flP a++rest)[j]? :=by rw[g5]
   rw[ZbI,Zbr,ZaF (by rw[flP_len];exact hj),<-Qvu,Zbr] at h1;rw[h1,Zbt (by rw[hF];exact hj),getElem!_pos _ _ (by rw[hF];exact hj)]
  have hH:HoldsK encP 3 S.w lc.b lc.p a.toArray:=by
   intro j hj;rw[hF] at hj;refine⟨?_,?_⟩
   .simp only[World.cell?,hheap,ZcI,ZaB,ZbA,id];exact hget j hj
   .simp only[World.frozen?,hheap];simp
  have hc:=AnyQ.slices_SortFunc Tryz.sortPl 3 Tryz.isAgg187 Tryz.sizeOf187 encP (fun _=>rfl) (fun x v hv=>by simp[encP] at hv;rcases hv with rfl|rfl|rfl<;>rfl) cfP swoP 247 #[] lc.b lc.p lc.cap a.toArray S.w
   (Qhx (Qh7 (by kernel_rfl))) (fun m os dk hs x y=>Tryz.cmpPlaced90 _ _ _ _ _ _ _) hH hlb (by simp only[ZcE,LIM] at g1⊢;omega)
  rw[hown',Qoi (by decide)];refine hc.mono ?_;rintro e w' ⟨rfl,d',n,os,hperm,hsort,rfl⟩;have hsz:d'.size=a.length:=hperm.1;have hd':d'.toList=Qfh a:=by
   refine Qlp hpre ?_ ?_
   .have:=hperm.2.2
    rwa [show d'.extract 0 a.toArray.size=d' by rw[ZcE,<-hsz];exact Zeo,show a.toArray.extract 0 a.toArray.size=a.toArray from Zeo] at this
   .rw[Zep];intro i j hi hj hij
    have:=hsort i j (Zbh _) hij (by rw[ZcE,<-hsz];simpa using hj)
    rw[Qz0,getElem!_pos d' i (by simpa using hi),getElem!_pos d' j (by simpa using hj)] at this;simpa using this
  obtain rfl:d'=(Qfh a).toArray:=by apply Zeu;rw[hd']
  have hF':(flatK encP 3 (Qfh a).toArray).size=a.length*3:=by simp[hsl]
  have hl2:(flatK encP 3 (Qfh a).toArray).toList.length=a.length*3:=by rw[ZaS,hF']
  have hsize:S.w.heap.size<=(sortWorldK encP 3 S.w lc.b lc.p n (Qfh a).toArray os).heap.size:=by
   simp[sortWorldK,grow,putRowK,Sort.ahead]
  have hb: ∀b,b<S.w.heap.size->(sortWorldK encP 3 S.w lc.b lc.p n (Qfh a).toArray os).heap[b]? =if lc.b=b then S.w.heap[b]?.map (onCells (putCells id lc.p (flatK encP 3 (Qfh a).toArray))) else S.w.heap[b]? :=by
   intro b hb;have e0:b<(putRowK encP 3 (Sort.ahead S.w n) lc.b lc.p (Qfh a).toArray).heap.size:=by simpa[putRowK,Sort.ahead] using hb
   simp only[sortWorldK,grow];rw[Zef e0];simp only[putRowK,putRow,mapBlock,Sort.ahead,ZeB]
  refine fin _ ⟨rfl,rfl,rfl,hsize,?_,.inl (by simp),?_,?_,?_⟩ ?_
  .intro b hb1 hb2;rw[hb b hb1,Zai (hb2 m _ lc (by simp) hSm hρ)]
  .intro lo hlo;rw[hρ] at hlo;obtain rfl:=Zaa hlo;exact⟨Zbb hlb hsize,.inr ⟨m,_,lc,by simp,hSm,hρ,rfl⟩⟩
  .intro f hf;rw[hSm] at hf;obtain rfl:=Zaa hf;exact⟨rfl,rfl,by simp[AObj.len,hsl]⟩
  .intro n' f _ hnone;rw[hSm] at hnone;cases hnone
  .intro _;rw[hρ];simp only[objc,Zbv,hsl];refine⟨g1,g2,putCells id lc.p (flatK encP 3 (Qfh a).toArray) cv,?_,by simpa[putCells] using g4,?_⟩
   .simp only[Env.one,Env.hp];rw[hb lc.b hlb,Zao rfl,hheap];rfl
   .rw[Ql5];refine⟨(cv.toList.drop (lc.p+a.length*3)),?_⟩;apply ZbV;intro t;rw[ZbI,Zbr,putCells,Array.getElem?_mapIdx,hF',<-Qvu];by_cases ht:t<a.length*3
    .rw[ZaF (by rw[hl2];exact ht),Zbr,Zbt (show lc.p+t<cv.size by omega),Zbt (by rw[hF'];exact ht)];simp only[ZaR,id];rw[Zao ⟨by omega,by omega⟩,Zdi,getElem!_pos _ _ (by rw[hF'];exact ht)]
    .rw[ZaI (by rw[hl2];omega),hl2,ZbI,Zbr,show lc.p+a.length*3+(t - a.length*3)=lc.p+t by omega];cases cv[lc.p+t]? with
     |none=>rfl
     |some x=>simp only[ZaR];rw[Zai (by omega)]
end Go.Ae
namespace Go.Ae
open Go.Proofs
def asmOf.ar:List PK->Option ((List Qab)):=a1 (kS Qab.d)
def asmOf.ae(a:(List Qab)):List PK:=[.val (.sl false 3 (a.map Qab.c))]
def asmOf.fv(a:(List Qab)):Asm:=(fun l=>⟨Qfh l⟩) a
def asmOf.row:Row:=vrow asmOf.ar (fun a=>(a.map Qab.At).Nodup/\a.length<=1000000) (fun a=>(fun b=>D.agg (Asm.c b)) (asmOf.fv a))
def asmOf.q:=vq asmOf.row rfl
def YaQ:=J @asmOf.ae.eq_1 @asmOf.fv.eq_1
theorem asmOf.ok:Qas Tryz.prog 191 asmOf.row:=by
 refine Qaj Qaq (tC clonC.ok (tC srt.ok tN)) Tryz.func191 rfl (by kernel_rfl) (by kernel_rfl) (ar:=asmOf.ar) (ae:=asmOf.ae) (Qacd (Qacb 3 Qab.d_le (fun _=>rfl))) (n:=1) (fun _=>rfl) (by decide) (rc:=(vAgg Asm.d)) (re:=(fun b=>D.agg (Asm.c b))) (Qb1 Asm.d_le) (f:=asmOf.fv) ?_;intro a hpre;simp only[Tryz.f191,Option.getD];simp(maxSteps:=9^9)(disch:=omega)only[ZZ,simprocAttr,rch,YaQ];refine orow.os a [] hpre.2 (fun j=>by simp[domB,hget]) rfl rfl ?_ ?_
 .simp(maxSteps:=9^9)(disch:=omega)only[ZZ,simprocAttr,rch,YaQ,clonC.ca,Qer,Qb4]
 simp(maxSteps:=9^9)(disch:=omega)only[ZZ,simprocAttr,rch,YaQ,clonC.H1,sub];refine orow.os a [1] hpre.1 (fun j=> ?_) rfl rfl ?_ ?_
 .simp only[domB,srt.H0,hget];by_cases hj:j=0
  .subst hj;simp
  .have:(0==j)=false:=by simpa using fun h=>hj h.symm
   rw[this];simp;omega
 .simp(maxSteps:=9^9)(disch:=omega)only[ZZ,simprocAttr,rch,YaQ,srt.ca,srt.H0,Qer];exact⟨rfl,rfl⟩
 simp(maxSteps:=9^9)(disch:=omega)only[ZZ,simprocAttr,rch,YaQ,srt.H1,sub,ZaN,Zbf]
def mkPl(q:Qae×Int):Qab:=⟨q.1,q.2⟩
def repM1(m:Sim)(t:List (Qae×Int))(x:Qab):Option (List (Qae×Int)):=
 if (m.Labels[x.Tile.toNat]?.getD 0)<0 then some t
 else if (lkP t (Qgu x.At m.Scale).1).getD (m.Labels[x.Tile.toNat]?.getD 0)≠(m.Labels[x.Tile.toNat]?.getD 0) then none
 else some (updP t (Qgu x.At m.Scale).1 (m.Labels[x.Tile.toNat]?.getD 0))
theorem find_perm{l l':List Qab}(hp:l.Perm l')(hd:(l'.map Qab.At).Nodup)(p:Qae):l.find? (fun x=>decide (x.At=p))=l'.find? (fun x=>decide (x.At=p)):=by
 cases h1:l.find? (fun x=>decide (x.At=p)) with
 |none=>
  symm;rw[Zdm] at h1⊢;exact fun x hx=>h1 x (hp.mem_iff.2 hx)
 |some x=>
  have hx:=hp.mem_iff.1 (ZcF h1);have hxp:=Zdf h1;cases h2:l'.find? (fun x=>decide (x.At=p)) with
  |none=>
   rw[Zdm] at h2;exact absurd hxp (h2 x hx)
  |some y=>
   have hy:=ZcF h2;have hyp:=Zdf h2;rw[at_inj hd hx hy];rw[Zax] at hxp hyp;rw[hxp,hyp]
theorem lk_find(p:Qae): ∀(t:List (Qae×Int)),(((t.map mkPl).find? (fun x=>decide (x.At=p))).map Qab.Tile)=lkP t p
 |[]=>rfl
 |(k,w)::r=>by
  simp only[Zal,ZdY,mkPl,lkP];by_cases h:k=p
  .subst h;simp
  .have h1:decide (k=p)=false:=by simpa using h
   have h2: ¬p=k:=fun h3=>h h3.symm
   rw[h1,Zai h2];exact lk_find p r
theorem Qac3(t:List (Qae×Int)):(t.map mkPl).map Qab.At=t.map Prod.fst:=by simp[mkPl]
theorem lk_at{t:List (Qae×Int)}(hd:(t.map Prod.fst).Nodup)(p:Qae):atA ⟨Qfh (t.map mkPl)⟩ p=(lkP t p).getD (-1):=by
 have hd':((t.map mkPl).map Qab.At).Nodup:=by rw[Qac3];exact hd
 simp only[atA];rw[find_perm (Qd4 _) hd',lk_find]
theorem Qm3{t:List (Qae×Int)}{p:Qae}(v:Int)(h:lkP t p=none):updP t p v=t++[(p,v)]:=by
 induction t with
 |nil=>rfl
 |cons q r ih=>
  obtain⟨k,w⟩:=q;simp only[lkP] at h;split at h
  .cases h
  .rename_i hn;simp only[updP,Zai hn,ZaG];rw[ih h]
theorem updP_same{t:List (Qae×Int)}{p:Qae}{v:Int}(h:lkP t p=some v):updP t p v=t:=by
 induction t with
 |nil=>cases h
 |cons q r ih=>
  obtain⟨k,w⟩:=q;simp only[lkP] at h;simp only[updP];split at h
  .rename_i he;obtain rfl:=Zaa h;rw[Zao he,he]
  .rename_i hn;rw[Zai hn,ih h]
theorem Qyz{t:List (Qae×Int)}{p:Qae}(h:lkP t p=none):p∉t.map Prod.fst:=by
 induction t with
 |nil=>simp
 |cons q r ih=>
  obtain⟨k,w⟩:=q;simp only[lkP] at h;split at h
  .cases h
  .rename_i hn;simp only[Zal,Zas,ZeZ];exact⟨hn,ih h⟩
theorem Qac0{t:List (Qae×Int)}{p:Qae}{v:Int}(h:lkP t p=some v):(p,v)∈t:=by
 induction t with
 |nil=>cases h
 |cons q r ih=>
  obtain⟨k,w⟩:=q;simp only[lkP] at h;split at h
  .rename_i he;obtain rfl:=Zaa h;rw[he];exact Zar ..
  .exact Zan _ (ih h)
structure RM(t:List (Qae×Int))(o:Asm)(k:Nat):Prop where
 nd:(t.map Prod.fst).Nodup
 pos: ∀q∈t,0<=q.2
 eq:o=⟨Qfh (t.map mkPl)⟩
 len:t.length<=k
theorem RM.step{m:Sim}{t:List (Qae×Int)}{o:Asm}{k:Nat}(h:RM t o k)(x:Qab):(∃t' o',repM1 m t x=some t'/\repS1 m o x=some o'/\RM t' o' (k+1))\/(repM1 m t x=none/\repS1 m o x=none):=by
 obtain⟨nd,pos,rfl,len⟩:=h;simp only[repM1,repS1];generalize m.Labels[x.Tile.toNat]?.getD 0=n;generalize (Qgu x.At m.Scale).1=p;by_cases c1:n<0
 .rw[Zao c1,Zao c1];exact .inl ⟨_,_,rfl,rfl,nd,pos,rfl,by omega⟩
 rw[Zai c1,Zai c1,lk_at nd];cases hq:lkP t p with
 |none=>
  simp only[Option.getD_none];rw[Zai (by simp),Zai (by omega),Zao (by omega)];refine .inl ⟨_,_,rfl,rfl,?_,?_,?_,?_⟩
  .rw[Qm3 n hq,Zbs,Zcn];refine⟨nd,by simp,?_⟩;intro a ha b hb hab;simp only[Zal,ZaM,Zap] at hb;exact Qyz hq (by rw[<-hb,<-hab];exact ha)
  .intro q hm;rw[Qm3 n hq] at hm;rcases Zaq.1 hm with hm|hm
   .exact pos q hm
   .simp only[Zap] at hm;subst hm;simp only;omega
  .rw[Qi8,Qm3 n hq];congr 1;have hd':(((t++[(p,n)]).map mkPl).map Qab.At).Nodup:=by
    rw[Qac3,Zbs,Zcn];refine⟨nd,by simp,?_⟩;intro a ha b hb hab;simp only[Zal,ZaM,Zap] at hb;exact Qyz hq (by rw[<-hb,<-hab];exact ha)
   refine Qlp hd' ?_ (Qx3 ⟨p,n⟩ _ (Qnm _));refine (Qn1 ⟨p,n⟩ _).trans ?_;rw[Zbs];refine ((Qd4 _).cons _).trans ?_;exact (Zed _ _).symm
  .rw[Qm3 n hq];simp;omega
 |some v=>
  simp only[Zae];have hv:=pos _ (Qac0 hq);simp only at hv;by_cases c2:v=n
  .subst c2;rw[Zai (by simp),Zai (by simp),Zai (by omega),updP_same hq];exact .inl ⟨_,_,rfl,rfl,nd,pos,rfl,by omega⟩
  .rw[Zao c2,Zao ⟨hv,c2⟩];exact .inr ⟨rfl,rfl⟩
theorem Qala{s:Qaa}{a:Asm}(h: ∀x∈a.Tiles,Qcs s x.Tile)(p:Qae):Qaw (fun x=>decide (x.At=p)) 0 a.Tiles<0↔atA a p<0:=by
 simp only[atA];rcases Qep (fun x=>decide (x.At=p)) a.Tiles 0 with ⟨h1,h2⟩|⟨i,x,h1,h2,h3⟩
 .rw[h1,h2];simp
 .rw[h1,h2]
  have:=(h x (Zac h3)).1
  simp only[ZaR,Zae];omega
theorem RM.put{t:List (Qae×Int)}{o:Asm}{k:Nat}(h:RM t o k){p:Qae}{v:Int}(hv:0<=v)(hn:lkP t p=none):RM (updP t p v) (putA o p v) (k+1):=by
 obtain⟨nd,pos,rfl,len⟩:=h;have hnd:((t++[(p,v)]).map Prod.fst).Nodup:=by
  rw[Zbs,Zcn];refine⟨nd,by simp,?_⟩;intro a ha b hb hab;simp only[Zal,ZaM,Zap] at hb;exact Qyz hn (by rw[<-hb,<-hab];exact ha)
 rw[Qm3 v hn];refine⟨hnd,?_,?_,by simp;omega⟩
 .intro q hm;rcases Zaq.1 hm with hm|hm
  .exact pos q hm
  .simp only[Zap] at hm;subst hm;exact hv
 .rw[Qi8];congr 1;have hd':(((t++[(p,v)]).map mkPl).map Qab.At).Nodup:=by rw[Qac3];exact hnd
  refine Qlp hd' ?_ (Qx3 ⟨p,v⟩ _ (Qnm _));refine (Qn1 ⟨p,v⟩ _).trans ?_;rw[Zbs];refine ((Qd4 _).cons _).trans ?_;exact (Zed _ _).symm
theorem RM.at{t:List (Qae×Int)}{o:Asm}{k:Nat}(h:RM t o k):Qbw t=atA o:=by
 funext p;rw[h.eq,lk_at h.nd];rfl
theorem RM.size{t:List (Qae×Int)}{o:Asm}{k:Nat}(h:RM t o k):o.Tiles.length=t.length:=by
 rw[h.eq];simp only[Qacy,Zbv]
theorem Qac4: ∀(l t:List Qab),((t++l).map Qab.At).Nodup->l.foldl (fun u x=>updP u x.At x.Tile) (t.map fun x=>(x.At,x.Tile))=(t++l).map fun x=>(x.At,x.Tile)
 |[],t,_=>by simp
 |x::r,t,h=>by
  have hx:lkP (t.map fun x=>(x.At,x.Tile)) x.At=none:=by
   cases hq:lkP (t.map fun x=>(x.At,x.Tile)) x.At with
   |none=>rfl
   |some v=>
    exfalso;obtain⟨y,hy,he⟩:=Zav.1 (Qac0 hq);have e1:y.At=x.At:=Zcy Prod.fst he;rw[Zbs,Zcn] at h;exact h.2.2 _ (Zcv hy) _ (Zcv (Zar ..)) e1
  rw[ZcH,Qm3 _ hx]
  have:=Qac4 r (t++[x]) (by simpa using h)
  simpa using this
theorem RM.of{a:Asm}(hf:Qaz none a.Tiles=true)(hp: ∀x∈a.Tiles,0<=x.Tile):RM (tlUp a.Tiles) a a.Tiles.length:=by
 have hn:=Qix hf;have e:tlUp a.Tiles=a.Tiles.map fun x=>(x.At,x.Tile):=by
  have:=Qac4 a.Tiles [] (by simpa using hn)
  simpa[tlUp] using this
 have em:(a.Tiles.map fun x=>(x.At,x.Tile)).map mkPl=a.Tiles:=by
  rw[ZcR];exact List.map_id' _
 rw[e];refine⟨by rw[ZcR];exact hn,?_,?_,by simp⟩
 .intro q hq;obtain⟨x,hx,rfl⟩:=Zav.1 hq;exact hp x hx
 .rw[em];have hs:=(Qe4 _ _ hf).2;have hw:a.Tiles.Pairwise (fun x y=>Qap y.At x.At=false):=by
   rw[Zep];intro i j hi hj hij
   have:=hs i j a.Tiles[i] a.Tiles[j] hij (Zad hi) (Zad hj)
   simp only[Qap] at this⊢
   grind
  rw[<-Qlp hn (ZdJ _) hw]
theorem fit_at{s:Qar}{a:Asm}(h:Qn7 s.Set a)(o:Opt):(Qau o.Tile 0 (s.Set.Tiles.length - 1) && Qpg s (atA a) o.At o.Tile)=canS s a o:=by
 have h2:decide (atA a o.At<0)=decide (Qaw (fun x=>decide (x.At=o.At)) 0 a.Tiles<0):=by rw[decide_eq_decide];exact (Qala h.2 o.At).symm
 simp only[Qpg,canS,bindF_A];rw[h2];cases Qbi o.At<;>cases Qau o.Tile 0 (s.Set.Tiles.length - 1)<;>simp
def eqOption.ar:List PK->Option (Opt×Opt):=a2 (kR Opt.d) (kR Opt.d)
def eqOption.ae(a:Opt×Opt):List PK:=[.val (.agg (Opt.c a.1)),.val (.agg (Opt.c a.2))]
def eqOption.fv(a:Opt×Opt):Bool:=(fun a b=>decide (a=b)) (a.1) (a.2)
def eqOption.row:Row:=vrow eqOption.ar (fun a=>True) (fun a=>(D.bool) (eqOption.fv a))
def eqOption.q:=vq eqOption.row rfl
theorem eqOption.ok:Qas Tryz.prog 81 eqOption.row:=by
 refine Qaj Qaq (tC eqPoint.ok tN) Tryz.func81 rfl (by kernel_rfl) (by kernel_rfl) (ar:=eqOption.ar) (ae:=eqOption.ae) (Qaca (Qab8 Opt.d_le) (Qab8 Opt.d_le)) (n:=2) (fun _=>rfl) (by decide) (rc:=(Qa8)) (re:=(D.bool)) (Qat) (f:=eqOption.fv) ?_;intro a hpre;simp only[Tryz.f81,Option.getD];simp(maxSteps:=9^9)(disch:=omega)only[ZZ,simprocAttr,rch,eqOption.ae,eqOption.fv,eqPoint.q,eqPoint.ar,eqPoint.fv];obtain⟨⟨⟨x,y⟩,u⟩,⟨⟨z,w⟩,v⟩⟩:=a;simp only[Opt.mk.injEq,Qae.mk.injEq]
 grind
def eqOptionS.ar:List PK->Option ((List Opt)×(List Opt)):=a2 (kS Opt.d) (kS Opt.d)
def eqOptionS.ae(a:(List Opt)×(List Opt)):List PK:=[.val (.sl false 3 (a.1.map Opt.c)),.val (.sl false 3 (a.2.map Opt.c))]
def eqOptionS.fv(a:(List Opt)×(List Opt)):Bool:=(fun a b=>decide (a=b)) (a.1) (a.2)
def eqOptionS.row:Row:=vrow eqOptionS.ar (fun a=>True) (fun a=>(D.bool) (eqOptionS.fv a))
def eqOptionS.q:=vq eqOptionS.row rfl
def YaR:=J @eqOptionS.ae.eq_1<|J @eqOptionS.fv.eq_1<|J @eqOption.q<|J @eqOption.ar.eq_1 @eqOption.fv.eq_1
theorem eqOptionS.ok:Qas Tryz.prog 28 eqOptionS.row:=by
 refine Qaj Qaq (tC eqOption.ok tN) Tryz.func28 rfl (by kernel_rfl) (by kernel_rfl) (ar:=eqOptionS.ar) (ae:=eqOptionS.ae) (Qaca (Qacb 3 Opt.d_le (fun _=>rfl)) (Qacb 3 Opt.d_le (fun _=>rfl))) (n:=2) (fun _=>rfl) (by decide) (rc:=(Qa8)) (re:=(D.bool)) (Qat) (f:=eqOptionS.fv) ?_;intro a hpre;simp only[Tryz.f28,Option.getD];simp(maxSteps:=9^9)(disch:=omega)only[ZZ,simprocAttr,rch,YaR];intro h1 h2;simp only[Qal];refine⟨fun hl=> ?_,fun hl=> ?_⟩
 .have:a.1≠a.2:=fun h=>hl (by rw[h])
  simp[this]
 have hl:a.1.length=a.2.length:=by omega
 refine Qay.old ⟨{k:Nat//k<=a.1.length/\a.1.take k=a.2.take k},fun k=>⟨[(5,.im (.int .i64 k.1)),(4,.im (.bool false)),(0,.im (.sl false 3 (a.1.map Opt.c))),(1,.im (.sl false 3 (a.2.map Opt.c)))],[],0⟩,fun k=>a.1.length - k.1,fun k=>⟨by simp[Qad.good,belT,belH,Qam,AV.bel,belL],Zak _⟩,⟨⟨0,by simp⟩,by simp(maxSteps:=9^9)(disch:=omega)only[ZZ,simprocAttr,rch,YaR,sub]⟩,fun k=> ?_⟩;obtain⟨k,hk1,hk2⟩:=k;simp(maxSteps:=9^9)(disch:=omega)only[ZZ,simprocAttr,rch,YaR,sub,Qal];intro _;refine⟨fun hk=>⟨hk,fun x hx=>⟨by omega,fun y hy=> ?_⟩⟩,fun hk=> ?_⟩
 .obtain⟨g1,g2⟩:=Qew hl hk1 hk2 hx hy;exact⟨fun h=>by simp[g2 (show x≠y from h)],fun h=>Qb6 hk h1 ⟨by omega,g1 (show x=y from ZaZ.1 h)⟩⟩
 .rw[ZaD (by omega),ZaD (by omega)] at hk2;simp[hk2]
def l03Own.ar:List PK->Option (Asm):=a1 (kP Asm.d 1)
def l03Own.ae(a:Asm):List PK:=[.ptr (Asm.c a)]
def l03Own.fv(a:Asm):Asm:=(fun a=>a) a
def l03Own.row:Row:=vrow l03Own.ar (fun a=>a.Tiles.length<=1000000) (fun a=>(fun b=>D.agg (Asm.c b)) (l03Own.fv a))
def l03Own.q:=vq l03Own.row rfl
theorem l03Own.ok:Qas Tryz.prog 160 l03Own.row:=by
 refine Qaj Qaq tN Tryz.func160 rfl (by kernel_rfl) (by kernel_rfl) (ar:=l03Own.ar) (ae:=l03Own.ae) (Qacd (Qacc 1 Asm.d_le)) (n:=1) (fun _=>rfl) (by decide) (rc:=(vAgg Asm.d)) (re:=(fun b=>D.agg (Asm.c b))) (Qb1 Asm.d_le) (f:=l03Own.fv) ?_;intro a hpre;simp only[Tryz.f160,Option.getD];simp(maxSteps:=9^9)(disch:=omega)only[ZZ,simprocAttr,rch,l03Own.ae,l03Own.fv];exact⟨by simp[OneR,allD,D.one,Qab.c],by omega⟩
theorem Qacj{s:Qar}(h:Qjc s=true):(setP s.Set/\Qn7 s.Set s.Seed/\s.Set.Tiles.length<=160/\s.Seed.Tiles.length<=1000000)/\Qcl s.Set=true/\Qcp s.Set s.Seed=true:=by
 simp only[Qjc,Zaf] at h;obtain⟨h1,h2,_⟩:=h;have h3:=Qdg h2;have h4:=Qge h1;have h5:=h1;simp only[Qcl,Qau,Zaf,Zax] at h5;exact⟨⟨h4,h3.1,by omega,by omega⟩,h1,h2⟩
theorem Qwf{A B:Type}(f:A->B): ∀(l:List A) (i:Nat),(l.map f).eraseIdx i=(l.eraseIdx i).map f
 |[],_=>rfl
 |_::_,0=>rfl
 |x::r,i+1=>by simp only[Zal,ZcO,Qwf f r i]
theorem Qqq{A:Type}: ∀(l:List A) (i:Nat) (x:A),l[i]? =some x->(x::l.eraseIdx i).Perm l
 |[],i,x,h=>by simp at h
 |y::r,0,x,h=>by
  simp only[ZaU,Zab] at h;subst h;exact ZdJ _
 |y::r,i+1,x,h=>by
  rw[Zbp] at h;rw[ZcO];exact (List.Perm.swap y x _).trans ((Qqq r i x h).cons y)
def putT(c:Cry)(p:Qae)(t:Int):Cry:=⟨c.Sys,updP c.Tl p t,Qrz c.Sys (Qbw (updP c.Tl p t)) (delP c.Op p) p 4⟩
theorem putT_in{s:Qaa}{t:List (Qae×Int)}{p:Qae}{v:Int}(h:inF s (Qbw t))(hv:Qcs s v):inF s (Qbw (updP t p v)):=by
 intro q hq;simp only[Qbw,Qyq] at hq⊢;by_cases c:q=p
 .rw[Zao c];exact hv
 .rw[Zai c] at hq⊢;exact h q hq
def putC.ca(a:Cry×Qae×Int):List AV:=[.ptr 0 0,.im (.agg [.int .i64 a.2.1.X,.int .i64 a.2.1.Y]),.im (.int .i64 a.2.2)]
def putC.H1(a:Cry×Qae×Int):Qan:=[(1,(true,.map ⟨true,[.int .i64,.int .i64]⟩ ((putT a.1 a.2.1 a.2.2).Tl.map Qbe))),(2,(true,.map ⟨true,[.int .i64,.int .i64]⟩ ((putT a.1 a.2.1 a.2.2).Op.map Qbc)))]
def kl12(j:Nat):Bool:=j==1||j==2
def putC.row:Row:=orow putC.ca (fun a=>cryH a.1) 3 (fun a=>Qacu a.1/\Qdy a.2.1/\Qcs a.1.Sys.Set a.2.2) kl12 (fun _=> .im (.tup [])) putC.H1 0
theorem putC.ok:Qas Tryz.prog 111 putC.row:=by
 refine Qf1 Qaq (tC lookC.ok tN) Tryz.func111 rfl (by kernel_rfl) (by kernel_rfl) (exB:=fun _=>false) (R:=fun _ r=>r= .im (.tup [])) (n:=3) (fun _=>rfl) (by decide)
  (fun a=>by simp[putC.ca,cryH,Qbk,putC.H1,kl12,belL,AV.bel]) (fun a=>by simp[putC.ca,cryH,Qbk,putC.H1,kl12,belH,belL,AV.bel]) (fun a=>by simp[putC.ca,cryH,Qbk,putC.H1,kl12,Qam])
  (fun a=>by simp[Qc2,putC.ca,cryH,Qbk,putC.H1,kl12,AObj.nms,nmsL,AV.nms,domB,hget]) (fun a p hp=> ?_) (fun a r h=>by subst h;exact LeV.refl _) ?_
 rotate_left
 intro a hpre;simp only[Tryz.f111,Option.getD,putC.ca,cryH,Qbk,putC.H1,kl12];simp(maxSteps:=9^9)(disch:=omega)only[ZZ,simprocAttr,rch,ORB,putC.ca,cryH,Qbk,putC.H1,kl12];obtain⟨hp1,hp2,hp3⟩:=hpre;rw[upd_pi,del_ps];have hq:Qacu ⟨a.1.Sys,updP a.1.Tl a.2.1 a.2.2,delP a.1.Op a.2.1⟩:=⟨hp1.1,putT_in hp1.2.1 hp3,hp1.2.2⟩;refine orow.os (⟨a.1.Sys,updP a.1.Tl a.2.1 a.2.2,delP a.1.Op a.2.1⟩,a.2.1) [0,1,2] ⟨hq,hp2⟩ (fun j=>Qack _ j) rfl rfl ?_ ?_
 .simp(maxSteps:=9^9)(disch:=omega)only[ZZ,simprocAttr,rch,ORB,putC.ca,cryH,Qbk,putC.H1,kl12,lookC.ca,cryH,Qbk,Zbg]
 .simp(maxSteps:=9^9)(disch:=omega)only[ZZ,simprocAttr,rch,ORB,putC.ca,cryH,Qbk,putC.H1,kl12,lookC.H1,kl2,sub,putT]
 simp[putC.H1] at hp;rcases hp with rfl|rfl
 .exact .inl ⟨by omega,rfl,rfl⟩
 .exact .inl ⟨by omega,rfl,rfl⟩
def asmC.ca(_:Cry):List AV:=[.ptr 0 0]
def asmC.H1(a:Cry):Qan:=[(1,(false,.map ⟨true,[.int .i64,.int .i64]⟩ (a.Tl.map Qbe)))]
def klA(j:Nat):Bool:=j==1
theorem asmT_perm{t:List (Qae×Int)}{l:List Qab}(hd:(t.map Prod.fst).Nodup)(h:l.Perm (t.map mkPl)):Qfh l=Qfh (t.map mkPl)/\(l.map Qab.At).Nodup/\l.length=t.length:=by
 have hd':((t.map mkPl).map Qab.At).Nodup:=by rw[Qac3];exact hd
 refine⟨Qlp hd' ((Qd4 l).trans h) (Qnm l),(h.map Qab.At).nodup_iff.2 hd',by rw[h.length_eq,Zbv]⟩
def asmT(t:List (Qae×Int)):Asm:=⟨Qfh (t.map mkPl)⟩
def asmC.row:Row:=orow asmC.ca cryH 3 (fun a=>(a.Tl.map Prod.fst).Nodup/\a.Tl.length<=100000) klA (fun a=> .im (.agg (Asm.c (asmT a.Tl)))) asmC.H1 0
def YaS:=J @asmOf.q (J @asmOf.ar.eq_1 @asmOf.fv.eq_1)
theorem asmC.ok:Qas Tryz.prog 112 asmC.row:=by
 refine Qf1 Qaq (tC asmOf.ok tN) Tryz.func112 rfl (by kernel_rfl) (by kernel_rfl) (exB:=fun _=>false) (R:=fun a r=>r= .im (.agg (Asm.c (asmT a.Tl)))) (n:=1) (fun _=>rfl) (by decide)
  (fun a=>by simp[asmC.ca,cryH,Qbk,asmC.H1,klA,belL,AV.bel]) (fun a=>by simp[asmC.ca,cryH,Qbk,asmC.H1,klA,belH,belL,AV.bel]) (fun a=>by simp[asmC.ca,cryH,Qbk,asmC.H1,klA,Qam])
  (fun a=>by simp[Qc2,asmC.ca,cryH,Qbk,asmC.H1,klA,AObj.nms,nmsL,AV.nms,domB,hget]) (fun a p hp=> ?_) (fun a r h=>by subst h;exact LeV.refl _) ?_
 rotate_left
 intro a hpre;simp only[Tryz.f112,Option.getD,asmC.ca,cryH,Qbk,asmC.H1,klA];simp(maxSteps:=9^9)(disch:=omega)only[ZZ,simprocAttr,rch,YaS,ORB,asmC.ca,cryH,Qbk,asmC.H1,klA];obtain⟨hp1,hp2⟩:=hpre;refine Qay.ren ⟨{s:Option (D×D)×List (Qae×Int)×List Qab//(s.2.2++s.2.1.map mkPl).Perm (a.Tl.map mkPl)},fun s=>⟨[(10,.it 5),(3,.own 6),(2,.ptr 3 0),(0,.ptr 0 0)],[(6,(true,.arr 187 3 (s.1.2.2.map Qab.c))),(5,(true,.iter s.1.1 (s.1.2.1.map Qbe))),(3,(true,.cells 46 [.im (.sl true 0 [])])),(0,(true,.cells 162 (Qbk a.Sys))),(1,(false,.map ⟨true,[.int .i64,.int .i64]⟩ (a.Tl.map Qbe))),(2,(true,.map ⟨true,[.int .i64,.int .i64]⟩ (a.Op.map Qbc)))],7⟩,fun s=>s.1.2.1.length,fun s=>⟨by simp[Qad.good,belT,belH,Qam,AV.bel,belL,Qbk],by simp⟩,⟨⟨(none,a.Tl,[]),by simp⟩,[(6,some 4)],?_⟩,fun s=> ?_⟩
 .simp only[subP,Qbk];simp(maxSteps:=9^9)(disch:=omega)only[ZZ,simprocAttr,rch,YaS,ORB,asmC.ca,cryH,Qbk,asmC.H1,klA,ZaM]
  try simp
 obtain⟨⟨last,left,col⟩,hs⟩:=s;simp only at hs;simp only[Qbk];simp(maxSteps:=9^9)(disch:=omega)only[ZZ,simprocAttr,rch,YaS,ORB,asmC.ca,cryH,Qbk,asmC.H1,klA,sub,Qal];refine⟨fun hl=> ?_,fun i p hp=> ?_⟩
 .have hl':left=[]:=by simpa using hl
  subst hl';rw[ZaM,ZaP] at hs;obtain⟨r1,r2,r3⟩:=asmT_perm hp1 hs;exact⟨⟨r2,by omega⟩,by simp only[asmT,r1]⟩
 .rw[ZaK] at hp;cases hq:left[i]? with
  |none=>rw[hq] at hp;cases hp
  |some q=>
   rw[hq] at hp;obtain rfl:=Zaa hp;obtain⟨⟨qx,qy⟩,qn⟩:=q;simp only[Qbe,Qae.c];simp(maxSteps:=9^9)(disch:=omega)only[ZZ,simprocAttr,rch,YaS,ORB,asmC.ca,cryH,Qbk,asmC.H1,klA,sub,Qal];have hi:i<left.length:=by
    rcases Zbw i left.length with h|h
    .exact h
    .rw[ZaT h] at hq;cases hq
   have hpm:((⟨qx,qy⟩,qn)::left.eraseIdx i).Perm left:=Qqq _ _ _ hq;have hP:((col++[(⟨⟨qx,qy⟩,qn⟩:Qab)])++(left.eraseIdx i).map mkPl).Perm (a.Tl.map mkPl):=by
    rw[ZbG];refine (List.Perm.append_left col ?_).trans hs;exact hpm.map mkPl
   have hcl:col.length<=a.Tl.length:=by
    have r3:=hs.length_eq;simp at r3;omega
   refine⟨by omega,⟨⟨(some (D.agg [.int .i64 qx,.int .i64 qy],D.int .i64 qn),left.eraseIdx i,col++[(⟨⟨qx,qy⟩,qn⟩:Qab)]),hP⟩,[(6,some 9)],?_,?_⟩⟩
   .simp only[ZeO];rw[Zao hi];omega
   .simp only[subP];simp(maxSteps:=9^9)(disch:=omega)only[ZZ,simprocAttr,rch,YaS,ORB,asmC.ca,cryH,Qbk,asmC.H1,klA];simp[Qab.c,Qwf]
 simp[asmC.H1] at hp;subst hp;exact .inl ⟨by omega,rfl,rfl⟩
def nonE{A:Type}(l:List A):Option (List A):=if l=[] then none else some l
abbrev Qajt(s:Qar)(f:Qae->Int)(q:Qae):List Int:=Qm0 s f q s.Set.Tiles.length
def OpOk(s:Qar)(f:Qae->Int)(op:List (Qae×List Int)):Prop:=(op.map Prod.fst).Nodup/\ ∀q,lkP op q=nonE (Qajt s f q)
theorem Qaj1{s:Qar}{f:Qae->Int}{q:Qae}(h: ∀k:Int,Qpg s f q k=false): ∀n,Qm0 s f q n=[]
 |0=>rfl
 |n+1=>by simp only[Qm0,Qaj1 h n,h,Zbx];rfl
theorem fitUp_occ{s:Qar}{f:Qae->Int}{q:Qae}(h:0<=f q)(n:Nat):Qm0 s f q n=[]:=
 Qaj1 (fun k=>by simp only[Qpg];rw[ZdV (show ¬f q<0 by omega)];simp) n
theorem Qakr{s:Qaa}{f:Qae->Int}{q:Qae}{t:Int}(h: ∀d:Nat,d<4->f (Qf7 q d)<0): ∀k,k<=4->Qhs s f q t k=0
 |0,_=>rfl
 |k+1,hk=>by
  have:=h k (by omega)
  simp only[Qhs,Qakr h k (by omega),Quh];rw[Zai (by omega)];rfl
theorem Qakp{s:Qar}{f:Qae->Int}{q:Qae}(hT:1<=s.Temperature)(h: ∀d:Nat,d<4->f (Qf7 q d)<0)(n:Nat):Qm0 s f q n=[]:=
 Qaj1 (fun k=>by simp only[Qpg,Qakr h 4 (Zak _)];rw[ZdV (show ¬s.Temperature<=0 by omega)];simp) n
theorem lkP_no{β:Type}{p:Qae}: ∀{l:List (Qae×β)},p∉l.map Prod.fst->lkP l p=none
 |[],_=>rfl
 |(k,v)::r,h=>by
  simp only[Zal,Zas,ZeZ] at h;simp only[lkP];rw[Zai h.1,lkP_no h.2]
theorem Qakn{β:Type}{p:Qae}: ∀{l:List (Qae×β)},p∈l.map Prod.fst-> ∃v,lkP l p=some v/\(p,v)∈l
 |[],h=>by simp at h
 |(k,v)::r,h=>by
  simp only[lkP];by_cases c:p=k
  .rw[Zao c,c];exact⟨v,rfl,Zar ..⟩
  .rw[Zai c];obtain⟨w,h1,h2⟩:=Qakn (l:=r) (by simpa[c] using h);exact⟨w,h1,Zan _ h2⟩
theorem lkP_in{β:Type}{p:Qae}{l:List (Qae×β)}:p∈l.map Prod.fst↔lkP l p≠none:=by
 constructor
 .intro h;obtain⟨v,h1,_⟩:=Qakn h;rw[h1];simp
 .intro h;apply Zcg;intro h2;exact h (lkP_no h2)
theorem Qak7{β:Type}{p q:Qae}: ∀{l:List (Qae×β)},q∈(delP l p).map Prod.fst->q∈l.map Prod.fst
 |[],h=>by simp[delP] at h
 |(k,v)::r,h=>by
  simp only[delP] at h;split at h
  .exact Zan _ h
  .simp only[Zal,Zas] at h⊢;rcases h with h|h
   .exact .inl h
   .exact .inr (Qak7 h)
theorem delP_nd{β:Type}{p:Qae}: ∀{l:List (Qae×β)},(l.map Prod.fst).Nodup->((delP l p).map Prod.fst).Nodup
 |[],h=>h
 |(k,v)::r,h=>by
  simp only[Zal,ZbP] at h;simp only[delP];split
  .exact h.2
  .simp only[Zal,ZbP];exact⟨fun h2=>h.1 (Qak7 h2),delP_nd h.2⟩
theorem lkP_del{β:Type}{p:Qae}(q:Qae): ∀{l:List (Qae×β)},(l.map Prod.fst).Nodup->lkP (delP l p) q=if q=p then none else lkP l q
 |[],_=>by simp[delP,lkP]
 |(k,v)::r,h=>by
  simp only[Zal,ZbP] at h;simp only[delP];by_cases c:p=k
  .rw[Zao c];by_cases e:q=p
   .rw[Zao e,e,c];exact lkP_no h.1
   .rw[Zai e];simp only[lkP];rw[Zai (fun h2=>e (h2.trans c.symm))]
  .rw[Zai c];simp only[lkP];by_cases e:q=k
   .rw[Zao e,Zao e,Zai (fun h2=>c (h2.symm.trans e))]
   .rw[Zai e,Zai e,lkP_del q h.2]
theorem updP_ky{β:Type}{p q:Qae}{v:β}: ∀{l:List (Qae×β)},q∈(updP l p v).map Prod.fst↔q=p\/q∈l.map Prod.fst
 |[]=>by simp[updP]
 |(k,w)::r=>by
  simp only[updP];split
  .rename_i c;subst c;simp
  .simp only[Zal,Zas,updP_ky (l:=r)];constructor
   .rintro (h|h|h)
    .exact .inr (.inl h)
    .exact .inl h
    .exact .inr (.inr h)
   .rintro (h|h|h)
    .exact .inr (.inl h)
    .exact .inl h
    .exact .inr (.inr h)
theorem Qak9{β:Type}{p:Qae}{v:β}: ∀{l:List (Qae×β)},(l.map Prod.fst).Nodup->((updP l p v).map Prod.fst).Nodup
 |[],_=>by simp[updP]
 |(k,w)::r,h=>by
  simp only[Zal,ZbP] at h;simp only[updP];split
  .rename_i c;subst c;simp only[Zal,ZbP];exact h
  .rename_i c;simp only[Zal,ZbP];refine⟨fun h2=> ?_,Qak9 h.2⟩;rcases updP_ky.1 h2 with e|e
   .exact c e.symm
   .exact h.1 e
theorem lookS_nd{s:Qar}{f:Qae->Int}{op:List (Qae×List Int)}{q:Qae}(h:(op.map Prod.fst).Nodup):((Qak2 s f op q).map Prod.fst).Nodup:=by
 simp only[Qak2];split
 .exact delP_nd h
 .exact Qak9 h
theorem lookS_lk{s:Qar}{f:Qae->Int}{op:List (Qae×List Int)}{p:Qae}(h:(op.map Prod.fst).Nodup)(q:Qae):lkP (Qak2 s f op p) q=if q=p then nonE (Qajt s f q) else lkP op q:=by
 simp only[Qak2];by_cases c:Qm0 s f p s.Set.Tiles.length=[]
 .rw[Zao c,lkP_del q h];by_cases e:q=p
  .subst e;rw[Zao rfl,Zao rfl,nonE,Zao c]
  .rw[Zai e,Zai e]
 .rw[Zai c,Qyq];by_cases e:q=p
  .subst e;rw[Zao rfl,Zao rfl,nonE,Zai c]
  .rw[Zai e,Zai e]
theorem Qakk{s:Qar}{f:Qae->Int}{op:List (Qae×List Int)}{p:Qae}(h:(op.map Prod.fst).Nodup): ∀k,((Qrz s f op p k).map Prod.fst).Nodup
 |0=>h
 |k+1=>lookS_nd (Qakk h k)
def Qaj9(p q:Qae):Prop:= ∃d:Nat,d<4/\Qf7 p d=q
theorem Qalc{s:Qar}{f:Qae->Int}{op:List (Qae×List Int)}{p:Qae}(h:(op.map Prod.fst).Nodup)(q:Qae): ∀k,(∀d:Nat,d<k->Qf7 p d≠q)/\lkP (Qrz s f op p k) q=lkP op q\/(∃d:Nat,d<k/\Qf7 p d=q)/\lkP (Qrz s f op p k) q=nonE (Qajt s f q)
 |0=> .inl ⟨fun d hd=>absurd hd (by omega),rfl⟩
 |k+1=>by
  have ih:=Qalc (s:=s) (f:=f) (p:=p) h q k;simp only[Qrz,lookS_lk (Qakk h k)];by_cases c:q=Qf7 p k
  .rw[Zao c];exact .inr ⟨⟨k,by omega,c.symm⟩,rfl⟩
  .rw[Zai c];rcases ih with ⟨h1,h2⟩|⟨⟨d,h1,h2⟩,h3⟩
   .refine .inl ⟨fun d hd=> ?_,h2⟩;by_cases e:d=k
    .subst e;exact fun h=>c h.symm
    .exact h1 d (by omega)
   .exact .inr ⟨⟨d,by omega,h2⟩,h3⟩
theorem look4{s:Qar}{f:Qae->Int}{op:List (Qae×List Int)}{p:Qae}(h:(op.map Prod.fst).Nodup)(q:Qae):(¬Qaj9 p q/\lkP (Qrz s f op p 4) q=lkP op q)\/(Qaj9 p q/\lkP (Qrz s f op p 4) q=nonE (Qajt s f q)):=by
 rcases Qalc (s:=s) (f:=f) h q 4 with ⟨h1,h2⟩|h
 .exact .inl ⟨fun ⟨d,hd,e⟩=>h1 d hd e,h2⟩
 .exact .inr h
theorem step_back(p:Qae){d:Nat}(h:d<4):Qf7 (Qf7 p d) ((d+2) % 4:Nat)=p:=by
 rcases (by omega:d=0\/d=1\/d=2\/d=3) with rfl|rfl|rfl|rfl<;>simp[Qf7]<;>omega
theorem Qake{p q:Qae}(h:Qaj9 p q):Qaj9 q p:=by
 obtain⟨d,hd,rfl⟩:=h;exact⟨(d+2) % 4,by omega,step_back p hd⟩
theorem Qak1{s:Qar}{f:Qae->Int}(q:Qae): ∀(l:List Qab) (op:List (Qae×List Int)),(op.map Prod.fst).Nodup->
 ((l.foldl (fun o x=>Qrz s f o x.At 4) op).map Prod.fst).Nodup/\((∀x∈l,¬Qaj9 x.At q)/\lkP (l.foldl (fun o x=>Qrz s f o x.At 4) op) q=lkP op q\/(∃x∈l,Qaj9 x.At q)/\lkP (l.foldl (fun o x=>Qrz s f o x.At 4) op) q=nonE (Qajt s f q))
 |[],op,h=>⟨h,.inl ⟨by simp,rfl⟩⟩
 |x::r,op,h=>by
  simp only[ZcH];obtain⟨h1,h2⟩:=Qak1 (s:=s) (f:=f) q r (Qrz s f op x.At 4) (Qakk h 4);refine⟨h1,?_⟩;rcases h2 with ⟨a,b⟩|⟨⟨y,hy,a⟩,b⟩
  .rcases look4 (s:=s) (f:=f) (p:=x.At) h q with ⟨c,e⟩|⟨c,e⟩
   .refine .inl ⟨fun y hy=> ?_,b.trans e⟩;rcases Zas.1 hy with rfl|hy
    .exact c
    .exact a y hy
   .exact .inr ⟨⟨x,Zar ..,c⟩,b.trans e⟩
  .exact .inr ⟨⟨y,Zan _ hy,a⟩,b⟩
theorem tlUp_at{l:List Qab}: ∀{q:Qae},0<=Qbw (tlUp l) q-> ∃x∈l,x.At=q:=by
 have key: ∀(l:List Qab) (t:List (Qae×Int)) (q:Qae),lkP (l.foldl (fun t x=>updP t x.At x.Tile) t) q≠none->(∃x∈l,x.At=q)\/lkP t q≠none:=by
  intro l;induction l with
  |nil=>intro t q h;exact .inr h
  |cons x r ih=>
   intro t q h;rcases ih _ q h with ⟨y,hy,e⟩|h2
   .exact .inl ⟨y,Zan _ hy,e⟩
   .rw[Qyq] at h2;split at h2
    .rename_i e;exact .inl ⟨x,Zar ..,e.symm⟩
    .exact .inr h2
 intro q h;rcases key l [] q (fun e=>by
  simp only[Qbw,tlUp,e,Option.getD_none] at h;omega) with h2|h2
 .exact h2
 .simp[lkP] at h2
theorem op_new{s:Qar}{l:List Qab}(hT:1<=s.Temperature):OpOk s (Qbw (tlUp l)) (opUp s (Qbw (tlUp l)) l):=by
 have hn:(([]:List (Qae×List Int)).map Prod.fst).Nodup:=by simp
 refine⟨(Qak1 ⟨0,0⟩ l [] hn).1,fun q=> ?_⟩;rcases (Qak1 (s:=s) (f:=Qbw (tlUp l)) q l [] hn).2 with ⟨h1,h2⟩|⟨_,h2⟩
 .rw[opUp,h2]
  have:Qajt s (Qbw (tlUp l)) q=[]:=by
   refine Qakp hT (fun d hd=> ?_) _;apply Zcg;intro h;obtain⟨x,hx,e⟩:=tlUp_at (l:=l) (q:=Qf7 q d) (by omega);exact h1 x hx (Qake (e▸⟨d,hd,rfl⟩))
  rw[nonE,Zao this];rfl
 .exact h2
def insQ(p:Qae):List Qae->List Qae
 |[]=>[p]
 |y::r=>if Qap y p=true then y::insQ p r else if y=p then y::r else p::y::r
def Qakz(l:List Qae):List Qae:=l.foldr insQ []
abbrev ltQ(l:List Qae):Prop:=l.Pairwise fun a b=>Qap a b=true
theorem Qajr{a b c:Qae}(h1:Qap a b=true)(h2:Qap b c=true):Qap a c=true:=by simp only[Qap] at*;grind
theorem Qaj3(a:Qae):Qap a a=false:=by simp[Qap]
theorem Qako{a b:Qae}(h1:Qap a b=false)(h2:a≠b):Qap b a=true:=by
 obtain⟨ax,ay⟩:=a;obtain⟨bx,by'⟩:=b;simp only[Qap,ne_eq,Qae.mk.injEq] at*
 grind
theorem Qaj7{p q:Qae}: ∀{l:List Qae},q∈insQ p l↔q=p\/q∈l
 |[]=>by simp[insQ]
 |y::r=>by
  simp only[insQ];split
  .simp only[Zas,Qaj7 (l:=r)];constructor
   .rintro (h|h|h)
    .exact .inr (.inl h)
    .exact .inl h
    .exact .inr (.inr h)
   .rintro (h|h|h)
    .exact .inr (.inl h)
    .exact .inl h
    .exact .inr (.inr h)
  .split
   .rename_i c;subst c;simp
   .simp
theorem Qak4{p:Qae}: ∀{l:List Qae},ltQ l->ltQ (insQ p l)
 |[],_=>by simp[insQ]
 |y::r,h=>by
  rw[ltQ,Zci] at h;simp only[insQ];split
  .rename_i c;rw[ltQ,Zci];refine⟨fun z hz=> ?_,Qak4 h.2⟩;rcases Qaj7.1 hz with rfl|hz
   .exact c
   .exact h.1 z hz
  .rename_i c;split
   .rw[ltQ,Zci];exact h
   .rename_i e;have hpy:=Qako (by simpa using c) e;rw[ltQ,Zci,Zci];refine⟨fun z hz=> ?_,h⟩;rcases Zas.1 hz with rfl|hz
    .exact hpy
    .exact Qajr hpy (h.1 z hz)
theorem Qakg: ∀(l:List Qae),ltQ (Qakz l)
 |[]=>List.Pairwise.nil
 |_::r=>Qak4 (Qakg r)
theorem Qaka{q:Qae}: ∀{l:List Qae},q∈Qakz l↔q∈l
 |[]=>by simp[Qakz]
 |x::r=>by
  have:Qakz (x::r)=insQ x (Qakz r):=rfl
  rw[this,Qaj7,Qaka (l:=r),Zas]
theorem ltQ_nd{l:List Qae}(h:ltQ l):l.Nodup:=by
 refine List.Pairwise.imp (fun {a b} hab e=> ?_) h;rw[e,Qaj3] at hab;cases hab
theorem ltQ_uniq{l m:List Qae}(h1:ltQ l)(h2:ltQ m)(h: ∀q,q∈l↔q∈m):l=m:=by
 have hp:l.Perm m:=(Zei (ltQ_nd h1) (ltQ_nd h2)).2 h;refine Zet (le:=fun a b=>Qap a b=true) (fun a b _ _ g1 g2=> ?_) h1 h2 hp
 have:=Qajr g1 g2
 rw[Qaj3] at this;cases this
def Qajv(a:Asm)(p:Qae)(l:List Qae):Nat->List Qae
 |0=>l
 |k+1=>if Qbi (Qf7 p k)=true/\atA a (Qf7 p k)<0 then insQ (Qf7 p k) (Qajv a p l k) else Qajv a p l k
def Qajq(a:Asm):Nat->List Qae
 |0=>[]
 |i+1=>Qajv a ((a.Tiles[i]?.map Qab.At).getD ⟨0,0⟩) (Qajq a i) 4
theorem Qaj6{a:Asm}{p:Qae}{l:List Qae}(h:ltQ l): ∀k,ltQ (Qajv a p l k)
 |0=>h
 |k+1=>by
  simp only[Qajv];split
  .exact Qak4 (Qaj6 h k)
  .exact Qaj6 h k
theorem Qaki(a:Asm): ∀i,ltQ (Qajq a i)
 |0=>List.Pairwise.nil
 |i+1=>Qaj6 (Qaki a i) 4
theorem Qakw{a:Asm}{p q:Qae}{l:List Qae}: ∀k,q∈Qajv a p l k↔q∈l\/(Qbi q=true/\atA a q<0)/\ ∃d:Nat,d<k/\Qf7 p d=q
 |0=>by simp[Qajv]
 |k+1=>by
  simp only[Qajv];have ih:=Qakw (a:=a) (p:=p) (q:=q) (l:=l) k;split
  .rename_i c;rw[Qaj7,ih];constructor
   .rintro (rfl|h|⟨h,d,h1,h2⟩)
    .exact .inr ⟨c,k,by omega,rfl⟩
    .exact .inl h
    .exact .inr ⟨h,d,by omega,h2⟩
   .rintro (h|⟨h,d,h1,h2⟩)
    .exact .inr (.inl h)
    .by_cases e:d=k
     .subst e;exact .inl h2.symm
     .exact .inr (.inr ⟨h,d,by omega,h2⟩)
  .rename_i c;rw[ih];constructor
   .rintro (h|⟨h,d,h1,h2⟩)
    .exact .inl h
    .exact .inr ⟨h,d,by omega,h2⟩
   .rintro (h|⟨h,d,h1,h2⟩)
    .exact .inl h
    .by_cases e:d=k
     .subst e;subst h2;exact absurd h c
     .exact .inr ⟨h,d,by omega,h2⟩
theorem Qajz{a:Asm}{q:Qae}: ∀i,i<=a.Tiles.length->(q∈Qajq a i↔(Qbi q=true/\atA a q<0)/\ ∃x∈a.Tiles.take i,Qaj9 x.At q)
 |0,_=>by simp[Qajq]
 |i+1,hi=>by
  have hx:a.Tiles[i]? =some (a.Tiles[i]'(by omega)):=Zad (by omega);simp only[Qajq];rw[Qakw,Qajz i (by omega),Qwe hx,hx,ZaR,Zae];constructor
  .rintro (⟨h,x,h1,h2⟩|⟨h,h2⟩)
   .exact⟨h,x,Zby _ h1,h2⟩
   .exact⟨h,_,ZbS _ (Zar ..),h2⟩
  .rintro⟨h,x,h1,h2⟩;rcases Zaq.1 h1 with h1|h1
   .exact .inl ⟨h,x,h1,h2⟩
   .rw[Zap] at h1;subst h1;exact .inr ⟨h,h2⟩
def atU(s:Qar)(f:Qae->Int)(q:Qae):Nat->List Int
 |0=>[]
 |k+1=>atU s f q k++(if s.Temperature<=Qhs s.Set f q k 4 then [(k:Int)] else [])
theorem Qakm(s:Qar)(f:Qae->Int)(q:Qae): ∀k,(atU s f q k).length<=k
 |0=>by simp[atU]
 |k+1=>by
  have:=Qakm s f q k
  simp only[atU,ZaH]
  split<;>simp<;>omega
theorem Qalg{s:Qar}{f:Qae->Int}{q:Qae}(h1:Qbi q=true)(h2:f q<0): ∀n,Qm0 s f q n=atU s f q n
 |0=>rfl
 |n+1=>by
  simp only[Qm0,atU,Qalg h1 h2 n,Qpg,h1,ZcP h2,Zbc,Zax]
def mkO2(p:Qae)(k:Int):Opt:=⟨p,k⟩
def Qajs(g:Qae->List Int)(l:List Qae):List Opt:=l.flatMap fun p=>(g p).map (mkO2 p)
def Qaj8(s:Qar)(a:Asm):List Opt:=Qajs (fun p=>atU s (atA a) p s.Set.Tiles.length) (Qajq a a.Tiles.length)
def optsC(op:List (Qae×List Int)):List Opt:=Qajs (fun p=>(lkP op p).getD []) (Qakz (op.map Prod.fst))
theorem Qaj5{g:Qae->List Int}: ∀(l:List Qae),Qajs g (l.filter fun p=> !(g p).isEmpty)=Qajs g l
 |[]=>rfl
 |p::r=>by
  have ih:=Qaj5 (g:=g) r;simp only[Qajs] at ih;simp only[Qajs,ZdS];split
  .simp only[Zbm,ih]
  .rename_i c
   have:g p=[]:=by simpa using c
   simp only[Zbm,ih,this,ZaM,Zbx]
theorem Qajx{g h:Qae->List Int}: ∀(l:List Qae),(∀p∈l,g p=h p)->Qajs g l=Qajs h l
 |[],_=>rfl
 |p::r,hg=>by
  simp only[Qajs,Zbm];rw[hg p (Zar ..)]
  have:=Qajx r fun q hq=>hg q (Zan _ hq)
  simp only[Qajs] at this;rw[this]
theorem atA_mem{a:Asm}{q:Qae}(h:0<=atA a q): ∃x∈a.Tiles,x.At=q:=by
 simp only[atA] at h;cases e:a.Tiles.find? (fun x=>decide (x.At=q)) with
 |none=>rw[e] at h;simp at h
 |some x=>exact⟨x,ZcF e,by simpa using Zdf e⟩
theorem opts_law{s:Qar}{a:Asm}{op:List (Qae×List Int)}(hT:1<=s.Temperature)(h:OpOk s (atA a) op):optsC op=Qaj8 s a:=by
 have hin: ∀q,Qajt s (atA a) q≠[]->q∈Qajq a a.Tiles.length:=fun q hq=>by
  rw[Qajz _ (Zak _),ZbT];have h0:atA a q<0:=by
   apply Zcg;intro c;exact hq (fitUp_occ (by omega) _)
  have hp:Qbi q=true:=by
   apply Zcg;intro c;exact hq (Qaj1 (fun k=>by simp only[Qpg];rw[Zck] at c;rw[c];rfl) _)
  refine⟨⟨hp,h0⟩,?_⟩;apply Zcg;intro c;refine hq (Qakp hT (fun d hd=> ?_) _);apply Zcg;intro c2;obtain⟨x,hx,e⟩:=atA_mem (a:=a) (q:=Qf7 q d) (by omega);exact c ⟨x,hx,Qake ⟨d,hd,e.symm⟩⟩
 have hon: ∀q∈Qajq a a.Tiles.length,atU s (atA a) q s.Set.Tiles.length=Qajt s (atA a) q:=fun q hq=>by
  rw[Qajz _ (Zak _)] at hq;exact (Qalg hq.1.1 hq.1.2 _).symm
 have hlk: ∀q,(lkP op q).getD []=Qajt s (atA a) q:=fun q=>by
  rw[h.2 q,nonE];split
  .rename_i e;rw[e];rfl
  .rfl
 have e1:Qaj8 s a=Qajs (Qajt s (atA a)) (Qajq a a.Tiles.length):=Qajx _ hon;have e2:optsC op=Qajs (Qajt s (atA a)) (Qakz (op.map Prod.fst)):=Qajx _ fun q _=>hlk q
 rw[e1,e2,<-Qaj5 (Qajq a a.Tiles.length)];congr 1;refine ltQ_uniq (Qakg _) ((Qaki a _).filter _) (fun q=> ?_);rw[Qaka,lkP_in,h.2 q,nonE,Zdg];constructor
 .intro hq;have hne:Qajt s (atA a) q≠[]:=fun e=>hq (Zao e)
  exact⟨hin q hne,by simpa using hne⟩
 .rintro⟨_,hq⟩;have hne:Qajt s (atA a) q≠[]:=by simpa using hq
  rw[Zai hne];simp
end Go.Ae
