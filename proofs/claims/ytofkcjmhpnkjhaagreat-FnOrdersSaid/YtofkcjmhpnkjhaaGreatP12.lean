/- Lemmas. Conditions: none. -/
import Derived.Test.YtofkcjmhpnkjhaaGreatP11
import Derived.Shelf.SlSortCmp.WholeK
import Derived.Shelf.SlicesG.Cmp
import Derived.StillTailTactics
import Derived.Lib.Small
import Derived.Lib.Walk
import Derived.Shelf.SlSortCmp.NoneTotal
set_option linter.all false
set_option maxHeartbeats 8000000
set_option maxRecDepth 100000
namespace Go.Proofs
open Go.Shelf
def Tryz.sortPl_ren:Go.Shelf.Ren:=⟨fun|6=>100|15=>72|14=>136|28=>112|29=>113|20=>161|21=>162|22=>163|23=>164|24=>165|25=>166|26=>167|27=>168|46=>178|47=>140|48=>141|49=>179|50=>180|57=>186|n=>n,fun|22=>28|24=>116|25=>160|3=>3|39=>124|0=>0|53=>170|55=>92|4=>4|46=>163|45=>162|50=>167|5=>5|9=>9|66=>197|70=>201|76=>226|77=>227|n=>n,fun|n=>n⟩
theorem Tryz.sortPl:Go.Proofs.SlLaysF0.n6 Tryz.prog Tryz.sortPl_ren:={
 mixed:=by kernel_rfl
 f6:=⟨Tryz.f100.name,by decide,Tryz.func100.trans (ZbJ some (by kernel_rfl))⟩
 f14:=⟨Tryz.f136.name,by decide,Tryz.func136.trans (ZbJ some (by kernel_rfl))⟩
 f15:=Tryz.func72.trans (ZbJ some (by kernel_rfl))
 f20:=⟨Tryz.f161.name,by decide,Tryz.func161.trans (ZbJ some (by kernel_rfl))⟩
 f21:=⟨Tryz.f162.name,by decide,Tryz.func162.trans (ZbJ some (by kernel_rfl))⟩
 f22:=⟨Tryz.f163.name,by decide,Tryz.func163.trans (ZbJ some (by kernel_rfl))⟩
 f23:=⟨Tryz.f164.name,by decide,Tryz.func164.trans (ZbJ some (by kernel_rfl))⟩
 f24:=⟨Tryz.f165.name,by decide,Tryz.func165.trans (ZbJ some (by kernel_rfl))⟩
 f25:=⟨Tryz.f166.name,by decide,Tryz.func166.trans (ZbJ some (by kernel_rfl))⟩
 f26:=⟨Tryz.f167.name,by decide,Tryz.func167.trans (ZbJ some (by kernel_rfl))⟩
 f27:=⟨Tryz.f168.name,by decide,Tryz.func168.trans (ZbJ some (by kernel_rfl))⟩
 f28:=Tryz.func112.trans (ZbJ some (by kernel_rfl))
 f29:=Tryz.func113.trans (ZbJ some (by kernel_rfl))
 f46:=⟨Tryz.f178.name,by decide,Tryz.func178.trans (ZbJ some (by kernel_rfl))⟩
 f47:=Tryz.func140.trans (ZbJ some (by kernel_rfl))
 f48:=Tryz.func141.trans (ZbJ some (by kernel_rfl))
 f49:=⟨Tryz.f179.name,by decide,Tryz.func179.trans (ZbJ some (by kernel_rfl))⟩
 f50:=⟨Tryz.f180.name,by decide,Tryz.func180.trans (ZbJ some (by kernel_rfl))⟩
 f57:=⟨Tryz.f186.name,by decide,Tryz.func186.trans (ZbJ some (by kernel_rfl))⟩
 t0:=Tryz.underlying0
 a0:=Tryz.isAgg0
 z0:=Tryz.sizeOf0
 v0:=Tryz.zeroValue0
 t3:=Tryz.underlying3
 a3:=Tryz.isAgg3
 z3:=Tryz.sizeOf3
 v3:=Tryz.zeroValue3
 t4:=Tryz.underlying4
 a4:=Tryz.isAgg4
 z4:=Tryz.sizeOf4
 v4:=Tryz.zeroValue4
 t5:=Tryz.underlying5
 a5:=Tryz.isAgg5
 z5:=Tryz.sizeOf5
 v5:=Tryz.zeroValue5
 t9:=Tryz.underlying9
 a9:=Tryz.isAgg9
 z9:=Tryz.sizeOf9
 v9:=Tryz.zeroValue9
 t22:=Tryz.underlying28
 a22:=Tryz.isAgg28
 z22:=Tryz.sizeOf28
 v22:=Tryz.zeroValue28
 t25:=Tryz.underlying160
 a25:=Tryz.isAgg160
 z25:=Tryz.sizeOf160
 v25:=Tryz.zeroValue160
 t39:=Tryz.underlying124
 a39:=Tryz.isAgg124
 z39:=Tryz.sizeOf124
 v39:=Tryz.zeroValue124
 t45:=Tryz.underlying162
 a45:=Tryz.isAgg162
 z45:=Tryz.sizeOf162
 v45:=Tryz.zeroValue162
 t46:=Tryz.underlying163
 a46:=Tryz.isAgg163
 z46:=Tryz.sizeOf163
 v46:=Tryz.zeroValue163
 t50:=Tryz.underlying167
 a50:=Tryz.isAgg167
 z50:=Tryz.sizeOf167
 v50:=Tryz.zeroValue167
 t53:=Tryz.underlying170
 a53:=Tryz.isAgg170
 z53:=Tryz.sizeOf170
 v53:=Tryz.zeroValue170
 t55:=Tryz.underlying92
 a55:=Tryz.isAgg92
 z55:=Tryz.sizeOf92
 v55:=Tryz.zeroValue92
 t66:=Tryz.underlying197
 a66:=Tryz.isAgg197
 z66:=Tryz.sizeOf197
 v66:=Tryz.zeroValue197
 t70:=Tryz.underlying201
 a70:=Tryz.isAgg201
 z70:=Tryz.sizeOf201
 v70:=Tryz.zeroValue201
 t76:=Tryz.underlying226
 a76:=Tryz.isAgg226
 z76:=Tryz.sizeOf226
 v76:=Tryz.zeroValue226
 t77:=Tryz.underlying227
 a77:=Tryz.isAgg227
 z77:=Tryz.sizeOf227
 v77:=Tryz.zeroValue227}
def Tryz.cmpI64_ren:Go.Shelf.Ren:=⟨fun|5=>138|7=>144|n=>n,fun|22=>2|3=>3|4=>4|n=>n,fun|n=>n⟩
theorem Tryz.cmpI64:Go.Proofs.SlLaysC2.n5 Tryz.prog Tryz.cmpI64_ren:={
 mixed:=by kernel_rfl
 f5:=⟨Tryz.f138.name,by decide,Tryz.func138.trans (ZbJ some (by kernel_rfl))⟩
 f7:=⟨Tryz.f144.name,by decide,Tryz.func144.trans (ZbJ some (by kernel_rfl))⟩
 t3:=Tryz.underlying3
 a3:=Tryz.isAgg3
 z3:=Tryz.sizeOf3
 v3:=Tryz.zeroValue3
 t4:=Tryz.underlying4
 a4:=Tryz.isAgg4
 z4:=Tryz.sizeOf4
 v4:=Tryz.zeroValue4
 t22:=Tryz.underlying2
 a22:=Tryz.isAgg2
 z22:=Tryz.sizeOf2
 v22:=Tryz.zeroValue2}
end Go.Proofs
namespace Go.Proofs
open Go.Shelf Go.RowKit Go.Lib Go.Sort
theorem Tryz.cmp64(x y:Int)(W:World):Calls Tryz.prog 138 #[.int .i64 x,.int .i64 y] W fun e w'=>e= .returned (.int .i64 (Lib.compareInt x y))/\w'=W:=
 AnyG.cmp_Compare_int Tryz.cmpI64 x y W
theorem Tryz.orTwo(b:Nat)(x y:Int)(W:World)(h0:W.cell? ⟨b,0,none⟩=some (.int .i64 x))(h1:W.cell? ⟨b,1,none⟩=some (.int .i64 y)):
 Calls Tryz.prog 137 #[.slice (some ⟨b,0,none⟩) 2 2] W fun e w'=>e= .returned (.int .i64 (if x=0 then y else x))/\w'=W:=by
 go_enter Tryz.func137,Tryz.ntmps137
 go_wp2
 refine wp_loop_rounds 3 ?_;rw[rounds_succ]
 go_wp2
 all_goals (try rw[rounds_succ])
 all_goals (try go_wp2)
 all_goals (try rw[rounds_succ])
 all_goals (try go_wp2)
 all_goals (go_ret;refine⟨?_,rfl⟩;simp_all)
theorem two_cells(W:World)(a b a' b':Value)(T:TypeId):
 let w3:=((W.alloc (Obj.cells #[a,b] T)).alloc (Obj.cells #[a',b'] T)).drew
 w3.cell? ⟨W.heap.size,0,none⟩=some a/\w3.cell? ⟨W.heap.size,1,none⟩=some b/\w3.cell? ⟨W.heap.size+1,0,none⟩=some a'/\w3.cell? ⟨W.heap.size+1,1,none⟩=some b'/\
  ∃os0,w3=grow (W.drewN 1) os0:=by
 have e:((W.alloc (Obj.cells #[a,b] T)).alloc (Obj.cells #[a',b'] T)).drew=grow (W.drewN 1) #[Obj.cells #[a,b] T,Obj.cells #[a',b'] T]:=by
  rw[alloc_eq_grow,alloc_eq_grow,grow_grow];rfl
 have h0:(W.heap++ #[Obj.cells #[a,b] T,Obj.cells #[a',b'] T])[W.heap.size]? =some (Obj.cells #[a,b] T):=by
  rw[Zej (Zap _),Zcj];rfl
 have h1:(W.heap++ #[Obj.cells #[a,b] T,Obj.cells #[a',b'] T])[W.heap.size+1]? =some (Obj.cells #[a',b'] T):=by
  rw[Zej (Nat.le_succ _),show W.heap.size.succ - W.heap.size=1 by omega];rfl
 simp only[e];refine⟨?_,?_,?_,?_,_,rfl⟩<;>unfold World.cell? <;>simp only[grow,World.drewN,h0,h1]<;>rfl
theorem Qvb(w:World)(a b:Value)(T:TypeId):(w.alloc (Obj.cells #[a,b] T)).cell? ⟨w.heap.size,0,none⟩=some a/\(w.alloc (Obj.cells #[a,b] T)).cell? ⟨w.heap.size,1,none⟩=some b:=by
 have h0:(w.heap.push (Obj.cells #[a,b] T))[w.heap.size]? =some (Obj.cells #[a,b] T):=by simp
 constructor<;>unfold World.cell? <;>simp only[World.alloc,h0]<;>rfl
def Qabu(p q:Int×Int):Int:=if Lib.compareInt p.2 q.2=0 then Lib.compareInt p.1 q.1 else Lib.compareInt p.2 q.2
theorem Tryz.cmpPoints(x y x' y':Int)(W:World):Calls Tryz.prog 102 #[.agg #[.int .i64 x,.int .i64 y],.agg #[.int .i64 x',.int .i64 y']] W fun e w'=>
 e= .returned (.int .i64 (Qabu (x,y) (x',y')))/\ ∃q os',w'=grow (W.drewN q) os':=by
 have hc1:=fun W'=>Tryz.cmp64 y y' W'
 have hc2:=fun W'=>Tryz.cmp64 x x' W'
 unfold Qabu;simp only;generalize Lib.compareInt y y'=r1 at hc1⊢;generalize Lib.compareInt x x'=r2 at hc2⊢;have hor:=fun (b:Nat) W'=>Tryz.orTwo b r1 r2 W'
 generalize (if r1=0 then r2 else r1)=r at hor⊢
 go_enter Tryz.func102,Tryz.ntmps102
 go_wp2
 refine wp_region_still_tail 10 (by kernel_rfl) (by kernel_rfl) ?_;simp only[ZbI,Zbk,Zcb,Zci];obtain⟨d1,d2,d3,d4,hg⟩:=two_cells W (.int .i64 x) (.int .i64 y) (.int .i64 x') (.int .i64 y') 69;change wpStill _ _ ((W.alloc (Obj.cells #[Value.int IntKind.i64 x,Value.int IntKind.i64 y] 69)).alloc (Obj.cells #[Value.int IntKind.i64 x',Value.int IntKind.i64 y'] 69)).drew (fun a'=>wpList _ _ _ _ a' ((W.alloc (Obj.cells #[Value.int IntKind.i64 x,Value.int IntKind.i64 y] 69)).alloc (Obj.cells #[Value.int IntKind.i64 x',Value.int IntKind.i64 y'] 69)).drew) _ _;generalize ((W.alloc (Obj.cells #[Value.int IntKind.i64 x,Value.int IntKind.i64 y] 69)).alloc (Obj.cells #[Value.int IntKind.i64 x',Value.int IntKind.i64 y'] 69)).drew=w3 at d1 d2 d3 d4 hg⊢
 still_step
 still_step
 still_step
 still_step
 still_call (hc1 _)
 still_step
 still_step
 still_step
 still_step
 still_call (hc2 _)
 refine wpStill_nil ?_
 go_wp2_with (go_at_call 137;refine (hor _ _ (Qvb _ _ _ _).1 (Qvb _ _ _ _).2).mono ?_;rintro e w' ⟨rfl,rfl⟩)
 go_ret
 obtain⟨os0,rfl⟩:=hg;exact⟨rfl,1,_,by rw[alloc_eq_grow,grow_grow]⟩
theorem Tryz.cmpPlaced90(x y t x' y' t':Int)(W:World):Calls Tryz.prog 101 #[.agg #[.int .i64 x,.int .i64 y,.int .i64 t],.agg #[.int .i64 x',.int .i64 y',.int .i64 t']] W fun e w'=>
 e= .returned (.int .i64 (Qabu (x,y) (x',y')))/\ ∃q os',w'=grow (W.drewN q) os':=by
 have hcon:=fun W'=>Tryz.cmpPoints x y x' y' W'
 generalize Qabu (x,y) (x',y')=r at hcon⊢
 go_enter Tryz.func101,Tryz.ntmps101
 go_wp2_with (go_at_call 102;refine (hcon _).mono ?_;rintro e w' ⟨rfl,q,os',rfl⟩)
 go_ret
 exact⟨rfl,q,_,by rw[alloc_eq_grow,alloc_eq_grow,grow_grow];show grow (grow (W.drewN q) _) os'=_;rw[grow_grow]⟩
end Go.Proofs
namespace Go.Ae
open Go.Proofs Go.Sort Go.Shelf
instance:Inhabited Qab:=⟨⟨⟨0,0⟩,0⟩⟩
def encP(x:Qab):List Value:=[.int .i64 x.At.X,.int .i64 x.At.Y,.int .i64 x.Tile]
def cfP(x y:Qab):Int:=Qabu (x.At.X,x.At.Y) (y.At.X,y.At.Y)
theorem Qz0(x y:Qab):ltOf cfP x y=Qap x.At y.At:=by
 simp only[ltOf,cfP,Qabu,Lib.compareInt,Qap]
 grind
theorem swoP:SWO (ltOf cfP) where
 irrefl x:=by rw[Qz0];simp only[Qap];grind
 trans x y z h1 h2:=by rw[Qz0] at*;simp only[Qap] at*;grind
 ntrans x y z h1 h2:=by rw[Qz0] at*;simp only[Qap] at*;grind
def Qfh(l:List Qab):List Qab:=l.foldr (fun x r=>insT x.At x.Tile r) []
theorem Qn1(x:Qab): ∀(l:List Qab),(insT x.At x.Tile l).Perm (x::l)
 |[]=>ZdC _
 |y::r=>by
  simp only[insT];split
  .exact ZdC _
  .exact ((Qn1 x r).cons y).trans (List.Perm.swap x y r)
theorem Qd4: ∀(l:List Qab),(Qfh l).Perm l
 |[]=>ZdC _
 |x::r=>(Qn1 x (Qfh r)).trans ((Qd4 r).cons x)
theorem Quq{a b c:Qae}(h1:Qap a b=true)(h2:Qap c b=false):Qap c a=false:=by
 simp only[Qap] at*;grind
theorem Qx3(x:Qab): ∀(l:List Qab),l.Pairwise (fun a b=>Qap b.At a.At=false)->(insT x.At x.Tile l).Pairwise (fun a b=>Qap b.At a.At=false)
 |[],_=>by simp[insT]
 |y::r,h=>by
  rw[ZbH] at h;simp only[insT];split
  .rename_i hl;rw[ZbH,ZbH];refine⟨fun z hz=> ?_,h⟩;have hyx:Qap y.At x.At=false:=by simp only[Qap] at*;grind
   rcases Zaw.1 hz with rfl|hz
   .exact hyx
   .have:=h.1 z hz
    exact Quq hl this
  .rename_i hl;rw[ZbH];refine⟨fun z hz=> ?_,Qx3 x r h.2⟩;rcases (Qlc _ _ _ _).1 hz with rfl|hz
   .simpa using hl
   .exact h.1 z hz
theorem Qnm: ∀(l:List Qab),(Qfh l).Pairwise (fun a b=>Qap b.At a.At=false)
 |[]=>List.Pairwise.nil
 |x::r=>Qx3 x _ (Qnm r)
theorem Qacy(l:List Qab):(Qfh l).length=l.length:=(Qd4 l).length_eq
theorem at_inj{l:List Qab}(h:(l.map Qab.At).Nodup){x y:Qab}(hx:x∈l)(hy:y∈l)(he:x.At=y.At):x=y:=by
 induction l with
 |nil=>cases hx
 |cons z r ih=>
  rw[Zaq,Zcq] at h;rcases Zaw.1 hx with h1|h1<;>rcases Zaw.1 hy with h2|h2
  .rw[h1,h2]
  .exact absurd (show z.At∈r.map Qab.At by rw[<-h1,he];exact Zdn h2) h.1
  .exact absurd (show z.At∈r.map Qab.At by rw[<-h2,<-he];exact Zdn h1) h.1
  .exact ih h.2 h1 h2
theorem Qlp{l l':List Qab}(hd:(l.map Qab.At).Nodup)(hp:l'.Perm l)(hs:l'.Pairwise (fun a b=>Qap b.At a.At=false)):l'=Qfh l:=by
 refine ZdI (le:=fun a b=>Qap b.At a.At=false) (fun a b ha hb h1 h2=> ?_) hs (Qnm l) (hp.trans (Qd4 l).symm);refine at_inj hd (hp.mem_iff.1 ha) ((Qd4 l).mem_iff.1 hb) ?_;revert h1 h2;obtain⟨⟨ax,ay⟩,at'⟩:=a;obtain⟨⟨bx,by'⟩,bt⟩:=b;simp only[Qap,Qae.mk.injEq]
 grind
def flP(l:List Qab):List Value:=l.flatMap encP
theorem flP_len(l:List Qab):(flP l).length=l.length*3:=by
 induction l with
 |nil=>rfl
 |cons x r ih=>simp only[flP,ZbN,Zaz,ZaE] at ih⊢;rw[ih];simp[encP];omega
theorem Ql5{ok:Nat->Prop}{hp:Nat->Option Obj}: ∀(l:List Qab) (L:List Value),rdr ok hp 3 (l.map Qab.c) L↔ ∃r,L=flP l++r
 |[],L=>by simp[rdr,flP]
 |x::r,L=>by
  simp only[Zaq,rdr,Ql5 r,Qab.c,rdp,rd,flP,ZbN];constructor
  .rintro⟨_,⟨v,L1,rfl,rfl,v2,L2,rfl,rfl,v3,L3,rfl,rfl,_⟩,q,hq⟩;exact⟨q,by simp only[Zcb,Zci] at hq;rw[hq];rfl⟩
  .rintro⟨q,rfl⟩;exact⟨rfl,⟨_,_,rfl,rfl,_,_,rfl,rfl,_,_,rfl,rfl,trivial⟩,q,rfl⟩
theorem flP_get: ∀(l:List Qab) (t:Nat),t<l.length*3->(flP l)[t]? =some ((encP (l[t/3]?.getD default))[t % 3]!)
 |[],t,h=>by simp at h
 |x::r,t,h=>by
  by_cases ht:t<3
  .have:t=0\/t=1\/t=2:=by omega
   rcases this with rfl|rfl|rfl<;>simp[flP,encP]
  .obtain⟨u,rfl⟩: ∃u,t=u+3:=⟨t - 3,by omega⟩;have e1:(u+3)/3=u/3+1:=by omega
   have e2:(u+3) % 3=u % 3:=by omega
   have ih:=flP_get r u (by simp at h;omega);rw[e1,e2,Zba,<-ih];simp[flP,encP]
theorem Qvu(l:List Qab):(flatK encP 3 l.toArray).toList=flP l:=by
 apply ZbM;intro t;by_cases ht:t<l.length*3
 .rw[flP_get l t ht];have hs:t<(flatK encP 3 l.toArray).size:=by simp only[size_flatK,ZcI];exact ht
  have h1:=get_flatK encP 3 l.toArray t (by simpa using ht);rw[Zbe,Zbt hs,<-getElem!_pos (flatK encP 3 l.toArray) t hs,h1];congr 3;simp[getElem!_def];cases l[t/3]? <;>rfl
 .have a1:(flatK encP 3 l.toArray).toList.length<=t:=by rw[ZaW,size_flatK,ZcI];omega
  have a2:(flP l).length<=t:=by rw[flP_len];omega
  rw[ZaY a1,ZaY a2]
def srt.ca(_:List Qab):List AV:=[.own 0,.im (.fn 101 [] [])]
def srt.H0(a:List Qab):Qan:=[(0,(true,.arr 116 3 (a.map Qab.c)))]
def srt.H1(a:List Qab):Qan:=[(0,(true,.arr 116 3 ((Qfh a).map Qab.c)))]
def srt.row:Row:=orow srt.ca srt.H0 1 (fun a=>(a.map Qab.At).Nodup) (fun _=>true) (fun _=> .im (.tup [])) srt.H1 0
theorem srt.ok:Qas Tryz.prog 100 srt.row:=by
 rintro args h nx K ⟨a,τ,U,KL,hpre,rfl,hheap,hN,hK⟩;refine⟨Qh7 (by kernel_rfl),_,_,?_,hK⟩;intro C S vs R hW huse hfresh hnames hargs hfin;have hs0:sgx τ 1 nx 0=τ 0:=Zao (by omega);simp only[srt.ca,renL,AV.ren,hs0,Qa0,conc,rd,rdl] at hargs;obtain⟨v0,r0,hv,⟨hone,hown⟩,v1,r1,hr1,⟨ac,cc,hv1,hac,hcc⟩,hr2⟩:=hargs;have hac:ac= #[]:=by apply Zei;simpa using hac
 have hcc:cc= #[]:=by apply Zei;simpa using hcc
 subst hac hcc hr2 hr1 hv1;have hvs:vs= #[v0,.func (fnV 101) #[] #[]]:=by apply Zei;simpa using hv
 subst hvs;have hm:h (τ 0)=some (true,.arr 116 3 (a.map Qab.c)):=by
  have:=hheap.1
  rwa [hs0] at this
 have hd0:domB (srt.H0 a) 0=true:=rfl;have hSm:S.h (τ 0)=some (true,.arr 116 3 (a.map Qab.c)):=by
  rw[huse (τ 0) (Zbl _ (hN.u 0 hd0)),hm]
 have hk0: ∀n,n∈KL↔n=τ 0:=by
  intro n;constructor
  .intro hn;obtain⟨j,h1,_,h3⟩:=hN.k1 n hn
   have:j=0:=by
    simp only[domB,srt.H0,hget] at h1;by_cases hj:j=0
    .exact hj
    .have:(0==j)=false:=by simpa using fun h=>hj h.symm
     rw[this] at h1;cases h1
   rw[h3,this]
  .rintro rfl;exact hN.k2 0 hd0 rfl
 obtain⟨m,hmm⟩: ∃m,m=τ 0:=⟨_,rfl⟩;rw[<-hmm] at hSm hown hk0;have hsl:=Qacy a;have fin: ∀(w':World),Qjb S m (.arr 116 3 ((Qfh a).map Qab.c)) (S.ρ m) [m] w'->
  (Pres (fun n=>S.h m≠none\/n≠m) S (S.one m (.arr 116 3 ((Qfh a).map Qab.c)) (S.ρ m) [m] w')->objc (S.one m (.arr 116 3 ((Qfh a).map Qab.c)) (S.ρ m) [m] w') (S.ρ m) (.arr 116 3 ((Qfh a).map Qab.c)))->R (.returned (.tuple #[])) w':=by
  intro w' hone hob;have hp:=Qg2 hW hone;refine hfin (.tuple #[]) _ (Qqp hW hone (hob hp)) ?_ ⟨hp.ok,fun n _=>hp.nm n (.inl (by rw[hSm];simp))⟩ ⟨#[],rfl,rfl⟩;funext n;simp only[Env.one,Eff.appf,srt.H1,renH,hs0,hget,AObj.ren,<-hmm];by_cases hn:n=m
  .subst hn;simp
  .have h1:(m==n)=false:=by simpa using fun h=>hn h.symm
   have h2:KL.contains n=false:=by
    rw[<-ZcV,Zbq,hk0];exact hn
   simp only[h1,ZaS,h2,hn,Zby,Zal]
 have hown':=hown _ hSm;have hobj:=hW.obj _ _ hSm;have hloc:=fun lc=>hW.loc m _ lc hSm
 cases hρ:S.ρ m with
 |none=>
  rw[hρ] at hown' hobj;simp only[objc] at hobj;have ha:a=[]:=by simpa using hobj.2
  subst ha;simp only at hown';rw[hown',Qoi (by decide)];refine (AnyF.slices_SortFunc_none Tryz.sortPl none 0 (.func (.func 101) #[] #[]) S.w).mono ?_;rintro e w' ⟨rfl,rfl⟩;refine fin S.w (Qacz hSm (fun l hl=>by rw[hρ] at hl;cases hl) rfl rfl) (fun _=> ?_);rw[hρ];exact⟨ZaU _,rfl⟩
 |some lc=>
  rw[hρ] at hown' hobj;simp only[objc,AObj.len] at hobj hown';obtain⟨g1,g2,cv,g3,g4,g5⟩:=hobj;obtain⟨hlb,hlk⟩:=hloc lc hρ;rw[Ql5] at g5;obtain⟨rest,g5⟩:=g5;simp only[Zbr] at g1 g2 hown';have hheap:S.w.heap[lc.b]? =some (.cells cv 116 (0,0)):=g3;have hlen:lc.p+a.length*3<=cv.size:=by omega
  have hF:(flatK encP 3 a.toArray).size=a.length*3:=by simp
  have hget: ∀j,j<a.length*3->cv[lc.p+j]? =some ((flatK encP 3 a.toArray)[j]!):=by
   intro j hj;have h1:(cv.toList.drop lc.p)[j]? =(flP a++rest)[j]? :=by rw[g5]
   rw[Zbz,Zbe,Zav (by rw[flP_len];exact hj),<-Qvu,Zbe] at h1;rw[h1,Zbt (by rw[hF];exact hj),getElem!_pos _ _ (by rw[hF];exact hj)]
  have hH:HoldsK encP 3 S.w lc.b lc.p a.toArray:=by
   intro j hj;rw[hF] at hj;refine⟨?_,?_⟩
   .simp only[World.cell?,hheap,ZcT,ZaB,Zby,id];exact hget j hj
   .simp only[World.frozen?,hheap];simp
  have hc:=AnyQ.slices_SortFunc Tryz.sortPl 3 Tryz.isAgg116 Tryz.sizeOf116 encP (fun _=>rfl) (fun x v hv=>by simp[encP] at hv;rcases hv with rfl|rfl|rfl<;>rfl) cfP swoP 101 #[] lc.b lc.p lc.cap a.toArray S.w
   (Qhx (Qh7 (by kernel_rfl))) (fun m os dk hs x y=>Tryz.cmpPlaced90 _ _ _ _ _ _ _) hH hlb (by simp only[ZcI,LIM] at g1⊢;omega)
  rw[hown',Qoi (by decide)];refine hc.mono ?_;rintro e w' ⟨rfl,d',n,os,hperm,hsort,rfl⟩;have hsz:d'.size=a.length:=hperm.1;have hd':d'.toList=Qfh a:=by
   refine Qlp hpre ?_ ?_
   .have:=hperm.2.2
    rwa [show d'.extract 0 a.toArray.size=d' by rw[ZcI,<-hsz];exact Zew,show a.toArray.extract 0 a.toArray.size=a.toArray from Zew] at this
   .rw[ZcM];intro i j hi hj hij
    have:=hsort i j (ZaU _) hij (by rw[ZcI,<-hsz];simpa using hj)
    rw[Qz0,getElem!_pos d' i (by simpa using hi),getElem!_pos d' j (by simpa using hj)] at this;simpa using this
  obtain rfl:d'=(Qfh a).toArray:=by apply Zei;rw[hd']
  have hF':(flatK encP 3 (Qfh a).toArray).size=a.length*3:=by simp[hsl]
  have hl2:(flatK encP 3 (Qfh a).toArray).toList.length=a.length*3:=by rw[ZaW,hF']
  have hsize:S.w.heap.size<=(sortWorldK encP 3 S.w lc.b lc.p n (Qfh a).toArray os).heap.size:=by
   simp[sortWorldK,grow,putRowK,Sort.ahead]
  have hb: ∀b,b<S.w.heap.size->(sortWorldK encP 3 S.w lc.b lc.p n (Qfh a).toArray os).heap[b]? =if lc.b=b then S.w.heap[b]?.map (onCells (putCells id lc.p (flatK encP 3 (Qfh a).toArray))) else S.w.heap[b]? :=by
   intro b hb;have e0:b<(putRowK encP 3 (Sort.ahead S.w n) lc.b lc.p (Qfh a).toArray).heap.size:=by simpa[putRowK,Sort.ahead] using hb
   simp only[sortWorldK,grow];rw[Zdw e0];simp only[putRowK,putRow,mapBlock,Sort.ahead,ZdX]
  refine fin _ ⟨rfl,rfl,rfl,hsize,?_,.inl (by simp),?_,?_,?_⟩ ?_
  .intro b hb1 hb2;rw[hb b hb1,Zaj (hb2 m _ lc (by simp) hSm hρ)]
  .intro lo hlo;rw[hρ] at hlo;obtain rfl:=Zac hlo;exact⟨Zbn hlb hsize,.inr ⟨m,_,lc,by simp,hSm,hρ,rfl⟩⟩
  .intro f hf;rw[hSm] at hf;obtain rfl:=Zac hf;exact⟨rfl,rfl,by simp[AObj.len,hsl]⟩
  .intro n' f _ hnone;rw[hSm] at hnone;cases hnone
  .intro _;rw[hρ];simp only[objc,Zbr,hsl];refine⟨g1,g2,putCells id lc.p (flatK encP 3 (Qfh a).toArray) cv,?_,by simpa[putCells] using g4,?_⟩
   .simp only[Env.one,Env.hp];rw[hb lc.b hlb,Zao rfl,hheap];rfl
   .rw[Ql5];refine⟨(cv.toList.drop (lc.p+a.length*3)),?_⟩;apply ZbM;intro t;rw[Zbz,Zbe,putCells,ZeS,hF',<-Qvu];by_cases ht:t<a.length*3
    .rw[Zav (by rw[hl2];exact ht),Zbe,Zbt (show lc.p+t<cv.size by omega),Zbt (by rw[hF'];exact ht)];simp only[ZaO,id];rw[Zao ⟨by omega,by omega⟩,ZcX,getElem!_pos _ _ (by rw[hF'];exact ht)]
    .rw[ZaC (by rw[hl2];omega),hl2,Zbz,Zbe,show lc.p+a.length*3+(t - a.length*3)=lc.p+t by omega];cases cv[lc.p+t]? with
     |none=>rfl
     |some x=>simp only[ZaO];rw[Zaj (by omega)]
end Go.Ae
namespace Go.Ae
open Go.Proofs
def asmOf.fv(a:(List Qab)):Asm:=(fun l=>⟨Qfh l⟩) a
def asmOf.row:Row:=vK (b1 (qS Qab.d_le Qab.c_n)) (rA Asm.d_le) (fun a=>(a.map Qab.At).Nodup/\a.length<=1000000) asmOf.fv
def asmOf.q:=vKq (R:=asmOf.row) rfl
theorem asmOf.ok:Qas Tryz.prog 68 asmOf.row:=by
 refine vw (tC clonC.ok (tC srt.ok tN)) Tryz.func68 rfl (by kernel_rfl) ?_;intro a hpre;simp only[Tryz.f68,Option.getD];simp(maxSteps:=9^9)(disch:=omega)only[ZZ,simprocAttr,rch,asmOf.fv];refine orow.os a [] hpre.2 (fun j=>by simp[domB,hget]) rfl rfl ?_ ?_
 .simp(maxSteps:=9^9)(disch:=omega)only[ZZ,simprocAttr,rch,asmOf.fv,clonC.ca,Qer,Qb4]
 simp(maxSteps:=9^9)(disch:=omega)only[ZZ,simprocAttr,rch,asmOf.fv,clonC.H1,sub];refine orow.os a [1] hpre.1 (fun j=> ?_) rfl rfl ?_ ?_
 .simp only[domB,srt.H0,hget];by_cases hj:j=0
  .subst hj;simp
  .have:(0==j)=false:=by simpa using fun h=>hj h.symm
   rw[this];simp;omega
 .simp(maxSteps:=9^9)(disch:=omega)only[ZZ,simprocAttr,rch,asmOf.fv,srt.ca,srt.H0,Qer];exact⟨rfl,rfl⟩
 simp(maxSteps:=9^9)(disch:=omega)only[ZZ,simprocAttr,rch,asmOf.fv,srt.H1,sub,Zak,ZbE]
def mkPl(q:Qae×Int):Qab:=⟨q.1,q.2⟩
def repM1(m:Sim)(t:List (Qae×Int))(x:Qab):Option (List (Qae×Int)):=
 if (m.Labels[x.Tile.toNat]?.getD 0)<0 then some t
 else if (lkP t (Qgu x.At m.Scale).1).getD (m.Labels[x.Tile.toNat]?.getD 0)≠(m.Labels[x.Tile.toNat]?.getD 0) then none
 else some (updP t (Qgu x.At m.Scale).1 (m.Labels[x.Tile.toNat]?.getD 0))
theorem find_perm{l l':List Qab}(hp:l.Perm l')(hd:(l'.map Qab.At).Nodup)(p:Qae):l.find? (fun x=>decide (x.At=p))=l'.find? (fun x=>decide (x.At=p)):=by
 cases h1:l.find? (fun x=>decide (x.At=p)) with
 |none=>
  symm;rw[ZcR] at h1⊢;exact fun x hx=>h1 x (hp.mem_iff.2 hx)
 |some x=>
  have hx:=hp.mem_iff.1 (ZcL h1);have hxp:=ZcO h1;cases h2:l'.find? (fun x=>decide (x.At=p)) with
  |none=>
   rw[ZcR] at h2;exact absurd hxp (h2 x hx)
  |some y=>
   have hy:=ZcL h2;have hyp:=ZcO h2;rw[at_inj hd hx hy];rw[Zar] at hxp hyp;rw[hxp,hyp]
theorem lk_find(p:Qae): ∀(t:List (Qae×Int)),(((t.map mkPl).find? (fun x=>decide (x.At=p))).map Qab.Tile)=lkP t p
 |[]=>rfl
 |(k,w)::r=>by
  simp only[Zaq,Zem,mkPl,lkP];by_cases h:k=p
  .subst h;simp
  .have h1:decide (k=p)=false:=by simpa using h
   have h2: ¬p=k:=fun h3=>h h3.symm
   rw[h1,Zaj h2];exact lk_find p r
theorem Qac3(t:List (Qae×Int)):(t.map mkPl).map Qab.At=t.map Prod.fst:=by simp[mkPl]
theorem lk_at{t:List (Qae×Int)}(hd:(t.map Prod.fst).Nodup)(p:Qae):atA ⟨Qfh (t.map mkPl)⟩ p=(lkP t p).getD (-1):=by
 have hd':((t.map mkPl).map Qab.At).Nodup:=by rw[Qac3];exact hd
 simp only[atA];rw[find_perm (Qd4 _) hd',lk_find]
theorem Qm3{t:List (Qae×Int)}{p:Qae}(v:Int)(h:lkP t p=none):updP t p v=t++[(p,v)]:=by
 induction t with
 |nil=>rfl
 |cons q r ih=>
  obtain⟨k,w⟩:=q;simp only[lkP] at h;split at h
  .cases h
  .rename_i hn;simp only[updP,Zaj hn,ZaA];rw[ih h]
theorem updP_same{t:List (Qae×Int)}{p:Qae}{v:Int}(h:lkP t p=some v):updP t p v=t:=by
 induction t with
 |nil=>cases h
 |cons q r ih=>
  obtain⟨k,w⟩:=q;simp only[lkP] at h;simp only[updP];split at h
  .rename_i he;obtain rfl:=Zac h;rw[Zao he,he]
  .rename_i hn;rw[Zaj hn,ih h]
theorem Qyz{t:List (Qae×Int)}{p:Qae}(h:lkP t p=none):p∉t.map Prod.fst:=by
 induction t with
 |nil=>simp
 |cons q r ih=>
  obtain⟨k,w⟩:=q;simp only[lkP] at h;split at h
  .cases h
  .rename_i hn;simp only[Zaq,Zaw,not_or];exact⟨hn,ih h⟩
theorem Qac0{t:List (Qae×Int)}{p:Qae}{v:Int}(h:lkP t p=some v):(p,v)∈t:=by
 induction t with
 |nil=>cases h
 |cons q r ih=>
  obtain⟨k,w⟩:=q;simp only[lkP] at h;split at h
  .rename_i he;obtain rfl:=Zac h;rw[he];exact Zat ..
  .exact Zas _ (ih h)
structure RM(t:List (Qae×Int))(o:Asm)(k:Nat):Prop where
 nd:(t.map Prod.fst).Nodup
 pos: ∀q∈t,0<=q.2
 eq:o=⟨Qfh (t.map mkPl)⟩
 len:t.length<=k
theorem RM.step{m:Sim}{t:List (Qae×Int)}{o:Asm}{k:Nat}(h:RM t o k)(x:Qab):(∃t' o',repM1 m t x=some t'/\repS1 m o x=some o'/\RM t' o' (k+1))\/(repM1 m t x=none/\repS1 m o x=none):=by
 obtain⟨nd,pos,rfl,len⟩:=h;simp only[repM1,repS1];generalize m.Labels[x.Tile.toNat]?.getD 0=n;generalize (Qgu x.At m.Scale).1=p;by_cases c1:n<0
 .rw[Zao c1,Zao c1];exact .inl ⟨_,_,rfl,rfl,nd,pos,rfl,by omega⟩
 rw[Zaj c1,Zaj c1,lk_at nd];cases hq:lkP t p with
 |none=>
  simp only[Option.getD_none];rw[Zaj (by simp),Zaj (by omega),Zao (by omega)];refine .inl ⟨_,_,rfl,rfl,?_,?_,?_,?_⟩
  .rw[Qm3 n hq,ZaT,ZbV];refine⟨nd,by simp,?_⟩;intro a ha b hb hab;simp only[Zaq,ZaG,Zal] at hb;exact Qyz hq (by rw[<-hb,<-hab];exact ha)
  .intro q hm;rw[Qm3 n hq] at hm;rcases Zan.1 hm with hm|hm
   .exact pos q hm
   .simp only[Zal] at hm;subst hm;simp only;omega
  .rw[Qi8,Qm3 n hq];congr 1;have hd':(((t++[(p,n)]).map mkPl).map Qab.At).Nodup:=by
    rw[Qac3,ZaT,ZbV];refine⟨nd,by simp,?_⟩;intro a ha b hb hab;simp only[Zaq,ZaG,Zal] at hb;exact Qyz hq (by rw[<-hb,<-hab];exact ha)
   refine Qlp hd' ?_ (Qx3 ⟨p,n⟩ _ (Qnm _));refine (Qn1 ⟨p,n⟩ _).trans ?_;rw[ZaT];refine ((Qd4 _).cons _).trans ?_;exact (Zeu _ _).symm
  .rw[Qm3 n hq];simp;omega
 |some v=>
  simp only[Zag];have hv:=pos _ (Qac0 hq);simp only at hv;by_cases c2:v=n
  .subst c2;rw[Zaj (by simp),Zaj (by simp),Zaj (by omega),updP_same hq];exact .inl ⟨_,_,rfl,rfl,nd,pos,rfl,by omega⟩
  .rw[Zao c2,Zao ⟨hv,c2⟩];exact .inr ⟨rfl,rfl⟩
theorem nodup_at{l:List Qab}(h:(l.map Qab.At).Nodup): ∀x∈l,∀y∈l,x.At=y.At->x=y:=by
 induction l with
 |nil=>intro x hx;cases hx
 |cons z r ih=>
  simp only[Zaq,Zcq] at h;intro x hx y hy e;rcases Zaw.1 hx with ex|hx2<;>rcases Zaw.1 hy with ey|hy2
  .rw[ex,ey]
  .exact absurd (ZaJ.2 ⟨y,hy2,by rw[<-e,ex]⟩) h.1
  .exact absurd (ZaJ.2 ⟨x,hx2,by rw[e,ey]⟩) h.1
  .exact ih h.2 x hx2 y hy2 e
theorem Qala{s:Qaa}{a:Asm}(h: ∀x∈a.Tiles,Qcs s x.Tile)(p:Qae):Qaw (fun x=>decide (x.At=p)) 0 a.Tiles<0↔atA a p<0:=by
 simp only[atA];rcases Qep (fun x=>decide (x.At=p)) a.Tiles 0 with ⟨h1,h2⟩|⟨i,x,h1,h2,h3⟩
 .rw[h1,h2];simp
 .rw[h1,h2]
  have:=(h x (Zaf h3)).1
  simp only[ZaO,Zag];omega
theorem RM.put{t:List (Qae×Int)}{o:Asm}{k:Nat}(h:RM t o k){p:Qae}{v:Int}(hv:0<=v)(hn:lkP t p=none):RM (updP t p v) (putA o p v) (k+1):=by
 obtain⟨nd,pos,rfl,len⟩:=h;have hnd:((t++[(p,v)]).map Prod.fst).Nodup:=by
  rw[ZaT,ZbV];refine⟨nd,by simp,?_⟩;intro a ha b hb hab;simp only[Zaq,ZaG,Zal] at hb;exact Qyz hn (by rw[<-hb,<-hab];exact ha)
 rw[Qm3 v hn];refine⟨hnd,?_,?_,by simp;omega⟩
 .intro q hm;rcases Zan.1 hm with hm|hm
  .exact pos q hm
  .simp only[Zal] at hm;subst hm;exact hv
 .rw[Qi8];congr 1;have hd':(((t++[(p,v)]).map mkPl).map Qab.At).Nodup:=by rw[Qac3];exact hnd
  refine Qlp hd' ?_ (Qx3 ⟨p,v⟩ _ (Qnm _));refine (Qn1 ⟨p,v⟩ _).trans ?_;rw[ZaT];refine ((Qd4 _).cons _).trans ?_;exact (Zeu _ _).symm
theorem RM.at{t:List (Qae×Int)}{o:Asm}{k:Nat}(h:RM t o k):Qbw t=atA o:=by
 funext p;rw[h.eq,lk_at h.nd];rfl
theorem RM.size{t:List (Qae×Int)}{o:Asm}{k:Nat}(h:RM t o k):o.Tiles.length=t.length:=by
 rw[h.eq];simp only[Qacy,Zbr]
theorem Qac4: ∀(l t:List Qab),((t++l).map Qab.At).Nodup->l.foldl (fun u x=>updP u x.At x.Tile) (t.map fun x=>(x.At,x.Tile))=(t++l).map fun x=>(x.At,x.Tile)
 |[],t,_=>by simp
 |x::r,t,h=>by
  have hx:lkP (t.map fun x=>(x.At,x.Tile)) x.At=none:=by
   cases hq:lkP (t.map fun x=>(x.At,x.Tile)) x.At with
   |none=>rfl
   |some v=>
    exfalso;obtain⟨y,hy,he⟩:=ZaJ.1 (Qac0 hq);have e1:y.At=x.At:=ZbJ Prod.fst he;rw[ZaT,ZbV] at h;exact h.2.2 _ (Zdn hy) _ (Zdn (Zat ..)) e1
  rw[Zco,Qm3 _ hx]
  have:=Qac4 r (t++[x]) (by simpa using h)
  simpa using this
theorem RM.of{a:Asm}(hf:Qaz none a.Tiles=true)(hp: ∀x∈a.Tiles,0<=x.Tile):RM (tlUp a.Tiles) a a.Tiles.length:=by
 have hn:=Qix hf;have e:tlUp a.Tiles=a.Tiles.map fun x=>(x.At,x.Tile):=by
  have:=Qac4 a.Tiles [] (by simpa using hn)
  simpa[tlUp] using this
 have em:(a.Tiles.map fun x=>(x.At,x.Tile)).map mkPl=a.Tiles:=by
  rw[Zdq];exact List.map_id' _
 rw[e];refine⟨by rw[Zdq];exact hn,?_,?_,by simp⟩
 .intro q hq;obtain⟨x,hx,rfl⟩:=ZaJ.1 hq;exact hp x hx
 .rw[em];have hs:=(Qe4 _ _ hf).2;have hw:a.Tiles.Pairwise (fun x y=>Qap y.At x.At=false):=by
   rw[ZcM];intro i j hi hj hij
   have:=hs i j a.Tiles[i] a.Tiles[j] hij (Zad hi) (Zad hj)
   simp only[Qap] at this⊢
   grind
  rw[<-Qlp hn (ZdC _) hw]
theorem fit_at{s:Qar}{a:Asm}(h:Qn7 s.Set a)(o:Opt):(Qau o.Tile 0 (s.Set.Tiles.length - 1) && Qpg s (atA a) o.At o.Tile)=canS s a o:=by
 have h2:decide (atA a o.At<0)=decide (Qaw (fun x=>decide (x.At=o.At)) 0 a.Tiles<0):=by rw[Zec];exact (Qala h.2 o.At).symm
 simp only[Qpg,canS,Qae8];rw[h2];cases Qbi o.At<;>cases Qau o.Tile 0 (s.Set.Tiles.length - 1)<;>simp
def Qacn(s:Qar):List (Qae×Int)->List Opt->Nat->Asm×Int×Int
 |t,[],_=>(⟨Qfh (t.map mkPl)⟩,0,0)
 |t,o::r,i=>if (Qau o.Tile 0 (s.Set.Tiles.length - 1) && Qpg s (Qbw t) o.At o.Tile)=false then (⟨[]⟩,(i:Int),5) else if 500<=t.length then (⟨[]⟩,0,4) else Qacn s (updP t o.At o.Tile) r (i+1)
def Qacg(s:Qar):Asm->List Opt->Nat->Asm×Int×Int
 |a,[],_=>(a,0,0)
 |a,o::r,i=>if canS s a o=false then (⟨[]⟩,(i:Int),5) else if 500<=a.Tiles.length then (⟨[]⟩,0,4) else Qacg s (putA a o.At o.Tile) r (i+1)
theorem Qac5{s:Qar}(hs:s.Set.Tiles.length<=160): ∀(l:List Opt) (t:List (Qae×Int)) (a:Asm) (k i:Nat),RM t a k->Qn7 s.Set a->Qacn s t l i=Qacg s a l i
 |[],t,a,k,i,h,_=>by simp only[Qacn,Qacg,h.eq]
 |o::r,t,a,k,i,h,ha=>by
  simp only[Qacn,Qacg];rw[h.at,fit_at ha,<-h.size];by_cases c1:canS s a o=false
  .rw[Zao c1,Zao c1]
  rw[Zaj c1,Zaj c1];by_cases c2:500<=a.Tiles.length
  .rw[Zao c2,Zao c2]
  rw[Zaj c2,Zaj c2];rw[ZaZ] at c1;simp only[canS,Zah,Zar] at c1;obtain⟨d1,d2,d3,_⟩:=c1;have hno:=Qma d3;have hv:0<=o.Tile:=by
   simp only[Qau,Zah,Zar] at d2;exact d2.1
  have hlk:lkP t o.At=none:=by
   have h1:Qbw t o.At=atA a o.At:=congrFun h.at o.At;have h2:=(Qala ha.2 o.At).1 d3;cases hq:lkP t o.At with
   |none=>rfl
   |some v=>
    exfalso;have h3:=h.pos _ (Qac0 hq);simp only[Qbw,hq,Zag] at h1;simp only at h3;omega
  have hw:Qau o.Tile 0 159=true:=by
   simp only[Qau,Zah,Zar] at d2⊢;omega
  refine Qac5 hs r _ _ (k+1) (i+1) (h.put hv hlk) ⟨?_,?_⟩
  .rw[Qi8];exact Qki d1 hw _ none ha.1 (fun q hq=>by cases hq) hno
  .intro x hx;rw[Qi8] at hx;rcases (Qlc _ _ _ _).1 hx with rfl|hx
   .simp only[Qau,Zah,Zar] at d2;exact⟨hv,by simp only;omega⟩
   .exact ha.2 x hx
def l03Own.fv(a:Asm):Asm:=(fun a=>a) a
def l03Own.row:Row:=vK (b1 (qP 1 Asm.d_le)) (rA Asm.d_le) (fun a=>a.Tiles.length<=1000000) l03Own.fv
def l03Own.q:=vKq (R:=l03Own.row) rfl
theorem l03Own.ok:Qas Tryz.prog 51 l03Own.row:=by
 refine vw tN Tryz.func51 rfl (by kernel_rfl) ?_;intro a hpre;simp only[Tryz.f51,Option.getD];simp(maxSteps:=9^9)(disch:=omega)only[ZZ,simprocAttr,rch,l03Own.fv];exact⟨by simp[OneR,allD,D.one,Qab.c],by omega⟩
theorem Qac8{s:Qar}{l:List Opt}{i:Nat}{o:Opt}(hx:l[i]? =some o)(b:Asm):Qacg s b (l.drop i) i=if canS s b o=false then (⟨[]⟩,(i:Int),5) else if 500<=b.Tiles.length then (⟨[]⟩,0,4) else Qacg s (putA b o.At o.Tile) (l.drop (i+1)) (i+1):=by
 rw[Qd3 hx,Qacg]
theorem Qaog{s:Qar}{b:Asm}(hs:s.Set.Tiles.length<=160)(ha:Qn7 s.Set b){o:Opt}(h:canS s b o=true):Qn7 s.Set (putA b o.At o.Tile):=by
 simp only[canS,Zah,Zar] at h;obtain⟨d1,d2,d3,_⟩:=h;have hno:=Qma d3;have hw:Qau o.Tile 0 159=true:=by
  simp only[Qau,Zah,Zar] at d2⊢;omega
 refine⟨?_,?_⟩
 .rw[Qi8];exact Qki d1 hw _ none ha.1 (fun q hq=>by cases hq) hno
 .intro x hx;rw[Qi8] at hx;rcases (Qlc _ _ _ _).1 hx with rfl|hx
  .simp only[Qau,Zah,Zar] at d2;exact⟨by simp only;omega,by simp only;omega⟩
  .exact ha.2 x hx
def l08Play.fv(a:Qar×(List Opt)):Asm×Int×Int:=(fun s l=>Qacg s s.Seed l 0) (a.1) (a.2)
def l08Play.row:Row:=vK (b2 (qP 4 Qar.d_le) (qS Opt.d_le Opt.c_n)) (r3 (rA Asm.d_le) rI rI) (fun a=>setP a.1.Set/\Qn7 a.1.Set a.1.Seed/\a.1.Set.Tiles.length<=160/\a.1.Seed.Tiles.length<=1000000) l08Play.fv
def l08Play.q:=vKq (R:=l08Play.row) rfl
def YaA:=J @l08Play.fv.eq_1<|J @l03Own.q<|J @l03Own.fv.eq_1<|J @l08Can.q<|J @l08Can.fv.eq_1<|J @l08Attach.q @l08Attach.fv.eq_1
theorem l08Play.ok:Qas Tryz.prog 92 l08Play.row:=by
 refine vw (tC l03Own.ok (tC l08Can.ok (tC l08Attach.ok tN))) Tryz.func92 rfl (by kernel_rfl) ?_;intro a hpre;simp only[Tryz.f92,Option.getD];simp(maxSteps:=9^9)(disch:=omega)only[ZZ,simprocAttr,rch,YaA];obtain⟨s,l⟩:=a;simp only at hpre⊢;obtain⟨h1,h2,h3,h4⟩:=hpre;refine⟨h4,?_⟩;refine Qay.old ⟨{k:Nat×Asm//k.1<=l.length/\Qn7 s.Set k.2/\Qacg s s.Seed l 0=Qacg s k.2 (l.drop k.1) k.1},fun k=>⟨[(8,.im (.int .i64 k.1.1)),(7,.ptr 2 0),(6,.im (.int .i64 0)),(5,.im (.int .i64 0)),(4,.ptr 1 0),(0,.ptr 0 0),(1,.im (.sl false 3 (l.map Opt.c)))],[(2,(true,.cells 30 [.im (.sl false 3 (k.1.2.Tiles.map Qab.c))])),(1,(true,.cells 30 [.im (.sl true 0 [])])),(0,(false,.view (Qar.c s)))],3⟩,fun k=>l.length - k.1.1,fun k=>⟨by simp[Qad.good,belT,belH,Qam,AV.bel,belL],Zap _⟩,⟨⟨(0,s.Seed),by simp[h2]⟩,by simp(maxSteps:=9^9)(disch:=omega)only[ZZ,simprocAttr,rch,YaA,sub]⟩,fun k=> ?_⟩;obtain⟨⟨k,b⟩,hk1,hk2,hk3⟩:=k;simp only at hk1 hk2 hk3;simp(maxSteps:=9^9)(disch:=omega)only[ZZ,simprocAttr,rch,YaA,sub,Qal];intro hn;refine⟨fun hk=>⟨hk,fun x hx=>⟨⟨h1,hk2⟩,?_⟩⟩,fun hk=> ?_⟩
 .rw[Qac8 hx] at hk3;have e:(Qbi x.At && (Qau x.Tile 0 ((s.Set.Tiles.length:Int) - 1) && (decide (Qaw (fun y=>decide (y.At=x.At)) 0 b.Tiles<0) && decide (s.Temperature<=Qjm s.Set b x.At x.Tile 4))))=canS s b x:=rfl;simp only[e];refine⟨fun c1=> ?_,fun c1=>⟨hk,fun y hy=> ?_⟩⟩
  .rw[hk3,Zao c1]
  obtain rfl:x=y:=Zac (hx.symm.trans hy);rw[Zaj c1] at hk3;by_cases c2:500<=b.Tiles.length
  .have q:attA b x=(⟨[]⟩,4):=Zao c2;rw[q,hk3,Zao c2];exact⟨fun _=>rfl,fun h=>(h (by decide)).elim⟩
  .have q:attA b x=(putA b x.At x.Tile,0):=Zaj c2;rw[q];rw[Zaj c2] at hk3;rw[ZaZ] at c1;exact⟨fun h=>(h rfl).elim,fun _=>⟨⟨(k+1,putA b x.At x.Tile),by simp only;omega,Qaog h3 hk2 c1,hk3⟩,by simp only;omega,by rw[Qak (by omega) (by omega)];simp only;omega,rfl⟩⟩
 .rw[hk3,Zax (by omega),Qacg]
def seqS(s:Qar)(l:List Opt):Asm×Int×Int:=if Qjc s=false then (⟨[]⟩,0,1) else if 500<l.length then (⟨[]⟩,0,2) else Qacg s s.Seed l 0
theorem Qacj{s:Qar}(h:Qjc s=true):(setP s.Set/\Qn7 s.Set s.Seed/\s.Set.Tiles.length<=160/\s.Seed.Tiles.length<=1000000)/\Qcl s.Set=true/\Qcp s.Set s.Seed=true:=by
 simp only[Qjc,Zah] at h;obtain⟨h1,h2,_⟩:=h;have h3:=Qdg h2;have h4:=Qge h1;have h5:=h1;simp only[Qcl,Qau,Zah,Zar] at h5;exact⟨⟨h4,h3.1,by omega,by omega⟩,h1,h2⟩
def PlayS_.fv(a:Qar×(List Opt)):Asm×Int×Int:=(seqS) (a.1) (a.2)
def PlayS_.row:Row:=vK (b2 (qR Qar.d_le) (qS Opt.d_le Opt.c_n)) (r3 (rA Asm.d_le) rI rI) (fun a=>True) PlayS_.fv
def PlayS_.q:=vKq (R:=PlayS_.row) rfl
theorem PlayS_.ok:Qas Tryz.prog 60 PlayS_.row:=by
 refine vw (tC l08Ok.ok (tC l08Play.ok tN)) Tryz.func60 rfl (by kernel_rfl) ?_;intro a hpre;simp only[Tryz.f60,Option.getD];simp(maxSteps:=9^9)(disch:=omega)only[ZZ,simprocAttr,rch,PlayS_.fv,l08Ok.q,l08Ok.fv,l08Play.q,l08Play.fv];by_cases c1:Qjc a.1=false
 .rw[Zao c1];simp only[seqS];rw[Zao c1]
 rw[Zaj c1];intro _;by_cases c2:500<a.2.length
 .rw[Zao (by omega)];simp only[seqS];rw[Zaj c1,Zao c2]
 rw[Zaj (by omega)];rw[ZaZ] at c1;refine⟨(Qacj c1).1,?_⟩;simp only[seqS];rw[Zaj (by rw[c1];decide),Zaj c2]
def l10Asked.fv(a:Qar×(List Opt)):Int:=(fun s l=>(seqS s l).2.2) (a.1) (a.2)
def l10Asked.row:Row:=vK (b2 (qP 4 Qar.d_le) (qS Opt.d_le Opt.c_n)) rI (fun a=>True) l10Asked.fv
def l10Asked.q:=vKq (R:=l10Asked.row) rfl
theorem l10Asked.ok:Qas Tryz.prog 26 l10Asked.row:=by
 refine vw (tC PlayS_.ok tN) Tryz.func26 rfl (by kernel_rfl) ?_;intro a hpre;simp only[Tryz.f26,Option.getD];simp(maxSteps:=9^9)(disch:=omega)only[ZZ,simprocAttr,rch,l10Asked.fv,PlayS_.q,PlayS_.fv]
def Qach(l:List Opt)(o:List Int):List Opt:=o.map fun k=>(l[k.toNat]?).getD ⟨⟨0,0⟩,0⟩
theorem seq_ok{s:Qar}{l:List Opt}(h:(seqS s l).2.2=0):Qjc s=true/\l.length<=500:=by
 simp only[seqS] at h;split at h
 .simp at h
 rename_i c1;split at h
 .simp at h
 .rw[ZaZ] at c1;exact⟨c1,by omega⟩
theorem Qwf{A B:Type}(f:A->B): ∀(l:List A) (i:Nat),(l.map f).eraseIdx i=(l.eraseIdx i).map f
 |[],_=>rfl
 |_::_,0=>rfl
 |x::r,i+1=>by simp only[Zaq,Zdm,Qwf f r i]
theorem Qqq{A:Type}: ∀(l:List A) (i:Nat) (x:A),l[i]? =some x->(x::l.eraseIdx i).Perm l
 |[],i,x,h=>by simp at h
 |y::r,0,x,h=>by
  simp only[ZaV,Zae] at h;subst h;exact ZdC _
 |y::r,i+1,x,h=>by
  rw[Zba] at h;rw[Zdm];exact (List.Perm.swap y x _).trans ((Qqq r i x h).cons y)
def putT(c:Cry)(p:Qae)(t:Int):Cry:=⟨c.Sys,updP c.Tl p t,Qrz c.Sys (Qbw (updP c.Tl p t)) (delP c.Op p) p 4⟩
theorem putT_in{s:Qaa}{t:List (Qae×Int)}{p:Qae}{v:Int}(h:inF s (Qbw t))(hv:Qcs s v):inF s (Qbw (updP t p v)):=by
 intro q hq;simp only[Qbw,Qyq] at hq⊢;by_cases c:q=p
 .rw[Zao c];exact hv
 .rw[Zaj c] at hq⊢;exact h q hq
def putC.ca(a:Cry×Qae×Int):List AV:=[.ptr 0 0,.im (.agg [.int .i64 a.2.1.X,.int .i64 a.2.1.Y]),.im (.int .i64 a.2.2)]
def putC.H1(a:Cry×Qae×Int):Qan:=[(1,(true,.map ⟨true,[.int .i64,.int .i64]⟩ ((putT a.1 a.2.1 a.2.2).Tl.map Qbe))),(2,(true,.map ⟨true,[.int .i64,.int .i64]⟩ ((putT a.1 a.2.1 a.2.2).Op.map Qbc)))]
def kl12(j:Nat):Bool:=j==1||j==2
def putC.row:Row:=orow putC.ca (fun a=>cryH a.1) 3 (fun a=>Qacu a.1/\Qdy a.2.1/\Qcs a.1.Sys.Set a.2.2) kl12 (fun _=> .im (.tup [])) putC.H1 0
theorem putC.ok:Qas Tryz.prog 33 putC.row:=by
 refine ow (tC lookC.ok tN) Tryz.func33 rfl (by kernel_rfl) (exB:=fun _=>false) (R:=fun _ r=>r= .im (.tup [])) (fun _=>rfl)
  (fun a=>by simp[putC.ca,cryH,Qbk,putC.H1,kl12,belL,AV.bel,belH,Qam,Qc2,AObj.nms,nmsL,AV.nms,domB,hget]) (fun a p hp=> ?_) (fun a r h=>by subst h;exact LeV.refl _) ?_
 rotate_left
 intro a hpre;simp only[Tryz.f33,Option.getD,putC.ca,cryH,Qbk,putC.H1,kl12];simp(maxSteps:=9^9)(disch:=omega)only[ZZ,simprocAttr,rch,ORB,putC.ca,cryH,Qbk,putC.H1,kl12];obtain⟨hp1,hp2,hp3⟩:=hpre;rw[upd_pi,del_ps];have hq:Qacu ⟨a.1.Sys,updP a.1.Tl a.2.1 a.2.2,delP a.1.Op a.2.1⟩:=⟨hp1.1,putT_in hp1.2.1 hp3,hp1.2.2⟩;refine orow.os (⟨a.1.Sys,updP a.1.Tl a.2.1 a.2.2,delP a.1.Op a.2.1⟩,a.2.1) [0,1,2] ⟨hq,hp2⟩ (fun j=>Qack _ j) rfl rfl ?_ ?_
 .simp(maxSteps:=9^9)(disch:=omega)only[ZZ,simprocAttr,rch,ORB,putC.ca,cryH,Qbk,putC.H1,kl12,lookC.ca,cryH,Qbk,ZaQ]
 .simp(maxSteps:=9^9)(disch:=omega)only[ZZ,simprocAttr,rch,ORB,putC.ca,cryH,Qbk,putC.H1,kl12,lookC.H1,kl2,sub,putT]
 simp[putC.H1] at hp;rcases hp with rfl|rfl
 .exact .inl ⟨by omega,rfl,rfl⟩
 .exact .inl ⟨by omega,rfl,rfl⟩
def asmC.ca(_:Cry):List AV:=[.ptr 0 0]
def asmC.H1(a:Cry):Qan:=[(1,(false,.map ⟨true,[.int .i64,.int .i64]⟩ (a.Tl.map Qbe)))]
def klA(j:Nat):Bool:=j==1
theorem asmT_perm{t:List (Qae×Int)}{l:List Qab}(hd:(t.map Prod.fst).Nodup)(h:l.Perm (t.map mkPl)):Qfh l=Qfh (t.map mkPl)/\(l.map Qab.At).Nodup/\l.length=t.length:=by
 have hd':((t.map mkPl).map Qab.At).Nodup:=by rw[Qac3];exact hd
 refine⟨Qlp hd' ((Qd4 l).trans h) (Qnm l),(h.map Qab.At).nodup_iff.2 hd',by rw[h.length_eq,Zbr]⟩
def asmT(t:List (Qae×Int)):Asm:=⟨Qfh (t.map mkPl)⟩
def asmC.row:Row:=orow asmC.ca cryH 3 (fun a=>(a.Tl.map Prod.fst).Nodup/\a.Tl.length<=100000) klA (fun a=> .im (.agg (Asm.c (asmT a.Tl)))) asmC.H1 0
def YaB:=J @asmOf.q @asmOf.fv.eq_1
theorem asmC.ok:Qas Tryz.prog 34 asmC.row:=by
 refine ow (tC asmOf.ok tN) Tryz.func34 rfl (by kernel_rfl) (exB:=fun _=>false) (R:=fun a r=>r= .im (.agg (Asm.c (asmT a.Tl)))) (fun _=>rfl)
  (fun a=>by simp[asmC.ca,cryH,Qbk,asmC.H1,klA,belL,AV.bel,belH,Qam,Qc2,AObj.nms,nmsL,AV.nms,domB,hget]) (fun a p hp=> ?_) (fun a r h=>by subst h;exact LeV.refl _) ?_
 rotate_left
 intro a hpre;simp only[Tryz.f34,Option.getD,asmC.ca,cryH,Qbk,asmC.H1,klA];simp(maxSteps:=9^9)(disch:=omega)only[ZZ,simprocAttr,rch,YaB,ORB,asmC.ca,cryH,Qbk,asmC.H1,klA];obtain⟨hp1,hp2⟩:=hpre;refine Qay.ren ⟨{s:Option (D×D)×List (Qae×Int)×List Qab//(s.2.2++s.2.1.map mkPl).Perm (a.Tl.map mkPl)},fun s=>⟨[(10,.it 5),(3,.own 6),(2,.ptr 3 0),(0,.ptr 0 0)],[(6,(true,.arr 116 3 (s.1.2.2.map Qab.c))),(5,(true,.iter s.1.1 (s.1.2.1.map Qbe))),(3,(true,.cells 30 [.im (.sl true 0 [])])),(0,(true,.cells 82 (Qbk a.Sys))),(1,(false,.map ⟨true,[.int .i64,.int .i64]⟩ (a.Tl.map Qbe))),(2,(true,.map ⟨true,[.int .i64,.int .i64]⟩ (a.Op.map Qbc)))],7⟩,fun s=>s.1.2.1.length,fun s=>⟨by simp[Qad.good,belT,belH,Qam,AV.bel,belL,Qbk],by simp⟩,⟨⟨(none,a.Tl,[]),by simp⟩,[(6,some 4)],?_⟩,fun s=> ?_⟩
 .simp only[subP,Qbk];simp(maxSteps:=9^9)(disch:=omega)only[ZZ,simprocAttr,rch,YaB,ORB,asmC.ca,cryH,Qbk,asmC.H1,klA,ZaG]
  try simp
 obtain⟨⟨last,left,col⟩,hs⟩:=s;simp only at hs;simp only[Qbk];simp(maxSteps:=9^9)(disch:=omega)only[ZZ,simprocAttr,rch,YaB,ORB,asmC.ca,cryH,Qbk,asmC.H1,klA,sub,Qal];refine⟨fun hl=> ?_,fun i p hp=> ?_⟩
 .have hl':left=[]:=by simpa using hl
  subst hl';rw[ZaG,ZaK] at hs;obtain⟨r1,r2,r3⟩:=asmT_perm hp1 hs;exact⟨⟨r2,by omega⟩,by simp only[asmT,r1]⟩
 .rw[ZaN] at hp;cases hq:left[i]? with
  |none=>rw[hq] at hp;cases hp
  |some q=>
   rw[hq] at hp;obtain rfl:=Zac hp;obtain⟨⟨qx,qy⟩,qn⟩:=q;simp only[Qbe,Qae.c];simp(maxSteps:=9^9)(disch:=omega)only[ZZ,simprocAttr,rch,YaB,ORB,asmC.ca,cryH,Qbk,asmC.H1,klA,sub,Qal];have hi:i<left.length:=by
    rcases Zbp i left.length with h|h
    .exact h
    .rw[ZaY h] at hq;cases hq
   have hpm:((⟨qx,qy⟩,qn)::left.eraseIdx i).Perm left:=Qqq _ _ _ hq;have hP:((col++[(⟨⟨qx,qy⟩,qn⟩:Qab)])++(left.eraseIdx i).map mkPl).Perm (a.Tl.map mkPl):=by
    rw[ZbA];refine (List.Perm.append_left col ?_).trans hs;exact hpm.map mkPl
   have hcl:col.length<=a.Tl.length:=by
    have r3:=hs.length_eq;simp at r3;omega
   refine⟨by omega,⟨⟨(some (D.agg [.int .i64 qx,.int .i64 qy],D.int .i64 qn),left.eraseIdx i,col++[(⟨⟨qx,qy⟩,qn⟩:Qab)]),hP⟩,[(6,some 9)],?_,?_⟩⟩
   .simp only[List.length_eraseIdx];rw[Zao hi];omega
   .simp only[subP];simp(maxSteps:=9^9)(disch:=omega)only[ZZ,simprocAttr,rch,YaB,ORB,asmC.ca,cryH,Qbk,asmC.H1,klA];simp[Qab.c,Qwf]
 simp[asmC.H1] at hp;subst hp;exact .inl ⟨by omega,rfl,rfl⟩
def seqI(s:Qar)(l:List Opt):Asm×Int×Int:=if Qk1 s=false then (⟨[]⟩,0,1) else if 500<l.length then (⟨[]⟩,0,2) else Qacn s (tlUp s.Seed.Tiles) l 0
theorem Qacl{β:Type}(p:Qae)(v:β): ∀(t:List (Qae×β)),(t.map Prod.fst).Nodup->((updP t p v).map Prod.fst).Nodup/\(∀q,q∈(updP t p v).map Prod.fst->q=p\/q∈t.map Prod.fst)/\(updP t p v).length<=t.length+1
 |[],_=>by simp[updP]
 |(k,w)::r,h=>by
  rw[Zaq,Zcq] at h;simp only[updP];by_cases c:p=k
  .subst c;rw[Zao rfl];refine⟨by rw[Zaq,Zcq];exact h,fun q hq=> .inr hq,by simp⟩
  .rw[Zaj c];obtain⟨h1,h2,h3⟩:=Qacl p v r h.2;refine⟨?_,?_,by simp only[ZaE];omega⟩
   .rw[Zaq,Zcq];refine⟨fun hk=> ?_,h1⟩;rcases h2 _ hk with hk|hk
    .exact c hk.symm
    .exact h.1 hk
   .intro q hq;rw[Zaq] at hq⊢;rcases Zaw.1 hq with rfl|hq
    .exact .inr (Zat ..)
    .rcases h2 _ hq with hq|hq
     .exact .inl hq
     .exact .inr (Zas _ hq)
theorem tlUp_keys(l:List Qab):((tlUp l).map Prod.fst).Nodup/\(tlUp l).length<=l.length:=by
 have key: ∀(l:List Qab) (t:List (Qae×Int)),(t.map Prod.fst).Nodup->((l.foldl (fun t x=>updP t x.At x.Tile) t).map Prod.fst).Nodup/\(l.foldl (fun t x=>updP t x.At x.Tile) t).length<=t.length+l.length:=by
  intro l;induction l with
  |nil=>intro t h;exact⟨h,by simp⟩
  |cons x r ih=>
   intro t h;obtain⟨h1,_,h3⟩:=Qacl x.At x.Tile t h;obtain⟨h4,h5⟩:=ih _ h1;exact⟨h4,by simp only[Zco,ZaE] at h5⊢;omega⟩
 have:=key l [] (by simp)
 exact⟨this.1,by simpa[tlUp] using this.2⟩
theorem Qac7{s:Qar}{l:List Opt}{i:Nat}{o:Opt}(hx:l[i]? =some o)(t:List (Qae×Int)):Qacn s t (l.drop i) i=if (Qau o.Tile 0 (s.Set.Tiles.length - 1) && Qpg s (Qbw t) o.At o.Tile)=false then (⟨[]⟩,(i:Int),5) else if 500<=t.length then (⟨[]⟩,0,4) else Qacn s (updP t o.At o.Tile) (l.drop (i+1)) (i+1):=by
 rw[Qd3 hx,Qacn]
def PlayI_.fv(a:Qar×(List Opt)):Asm×Int×Int:=(seqI) (a.1) (a.2)
def PlayI_.row:Row:=vK (b2 (qR Qar.d_le) (qS Opt.d_le Opt.c_n)) (r3 (rA Asm.d_le) rI rI) (fun a=>Qf6 a.1.Set) PlayI_.fv
def PlayI_.q:=vKq (R:=PlayI_.row) rfl
def YaC:=J @PlayI_.fv.eq_1<|J @validI_.q<|J @validI_.fv.eq_1<|J @isTile.q<|J @isTile.fv.eq_1<|J @fitsC.q @fitsC.fv.eq_1
theorem PlayI_.ok:Qas Tryz.prog 10 PlayI_.row:=by
 refine vw (tC validI_.ok (tC newC.ok (tC isTile.ok (tC fitsC.ok (tC putC.ok (tC asmC.ok tN)))))) Tryz.func10 rfl (by kernel_rfl) ?_;intro a hpre;simp only[Tryz.f10,Option.getD];simp(maxSteps:=9^9)(disch:=omega)only[ZZ,simprocAttr,rch,YaC];obtain⟨s,l⟩:=a;simp only at hpre⊢;refine⟨hpre,?_⟩;by_cases c1:Qk1 s=false
 .rw[Zao c1];simp only[seqI];rw[Zao c1]
 rw[Zaj c1];intro _;by_cases c2:500<l.length
 .rw[Zao (by omega)];simp only[seqI];rw[Zaj c1,Zao c2]
 rw[Zaj (by omega)];have eR:seqI s l=Qacn s (tlUp s.Seed.Tiles) l 0:=by simp only[seqI];rw[Zaj c1,Zaj c2]
 rw[ZaZ,Qacv] at c1;obtain⟨⟨q1,q2,q3,_⟩,q5,q6⟩:=Qacj c1;have hbp:=Qof (s:=s.Set) (a:=s.Seed) (by rw[q5,q6];rfl);have hnp:newC.pre (s,s.Seed):=⟨q1,by simp only;omega,fun y hy=>⟨q2.2 y hy,hbp.1.2.2.2 y hy⟩⟩;have hcp:=cryOf_pre hnp;have hk0:=tlUp_keys s.Seed.Tiles;refine orow.os (s,s.Seed) [] hnp (fun j=>by simp[domB,hget]) rfl rfl ?_ ?_
 .simp(maxSteps:=9^9)(disch:=omega)only[ZZ,simprocAttr,rch,YaC,newC.ca,Qer,Qar.c,Asm.c]
 simp(maxSteps:=9^9)(disch:=omega)only[ZZ,simprocAttr,rch,YaC,newC.H1,sub];intro _;refine Qay.old ⟨{k:Nat×List (Qae×Int)×List (Qae×List Int)//k.1<=l.length/\inF s.Set (Qbw k.2.1)/\(k.2.1.map Prod.fst).Nodup/\k.2.1.length<=1000/\seqI s l=Qacn s k.2.1 (l.drop k.1) k.1},fun k=>⟨[(26,.im (.int .i64 k.1.1)),(25,.im (.int .i64 l.length)),(24,.im (.sl false 3 (l.map Opt.c))),(7,.ptr 6 0),(6,.im (.int .i64 0)),(5,.im (.int .i64 0)),(4,.ptr 1 0),(2,.ptr 0 0)],[(6,(true,.cells 82 [.im (.sl false 2 (s.Set.Glues.map Glue.c)),.im (.sl false 2 (s.Set.Tiles.map Tile.c)),.im (.sl false 3 (s.Seed.Tiles.map Qab.c)),.im (.int .i64 s.Temperature),.mp 4,.mp 5])),
  (4,(true,.map ⟨true,[.int .i64,.int .i64]⟩ (k.1.2.1.map Qbe))),(5,(true,.map ⟨true,[.int .i64,.int .i64]⟩ (k.1.2.2.map Qbc))),(1,(true,.cells 30 [.im (.sl true 0 [])])),(0,(true,.cells 32 ((Qar.c s).map .im)))],7⟩,fun k=>l.length - k.1.1,fun k=>⟨by simp[Qad.good,belT,belH,Qam,AV.bel,belL,Qar.c],by simp⟩,⟨⟨(0,(Qui s s.Seed).Tl,(Qui s s.Seed).Op),by simp only;exact⟨ZaU _,hcp.2.1,hk0.1,Zbd hk0.2 (by omega),eR⟩⟩,by simp(maxSteps:=9^9)(disch:=omega)only[ZZ,simprocAttr,rch,YaC,sub]⟩,fun k=> ?_⟩
 obtain⟨⟨k,tl,op⟩,hk1,hk2,hk3,hk4,hk5⟩:=k;simp only at hk1 hk2 hk3 hk4 hk5;simp(maxSteps:=9^9)(disch:=omega)only[ZZ,simprocAttr,rch,YaC,sub,Qal];refine⟨fun hk=>⟨hk,fun x hx=> ?_⟩,fun hk=> ?_⟩
 .rw[Qac7 hx] at hk5;by_cases d1:Qau x.Tile 0 ((s.Set.Tiles.length:Int) - 1)=true
  case neg=>
   refine⟨fun h=>(d1 h).elim,fun _=> ?_⟩;rw[ZcV] at d1;rw[hk5,d1,Zbu,Zao rfl]
  refine⟨fun _=> ?_,fun h=>(h d1).elim⟩;have hti:Qcs s.Set x.Tile:=by
   simp only[Qau,Zah,Zar] at d1;exact⟨d1.1,by omega⟩
  rw[d1,Zbj] at hk5;refine⟨⟨q1,hk2,hti⟩,fun d2=> ?_,fun d2=>⟨fun d3=> ?_,fun d3=> ?_⟩⟩
  .rw[hk5,Zao d2]
  .rw[hk5,Zaj d2,Zao (by omega)]
  .rw[Zaj d2,Zaj (by omega)] at hk5;have hsm:Qdy x.At:=by
    rw[ZaZ] at d2;simp only[Qpg,Zah] at d2;exact Qkc d2.1
   have hcr:Qacu ⟨s,tl,op⟩:=⟨q1,hk2,by simp only;omega⟩;obtain⟨u1,_,u3⟩:=Qacl x.At x.Tile tl hk3;refine orow.os (⟨s,tl,op⟩,x.At,x.Tile) [6,4,5] ⟨hcr,hsm,hti⟩ (fun j=>Qack _ j) rfl rfl ?_ ?_
   .simp(maxSteps:=9^9)(disch:=omega)only[ZZ,simprocAttr,rch,YaC,putC.ca,cryH,Qbk,ZaQ,Zak,ZbE]
   .simp(maxSteps:=9^9)(disch:=omega)only[ZZ,simprocAttr,rch,YaC,putC.H1,kl12,sub,putT,Zak,ZbE];exact⟨⟨(k+1,updP tl x.At x.Tile,Qrz s (Qbw (updP tl x.At x.Tile)) (delP op x.At) x.At 4),by simp only;exact⟨by omega,putT_in hk2 hti,u1,by omega,hk5⟩⟩,by simp only;omega,by rw[Qak (by omega) (by omega)];simp only;omega,rfl,rfl⟩
 .rw[Zax (by omega),Qacn] at hk5;refine orow.os ⟨s,tl,op⟩ [6,4,5] ⟨hk3,by simp only;omega⟩ (fun j=>Qack _ j) rfl rfl ?_ ?_
  .simp(maxSteps:=9^9)(disch:=omega)only[ZZ,simprocAttr,rch,YaC,asmC.ca,cryH,Qbk,ZaQ,Zak,ZbE]
  .simp(maxSteps:=9^9)(disch:=omega)only[ZZ,simprocAttr,rch,YaC,asmC.H1,klA,sub,asmT,Zak,ZbE];rw[hk5]
end Go.Ae
namespace Go.Ae
def sortI(l:List Int):List Int:=l.mergeSort fun x y=>decide (x<=y)
theorem Qaci(l:List Int):(sortI l).length=l.length:=List.length_mergeSort l
theorem Qacq(l:List Int):(sortI l).Perm l:=List.mergeSort_perm l _
theorem Qahe(l:List Int):(sortI l).Pairwise (fun x y=>x<=y):=by
 have:=List.pairwise_mergeSort (le:=fun (x y:Int)=>decide (x<=y)) (fun a b c h1 h2=>by simp at*;omega) (fun a b=>by simp;omega) l
 exact this.imp (fun h=>by simpa using h)
end Go.Ae
namespace Go.Ae
open Go.Proofs
theorem Qap0(s:Qar)(l:List Opt):seqI s l=seqS s l:=by
 simp only[seqI,seqS,Qacv];by_cases c1:Qjc s=false
 .rw[Zao c1,Zao c1]
 rw[Zaj c1,Zaj c1];rw[ZaZ] at c1;obtain⟨⟨q1,q2,q3,_⟩,_⟩:=Qacj c1;rw[Qac5 q3 l (tlUp s.Seed.Tiles) s.Seed s.Seed.Tiles.length 0 (RM.of q2.1 (fun x hx=>(q2.2 x hx).1)) q2]
def Qadf(s:Qaa)(f:Qae->Int)(p:Qae)(t:Int):Nat->Int
 |0=>0
 |k+1=>Qadf s f p t k+(if 0<Quh s f p t k then 2^k else 0)
theorem Qafe(s:Qaa)(f:Qae->Int)(p:Qae)(t:Int): ∀k,0<=Qadf s f p t k/\Qadf s f p t k<2^k
 |0=>by simp[Qadf]
 |k+1=>by
  have:=Qafe s f p t k
  have e:(2:Int)^(k+1)=2^k*2:=Int.pow_succ ..;simp only[Qadf]
  split<;>omega
def Qac9:Asm->List Opt->Asm
 |b,[]=>b
 |b,o::r=>Qac9 (putA b o.At o.Tile) r
theorem Qadp: ∀(l:List Opt) (b:Asm) (o:Opt),Qac9 b (l++[o])=putA (Qac9 b l) o.At o.Tile
 |[],_,_=>rfl
 |x::r,b,o=>by simp only[ZaA,Qac9,Qadp r]
def insS(s:Qar):Asm->List Opt->List Int
 |_,[]=>[]
 |b,o::r=>Qadf s.Set (atA b) o.At o.Tile 4::insS s (putA b o.At o.Tile) r
def smsS(s:Qar):Asm->List Opt->List Int
 |_,[]=>[]
 |b,o::r=>Qhs s.Set (atA b) o.At o.Tile 4::smsS s (putA b o.At o.Tile) r
theorem Qad8(s:Qar): ∀(l:List Opt) (b:Asm) (o:Opt),insS s b (l++[o])=insS s b l++[Qadf s.Set (atA (Qac9 b l)) o.At o.Tile 4]
 |[],_,_=>rfl
 |x::r,b,o=>by simp only[ZaA,insS,Qad8 s r,Qac9]
theorem Qad9(s:Qar): ∀(l:List Opt) (b:Asm) (o:Opt),smsS s b (l++[o])=smsS s b l++[Qhs s.Set (atA (Qac9 b l)) o.At o.Tile 4]
 |[],_,_=>rfl
 |x::r,b,o=>by simp only[ZaA,smsS,Qad9 s r,Qac9]
theorem Qadv(s:Qar): ∀(l:List Opt) (b:Asm),(insS s b l).length=l.length
 |[],_=>rfl
 |x::r,b=>by simp only[insS,ZaE,Qadv s r]
theorem Qael(s:Qar): ∀(l:List Opt) (b:Asm),(smsS s b l).length=l.length
 |[],_=>rfl
 |x::r,b=>by simp only[smsS,ZaE,Qael s r]
theorem Qafo(s:Qar): ∀(l:List Opt) (b:Asm) (k:Nat) (o:Opt),l[k]? =some o->(insS s b l)[k]? =some (Qadf s.Set (atA (Qac9 b (l.take k))) o.At o.Tile 4)
 |[],_,k,o,h=>by simp at h
 |x::r,b,0,o,h=>by
  simp only[ZaV,Zae] at h;subst h;simp[insS,Qac9]
 |x::r,b,k+1,o,h=>by
  rw[Zba] at h;simp only[insS,Zba,ZbI,Qac9];exact Qafo s r _ k o h
def Qaec(s:Qar)(b:Asm)(l:List Opt):Prop:= ∀k o,l[k]? =some o->canS s (Qac9 b (l.take k)) o=true/\(Qac9 b (l.take k)).Tiles.length<500
theorem Qaez{s:Qar}: ∀(l:List Opt) (b:Asm) (i:Nat),(Qacg s b l i).2.2=0->Qacg s b l i=(Qac9 b l,0,0)/\Qaec s b l
 |[],b,i,_=>⟨rfl,fun k o h=>by simp at h⟩
 |x::r,b,i,h=>by
  simp only[Qacg] at h⊢;by_cases c1:canS s b x=false
  .rw[Zao c1] at h;simp at h
  rw[Zaj c1] at h⊢;by_cases c2:500<=b.Tiles.length
  .rw[Zao c2] at h;simp at h
  rw[Zaj c2] at h⊢;obtain⟨h1,h2⟩:=Qaez r _ _ h;refine⟨h1,fun k o hk=> ?_⟩;cases k with
  |zero=>
   simp only[ZaV,Zae] at hk;subst hk;rw[ZaZ] at c1;exact⟨by simpa[Qac9] using c1,by simp only[Zbk,Qac9];omega⟩
  |succ k=>
   rw[Zba] at hk;simp only[ZbI,Qac9];exact h2 k o hk
theorem Qafb{s:Qar}(hs:s.Set.Tiles.length<=160){b:Asm}(hb:Qn7 s.Set b){l:List Opt}(h:Qaec s b l): ∀k,k<=l.length->Qn7 s.Set (Qac9 b (l.take k))
 |0,_=>by simpa[Qac9] using hb
 |k+1,hk=>by
  obtain⟨o,ho⟩: ∃o,l[k]? =some o:=⟨_,Zad (by omega)⟩;rw[Qwe ho,Qadp];exact Qaog hs (Qafb hs hb h k (by omega)) (h k o ho).1
theorem Qadk{s:Qar}{b:Asm}{o:Opt}(h:canS s b o=true):Qbi o.At=true/\Qdy o.At/\0<=o.Tile/\o.Tile<s.Set.Tiles.length/\Qcs s.Set o.Tile/\(∀x∈b.Tiles,x.At≠o.At):=by
 simp only[canS,Zah,Zar] at h;obtain⟨d1,d2,d3,_⟩:=h;simp only[Qau,Zah,Zar] at d2;exact⟨d1,Qkc d1,d2.1,by omega,⟨d2.1,by omega⟩,Qma d3⟩
def hasI(m d:Int):Bool:=decide (andI .i64 (m.fdiv (2^min d.toNat 64)) 1=1)
def bitN(b:Bool)(k:Nat):Int:=if b=true then 2^k else 0
theorem has_bits: ∀b0 b1 b2 b3:Bool,hasI (0+bitN b0 0+bitN b1 1+bitN b2 2+bitN b3 3) 0=b0/\hasI (0+bitN b0 0+bitN b1 1+bitN b2 2+bitN b3 3) 1=b1/\hasI (0+bitN b0 0+bitN b1 1+bitN b2 2+bitN b3 3) 2=b2/\hasI (0+bitN b0 0+bitN b1 1+bitN b2 2+bitN b3 3) 3=b3:=by
 intro b0 b1 b2 b3;cases b0<;>cases b1<;>cases b2<;>cases b3<;>decide
theorem Qar6(s:Qaa)(f:Qae->Int)(p:Qae)(t:Int): ∀d:Nat,d<4->hasI (Qadf s f p t 4) d=decide (0<Quh s f p t d):=by
 intro d hd;have e:Qadf s f p t 4=0+bitN (decide (0<Quh s f p t ((0:Nat):Int))) 0+bitN (decide (0<Quh s f p t ((1:Nat):Int))) 1+bitN (decide (0<Quh s f p t ((2:Nat):Int))) 2+bitN (decide (0<Quh s f p t ((3:Nat):Int))) 3:=by
  simp only[Qadf,bitN,Zar]
 obtain⟨k0,k1,k2,k3⟩:=has_bits (decide (0<Quh s f p t ((0:Nat):Int))) (decide (0<Quh s f p t ((1:Nat):Int))) (decide (0<Quh s f p t ((2:Nat):Int))) (decide (0<Quh s f p t ((3:Nat):Int)));rw[e];rcases (by omega:d=0\/d=1\/d=2\/d=3) with rfl|rfl|rfl|rfl
 .exact k0
 .exact k1
 .exact k2
 .exact k3
theorem or_bit{m:Int}{k:Nat}(hk:k<4)(h0:0<=m)(h1:m<2^k):orI .i64 m (2^k)=m+2^k:=by
 rcases (by omega:k=0\/k=1\/k=2\/k=3) with rfl|rfl|rfl|rfl
 .obtain rfl:m=0:=by omega
  decide
 .rcases (by omega:m=0\/m=1) with rfl|rfl<;>decide
 .rcases (by omega:m=0\/m=1\/m=2\/m=3) with rfl|rfl|rfl|rfl<;>decide
 .rcases (by omega:m=0\/m=1\/m=2\/m=3\/m=4\/m=5\/m=6\/m=7) with rfl|rfl|rfl|rfl|rfl|rfl|rfl|rfl<;>decide
def idxO(l:List Opt)(q:Qae):Int:=Qaw (fun o:Opt=>decide (o.At=q)) 0 l
def ownN(l:List Opt)(m:Int)(p:Qae):Nat->List Int
 |0=>[]
 |d+1=>ownN l m p d++(if hasI m d=true/\0<=idxO l (Qf7 p d) then [idxO l (Qf7 p d)] else [])
def nd1(q:Qae)(m:Int)(p:Qae)(k:Nat):Nat->List Int
 |0=>[]
 |d+1=>nd1 q m p k d++(if hasI m d=true/\Qf7 p d=q then [(k:Int)] else [])
def ndK(l:List Opt)(m:Int)(p:Qae):Nat->List Int
 |0=>[]
 |k+1=>ndK l m p k++nd1 ((l[k]?.map Opt.At).getD ⟨0,0⟩) m p k 4
def Qade(l:List Opt)(ins:List Int):Nat->List (List Int)
 |0=>[]
 |i+1=>Qade l ins i++[ndK l (ins[i]?.getD 0) ((l[i]?.map Opt.At).getD ⟨0,0⟩) i]
theorem Qaf3{p:Qae}{d e:Nat}(hd:d<4)(he:e<4)(h:Qf7 p d=Qf7 p e):d=e:=by
 rcases (by omega:d=0\/d=1\/d=2\/d=3) with rfl|rfl|rfl|rfl<;>
 rcases (by omega:e=0\/e=1\/e=2\/e=3) with rfl|rfl|rfl|rfl<;>
 simp[Qf7] at h<;>omega
theorem Qafg{l:List Opt}{m:Int}{p:Qae}{x:Int}: ∀n,x∈ownN l m p n↔ ∃d,d<n/\hasI m (d:Nat)=true/\0<=x/\idxO l (Qf7 p (d:Nat))=x
 |0=>by simp[ownN]
 |n+1=>by
  simp only[ownN,Zan,Qafg n];constructor
  .rintro (⟨d,h1,h2⟩|h)
   .exact⟨d,by omega,h2⟩
   .split at h
    .rename_i c;rw[Zal] at h;exact⟨n,by omega,c.1,by rw[h];exact c.2,h.symm⟩
    .cases h
  .rintro⟨d,h1,h2,h3,h4⟩;by_cases hdn:d=n
   .subst hdn;right;rw[Zao ⟨h2,by rw[h4];exact h3⟩,Zal];exact h4.symm
   .exact .inl ⟨d,by omega,h2,h3,h4⟩
theorem Qae6{q:Qae}{m:Int}{p:Qae}{k:Nat}{x:Int}: ∀n,x∈nd1 q m p k n↔x=k/\ ∃d,d<n/\hasI m (d:Nat)=true/\Qf7 p (d:Nat)=q
 |0=>by simp[nd1]
 |n+1=>by
  simp only[nd1,Zan,Qae6 n];constructor
  .rintro (⟨h0,d,h1,h2⟩|h)
   .exact⟨h0,d,by omega,h2⟩
   .split at h
    .rename_i c;rw[Zal] at h;exact⟨h,n,by omega,c⟩
    .cases h
  .rintro⟨h0,d,h1,h2,h3⟩;by_cases hdn:d=n
   .subst hdn;right;rw[Zao ⟨h2,h3⟩,Zal];exact h0
   .exact .inl ⟨h0,d,by omega,h2,h3⟩
theorem Qaen{q:Qae}{m:Int}{p:Qae}{k:Nat}: ∀n,n<=4->(nd1 q m p k n).length<=1/\((nd1 q m p k n).length=1-> ∃d,d<n/\Qf7 p (d:Nat)=q)
 |0,_=>by simp[nd1]
 |n+1,hn=>by
  obtain⟨h1,h2⟩:=Qaen n (by omega) (q:=q) (m:=m) (p:=p) (k:=k);simp only[nd1];split
  .rename_i c;have h0:(nd1 q m p k n).length=0:=by
    rcases (by omega:(nd1 q m p k n).length=0\/(nd1 q m p k n).length=1) with h|h
    .exact h
    .obtain⟨d,hd,e⟩:=h2 h
     have:=Qaf3 (p:=p) (d:=d) (e:=n) (by omega) (by omega) (e.trans c.2.symm)
     omega
   refine⟨by rw[Zaz,h0];simp,fun _=>⟨n,by omega,c.2⟩⟩
  .rw[ZaK];exact⟨h1,fun h=>by obtain⟨d,hd,e⟩:=h2 h;exact⟨d,by omega,e⟩⟩
theorem Qaem{l:List Opt}{m:Int}{p:Qae}{x:Int}: ∀n,n<=l.length->(x∈ndK l m p n↔ ∃k d,k<n/\d<4/\x=(k:Int)/\hasI m (d:Nat)=true/\l[k]?.map Opt.At=some (Qf7 p (d:Nat)))
 |0,_=>by simp[ndK]
 |n+1,hn=>by
  have hg:l[n]? =some l[n]:=Zad (by omega);simp only[ndK,Zan,Qaem (l:=l) n (by omega),Qae6];constructor
  .rintro (⟨k,d,h1,h2,h3⟩|⟨h0,d,h1,h2,h3⟩)
   .exact⟨k,d,by omega,h2,h3⟩
   .refine⟨n,d,by omega,h1,h0,h2,?_⟩;rw[hg] at h3⊢;simpa using h3.symm
  .rintro⟨k,d,h1,h2,h3,h4,h5⟩;by_cases hkn:k=n
   .subst hkn;right;refine⟨h3,d,h2,h4,?_⟩;rw[h5];rfl
   .exact .inl ⟨k,d,by omega,h2,h3,h4,h5⟩
theorem ndK_pw{l:List Opt}{m:Int}{p:Qae}: ∀n,n<=l.length->(ndK l m p n).Pairwise (fun x y=>x<y)
 |0,_=>by simp[ndK]
 |n+1,hn=>by
  simp only[ndK];rw[Zfe];refine⟨ndK_pw n (by omega),?_,?_⟩
  .have h:=(Qaen 4 (Zap _) (q:=(l[n]?.map Opt.At).getD ⟨0,0⟩) (m:=m) (p:=p) (k:=n)).1;generalize nd1 ((l[n]?.map Opt.At).getD ⟨0,0⟩) m p n 4=z at h
   match z,h with
   |[],_=>exact List.Pairwise.nil
   |[a],_=>exact List.pairwise_singleton ..
  .intro a ha b hb;rw[Qaem (l:=l) n (by omega)] at ha;rw[Qae6] at hb;obtain⟨k,d,h1,_,h3,_⟩:=ha;rw[h3,hb.1];omega
theorem Qane{l:List Opt}(hd:(l.map Opt.At).Nodup){q:Qae}{k:Nat}(h:l[k]?.map Opt.At=some q):idxO l q=k:=by
 rcases Qep (fun o:Opt=>decide (o.At=q)) l 0 with ⟨h1,h2⟩|⟨i,x,h1,h2,h3⟩
 .exfalso;cases hx:l[k]? with
  |none=>rw[hx] at h;cases h
  |some y=>
   rw[hx] at h
   have:=ZcR.1 h1 y (Zaf hx)
   simp at this h;exact this h
 .have hxq:x.At=q:=by simpa using ZcO h1
  simp only[idxO,h2]
  have:i=k:=by
   have e1:(l.map Opt.At)[i]? =some q:=by rw[ZaN,h3];simp[hxq]
   have e2:(l.map Opt.At)[k]? =some q:=by rw[ZaN];exact h
   obtain⟨g1,f1⟩:=Zai.1 e1;obtain⟨g2,f2⟩:=Zai.1 e2;exact (List.getElem_inj hd).1 (f1.trans f2.symm)
  omega
theorem Qae5{l:List Opt}{q:Qae}{k:Int}(h:idxO l q=k)(h0:0<=k):l[k.toNat]?.map Opt.At=some q:=by
 rcases Qep (fun o:Opt=>decide (o.At=q)) l 0 with ⟨h1,h2⟩|⟨i,x,h1,h2,h3⟩
 .simp only[idxO,h2] at h;omega
 .have hxq:x.At=q:=by simpa using ZcO h1
  simp only[idxO,h2] at h;rw[show k.toNat=i by omega,h3];simp[hxq]
theorem Qaei{x:Qab}: ∀(l:List Opt) (b:Asm),x∈(Qac9 b l).Tiles↔x∈b.Tiles\/ ∃o∈l,x=⟨o.At,o.Tile⟩
 |[],b=>by simp[Qac9]
 |o::r,b=>by
  simp only[Qac9,Qaei r,Qi8,Qlc,Zaw];constructor
  .rintro ((h|h)|⟨y,hy,h⟩)
   .exact .inr ⟨o,.inl rfl,h⟩
   .exact .inl h
   .exact .inr ⟨y,.inr hy,h⟩
  .rintro (h|⟨y,rfl|hy,h⟩)
   .exact .inl (.inr h)
   .exact .inl (.inl h)
   .exact .inr ⟨y,hy,h⟩
theorem Qaf6{s:Qar}{b:Asm}{l:List Opt}(h:Qaec s b l):(l.map Opt.At).Nodup:=by
 rw[Zbo,Zdk,ZcM];intro i j hi hj hij heq;have h1:=(Qadk (h j l[j] (Zad hj)).1).2.2.2.2.2;refine h1 ⟨l[i].At,l[i].Tile⟩ ?_ heq;rw[Qaei];refine .inr ⟨l[i],?_,rfl⟩;rw[ZaP];exact⟨i,by rw[Zcn hij];exact Zad hi⟩
theorem at_mem{a:Asm}{q:Qae}(h:0<=atA a q): ∃x∈a.Tiles,x.At=q:=by
 simp only[atA] at h;cases hf:a.Tiles.find? (fun x=>decide (x.At=q)) with
 |none=>rw[hf] at h;simp at h
 |some x=>exact⟨x,ZcL hf,by simpa using ZcO hf⟩
theorem need_law{s:Qar}{b:Asm}{l:List Opt}(h:Qaec s b l){i:Nat}{o:Opt}(ho:l[i]? =some o):
 sortI (ownN l (Qadf s.Set (atA (Qac9 b (l.take i))) o.At o.Tile 4) o.At 4)=ndK l (Qadf s.Set (atA (Qac9 b (l.take i))) o.At o.Tile 4) o.At i:=by
 obtain⟨m,hm⟩: ∃m,m=Qadf s.Set (atA (Qac9 b (l.take i))) o.At o.Tile 4:=⟨_,rfl⟩;rw[<-hm];have hil:i<l.length:=(Zai.1 ho).1;have hd:=Qaf6 h;have early: ∀d:Nat,d<4->hasI m d=true-> ∀k:Nat,l[k]?.map Opt.At=some (Qf7 o.At d)->k<i:=by
  intro d hd4 hb k hk;rcases Zbp k i with hlt|hge
  .exact hlt
  exfalso;rw[hm,Qar6 _ _ _ _ d hd4,Zar] at hb;have h0:0<=atA (Qac9 b (l.take i)) (Qf7 o.At d):=by
   simp only[Quh] at hb;split at hb
   .assumption
   .omega
  obtain⟨x,hx,hxq⟩:=at_mem h0;cases hlk:l[k]? with
  |none=>rw[hlk] at hk;cases hk
  |some y=>
   rw[hlk] at hk;have hy:y.At=Qf7 o.At d:=by simpa using hk
   have h1:=(Qadk (h k y hlk).1).2.2.2.2.2;refine h1 x ?_ (hxq.trans hy.symm);rw[Qaei] at hx⊢;rcases hx with hx|⟨z,hz,e⟩
   .exact .inl hx
   .refine .inr ⟨z,?_,e⟩;obtain⟨j,hj⟩:=ZaP.1 hz;have hji:j<i:=by
     have:=(Zai.1 hj).1
     simp at this;omega
    rw[ZaP];exact⟨j,by rw[Zcn hji] at hj;rw[Zcn (by omega)];exact hj⟩
 have hmem: ∀x,x∈ownN l m o.At 4↔x∈ndK l m o.At i:=by
  intro x;rw[Qafg,Qaem i (by omega)];constructor
  .rintro⟨d,h1,h2,h3,h4⟩;have h5:=Qae5 h4 h3;exact⟨x.toNat,d,early d h1 h2 _ h5,h1,by omega,h2,h5⟩
  .rintro⟨k,d,h1,h2,h3,h4,h5⟩;exact⟨d,h2,h4,by omega,by rw[Qane hd h5,h3]⟩
 have hnd: ∀n,n<=4->(ownN l m o.At n).Nodup:=by
  intro n;induction n with
  |zero=>intro _;simp[ownN]
  |succ n ih=>
   intro hn;simp only[ownN];split
   .rename_i c;rw[ZbV];refine⟨ih (by omega),by simp,?_⟩;intro a ha z hz haz;rw[Zal] at hz;subst haz hz;rw[Qafg] at ha;obtain⟨d,h1,h2,h3,h4⟩:=ha;have e1:=Qae5 h4 h3;have e2:=Qae5 rfl h3
    have:=Qaf3 (p:=o.At) (d:=d) (e:=n) (by omega) (by omega) (Zac (e1.symm.trans e2))
    omega
   .rw[ZaK];exact ih (by omega)
 have hpw:=ndK_pw (l:=l) (m:=m) (p:=o.At) i (by omega);have hnd2:(ndK l m o.At i).Nodup:=Zbo.2 (hpw.imp (fun h=>by omega));have hp:(ownN l m o.At 4).Perm (ndK l m o.At i):=(Zdb (hnd 4 (Zap _)) hnd2).2 hmem;exact ZdI (le:=fun x y=>x<=y) (fun a z _ _ h1 h2=>Int.le_antisymm h1 h2) (Qahe _) (hpw.imp (fun h=>by omega)) ((Qacq _).trans hp)
theorem Qar1(s:Qar)(b:Asm)(o:Opt):Qjm s.Set b o.At o.Tile 4=Qhs s.Set (atA b) o.At o.Tile 4:=(Qae8 ..).symm
def seqP(s:Qar)(l:List Opt):Prop:=setP s.Set/\Qn7 s.Set s.Seed/\s.Set.Tiles.length<=160/\s.Seed.Tiles.length<=1000000/\Qaec s s.Seed l/\l.length<=500
theorem shl_val{d:Nat}(hd:d<4):IntKind.i64.wrap (1*2^min d IntKind.i64.bits)=2^d:=by
 rcases (by omega:d=0\/d=1\/d=2\/d=3) with rfl|rfl|rfl|rfl<;>decide
theorem Qaew{d:Nat}(hd:d<4):(2:Int)^d<=8:=by
 rcases (by omega:d=0\/d=1\/d=2\/d=3) with rfl|rfl|rfl|rfl<;>decide
theorem Qaee(s:Qaa)(f:Qae->Int)(p:Qae)(t d:Int):0<Quh s f p t d↔(0<=f (Qf7 p d)/\0<Qfn s t d (f (Qf7 p d))):=by
 by_cases c:0<=f (Qf7 p d)
 .have e:Quh s f p t d=Qfn s t d (f (Qf7 p d)):=Zao c;rw[e];exact⟨fun h=>⟨c,h⟩,fun h=>h.2⟩
 .have e:Quh s f p t d=0:=Zaj c;rw[e];exact⟨fun h=>by omega,fun h=>(c h.1).elim⟩
theorem maskF_s(s:Qaa)(f:Qae->Int)(p:Qae)(t:Int)(d:Nat)(h:0<=f (Qf7 p d))(h2:0<Qfn s t d (f (Qf7 p d))):Qadf s f p t (d+1)=Qadf s f p t d+2^d:=by
 simp only[Qadf];rw[Zao ((Qaee ..).2 ⟨h,h2⟩)]
theorem Qaek(s:Qaa)(f:Qae->Int)(p:Qae)(t:Int)(d:Nat)(h: ¬(0<=f (Qf7 p d)/\0<Qfn s t d (f (Qf7 p d)))):Qadf s f p t (d+1)=Qadf s f p t d:=by
 simp only[Qadf];rw[Zaj (fun q=>h ((Qaee ..).1 q)),Int.add_zero]
def l10Inputs.fv(a:Qar×(List Opt)):(List Int)×(List Int):=(fun s l=>(insS s s.Seed l,smsS s s.Seed l)) (a.1) (a.2)
def l10Inputs.row:Row:=vK (b2 (qP 4 Qar.d_le) (qS Opt.d_le Opt.c_n)) (r2 (rS Qb3 Qant) (rS Qb3 Qant)) (fun a=>seqP a.1 a.2) l10Inputs.fv
def l10Inputs.q:=vKq (R:=l10Inputs.row) rfl
def YaD:=J @l10Inputs.fv.eq_1<|J @l03Own.q<|J @l03Own.fv.eq_1<|J @l01Step.q<|J @l01Step.fv.eq_1<|J @l03At.q<|J @l03At.fv.eq_1<|J @l02Bond.q<|J @l02Bond.fv.eq_1<|J @l06Binding.q<|J @l06Binding.fv.eq_1<|J @l03Put.q @l03Put.fv.eq_1
theorem l10Inputs.ok:Qas Tryz.prog 62 l10Inputs.row:=by
 refine vw (tC l03Own.ok (tC l01Step.ok (tC l03At.ok (tC l02Bond.ok (tC l06Binding.ok (tC l03Put.ok tN)))))) Tryz.func62 rfl (by kernel_rfl) ?_;intro a hpre;simp only[Tryz.f62,Option.getD];simp(maxSteps:=9^9)(disch:=omega)only[ZZ,simprocAttr,rch,YaD];obtain⟨s,l⟩:=a;simp only at hpre⊢;obtain⟨h1,h2,h3,h4,h5,h6⟩:=hpre;refine⟨h4,?_⟩;refine Qay.ren ⟨{k:Nat//k<=l.length},fun k=>⟨[(9,.im (.int .i64 k.1)),(8,.own 7),(7,.own 6),(6,.ptr 3 0),(0,.ptr 0 0),(1,.im (.sl false 3 (l.map Opt.c)))],[(7,(true,.arr 2 1 ((smsS s s.Seed (l.take k.1)).map intC))),(6,(true,.arr 2 1 ((insS s s.Seed (l.take k.1)).map intC))),(3,(true,.cells 30 [.im (.sl false 3 ((Qac9 s.Seed (l.take k.1)).Tiles.map Qab.c))])),(0,(false,.view (Qar.c s)))],8⟩,fun k=>l.length - k.1,fun k=>⟨by simp[Qad.good,belT,belH,Qam,AV.bel,belL],by simp⟩,⟨⟨0,by simp⟩,[(7,some 5),(6,some 4)],?_⟩,fun k=> ?_⟩
 .simp only[subP];simp(maxSteps:=9^9)(disch:=omega)only[ZZ,simprocAttr,rch,YaD,Zbk,insS,smsS,Qac9,ZaG]
  try simp
 obtain⟨k,hk1⟩:=k;simp(maxSteps:=9^9)(disch:=omega)only[ZZ,simprocAttr,rch,YaD,sub,Qal];intro _;obtain⟨b,hb⟩: ∃b,b=Qac9 s.Seed (l.take k):=⟨_,rfl⟩;have hbi:Qn7 s.Set b:=by rw[hb];exact Qafb h3 h2 h5 k hk1
 rw[<-hb];refine⟨fun hk=>⟨hk,fun x hx=> ?_⟩,fun hk=> ?_⟩
 .have hc:=Qadk (h5 k x hx).1;rw[<-hb] at hc;obtain⟨g1,g2,g3,g4,g5,g6⟩:=hc;refine Qay.old ⟨{d:Nat//d<=4},fun d=>⟨[(12,.im (.int .i64 d.1)),(11,.im (.int .i64 (Qadf s.Set (atA b) x.At x.Tile d.1))),(10,.ptr 8 0),(9,.im (.int .i64 k)),(8,.own 7),(7,.own 6),(6,.ptr 3 0),(0,.ptr 0 0),(1,.im (.sl false 3 (l.map Opt.c)))],[(8,(true,.cells 71 ((Opt.c x).map .im))),(7,(true,.arr 2 1 ((smsS s s.Seed (l.take k)).map intC))),(6,(true,.arr 2 1 ((insS s s.Seed (l.take k)).map intC))),(3,(true,.cells 30 [.im (.sl false 3 (b.Tiles.map Qab.c))])),(0,(false,.view (Qar.c s)))],9⟩,fun d=>4 - d.1,fun d=>⟨by simp[Qad.good,belT,belH,Qam,AV.bel,belL,Opt.c],by simp⟩,⟨⟨0,by simp⟩,by simp(maxSteps:=9^9)(disch:=omega)only[ZZ,simprocAttr,rch,YaD,sub,Qadf]⟩,fun d=> ?_⟩;obtain⟨d,hd1⟩:=d;simp(maxSteps:=9^9)(disch:=omega)only[ZZ,simprocAttr,rch,YaD,sub,Qal];have hmb:=Qafe s.Set (atA b) x.At x.Tile d;refine⟨fun hd=> ?_,fun hd=> ?_⟩
  .have hd4:d<4:=by omega
   have hp8:=Qaew hd4;refine⟨⟨g2,by omega⟩,hbi.1,fun c1=>⟨⟨h1,g5,⟨by omega,by omega⟩,Qafx hbi _ c1⟩,fun c2=> ?_,fun c2=> ?_⟩,fun c1=> ?_⟩
   .refine⟨⟨d+1,by omega⟩,by simp only;omega,by rw[Qak (by omega) (by omega)];simp only;omega,?_⟩;rw[shl_val hd4,Qak (by omega) (by omega),maskF_s _ _ _ _ _ c1 c2]
   .refine⟨⟨d+1,by omega⟩,by simp only;omega,by rw[Qak (by omega) (by omega)];simp only;omega,?_⟩;rw[Qaek _ _ _ _ _ (fun h=>c2 h.2)]
   .refine⟨⟨d+1,by omega⟩,by simp only;omega,by rw[Qak (by omega) (by omega)];simp only;omega,?_⟩;rw[Qaek _ _ _ _ _ (fun h=>c1 h.1)]
  .have hd4:d=4:=by omega
   subst hd4;have hbl:=(h5 k x hx).2;rw[<-hb] at hbl;refine⟨by simp[OneR,allD,D.one],by rw[Qadv,Zau];omega,⟨h1,hbi,g2,g5⟩,by simp[OneR,allD,D.one],by rw[Qael,Zau];omega,by omega,⟨k+1,by omega⟩,[(7,some 12),(6,some 10)],by simp only;omega,?_⟩;simp only[subP,Qwe hx,Qad8,Qad9,Qadp,<-hb];simp(maxSteps:=9^9)(disch:=omega)only[ZZ,simprocAttr,rch,YaD,Zab,Zaa];refine⟨by rw[Qak (by omega) (by omega)];omega,?_,?_⟩
   .simp[intC,Qar1]
   .simp[intC]
 .rw[ZaL (by omega)]
  try trivial
def Qadm(s:Qar)(l:List Opt):List (List Int):=Qade l (insS s s.Seed l) l.length
theorem has_eq(m:Int)(d:Nat):(hasI m d=true)=(andI .i64 (m.fdiv (2^min d IntKind.i64.bits)) 1=1):=by
 simp only[hasI,Zar,Zam];rfl
theorem pt_eq2{p q:Qae}:((p.X==q.X)=true/\(p.Y==q.Y)=true)↔p=q:=by
 cases p;cases q;simp
theorem Qagr(l:List Opt)(m:Int)(p:Qae): ∀n,(ndK l m p n).length<=n
 |0=>by simp[ndK]
 |n+1=>by
  have h1:=Qagr l m p n;have h2:=(Qaen 4 (Zap _) (q:=(l[n]?.map Opt.At).getD ⟨0,0⟩) (m:=m) (p:=p) (k:=n)).1;simp only[ndK,Zaz];omega
theorem Qadb(l:List Opt)(ins:List Int): ∀n,(Qade l ins n).length=n
 |0=>rfl
 |n+1=>by simp only[Qade,Zaz,Qadb l ins n,ZbT]
def l12Needs.fv(a:Qar×(List Opt)):List (List Int):=(Qadm) (a.1) (a.2)
def l12Needs.row:Row:=vK (b2 (qP 4 Qar.d_le) (qS Opt.d_le Opt.c_n)) (rS Qj4 Qaoj) (fun a=>seqP a.1 a.2) l12Needs.fv
def l12Needs.q:=vKq (R:=l12Needs.row) rfl
def YaE:=J @l12Needs.fv.eq_1<|J @l10Inputs.q<|J @l10Inputs.fv.eq_1<|J @l01Step.q @l01Step.fv.eq_1
theorem l12Needs.ok:Qas Tryz.prog 28 l12Needs.row:=by
 refine vw (tC l10Inputs.ok (tC l01Step.ok tN)) Tryz.func28 rfl (by kernel_rfl) ?_;intro a hpre;simp only[Tryz.f28,Option.getD];simp(maxSteps:=9^9)(disch:=omega)only[ZZ,simprocAttr,rch,YaE];obtain⟨s,l⟩:=a;simp only at hpre⊢;refine⟨hpre,?_⟩;obtain⟨h1,h2,h3,h4,h5,h6⟩:=hpre;obtain⟨ins,hins⟩: ∃ins,ins=insS s s.Seed l:=⟨_,rfl⟩;have hil:ins.length=l.length:=by rw[hins,Qadv]
 simp only[Qadm,<-hins];refine Qay.frr ⟨{k:Nat//k<=l.length},fun k=>⟨[(8,.im (.int .i64 k.1)),(7,.own 3),(5,.im (.sl false 1 (ins.map intC))),(0,.ptr 0 0),(1,.im (.sl false 3 (l.map Opt.c)))],[(3,(true,.arrA 37 1 (imR ((Qade l ins k.1).map Qcd)))),(0,(false,.view (Qar.c s)))],4⟩,fun k=>l.length - k.1,fun k=>⟨by simp[Qad.good,belT,belH,Qam,AV.bel,belL,Qxu],by simp⟩,⟨⟨0,by simp⟩,[],[(3,some 2)],?_⟩,fun k=> ?_⟩
 .simp only[subP];simp(maxSteps:=9^9)(disch:=omega)only[ZZ,simprocAttr,rch,YaE,Zab,Zaa,Qade,ZaG,Qafa]
  try simp
 obtain⟨k,hk1⟩:=k;simp(maxSteps:=9^9)(disch:=omega)only[ZZ,simprocAttr,rch,YaE,sub,Qal,hil];intro _;refine⟨fun hk=> ?_,fun hk=> ?_⟩
 .obtain⟨o,ho⟩: ∃o,l[k]? =some o:=⟨_,Zad hk⟩;obtain⟨mi,hmi⟩: ∃mi,ins[k]? =some mi:=⟨_,Zad (by omega)⟩;have hsm:=(Qadk (h5 k o ho).1).2.1;refine Qay.ren ⟨{m:Nat//m<=k},fun m=>⟨[(10,.im (.int .i64 m.1)),(9,.own 5),(8,.im (.int .i64 k)),(7,.own 3),(5,.im (.sl false 1 (ins.map intC))),(0,.ptr 0 0),(1,.im (.sl false 3 (l.map Opt.c)))],[(5,(true,.arr 2 1 ((ndK l mi o.At m.1).map intC))),(3,(true,.arrA 37 1 (imR ((Qade l ins k).map Qcd)))),(0,(false,.view (Qar.c s)))],6⟩,fun m=>k - m.1,fun m=>⟨by simp[Qad.good,belT,belH,Qam,AV.bel,belL,Qxu],by simp⟩,⟨⟨0,by simp⟩,[(5,some 4)],?_⟩,fun m=> ?_⟩
  .simp only[subP];simp(maxSteps:=9^9)(disch:=omega)only[ZZ,simprocAttr,rch,YaE,Zab,Zaa,ndK,ZaG,Qsg]
   try simp
  obtain⟨m,hm1⟩:=m;simp(maxSteps:=9^9)(disch:=omega)only[ZZ,simprocAttr,rch,YaE,sub,Qal];refine⟨fun hm=> ?_,fun hm=> ?_⟩
  .obtain⟨q,hq⟩: ∃q,l[m]? =some q:=⟨_,Zad (by omega)⟩;refine Qay.ren ⟨{d:Nat//d<=4},fun d=>⟨[(11,.im (.int .i64 d.1)),(10,.im (.int .i64 m)),(9,.own 6),(8,.im (.int .i64 k)),(7,.own 3),(5,.im (.sl false 1 (ins.map intC))),(0,.ptr 0 0),(1,.im (.sl false 3 (l.map Opt.c)))],[(6,(true,.arr 2 1 ((ndK l mi o.At m++nd1 q.At mi o.At m d.1).map intC))),(3,(true,.arrA 37 1 (imR ((Qade l ins k).map Qcd)))),(0,(false,.view (Qar.c s)))],7⟩,fun d=>4 - d.1,fun d=>⟨by simp[Qad.good,belT,belH,Qam,AV.bel,belL,Qxu],by simp⟩,⟨⟨0,by simp⟩,[(6,some 5)],?_⟩,fun d=> ?_⟩
   .simp only[subP];simp(maxSteps:=9^9)(disch:=omega)only[ZZ,simprocAttr,rch,YaE,Zab,Zaa,nd1,ZaK,Qsg]
    try simp
   obtain⟨d,hd1⟩:=d;simp(maxSteps:=9^9)(disch:=omega)only[ZZ,simprocAttr,rch,YaE,sub,Qal,hil];have hl1:=Qagr l mi o.At m;have hl2:=Qaen d hd1 (q:=q.At) (m:=mi) (p:=o.At) (k:=m);have hR:(ndK l mi o.At m++nd1 q.At mi o.At m d).length<=1000:=by rw[Zaz];omega
   refine⟨fun hd=>⟨hk,fun x hx=> ?_⟩,fun hd=> ?_⟩
   .obtain rfl:mi=x:=Zac (hmi.symm.trans hx);simp only[<-has_eq];refine⟨fun c1=>⟨hk,fun y hy=> ?_⟩,fun c1=>⟨⟨d+1,by omega⟩,[(6,some 6)],by simp only;omega,?_⟩⟩
    .obtain rfl:o=y:=Zac (ho.symm.trans hy);refine⟨⟨hsm,by omega⟩,by omega,fun z hz=> ?_⟩;obtain rfl:q=z:=Zac (hq.symm.trans hz);refine⟨fun c2=>⟨by simp[OneR,allD,D.one],by omega,⟨d+1,by omega⟩,[(6,some 8)],by simp only;omega,?_⟩,fun c2=>⟨⟨d+1,by omega⟩,[(6,some 6)],by simp only;omega,?_⟩⟩
     .rw[pt_eq2] at c2;simp only[subP];simp(maxSteps:=9^9)(disch:=omega)only[ZZ,simprocAttr,rch,YaE,Zab,Zaa,Qsg];refine⟨by rw[Qak (by omega) (by omega)];omega,?_⟩;simp only[nd1];rw[Zao ⟨c1,c2⟩];simp[intC]
     .rw[pt_eq2] at c2;simp only[subP];simp(maxSteps:=9^9)(disch:=omega)only[ZZ,simprocAttr,rch,YaE,Zab,Zaa,Qsg];refine⟨by rw[Qak (by omega) (by omega)];omega,?_⟩;simp only[nd1];rw[Zaj (fun h=>c2 h.2),ZaK]
    .simp only[subP];simp(maxSteps:=9^9)(disch:=omega)only[ZZ,simprocAttr,rch,YaE,Zab,Zaa,Qsg];refine⟨by rw[Qak (by omega) (by omega)];omega,?_⟩;simp only[nd1];rw[Zaj (fun h=>c1 h.1),ZaK]
   .have hd4:d=4:=by omega
    subst hd4;refine⟨⟨m+1,by omega⟩,[(5,some 6)],by simp only;omega,?_⟩;simp only[subP];simp(maxSteps:=9^9)(disch:=omega)only[ZZ,simprocAttr,rch,YaE,Zab,Zaa,Qsg];refine⟨by rw[Qak (by omega) (by omega)];omega,?_⟩;simp only[ndK,hq,ZaO,Zag]
  .have hmk:m=k:=by omega
   subst hmk;have hnl:=Qadb l ins m;refine⟨by simp[belL,AV.bel],by simp[OneR,Qhz,AV.one],by omega,by rw[ZbY,Qaeq];simp[belL,AV.bel],⟨m+1,by omega⟩,[5],[(3,some 7)],by simp only;omega,?_⟩;have e1:Qade l ins (m+1)=Qade l ins m++[ndK l mi o.At m]:=by
    simp only[Qade,hmi,ho,ZaO,Zag]
   simp only[subP];simp(maxSteps:=9^9)(disch:=omega)only[ZZ,simprocAttr,rch,YaE,Zab,Zaa,Qzl,Qzb,e1,ZaT,Zaq,ZaG];rw[Qak (by omega) (by omega)];refine⟨by simp,?_⟩
   have:=Qzo [(3,some 7)] ((Qade l ins m).map Qcd++[[D.sl false 1 ((ndK l mi o.At m).map intC)]])
   simpa only[imR,ZaT,Zaq,ZaG] using this
 .have hkl:k=l.length:=by omega
  subst hkl;simp(maxSteps:=9^9)(disch:=omega)only[ZZ,simprocAttr,rch,YaE,Qae4]
end Go.Ae
