/- Lemmas. Conditions: none. -/
import Derived.Test.YtkjfcnnfidnpcabGreatP11
import Derived.Shelf.SlSortCmp.WholeK
import Derived.Shelf.SlicesG.Cmp
import Derived.StillTailTactics
import Derived.Lib.Small
import Derived.Lib.Walk
import Derived.Shelf.SlSortCmp.NoneTotal
set_option linter.all false
set_option maxHeartbeats 8000000
set_option maxRecDepth 100000
namespace Go.Proofs
open Go.Shelf
def Tryz.sortPl_ren:Go.Shelf.Ren:=⟨fun|6=>202|15=>205|14=>204|28=>214|29=>215|20=>206|21=>207|22=>208|23=>209|24=>210|25=>211|26=>212|27=>213|46=>216|47=>217|48=>218|49=>219|50=>220|57=>221|n=>n,fun|22=>44|24=>103|25=>299|3=>3|39=>259|0=>0|53=>262|55=>265|4=>4|46=>304|45=>303|50=>242|5=>5|9=>9|66=>311|70=>315|76=>317|77=>318|n=>n,fun|n=>n⟩
theorem Tryz.sortPl:Go.Proofs.SlLaysF0.n6 Tryz.prog Tryz.sortPl_ren:={
 mixed:=by kernel_rfl
 f6:=⟨Tryz.f202.name,by decide,Tryz.func202.trans (ZbR some (by kernel_rfl))⟩
 f14:=⟨Tryz.f204.name,by decide,Tryz.func204.trans (ZbR some (by kernel_rfl))⟩
 f15:=Tryz.func205.trans (ZbR some (by kernel_rfl))
 f20:=⟨Tryz.f206.name,by decide,Tryz.func206.trans (ZbR some (by kernel_rfl))⟩
 f21:=⟨Tryz.f207.name,by decide,Tryz.func207.trans (ZbR some (by kernel_rfl))⟩
 f22:=⟨Tryz.f208.name,by decide,Tryz.func208.trans (ZbR some (by kernel_rfl))⟩
 f23:=⟨Tryz.f209.name,by decide,Tryz.func209.trans (ZbR some (by kernel_rfl))⟩
 f24:=⟨Tryz.f210.name,by decide,Tryz.func210.trans (ZbR some (by kernel_rfl))⟩
 f25:=⟨Tryz.f211.name,by decide,Tryz.func211.trans (ZbR some (by kernel_rfl))⟩
 f26:=⟨Tryz.f212.name,by decide,Tryz.func212.trans (ZbR some (by kernel_rfl))⟩
 f27:=⟨Tryz.f213.name,by decide,Tryz.func213.trans (ZbR some (by kernel_rfl))⟩
 f28:=Tryz.func214.trans (ZbR some (by kernel_rfl))
 f29:=Tryz.func215.trans (ZbR some (by kernel_rfl))
 f46:=⟨Tryz.f216.name,by decide,Tryz.func216.trans (ZbR some (by kernel_rfl))⟩
 f47:=Tryz.func217.trans (ZbR some (by kernel_rfl))
 f48:=Tryz.func218.trans (ZbR some (by kernel_rfl))
 f49:=⟨Tryz.f219.name,by decide,Tryz.func219.trans (ZbR some (by kernel_rfl))⟩
 f50:=⟨Tryz.f220.name,by decide,Tryz.func220.trans (ZbR some (by kernel_rfl))⟩
 f57:=⟨Tryz.f221.name,by decide,Tryz.func221.trans (ZbR some (by kernel_rfl))⟩
 t0:=Tryz.underlying0
 a0:=Tryz.isAgg0
 z0:=Tryz.sizeOf0
 v0:=Tryz.zeroValue0
 t3:=Tryz.underlying3
 a3:=Tryz.isAgg3
 z3:=Tryz.sizeOf3
 v3:=Tryz.zeroValue3
 t4:=Tryz.underlying4
 a4:=Tryz.isAgg4
 z4:=Tryz.sizeOf4
 v4:=Tryz.zeroValue4
 t5:=Tryz.underlying5
 a5:=Tryz.isAgg5
 z5:=Tryz.sizeOf5
 v5:=Tryz.zeroValue5
 t9:=Tryz.underlying9
 a9:=Tryz.isAgg9
 z9:=Tryz.sizeOf9
 v9:=Tryz.zeroValue9
 t22:=Tryz.underlying44
 a22:=Tryz.isAgg44
 z22:=Tryz.sizeOf44
 v22:=Tryz.zeroValue44
 t25:=Tryz.underlying299
 a25:=Tryz.isAgg299
 z25:=Tryz.sizeOf299
 v25:=Tryz.zeroValue299
 t39:=Tryz.underlying259
 a39:=Tryz.isAgg259
 z39:=Tryz.sizeOf259
 v39:=Tryz.zeroValue259
 t45:=Tryz.underlying303
 a45:=Tryz.isAgg303
 z45:=Tryz.sizeOf303
 v45:=Tryz.zeroValue303
 t46:=Tryz.underlying304
 a46:=Tryz.isAgg304
 z46:=Tryz.sizeOf304
 v46:=Tryz.zeroValue304
 t50:=Tryz.underlying242
 a50:=Tryz.isAgg242
 z50:=Tryz.sizeOf242
 v50:=Tryz.zeroValue242
 t53:=Tryz.underlying262
 a53:=Tryz.isAgg262
 z53:=Tryz.sizeOf262
 v53:=Tryz.zeroValue262
 t55:=Tryz.underlying265
 a55:=Tryz.isAgg265
 z55:=Tryz.sizeOf265
 v55:=Tryz.zeroValue265
 t66:=Tryz.underlying311
 a66:=Tryz.isAgg311
 z66:=Tryz.sizeOf311
 v66:=Tryz.zeroValue311
 t70:=Tryz.underlying315
 a70:=Tryz.isAgg315
 z70:=Tryz.sizeOf315
 v70:=Tryz.zeroValue315
 t76:=Tryz.underlying317
 a76:=Tryz.isAgg317
 z76:=Tryz.sizeOf317
 v76:=Tryz.zeroValue317
 t77:=Tryz.underlying318
 a77:=Tryz.isAgg318
 z77:=Tryz.sizeOf318
 v77:=Tryz.zeroValue318}
def Tryz.sortPt_ren:Go.Shelf.Ren:=⟨fun|6=>242|15=>205|14=>248|28=>214|29=>215|20=>249|21=>250|22=>251|23=>252|24=>253|25=>254|26=>255|27=>256|46=>257|47=>217|48=>218|49=>258|50=>259|57=>260|n=>n,fun|22=>144|24=>94|25=>215|3=>3|39=>259|0=>0|53=>262|55=>265|4=>4|46=>304|45=>303|50=>242|5=>5|9=>9|66=>311|70=>315|76=>317|77=>318|n=>n,fun|n=>n⟩
theorem Tryz.sortPt:Go.Proofs.SlLaysF0.n6 Tryz.prog Tryz.sortPt_ren:={
 mixed:=by kernel_rfl
 f6:=⟨Tryz.f242.name,by decide,Tryz.func242.trans (ZbR some (by kernel_rfl))⟩
 f14:=⟨Tryz.f248.name,by decide,Tryz.func248.trans (ZbR some (by kernel_rfl))⟩
 f15:=Tryz.func205.trans (ZbR some (by kernel_rfl))
 f20:=⟨Tryz.f249.name,by decide,Tryz.func249.trans (ZbR some (by kernel_rfl))⟩
 f21:=⟨Tryz.f250.name,by decide,Tryz.func250.trans (ZbR some (by kernel_rfl))⟩
 f22:=⟨Tryz.f251.name,by decide,Tryz.func251.trans (ZbR some (by kernel_rfl))⟩
 f23:=⟨Tryz.f252.name,by decide,Tryz.func252.trans (ZbR some (by kernel_rfl))⟩
 f24:=⟨Tryz.f253.name,by decide,Tryz.func253.trans (ZbR some (by kernel_rfl))⟩
 f25:=⟨Tryz.f254.name,by decide,Tryz.func254.trans (ZbR some (by kernel_rfl))⟩
 f26:=⟨Tryz.f255.name,by decide,Tryz.func255.trans (ZbR some (by kernel_rfl))⟩
 f27:=⟨Tryz.f256.name,by decide,Tryz.func256.trans (ZbR some (by kernel_rfl))⟩
 f28:=Tryz.func214.trans (ZbR some (by kernel_rfl))
 f29:=Tryz.func215.trans (ZbR some (by kernel_rfl))
 f46:=⟨Tryz.f257.name,by decide,Tryz.func257.trans (ZbR some (by kernel_rfl))⟩
 f47:=Tryz.func217.trans (ZbR some (by kernel_rfl))
 f48:=Tryz.func218.trans (ZbR some (by kernel_rfl))
 f49:=⟨Tryz.f258.name,by decide,Tryz.func258.trans (ZbR some (by kernel_rfl))⟩
 f50:=⟨Tryz.f259.name,by decide,Tryz.func259.trans (ZbR some (by kernel_rfl))⟩
 f57:=⟨Tryz.f260.name,by decide,Tryz.func260.trans (ZbR some (by kernel_rfl))⟩
 t0:=Tryz.underlying0
 a0:=Tryz.isAgg0
 z0:=Tryz.sizeOf0
 v0:=Tryz.zeroValue0
 t3:=Tryz.underlying3
 a3:=Tryz.isAgg3
 z3:=Tryz.sizeOf3
 v3:=Tryz.zeroValue3
 t4:=Tryz.underlying4
 a4:=Tryz.isAgg4
 z4:=Tryz.sizeOf4
 v4:=Tryz.zeroValue4
 t5:=Tryz.underlying5
 a5:=Tryz.isAgg5
 z5:=Tryz.sizeOf5
 v5:=Tryz.zeroValue5
 t9:=Tryz.underlying9
 a9:=Tryz.isAgg9
 z9:=Tryz.sizeOf9
 v9:=Tryz.zeroValue9
 t22:=Tryz.underlying144
 a22:=Tryz.isAgg144
 z22:=Tryz.sizeOf144
 v22:=Tryz.zeroValue144
 t25:=Tryz.underlying215
 a25:=Tryz.isAgg215
 z25:=Tryz.sizeOf215
 v25:=Tryz.zeroValue215
 t39:=Tryz.underlying259
 a39:=Tryz.isAgg259
 z39:=Tryz.sizeOf259
 v39:=Tryz.zeroValue259
 t45:=Tryz.underlying303
 a45:=Tryz.isAgg303
 z45:=Tryz.sizeOf303
 v45:=Tryz.zeroValue303
 t46:=Tryz.underlying304
 a46:=Tryz.isAgg304
 z46:=Tryz.sizeOf304
 v46:=Tryz.zeroValue304
 t50:=Tryz.underlying242
 a50:=Tryz.isAgg242
 z50:=Tryz.sizeOf242
 v50:=Tryz.zeroValue242
 t53:=Tryz.underlying262
 a53:=Tryz.isAgg262
 z53:=Tryz.sizeOf262
 v53:=Tryz.zeroValue262
 t55:=Tryz.underlying265
 a55:=Tryz.isAgg265
 z55:=Tryz.sizeOf265
 v55:=Tryz.zeroValue265
 t66:=Tryz.underlying311
 a66:=Tryz.isAgg311
 z66:=Tryz.sizeOf311
 v66:=Tryz.zeroValue311
 t70:=Tryz.underlying315
 a70:=Tryz.isAgg315
 z70:=Tryz.sizeOf315
 v70:=Tryz.zeroValue315
 t76:=Tryz.underlying317
 a76:=Tryz.isAgg317
 z76:=Tryz.sizeOf317
 v76:=Tryz.zeroValue317
 t77:=Tryz.underlying318
 a77:=Tryz.isAgg318
 z77:=Tryz.sizeOf318
 v77:=Tryz.zeroValue318}
def Tryz.cmpI64_ren:Go.Shelf.Ren:=⟨fun|5=>150|7=>161|n=>n,fun|22=>2|3=>3|4=>4|n=>n,fun|n=>n⟩
theorem Tryz.cmpI64:Go.Proofs.SlLaysC2.n5 Tryz.prog Tryz.cmpI64_ren:={
 mixed:=by kernel_rfl
 f5:=⟨Tryz.f150.name,by decide,Tryz.func150.trans (ZbR some (by kernel_rfl))⟩
 f7:=⟨Tryz.f161.name,by decide,Tryz.func161.trans (ZbR some (by kernel_rfl))⟩
 t3:=Tryz.underlying3
 a3:=Tryz.isAgg3
 z3:=Tryz.sizeOf3
 v3:=Tryz.zeroValue3
 t4:=Tryz.underlying4
 a4:=Tryz.isAgg4
 z4:=Tryz.sizeOf4
 v4:=Tryz.zeroValue4
 t22:=Tryz.underlying2
 a22:=Tryz.isAgg2
 z22:=Tryz.sizeOf2
 v22:=Tryz.zeroValue2}
end Go.Proofs
namespace Go.Proofs
open Go.Shelf Go.RowKit Go.Lib Go.Sort
theorem Tryz.cmp64(x y:Int)(W:World):Calls Tryz.prog 150 #[.int .i64 x,.int .i64 y] W fun e w'=>e= .returned (.int .i64 (Lib.compareInt x y))/\w'=W:=
 AnyG.cmp_Compare_int Tryz.cmpI64 x y W
theorem Tryz.orTwo(b:Nat)(x y:Int)(W:World)(h0:W.cell? ⟨b,0,none⟩=some (.int .i64 x))(h1:W.cell? ⟨b,1,none⟩=some (.int .i64 y)):
 Calls Tryz.prog 149 #[.slice (some ⟨b,0,none⟩) 2 2] W fun e w'=>e= .returned (.int .i64 (if x=0 then y else x))/\w'=W:=by
 go_enter Tryz.func149,Tryz.ntmps149
 go_wp2
 refine wp_loop_rounds 3 ?_;rw[rounds_succ]
 go_wp2
 all_goals (try rw[rounds_succ])
 all_goals (try go_wp2)
 all_goals (try rw[rounds_succ])
 all_goals (try go_wp2)
 all_goals (go_ret;refine⟨?_,rfl⟩;simp_all)
theorem two_cells(W:World)(a b a' b':Value)(T:TypeId):
 let w3:=((W.alloc (Obj.cells #[a,b] T)).alloc (Obj.cells #[a',b'] T)).drew
 w3.cell? ⟨W.heap.size,0,none⟩=some a/\w3.cell? ⟨W.heap.size,1,none⟩=some b/\w3.cell? ⟨W.heap.size+1,0,none⟩=some a'/\w3.cell? ⟨W.heap.size+1,1,none⟩=some b'/\
  ∃os0,w3=grow (W.drewN 1) os0:=by
 have e:((W.alloc (Obj.cells #[a,b] T)).alloc (Obj.cells #[a',b'] T)).drew=grow (W.drewN 1) #[Obj.cells #[a,b] T,Obj.cells #[a',b'] T]:=by
  rw[alloc_eq_grow,alloc_eq_grow,grow_grow];rfl
 have h0:(W.heap++ #[Obj.cells #[a,b] T,Obj.cells #[a',b'] T])[W.heap.size]? =some (Obj.cells #[a,b] T):=by
  rw[Zeg (Zal _),Zca];rfl
 have h1:(W.heap++ #[Obj.cells #[a,b] T,Obj.cells #[a',b'] T])[W.heap.size+1]? =some (Obj.cells #[a',b'] T):=by
  rw[Zeg (Nat.le_succ _),show W.heap.size.succ - W.heap.size=1 by omega];rfl
 simp only[e];refine⟨?_,?_,?_,?_,_,rfl⟩<;>unfold World.cell? <;>simp only[grow,World.drewN,h0,h1]<;>rfl
theorem Qvb(w:World)(a b:Value)(T:TypeId):(w.alloc (Obj.cells #[a,b] T)).cell? ⟨w.heap.size,0,none⟩=some a/\(w.alloc (Obj.cells #[a,b] T)).cell? ⟨w.heap.size,1,none⟩=some b:=by
 have h0:(w.heap.push (Obj.cells #[a,b] T))[w.heap.size]? =some (Obj.cells #[a,b] T):=by simp
 constructor<;>unfold World.cell? <;>simp only[World.alloc,h0]<;>rfl
def Qabu(p q:Int×Int):Int:=if Lib.compareInt p.2 q.2=0 then Lib.compareInt p.1 q.1 else Lib.compareInt p.2 q.2
theorem Tryz.cmpPoints(x y x' y':Int)(W:World):Calls Tryz.prog 137 #[.agg #[.int .i64 x,.int .i64 y],.agg #[.int .i64 x',.int .i64 y']] W fun e w'=>
 e= .returned (.int .i64 (Qabu (x,y) (x',y')))/\ ∃q os',w'=grow (W.drewN q) os':=by
 have hc1:=fun W'=>Tryz.cmp64 y y' W'
 have hc2:=fun W'=>Tryz.cmp64 x x' W'
 unfold Qabu;simp only;generalize Lib.compareInt y y'=r1 at hc1⊢;generalize Lib.compareInt x x'=r2 at hc2⊢;have hor:=fun (b:Nat) W'=>Tryz.orTwo b r1 r2 W'
 generalize (if r1=0 then r2 else r1)=r at hor⊢
 go_enter Tryz.func137,Tryz.ntmps137
 go_wp2
 refine wp_region_still_tail 10 (by kernel_rfl) (by kernel_rfl) ?_;simp only[ZbI,Zbq,Zcd,ZbQ];obtain⟨d1,d2,d3,d4,hg⟩:=two_cells W (.int .i64 x) (.int .i64 y) (.int .i64 x') (.int .i64 y') 94;change wpStill _ _ ((W.alloc (Obj.cells #[Value.int IntKind.i64 x,Value.int IntKind.i64 y] 94)).alloc (Obj.cells #[Value.int IntKind.i64 x',Value.int IntKind.i64 y'] 94)).drew (fun a'=>wpList _ _ _ _ a' ((W.alloc (Obj.cells #[Value.int IntKind.i64 x,Value.int IntKind.i64 y] 94)).alloc (Obj.cells #[Value.int IntKind.i64 x',Value.int IntKind.i64 y'] 94)).drew) _ _;generalize ((W.alloc (Obj.cells #[Value.int IntKind.i64 x,Value.int IntKind.i64 y] 94)).alloc (Obj.cells #[Value.int IntKind.i64 x',Value.int IntKind.i64 y'] 94)).drew=w3 at d1 d2 d3 d4 hg⊢
 still_step
 still_step
 still_step
 still_step
 still_call (hc1 _)
 still_step
 still_step
 still_step
 still_step
 still_call (hc2 _)
 refine wpStill_nil ?_
 go_wp2_with (go_at_call 149;refine (hor _ _ (Qvb _ _ _ _).1 (Qvb _ _ _ _).2).mono ?_;rintro e w' ⟨rfl,rfl⟩)
 go_ret
 obtain⟨os0,rfl⟩:=hg;exact⟨rfl,1,_,by rw[alloc_eq_grow,grow_grow]⟩
theorem Tryz.cmpPlaced90(x y t x' y' t':Int)(W:World):Calls Tryz.prog 203 #[.agg #[.int .i64 x,.int .i64 y,.int .i64 t],.agg #[.int .i64 x',.int .i64 y',.int .i64 t']] W fun e w'=>
 e= .returned (.int .i64 (Qabu (x,y) (x',y')))/\ ∃q os',w'=grow (W.drewN q) os':=by
 have hcon:=fun W'=>Tryz.cmpPoints x y x' y' W'
 generalize Qabu (x,y) (x',y')=r at hcon⊢
 go_enter Tryz.func203,Tryz.ntmps203
 go_wp2_with (go_at_call 137;refine (hcon _).mono ?_;rintro e w' ⟨rfl,q,os',rfl⟩)
 go_ret
 exact⟨rfl,q,_,by rw[alloc_eq_grow,alloc_eq_grow,grow_grow];show grow (grow (W.drewN q) _) os'=_;rw[grow_grow]⟩
end Go.Proofs
namespace Go.Ae
open Go.Proofs Go.Sort Go.Shelf
instance:Inhabited Qab:=⟨⟨⟨0,0⟩,0⟩⟩
def encP(x:Qab):List Value:=[.int .i64 x.At.X,.int .i64 x.At.Y,.int .i64 x.Tile]
def cfP(x y:Qab):Int:=Qabu (x.At.X,x.At.Y) (y.At.X,y.At.Y)
theorem Qz0(x y:Qab):ltOf cfP x y=Qap x.At y.At:=by
 simp only[ltOf,cfP,Qabu,Lib.compareInt,Qap]
 grind
theorem swoP:SWO (ltOf cfP) where
 irrefl x:=by rw[Qz0];simp only[Qap];grind
 trans x y z h1 h2:=by rw[Qz0] at*;simp only[Qap] at*;grind
 ntrans x y z h1 h2:=by rw[Qz0] at*;simp only[Qap] at*;grind
def Qfh(l:List Qab):List Qab:=l.foldr (fun x r=>insT x.At x.Tile r) []
theorem Qn1(x:Qab): ∀(l:List Qab),(insT x.At x.Tile l).Perm (x::l)
 |[]=>Zdv _
 |y::r=>by
  simp only[insT];split
  .exact Zdv _
  .exact ((Qn1 x r).cons y).trans (List.Perm.swap x y r)
theorem Qd4: ∀(l:List Qab),(Qfh l).Perm l
 |[]=>Zdv _
 |x::r=>(Qn1 x (Qfh r)).trans ((Qd4 r).cons x)
theorem Quq{a b c:Qae}(h1:Qap a b=true)(h2:Qap c b=false):Qap c a=false:=by
 simp only[Qap] at*;grind
theorem Qx3(x:Qab): ∀(l:List Qab),l.Pairwise (fun a b=>Qap b.At a.At=false)->(insT x.At x.Tile l).Pairwise (fun a b=>Qap b.At a.At=false)
 |[],_=>by simp[insT]
 |y::r,h=>by
  rw[Zcl] at h;simp only[insT];split
  .rename_i hl;rw[Zcl,Zcl];refine⟨fun z hz=> ?_,h⟩;have hyx:Qap y.At x.At=false:=by simp only[Qap] at*;grind
   rcases Zax.1 hz with rfl|hz
   .exact hyx
   .have:=h.1 z hz
    exact Quq hl this
  .rename_i hl;rw[Zcl];refine⟨fun z hz=> ?_,Qx3 x r h.2⟩;rcases (Qlc _ _ _ _).1 hz with rfl|hz
   .simpa using hl
   .exact h.1 z hz
theorem Qnm: ∀(l:List Qab),(Qfh l).Pairwise (fun a b=>Qap b.At a.At=false)
 |[]=>List.Pairwise.nil
 |x::r=>Qx3 x _ (Qnm r)
theorem Qacy(l:List Qab):(Qfh l).length=l.length:=(Qd4 l).length_eq
theorem at_inj{l:List Qab}(h:(l.map Qab.At).Nodup){x y:Qab}(hx:x∈l)(hy:y∈l)(he:x.At=y.At):x=y:=by
 induction l with
 |nil=>cases hx
 |cons z r ih=>
  rw[Zao,ZbS] at h;rcases Zax.1 hx with h1|h1<;>rcases Zax.1 hy with h2|h2
  .rw[h1,h2]
  .exact absurd (show z.At∈r.map Qab.At by rw[<-h1,he];exact Zdq h2) h.1
  .exact absurd (show z.At∈r.map Qab.At by rw[<-h2,<-he];exact Zdq h1) h.1
  .exact ih h.2 h1 h2
theorem Qlp{l l':List Qab}(hd:(l.map Qab.At).Nodup)(hp:l'.Perm l)(hs:l'.Pairwise (fun a b=>Qap b.At a.At=false)):l'=Qfh l:=by
 refine ZeB (le:=fun a b=>Qap b.At a.At=false) (fun a b ha hb h1 h2=> ?_) hs (Qnm l) (hp.trans (Qd4 l).symm);refine at_inj hd (hp.mem_iff.1 ha) ((Qd4 l).mem_iff.1 hb) ?_;revert h1 h2;obtain⟨⟨ax,ay⟩,at'⟩:=a;obtain⟨⟨bx,by'⟩,bt⟩:=b;simp only[Qap,Qae.mk.injEq]
 grind
def flP(l:List Qab):List Value:=l.flatMap encP
theorem flP_len(l:List Qab):(flP l).length=l.length*3:=by
 induction l with
 |nil=>rfl
 |cons x r ih=>simp only[flP,Zbm,ZaC,ZaF] at ih⊢;rw[ih];simp[encP];omega
theorem Ql5{ok:Nat->Prop}{hp:Nat->Option Obj}: ∀(l:List Qab) (L:List Value),rdr ok hp 3 (l.map Qab.c) L↔ ∃r,L=flP l++r
 |[],L=>by simp[rdr,flP]
 |x::r,L=>by
  simp only[Zao,rdr,Ql5 r,Qab.c,rdp,rd,flP,Zbm];constructor
  .rintro⟨_,⟨v,L1,rfl,rfl,v2,L2,rfl,rfl,v3,L3,rfl,rfl,_⟩,q,hq⟩;exact⟨q,by simp only[Zcd,ZbQ] at hq;rw[hq];rfl⟩
  .rintro⟨q,rfl⟩;exact⟨rfl,⟨_,_,rfl,rfl,_,_,rfl,rfl,_,_,rfl,rfl,trivial⟩,q,rfl⟩
theorem flP_get: ∀(l:List Qab) (t:Nat),t<l.length*3->(flP l)[t]? =some ((encP (l[t/3]?.getD default))[t % 3]!)
 |[],t,h=>by simp at h
 |x::r,t,h=>by
  by_cases ht:t<3
  .have:t=0\/t=1\/t=2:=by omega
   rcases this with rfl|rfl|rfl<;>simp[flP,encP]
  .obtain⟨u,rfl⟩: ∃u,t=u+3:=⟨t - 3,by omega⟩;have e1:(u+3)/3=u/3+1:=by omega
   have e2:(u+3) % 3=u % 3:=by omega
   have ih:=flP_get r u (by simp at h;omega);rw[e1,e2,ZaW,<-ih];simp[flP,encP]
theorem Qvu(l:List Qab):(flatK encP 3 l.toArray).toList=flP l:=by
 apply Zci;intro t;by_cases ht:t<l.length*3
 .rw[flP_get l t ht];have hs:t<(flatK encP 3 l.toArray).size:=by simp only[size_flatK,ZbZ];exact ht
  have h1:=get_flatK encP 3 l.toArray t (by simpa using ht);rw[ZaX,Zbh hs,<-getElem!_pos (flatK encP 3 l.toArray) t hs,h1];congr 3;simp[getElem!_def];cases l[t/3]? <;>rfl
 .have a1:(flatK encP 3 l.toArray).toList.length<=t:=by rw[ZaP,size_flatK,ZbZ];omega
  have a2:(flP l).length<=t:=by rw[flP_len];omega
  rw[ZaZ a1,ZaZ a2]
def srt.ca(_:List Qab):List AV:=[.own 0,.im (.fn 203 [] [])]
def srt.H0(a:List Qab):Qan:=[(0,(true,.arr 103 3 (a.map Qab.c)))]
def srt.H1(a:List Qab):Qan:=[(0,(true,.arr 103 3 ((Qfh a).map Qab.c)))]
def srt.row:Row:=orow srt.ca srt.H0 1 (fun a=>(a.map Qab.At).Nodup) (fun _=>true) (fun _=> .im (.tup [])) srt.H1 0
theorem srt.ok:Qas Tryz.prog 202 srt.row:=by
 rintro args h nx K ⟨a,τ,U,KL,hpre,rfl,hheap,hN,hK⟩;refine⟨Qh7 (by kernel_rfl),_,_,?_,hK⟩;intro C S vs R hW huse hfresh hnames hargs hfin;have hs0:sgx τ 1 nx 0=τ 0:=Zak (by omega);simp only[srt.ca,renL,AV.ren,hs0,Qa0,conc,rd,rdl] at hargs;obtain⟨v0,r0,hv,⟨hone,hown⟩,v1,r1,hr1,⟨ac,cc,hv1,hac,hcc⟩,hr2⟩:=hargs;have hac:ac= #[]:=by apply Zdu;simpa using hac
 have hcc:cc= #[]:=by apply Zdu;simpa using hcc
 subst hac hcc hr2 hr1 hv1;have hvs:vs= #[v0,.func (fnV 203) #[] #[]]:=by apply Zdu;simpa using hv
 subst hvs;have hm:h (τ 0)=some (true,.arr 103 3 (a.map Qab.c)):=by
  have:=hheap.1
  rwa [hs0] at this
 have hd0:domB (srt.H0 a) 0=true:=rfl;have hSm:S.h (τ 0)=some (true,.arr 103 3 (a.map Qab.c)):=by
  rw[huse (τ 0) (ZbK _ (hN.u 0 hd0)),hm]
 have hk0: ∀n,n∈KL↔n=τ 0:=by
  intro n;constructor
  .intro hn;obtain⟨j,h1,_,h3⟩:=hN.k1 n hn
   have:j=0:=by
    simp only[domB,srt.H0,hget] at h1;by_cases hj:j=0
    .exact hj
    .have:(0==j)=false:=by simpa using fun h=>hj h.symm
     rw[this] at h1;cases h1
   rw[h3,this]
  .rintro rfl;exact hN.k2 0 hd0 rfl
 obtain⟨m,hmm⟩: ∃m,m=τ 0:=⟨_,rfl⟩;rw[<-hmm] at hSm hown hk0;have hsl:=Qacy a;have fin: ∀(w':World),Qjb S m (.arr 103 3 ((Qfh a).map Qab.c)) (S.ρ m) [m] w'->
  (Pres (fun n=>S.h m≠none\/n≠m) S (S.one m (.arr 103 3 ((Qfh a).map Qab.c)) (S.ρ m) [m] w')->objc (S.one m (.arr 103 3 ((Qfh a).map Qab.c)) (S.ρ m) [m] w') (S.ρ m) (.arr 103 3 ((Qfh a).map Qab.c)))->R (.returned (.tuple #[])) w':=by
  intro w' hone hob;have hp:=Qg2 hW hone;refine hfin (.tuple #[]) _ (Qqp hW hone (hob hp)) ?_ ⟨hp.ok,fun n _=>hp.nm n (.inl (by rw[hSm];simp))⟩ ⟨#[],rfl,rfl⟩;funext n;simp only[Env.one,Eff.appf,srt.H1,renH,hs0,hget,AObj.ren,<-hmm];by_cases hn:n=m
  .subst hn;simp
  .have h1:(m==n)=false:=by simpa using fun h=>hn h.symm
   have h2:KL.contains n=false:=by
    rw[<-ZaO,Zbr,hk0];exact hn
   simp only[h1,Zbc,h2,hn,ZbJ,Zat]
 have hown':=hown _ hSm;have hobj:=hW.obj _ _ hSm;have hloc:=fun lc=>hW.loc m _ lc hSm
 cases hρ:S.ρ m with
 |none=>
  rw[hρ] at hown' hobj;simp only[objc] at hobj;have ha:a=[]:=by simpa using hobj.2
  subst ha;simp only at hown';rw[hown',Qoi (by decide)];refine (AnyF.slices_SortFunc_none Tryz.sortPl none 0 (.func (.func 203) #[] #[]) S.w).mono ?_;rintro e w' ⟨rfl,rfl⟩;refine fin S.w (Qacz hSm (fun l hl=>by rw[hρ] at hl;cases hl) rfl rfl) (fun _=> ?_);rw[hρ];exact⟨ZaU _,rfl⟩
 |some lc=>
  rw[hρ] at hown' hobj;simp only[objc,AObj.len] at hobj hown';obtain⟨g1,g2,cv,g3,g4,g5⟩:=hobj;obtain⟨hlb,hlk⟩:=hloc lc hρ;rw[Ql5] at g5;obtain⟨rest,g5⟩:=g5;simp only[Zbv] at g1 g2 hown';have hheap:S.w.heap[lc.b]? =some (.cells cv 103 (0,0)):=g3;have hlen:lc.p+a.length*3<=cv.size:=by omega
  have hF:(flatK encP 3 a.toArray).size=a.length*3:=by simp
  have hget: ∀j,j<a.length*3->cv[lc.p+j]? =some ((flatK encP 3 a.toArray)[j]!):=by
   intro j hj;have h1:(cv.toList.drop lc.p)[j]? =(flP a++rest)[j]? :=by rw[g5]
   rw[Zbs,ZaX,ZaG (by rw[flP_len];exact hj),<-Qvu,ZaX] at h1;rw[h1,Zbh (by rw[hF];exact hj),getElem!_pos _ _ (by rw[hF];exact hj)]
  have hH:HoldsK encP 3 S.w lc.b lc.p a.toArray:=by
   intro j hj;rw[hF] at hj;refine⟨?_,?_⟩
   .simp only[World.cell?,hheap,Zdi,ZaB,ZbJ,id];exact hget j hj
   .simp only[World.frozen?,hheap];simp
  have hc:=AnyQ.slices_SortFunc Tryz.sortPl 3 Tryz.isAgg103 Tryz.sizeOf103 encP (fun _=>rfl) (fun x v hv=>by simp[encP] at hv;rcases hv with rfl|rfl|rfl<;>rfl) cfP swoP 203 #[] lc.b lc.p lc.cap a.toArray S.w
   (Qhx (Qh7 (by kernel_rfl))) (fun m os dk hs x y=>Tryz.cmpPlaced90 _ _ _ _ _ _ _) hH hlb (by simp only[ZbZ,LIM] at g1⊢;omega)
  rw[hown',Qoi (by decide)];refine hc.mono ?_;rintro e w' ⟨rfl,d',n,os,hperm,hsort,rfl⟩;have hsz:d'.size=a.length:=hperm.1;have hd':d'.toList=Qfh a:=by
   refine Qlp hpre ?_ ?_
   .have:=hperm.2.2
    rwa [show d'.extract 0 a.toArray.size=d' by rw[ZbZ,<-hsz];exact Zdy,show a.toArray.extract 0 a.toArray.size=a.toArray from Zdy] at this
   .rw[Zdj];intro i j hi hj hij
    have:=hsort i j (ZaU _) hij (by rw[ZbZ,<-hsz];simpa using hj)
    rw[Qz0,getElem!_pos d' i (by simpa using hi),getElem!_pos d' j (by simpa using hj)] at this;simpa using this
  obtain rfl:d'=(Qfh a).toArray:=by apply Zdu;rw[hd']
  have hF':(flatK encP 3 (Qfh a).toArray).size=a.length*3:=by simp[hsl]
  have hl2:(flatK encP 3 (Qfh a).toArray).toList.length=a.length*3:=by rw[ZaP,hF']
  have hsize:S.w.heap.size<=(sortWorldK encP 3 S.w lc.b lc.p n (Qfh a).toArray os).heap.size:=by
   simp[sortWorldK,grow,putRowK,Sort.ahead]
  have hb: ∀b,b<S.w.heap.size->(sortWorldK encP 3 S.w lc.b lc.p n (Qfh a).toArray os).heap[b]? =if lc.b=b then S.w.heap[b]?.map (onCells (putCells id lc.p (flatK encP 3 (Qfh a).toArray))) else S.w.heap[b]? :=by
   intro b hb;have e0:b<(putRowK encP 3 (Sort.ahead S.w n) lc.b lc.p (Qfh a).toArray).heap.size:=by simpa[putRowK,Sort.ahead] using hb
   simp only[sortWorldK,grow];rw[ZdE e0];simp only[putRowK,putRow,mapBlock,Sort.ahead,ZdV]
  refine fin _ ⟨rfl,rfl,rfl,hsize,?_,.inl (by simp),?_,?_,?_⟩ ?_
  .intro b hb1 hb2;rw[hb b hb1,Zai (hb2 m _ lc (by simp) hSm hρ)]
  .intro lo hlo;rw[hρ] at hlo;obtain rfl:=Zaa hlo;exact⟨Zbo hlb hsize,.inr ⟨m,_,lc,by simp,hSm,hρ,rfl⟩⟩
  .intro f hf;rw[hSm] at hf;obtain rfl:=Zaa hf;exact⟨rfl,rfl,by simp[AObj.len,hsl]⟩
  .intro n' f _ hnone;rw[hSm] at hnone;cases hnone
  .intro _;rw[hρ];simp only[objc,Zbv,hsl];refine⟨g1,g2,putCells id lc.p (flatK encP 3 (Qfh a).toArray) cv,?_,by simpa[putCells] using g4,?_⟩
   .simp only[Env.one,Env.hp];rw[hb lc.b hlb,Zak rfl,hheap];rfl
   .rw[Ql5];refine⟨(cv.toList.drop (lc.p+a.length*3)),?_⟩;apply Zci;intro t;rw[Zbs,ZaX,putCells,ZeH,hF',<-Qvu];by_cases ht:t<a.length*3
    .rw[ZaG (by rw[hl2];exact ht),ZaX,Zbh (show lc.p+t<cv.size by omega),Zbh (by rw[hF'];exact ht)];simp only[ZaT,id];rw[Zak ⟨by omega,by omega⟩,ZcW,getElem!_pos _ _ (by rw[hF'];exact ht)]
    .rw[ZaI (by rw[hl2];omega),hl2,Zbs,ZaX,show lc.p+a.length*3+(t - a.length*3)=lc.p+t by omega];cases cv[lc.p+t]? with
     |none=>rfl
     |some x=>simp only[ZaT];rw[Zai (by omega)]
end Go.Ae
namespace Go.Ae
open Go.Proofs
def asmOf.fv(a:(List Qab)):Asm:=(fun l=>⟨Qfh l⟩) a
def asmOf.row:Row:=vK (b1 (qS Qab.d_le Qab.c_n)) (rA Asm.d_le) (fun a=>(a.map Qab.At).Nodup/\a.length<=1000000) asmOf.fv
def asmOf.q:=vKq (R:=asmOf.row) rfl
theorem asmOf.ok:Qas Tryz.prog 200 asmOf.row:=by
 refine vw (tC clonC.ok (tC srt.ok tN)) Tryz.func200 rfl (by kernel_rfl) ?_;intro a hpre;simp only[Tryz.f200,Option.getD];simp(maxSteps:=9^9)(disch:=omega)only[ZZ,simprocAttr,rch,asmOf.fv];refine orow.os a [] hpre.2 (fun j=>by simp[domB,hget]) rfl rfl ?_ ?_
 .simp(maxSteps:=9^9)(disch:=omega)only[ZZ,simprocAttr,rch,asmOf.fv,clonC.ca,Qer,Qb4]
 simp(maxSteps:=9^9)(disch:=omega)only[ZZ,simprocAttr,rch,asmOf.fv,clonC.H1,sub];refine orow.os a [1] hpre.1 (fun j=> ?_) rfl rfl ?_ ?_
 .simp only[domB,srt.H0,hget];by_cases hj:j=0
  .subst hj;simp
  .have:(0==j)=false:=by simpa using fun h=>hj h.symm
   rw[this];simp;omega
 .simp(maxSteps:=9^9)(disch:=omega)only[ZZ,simprocAttr,rch,asmOf.fv,srt.ca,srt.H0,Qer];exact⟨rfl,rfl⟩
 simp(maxSteps:=9^9)(disch:=omega)only[ZZ,simprocAttr,rch,asmOf.fv,srt.H1,sub,Zbi,ZbT]
def mkPl(q:Qae×Int):Qab:=⟨q.1,q.2⟩
def repM1(m:Sim)(t:List (Qae×Int))(x:Qab):Option (List (Qae×Int)):=
 if (m.Labels[x.Tile.toNat]?.getD 0)<0 then some t
 else if (lkP t (Qgu x.At m.Scale).1).getD (m.Labels[x.Tile.toNat]?.getD 0)≠(m.Labels[x.Tile.toNat]?.getD 0) then none
 else some (updP t (Qgu x.At m.Scale).1 (m.Labels[x.Tile.toNat]?.getD 0))
theorem find_perm{l l':List Qab}(hp:l.Perm l')(hd:(l'.map Qab.At).Nodup)(p:Qae):l.find? (fun x=>decide (x.At=p))=l'.find? (fun x=>decide (x.At=p)):=by
 cases h1:l.find? (fun x=>decide (x.At=p)) with
 |none=>
  symm;rw[Zcu] at h1⊢;exact fun x hx=>h1 x (hp.mem_iff.2 hx)
 |some x=>
  have hx:=hp.mem_iff.1 (Zcx h1);have hxp:=Zcp h1;cases h2:l'.find? (fun x=>decide (x.At=p)) with
  |none=>
   rw[Zcu] at h2;exact absurd hxp (h2 x hx)
  |some y=>
   have hy:=Zcx h2;have hyp:=Zcp h2;rw[at_inj hd hx hy];rw[Zan] at hxp hyp;rw[hxp,hyp]
theorem lk_find(p:Qae): ∀(t:List (Qae×Int)),(((t.map mkPl).find? (fun x=>decide (x.At=p))).map Qab.Tile)=lkP t p
 |[]=>rfl
 |(k,w)::r=>by
  simp only[Zao,Zej,mkPl,lkP];by_cases h:k=p
  .subst h;simp
  .have h1:decide (k=p)=false:=by simpa using h
   have h2: ¬p=k:=fun h3=>h h3.symm
   rw[h1,Zai h2];exact lk_find p r
theorem Qac3(t:List (Qae×Int)):(t.map mkPl).map Qab.At=t.map Prod.fst:=by simp[mkPl]
theorem lk_at{t:List (Qae×Int)}(hd:(t.map Prod.fst).Nodup)(p:Qae):atA ⟨Qfh (t.map mkPl)⟩ p=(lkP t p).getD (-1):=by
 have hd':((t.map mkPl).map Qab.At).Nodup:=by rw[Qac3];exact hd
 simp only[atA];rw[find_perm (Qd4 _) hd',lk_find]
theorem Qm3{t:List (Qae×Int)}{p:Qae}(v:Int)(h:lkP t p=none):updP t p v=t++[(p,v)]:=by
 induction t with
 |nil=>rfl
 |cons q r ih=>
  obtain⟨k,w⟩:=q;simp only[lkP] at h;split at h
  .cases h
  .rename_i hn;simp only[updP,Zai hn,ZaJ];rw[ih h]
theorem updP_same{t:List (Qae×Int)}{p:Qae}{v:Int}(h:lkP t p=some v):updP t p v=t:=by
 induction t with
 |nil=>cases h
 |cons q r ih=>
  obtain⟨k,w⟩:=q;simp only[lkP] at h;simp only[updP];split at h
  .rename_i he;obtain rfl:=Zaa h;rw[Zak he,he]
  .rename_i hn;rw[Zai hn,ih h]
theorem Qyz{t:List (Qae×Int)}{p:Qae}(h:lkP t p=none):p∉t.map Prod.fst:=by
 induction t with
 |nil=>simp
 |cons q r ih=>
  obtain⟨k,w⟩:=q;simp only[lkP] at h;split at h
  .cases h
  .rename_i hn;simp only[Zao,Zax,Zfg];exact⟨hn,ih h⟩
theorem Qac0{t:List (Qae×Int)}{p:Qae}{v:Int}(h:lkP t p=some v):(p,v)∈t:=by
 induction t with
 |nil=>cases h
 |cons q r ih=>
  obtain⟨k,w⟩:=q;simp only[lkP] at h;split at h
  .rename_i he;obtain rfl:=Zaa h;rw[he];exact Zau ..
  .exact Zas _ (ih h)
structure RM(t:List (Qae×Int))(o:Asm)(k:Nat):Prop where
 nd:(t.map Prod.fst).Nodup
 pos: ∀q∈t,0<=q.2
 eq:o=⟨Qfh (t.map mkPl)⟩
 len:t.length<=k
theorem RM.step{m:Sim}{t:List (Qae×Int)}{o:Asm}{k:Nat}(h:RM t o k)(x:Qab):(∃t' o',repM1 m t x=some t'/\repS1 m o x=some o'/\RM t' o' (k+1))\/(repM1 m t x=none/\repS1 m o x=none):=by
 obtain⟨nd,pos,rfl,len⟩:=h;simp only[repM1,repS1];generalize m.Labels[x.Tile.toNat]?.getD 0=n;generalize (Qgu x.At m.Scale).1=p;by_cases c1:n<0
 .rw[Zak c1,Zak c1];exact .inl ⟨_,_,rfl,rfl,nd,pos,rfl,by omega⟩
 rw[Zai c1,Zai c1,lk_at nd];cases hq:lkP t p with
 |none=>
  simp only[Option.getD_none];rw[Zai (by simp),Zai (by omega),Zak (by omega)];refine .inl ⟨_,_,rfl,rfl,?_,?_,?_,?_⟩
  .rw[Qm3 n hq,ZbG,Zcr];refine⟨nd,by simp,?_⟩;intro a ha b hb hab;simp only[Zao,ZaV,Zat] at hb;exact Qyz hq (by rw[<-hb,<-hab];exact ha)
  .intro q hm;rw[Qm3 n hq] at hm;rcases Zar.1 hm with hm|hm
   .exact pos q hm
   .simp only[Zat] at hm;subst hm;simp only;omega
  .rw[Qi8,Qm3 n hq];congr 1;have hd':(((t++[(p,n)]).map mkPl).map Qab.At).Nodup:=by
    rw[Qac3,ZbG,Zcr];refine⟨nd,by simp,?_⟩;intro a ha b hb hab;simp only[Zao,ZaV,Zat] at hb;exact Qyz hq (by rw[<-hb,<-hab];exact ha)
   refine Qlp hd' ?_ (Qx3 ⟨p,n⟩ _ (Qnm _));refine (Qn1 ⟨p,n⟩ _).trans ?_;rw[ZbG];refine ((Qd4 _).cons _).trans ?_;exact (Zeq _ _).symm
  .rw[Qm3 n hq];simp;omega
 |some v=>
  simp only[Zad];have hv:=pos _ (Qac0 hq);simp only at hv;by_cases c2:v=n
  .subst c2;rw[Zai (by simp),Zai (by simp),Zai (by omega),updP_same hq];exact .inl ⟨_,_,rfl,rfl,nd,pos,rfl,by omega⟩
  .rw[Zak c2,Zak ⟨hv,c2⟩];exact .inr ⟨rfl,rfl⟩
theorem nodup_at{l:List Qab}(h:(l.map Qab.At).Nodup): ∀x∈l,∀y∈l,x.At=y.At->x=y:=by
 induction l with
 |nil=>intro x hx;cases hx
 |cons z r ih=>
  simp only[Zao,ZbS] at h;intro x hx y hy e;rcases Zax.1 hx with ex|hx2<;>rcases Zax.1 hy with ey|hy2
  .rw[ex,ey]
  .exact absurd (ZaM.2 ⟨y,hy2,by rw[<-e,ex]⟩) h.1
  .exact absurd (ZaM.2 ⟨x,hx2,by rw[e,ey]⟩) h.1
  .exact ih h.2 x hx2 y hy2 e
theorem Qala{s:Qaa}{a:Asm}(h: ∀x∈a.Tiles,Qcs s x.Tile)(p:Qae):Qaw (fun x=>decide (x.At=p)) 0 a.Tiles<0↔atA a p<0:=by
 simp only[atA];rcases Qep (fun x=>decide (x.At=p)) a.Tiles 0 with ⟨h1,h2⟩|⟨i,x,h1,h2,h3⟩
 .rw[h1,h2];simp
 .rw[h1,h2]
  have:=(h x (Zae h3)).1
  simp only[ZaT,Zad];omega
theorem RM.put{t:List (Qae×Int)}{o:Asm}{k:Nat}(h:RM t o k){p:Qae}{v:Int}(hv:0<=v)(hn:lkP t p=none):RM (updP t p v) (putA o p v) (k+1):=by
 obtain⟨nd,pos,rfl,len⟩:=h;have hnd:((t++[(p,v)]).map Prod.fst).Nodup:=by
  rw[ZbG,Zcr];refine⟨nd,by simp,?_⟩;intro a ha b hb hab;simp only[Zao,ZaV,Zat] at hb;exact Qyz hn (by rw[<-hb,<-hab];exact ha)
 rw[Qm3 v hn];refine⟨hnd,?_,?_,by simp;omega⟩
 .intro q hm;rcases Zar.1 hm with hm|hm
  .exact pos q hm
  .simp only[Zat] at hm;subst hm;exact hv
 .rw[Qi8];congr 1;have hd':(((t++[(p,v)]).map mkPl).map Qab.At).Nodup:=by rw[Qac3];exact hnd
  refine Qlp hd' ?_ (Qx3 ⟨p,v⟩ _ (Qnm _));refine (Qn1 ⟨p,v⟩ _).trans ?_;rw[ZbG];refine ((Qd4 _).cons _).trans ?_;exact (Zeq _ _).symm
theorem RM.at{t:List (Qae×Int)}{o:Asm}{k:Nat}(h:RM t o k):Qbw t=atA o:=by
 funext p;rw[h.eq,lk_at h.nd];rfl
theorem RM.size{t:List (Qae×Int)}{o:Asm}{k:Nat}(h:RM t o k):o.Tiles.length=t.length:=by
 rw[h.eq];simp only[Qacy,Zbv]
theorem Qac4: ∀(l t:List Qab),((t++l).map Qab.At).Nodup->l.foldl (fun u x=>updP u x.At x.Tile) (t.map fun x=>(x.At,x.Tile))=(t++l).map fun x=>(x.At,x.Tile)
 |[],t,_=>by simp
 |x::r,t,h=>by
  have hx:lkP (t.map fun x=>(x.At,x.Tile)) x.At=none:=by
   cases hq:lkP (t.map fun x=>(x.At,x.Tile)) x.At with
   |none=>rfl
   |some v=>
    exfalso;obtain⟨y,hy,he⟩:=ZaM.1 (Qac0 hq);have e1:y.At=x.At:=ZbR Prod.fst he;rw[ZbG,Zcr] at h;exact h.2.2 _ (Zdq hy) _ (Zdq (Zau ..)) e1
  rw[Zdm,Qm3 _ hx]
  have:=Qac4 r (t++[x]) (by simpa using h)
  simpa using this
theorem RM.of{a:Asm}(hf:Qaz none a.Tiles=true)(hp: ∀x∈a.Tiles,0<=x.Tile):RM (tlUp a.Tiles) a a.Tiles.length:=by
 have hn:=Qix hf;have e:tlUp a.Tiles=a.Tiles.map fun x=>(x.At,x.Tile):=by
  have:=Qac4 a.Tiles [] (by simpa using hn)
  simpa[tlUp] using this
 have em:(a.Tiles.map fun x=>(x.At,x.Tile)).map mkPl=a.Tiles:=by
  rw[ZdY];exact List.map_id' _
 rw[e];refine⟨by rw[ZdY];exact hn,?_,?_,by simp⟩
 .intro q hq;obtain⟨x,hx,rfl⟩:=ZaM.1 hq;exact hp x hx
 .rw[em];have hs:=(Qe4 _ _ hf).2;have hw:a.Tiles.Pairwise (fun x y=>Qap y.At x.At=false):=by
   rw[Zdj];intro i j hi hj hij
   have:=hs i j a.Tiles[i] a.Tiles[j] hij (Zac hi) (Zac hj)
   simp only[Qap] at this⊢
   grind
  rw[<-Qlp hn (Zdv _) hw]
theorem fit_at{s:Qar}{a:Asm}(h:Qn7 s.Set a)(o:Opt):(Qau o.Tile 0 (s.Set.Tiles.length - 1) && Qpg s (atA a) o.At o.Tile)=canS s a o:=by
 have h2:decide (atA a o.At<0)=decide (Qaw (fun x=>decide (x.At=o.At)) 0 a.Tiles<0):=by rw[Zdb];exact (Qala h.2 o.At).symm
 simp only[Qpg,canS,Qae8];rw[h2];cases Qbi o.At<;>cases Qau o.Tile 0 (s.Set.Tiles.length - 1)<;>simp
def Qacn(s:Qar):List (Qae×Int)->List Opt->Nat->Asm×Int×Int
 |t,[],_=>(⟨Qfh (t.map mkPl)⟩,0,0)
 |t,o::r,i=>if (Qau o.Tile 0 (s.Set.Tiles.length - 1) && Qpg s (Qbw t) o.At o.Tile)=false then (⟨[]⟩,(i:Int),5) else if 500<=t.length then (⟨[]⟩,0,4) else Qacn s (updP t o.At o.Tile) r (i+1)
def Qacg(s:Qar):Asm->List Opt->Nat->Asm×Int×Int
 |a,[],_=>(a,0,0)
 |a,o::r,i=>if canS s a o=false then (⟨[]⟩,(i:Int),5) else if 500<=a.Tiles.length then (⟨[]⟩,0,4) else Qacg s (putA a o.At o.Tile) r (i+1)
theorem Qac5{s:Qar}(hs:s.Set.Tiles.length<=160): ∀(l:List Opt) (t:List (Qae×Int)) (a:Asm) (k i:Nat),RM t a k->Qn7 s.Set a->Qacn s t l i=Qacg s a l i
 |[],t,a,k,i,h,_=>by simp only[Qacn,Qacg,h.eq]
 |o::r,t,a,k,i,h,ha=>by
  simp only[Qacn,Qacg];rw[h.at,fit_at ha,<-h.size];by_cases c1:canS s a o=false
  .rw[Zak c1,Zak c1]
  rw[Zai c1,Zai c1];by_cases c2:500<=a.Tiles.length
  .rw[Zak c2,Zak c2]
  rw[Zai c2,Zai c2];rw[Zbb] at c1;simp only[canS,Zaf,Zan] at c1;obtain⟨d1,d2,d3,_⟩:=c1;have hno:=Qma d3;have hv:0<=o.Tile:=by
   simp only[Qau,Zaf,Zan] at d2;exact d2.1
  have hlk:lkP t o.At=none:=by
   have h1:Qbw t o.At=atA a o.At:=congrFun h.at o.At;have h2:=(Qala ha.2 o.At).1 d3;cases hq:lkP t o.At with
   |none=>rfl
   |some v=>
    exfalso;have h3:=h.pos _ (Qac0 hq);simp only[Qbw,hq,Zad] at h1;simp only at h3;omega
  have hw:Qau o.Tile 0 159=true:=by
   simp only[Qau,Zaf,Zan] at d2⊢;omega
  refine Qac5 hs r _ _ (k+1) (i+1) (h.put hv hlk) ⟨?_,?_⟩
  .rw[Qi8];exact Qki d1 hw _ none ha.1 (fun q hq=>by cases hq) hno
  .intro x hx;rw[Qi8] at hx;rcases (Qlc _ _ _ _).1 hx with rfl|hx
   .simp only[Qau,Zaf,Zan] at d2;exact⟨hv,by simp only;omega⟩
   .exact ha.2 x hx
def eqOption.fv(a:Opt×Opt):Bool:=(fun a b=>decide (a=b)) (a.1) (a.2)
def eqOption.row:Row:=vK (b2 (qR Opt.d_le) (qR Opt.d_le)) rB (fun a=>True) eqOption.fv
def eqOption.q:=vKq (R:=eqOption.row) rfl
theorem eqOption.ok:Qas Tryz.prog 57 eqOption.row:=by
 refine vw (tC eqPoint.ok tN) Tryz.func57 rfl (by kernel_rfl) ?_;intro a hpre;simp only[Tryz.f57,Option.getD];simp(maxSteps:=9^9)(disch:=omega)only[ZZ,simprocAttr,rch,eqOption.fv,eqPoint.q,eqPoint.fv];obtain⟨⟨⟨x,y⟩,u⟩,⟨⟨z,w⟩,v⟩⟩:=a;simp only[Opt.mk.injEq,Qae.mk.injEq]
 grind
def szOptionS.fv(a:(List Opt)×Int):Int:=(fun a l=>szC a.length l) (a.1) (a.2)
def szOptionS.row:Row:=vK (b2 (qS Opt.d_le Opt.c_n) qI) rI (fun a=> -1<=a.2/\a.2<=1048576) szOptionS.fv
def szOptionS.q:=vKq (R:=szOptionS.row) rfl
theorem szOptionS.ok:Qas Tryz.prog 17 szOptionS.row:=by
 refine vw tN Tryz.func17 rfl (by kernel_rfl) ?_;intro a hpre;simp only[Tryz.f17,Option.getD];simp(maxSteps:=9^9)(disch:=omega)only[ZZ,simprocAttr,rch,szOptionS.fv];intro h;rw[Qak (by omega) (by omega)];simp only[szC];grind
def toOptionS.fv(a:(List Opt)):List Opt:=(fun p=>p) a
def toOptionS.row:Row:=vK (b1 (qS Opt.d_le Opt.c_n)) (rS Opt.d_le Opt.c_n) (fun a=>a.length<=1073741824) toOptionS.fv
def toOptionS.q:=vKq (R:=toOptionS.row) rfl
def YaG:=J @toOptionS.fv.eq_1 (J @toOption.q @toOption.fv.eq_1)
theorem toOptionS.ok:Qas Tryz.prog 26 toOptionS.row:=by
 refine vw (tC toOption.ok tN) Tryz.func26 rfl (by kernel_rfl) ?_;intro a hpre;simp only[Tryz.f26,Option.getD];simp(maxSteps:=9^9)(disch:=omega)only[ZZ,simprocAttr,rch,YaG];intro hlen;have hpl:a.length<=1073741824:=hpre;refine⟨by omega,?_⟩;refine Qay.old ⟨{k:Nat//k<=a.length},fun k=>⟨[(4,.im (.int .i64 k.1)),(3,.own 1),(0,.im (.sl false 3 (a.map Opt.c)))],[(1,(true,.arr 108 3 ((a.take k.1).map Opt.c++List.replicate (a.length - k.1) [.int .i64 0,.int .i64 0,.int .i64 0])))],2⟩,fun k=>a.length - k.1,fun k=>⟨by simp[Qad.good,belT,belH,Qam,AV.bel,belL],Zal _⟩,⟨⟨0,by omega⟩,by simp(maxSteps:=9^9)(disch:=omega)only[ZZ,simprocAttr,rch,YaG,sub];simp⟩,fun k=> ?_⟩;obtain⟨k,hk1⟩:=k;simp(maxSteps:=9^9)(disch:=omega)only[ZZ,simprocAttr,rch,YaG,sub,Qal,Qk2 _ _ a k hk1];intro _;refine⟨fun hk=> ?_,fun hk=> ?_⟩
 .refine⟨hk,fun x hx=>⟨hk,hk,Qi3 (Qj5 Opt.c _ a k x hx) ?_⟩⟩;simp(maxSteps:=9^9)(disch:=omega)only[ZZ,simprocAttr,rch,YaG,sub];refine⟨⟨k+1,by omega⟩,by simp only;omega,?_,?_⟩
  .rw[Qak (by omega) (by omega)];simp only;omega
  .exact Qli Opt.c _ a k x hx
 .rw[Qkp Opt.c _ a k (by omega)];simp[Opt.d_R]
def eqOptionS.fv(a:(List Opt)×(List Opt)):Bool:=(fun a b=>decide (a=b)) (a.1) (a.2)
def eqOptionS.row:Row:=vK (b2 (qS Opt.d_le Opt.c_n) (qS Opt.d_le Opt.c_n)) rB (fun a=>True) eqOptionS.fv
def eqOptionS.q:=vKq (R:=eqOptionS.row) rfl
def YaH:=J @eqOptionS.fv.eq_1 (J @eqOption.q @eqOption.fv.eq_1)
theorem eqOptionS.ok:Qas Tryz.prog 34 eqOptionS.row:=by
 refine vw (tC eqOption.ok tN) Tryz.func34 rfl (by kernel_rfl) ?_;intro a hpre;simp only[Tryz.f34,Option.getD];simp(maxSteps:=9^9)(disch:=omega)only[ZZ,simprocAttr,rch,YaH];intro h1 h2;simp only[Qal];refine⟨fun hl=> ?_,fun hl=> ?_⟩
 .have:a.1≠a.2:=fun h=>hl (by rw[h])
  simp[this]
 have hl:a.1.length=a.2.length:=by omega
 refine Qay.old ⟨{k:Nat//k<=a.1.length/\a.1.take k=a.2.take k},fun k=>⟨[(5,.im (.int .i64 k.1)),(4,.im (.bool false)),(0,.im (.sl false 3 (a.1.map Opt.c))),(1,.im (.sl false 3 (a.2.map Opt.c)))],[],0⟩,fun k=>a.1.length - k.1,fun k=>⟨by simp[Qad.good,belT,belH,Qam,AV.bel,belL],Zal _⟩,⟨⟨0,by simp⟩,by simp(maxSteps:=9^9)(disch:=omega)only[ZZ,simprocAttr,rch,YaH,sub]⟩,fun k=> ?_⟩;obtain⟨k,hk1,hk2⟩:=k;simp(maxSteps:=9^9)(disch:=omega)only[ZZ,simprocAttr,rch,YaH,sub,Qal];intro _;refine⟨fun hk=>⟨hk,fun x hx=>⟨by omega,fun y hy=> ?_⟩⟩,fun hk=> ?_⟩
 .obtain⟨g1,g2⟩:=Qew hl hk1 hk2 hx hy;exact⟨fun h=>by simp[g2 (show x≠y from h)],fun h=>Qb6 hk h1 ⟨by omega,g1 (show x=y from ZaY.1 h)⟩⟩
 .rw[Zap (by omega),Zap (by omega)] at hk2;simp[hk2]
def l03Own.fv(a:Asm):Asm:=(fun a=>a) a
def l03Own.row:Row:=vK (b1 (qP 1 Asm.d_le)) (rA Asm.d_le) (fun a=>a.Tiles.length<=1000000) l03Own.fv
def l03Own.q:=vKq (R:=l03Own.row) rfl
theorem l03Own.ok:Qas Tryz.prog 106 l03Own.row:=by
 refine vw tN Tryz.func106 rfl (by kernel_rfl) ?_;intro a hpre;simp only[Tryz.f106,Option.getD];simp(maxSteps:=9^9)(disch:=omega)only[ZZ,simprocAttr,rch,l03Own.fv];exact⟨by simp[OneR,allD,D.one,Qab.c],by omega⟩
theorem Qac8{s:Qar}{l:List Opt}{i:Nat}{o:Opt}(hx:l[i]? =some o)(b:Asm):Qacg s b (l.drop i) i=if canS s b o=false then (⟨[]⟩,(i:Int),5) else if 500<=b.Tiles.length then (⟨[]⟩,0,4) else Qacg s (putA b o.At o.Tile) (l.drop (i+1)) (i+1):=by
 rw[Qd3 hx,Qacg]
theorem can_in{s:Qar}{b:Asm}(hs:s.Set.Tiles.length<=160)(ha:Qn7 s.Set b){o:Opt}(h:canS s b o=true):Qn7 s.Set (putA b o.At o.Tile):=by
 simp only[canS,Zaf,Zan] at h;obtain⟨d1,d2,d3,_⟩:=h;have hno:=Qma d3;have hw:Qau o.Tile 0 159=true:=by
  simp only[Qau,Zaf,Zan] at d2⊢;omega
 refine⟨?_,?_⟩
 .rw[Qi8];exact Qki d1 hw _ none ha.1 (fun q hq=>by cases hq) hno
 .intro x hx;rw[Qi8] at hx;rcases (Qlc _ _ _ _).1 hx with rfl|hx
  .simp only[Qau,Zaf,Zan] at d2;exact⟨by simp only;omega,by simp only;omega⟩
  .exact ha.2 x hx
def l08Play.fv(a:Qar×(List Opt)):Asm×Int×Int:=(fun s l=>Qacg s s.Seed l 0) (a.1) (a.2)
def l08Play.row:Row:=vK (b2 (qP 4 Qar.d_le) (qS Opt.d_le Opt.c_n)) (r3 (rA Asm.d_le) rI rI) (fun a=>setP a.1.Set/\Qn7 a.1.Set a.1.Seed/\a.1.Set.Tiles.length<=160/\a.1.Seed.Tiles.length<=1000000) l08Play.fv
def l08Play.q:=vKq (R:=l08Play.row) rfl
def YaI:=J @l08Play.fv.eq_1<|J @l03Own.q<|J @l03Own.fv.eq_1<|J @l08Can.q<|J @l08Can.fv.eq_1<|J @l08Attach.q @l08Attach.fv.eq_1
theorem l08Play.ok:Qas Tryz.prog 71 l08Play.row:=by
 refine vw (tC l03Own.ok (tC l08Can.ok (tC l08Attach.ok tN))) Tryz.func71 rfl (by kernel_rfl) ?_;intro a hpre;simp only[Tryz.f71,Option.getD];simp(maxSteps:=9^9)(disch:=omega)only[ZZ,simprocAttr,rch,YaI];obtain⟨s,l⟩:=a;simp only at hpre⊢;obtain⟨h1,h2,h3,h4⟩:=hpre;refine⟨h4,?_⟩;refine Qay.old ⟨{k:Nat×Asm//k.1<=l.length/\Qn7 s.Set k.2/\Qacg s s.Seed l 0=Qacg s k.2 (l.drop k.1) k.1},fun k=>⟨[(8,.im (.int .i64 k.1.1)),(7,.ptr 2 0),(6,.im (.int .i64 0)),(5,.im (.int .i64 0)),(4,.ptr 1 0),(0,.ptr 0 0),(1,.im (.sl false 3 (l.map Opt.c)))],[(2,(true,.cells 46 [.im (.sl false 3 (k.1.2.Tiles.map Qab.c))])),(1,(true,.cells 46 [.im (.sl true 0 [])])),(0,(false,.view (Qar.c s)))],3⟩,fun k=>l.length - k.1.1,fun k=>⟨by simp[Qad.good,belT,belH,Qam,AV.bel,belL],Zal _⟩,⟨⟨(0,s.Seed),by simp[h2]⟩,by simp(maxSteps:=9^9)(disch:=omega)only[ZZ,simprocAttr,rch,YaI,sub]⟩,fun k=> ?_⟩;obtain⟨⟨k,b⟩,hk1,hk2,hk3⟩:=k;simp only at hk1 hk2 hk3;simp(maxSteps:=9^9)(disch:=omega)only[ZZ,simprocAttr,rch,YaI,sub,Qal];intro hn;refine⟨fun hk=>⟨hk,fun x hx=>⟨⟨h1,hk2⟩,?_⟩⟩,fun hk=> ?_⟩
 .rw[Qac8 hx] at hk3;have e:(Qbi x.At && (Qau x.Tile 0 ((s.Set.Tiles.length:Int) - 1) && (decide (Qaw (fun y=>decide (y.At=x.At)) 0 b.Tiles<0) && decide (s.Temperature<=Qjm s.Set b x.At x.Tile 4))))=canS s b x:=rfl;simp only[e];refine⟨fun c1=> ?_,fun c1=>⟨hk,fun y hy=> ?_⟩⟩
  .rw[hk3,Zak c1]
  obtain rfl:x=y:=Zaa (hx.symm.trans hy);rw[Zai c1] at hk3;by_cases c2:500<=b.Tiles.length
  .have q:attA b x=(⟨[]⟩,4):=Zak c2;rw[q,hk3,Zak c2];exact⟨fun _=>rfl,fun h=>(h (by decide)).elim⟩
  .have q:attA b x=(putA b x.At x.Tile,0):=Zai c2;rw[q];rw[Zai c2] at hk3;rw[Zbb] at c1;exact⟨fun h=>(h rfl).elim,fun _=>⟨⟨(k+1,putA b x.At x.Tile),by simp only;omega,can_in h3 hk2 c1,hk3⟩,by simp only;omega,by rw[Qak (by omega) (by omega)];simp only;omega,rfl⟩⟩
 .rw[hk3,Zaq (by omega),Qacg]
def seqS(s:Qar)(l:List Opt):Asm×Int×Int:=if Qjc s=false then (⟨[]⟩,0,1) else if 500<l.length then (⟨[]⟩,0,2) else Qacg s s.Seed l 0
theorem Qacj{s:Qar}(h:Qjc s=true):(setP s.Set/\Qn7 s.Set s.Seed/\s.Set.Tiles.length<=160/\s.Seed.Tiles.length<=1000000)/\Qcl s.Set=true/\Qcp s.Set s.Seed=true:=by
 simp only[Qjc,Zaf] at h;obtain⟨h1,h2,_⟩:=h;have h3:=Qdg h2;have h4:=Qge h1;have h5:=h1;simp only[Qcl,Qau,Zaf,Zan] at h5;exact⟨⟨h4,h3.1,by omega,by omega⟩,h1,h2⟩
def PlayS_.fv(a:Qar×(List Opt)):Asm×Int×Int:=(seqS) (a.1) (a.2)
def PlayS_.row:Row:=vK (b2 (qR Qar.d_le) (qS Opt.d_le Opt.c_n)) (r3 (rA Asm.d_le) rI rI) (fun a=>True) PlayS_.fv
def PlayS_.q:=vKq (R:=PlayS_.row) rfl
theorem PlayS_.ok:Qas Tryz.prog 65 PlayS_.row:=by
 refine vw (tC l08Ok.ok (tC l08Play.ok tN)) Tryz.func65 rfl (by kernel_rfl) ?_;intro a hpre;simp only[Tryz.f65,Option.getD];simp(maxSteps:=9^9)(disch:=omega)only[ZZ,simprocAttr,rch,PlayS_.fv,l08Ok.q,l08Ok.fv,l08Play.q,l08Play.fv];by_cases c1:Qjc a.1=false
 .rw[Zak c1];simp only[seqS];rw[Zak c1]
 rw[Zai c1];intro _;by_cases c2:500<a.2.length
 .rw[Zak (by omega)];simp only[seqS];rw[Zai c1,Zak c2]
 rw[Zai (by omega)];rw[Zbb] at c1;refine⟨(Qacj c1).1,?_⟩;simp only[seqS];rw[Zai (by rw[c1];decide),Zai c2]
theorem seq_ok{s:Qar}{l:List Opt}(h:(seqS s l).2.2=0):Qjc s=true/\l.length<=500:=by
 simp only[seqS] at h;split at h
 .simp at h
 rename_i c1;split at h
 .simp at h
 .rw[Zbb] at c1;exact⟨c1,by omega⟩
theorem Qwf{A B:Type}(f:A->B): ∀(l:List A) (i:Nat),(l.map f).eraseIdx i=(l.eraseIdx i).map f
 |[],_=>rfl
 |_::_,0=>rfl
 |x::r,i+1=>by simp only[Zao,ZcH,Qwf f r i]
theorem Qqq{A:Type}: ∀(l:List A) (i:Nat) (x:A),l[i]? =some x->(x::l.eraseIdx i).Perm l
 |[],i,x,h=>by simp at h
 |y::r,0,x,h=>by
  simp only[ZaS,Zab] at h;subst h;exact Zdv _
 |y::r,i+1,x,h=>by
  rw[ZaW] at h;rw[ZcH];exact (List.Perm.swap y x _).trans ((Qqq r i x h).cons y)
def putT(c:Cry)(p:Qae)(t:Int):Cry:=⟨c.Sys,updP c.Tl p t,Qrz c.Sys (Qbw (updP c.Tl p t)) (delP c.Op p) p 4⟩
theorem putT_in{s:Qaa}{t:List (Qae×Int)}{p:Qae}{v:Int}(h:inF s (Qbw t))(hv:Qcs s v):inF s (Qbw (updP t p v)):=by
 intro q hq;simp only[Qbw,Qyq] at hq⊢;by_cases c:q=p
 .rw[Zak c];exact hv
 .rw[Zai c] at hq⊢;exact h q hq
def putC.ca(a:Cry×Qae×Int):List AV:=[.ptr 0 0,.im (.agg [.int .i64 a.2.1.X,.int .i64 a.2.1.Y]),.im (.int .i64 a.2.2)]
def putC.H1(a:Cry×Qae×Int):Qan:=[(1,(true,.map ⟨true,[.int .i64,.int .i64]⟩ ((putT a.1 a.2.1 a.2.2).Tl.map Qbe))),(2,(true,.map ⟨true,[.int .i64,.int .i64]⟩ ((putT a.1 a.2.1 a.2.2).Op.map Qbc)))]
def kl12(j:Nat):Bool:=j==1||j==2
def putC.row:Row:=orow putC.ca (fun a=>cryH a.1) 3 (fun a=>Qacu a.1/\Qdy a.2.1/\Qcs a.1.Sys.Set a.2.2) kl12 (fun _=> .im (.tup [])) putC.H1 0
theorem putC.ok:Qas Tryz.prog 194 putC.row:=by
 refine ow (tC lookC.ok tN) Tryz.func194 rfl (by kernel_rfl) (exB:=fun _=>false) (R:=fun _ r=>r= .im (.tup [])) (fun _=>rfl)
  (fun a=>by simp[putC.ca,cryH,Qbk,putC.H1,kl12,belL,AV.bel,belH,Qam,Qc2,AObj.nms,nmsL,AV.nms,domB,hget]) (fun a p hp=> ?_) (fun a r h=>by subst h;exact LeV.refl _) ?_
 rotate_left
 intro a hpre;simp only[Tryz.f194,Option.getD,putC.ca,cryH,Qbk,putC.H1,kl12];simp(maxSteps:=9^9)(disch:=omega)only[ZZ,simprocAttr,rch,ORB,putC.ca,cryH,Qbk,putC.H1,kl12];obtain⟨hp1,hp2,hp3⟩:=hpre;rw[upd_pi,del_ps];have hq:Qacu ⟨a.1.Sys,updP a.1.Tl a.2.1 a.2.2,delP a.1.Op a.2.1⟩:=⟨hp1.1,putT_in hp1.2.1 hp3,hp1.2.2⟩;refine orow.os (⟨a.1.Sys,updP a.1.Tl a.2.1 a.2.2,delP a.1.Op a.2.1⟩,a.2.1) [0,1,2] ⟨hq,hp2⟩ (fun j=>Qack _ j) rfl rfl ?_ ?_
 .simp(maxSteps:=9^9)(disch:=omega)only[ZZ,simprocAttr,rch,ORB,putC.ca,cryH,Qbk,putC.H1,kl12,lookC.ca,cryH,Qbk,Zbg]
 .simp(maxSteps:=9^9)(disch:=omega)only[ZZ,simprocAttr,rch,ORB,putC.ca,cryH,Qbk,putC.H1,kl12,lookC.H1,kl2,sub,putT]
 simp[putC.H1] at hp;rcases hp with rfl|rfl
 .exact .inl ⟨by omega,rfl,rfl⟩
 .exact .inl ⟨by omega,rfl,rfl⟩
def asmC.ca(_:Cry):List AV:=[.ptr 0 0]
def asmC.H1(a:Cry):Qan:=[(1,(false,.map ⟨true,[.int .i64,.int .i64]⟩ (a.Tl.map Qbe)))]
def klA(j:Nat):Bool:=j==1
theorem asmT_perm{t:List (Qae×Int)}{l:List Qab}(hd:(t.map Prod.fst).Nodup)(h:l.Perm (t.map mkPl)):Qfh l=Qfh (t.map mkPl)/\(l.map Qab.At).Nodup/\l.length=t.length:=by
 have hd':((t.map mkPl).map Qab.At).Nodup:=by rw[Qac3];exact hd
 refine⟨Qlp hd' ((Qd4 l).trans h) (Qnm l),(h.map Qab.At).nodup_iff.2 hd',by rw[h.length_eq,Zbv]⟩
def asmT(t:List (Qae×Int)):Asm:=⟨Qfh (t.map mkPl)⟩
def asmC.row:Row:=orow asmC.ca cryH 3 (fun a=>(a.Tl.map Prod.fst).Nodup/\a.Tl.length<=100000) klA (fun a=> .im (.agg (Asm.c (asmT a.Tl)))) asmC.H1 0
def YaJ:=J @asmOf.q @asmOf.fv.eq_1
theorem asmC.ok:Qas Tryz.prog 195 asmC.row:=by
 refine ow (tC asmOf.ok tN) Tryz.func195 rfl (by kernel_rfl) (exB:=fun _=>false) (R:=fun a r=>r= .im (.agg (Asm.c (asmT a.Tl)))) (fun _=>rfl)
  (fun a=>by simp[asmC.ca,cryH,Qbk,asmC.H1,klA,belL,AV.bel,belH,Qam,Qc2,AObj.nms,nmsL,AV.nms,domB,hget]) (fun a p hp=> ?_) (fun a r h=>by subst h;exact LeV.refl _) ?_
 rotate_left
 intro a hpre;simp only[Tryz.f195,Option.getD,asmC.ca,cryH,Qbk,asmC.H1,klA];simp(maxSteps:=9^9)(disch:=omega)only[ZZ,simprocAttr,rch,YaJ,ORB,asmC.ca,cryH,Qbk,asmC.H1,klA];obtain⟨hp1,hp2⟩:=hpre;refine Qay.ren ⟨{s:Option (D×D)×List (Qae×Int)×List Qab//(s.2.2++s.2.1.map mkPl).Perm (a.Tl.map mkPl)},fun s=>⟨[(10,.it 5),(3,.own 6),(2,.ptr 3 0),(0,.ptr 0 0)],[(6,(true,.arr 103 3 (s.1.2.2.map Qab.c))),(5,(true,.iter s.1.1 (s.1.2.1.map Qbe))),(3,(true,.cells 46 [.im (.sl true 0 [])])),(0,(true,.cells 290 (Qbk a.Sys))),(1,(false,.map ⟨true,[.int .i64,.int .i64]⟩ (a.Tl.map Qbe))),(2,(true,.map ⟨true,[.int .i64,.int .i64]⟩ (a.Op.map Qbc)))],7⟩,fun s=>s.1.2.1.length,fun s=>⟨by simp[Qad.good,belT,belH,Qam,AV.bel,belL,Qbk],by simp⟩,⟨⟨(none,a.Tl,[]),by simp⟩,[(6,some 4)],?_⟩,fun s=> ?_⟩
 .simp only[subP,Qbk];simp(maxSteps:=9^9)(disch:=omega)only[ZZ,simprocAttr,rch,YaJ,ORB,asmC.ca,cryH,Qbk,asmC.H1,klA,ZaV]
  try simp
 obtain⟨⟨last,left,col⟩,hs⟩:=s;simp only at hs;simp only[Qbk];simp(maxSteps:=9^9)(disch:=omega)only[ZZ,simprocAttr,rch,YaJ,ORB,asmC.ca,cryH,Qbk,asmC.H1,klA,sub,Qal];refine⟨fun hl=> ?_,fun i p hp=> ?_⟩
 .have hl':left=[]:=by simpa using hl
  subst hl';rw[ZaV,ZaK] at hs;obtain⟨r1,r2,r3⟩:=asmT_perm hp1 hs;exact⟨⟨r2,by omega⟩,by simp only[asmT,r1]⟩
 .rw[ZaN] at hp;cases hq:left[i]? with
  |none=>rw[hq] at hp;cases hp
  |some q=>
   rw[hq] at hp;obtain rfl:=Zaa hp;obtain⟨⟨qx,qy⟩,qn⟩:=q;simp only[Qbe,Qae.c];simp(maxSteps:=9^9)(disch:=omega)only[ZZ,simprocAttr,rch,YaJ,ORB,asmC.ca,cryH,Qbk,asmC.H1,klA,sub,Qal];have hi:i<left.length:=by
    rcases ZbA i left.length with h|h
    .exact h
    .rw[ZaZ h] at hq;cases hq
   have hpm:((⟨qx,qy⟩,qn)::left.eraseIdx i).Perm left:=Qqq _ _ _ hq;have hP:((col++[(⟨⟨qx,qy⟩,qn⟩:Qab)])++(left.eraseIdx i).map mkPl).Perm (a.Tl.map mkPl):=by
    rw[Zbt];refine (List.Perm.append_left col ?_).trans hs;exact hpm.map mkPl
   have hcl:col.length<=a.Tl.length:=by
    have r3:=hs.length_eq;simp at r3;omega
   refine⟨by omega,⟨⟨(some (D.agg [.int .i64 qx,.int .i64 qy],D.int .i64 qn),left.eraseIdx i,col++[(⟨⟨qx,qy⟩,qn⟩:Qab)]),hP⟩,[(6,some 9)],?_,?_⟩⟩
   .simp only[Zed];rw[Zak hi];omega
   .simp only[subP];simp(maxSteps:=9^9)(disch:=omega)only[ZZ,simprocAttr,rch,YaJ,ORB,asmC.ca,cryH,Qbk,asmC.H1,klA];simp[Qab.c,Qwf]
 simp[asmC.H1] at hp;subst hp;exact .inl ⟨by omega,rfl,rfl⟩
def seqI(s:Qar)(l:List Opt):Asm×Int×Int:=if Qk1 s=false then (⟨[]⟩,0,1) else if 500<l.length then (⟨[]⟩,0,2) else Qacn s (tlUp s.Seed.Tiles) l 0
theorem Qacl{β:Type}(p:Qae)(v:β): ∀(t:List (Qae×β)),(t.map Prod.fst).Nodup->((updP t p v).map Prod.fst).Nodup/\(∀q,q∈(updP t p v).map Prod.fst->q=p\/q∈t.map Prod.fst)/\(updP t p v).length<=t.length+1
 |[],_=>by simp[updP]
 |(k,w)::r,h=>by
  rw[Zao,ZbS] at h;simp only[updP];by_cases c:p=k
  .subst c;rw[Zak rfl];refine⟨by rw[Zao,ZbS];exact h,fun q hq=> .inr hq,by simp⟩
  .rw[Zai c];obtain⟨h1,h2,h3⟩:=Qacl p v r h.2;refine⟨?_,?_,by simp only[ZaF];omega⟩
   .rw[Zao,ZbS];refine⟨fun hk=> ?_,h1⟩;rcases h2 _ hk with hk|hk
    .exact c hk.symm
    .exact h.1 hk
   .intro q hq;rw[Zao] at hq⊢;rcases Zax.1 hq with rfl|hq
    .exact .inr (Zau ..)
    .rcases h2 _ hq with hq|hq
     .exact .inl hq
     .exact .inr (Zas _ hq)
theorem tlUp_keys(l:List Qab):((tlUp l).map Prod.fst).Nodup/\(tlUp l).length<=l.length:=by
 have key: ∀(l:List Qab) (t:List (Qae×Int)),(t.map Prod.fst).Nodup->((l.foldl (fun t x=>updP t x.At x.Tile) t).map Prod.fst).Nodup/\(l.foldl (fun t x=>updP t x.At x.Tile) t).length<=t.length+l.length:=by
  intro l;induction l with
  |nil=>intro t h;exact⟨h,by simp⟩
  |cons x r ih=>
   intro t h;obtain⟨h1,_,h3⟩:=Qacl x.At x.Tile t h;obtain⟨h4,h5⟩:=ih _ h1;exact⟨h4,by simp only[Zdm,ZaF] at h5⊢;omega⟩
 have:=key l [] (by simp)
 exact⟨this.1,by simpa[tlUp] using this.2⟩
theorem Qac7{s:Qar}{l:List Opt}{i:Nat}{o:Opt}(hx:l[i]? =some o)(t:List (Qae×Int)):Qacn s t (l.drop i) i=if (Qau o.Tile 0 (s.Set.Tiles.length - 1) && Qpg s (Qbw t) o.At o.Tile)=false then (⟨[]⟩,(i:Int),5) else if 500<=t.length then (⟨[]⟩,0,4) else Qacn s (updP t o.At o.Tile) (l.drop (i+1)) (i+1):=by
 rw[Qd3 hx,Qacn]
def PlayI_.fv(a:Qar×(List Opt)):Asm×Int×Int:=(seqI) (a.1) (a.2)
def PlayI_.row:Row:=vK (b2 (qR Qar.d_le) (qS Opt.d_le Opt.c_n)) (r3 (rA Asm.d_le) rI rI) (fun a=>Qf6 a.1.Set) PlayI_.fv
def PlayI_.q:=vKq (R:=PlayI_.row) rfl
def YaK:=J @PlayI_.fv.eq_1<|J @validI_.q<|J @validI_.fv.eq_1<|J @isTile.q<|J @isTile.fv.eq_1<|J @fitsC.q @fitsC.fv.eq_1
theorem PlayI_.ok:Qas Tryz.prog 190 PlayI_.row:=by
 refine vw (tC validI_.ok (tC newC.ok (tC isTile.ok (tC fitsC.ok (tC putC.ok (tC asmC.ok tN)))))) Tryz.func190 rfl (by kernel_rfl) ?_;intro a hpre;simp only[Tryz.f190,Option.getD];simp(maxSteps:=9^9)(disch:=omega)only[ZZ,simprocAttr,rch,YaK];obtain⟨s,l⟩:=a;simp only at hpre⊢;refine⟨hpre,?_⟩;by_cases c1:Qk1 s=false
 .rw[Zak c1];simp only[seqI];rw[Zak c1]
 rw[Zai c1];intro _;by_cases c2:500<l.length
 .rw[Zak (by omega)];simp only[seqI];rw[Zai c1,Zak c2]
 rw[Zai (by omega)];have eR:seqI s l=Qacn s (tlUp s.Seed.Tiles) l 0:=by simp only[seqI];rw[Zai c1,Zai c2]
 rw[Zbb,Qacv] at c1;obtain⟨⟨q1,q2,q3,_⟩,q5,q6⟩:=Qacj c1;have hbp:=Qof (s:=s.Set) (a:=s.Seed) (by rw[q5,q6];rfl);have hnp:newC.pre (s,s.Seed):=⟨q1,by simp only;omega,fun y hy=>⟨q2.2 y hy,hbp.1.2.2.2 y hy⟩⟩;have hcp:=cryOf_pre hnp;have hk0:=tlUp_keys s.Seed.Tiles;refine orow.os (s,s.Seed) [] hnp (fun j=>by simp[domB,hget]) rfl rfl ?_ ?_
 .simp(maxSteps:=9^9)(disch:=omega)only[ZZ,simprocAttr,rch,YaK,newC.ca,Qer,Qar.c,Asm.c]
 simp(maxSteps:=9^9)(disch:=omega)only[ZZ,simprocAttr,rch,YaK,newC.H1,sub];intro _;refine Qay.old ⟨{k:Nat×List (Qae×Int)×List (Qae×List Int)//k.1<=l.length/\inF s.Set (Qbw k.2.1)/\(k.2.1.map Prod.fst).Nodup/\k.2.1.length<=1000/\seqI s l=Qacn s k.2.1 (l.drop k.1) k.1},fun k=>⟨[(26,.im (.int .i64 k.1.1)),(25,.im (.int .i64 l.length)),(24,.im (.sl false 3 (l.map Opt.c))),(7,.ptr 6 0),(6,.im (.int .i64 0)),(5,.im (.int .i64 0)),(4,.ptr 1 0),(2,.ptr 0 0)],[(6,(true,.cells 290 [.im (.sl false 2 (s.Set.Glues.map Glue.c)),.im (.sl false 2 (s.Set.Tiles.map Tile.c)),.im (.sl false 3 (s.Seed.Tiles.map Qab.c)),.im (.int .i64 s.Temperature),.mp 4,.mp 5])),
  (4,(true,.map ⟨true,[.int .i64,.int .i64]⟩ (k.1.2.1.map Qbe))),(5,(true,.map ⟨true,[.int .i64,.int .i64]⟩ (k.1.2.2.map Qbc))),(1,(true,.cells 46 [.im (.sl true 0 [])])),(0,(true,.cells 48 ((Qar.c s).map .im)))],7⟩,fun k=>l.length - k.1.1,fun k=>⟨by simp[Qad.good,belT,belH,Qam,AV.bel,belL,Qar.c],by simp⟩,⟨⟨(0,(Qui s s.Seed).Tl,(Qui s s.Seed).Op),by simp only;exact⟨ZaU _,hcp.2.1,hk0.1,Zba hk0.2 (by omega),eR⟩⟩,by simp(maxSteps:=9^9)(disch:=omega)only[ZZ,simprocAttr,rch,YaK,sub]⟩,fun k=> ?_⟩
 obtain⟨⟨k,tl,op⟩,hk1,hk2,hk3,hk4,hk5⟩:=k;simp only at hk1 hk2 hk3 hk4 hk5;simp(maxSteps:=9^9)(disch:=omega)only[ZZ,simprocAttr,rch,YaK,sub,Qal];refine⟨fun hk=>⟨hk,fun x hx=> ?_⟩,fun hk=> ?_⟩
 .rw[Qac7 hx] at hk5;by_cases d1:Qau x.Tile 0 ((s.Set.Tiles.length:Int) - 1)=true
  case neg=>
   refine⟨fun h=>(d1 h).elim,fun _=> ?_⟩;rw[ZaO] at d1;rw[hk5,d1,Zaz,Zak rfl]
  refine⟨fun _=> ?_,fun h=>(h d1).elim⟩;have hti:Qcs s.Set x.Tile:=by
   simp only[Qau,Zaf,Zan] at d1;exact⟨d1.1,by omega⟩
  rw[d1,ZaD] at hk5;refine⟨⟨q1,hk2,hti⟩,fun d2=> ?_,fun d2=>⟨fun d3=> ?_,fun d3=> ?_⟩⟩
  .rw[hk5,Zak d2]
  .rw[hk5,Zai d2,Zak (by omega)]
  .rw[Zai d2,Zai (by omega)] at hk5;have hsm:Qdy x.At:=by
    rw[Zbb] at d2;simp only[Qpg,Zaf] at d2;exact Qkc d2.1
   have hcr:Qacu ⟨s,tl,op⟩:=⟨q1,hk2,by simp only;omega⟩;obtain⟨u1,_,u3⟩:=Qacl x.At x.Tile tl hk3;refine orow.os (⟨s,tl,op⟩,x.At,x.Tile) [6,4,5] ⟨hcr,hsm,hti⟩ (fun j=>Qack _ j) rfl rfl ?_ ?_
   .simp(maxSteps:=9^9)(disch:=omega)only[ZZ,simprocAttr,rch,YaK,putC.ca,cryH,Qbk,Zbg,Zbi,ZbT]
   .simp(maxSteps:=9^9)(disch:=omega)only[ZZ,simprocAttr,rch,YaK,putC.H1,kl12,sub,putT,Zbi,ZbT];exact⟨⟨(k+1,updP tl x.At x.Tile,Qrz s (Qbw (updP tl x.At x.Tile)) (delP op x.At) x.At 4),by simp only;exact⟨by omega,putT_in hk2 hti,u1,by omega,hk5⟩⟩,by simp only;omega,by rw[Qak (by omega) (by omega)];simp only;omega,rfl,rfl⟩
 .rw[Zaq (by omega),Qacn] at hk5;refine orow.os ⟨s,tl,op⟩ [6,4,5] ⟨hk3,by simp only;omega⟩ (fun j=>Qack _ j) rfl rfl ?_ ?_
  .simp(maxSteps:=9^9)(disch:=omega)only[ZZ,simprocAttr,rch,YaK,asmC.ca,cryH,Qbk,Zbg,Zbi,ZbT]
  .simp(maxSteps:=9^9)(disch:=omega)only[ZZ,simprocAttr,rch,YaK,asmC.H1,klA,sub,asmT,Zbi,ZbT];rw[hk5]
end Go.Ae
namespace Go.Ae
end Go.Ae
namespace Go.Ae
open Go.Proofs
theorem Qap0(s:Qar)(l:List Opt):seqI s l=seqS s l:=by
 simp only[seqI,seqS,Qacv];by_cases c1:Qjc s=false
 .rw[Zak c1,Zak c1]
 rw[Zai c1,Zai c1];rw[Zbb] at c1;obtain⟨⟨q1,q2,q3,_⟩,_⟩:=Qacj c1;rw[Qac5 q3 l (tlUp s.Seed.Tiles) s.Seed s.Seed.Tiles.length 0 (RM.of q2.1 (fun x hx=>(q2.2 x hx).1)) q2]
def Qadf(s:Qaa)(f:Qae->Int)(p:Qae)(t:Int):Nat->Int
 |0=>0
 |k+1=>Qadf s f p t k+(if 0<Quh s f p t k then 2^k else 0)
theorem Qafe(s:Qaa)(f:Qae->Int)(p:Qae)(t:Int): ∀k,0<=Qadf s f p t k/\Qadf s f p t k<2^k
 |0=>by simp[Qadf]
 |k+1=>by
  have:=Qafe s f p t k
  have e:(2:Int)^(k+1)=2^k*2:=Int.pow_succ ..;simp only[Qadf]
  split<;>omega
def Qac9:Asm->List Opt->Asm
 |b,[]=>b
 |b,o::r=>Qac9 (putA b o.At o.Tile) r
theorem Qadp: ∀(l:List Opt) (b:Asm) (o:Opt),Qac9 b (l++[o])=putA (Qac9 b l) o.At o.Tile
 |[],_,_=>rfl
 |x::r,b,o=>by simp only[ZaJ,Qac9,Qadp r]
def insS(s:Qar):Asm->List Opt->List Int
 |_,[]=>[]
 |b,o::r=>Qadf s.Set (atA b) o.At o.Tile 4::insS s (putA b o.At o.Tile) r
def smsS(s:Qar):Asm->List Opt->List Int
 |_,[]=>[]
 |b,o::r=>Qhs s.Set (atA b) o.At o.Tile 4::smsS s (putA b o.At o.Tile) r
theorem Qad8(s:Qar): ∀(l:List Opt) (b:Asm) (o:Opt),insS s b (l++[o])=insS s b l++[Qadf s.Set (atA (Qac9 b l)) o.At o.Tile 4]
 |[],_,_=>rfl
 |x::r,b,o=>by simp only[ZaJ,insS,Qad8 s r,Qac9]
theorem Qad9(s:Qar): ∀(l:List Opt) (b:Asm) (o:Opt),smsS s b (l++[o])=smsS s b l++[Qhs s.Set (atA (Qac9 b l)) o.At o.Tile 4]
 |[],_,_=>rfl
 |x::r,b,o=>by simp only[ZaJ,smsS,Qad9 s r,Qac9]
theorem Qadv(s:Qar): ∀(l:List Opt) (b:Asm),(insS s b l).length=l.length
 |[],_=>rfl
 |x::r,b=>by simp only[insS,ZaF,Qadv s r]
theorem Qael(s:Qar): ∀(l:List Opt) (b:Asm),(smsS s b l).length=l.length
 |[],_=>rfl
 |x::r,b=>by simp only[smsS,ZaF,Qael s r]
def Qaec(s:Qar)(b:Asm)(l:List Opt):Prop:= ∀k o,l[k]? =some o->canS s (Qac9 b (l.take k)) o=true/\(Qac9 b (l.take k)).Tiles.length<500
theorem Qaez{s:Qar}: ∀(l:List Opt) (b:Asm) (i:Nat),(Qacg s b l i).2.2=0->Qacg s b l i=(Qac9 b l,0,0)/\Qaec s b l
 |[],b,i,_=>⟨rfl,fun k o h=>by simp at h⟩
 |x::r,b,i,h=>by
  simp only[Qacg] at h⊢;by_cases c1:canS s b x=false
  .rw[Zak c1] at h;simp at h
  rw[Zai c1] at h⊢;by_cases c2:500<=b.Tiles.length
  .rw[Zak c2] at h;simp at h
  rw[Zai c2] at h⊢;obtain⟨h1,h2⟩:=Qaez r _ _ h;refine⟨h1,fun k o hk=> ?_⟩;cases k with
  |zero=>
   simp only[ZaS,Zab] at hk;subst hk;rw[Zbb] at c1;exact⟨by simpa[Qac9] using c1,by simp only[Zbq,Qac9];omega⟩
  |succ k=>
   rw[ZaW] at hk;simp only[ZbI,Qac9];exact h2 k o hk
theorem Qafb{s:Qar}(hs:s.Set.Tiles.length<=160){b:Asm}(hb:Qn7 s.Set b){l:List Opt}(h:Qaec s b l): ∀k,k<=l.length->Qn7 s.Set (Qac9 b (l.take k))
 |0,_=>by simpa[Qac9] using hb
 |k+1,hk=>by
  obtain⟨o,ho⟩: ∃o,l[k]? =some o:=⟨_,Zac (by omega)⟩;rw[Qwe ho,Qadp];exact can_in hs (Qafb hs hb h k (by omega)) (h k o ho).1
theorem Qadk{s:Qar}{b:Asm}{o:Opt}(h:canS s b o=true):Qbi o.At=true/\Qdy o.At/\0<=o.Tile/\o.Tile<s.Set.Tiles.length/\Qcs s.Set o.Tile/\(∀x∈b.Tiles,x.At≠o.At):=by
 simp only[canS,Zaf,Zan] at h;obtain⟨d1,d2,d3,_⟩:=h;simp only[Qau,Zaf,Zan] at d2;exact⟨d1,Qkc d1,d2.1,by omega,⟨d2.1,by omega⟩,Qma d3⟩
def hasI(m d:Int):Bool:=decide (andI .i64 (m.fdiv (2^min d.toNat 64)) 1=1)
def bitN(b:Bool)(k:Nat):Int:=if b=true then 2^k else 0
theorem has_bits: ∀b0 b1 b2 b3:Bool,hasI (0+bitN b0 0+bitN b1 1+bitN b2 2+bitN b3 3) 0=b0/\hasI (0+bitN b0 0+bitN b1 1+bitN b2 2+bitN b3 3) 1=b1/\hasI (0+bitN b0 0+bitN b1 1+bitN b2 2+bitN b3 3) 2=b2/\hasI (0+bitN b0 0+bitN b1 1+bitN b2 2+bitN b3 3) 3=b3:=by
 intro b0 b1 b2 b3;cases b0<;>cases b1<;>cases b2<;>cases b3<;>decide
theorem or_bit{m:Int}{k:Nat}(hk:k<4)(h0:0<=m)(h1:m<2^k):orI .i64 m (2^k)=m+2^k:=by
 rcases (by omega:k=0\/k=1\/k=2\/k=3) with rfl|rfl|rfl|rfl
 .obtain rfl:m=0:=by omega
  decide
 .rcases (by omega:m=0\/m=1) with rfl|rfl<;>decide
 .rcases (by omega:m=0\/m=1\/m=2\/m=3) with rfl|rfl|rfl|rfl<;>decide
 .rcases (by omega:m=0\/m=1\/m=2\/m=3\/m=4\/m=5\/m=6\/m=7) with rfl|rfl|rfl|rfl|rfl|rfl|rfl|rfl<;>decide
def idxO(l:List Opt)(q:Qae):Int:=Qaw (fun o:Opt=>decide (o.At=q)) 0 l
theorem Qane{l:List Opt}(hd:(l.map Opt.At).Nodup){q:Qae}{k:Nat}(h:l[k]?.map Opt.At=some q):idxO l q=k:=by
 rcases Qep (fun o:Opt=>decide (o.At=q)) l 0 with ⟨h1,h2⟩|⟨i,x,h1,h2,h3⟩
 .exfalso;cases hx:l[k]? with
  |none=>rw[hx] at h;cases h
  |some y=>
   rw[hx] at h
   have:=Zcu.1 h1 y (Zae hx)
   simp at this h;exact this h
 .have hxq:x.At=q:=by simpa using Zcp h1
  simp only[idxO,h2]
  have:i=k:=by
   have e1:(l.map Opt.At)[i]? =some q:=by rw[ZaN,h3];simp[hxq]
   have e2:(l.map Opt.At)[k]? =some q:=by rw[ZaN];exact h
   obtain⟨g1,f1⟩:=Zaj.1 e1;obtain⟨g2,f2⟩:=Zaj.1 e2;exact (List.getElem_inj hd).1 (f1.trans f2.symm)
  omega
theorem idxO_at{l:List Opt}{q:Qae}{k:Int}(h:idxO l q=k)(h0:0<=k):l[k.toNat]?.map Opt.At=some q:=by
 rcases Qep (fun o:Opt=>decide (o.At=q)) l 0 with ⟨h1,h2⟩|⟨i,x,h1,h2,h3⟩
 .simp only[idxO,h2] at h;omega
 .have hxq:x.At=q:=by simpa using Zcp h1
  simp only[idxO,h2] at h;rw[show k.toNat=i by omega,h3];simp[hxq]
theorem Qaei{x:Qab}: ∀(l:List Opt) (b:Asm),x∈(Qac9 b l).Tiles↔x∈b.Tiles\/ ∃o∈l,x=⟨o.At,o.Tile⟩
 |[],b=>by simp[Qac9]
 |o::r,b=>by
  simp only[Qac9,Qaei r,Qi8,Qlc,Zax];constructor
  .rintro ((h|h)|⟨y,hy,h⟩)
   .exact .inr ⟨o,.inl rfl,h⟩
   .exact .inl h
   .exact .inr ⟨y,.inr hy,h⟩
  .rintro (h|⟨y,rfl|hy,h⟩)
   .exact .inl (.inr h)
   .exact .inl (.inl h)
   .exact .inr ⟨y,hy,h⟩
theorem Qaf6{s:Qar}{b:Asm}{l:List Opt}(h:Qaec s b l):(l.map Opt.At).Nodup:=by
 rw[ZdG,List.pairwise_map,Zdj];intro i j hi hj hij heq;have h1:=(Qadk (h j l[j] (Zac hj)).1).2.2.2.2.2;refine h1 ⟨l[i].At,l[i].Tile⟩ ?_ heq;rw[Qaei];refine .inr ⟨l[i],?_,rfl⟩;rw[Zbz];exact⟨i,by rw[ZdM hij];exact Zac hi⟩
theorem at_mem{a:Asm}{q:Qae}(h:0<=atA a q): ∃x∈a.Tiles,x.At=q:=by
 simp only[atA] at h;cases hf:a.Tiles.find? (fun x=>decide (x.At=q)) with
 |none=>rw[hf] at h;simp at h
 |some x=>exact⟨x,Zcx hf,by simpa using Zcp hf⟩
theorem bind_law(s:Qar)(b:Asm)(o:Opt):Qjm s.Set b o.At o.Tile 4=Qhs s.Set (atA b) o.At o.Tile 4:=(Qae8 ..).symm
def seqP(s:Qar)(l:List Opt):Prop:=setP s.Set/\Qn7 s.Set s.Seed/\s.Set.Tiles.length<=160/\s.Seed.Tiles.length<=1000000/\Qaec s s.Seed l/\l.length<=500
theorem Qanf{d:Nat}(hd:d<4):IntKind.i64.wrap (1*2^min d IntKind.i64.bits)=2^d:=by
 rcases (by omega:d=0\/d=1\/d=2\/d=3) with rfl|rfl|rfl|rfl<;>decide
theorem Qaew{d:Nat}(hd:d<4):(2:Int)^d<=8:=by
 rcases (by omega:d=0\/d=1\/d=2\/d=3) with rfl|rfl|rfl|rfl<;>decide
theorem Qaee(s:Qaa)(f:Qae->Int)(p:Qae)(t d:Int):0<Quh s f p t d↔(0<=f (Qf7 p d)/\0<Qfn s t d (f (Qf7 p d))):=by
 by_cases c:0<=f (Qf7 p d)
 .have e:Quh s f p t d=Qfn s t d (f (Qf7 p d)):=Zak c;rw[e];exact⟨fun h=>⟨c,h⟩,fun h=>h.2⟩
 .have e:Quh s f p t d=0:=Zai c;rw[e];exact⟨fun h=>by omega,fun h=>(c h.1).elim⟩
theorem maskF_s(s:Qaa)(f:Qae->Int)(p:Qae)(t:Int)(d:Nat)(h:0<=f (Qf7 p d))(h2:0<Qfn s t d (f (Qf7 p d))):Qadf s f p t (d+1)=Qadf s f p t d+2^d:=by
 simp only[Qadf];rw[Zak ((Qaee ..).2 ⟨h,h2⟩)]
theorem Qaek(s:Qaa)(f:Qae->Int)(p:Qae)(t:Int)(d:Nat)(h: ¬(0<=f (Qf7 p d)/\0<Qfn s t d (f (Qf7 p d)))):Qadf s f p t (d+1)=Qadf s f p t d:=by
 simp only[Qadf];rw[Zai (fun q=>h ((Qaee ..).1 q)),Zfe]
def l10Inputs.fv(a:Qar×(List Opt)):(List Int)×(List Int):=(fun s l=>(insS s s.Seed l,smsS s s.Seed l)) (a.1) (a.2)
def l10Inputs.row:Row:=vK (b2 (qP 4 Qar.d_le) (qS Opt.d_le Opt.c_n)) (r2 (rS Qb3 Qant) (rS Qb3 Qant)) (fun a=>seqP a.1 a.2) l10Inputs.fv
def l10Inputs.q:=vKq (R:=l10Inputs.row) rfl
def YaL:=J @l10Inputs.fv.eq_1<|J @l03Own.q<|J @l03Own.fv.eq_1<|J @l01Step.q<|J @l01Step.fv.eq_1<|J @l03At.q<|J @l03At.fv.eq_1<|J @l02Bond.q<|J @l02Bond.fv.eq_1<|J @l06Binding.q<|J @l06Binding.fv.eq_1<|J @l03Put.q @l03Put.fv.eq_1
theorem l10Inputs.ok:Qas Tryz.prog 69 l10Inputs.row:=by
 refine vw (tC l03Own.ok (tC l01Step.ok (tC l03At.ok (tC l02Bond.ok (tC l06Binding.ok (tC l03Put.ok tN)))))) Tryz.func69 rfl (by kernel_rfl) ?_;intro a hpre;simp only[Tryz.f69,Option.getD];simp(maxSteps:=9^9)(disch:=omega)only[ZZ,simprocAttr,rch,YaL];obtain⟨s,l⟩:=a;simp only at hpre⊢;obtain⟨h1,h2,h3,h4,h5,h6⟩:=hpre;refine⟨h4,?_⟩;refine Qay.ren ⟨{k:Nat//k<=l.length},fun k=>⟨[(9,.im (.int .i64 k.1)),(8,.own 7),(7,.own 6),(6,.ptr 3 0),(0,.ptr 0 0),(1,.im (.sl false 3 (l.map Opt.c)))],[(7,(true,.arr 2 1 ((smsS s s.Seed (l.take k.1)).map intC))),(6,(true,.arr 2 1 ((insS s s.Seed (l.take k.1)).map intC))),(3,(true,.cells 46 [.im (.sl false 3 ((Qac9 s.Seed (l.take k.1)).Tiles.map Qab.c))])),(0,(false,.view (Qar.c s)))],8⟩,fun k=>l.length - k.1,fun k=>⟨by simp[Qad.good,belT,belH,Qam,AV.bel,belL],by simp⟩,⟨⟨0,by simp⟩,[(7,some 5),(6,some 4)],?_⟩,fun k=> ?_⟩
 .simp only[subP];simp(maxSteps:=9^9)(disch:=omega)only[ZZ,simprocAttr,rch,YaL,Zbq,insS,smsS,Qac9,ZaV]
  try simp
 obtain⟨k,hk1⟩:=k;simp(maxSteps:=9^9)(disch:=omega)only[ZZ,simprocAttr,rch,YaL,sub,Qal];intro _;obtain⟨b,hb⟩: ∃b,b=Qac9 s.Seed (l.take k):=⟨_,rfl⟩;have hbi:Qn7 s.Set b:=by rw[hb];exact Qafb h3 h2 h5 k hk1
 rw[<-hb];refine⟨fun hk=>⟨hk,fun x hx=> ?_⟩,fun hk=> ?_⟩
 .have hc:=Qadk (h5 k x hx).1;rw[<-hb] at hc;obtain⟨g1,g2,g3,g4,g5,g6⟩:=hc;refine Qay.old ⟨{d:Nat//d<=4},fun d=>⟨[(12,.im (.int .i64 d.1)),(11,.im (.int .i64 (Qadf s.Set (atA b) x.At x.Tile d.1))),(10,.ptr 8 0),(9,.im (.int .i64 k)),(8,.own 7),(7,.own 6),(6,.ptr 3 0),(0,.ptr 0 0),(1,.im (.sl false 3 (l.map Opt.c)))],[(8,(true,.cells 108 ((Opt.c x).map .im))),(7,(true,.arr 2 1 ((smsS s s.Seed (l.take k)).map intC))),(6,(true,.arr 2 1 ((insS s s.Seed (l.take k)).map intC))),(3,(true,.cells 46 [.im (.sl false 3 (b.Tiles.map Qab.c))])),(0,(false,.view (Qar.c s)))],9⟩,fun d=>4 - d.1,fun d=>⟨by simp[Qad.good,belT,belH,Qam,AV.bel,belL,Opt.c],by simp⟩,⟨⟨0,by simp⟩,by simp(maxSteps:=9^9)(disch:=omega)only[ZZ,simprocAttr,rch,YaL,sub,Qadf]⟩,fun d=> ?_⟩;obtain⟨d,hd1⟩:=d;simp(maxSteps:=9^9)(disch:=omega)only[ZZ,simprocAttr,rch,YaL,sub,Qal];have hmb:=Qafe s.Set (atA b) x.At x.Tile d;refine⟨fun hd=> ?_,fun hd=> ?_⟩
  .have hd4:d<4:=by omega
   have hp8:=Qaew hd4;refine⟨⟨g2,by omega⟩,hbi.1,fun c1=>⟨⟨h1,g5,⟨by omega,by omega⟩,Qafx hbi _ c1⟩,fun c2=> ?_,fun c2=> ?_⟩,fun c1=> ?_⟩
   .refine⟨⟨d+1,by omega⟩,by simp only;omega,by rw[Qak (by omega) (by omega)];simp only;omega,?_⟩;rw[Qanf hd4,Qak (by omega) (by omega),maskF_s _ _ _ _ _ c1 c2]
   .refine⟨⟨d+1,by omega⟩,by simp only;omega,by rw[Qak (by omega) (by omega)];simp only;omega,?_⟩;rw[Qaek _ _ _ _ _ (fun h=>c2 h.2)]
   .refine⟨⟨d+1,by omega⟩,by simp only;omega,by rw[Qak (by omega) (by omega)];simp only;omega,?_⟩;rw[Qaek _ _ _ _ _ (fun h=>c1 h.1)]
  .have hd4:d=4:=by omega
   subst hd4;have hbl:=(h5 k x hx).2;rw[<-hb] at hbl;refine⟨by simp[OneR,allD,D.one],by rw[Qadv,Zav];omega,⟨h1,hbi,g2,g5⟩,by simp[OneR,allD,D.one],by rw[Qael,Zav];omega,by omega,⟨k+1,by omega⟩,[(7,some 12),(6,some 10)],by simp only;omega,?_⟩;simp only[subP,Qwe hx,Qad8,Qad9,Qadp,<-hb];simp(maxSteps:=9^9)(disch:=omega)only[ZZ,simprocAttr,rch,YaL,Zah,Zag];refine⟨by rw[Qak (by omega) (by omega)];omega,?_,?_⟩
   .simp[intC,bind_law]
   .simp[intC]
 .rw[Zap (by omega)]
  try trivial
theorem has_eq(m:Int)(d:Nat):(hasI m d=true)=(andI .i64 (m.fdiv (2^min d IntKind.i64.bits)) 1=1):=by
 simp only[hasI,Zan,Zam];rfl
theorem Qanl{p q:Qae}:((p.X==q.X)=true/\(p.Y==q.Y)=true)↔p=q:=by
 cases p;cases q;simp
theorem rm_free{s:Qar}{t:List (Qae×Int)}{a:Asm}{k:Nat}{o:Opt}(h:RM t a k)(ha:Qn7 s.Set a)(c1:canS s a o=true):lkP t o.At=none/\0<=o.Tile:=by
 simp only[canS,Zaf,Zan] at c1;obtain⟨d1,d2,d3,_⟩:=c1;have hv:0<=o.Tile:=by
  simp only[Qau,Zaf,Zan] at d2;exact d2.1
 refine⟨?_,hv⟩;have h1:Qbw t o.At=atA a o.At:=congrFun h.at o.At;have h2:=(Qala ha.2 o.At).1 d3;cases hq:lkP t o.At with
 |none=>rfl
 |some v=>
  exfalso;have h3:=h.pos _ (Qac0 hq);simp only[Qbw,hq,Zad] at h1;simp only at h3;omega
def plD:D->Option (Option Pld)
 | .ref ds=>(Pld.d (ds.take 8)).map some
 | .nilp=>some none
 |_=>none
def plE:Option Pld->D
 |some x=> .ref (Pld.c x)
 |none=> .nilp
theorem plD_le: ∀d b,plD d=some b->Le d (plE b):=by
 intro d b h;unfold plD at h;split at h
 .simp only[Zay] at h;obtain⟨x,h1,rfl⟩:=h;exact Qil (LeP.trans_take (Pld.d_le _ _ h1))
 .obtain rfl:=Zaa h;exact Le.refl _
 .cases h
theorem plD_ref(x:Pld):plD (.ref (Pld.c x))=some (some x):=by
 show (Pld.d (Pld.c x)).map some=_;rw[Pld.d_c];rfl
theorem bindF_s(s:Qaa)(f:Qae->Int)(p:Qae)(t:Int)(d:Nat)(h:0<=f (Qf7 p d)):Qhs s f p t (d+1)=Qhs s f p t d+Qfn s t d (f (Qf7 p d)):=by
 have e:Quh s f p t d=Qfn s t d (f (Qf7 p d)):=Zak h;simp only[Qhs,e]
theorem bindF_n{s:Qaa}(hs:setP s)(f:Qae->Int)(p:Qae)(t:Int)(d:Nat)(h: ¬(0<=f (Qf7 p d)/\0<Qfn s t d (f (Qf7 p d)))):Qhs s f p t (d+1)=Qhs s f p t d:=by
 have h1:=Qxd hs f p t d;have h2: ¬0<Quh s f p t d:=fun q=>h ((Qaee ..).1 q)
 simp only[Qhs];omega
def Qae2(s:Qar)(l:List Opt):Option Pld×Int:=if (seqS s l).2.2≠0 then (none,(seqS s l).2.2) else (some ⟨s,l,(seqS s l).1,insS s s.Seed l,smsS s s.Seed l⟩,0)
theorem seqS_ok{s:Qar}{l:List Opt}(h:(seqS s l).2.2=0):(seqS s l).1=Qac9 s.Seed l/\seqP s l/\Qjc s=true:=by
 obtain⟨h1,h2⟩:=seq_ok h;obtain⟨⟨q1,q2,q3,q4⟩,_⟩:=Qacj h1;have e:seqS s l=Qacg s s.Seed l 0:=by
  simp only[seqS];rw[Zai (by rw[h1];decide),Zai (by omega)]
 rw[e] at h⊢;obtain⟨p1,p2⟩:=Qaez l s.Seed 0 h;exact⟨by rw[p1],⟨q1,q2,q3,q4,p2,h2⟩,h1⟩
def play_.fv(a:Qar×(List Opt)):(Option Pld)×Int:=(Qae2) (a.1) (a.2)
def play_.row:Row:=vK (b2 (qR Qar.d_le) (qS Opt.d_le Opt.c_n)) (r2 (RK.mk (plD) (plE) (plD_le)) rI) (fun a=>Qf6 a.1.Set) play_.fv
def play_.q:=vKq (R:=play_.row) rfl
def YaM:=J @play_.fv.eq_1<|J @PlayI_.q<|J @PlayI_.fv.eq_1<|J @step_.q<|J @step_.fv.eq_1<|J @step_.re.eq_1<|J @catC.q<|J @catC.fv.eq_1<|J @bond_.q<|J @bond_.fv.eq_1 @bond_.re.eq_1
theorem play_.ok:Qas Tryz.prog 227 play_.row:=by
 refine vw (tC PlayI_.ok (tC newC.ok (tC step_.ok (tC catC.ok (tC bond_.ok (tC putC.ok tN)))))) Tryz.func227 rfl (by kernel_rfl) ?_;intro a hpre;simp only[Tryz.f227,Option.getD];simp(maxSteps:=9^9)(disch:=omega)only[ZZ,simprocAttr,rch,YaM];obtain⟨s,l⟩:=a;simp only at hpre⊢;refine⟨hpre,?_⟩;simp only[Qap0];by_cases c0:(seqS s l).2.2=0
 case neg=>
  rw[Zak c0];simp only[Qae2,plD,ZbD];rw[Zak c0]
 rw[Zai (fun h=>h c0)];have eR:Qae2 s l=(some ⟨s,l,(seqS s l).1,insS s s.Seed l,smsS s s.Seed l⟩,0):=by
  simp only[Qae2];rw[Zai (fun h=>h c0)]
 obtain⟨hE,⟨q1,q2,q3,q4,q5,q6⟩,hso⟩:=seqS_ok c0;obtain⟨_,q7,q8⟩:=Qacj hso;have hbp:=Qof (s:=s.Set) (a:=s.Seed) (by rw[q7,q8];rfl);have hnp:newC.pre (s,s.Seed):=⟨q1,by simp only;omega,fun y hy=>⟨q2.2 y hy,hbp.1.2.2.2 y hy⟩⟩;obtain⟨e,he⟩: ∃e,e=(seqS s l).1:=⟨_,rfl⟩;rw[eR];simp only[<-he];refine orow.os (s,s.Seed) [] hnp (fun j=>by simp[domB,hget]) rfl rfl ?_ ?_
 .simp(maxSteps:=9^9)(disch:=omega)only[ZZ,simprocAttr,rch,YaM,newC.ca,Qer,Qar.c,Asm.c]
 simp(maxSteps:=9^9)(disch:=omega)only[ZZ,simprocAttr,rch,YaM,newC.H1,sub,Zbi,ZbT];intro _;refine Qay.ren ⟨{k:Nat×List (Qae×Int)×List (Qae×List Int)//k.1<=l.length/\ ∃n,RM k.2.1 (Qac9 s.Seed (l.take k.1)) n},fun k=>⟨[(39,.im (.int .i64 k.1.1)),(38,.im (.int .i64 l.length)),(37,.im (.sl false 3 (l.map Opt.c))),(10,.ptr 7 0),(9,.ptr 2 0),(5,.im (.int .i64 0)),(2,.ptr 0 0)],[(2,(true,.cells 332 [.im (.sl false 2 (s.Set.Glues.map Glue.c)),.im (.sl false 2 (s.Set.Tiles.map Tile.c)),.im (.sl false 3 (s.Seed.Tiles.map Qab.c)),.im (.int .i64 s.Temperature),.im (.sl false 3 (l.map Opt.c)),.im (.sl false 3 (e.Tiles.map Qab.c)),.own 8,.own 9])),(9,(true,.arr 2 1 ((smsS s s.Seed (l.take k.1.1)).map intC))),(8,(true,.arr 2 1 ((insS s s.Seed (l.take k.1.1)).map intC))),(7,(true,.cells 290 [.im (.sl false 2 (s.Set.Glues.map Glue.c)),.im (.sl false 2 (s.Set.Tiles.map Tile.c)),.im (.sl false 3 (s.Seed.Tiles.map Qab.c)),.im (.int .i64 s.Temperature),.mp 5,.mp 6])),
  (5,(true,.map ⟨true,[.int .i64,.int .i64]⟩ (k.1.2.1.map Qbe))),(6,(true,.map ⟨true,[.int .i64,.int .i64]⟩ (k.1.2.2.map Qbc))),(0,(true,.cells 48 ((Qar.c s).map .im)))],10⟩,fun k=>l.length - k.1.1,fun k=>⟨by simp[Qad.good,belT,belH,Qam,AV.bel,belL,Qar.c],by simp⟩,⟨⟨(0,(Qui s s.Seed).Tl,(Qui s s.Seed).Op),by simp only;exact⟨ZaU _,_,RM.of q2.1 (fun x hx=>(q2.2 x hx).1)⟩⟩,[(9,none),(8,none)],?_⟩,fun k=> ?_⟩
 .simp only[subP];simp(maxSteps:=9^9)(disch:=omega)only[ZZ,simprocAttr,rch,YaM,Zbq,insS,smsS,Qac9,ZaV]
  try simp
 obtain⟨⟨k,tl,op⟩,hk1,n,hrm⟩:=k;simp only at hk1 hrm;simp(maxSteps:=9^9)(disch:=omega)only[ZZ,simprocAttr,rch,YaM,sub,Qal];obtain⟨b,hb⟩: ∃b,b=Qac9 s.Seed (l.take k):=⟨_,rfl⟩;have hbi:Qn7 s.Set b:=by rw[hb];exact Qafb q3 q2 q5 k hk1
 rw[<-hb] at hrm;have hat:=hrm.at;refine⟨fun hk=>⟨hk,fun x hx=> ?_⟩,fun hk=> ?_⟩
 .obtain⟨cS,cL⟩:=q5 k x hx;rw[<-hb] at cS cL;obtain⟨g1,g2,g3,g4,g5,g6⟩:=Qadk cS;refine Qay.old ⟨{d:Nat//d<=4},fun d=>⟨[(43,.im (.int .i64 d.1)),(14,.im (.int .i64 (Qhs s.Set (atA b) x.At x.Tile d.1))),(13,.im (.int .i64 (Qadf s.Set (atA b) x.At x.Tile d.1))),(12,.ptr 10 0),(39,.im (.int .i64 k)),(38,.im (.int .i64 l.length)),(37,.im (.sl false 3 (l.map Opt.c))),(10,.ptr 7 0),(9,.ptr 2 0),(5,.im (.int .i64 0)),(2,.ptr 0 0)],[(10,(true,.cells 108 ((Opt.c x).map .im))),(2,(true,.cells 332 [.im (.sl false 2 (s.Set.Glues.map Glue.c)),.im (.sl false 2 (s.Set.Tiles.map Tile.c)),.im (.sl false 3 (s.Seed.Tiles.map Qab.c)),.im (.int .i64 s.Temperature),.im (.sl false 3 (l.map Opt.c)),.im (.sl false 3 (e.Tiles.map Qab.c)),.own 8,.own 9])),(9,(true,.arr 2 1 ((smsS s s.Seed (l.take k)).map intC))),(8,(true,.arr 2 1 ((insS s s.Seed (l.take k)).map intC))),(7,(true,.cells 290 [.im (.sl false 2 (s.Set.Glues.map Glue.c)),.im (.sl false 2 (s.Set.Tiles.map Tile.c)),.im (.sl false 3 (s.Seed.Tiles.map Qab.c)),.im (.int .i64 s.Temperature),.mp 5,.mp 6])),
   (5,(true,.map ⟨true,[.int .i64,.int .i64]⟩ (tl.map Qbe))),(6,(true,.map ⟨true,[.int .i64,.int .i64]⟩ (op.map Qbc))),(0,(true,.cells 48 ((Qar.c s).map .im)))],11⟩,fun d=>4 - d.1,fun d=>⟨by simp[Qad.good,belT,belH,Qam,AV.bel,belL,Qar.c,Opt.c],by simp⟩,⟨⟨0,by simp⟩,by simp(maxSteps:=9^9)(disch:=omega)only[ZZ,simprocAttr,rch,YaM,sub,Qadf,Qhs]⟩,fun d=> ?_⟩
  obtain⟨d,hd1⟩:=d;simp(maxSteps:=9^9)(disch:=omega)only[ZZ,simprocAttr,rch,YaM,sub,Qal,hat];have hmb:=Qafe s.Set (atA b) x.At x.Tile d;have hbb:=Qwy q1 (atA b) x.At x.Tile d;have htb:=Qxd q1 (atA b) x.At x.Tile d;refine⟨fun hd=> ?_,fun hd=> ?_⟩
  .have hd4:d<4:=by omega
   have hp8:=Qaew hd4;refine⟨⟨g2,by omega⟩,fun c1=>⟨⟨q1,g5,⟨by omega,by omega⟩,Qafx hbi _ c1⟩,fun c2=> ?_,fun c2=> ?_⟩,fun c1=> ?_⟩
   .have ht:Quh s.Set (atA b) x.At x.Tile d=Qfn s.Set x.Tile d (atA b (Qf7 x.At d)):=Zak c1;rw[ht] at htb;refine⟨⟨d+1,by omega⟩,by simp only;omega,by rw[Qak (by omega) (by omega)];simp only;omega,?_,?_⟩
    .rw[Qak (by omega) (by omega),bindF_s _ _ _ _ _ c1]
    .rw[Qanf hd4,or_bit hd4 hmb.1 hmb.2,maskF_s _ _ _ _ _ c1 c2]
   .refine⟨⟨d+1,by omega⟩,by simp only;omega,by rw[Qak (by omega) (by omega)];simp only;omega,?_,?_⟩
    .rw[bindF_n q1 _ _ _ _ (fun h=>c2 h.2)]
    .rw[Qaek _ _ _ _ _ (fun h=>c2 h.2)]
   .refine⟨⟨d+1,by omega⟩,by simp only;omega,by rw[Qak (by omega) (by omega)];simp only;omega,?_,?_⟩
    .rw[bindF_n q1 _ _ _ _ (fun h=>c1 h.1)]
    .rw[Qaek _ _ _ _ _ (fun h=>c1 h.1)]
  .have hd4:d=4:=by omega
   subst hd4;refine⟨by simp[OneR,allD,D.one],by rw[Qadv,Zav];omega,by simp[OneR,allD,D.one],by rw[Qael,Zav];omega,?_⟩;have hin:inF s.Set (Qbw tl):=by rw[hat];exact fun p hp=>Qafx hbi p hp
   have hcr:Qacu ⟨s,tl,op⟩:=⟨q1,hin,by simp only;omega⟩;obtain⟨f1,f2⟩:=rm_free hrm hbi cS;refine orow.os (⟨s,tl,op⟩,x.At,x.Tile) [7,5,6] ⟨hcr,g2,g5⟩ (fun j=>Qack _ j) rfl rfl ?_ ?_
   .simp(maxSteps:=9^9)(disch:=omega)only[ZZ,simprocAttr,rch,YaM,putC.ca,cryH,Qbk,Zbg,Zbi,ZbT]
   .simp(maxSteps:=9^9)(disch:=omega)only[ZZ,simprocAttr,rch,YaM,putC.H1,kl12,sub,putT,Zbi,ZbT];refine⟨⟨(k+1,updP tl x.At x.Tile,Qrz s (Qbw (updP tl x.At x.Tile)) (delP op x.At) x.At 4),by simp only;exact⟨by omega,_,by rw[Qwe hx,Qadp,<-hb];exact hrm.put f2 f1⟩⟩,[(9,some 14),(8,some 12)],by simp only;omega,?_⟩;simp only[subP,Qwe hx,Qad8,Qad9,<-hb];simp(maxSteps:=9^9)(disch:=omega)only[ZZ,simprocAttr,rch,YaM,Zah,Zag];refine⟨by rw[Qak (by omega) (by omega)];omega,?_,?_⟩<;>simp[intC]
 .rw[Zap (by omega)]
  have:=plD_ref ⟨s,l,e,insS s s.Seed l,smsS s s.Seed l⟩
  simp only[Pld.c] at this;rw[this];rfl
def has_.fv(a:Int×Int):Bool:=(hasI) (a.1) (a.2)
def has_.row:Row:=vK (b2 qI qI) rB (fun a=>0<=a.2/\a.2<=62) has_.fv
def has_.q:=vKq (R:=has_.row) rfl
theorem has_.ok:Qas Tryz.prog 231 has_.row:=by
 refine vw tN Tryz.func231 rfl (by kernel_rfl) ?_;intro a hpre;simp only[Tryz.f231,Option.getD];simp(maxSteps:=9^9)(disch:=omega)only[ZZ,simprocAttr,rch,has_.fv];exact⟨hpre.1,rfl⟩
def iA1.fv(a:Opt×Qae):Bool:=(fun o p=>decide (o.At=p)) (a.1) (a.2)
def iA1.row:Row:=vK (b2 (qR Opt.d_le) (qP 2 Qae.d_le)) rB (fun a=>True) iA1.fv
def iA1.q:=vKq (R:=iA1.row) rfl
theorem iA1.ok:Qas Tryz.prog 245 iA1.row:=by
 refine vw tN Tryz.func245 rfl (by kernel_rfl) ?_;intro a hpre;simp only[Tryz.f245,Option.getD];simp(maxSteps:=9^9)(disch:=omega)only[ZZ,simprocAttr,rch,iA1.fv];obtain⟨⟨⟨x,y⟩,u⟩,⟨z,w⟩⟩:=a;rw[Zco];simp
def IdxO_.ar:List PK->Option ((List Opt)×Qae)
 |[.val (.sl _ _ x0),.val (.fn 245 [] [.ref x1_0])]=>(decR Opt.d x0).bind fun y0=>(Qae.d (x1_0.take 2)).bind fun y1_0=>some (y0,y1_0)
 |_=>none
def IdxO_.ae(a:(List Opt)×Qae):List PK:=[.val (.sl false 3 (a.1.map Opt.c)),.val (.fn 245 [] [.ref (Qae.c a.2)])]
theorem IdxO_.le: ∀ps a,IdxO_.ar ps=some a->LeKL ps (IdxO_.ae a):=by
 intro ps a h;unfold IdxO_.ar at h;split at h
 .simp only[Zaw,Zab] at h;obtain⟨y0,h0,y1_0,h1_0,rfl⟩:=h;exact⟨Qbf (Qa2 Opt.d_le _ _ h0) (by simp only[ZaM];rintro r ⟨y,_,rfl⟩;rfl),Qos ⟨Qil (LeP.trans_take (Qae.d_le _ _ h1_0)),trivial⟩,trivial⟩
 .cases h
def IdxO_.fv(a:(List Opt)×Qae):Int:=(fun l p=>idxO l p) (a.1) (a.2)
def IdxO_.row:Row:=vrow IdxO_.ar (fun a=>True) (fun a=>(D.int .i64) (IdxO_.fv a))
def IdxO_.q:=vq IdxO_.row rfl
theorem IdxO_.ok:Qas Tryz.prog 244 IdxO_.row:=by
 refine Qaj Qaq (tC iA1.ok tN) Tryz.func244 rfl (by kernel_rfl) (by kernel_rfl) (ar:=IdxO_.ar) (ae:=IdxO_.ae) IdxO_.le (n:=2) (fun _=>rfl) (by decide) (rc:=(vInt)) (re:=(D.int .i64)) (Qa3) (f:=IdxO_.fv) ?_;intro a hpre;simp only[Tryz.f244,Option.getD];simp(maxSteps:=9^9)(disch:=omega)only[ZZ,simprocAttr,rch,IdxO_.ae,IdxO_.fv,iA1.q,iA1.fv];intro hn;simp only[idxO];refine Qay.old ⟨{k:Nat//k<=a.1.length/\Qaw (fun o:Opt=>decide (o.At=a.2)) k (a.1.drop k)=Qaw (fun o:Opt=>decide (o.At=a.2)) 0 a.1},fun k=>⟨[(8,.im (.int .i64 k.1)),(7,.im (.int .i64 a.1.length)),(6,.im (.sl false 3 (a.1.map Opt.c))),(4,.im (.int .i64 0)),(0,.im (.sl false 3 (a.1.map Opt.c))),(1,.im (.fn 245 [] [.ref (Qae.c a.2)]))],[],0⟩,fun k=>a.1.length - k.1,fun k=>⟨by simp[Qad.good,belT,belH,Qam,AV.bel,belL],Zal _⟩,⟨⟨0,by simp⟩,by simp(maxSteps:=9^9)(disch:=omega)only[ZZ,simprocAttr,rch,IdxO_.ae,IdxO_.fv,iA1.q,iA1.fv,sub]⟩,fun k=> ?_⟩;obtain⟨k,hk1,hk2⟩:=k;simp(maxSteps:=9^9)(disch:=omega)only[ZZ,simprocAttr,rch,IdxO_.ae,IdxO_.fv,iA1.q,iA1.fv,sub,Qal];refine⟨fun hk=>⟨hk,fun x hx=> ?_⟩,fun hk=> ?_⟩
 .rw[Qd3 hx,Qaw] at hk2;refine⟨fun h=> ?_,fun h=>Qb6 hk hn ⟨by omega,by rw[<-hk2,Zai (by simpa using h)]⟩⟩;rw[Zak (by simpa using h)] at hk2;exact hk2
 .rw[Zaq (by omega),Qaw] at hk2;exact hk2
def idxAt_.fv(a:Pld×Qae):Int:=(fun x p=>idxO x.Seq p) (a.1) (a.2)
def idxAt_.row:Row:=vK (b2 (qP 8 Pld.d_le) (qR Qae.d_le)) rI (fun a=>True) idxAt_.fv
def idxAt_.q:=vKq (R:=idxAt_.row) rfl
theorem idxAt_.ok:Qas Tryz.prog 237 idxAt_.row:=by
 refine vw (tC IdxO_.ok tN) Tryz.func237 rfl (by kernel_rfl) ?_;intro a hpre;simp only[Tryz.f237,Option.getD];simp(maxSteps:=9^9)(disch:=omega)only[ZZ,simprocAttr,rch,idxAt_.fv,IdxO_.q,IdxO_.ar,IdxO_.fv]
 skip
def nonE{A:Type}(l:List A):Option (List A):=if l=[] then none else some l
abbrev Qajt(s:Qar)(f:Qae->Int)(q:Qae):List Int:=Qm0 s f q s.Set.Tiles.length
def OpOk(s:Qar)(f:Qae->Int)(op:List (Qae×List Int)):Prop:=(op.map Prod.fst).Nodup/\ ∀q,lkP op q=nonE (Qajt s f q)
theorem Qaj1{s:Qar}{f:Qae->Int}{q:Qae}(h: ∀k:Int,Qpg s f q k=false): ∀n,Qm0 s f q n=[]
 |0=>rfl
 |n+1=>by simp only[Qm0,Qaj1 h n,h,ZbH];rfl
theorem fitUp_occ{s:Qar}{f:Qae->Int}{q:Qae}(h:0<=f q)(n:Nat):Qm0 s f q n=[]:=
 Qaj1 (fun k=>by simp only[Qpg];rw[Zbe (show ¬f q<0 by omega)];simp) n
theorem Qakr{s:Qaa}{f:Qae->Int}{q:Qae}{t:Int}(h: ∀d:Nat,d<4->f (Qf7 q d)<0): ∀k,k<=4->Qhs s f q t k=0
 |0,_=>rfl
 |k+1,hk=>by
  have:=h k (by omega)
  simp only[Qhs,Qakr h k (by omega),Quh];rw[Zai (by omega)];rfl
theorem Qakp{s:Qar}{f:Qae->Int}{q:Qae}(hT:1<=s.Temperature)(h: ∀d:Nat,d<4->f (Qf7 q d)<0)(n:Nat):Qm0 s f q n=[]:=
 Qaj1 (fun k=>by simp only[Qpg,Qakr h 4 (Zal _)];rw[Zbe (show ¬s.Temperature<=0 by omega)];simp) n
theorem lkP_no{β:Type}{p:Qae}: ∀{l:List (Qae×β)},p∉l.map Prod.fst->lkP l p=none
 |[],_=>rfl
 |(k,v)::r,h=>by
  simp only[Zao,Zax,Zfg] at h;simp only[lkP];rw[Zai h.1,lkP_no h.2]
theorem Qakn{β:Type}{p:Qae}: ∀{l:List (Qae×β)},p∈l.map Prod.fst-> ∃v,lkP l p=some v/\(p,v)∈l
 |[],h=>by simp at h
 |(k,v)::r,h=>by
  simp only[lkP];by_cases c:p=k
  .rw[Zak c,c];exact⟨v,rfl,Zau ..⟩
  .rw[Zai c];obtain⟨w,h1,h2⟩:=Qakn (l:=r) (by simpa[c] using h);exact⟨w,h1,Zas _ h2⟩
theorem lkP_in{β:Type}{p:Qae}{l:List (Qae×β)}:p∈l.map Prod.fst↔lkP l p≠none:=by
 constructor
 .intro h;obtain⟨v,h1,_⟩:=Qakn h;rw[h1];simp
 .intro h;apply Zcb;intro h2;exact h (lkP_no h2)
theorem Qak7{β:Type}{p q:Qae}: ∀{l:List (Qae×β)},q∈(delP l p).map Prod.fst->q∈l.map Prod.fst
 |[],h=>by simp[delP] at h
 |(k,v)::r,h=>by
  simp only[delP] at h;split at h
  .exact Zas _ h
  .simp only[Zao,Zax] at h⊢;rcases h with h|h
   .exact .inl h
   .exact .inr (Qak7 h)
theorem delP_nd{β:Type}{p:Qae}: ∀{l:List (Qae×β)},(l.map Prod.fst).Nodup->((delP l p).map Prod.fst).Nodup
 |[],h=>h
 |(k,v)::r,h=>by
  simp only[Zao,ZbS] at h;simp only[delP];split
  .exact h.2
  .simp only[Zao,ZbS];exact⟨fun h2=>h.1 (Qak7 h2),delP_nd h.2⟩
theorem lkP_del{β:Type}{p:Qae}(q:Qae): ∀{l:List (Qae×β)},(l.map Prod.fst).Nodup->lkP (delP l p) q=if q=p then none else lkP l q
 |[],_=>by simp[delP,lkP]
 |(k,v)::r,h=>by
  simp only[Zao,ZbS] at h;simp only[delP];by_cases c:p=k
  .rw[Zak c];by_cases e:q=p
   .rw[Zak e,e,c];exact lkP_no h.1
   .rw[Zai e];simp only[lkP];rw[Zai (fun h2=>e (h2.trans c.symm))]
  .rw[Zai c];simp only[lkP];by_cases e:q=k
   .rw[Zak e,Zak e,Zai (fun h2=>c (h2.symm.trans e))]
   .rw[Zai e,Zai e,lkP_del q h.2]
theorem updP_ky{β:Type}{p q:Qae}{v:β}: ∀{l:List (Qae×β)},q∈(updP l p v).map Prod.fst↔q=p\/q∈l.map Prod.fst
 |[]=>by simp[updP]
 |(k,w)::r=>by
  simp only[updP];split
  .rename_i c;subst c;simp
  .simp only[Zao,Zax,updP_ky (l:=r)];constructor
   .rintro (h|h|h)
    .exact .inr (.inl h)
    .exact .inl h
    .exact .inr (.inr h)
   .rintro (h|h|h)
    .exact .inr (.inl h)
    .exact .inl h
    .exact .inr (.inr h)
theorem Qak9{β:Type}{p:Qae}{v:β}: ∀{l:List (Qae×β)},(l.map Prod.fst).Nodup->((updP l p v).map Prod.fst).Nodup
 |[],_=>by simp[updP]
 |(k,w)::r,h=>by
  simp only[Zao,ZbS] at h;simp only[updP];split
  .rename_i c;subst c;simp only[Zao,ZbS];exact h
  .rename_i c;simp only[Zao,ZbS];refine⟨fun h2=> ?_,Qak9 h.2⟩;rcases updP_ky.1 h2 with e|e
   .exact c e.symm
   .exact h.1 e
theorem lookS_nd{s:Qar}{f:Qae->Int}{op:List (Qae×List Int)}{q:Qae}(h:(op.map Prod.fst).Nodup):((Qak2 s f op q).map Prod.fst).Nodup:=by
 simp only[Qak2];split
 .exact delP_nd h
 .exact Qak9 h
theorem lookS_lk{s:Qar}{f:Qae->Int}{op:List (Qae×List Int)}{p:Qae}(h:(op.map Prod.fst).Nodup)(q:Qae):lkP (Qak2 s f op p) q=if q=p then nonE (Qajt s f q) else lkP op q:=by
 simp only[Qak2];by_cases c:Qm0 s f p s.Set.Tiles.length=[]
 .rw[Zak c,lkP_del q h];by_cases e:q=p
  .subst e;rw[Zak rfl,Zak rfl,nonE,Zak c]
  .rw[Zai e,Zai e]
 .rw[Zai c,Qyq];by_cases e:q=p
  .subst e;rw[Zak rfl,Zak rfl,nonE,Zai c]
  .rw[Zai e,Zai e]
theorem Qakk{s:Qar}{f:Qae->Int}{op:List (Qae×List Int)}{p:Qae}(h:(op.map Prod.fst).Nodup): ∀k,((Qrz s f op p k).map Prod.fst).Nodup
 |0=>h
 |k+1=>lookS_nd (Qakk h k)
def Qaj9(p q:Qae):Prop:= ∃d:Nat,d<4/\Qf7 p d=q
theorem Qalc{s:Qar}{f:Qae->Int}{op:List (Qae×List Int)}{p:Qae}(h:(op.map Prod.fst).Nodup)(q:Qae): ∀k,(∀d:Nat,d<k->Qf7 p d≠q)/\lkP (Qrz s f op p k) q=lkP op q\/(∃d:Nat,d<k/\Qf7 p d=q)/\lkP (Qrz s f op p k) q=nonE (Qajt s f q)
 |0=> .inl ⟨fun d hd=>absurd hd (by omega),rfl⟩
 |k+1=>by
  have ih:=Qalc (s:=s) (f:=f) (p:=p) h q k;simp only[Qrz,lookS_lk (Qakk h k)];by_cases c:q=Qf7 p k
  .rw[Zak c];exact .inr ⟨⟨k,by omega,c.symm⟩,rfl⟩
  .rw[Zai c];rcases ih with ⟨h1,h2⟩|⟨⟨d,h1,h2⟩,h3⟩
   .refine .inl ⟨fun d hd=> ?_,h2⟩;by_cases e:d=k
    .subst e;exact fun h=>c h.symm
    .exact h1 d (by omega)
   .exact .inr ⟨⟨d,by omega,h2⟩,h3⟩
theorem look4{s:Qar}{f:Qae->Int}{op:List (Qae×List Int)}{p:Qae}(h:(op.map Prod.fst).Nodup)(q:Qae):(¬Qaj9 p q/\lkP (Qrz s f op p 4) q=lkP op q)\/(Qaj9 p q/\lkP (Qrz s f op p 4) q=nonE (Qajt s f q)):=by
 rcases Qalc (s:=s) (f:=f) h q 4 with ⟨h1,h2⟩|h
 .exact .inl ⟨fun ⟨d,hd,e⟩=>h1 d hd e,h2⟩
 .exact .inr h
theorem step_back(p:Qae){d:Nat}(h:d<4):Qf7 (Qf7 p d) ((d+2) % 4:Nat)=p:=by
 rcases (by omega:d=0\/d=1\/d=2\/d=3) with rfl|rfl|rfl|rfl<;>simp[Qf7]<;>omega
theorem Qake{p q:Qae}(h:Qaj9 p q):Qaj9 q p:=by
 obtain⟨d,hd,rfl⟩:=h;exact⟨(d+2) % 4,by omega,step_back p hd⟩
theorem Qak1{s:Qar}{f:Qae->Int}(q:Qae): ∀(l:List Qab) (op:List (Qae×List Int)),(op.map Prod.fst).Nodup->
 ((l.foldl (fun o x=>Qrz s f o x.At 4) op).map Prod.fst).Nodup/\((∀x∈l,¬Qaj9 x.At q)/\lkP (l.foldl (fun o x=>Qrz s f o x.At 4) op) q=lkP op q\/(∃x∈l,Qaj9 x.At q)/\lkP (l.foldl (fun o x=>Qrz s f o x.At 4) op) q=nonE (Qajt s f q))
 |[],op,h=>⟨h,.inl ⟨by simp,rfl⟩⟩
 |x::r,op,h=>by
  simp only[Zdm];obtain⟨h1,h2⟩:=Qak1 (s:=s) (f:=f) q r (Qrz s f op x.At 4) (Qakk h 4);refine⟨h1,?_⟩;rcases h2 with ⟨a,b⟩|⟨⟨y,hy,a⟩,b⟩
  .rcases look4 (s:=s) (f:=f) (p:=x.At) h q with ⟨c,e⟩|⟨c,e⟩
   .refine .inl ⟨fun y hy=> ?_,b.trans e⟩;rcases Zax.1 hy with rfl|hy
    .exact c
    .exact a y hy
   .exact .inr ⟨⟨x,Zau ..,c⟩,b.trans e⟩
  .exact .inr ⟨⟨y,Zas _ hy,a⟩,b⟩
theorem tlUp_at{l:List Qab}: ∀{q:Qae},0<=Qbw (tlUp l) q-> ∃x∈l,x.At=q:=by
 have key: ∀(l:List Qab) (t:List (Qae×Int)) (q:Qae),lkP (l.foldl (fun t x=>updP t x.At x.Tile) t) q≠none->(∃x∈l,x.At=q)\/lkP t q≠none:=by
  intro l;induction l with
  |nil=>intro t q h;exact .inr h
  |cons x r ih=>
   intro t q h;rcases ih _ q h with ⟨y,hy,e⟩|h2
   .exact .inl ⟨y,Zas _ hy,e⟩
   .rw[Qyq] at h2;split at h2
    .rename_i e;exact .inl ⟨x,Zau ..,e.symm⟩
    .exact .inr h2
 intro q h;rcases key l [] q (fun e=>by
  simp only[Qbw,tlUp,e,Option.getD_none] at h;omega) with h2|h2
 .exact h2
 .simp[lkP] at h2
theorem op_new{s:Qar}{l:List Qab}(hT:1<=s.Temperature):OpOk s (Qbw (tlUp l)) (opUp s (Qbw (tlUp l)) l):=by
 have hn:(([]:List (Qae×List Int)).map Prod.fst).Nodup:=by simp
 refine⟨(Qak1 ⟨0,0⟩ l [] hn).1,fun q=> ?_⟩;rcases (Qak1 (s:=s) (f:=Qbw (tlUp l)) q l [] hn).2 with ⟨h1,h2⟩|⟨_,h2⟩
 .rw[opUp,h2]
  have:Qajt s (Qbw (tlUp l)) q=[]:=by
   refine Qakp hT (fun d hd=> ?_) _;apply Zcb;intro h;obtain⟨x,hx,e⟩:=tlUp_at (l:=l) (q:=Qf7 q d) (by omega);exact h1 x hx (Qake (e▸⟨d,hd,rfl⟩))
  rw[nonE,Zak this];rfl
 .exact h2
def insQ(p:Qae):List Qae->List Qae
 |[]=>[p]
 |y::r=>if Qap y p=true then y::insQ p r else if y=p then y::r else p::y::r
def Qakz(l:List Qae):List Qae:=l.foldr insQ []
abbrev ltQ(l:List Qae):Prop:=l.Pairwise fun a b=>Qap a b=true
theorem Qajr{a b c:Qae}(h1:Qap a b=true)(h2:Qap b c=true):Qap a c=true:=by simp only[Qap] at*;grind
theorem Qaj3(a:Qae):Qap a a=false:=by simp[Qap]
theorem Qako{a b:Qae}(h1:Qap a b=false)(h2:a≠b):Qap b a=true:=by
 obtain⟨ax,ay⟩:=a;obtain⟨bx,by'⟩:=b;simp only[Qap,ne_eq,Qae.mk.injEq] at*
 grind
theorem Qaj7{p q:Qae}: ∀{l:List Qae},q∈insQ p l↔q=p\/q∈l
 |[]=>by simp[insQ]
 |y::r=>by
  simp only[insQ];split
  .simp only[Zax,Qaj7 (l:=r)];constructor
   .rintro (h|h|h)
    .exact .inr (.inl h)
    .exact .inl h
    .exact .inr (.inr h)
   .rintro (h|h|h)
    .exact .inr (.inl h)
    .exact .inl h
    .exact .inr (.inr h)
  .split
   .rename_i c;subst c;simp
   .simp
theorem Qak4{p:Qae}: ∀{l:List Qae},ltQ l->ltQ (insQ p l)
 |[],_=>by simp[insQ]
 |y::r,h=>by
  rw[ltQ,Zcl] at h;simp only[insQ];split
  .rename_i c;rw[ltQ,Zcl];refine⟨fun z hz=> ?_,Qak4 h.2⟩;rcases Qaj7.1 hz with rfl|hz
   .exact c
   .exact h.1 z hz
  .rename_i c;split
   .rw[ltQ,Zcl];exact h
   .rename_i e;have hpy:=Qako (by simpa using c) e;rw[ltQ,Zcl,Zcl];refine⟨fun z hz=> ?_,h⟩;rcases Zax.1 hz with rfl|hz
    .exact hpy
    .exact Qajr hpy (h.1 z hz)
theorem Qakg: ∀(l:List Qae),ltQ (Qakz l)
 |[]=>List.Pairwise.nil
 |_::r=>Qak4 (Qakg r)
theorem Qaka{q:Qae}: ∀{l:List Qae},q∈Qakz l↔q∈l
 |[]=>by simp[Qakz]
 |x::r=>by
  have:Qakz (x::r)=insQ x (Qakz r):=rfl
  rw[this,Qaj7,Qaka (l:=r),Zax]
theorem ltQ_nd{l:List Qae}(h:ltQ l):l.Nodup:=by
 refine ZeA (fun {a b} hab e=> ?_) h;rw[e,Qaj3] at hab;cases hab
theorem Qal3{l m:List Qae}(h1:ltQ l)(h2:ltQ m)(h: ∀q,q∈l↔q∈m):l=m:=by
 have hp:l.Perm m:=(Zer (ltQ_nd h1) (ltQ_nd h2)).2 h;refine ZeB (le:=fun a b=>Qap a b=true) (fun a b _ _ g1 g2=> ?_) h1 h2 hp
 have:=Qajr g1 g2
 rw[Qaj3] at this;cases this
def Qajv(a:Asm)(p:Qae)(l:List Qae):Nat->List Qae
 |0=>l
 |k+1=>if Qbi (Qf7 p k)=true/\atA a (Qf7 p k)<0 then insQ (Qf7 p k) (Qajv a p l k) else Qajv a p l k
def Qajq(a:Asm):Nat->List Qae
 |0=>[]
 |i+1=>Qajv a ((a.Tiles[i]?.map Qab.At).getD ⟨0,0⟩) (Qajq a i) 4
theorem Qaj6{a:Asm}{p:Qae}{l:List Qae}(h:ltQ l): ∀k,ltQ (Qajv a p l k)
 |0=>h
 |k+1=>by
  simp only[Qajv];split
  .exact Qak4 (Qaj6 h k)
  .exact Qaj6 h k
theorem Qaki(a:Asm): ∀i,ltQ (Qajq a i)
 |0=>List.Pairwise.nil
 |i+1=>Qaj6 (Qaki a i) 4
theorem Qakw{a:Asm}{p q:Qae}{l:List Qae}: ∀k,q∈Qajv a p l k↔q∈l\/(Qbi q=true/\atA a q<0)/\ ∃d:Nat,d<k/\Qf7 p d=q
 |0=>by simp[Qajv]
 |k+1=>by
  simp only[Qajv];have ih:=Qakw (a:=a) (p:=p) (q:=q) (l:=l) k;split
  .rename_i c;rw[Qaj7,ih];constructor
   .rintro (rfl|h|⟨h,d,h1,h2⟩)
    .exact .inr ⟨c,k,by omega,rfl⟩
    .exact .inl h
    .exact .inr ⟨h,d,by omega,h2⟩
   .rintro (h|⟨h,d,h1,h2⟩)
    .exact .inr (.inl h)
    .by_cases e:d=k
     .subst e;exact .inl h2.symm
     .exact .inr (.inr ⟨h,d,by omega,h2⟩)
  .rename_i c;rw[ih];constructor
   .rintro (h|⟨h,d,h1,h2⟩)
    .exact .inl h
    .exact .inr ⟨h,d,by omega,h2⟩
   .rintro (h|⟨h,d,h1,h2⟩)
    .exact .inl h
    .by_cases e:d=k
     .subst e;subst h2;exact absurd h c
     .exact .inr ⟨h,d,by omega,h2⟩
theorem Qajz{a:Asm}{q:Qae}: ∀i,i<=a.Tiles.length->(q∈Qajq a i↔(Qbi q=true/\atA a q<0)/\ ∃x∈a.Tiles.take i,Qaj9 x.At q)
 |0,_=>by simp[Qajq]
 |i+1,hi=>by
  have hx:a.Tiles[i]? =some (a.Tiles[i]'(by omega)):=Zac (by omega);simp only[Qajq];rw[Qakw,Qajz i (by omega),Qwe hx,hx,ZaT,Zad];constructor
  .rintro (⟨h,x,h1,h2⟩|⟨h,h2⟩)
   .exact⟨h,x,ZbK _ h1,h2⟩
   .exact⟨h,_,ZbW _ (Zau ..),h2⟩
  .rintro⟨h,x,h1,h2⟩;rcases Zar.1 h1 with h1|h1
   .exact .inl ⟨h,x,h1,h2⟩
   .rw[Zat] at h1;subst h1;exact .inr ⟨h,h2⟩
def atU(s:Qar)(f:Qae->Int)(q:Qae):Nat->List Int
 |0=>[]
 |k+1=>atU s f q k++(if s.Temperature<=Qhs s.Set f q k 4 then [(k:Int)] else [])
theorem Qakm(s:Qar)(f:Qae->Int)(q:Qae): ∀k,(atU s f q k).length<=k
 |0=>by simp[atU]
 |k+1=>by
  have:=Qakm s f q k
  simp only[atU,ZaC]
  split<;>simp<;>omega
theorem Qalg{s:Qar}{f:Qae->Int}{q:Qae}(h1:Qbi q=true)(h2:f q<0): ∀n,Qm0 s f q n=atU s f q n
 |0=>rfl
 |n+1=>by
  simp only[Qm0,atU,Qalg h1 h2 n,Qpg,h1,Zbw h2,ZaD,Zan]
def mkO2(p:Qae)(k:Int):Opt:=⟨p,k⟩
def Qajs(g:Qae->List Int)(l:List Qae):List Opt:=l.flatMap fun p=>(g p).map (mkO2 p)
def Qaj8(s:Qar)(a:Asm):List Opt:=Qajs (fun p=>atU s (atA a) p s.Set.Tiles.length) (Qajq a a.Tiles.length)
def Qalo(op:List (Qae×List Int)):List Opt:=Qajs (fun p=>(lkP op p).getD []) (Qakz (op.map Prod.fst))
theorem Qaj5{g:Qae->List Int}: ∀(l:List Qae),Qajs g (l.filter fun p=> !(g p).isEmpty)=Qajs g l
 |[]=>rfl
 |p::r=>by
  have ih:=Qaj5 (g:=g) r;simp only[Qajs] at ih;simp only[Qajs,Zds];split
  .simp only[Zbm,ih]
  .rename_i c
   have:g p=[]:=by simpa using c
   simp only[Zbm,ih,this,ZaV,ZbH]
theorem Qajx{g h:Qae->List Int}: ∀(l:List Qae),(∀p∈l,g p=h p)->Qajs g l=Qajs h l
 |[],_=>rfl
 |p::r,hg=>by
  simp only[Qajs,Zbm];rw[hg p (Zau ..)]
  have:=Qajx r fun q hq=>hg q (Zas _ hq)
  simp only[Qajs] at this;rw[this]
theorem atA_mem{a:Asm}{q:Qae}(h:0<=atA a q): ∃x∈a.Tiles,x.At=q:=by
 simp only[atA] at h;cases e:a.Tiles.find? (fun x=>decide (x.At=q)) with
 |none=>rw[e] at h;simp at h
 |some x=>exact⟨x,Zcx e,by simpa using Zcp e⟩
theorem Qap2{s:Qar}{a:Asm}{op:List (Qae×List Int)}(hT:1<=s.Temperature)(h:OpOk s (atA a) op):Qalo op=Qaj8 s a:=by
 have hin: ∀q,Qajt s (atA a) q≠[]->q∈Qajq a a.Tiles.length:=fun q hq=>by
  rw[Qajz _ (Zal _),Zbx];have h0:atA a q<0:=by
   apply Zcb;intro c;exact hq (fitUp_occ (by omega) _)
  have hp:Qbi q=true:=by
   apply Zcb;intro c;exact hq (Qaj1 (fun k=>by simp only[Qpg];rw[ZaO] at c;rw[c];rfl) _)
  refine⟨⟨hp,h0⟩,?_⟩;apply Zcb;intro c;refine hq (Qakp hT (fun d hd=> ?_) _);apply Zcb;intro c2;obtain⟨x,hx,e⟩:=atA_mem (a:=a) (q:=Qf7 q d) (by omega);exact c ⟨x,hx,Qake ⟨d,hd,e.symm⟩⟩
 have hon: ∀q∈Qajq a a.Tiles.length,atU s (atA a) q s.Set.Tiles.length=Qajt s (atA a) q:=fun q hq=>by
  rw[Qajz _ (Zal _)] at hq;exact (Qalg hq.1.1 hq.1.2 _).symm
 have hlk: ∀q,(lkP op q).getD []=Qajt s (atA a) q:=fun q=>by
  rw[h.2 q,nonE];split
  .rename_i e;rw[e];rfl
  .rfl
 have e1:Qaj8 s a=Qajs (Qajt s (atA a)) (Qajq a a.Tiles.length):=Qajx _ hon;have e2:Qalo op=Qajs (Qajt s (atA a)) (Qakz (op.map Prod.fst)):=Qajx _ fun q _=>hlk q
 rw[e1,e2,<-Qaj5 (Qajq a a.Tiles.length)];congr 1;refine Qal3 (Qakg _) ((Qaki a _).filter _) (fun q=> ?_);rw[Qaka,lkP_in,h.2 q,nonE,ZcQ];constructor
 .intro hq;have hne:Qajt s (atA a) q≠[]:=fun e=>hq (Zak e)
  exact⟨hin q hne,by simpa using hne⟩
 .rintro⟨_,hq⟩;have hne:Qajt s (atA a) q≠[]:=by simpa using hq
  rw[Zai hne];simp
def posQ(p:Qae)(l:List Qae):Nat:=(l.takeWhile fun y=>Qap y p).length
theorem Qald(p:Qae): ∀(l:List Qae),insQ p l=if l[posQ p l]? =some p then l else l.take (posQ p l)++p::l.drop (posQ p l)
 |[]=>by simp[insQ,posQ]
 |y::r=>by
  have ih:=Qald p r;simp only[insQ];by_cases c:Qap y p=true
  .have e:posQ p (y::r)=posQ p r+1:=by simp[posQ,Zda,c]
   rw[Zak c,ih,e,ZaW];split
   .rfl
   .simp
  .have e:posQ p (y::r)=0:=by simp[posQ,Zda,c]
   rw[Zai c,e];simp
theorem posQ_eq{p:Qae}: ∀{l:List Qae} {k:Nat},ltQ l->k<=l.length->(∀(i:Nat) (y:Qae),k<=i->l[i]? =some y->Qap y p=false)->(∀y,k≠0->l[k - 1]? =some y->Qap y p=true)->posQ p l=k
 |[],k,_,hk,_,_=>by simp at hk;simp[posQ,hk]
 |y::r,0,_,_,h1,_=>by
  have:=h1 0 y (Zal _) rfl
  simp[posQ,Zda,this]
 |y::r,k+1,hl,hk,h1,h2=>by
  rw[ltQ,Zcl] at hl;have hy:Qap y p=true:=by
   cases k with
   |zero=>exact h2 y (by omega) rfl
   |succ k=>
    have hlt:k+1<(y::r).length:=by simp at hk⊢;omega
    have h3:=h2 _ (by omega) (Zac (l:=y::r) (i:=k+1) hlt);refine Qajr (hl.1 _ ?_) h3;simp
  have ih:=posQ_eq (p:=p) (l:=r) (k:=k) hl.2 (by simpa using hk) (fun i z hi hz=>h1 (i+1) z (by omega) (by simpa using hz)) (fun z hk0 hz=>h2 z (by omega) (by
   obtain⟨m,rfl⟩: ∃m,k=m+1:=⟨k - 1,by omega⟩;simpa using hz))
  simp only[posQ] at ih;simp[posQ,Zda,hy,ih]
def shQ(p:Qae)(l:List Qae)(i:Nat):List Qae:=(l++[p]).take (i+1)++l.drop i
theorem Qak6{p:Qae}{l:List Qae}{i:Nat}(h:i<=l.length):(shQ p l i).length=l.length+1:=by simp[shQ];omega
theorem shQ_all(p:Qae)(l:List Qae):shQ p l l.length=l++[p]:=by simp[shQ,Zap]
theorem shQ_step{p x:Qae}{l:List Qae}{i:Nat}(h:i+1<=l.length)(hx:(shQ p l (i+1))[i]? =some x):(shQ p l (i+1)).set (i+1) x=shQ p l i:=by
 have hx2:l[i]? =some x:=by
  rw[<-hx,shQ,ZaG (by simp;omega),ZcJ,Zak (by omega),ZaG (by omega)]
 apply Zci;intro j;have e1:((l++[p]).take (i+1+1)).length=i+2:=by simp;omega
 have e2:((l++[p]).take (i+1)).length=i+1:=by simp;omega
 by_cases c:j=i+1
 .subst c;rw[ZaE (by rw[Qak6 h];omega),shQ,ZaI (by omega),e2,Zca,Zbs,ZdZ,hx2]
 .rw[ZaH (ZcL c)];simp only[shQ];by_cases c2:j<i+1
  .rw[ZaG (by omega),ZaG (by omega),ZcJ,ZcJ,Zak (by omega),Zak c2]
  .rw[ZaI (by omega),ZaI (by omega),e1,e2,Zbs,Zbs];congr 1;omega
theorem shQ_end{p:Qae}{l:List Qae}{k:Nat}(h:k<=l.length):(shQ p l k).set k p=l.take k++p::l.drop k:=by
 apply Zci;intro j;have e2:((l++[p]).take (k+1)).length=k+1:=by simp;omega
 have e3:(l.take k).length=k:=by simp;omega
 by_cases c:j=k
 .subst c;rw[ZaE (by rw[Qak6 h];omega),ZaI (by omega),e3,Zca];simp
 .rw[ZaH (ZcL c)];simp only[shQ];by_cases c2:j<k
  .rw[ZaG (by omega),ZaG (by omega),ZcJ,ZcJ,Zak (by omega),Zak c2,ZaG (by omega)]
  .obtain⟨m,rfl⟩: ∃m,j=k+1+m:=⟨j - (k+1),by omega⟩;rw[ZaI (by omega),ZaI (by omega),e2,e3,Zbs,show k+1+m - k=m+1 by omega,ZaW,Zbs];congr 1;omega
theorem pt_eq3{p q:Qae}:((p.X==q.X)=true/\(p.Y==q.Y)=true)↔p=q:=by
 obtain⟨px,py⟩:=p;obtain⟨qx,qy⟩:=q;simp
def putQ.ca(a:List Qae×Qae):List AV:=[.own 0,.im (.agg [.int .i64 a.2.X,.int .i64 a.2.Y])]
def putQ.H0(a:List Qae×Qae):Qan:=[(0,(true,.arr 94 2 (a.1.map Qae.c)))]
def putQ.H1(a:List Qae×Qae):Qan:=[(1,(true,.arr 94 2 ((insQ a.2 a.1).map Qae.c)))]
def kl0(j:Nat):Bool:=j==0
def putQ.row:Row:=orow putQ.ca putQ.H0 1 (fun a=>ltQ a.1/\a.1.length<=1000000) kl0 (fun _=> .own 1) putQ.H1 1
def YaN:=J @l_LessPoint.q @l_LessPoint.fv.eq_1
theorem putQ.ok:Qas Tryz.prog 102 putQ.row:=by
 refine owN (tC l_LessPoint.ok tN) Tryz.func102 rfl (by kernel_rfl) (exB:=fun j=>j==1) (R:=fun _ r=>r= .own 1) (fun _=>rfl)
  (fun a=>by simp[putQ.ca,putQ.H0,putQ.H1,kl0,belL,AV.bel,belH,Qam,Qc2,AObj.nms,nmsL,AV.nms,domB,hget]) (fun a p hp=> ?_) (fun a r h=>by subst h;exact LeV.refl _) ?_
 rotate_left
 intro a hpre;simp only[Tryz.f102,Option.getD,putQ.ca,putQ.H0,putQ.H1,kl0];simp(maxSteps:=9^9)(disch:=omega)only[ZZ,simprocAttr,rch,YaN,Qc7,ORB,putQ.ca,putQ.H0,putQ.H1,kl0];rotate_left
 .simp[putQ.H1] at hp;subst hp;exact .inr ⟨by omega,by omega,rfl,rfl⟩
 obtain⟨l,p⟩:=a;obtain⟨hl,hn⟩:=hpre;simp only at hl hn⊢;intro _;refine Qay.old ⟨{k:Nat//k<=l.length/\ ∀(i:Nat) (y:Qae),k<=i->l[i]? =some y->Qap y p=false},fun k=>⟨[(5,.im (.int .i64 k.1)),(3,.ptr 1 0),(0,.own 0)],[(1,(true,.cells 94 [.im (.int .i64 p.X),.im (.int .i64 p.Y)])),(0,(true,.arr 94 2 (l.map Qae.c)))],3⟩,fun k=>k.1,fun k=>⟨by simp[Qad.good,belT,belH,Qam,AV.bel,belL],by simp⟩,⟨⟨l.length,Zal _,fun i y hi hy=>by rw[ZaZ hi] at hy;cases hy⟩,by simp(maxSteps:=9^9)(disch:=omega)only[ZZ,simprocAttr,rch,YaN,Qc7,ORB,putQ.ca,putQ.H0,putQ.H1,kl0,sub]⟩,fun k=> ?_⟩;obtain⟨k,hk,hkn⟩:=k;simp(maxSteps:=9^9)(disch:=omega)only[ZZ,simprocAttr,rch,YaN,Qc7,ORB,putQ.ca,putQ.H0,putQ.H1,kl0,sub,Qal,Zbv];have hkw:0<k->IntKind.i64.wrap ((k:Int) - 1)=((k - 1:Nat):Int):=fun h=>by rw[Qak (by omega) (by omega)];omega
 refine⟨fun hk0=>⟨by rw[hkw (by omega)];omega,by rw[hkw (by omega)];omega,by rw[hkw (by omega)];omega,fun x hx=>⟨fun hlt=> ?r,fun hlt=>⟨fun hkl=>⟨hkl,hkl,fun y hy=>⟨fun e=> ?a1,fun e=> ?b1⟩⟩,fun hkl=> ?b2⟩⟩⟩,fun hk0=>⟨fun hkl=>⟨hkl,hkl,fun y hy=>⟨fun e=> ?a2,fun e=> ?b3⟩⟩,fun hkl=> ?b4⟩⟩
 case r=>
  rw[hkw (by omega),Zam] at hx;refine⟨⟨k - 1,by omega,fun i y hi hy=> ?_⟩,by simp only;omega,by rw[hkw (by omega)]⟩;by_cases c:i=k - 1
  .subst c;obtain rfl:=Zaa (hx.symm.trans hy);exact hlt
  .exact hkn i y (by omega) hy
 all_goals
  have hpos:posQ p l=k:=posQ_eq hl hk hkn (fun y hk0' hy=>by
   first
    |(rw[hkw (by omega),Zam] at hx;obtain rfl:=Zaa (hx.symm.trans hy);simpa using hlt)
    |(exact absurd (by omega) hk0))
  have hins:=Qald p l;rw[hpos] at hins
 case a1=>
  have ey:y=p:=pt_eq3.1 e;rw[hy,ey,Zak rfl] at hins;refine⟨[],[(1,some 0)],⟨[(4,.own 1)],putQ.H1 (l,p),2⟩,?_,by simp[putQ.H1,Qad.good,belT,belH,Qam,AV.bel],by simp,?_⟩
  .simp only[subP,putQ.H1,hins];simp(maxSteps:=9^9)(disch:=omega)only[ZZ,simprocAttr,rch,YaN,Qc7,ORB,putQ.ca,putQ.H0,putQ.H1,kl0,Zah,Zag]
  .simp(maxSteps:=9^9)(disch:=omega)only[ZZ,simprocAttr,rch,YaN,Qc7,ORB,putQ.ca,putQ.H0,putQ.H1,kl0,putQ.H1]
 case a2=>
  have ey:y=p:=pt_eq3.1 e;rw[hy,ey,Zak rfl] at hins;refine⟨[],[(1,some 0)],⟨[(4,.own 1)],putQ.H1 (l,p),2⟩,?_,by simp[putQ.H1,Qad.good,belT,belH,Qam,AV.bel],by simp,?_⟩
  .simp only[subP,putQ.H1,hins];simp(maxSteps:=9^9)(disch:=omega)only[ZZ,simprocAttr,rch,YaN,Qc7,ORB,putQ.ca,putQ.H0,putQ.H1,kl0,Zah,Zag]
  .simp(maxSteps:=9^9)(disch:=omega)only[ZZ,simprocAttr,rch,YaN,Qc7,ORB,putQ.ca,putQ.H0,putQ.H1,kl0,putQ.H1]
 all_goals
  have hne:l[k]? ≠some p:=fun h=>by
   first
    |(obtain rfl:=Zaa (hy.symm.trans h);exact e (pt_eq3.2 rfl))
    |(rw[ZaZ (by omega)] at h;cases h)
  rw[Zai hne] at hins;have hap:l.map Qae.c++[[D.int .i64 p.X,D.int .i64 p.Y]]=(l++[p]).map Qae.c:=by rw[ZbG];rfl
  rw[hap];refine⟨by omega,fun _=> ?_⟩;refine Qay.old ⟨{i:Nat//k<=i/\i<=l.length},fun i=>⟨[(6,.im (.int .i64 i.1)),(5,.im (.int .i64 k)),(0,.own 4),(3,.ptr 1 0)],[(4,(true,.arr 94 2 ((shQ p l i.1).map Qae.c))),(1,(true,.cells 94 [.im (.int .i64 p.X),.im (.int .i64 p.Y)]))],5⟩,fun i=>i.1,fun i=>⟨by simp[Qad.good,belT,belH,Qam,AV.bel,belL],by simp⟩,⟨⟨l.length,hk,Zal _⟩,?_⟩,fun i=> ?_⟩
  .simp(maxSteps:=9^9)(disch:=omega)only[ZZ,simprocAttr,rch,YaN,Qc7,ORB,putQ.ca,putQ.H0,putQ.H1,kl0,sub,shQ_all];rw[ZaC,ZdX,Qak (by omega) (by omega)];omega
  obtain⟨i,hi1,hi2⟩:=i;have hsl:=Qak6 (p:=p) hi2;simp(maxSteps:=9^9)(disch:=omega)only[ZZ,simprocAttr,rch,YaN,Qc7,ORB,putQ.ca,putQ.H0,putQ.H1,kl0,sub,Qal,Zbv,hsl];refine⟨fun hki=> ?_,fun hki=>⟨by omega,by omega,fun x hx=> ?_⟩⟩
  .have hiw:IntKind.i64.wrap ((i:Int) - 1)=((i - 1:Nat):Int):=by rw[Qak (by omega) (by omega)];omega
   rw[hiw,Zam];refine⟨by omega,by omega,by omega,fun x hx=>⟨by omega,by omega,fun z hz=>⟨⟨i - 1,by omega,by omega⟩,by simp only;omega,rfl,?_⟩⟩⟩;have hst:=shQ_step (p:=p) (x:=x) (l:=l) (i:=i - 1) (by omega) (by rwa [show i - 1+1=i by omega]);rw[show i - 1+1=i by omega] at hst;rw[<-hst,ZcP];rfl
  .obtain rfl:i=k:=by omega
   have hse:((shQ p l i).map Qae.c).set i [D.int .i64 p.X,D.int .i64 p.Y]=(insQ p l).map Qae.c:=by
    rw[hins,<-shQ_end hk,ZcP];rfl
   refine⟨[],[(1,some 4)],⟨[(4,.own 1)],putQ.H1 (l,p),2⟩,?_,by simp[putQ.H1,Qad.good,belT,belH,Qam,AV.bel],by simp,?_⟩
   .simp only[subP,putQ.H1,hse];simp(maxSteps:=9^9)(disch:=omega)only[ZZ,simprocAttr,rch,YaN,Qc7,ORB,putQ.ca,putQ.H0,putQ.H1,kl0,Zah,Zag]
   .simp(maxSteps:=9^9)(disch:=omega)only[ZZ,simprocAttr,rch,YaN,Qc7,ORB,putQ.ca,putQ.H0,putQ.H1,kl0,putQ.H1]
theorem putQ_dom(a:List Qae×Qae)(j:Nat):domB (putQ.H0 a) j=true↔j<1:=by
 simp only[domB,putQ.H0,hget];by_cases hj:j=0
 .subst hj;simp
 .have:(0==j)=false:=by simpa using fun h=>hj h.symm
  rw[this];simp;omega
theorem Qalj(p:Qae): ∀(l:List Qae),(insQ p l).length<=l.length+1
 |[]=>by simp[insQ]
 |y::r=>by
  have:=Qalj p r
  simp only[insQ];split
  .simp only[ZaF];omega
  .split<;>simp
theorem Qakd(a:Asm)(p:Qae)(l:List Qae): ∀k,(Qajv a p l k).length<=l.length+k
 |0=>by simp[Qajv]
 |k+1=>by
  have:=Qakd a p l k
  simp only[Qajv];split
  .have:=Qalj (Qf7 p k) (Qajv a p l k);omega
  .omega
theorem Qaj2(a:Asm): ∀i,(Qajq a i).length<=4*i
 |0=>by simp[Qajq]
 |i+1=>by
  have:=Qaj2 a i
  have:=Qakd a ((a.Tiles[i]?.map Qab.At).getD ⟨0,0⟩) (Qajq a i) 4
  simp only[Qajq];omega
def nearS_.fv(a:Asm):List Qae:=(fun a=>Qajq a a.Tiles.length) a
def nearS_.row:Row:=vK (b1 (qP 1 Asm.d_le)) (rS Qae.d_le Qae.c_n) (fun a=>Qaz none a.Tiles=true/\a.Tiles.length<=1000/\ ∃s,∀x∈a.Tiles,Qcs s x.Tile) nearS_.fv
def nearS_.q:=vKq (R:=nearS_.row) rfl
def YaO:=J @nearS_.fv.eq_1<|J @l01Step.q<|J @l01Step.fv.eq_1<|J @l01Point.q<|J @l01Point.fv.eq_1<|J @l03Index.q @l03Index.fv.eq_1
theorem nearS_.ok:Qas Tryz.prog 67 nearS_.row:=by
 refine vw (tC l01Step.ok (tC l01Point.ok (tC l03Index.ok (tC putQ.ok tN)))) Tryz.func67 rfl (by kernel_rfl) ?_;intro a hpre;simp only[Tryz.f67,Option.getD];simp(maxSteps:=9^9)(disch:=omega)only[ZZ,simprocAttr,rch,YaO];obtain⟨h1,h2,s0,h3⟩:=hpre;refine Qay.ren ⟨{i:Nat//i<=a.Tiles.length},fun i=>⟨[(4,.im (.int .i64 i.1)),(3,.own 3),(0,.ptr 0 0)],[(3,(true,.arr 94 2 ((Qajq a i.1).map Qae.c))),(0,(false,.view (Asm.c a)))],4⟩,fun i=>a.Tiles.length - i.1,fun i=>⟨by simp[Qad.good,belT,belH,Qam,AV.bel,belL],by simp⟩,⟨⟨0,ZaU _⟩,[(3,some 2)],?_⟩,fun i=> ?_⟩
 .simp only[subP];simp(maxSteps:=9^9)(disch:=omega)only[ZZ,simprocAttr,rch,YaO,Zah,Zag,Qajq,ZaV]
  try simp
 obtain⟨i,hi⟩:=i;simp(maxSteps:=9^9)(disch:=omega)only[ZZ,simprocAttr,rch,YaO,sub,Qal];intro _;refine⟨fun hi2=> ?_,fun hi2=> ?_⟩;rotate_left
 .obtain rfl:i=a.Tiles.length:=by omega
  rfl
 obtain⟨x,hx⟩: ∃x,a.Tiles[i]? =some x:=⟨_,Zac hi2⟩;have hxo:=(Qh6 _ _ h1 x (Zae hx)).1;have e1:Qajq a (i+1)=Qajv a x.At (Qajq a i) 4:=by simp only[Qajq,hx];rfl
 have hnl:=Qaj2 a i;have hlt:=Qaki a i;refine Qay.ren ⟨{d:Nat//d<=4},fun d=>⟨[(5,.im (.int .i64 d.1)),(4,.im (.int .i64 i)),(3,.own 4),(0,.ptr 0 0)],[(4,(true,.arr 94 2 ((Qajv a x.At (Qajq a i) d.1).map Qae.c))),(0,(false,.view (Asm.c a)))],5⟩,fun d=>4 - d.1,fun d=>⟨by simp[Qad.good,belT,belH,Qam,AV.bel,belL],by simp⟩,⟨⟨0,ZaU _⟩,[(4,some 3)],?_⟩,fun d=> ?_⟩
 .simp only[subP];simp(maxSteps:=9^9)(disch:=omega)only[ZZ,simprocAttr,rch,YaO,Zah,Zag,Qajv]
  try simp
 obtain⟨d,hd⟩:=d;have htl:=Qakd a x.At (Qajq a i) d;have htt:=Qaj6 (a:=a) (p:=x.At) hlt d;simp(maxSteps:=9^9)(disch:=omega)only[ZZ,simprocAttr,rch,YaO,sub,Qal];have hdw:IntKind.i64.wrap ((d:Int)+1)=((d+1:Nat):Int):=by rw[Qak (by omega) (by omega)];omega
 refine⟨fun hd4=>⟨hi2,fun y hy=> ?_⟩,fun hd4=> ?_⟩;rotate_left
 .obtain rfl:d=4:=by omega
  refine⟨⟨i+1,by omega⟩,[(3,some 4)],by simp only;omega,?_⟩;simp only[subP];simp(maxSteps:=9^9)(disch:=omega)only[ZZ,simprocAttr,rch,YaO,Zah,Zag,e1];rw[Qak (by omega) (by omega)];rfl
 obtain rfl:=Zaa (hx.symm.trans hy);refine⟨⟨Qkc hxo,by omega⟩,fun hok=>⟨h1,fun hix=> ?_,fun hix=> ?_⟩,fun hok=> ?_⟩
 .have hat:=(Qala h3 (Qf7 x.At d)).1 hix;refine orow.os (Qajv a x.At (Qajq a i) d,Qf7 x.At d) [4] ⟨htt,by simp only;omega⟩ (putQ_dom _) rfl rfl ?_ ?_
  .simp(maxSteps:=9^9)(disch:=omega)only[ZZ,simprocAttr,rch,YaO,putQ.ca,putQ.H0,Qer,Zbi]
  simp(maxSteps:=9^9)(disch:=omega)only[ZZ,simprocAttr,rch,YaO,putQ.H1,sub,kl0,Zbi,ZbT];refine⟨⟨d+1,by omega⟩,[(4,some 6)],by simp only;omega,?_⟩;simp only[subP];simp(maxSteps:=9^9)(disch:=omega)only[ZZ,simprocAttr,rch,YaO,Zah,Zag,Qajv];rw[Zak ⟨hok,hat⟩];exact⟨hdw,rfl⟩
 all_goals
  refine⟨⟨d+1,by omega⟩,[(4,some 4)],by simp only;omega,?_⟩;simp only[subP];simp(maxSteps:=9^9)(disch:=omega)only[ZZ,simprocAttr,rch,YaO,Zah,Zag,Qajv];refine⟨hdw,?_⟩;rw[Zai];rintro⟨g1,g2⟩
  first
   |exact hix ((Qala h3 _).2 g2)
   |exact hok g1
def glQ(s:Qaa)(a:Asm)(p:Qae):Nat->List Int
 |0=>[]
 |k+1=>glQ s a p k++[if atA a (Qf7 p k)<0 then 0 else Qqu s (atA a (Qf7 p k)) (((k:Int)+2) % 4)]
theorem Qaj4(s:Qaa)(a:Asm)(p:Qae): ∀k,(glQ s a p k).length=k
 |0=>rfl
 |k+1=>by simp[glQ,Qaj4 s a p k]
theorem Qak3{s:Qaa}{a:Asm}{p:Qae}: ∀{n k:Nat},k<n->(glQ s a p n)[k]? =some (if atA a (Qf7 p k)<0 then 0 else Qqu s (atA a (Qf7 p k)) (((k:Int)+2) % 4))
 |0,k,h=>by omega
 |n+1,k,h=>by
  simp only[glQ];by_cases c:k<n
  .rw[ZaG (by rw[Qaj4];exact c),Qak3 c]
  .obtain rfl:k=n:=by omega
   rw[ZaI (by rw[Qaj4];omega),Qaj4,Zca];rfl
theorem term_gl{s:Qaa}{a:Asm}{p:Qae}{i:Int}{k:Nat}{g:Int}(hg:g=if atA a (Qf7 p k)<0 then 0 else Qqu s (atA a (Qf7 p k)) (((k:Int)+2) % 4)):(if Qqu s i k=g then Qe1 s g else 0)=Quh s (atA a) p i k:=by
 simp only[Quh,Qfn];by_cases c:atA a (Qf7 p k)<0
 .rw[Zak c] at hg;subst hg;rw[Zai (show ¬0<=atA a (Qf7 p k) by omega),glue_no (by omega)]
  split<;>rfl
 .rw[Zai c] at hg;rw[Zak (show 0<=atA a (Qf7 p k) by omega),<-hg];split
  .rename_i e;rw[e]
  .rfl
theorem side_b{s:Qaa}(h:setP s){t:Int}{d:Int}:0<=Qqu s t d/\Qqu s t d<=s.Glues.length:=by
 simp only[Qqu];cases e:s.Tiles[t.toNat]? with
 |none=>simp
 |some x=>
  simp only[ZaT,Zad];cases e2:x.Sides[d.toNat]? with
  |none=>simp
  |some g=>
   simp only[Zad];exact (h.2.1 x (Zae e)).2 g (Zae e2)
def atQ_.fv(a:Qaa×Asm×Qae×Int):List Int:=(fun s a p t=>atU ⟨s,a,t⟩ (atA a) p s.Tiles.length) (a.1) (a.2.1) (a.2.2.1) (a.2.2.2)
def atQ_.row:Row:=vK (b4 (qP 2 Qaa.d_le) (qP 1 Asm.d_le) (qR Qae.d_le) qI) (rS Qb3 Qant) (fun a=>setP a.1/\Qn7 a.1 a.2.1/\Qdy a.2.2.1/\a.1.Tiles.length<=1000000) atQ_.fv
def atQ_.q:=vKq (R:=atQ_.row) rfl
def YaP:=J @atQ_.fv.eq_1<|J @l01Step.q<|J @l01Step.fv.eq_1<|J @l03At.q<|J @l03At.fv.eq_1<|J @Opposite_.q<|J @Opposite_.fv.eq_1<|J @l02Strength.q @l02Strength.fv.eq_1
theorem atQ_.ok:Qas Tryz.prog 68 atQ_.row:=by
 refine vw (tC l01Step.ok (tC l03At.ok (tC Opposite_.ok (tC l02Strength.ok tN)))) Tryz.func68 rfl (by kernel_rfl) ?_;intro a hpre;simp only[Tryz.f68,Option.getD];simp(maxSteps:=9^9)(disch:=omega)only[ZZ,simprocAttr,rch,YaP];obtain⟨s,a,p,t⟩:=a;obtain⟨h1,h2,h3,h4⟩:=hpre;simp only at h1 h2 h3 h4⊢;refine Qay.ren ⟨{d:Nat//d<=4},fun d=>⟨[(10,.im (.int .i64 d.1)),(9,.own 5),(6,.ptr 2 0),(0,.ptr 0 0),(1,.ptr 1 0),(3,.im (.int .i64 t))],[(5,(true,.arr 2 1 ((glQ s a p d.1).map intC))),(2,(true,.cells 94 [.im (.int .i64 p.X),.im (.int .i64 p.Y)])),(0,(false,.view (Qaa.c s))),(1,(false,.view (Asm.c a)))],6⟩,fun d=>4 - d.1,fun d=>⟨by simp[Qad.good,belT,belH,Qam,AV.bel,belL],by simp⟩,⟨⟨0,ZaU _⟩,[(5,some 4)],?_⟩,fun d=> ?_⟩
 .simp only[subP];simp(maxSteps:=9^9)(disch:=omega)only[ZZ,simprocAttr,rch,YaP,Zah,Zag,glQ,ZaV]
  try simp
 obtain⟨d,hd⟩:=d;have hgl:=Qaj4 s a p d;simp(maxSteps:=9^9)(disch:=omega)only[ZZ,simprocAttr,rch,YaP,sub,Qal,Qag,Qac,Qaf,allD,D.one,Zbn,Zcn,Zdk];have hdw:IntKind.i64.wrap ((d:Int)+1)=((d+1:Nat):Int):=by rw[Qak (by omega) (by omega)];omega
 refine⟨fun hd4=>⟨⟨h3,by omega⟩,h2.1,fun hn=>⟨by omega,⟨d+1,by omega⟩,[(5,some 7)],by simp only;omega,?_⟩,fun hn=> ?_⟩,fun hd4=> ?_⟩
 .simp only[subP];simp(maxSteps:=9^9)(disch:=omega)only[ZZ,simprocAttr,rch,YaP,Zah,Zag,glQ];rw[Zak hn];refine⟨hdw,by simp[intC]⟩
 .obtain⟨b1,b2⟩:=Qafx h2 (Qf7 p d) (by omega);refine⟨b1,b2,fun x hx=>⟨by omega,by omega,by rw[(h1.2.1 x (Zae hx)).1];omega,fun g hg=>⟨by omega,⟨d+1,by omega⟩,[(5,some 7)],by simp only;omega,?_⟩⟩⟩;have hse:Qqu s (atA a (Qf7 p d)) (((d:Int)+2) % 4)=g:=Qpn hx hg;simp only[subP];simp(maxSteps:=9^9)(disch:=omega)only[ZZ,simprocAttr,rch,YaP,Zah,Zag,glQ];rw[Zai hn,hse];refine⟨hdw,by simp[intC]⟩
 obtain rfl:d=4:=by omega
 clear hdw hd4 hd;obtain⟨S,hS⟩: ∃S:Qar,S=⟨s,a,t⟩:=⟨_,rfl⟩;rw[<-hS];refine Qay.ren ⟨{i:Nat//i<=s.Tiles.length},fun i=>⟨[(13,.im (.int .i64 i.1)),(12,.own 7),(9,.own 5),(0,.ptr 0 0),(3,.im (.int .i64 t))],[(7,(true,.arr 2 1 ((atU S (atA a) p i.1).map intC))),(5,(true,.arr 2 1 ((glQ s a p 4).map intC))),(0,(false,.view (Qaa.c s))),(1,(false,.view (Asm.c a)))],8⟩,fun i=>s.Tiles.length - i.1,fun i=>⟨by simp[Qad.good,belT,belH,Qam,AV.bel,belL],by simp⟩,⟨⟨0,ZaU _⟩,[(7,some 6)],?_⟩,fun i=> ?_⟩
 .simp only[subP];simp(maxSteps:=9^9)(disch:=omega)only[ZZ,simprocAttr,rch,YaP,Zah,Zag,atU,ZaV]
  try simp
 obtain⟨i,hi⟩:=i;have hul:=Qakm S (atA a) p i;simp(maxSteps:=9^9)(disch:=omega)only[ZZ,simprocAttr,rch,YaP,sub,Qal];intro _;refine⟨fun hi2=> ?_,fun hi2=> ?_⟩;rotate_left
 .obtain rfl:i=s.Tiles.length:=by omega
  rfl
 refine Qay.old ⟨{k:Nat//k<=4},fun k=>⟨[(15,.im (.int .i64 k.1)),(14,.im (.int .i64 (Qhs s (atA a) p i k.1))),(13,.im (.int .i64 i)),(12,.own 7),(9,.own 5),(0,.ptr 0 0),(3,.im (.int .i64 t))],[(7,(true,.arr 2 1 ((atU S (atA a) p i).map intC))),(5,(true,.arr 2 1 ((glQ s a p 4).map intC))),(0,(false,.view (Qaa.c s))),(1,(false,.view (Asm.c a)))],8⟩,fun k=>4 - k.1,fun k=>⟨by simp[Qad.good,belT,belH,Qam,AV.bel,belL],by simp⟩,⟨⟨0,ZaU _⟩,?_⟩,fun k=> ?_⟩
 .simp(maxSteps:=9^9)(disch:=omega)only[ZZ,simprocAttr,rch,YaP,sub,Qhs]
 obtain⟨k,hk⟩:=k;simp(maxSteps:=9^9)(disch:=omega)only[ZZ,simprocAttr,rch,YaP,sub,Qal,Qag,Qac,Qaf,allD,D.one,Zbn,Zcn,Zdk];have hkw:IntKind.i64.wrap ((k:Int)+1)=((k+1:Nat):Int):=by rw[Qak (by omega) (by omega)];omega
 have hbb:=Qwy h1 (atA a) p i k;have htb:=Qxd h1 (atA a) p i k;have h4l:=Qaj4 s a p 4;rw[h4l];refine⟨fun hk4=>⟨hi2,fun x hx=>⟨by rw[(h1.2.1 x (Zae hx)).1];omega,fun g hg=>⟨by omega,by omega,fun y hy=> ?_⟩⟩⟩,fun hk4=> ?_⟩
 .have hse:Qqu s i k=g:=Qpn (by simpa using hx) (by simpa using hg);rw[Qak3 (by omega),Zab] at hy;have htl:=term_gl (i:=i) hy.symm;rw[hse] at htl;refine⟨fun e=>⟨by omega,by omega,fun z hz=> ?_⟩,fun e=>⟨⟨k+1,by omega⟩,by simp only;omega,hkw,?_⟩⟩
  .rw[Qak3 (by omega),Zab] at hz;obtain rfl:y=z:=hy.symm.trans hz;rw[Zak e] at htl;have hyb:0<=y/\y<=s.Glues.length:=by
    have:=side_b h1 (t:=i) (d:=k)
    rw[hse,e] at this;exact this
   refine⟨⟨hyb.1,hyb.2,h1.1⟩,⟨k+1,by omega⟩,by simp only;omega,hkw,?_⟩;rw[htl,Qak (by omega) (by omega)];rfl
  .rw[Zai e] at htl;simp only[Qhs,<-htl];omega
 .obtain rfl:k=4:=by omega
  have hiw:IntKind.i64.wrap ((i:Int)+1)=((i+1:Nat):Int):=by rw[Qak (by omega) (by omega)];omega
  have e1:S.Temperature=t:=by rw[hS]
  have e2:S.Set=s:=by rw[hS]
  refine⟨fun e=>⟨by omega,⟨i+1,by omega⟩,[(7,some 9)],by simp only;omega,?_⟩,fun e=>⟨⟨i+1,by omega⟩,[(7,some 7)],by simp only;omega,?_⟩⟩
  .simp only[subP];simp(maxSteps:=9^9)(disch:=omega)only[ZZ,simprocAttr,rch,YaP,Zah,Zag,atU,e1,e2];rw[Zak e];exact⟨hiw,by simp[intC]⟩
  .simp only[subP];simp(maxSteps:=9^9)(disch:=omega)only[ZZ,simprocAttr,rch,YaP,Zah,Zag,atU,e1,e2];rw[Zai e,ZaK];exact⟨hiw,rfl⟩
theorem atU_S(s:Qar)(a b:Asm)(f:Qae->Int)(p:Qae): ∀n,atU ⟨s.Set,a,s.Temperature⟩ f p n=atU s f p n
 |0=>rfl
 |n+1=>by simp only[atU,atU_S s a b f p n]
def Qakh(g:Qae->List Int)(l:List Qae)(i:Nat):List Opt:=Qajs g (l.take i)
theorem Qalm{g:Qae->List Int}{l:List Qae}{i:Nat}{p:Qae}(h:l[i]? =some p):Qakh g l (i+1)=Qakh g l i++(g p).map (mkO2 p):=by
 simp only[Qakh,Qajs,Qwe h,ZdK,Zbm,Zdt,ZaK]
theorem Qakc{g:Qae->List Int}{m:Nat}(hg: ∀p,(g p).length<=m): ∀(l:List Qae),(Qajs g l).length<=l.length*m
 |[]=>by simp[Qajs]
 |p::r=>by
  have ih:=Qakc hg r
  have:=hg p
  simp only[Qajs] at ih;simp only[Qajs,Zbm,ZaC,Zbv,ZaF,ZeR];omega
def opsS_.fv(a:Qar×Asm):List Opt:=(Qaj8) (a.1) (a.2)
def opsS_.row:Row:=vK (b2 (qP 4 Qar.d_le) (qP 1 Asm.d_le)) (rS Opt.d_le Opt.c_n) (fun a=>setP a.1.Set/\Qn7 a.1.Set a.2/\a.2.Tiles.length<=500/\a.1.Set.Tiles.length<=1000) opsS_.fv
def opsS_.q:=vKq (R:=opsS_.row) rfl
def YaQ:=J @opsS_.fv.eq_1<|J @nearS_.q<|J @nearS_.fv.eq_1<|J @atQ_.q @atQ_.fv.eq_1
theorem opsS_.ok:Qas Tryz.prog 42 opsS_.row:=by
 refine vw (tC nearS_.ok (tC atQ_.ok tN)) Tryz.func42 rfl (by kernel_rfl) ?_;intro a hpre;simp only[Tryz.f42,Option.getD];simp(maxSteps:=9^9)(disch:=omega)only[ZZ,simprocAttr,rch,YaQ];obtain⟨s,a⟩:=a;obtain⟨h1,h2,h3,h4⟩:=hpre;simp only at h1 h2 h3 h4⊢;refine⟨⟨h2.1,by omega,s.Set,h2.2⟩,?_⟩;obtain⟨L,hL⟩: ∃L,L=Qajq a a.Tiles.length:=⟨_,rfl⟩;obtain⟨g,hg⟩: ∃g,g=fun p=>atU s (atA a) p s.Set.Tiles.length:=⟨_,rfl⟩
 have hop:Qaj8 s a=Qajs g L:=by rw[hg,hL];rfl
 rw[hop];have hLl:L.length<=2000:=by have:=Qaj2 a a.Tiles.length;rw[hL];omega
 have hgl: ∀p,(g p).length<=1000:=fun p=>by have:=Qakm s (atA a) p s.Set.Tiles.length;rw[hg];simp only;omega
 have hLo: ∀p∈L,Qbi p=true:=fun p hp=>by
  rw[hL,Qajz _ (Zal _)] at hp;exact hp.1.1
 simp only[<-hL];refine Qay.ren ⟨{i:Nat//i<=L.length},fun i=>⟨[(7,.im (.int .i64 i.1)),(6,.im (.sl false 2 (L.map Qae.c))),(5,.own 4),(0,.ptr 0 0),(1,.ptr 1 0)],[(4,(true,.arr 108 3 ((Qakh g L i.1).map Opt.c))),(0,(false,.view (Qar.c s))),(1,(false,.view (Asm.c a)))],5⟩,fun i=>L.length - i.1,fun i=>⟨by simp[Qad.good,belT,belH,Qam,AV.bel,belL],by simp⟩,⟨⟨0,ZaU _⟩,[(4,some 3)],?_⟩,fun i=> ?_⟩
 .simp only[subP];simp(maxSteps:=9^9)(disch:=omega)only[ZZ,simprocAttr,rch,YaQ,Zah,Zag,Qakh,Zbq,Qajs,Zdt,ZaV]
  try simp
 obtain⟨i,hi⟩:=i;simp(maxSteps:=9^9)(disch:=omega)only[ZZ,simprocAttr,rch,YaQ,sub,Qal];intro _;refine⟨fun hi2=> ?_,fun hi2=> ?_⟩;rotate_left
 .obtain rfl:i=L.length:=by omega
  rw[Qakh,Zbx]
 have hol:(Qakh g L i).length<=2000*1000:=by
  have:=Qakc hgl (L.take i)
  have h9:(L.take i).length*1000<=2000*1000:=Zbf _ (by simp;omega);simp only[Qakh];omega
 refine⟨hi2,fun p hp=> ?_⟩;have hpo:=hLo p (Zae hp);refine⟨⟨h1,h2,Qkc hpo,by omega⟩,?_⟩;have hga:atU ⟨s.Set,a,s.Temperature⟩ (atA a) p s.Set.Tiles.length=g p:=by rw[atU_S _ _ a,hg]
 rw[hga];have hgp:=hgl p;refine Qay.ren ⟨{k:Nat//k<=(g p).length},fun k=>⟨[(9,.im (.int .i64 k.1)),(8,.im (.sl false 1 ((g p).map intC))),(7,.im (.int .i64 i)),(6,.im (.sl false 2 (L.map Qae.c))),(5,.own 5),(0,.ptr 0 0),(1,.ptr 1 0)],[(5,(true,.arr 108 3 ((Qakh g L i++((g p).take k.1).map (mkO2 p)).map Opt.c))),(0,(false,.view (Qar.c s))),(1,(false,.view (Asm.c a)))],6⟩,fun k=>(g p).length - k.1,fun k=>⟨by simp[Qad.good,belT,belH,Qam,AV.bel,belL],by simp⟩,⟨⟨0,ZaU _⟩,[(5,some 4)],?_⟩,fun k=> ?_⟩
 .simp only[subP];simp(maxSteps:=9^9)(disch:=omega)only[ZZ,simprocAttr,rch,YaQ,Zah,Zag,Zbq,ZaV,ZaK]
  try simp
 obtain⟨k,hk⟩:=k;simp(maxSteps:=9^9)(disch:=omega)only[ZZ,simprocAttr,rch,YaQ,sub,Qal,Qag,Qac,Qaf,allD,D.one,Zbn,Zcn,Zdk,ZaC];intro _;refine⟨fun hk2=>⟨hi2,fun q hq=>⟨hk2,fun x hx=>⟨?_,⟨k+1,by omega⟩,[(5,some 7)],by simp only;omega,?_⟩⟩⟩,fun hk2=>⟨⟨i+1,by omega⟩,[(4,some 5)],by simp only;omega,?_⟩⟩
 .have:((g p).take k).length<=1000:=by simp;omega
  omega
 .obtain rfl:=Zaa (hp.symm.trans hq);simp only[subP];simp(maxSteps:=9^9)(disch:=omega)only[ZZ,simprocAttr,rch,YaQ,Zah,Zag];refine⟨by rw[Qak (by omega) (by omega)];rfl,?_⟩;rw[Qwe hx];simp[mkO2,Opt.c,Qae.c]
 .obtain rfl:k=(g p).length:=by omega
  simp only[subP];simp(maxSteps:=9^9)(disch:=omega)only[ZZ,simprocAttr,rch,YaQ,Zah,Zag];refine⟨by rw[Qak (by omega) (by omega)];rfl,?_⟩;rw[Qalm hp,Zbx]
def ouC(l:List Opt)(ins:List Int)(i:Nat)(p:Qae)(d k:Nat):Bool:=decide (i<k) && (decide (l[k]?.map Opt.At=some (Qf7 p d)) && hasI (ins[k]?.getD 0) (((d:Int)+2) % 4))
def ouBn(l:List Opt)(ins:List Int)(i:Nat)(p:Qae)(d:Nat):Nat->Bool
 |0=>false
 |k+1=>ouBn l ins i p d k||ouC l ins i p d k
def ouB(l:List Opt)(ins:List Int)(i:Nat)(p:Qae)(d:Nat):Bool:=ouBn l ins i p d l.length
def ouM(l:List Opt)(ins:List Int)(i:Nat)(p:Qae):Nat->Int
 |0=>0
 |d+1=>ouM l ins i p d+bitN (ouB l ins i p d) d
theorem Qam6{l:List Opt}{ins:List Int}{i:Nat}{p:Qae}{d:Nat}: ∀{n:Nat},ouBn l ins i p d n=true↔ ∃k,k<n/\ouC l ins i p d k=true
 |0=>by simp[ouBn]
 |n+1=>by
  simp only[ouBn,ZbV,Qam6 (n:=n)];constructor
  .rintro (⟨k,h1,h2⟩|h)
   .exact⟨k,by omega,h2⟩
   .exact⟨n,by omega,h⟩
  .rintro⟨k,h1,h2⟩;by_cases hk:k=n
   .subst hk;exact .inr h2
   .exact .inl ⟨k,by omega,h2⟩
theorem Qam4{l:List Opt}{ins:List Int}{i:Nat}{p:Qae}{d k:Nat}:ouC l ins i p d k=true↔i<k/\l[k]?.map Opt.At=some (Qf7 p d)/\hasI (ins[k]?.getD 0) (((d:Int)+2) % 4)=true:=by
 simp only[ouC,Zaf,Zan]
theorem at_uniq{l:List Opt}(hd:(l.map Opt.At).Nodup){q:Qae}{j k:Nat}(h1:l[j]?.map Opt.At=some q)(h2:l[k]?.map Opt.At=some q):j=k:=by
 have a1:=Qane hd h1;have a2:=Qane hd h2;omega
theorem ouC_one{l:List Opt}{ins:List Int}{i:Nat}{p:Qae}{d k:Nat}(hd:(l.map Opt.At).Nodup)(h:ouC l ins i p d k=true):ouBn l ins i p d k=false:=by
 cases hb:ouBn l ins i p d k with
 |false=>rfl
 |true=>
  exfalso;obtain⟨j,h1,h2⟩:=Qam6.1 hb
  have:=at_uniq hd (Qam4.1 h2).2.1 (Qam4.1 h).2.1
  omega
theorem Qanm{l:List Opt}{ins:List Int}{i:Nat}{p:Qae}{d k:Nat}(hd:(l.map Opt.At).Nodup):bitN (ouBn l ins i p d (k+1)) d=bitN (ouBn l ins i p d k) d+(if ouC l ins i p d k=true then 2^d else 0):=by
 simp only[ouBn];by_cases h:ouC l ins i p d k=true
 .rw[ouC_one hd h,h,Zak rfl];simp[bitN]
 .rw[Zai h];rw[ZaO] at h;rw[h];simp
theorem ouBn_low{l:List Opt}{ins:List Int}{i:Nat}{p:Qae}{d:Nat}: ∀{k:Nat},k<=i+1->ouBn l ins i p d k=false:=by
 intro k hk;cases hb:ouBn l ins i p d k with
 |false=>rfl
 |true=>
  exfalso;obtain⟨j,h1,h2⟩:=Qam6.1 hb
  have:=(Qam4.1 h2).1
  omega
theorem ouB_idx{l:List Opt}{ins:List Int}{i:Nat}{p:Qae}{d:Nat}(hd:(l.map Opt.At).Nodup):ouB l ins i p d=true↔(i:Int)<idxO l (Qf7 p d)/\hasI (ins[(idxO l (Qf7 p d)).toNat]?.getD 0) (((d:Int)+2) % 4)=true:=by
 rw[ouB,Qam6];constructor
 .rintro⟨k,h1,h2⟩;obtain⟨g1,g2,g3⟩:=Qam4.1 h2;rw[Qane hd g2];exact⟨by omega,by rw[Zam];exact g3⟩
 .rintro⟨h1,h2⟩;have h3:=idxO_at (l:=l) (q:=Qf7 p d) rfl (by omega);refine⟨(idxO l (Qf7 p d)).toNat,?_,Qam4.2 ⟨by omega,h3,h2⟩⟩;cases hk:l[(idxO l (Qf7 p d)).toNat]? with
  |none=>rw[hk] at h3;cases h3
  |some y=>exact (Zaj.1 hk).1
theorem bitN_b(b:Bool)(k:Nat):0<=bitN b k/\bitN b k<=2^k:=by
 have:(0:Int)<=2^k:=Int.le_of_lt (Int.pow_pos (by omega))
 cases b<;>simp[bitN,this]
theorem ouM_b(l:List Opt)(ins:List Int)(i:Nat)(p:Qae): ∀k,0<=ouM l ins i p k/\ouM l ins i p k<2^k
 |0=>by simp[ouM]
 |k+1=>by
  have h1:=ouM_b l ins i p k;have h2:=bitN_b (ouB l ins i p k) k;have e:(2:Int)^(k+1)=2^k*2:=Int.pow_succ ..;simp only[ouM];omega
theorem has_out(l:List Opt)(ins:List Int)(i:Nat)(p:Qae): ∀d:Nat,d<4->hasI (ouM l ins i p 4) d=ouB l ins i p d:=by
 intro d hd;obtain⟨k0,k1,k2,k3⟩:=has_bits (ouB l ins i p 0) (ouB l ins i p 1) (ouB l ins i p 2) (ouB l ins i p 3);have e:ouM l ins i p 4=0+bitN (ouB l ins i p 0) 0+bitN (ouB l ins i p 1) 1+bitN (ouB l ins i p 2) 2+bitN (ouB l ins i p 3) 3:=by
  simp only[ouM]
 rw[e];rcases (by omega:d=0\/d=1\/d=2\/d=3) with rfl|rfl|rfl|rfl
 .exact k0
 .exact k1
 .exact k2
 .exact k3
def Qam5(p:Qae)(m:Int):Nat->Qab->Bool
 |0,x=>decide (x.At≠p)
 |d+1,x=>Qam5 p m d x && !(hasI m d && decide (x.At=Qf7 p d))
def witA(a:Asm)(p:Qae)(m:Int):Asm:=⟨a.Tiles.filter (Qam5 p m 4)⟩
def Qam7(p:Qae)(m:Int):Nat->List Qae
 |0=>[p]
 |d+1=>Qam7 p m d++(if hasI m d=true then [Qf7 p d] else [])
def withI(a:Asm)(l:List Qae):Asm:=⟨a.Tiles.filter fun x=> !l.contains x.At⟩
theorem Qanj(p:Qae)(m:Int)(x:Qab): ∀d,(Qam7 p m d).contains x.At= !(Qam5 p m d x)
 |0=>by
  simp only[Qam7,Qam5,ZcG,ZcN,ZcE];by_cases h:x.At=p<;>simp[h]
 |d+1=>by
  simp only[Qam7,Qam5,List.contains_append,Qanj p m x d];by_cases c:hasI m d=true
  .rw[Zak c,c];by_cases h:x.At=Qf7 p d<;>simp[h]
  .rw[Zai c];rw[ZaO] at c;rw[c];simp
theorem wit_law(a:Asm)(p:Qae)(m:Int):withI a (Qam7 p m 4)=witA a p m:=by
 simp only[withI,witA,Qanj,Bool.not_not]
theorem Qank(p:Qae)(m:Int): ∀d,(Qam7 p m d).length<=d+1
 |0=>by simp[Qam7]
 |d+1=>by
  have:=Qank p m d
  simp only[Qam7,ZaC]
  split<;>simp<;>omega
theorem form_weak{p:Qae}{q:Option Qae}(hq: ∀u,q=some u->Qap u p=true): ∀{r:List Qab},Qaz (some p) r=true->Qaz q r=true
 |[],_=>Qik q
 |x::r,h=>by
  rw[Qbq] at h⊢;simp only[Zaf] at h⊢;obtain⟨h1,h2,h3,h4⟩:=h;refine⟨h1,h2,?_,h4⟩;cases q with
  |none=>rfl
  |some u=>exact Qajr (hq u rfl) h3
theorem Qanc(c:Qab->Bool): ∀(l:List Qab) (q:Option Qae),Qaz q l=true->Qaz q (l.filter c)=true
 |[],q,_=>Qik q
 |x::r,q,h=>by
  rw[Qbq] at h;simp only[Zaf] at h;obtain⟨h1,h2,h3,h4⟩:=h;have ih:=Qanc c r (some x.At) h4;rw[Zds];split
  .rw[Qbq];simp only[Zaf];exact⟨h1,h2,h3,ih⟩
  .refine form_weak (fun u hu=> ?_) ih;subst hu;exact h3
theorem wit_in{s:Qaa}{a:Asm}(h:Qn7 s a)(p:Qae)(m:Int):Qn7 s (witA a p m):=
 ⟨Qanc _ _ _ h.1,fun x hx=>h.2 x (ZcQ.1 hx).1⟩
theorem atA_of{a:Asm}(h:Qaz none a.Tiles=true){x:Qab}(hx:x∈a.Tiles):atA a x.At=x.Tile:=by
 simp only[atA];cases hf:a.Tiles.find? (fun y=>decide (y.At=x.At)) with
 |none=>
  have:=Zcu.1 hf x hx
  simp at this
 |some y=>
  have hy:=Zcx hf;have e:y.At=x.At:=by simpa using Zcp hf
  rw[nodup_at (Qix h) y hy x hx e];rfl
theorem Qann{s:Qaa}{f g:Qae->Int}{p:Qae}{t:Int}: ∀(k:Nat),(∀d:Nat,d<k->Quh s f p t d<=Quh s g p t d)->Qhs s f p t k<=Qhs s g p t k
 |0,_=>ZcY _
 |k+1,h=>by
  have h1:=Qann k fun d hd=>h d (by omega)
  have h2:=h k (by omega);simp only[Qhs];omega
theorem flt_bind{s:Qar}{b:Asm}{l:List Opt}(h:Qaec s b l)(hb:Qn7 s.Set b)(h0:setP s.Set)(h1:s.Set.Tiles.length<=160){i:Nat}{o:Opt}(ho:l[i]? =some o)(ins:List Int):
 Qhs s.Set (atA (Qac9 b (l.take i))) o.At o.Tile 4<=Qhs s.Set (atA (witA (Qac9 b l) o.At (ouM l ins i o.At 4))) o.At o.Tile 4:=by
 have hil:i<l.length:=(Zaj.1 ho).1;have hin:=Qafb h1 hb h i (by omega);have hend:Qn7 s.Set (Qac9 b l):=by
  have:=Qafb h1 hb h l.length (Zal _)
  rwa [Zbx] at this
 have hwi:=wit_in hend o.At (ouM l ins i o.At 4);have hmono: ∀x∈(Qac9 b (l.take i)).Tiles,∀k,i<=k->x∈(Qac9 b (l.take k)).Tiles:=by
  intro x hx k hk;rw[Qaei] at hx⊢;rcases hx with hx|⟨z,hz,e⟩
  .exact .inl hx
  .refine .inr ⟨z,?_,e⟩;obtain⟨j,hj⟩:=Zbz.1 hz;have hji:j<i:=by
    have:=(Zaj.1 hj).1
    simp at this;omega
   rw[Zbz];exact⟨j,by rw[ZdM hji] at hj;rw[ZdM (by omega)];exact hj⟩
 refine Qann 4 fun d hd=> ?_
 have hp:=(Qxd h0 (atA (witA (Qac9 b l) o.At (ouM l ins i o.At 4))) o.At o.Tile d).1;by_cases c:0<=atA (Qac9 b (l.take i)) (Qf7 o.At d)
 .obtain⟨x,hx,hxq⟩:=at_mem c;have hxe:x∈(Qac9 b l).Tiles:=by
   have:=hmono x hx l.length (by omega)
   rwa [Zbx] at this
  have hfree:=(Qadk (h i o ho).1).2.2.2.2.2;have hk: ∀e:Nat,e<=4->Qam5 o.At (ouM l ins i o.At 4) e x=true:=by
   intro e;induction e with
   |zero=>intro _;simpa[Qam5] using hfree x hx
   |succ e ih=>
    intro he;simp only[Qam5,ih (by omega),ZaD,ZbY,Zdd,Zbp];rw[has_out _ _ _ _ e (by omega)];cases hob:ouB l ins i o.At e with
    |false=>exact .inl rfl
    |true=>
     right;intro hxe2;obtain⟨k,_,h3⟩:=Qam6.1 hob;obtain⟨g1,g2,_⟩:=Qam4.1 h3;cases hlk:l[k]? with
     |none=>rw[hlk] at g2;cases g2
     |some y=>
      rw[hlk] at g2;have hy:y.At=Qf7 o.At e:=by simpa using g2
      exact (Qadk (h k y hlk).1).2.2.2.2.2 x (hmono x hx k (by omega)) (hxe2.trans hy.symm)
  have hxr:x∈(witA (Qac9 b l) o.At (ouM l ins i o.At 4)).Tiles:=ZcQ.2 ⟨hxe,hk 4 (Zal _)⟩;have e1:=atA_of hin.1 hx;have e2:=atA_of hwi.1 hxr;rw[hxq] at e1 e2;simp only[Quh,e1,e2];exact ZcY _
 .have:Quh s.Set (atA (Qac9 b (l.take i))) o.At o.Tile d=0:=Zai c
  omega
def anoK(s:Qar)(f:Qae->Int)(p:Qae)(t:Int):Nat->Bool
 |0=>false
 |k+1=>anoK s f p t k||(decide ((k:Int)≠t) && decide (s.Temperature<=Qhs s.Set f p k 4))
theorem Qang{s:Qar}{f:Qae->Int}{p:Qae}{t:Int}: ∀{n:Nat},anoK s f p t n=true↔ ∃k:Nat,k<n/\(k:Int)≠t/\s.Temperature<=Qhs s.Set f p k 4
 |0=>by simp[anoK]
 |n+1=>by
  simp only[anoK,ZbV,Zaf,Zan,Qang (n:=n)];constructor
  .rintro (⟨k,h1,h2⟩|h)
   .exact⟨k,by omega,h2⟩
   .exact⟨n,by omega,h⟩
  .rintro⟨k,h1,h2⟩;by_cases hk:k=n
   .subst hk;exact .inr h2
   .exact .inl ⟨k,by omega,h2⟩
theorem Qam8{s:Qar}{f:Qae->Int}{p:Qae}{x:Int}: ∀{n:Nat},x∈atU s f p n↔ ∃k:Nat,k<n/\x=k/\s.Temperature<=Qhs s.Set f p k 4
 |0=>by simp[atU]
 |n+1=>by
  simp only[atU,Zar,Qam8 (n:=n)];constructor
  .rintro (⟨k,h1,h2⟩|h)
   .exact⟨k,by omega,h2⟩
   .split at h
    .rename_i c;exact⟨n,by omega,by simpa using h,c⟩
    .cases h
  .rintro⟨k,h1,h2,h3⟩;by_cases hk:k=n
   .subst hk;right;rw[Zak h3,h2];exact Zat.2 rfl
   .exact .inl ⟨k,by omega,h2,h3⟩
theorem atU_nd{s:Qar}{f:Qae->Int}{p:Qae}: ∀n:Nat,(atU s f p n).Nodup
 |0=>by simp[atU]
 |n+1=>by
  simp only[atU];split
  .rw[Zcr];refine⟨atU_nd n,by simp,?_⟩;intro a ha z hz haz;rw[Zat] at hz;obtain⟨k,h1,h2,_⟩:=Qam8.1 ha;omega
  .rw[ZaK];exact atU_nd n
theorem one_law{s:Qar}{f:Qae->Int}{p:Qae}{t:Int}{n:Nat}(h1:0<=t)(h2:t<n)(h3:s.Temperature<=Qhs s.Set f p t 4):(atU s f p n).length≠1↔anoK s f p t n=true:=by
 have hm:t∈atU s f p n:=Qam8.2 ⟨t.toNat,by omega,by omega,by rw[Int.toNat_of_nonneg h1];exact h3⟩;rw[Qang];constructor
 .intro h;cases hl:atU s f p n with
  |nil=>rw[hl] at hm;cases hm
  |cons x r=>
   cases r with
   |nil=>rw[hl] at h;exact (h rfl).elim
   |cons y r=>
    have hn:=atU_nd (s:=s) (f:=f) (p:=p) n;rw[hl,ZbS] at hn;have hxy:x≠y:=fun e=>hn.1 (by rw[e];exact Zau ..)
    have hx:x∈atU s f p n:=by rw[hl];exact Zau ..
    have hy:y∈atU s f p n:=by rw[hl];exact Zas _ (Zau ..)
    obtain⟨k,a1,a2,a3⟩:=Qam8.1 hx;obtain⟨j,b1,b2,b3⟩:=Qam8.1 hy;by_cases c:x=t
    .exact⟨j,b1,by rw[<-b2,<-c];exact fun e=>hxy e.symm,b3⟩
    .exact⟨k,a1,by rw[<-a2];exact c,a3⟩
 .rintro⟨k,h4,h5,h6⟩ hl;obtain⟨x,hx⟩:=Zdx.1 hl;have h7:(k:Int)∈atU s f p n:=Qam8.2 ⟨k,h4,rfl,h6⟩;rw[hx,Zat] at hm h7;exact h5 (h7.trans hm.symm)
def fsF{A:Type}(g:Nat->Option A):Nat->Nat->Option A
 |0,_=>none
 |n+1,k=>(g k).or (fsF g n (k+1))
theorem Qand{A:Type}{g h:Nat->Option A}: ∀(n k:Nat),(∀i,k<=i->i<k+n->g i=h i)->fsF g n k=fsF h n k
 |0,_,_=>rfl
 |n+1,k,e=>by
  simp only[fsF];rw[e k (by omega) (by omega),Qand n (k+1) fun i h1 h2=>e i (by omega) (by omega)]
def fltO(s:Qar)(sms:List Int)(o:Opt)(i:Nat)(many:Bool):Option (Int×Opt):=if sms[i]?.getD 0≠s.Temperature then some (1,o) else if many=true then some (2,o) else none
def endO:List Opt->Option (Int×Opt)
 |[]=>none
 |o::_=>some (3,o)
def gfI(s:Qar)(l:List Opt)(i:Nat):Option (Int×Opt):=
 (l[i]?).bind fun o=>fltO s (smsS s s.Seed l) o i (anoK s (atA (witA (Qac9 s.Seed l) o.At (ouM l (insS s s.Seed l) i o.At 4))) o.At o.Tile s.Set.Tiles.length)
def gfS(s:Qar)(l:List Opt)(i:Nat):Option (Int×Opt):=
 (l[i]?).bind fun o=>fltO s (smsS s s.Seed l) o i (decide ((atU s (atA (witA (Qac9 s.Seed l) o.At (ouM l (insS s s.Seed l) i o.At 4))) o.At s.Set.Tiles.length).length≠1))
theorem Qanp(s:Qar): ∀(l:List Opt) (b:Asm) (k:Nat) (o:Opt),l[k]? =some o->(smsS s b l)[k]? =some (Qhs s.Set (atA (Qac9 b (l.take k))) o.At o.Tile 4)
 |[],_,k,o,h=>by simp at h
 |x::r,b,0,o,h=>by
  simp only[ZaS,Zab] at h;subst h;simp[smsS,Qac9]
 |x::r,b,k+1,o,h=>by
  rw[ZaW] at h;simp only[smsS,ZaW,ZbI,Qac9];exact Qanp s r _ k o h
theorem gf_law{s:Qar}{l:List Opt}(h:seqP s l)(i:Nat):gfI s l i=gfS s l i:=by
 obtain⟨q1,q2,q3,q4,q5,q6⟩:=h;simp only[gfI,gfS];cases ho:l[i]? with
 |none=>rfl
 |some o=>
  simp only[ZbD,fltO];rw[Qanp s l s.Seed i o ho,Zad];by_cases c:Qhs s.Set (atA (Qac9 s.Seed (l.take i))) o.At o.Tile 4≠s.Temperature
  .rw[Zak c,Zak c]
  rw[Zai c,Zai c];have hle:=flt_bind q5 q2 q1 q3 ho (insS s s.Seed l);obtain⟨g1,g2,g3,g4,g5,g6⟩:=Qadk (q5 i o ho).1;have hT:s.Temperature<=Qhs s.Set (atA (witA (Qac9 s.Seed l) o.At (ouM l (insS s s.Seed l) i o.At 4))) o.At o.Tile 4:=by
   have:Qhs s.Set (atA (Qac9 s.Seed (l.take i))) o.At o.Tile 4=s.Temperature:=Decidable.not_not.1 c
   omega
  have:=one_law (n:=s.Set.Tiles.length) g3 g4 hT
  simp only[Zan,this]
def fltS(s:Qar)(l:List Opt):Option (Int×Opt):=(fsF (gfS s l) l.length 0).or (endO (Qaj8 s (Qac9 s.Seed l)))
theorem flt_law{s:Qar}{l:List Opt}(h:seqP s l):(fsF (gfI s l) l.length 0).or (endO (Qaj8 s (Qac9 s.Seed l)))=fltS s l:=by
 rw[fltS,Qand l.length 0 fun i _ _=>gf_law h i]
def fltR:Option (Int×Opt)->Int×Qae×Int
 |none=>(0,⟨0,0⟩,3)
 |some (k,o)=>(k,o.At,0)
def lfF(s:Qar)(l:List Opt):Int×Qae×Int:=if (seqS s l).2.2≠0 then (0,⟨0,0⟩,(seqS s l).2.2) else fltR (fltS s l)
end Go.Ae
namespace Go.Ae
open Go.Proofs Go.Sort Go.Shelf
instance:Inhabited Qae:=⟨⟨0,0⟩⟩
def encQ(x:Qae):List Value:=[.int .i64 x.X,.int .i64 x.Y]
def cfQ(x y:Qae):Int:=Qabu (x.X,x.Y) (y.X,y.Y)
theorem Qamn(x y:Qae):ltOf cfQ x y=Qap x y:=by
 simp only[ltOf,cfQ,Qabu,Lib.compareInt,Qap]
 grind
theorem swoQ:SWO (ltOf cfQ) where
 irrefl x:=by rw[Qamn];simp only[Qap];grind
 trans x y z h1 h2:=by rw[Qamn] at*;simp only[Qap] at*;grind
 ntrans x y z h1 h2:=by rw[Qamn] at*;simp only[Qap] at*;grind
theorem Qall{l:List Qae}(hd:l.Nodup):(Qakz l).Perm l:=(Zer (ltQ_nd (Qakg l)) hd).2 fun _=>Qaka
theorem Qamw{l l':List Qae}(hd:l.Nodup)(hp:l'.Perm l)(hs:l'.Pairwise (fun a b=>Qap b a=false)):l'=Qakz l:=by
 refine Qal3 ?_ (Qakg l) (fun q=>by rw[Qaka,hp.mem_iff]);have hn:l'.Nodup:=hp.nodup_iff.2 hd;refine ZeA (fun {a b} h=> ?_) (List.pairwise_and_iff.2 ⟨hs,hn⟩);exact Qako h.1 fun e=>h.2 e.symm
theorem sortQ_len{l:List Qae}(hd:l.Nodup):(Qakz l).length=l.length:=(Qall hd).length_eq
def flQ(l:List Qae):List Value:=l.flatMap encQ
theorem flQ_len(l:List Qae):(flQ l).length=l.length*2:=by
 induction l with
 |nil=>rfl
 |cons x r ih=>simp only[flQ,Zbm,ZaC,ZaF] at ih⊢;rw[ih];simp[encQ];omega
theorem Qaml{ok:Nat->Prop}{hp:Nat->Option Obj}: ∀(l:List Qae) (L:List Value),rdr ok hp 2 (l.map Qae.c) L↔ ∃r,L=flQ l++r
 |[],L=>by simp[rdr,flQ]
 |x::r,L=>by
  simp only[Zao,rdr,Qaml r,Qae.c,rdp,rd,flQ,Zbm];constructor
  .rintro⟨_,⟨v,L1,rfl,rfl,v2,L2,rfl,rfl,_⟩,q,hq⟩;exact⟨q,by simp only[Zcd,ZbQ] at hq;rw[hq];rfl⟩
  .rintro⟨q,rfl⟩;exact⟨rfl,⟨_,_,rfl,rfl,_,_,rfl,rfl,trivial⟩,q,rfl⟩
theorem flQ_get: ∀(l:List Qae) (t:Nat),t<l.length*2->(flQ l)[t]? =some ((encQ (l[t/2]?.getD default))[t % 2]!)
 |[],t,h=>by simp at h
 |x::r,t,h=>by
  by_cases ht:t<2
  .have:t=0\/t=1:=by omega
   rcases this with rfl|rfl<;>simp[flQ,encQ]
  .obtain⟨u,rfl⟩: ∃u,t=u+2:=⟨t - 2,by omega⟩;have e1:(u+2)/2=u/2+1:=by omega
   have e2:(u+2) % 2=u % 2:=by omega
   have ih:=flQ_get r u (by simp at h;omega);rw[e1,e2,ZaW,<-ih];simp[flQ,encQ]
theorem Qama(l:List Qae):(flatK encQ 2 l.toArray).toList=flQ l:=by
 apply Zci;intro t;by_cases ht:t<l.length*2
 .rw[flQ_get l t ht];have hs:t<(flatK encQ 2 l.toArray).size:=by simp only[size_flatK,ZbZ];exact ht
  have h1:=get_flatK encQ 2 l.toArray t (by simpa using ht);rw[ZaX,Zbh hs,<-getElem!_pos (flatK encQ 2 l.toArray) t hs,h1];congr 3;simp[getElem!_def];cases l[t/2]? <;>rfl
 .have a1:(flatK encQ 2 l.toArray).toList.length<=t:=by rw[ZaP,size_flatK,ZbZ];omega
  have a2:(flQ l).length<=t:=by rw[flQ_len];omega
  rw[ZaZ a1,ZaZ a2]
def srtQ.ca(_:List Qae):List AV:=[.own 0,.im (.fn 137 [] [])]
def srtQ.H0(a:List Qae):Qan:=[(0,(true,.arr 94 2 (a.map Qae.c)))]
def srtQ.H1(a:List Qae):Qan:=[(0,(true,.arr 94 2 ((Qakz a).map Qae.c)))]
def srtQ.row:Row:=orow srtQ.ca srtQ.H0 1 (fun a=>a.Nodup) (fun _=>true) (fun _=> .im (.tup [])) srtQ.H1 0
theorem srtQ.ok:Qas Tryz.prog 242 srtQ.row:=by
 rintro args h nx K ⟨a,τ,U,KL,hpre,rfl,hheap,hN,hK⟩;refine⟨Qh7 (by kernel_rfl),_,_,?_,hK⟩;intro C S vs R hW huse hfresh hnames hargs hfin;have hs0:sgx τ 1 nx 0=τ 0:=Zak (by omega);simp only[srtQ.ca,renL,AV.ren,hs0,Qa0,conc,rd,rdl] at hargs;obtain⟨v0,r0,hv,⟨hone,hown⟩,v1,r1,hr1,⟨ac,cc,hv1,hac,hcc⟩,hr2⟩:=hargs;have hac:ac= #[]:=by apply Zdu;simpa using hac
 have hcc:cc= #[]:=by apply Zdu;simpa using hcc
 subst hac hcc hr2 hr1 hv1;have hvs:vs= #[v0,.func (fnV 137) #[] #[]]:=by apply Zdu;simpa using hv
 subst hvs;have hm:h (τ 0)=some (true,.arr 94 2 (a.map Qae.c)):=by
  have:=hheap.1
  rwa [hs0] at this
 have hd0:domB (srtQ.H0 a) 0=true:=rfl;have hSm:S.h (τ 0)=some (true,.arr 94 2 (a.map Qae.c)):=by
  rw[huse (τ 0) (ZbK _ (hN.u 0 hd0)),hm]
 have hk0: ∀n,n∈KL↔n=τ 0:=by
  intro n;constructor
  .intro hn;obtain⟨j,h1,_,h3⟩:=hN.k1 n hn
   have:j=0:=by
    simp only[domB,srtQ.H0,hget] at h1;by_cases hj:j=0
    .exact hj
    .have:(0==j)=false:=by simpa using fun h=>hj h.symm
     rw[this] at h1;cases h1
   rw[h3,this]
  .rintro rfl;exact hN.k2 0 hd0 rfl
 obtain⟨m,hmm⟩: ∃m,m=τ 0:=⟨_,rfl⟩;rw[<-hmm] at hSm hown hk0;have hsl:=sortQ_len hpre;have fin: ∀(w':World),Qjb S m (.arr 94 2 ((Qakz a).map Qae.c)) (S.ρ m) [m] w'->
  (Pres (fun n=>S.h m≠none\/n≠m) S (S.one m (.arr 94 2 ((Qakz a).map Qae.c)) (S.ρ m) [m] w')->objc (S.one m (.arr 94 2 ((Qakz a).map Qae.c)) (S.ρ m) [m] w') (S.ρ m) (.arr 94 2 ((Qakz a).map Qae.c)))->R (.returned (.tuple #[])) w':=by
  intro w' hone hob;have hp:=Qg2 hW hone;refine hfin (.tuple #[]) _ (Qqp hW hone (hob hp)) ?_ ⟨hp.ok,fun n _=>hp.nm n (.inl (by rw[hSm];simp))⟩ ⟨#[],rfl,rfl⟩;funext n;simp only[Env.one,Eff.appf,srtQ.H1,renH,hs0,hget,AObj.ren,<-hmm];by_cases hn:n=m
  .subst hn;simp
  .have h1:(m==n)=false:=by simpa using fun h=>hn h.symm
   have h2:KL.contains n=false:=by
    rw[<-ZaO,Zbr,hk0];exact hn
   simp only[h1,Zbc,h2,hn,ZbJ,Zat]
 have hown':=hown _ hSm;have hobj:=hW.obj _ _ hSm;have hloc:=fun lc=>hW.loc m _ lc hSm
 cases hρ:S.ρ m with
 |none=>
  rw[hρ] at hown' hobj;simp only[objc] at hobj;have ha:a=[]:=by simpa using hobj.2
  subst ha;simp only at hown';rw[hown',Qoi (by decide)];refine (AnyF.slices_SortFunc_none Tryz.sortPt none 0 (.func (.func 137) #[] #[]) S.w).mono ?_;rintro e w' ⟨rfl,rfl⟩;refine fin S.w (Qacz hSm (fun l hl=>by rw[hρ] at hl;cases hl) rfl rfl) (fun _=> ?_);rw[hρ];exact⟨ZaU _,rfl⟩
 |some lc=>
  rw[hρ] at hown' hobj;simp only[objc,AObj.len] at hobj hown';obtain⟨g1,g2,cv,g3,g4,g5⟩:=hobj;obtain⟨hlb,hlk⟩:=hloc lc hρ;rw[Qaml] at g5;obtain⟨rest,g5⟩:=g5;simp only[Zbv] at g1 g2 hown';have hheap:S.w.heap[lc.b]? =some (.cells cv 94 (0,0)):=g3;have hlen:lc.p+a.length*2<=cv.size:=by omega
  have hF:(flatK encQ 2 a.toArray).size=a.length*2:=by simp
  have hget: ∀j,j<a.length*2->cv[lc.p+j]? =some ((flatK encQ 2 a.toArray)[j]!):=by
   intro j hj;have h1:(cv.toList.drop lc.p)[j]? =(flQ a++rest)[j]? :=by rw[g5]
   rw[Zbs,ZaX,ZaG (by rw[flQ_len];exact hj),<-Qama,ZaX] at h1;rw[h1,Zbh (by rw[hF];exact hj),getElem!_pos _ _ (by rw[hF];exact hj)]
  have hH:HoldsK encQ 2 S.w lc.b lc.p a.toArray:=by
   intro j hj;rw[hF] at hj;refine⟨?_,?_⟩
   .simp only[World.cell?,hheap,Zdi,ZaB,ZbJ,id];exact hget j hj
   .simp only[World.frozen?,hheap];simp
  have hc:=AnyQ.slices_SortFunc Tryz.sortPt 2 Tryz.isAgg94 Tryz.sizeOf94 encQ (fun _=>rfl) (fun x v hv=>by simp[encQ] at hv;rcases hv with rfl|rfl<;>rfl) cfQ swoQ 137 #[] lc.b lc.p lc.cap a.toArray S.w
   (Qhx (Qh7 (by kernel_rfl))) (fun m os dk hs x y=>Tryz.cmpPoints _ _ _ _ _) hH hlb (by simp only[ZbZ,LIM] at g1⊢;omega)
  rw[hown',Qoi (by decide)];refine hc.mono ?_;rintro e w' ⟨rfl,d',n,os,hperm,hsort,rfl⟩;have hsz:d'.size=a.length:=hperm.1;have hd':d'.toList=Qakz a:=by
   refine Qamw hpre ?_ ?_
   .have:=hperm.2.2
    rwa [show d'.extract 0 a.toArray.size=d' by rw[ZbZ,<-hsz];exact Zdy,show a.toArray.extract 0 a.toArray.size=a.toArray from Zdy] at this
   .rw[Zdj];intro i j hi hj hij
    have:=hsort i j (ZaU _) hij (by rw[ZbZ,<-hsz];simpa using hj)
    rw[Qamn,getElem!_pos d' i (by simpa using hi),getElem!_pos d' j (by simpa using hj)] at this;simpa using this
  obtain rfl:d'=(Qakz a).toArray:=by apply Zdu;rw[hd']
  have hF':(flatK encQ 2 (Qakz a).toArray).size=a.length*2:=by simp[hsl]
  have hl2:(flatK encQ 2 (Qakz a).toArray).toList.length=a.length*2:=by rw[ZaP,hF']
  have hsize:S.w.heap.size<=(sortWorldK encQ 2 S.w lc.b lc.p n (Qakz a).toArray os).heap.size:=by
   simp[sortWorldK,grow,putRowK,Sort.ahead]
  have hb: ∀b,b<S.w.heap.size->(sortWorldK encQ 2 S.w lc.b lc.p n (Qakz a).toArray os).heap[b]? =if lc.b=b then S.w.heap[b]?.map (onCells (putCells id lc.p (flatK encQ 2 (Qakz a).toArray))) else S.w.heap[b]? :=by
   intro b hb;have e0:b<(putRowK encQ 2 (Sort.ahead S.w n) lc.b lc.p (Qakz a).toArray).heap.size:=by simpa[putRowK,Sort.ahead] using hb
   simp only[sortWorldK,grow];rw[ZdE e0];simp only[putRowK,putRow,mapBlock,Sort.ahead,ZdV]
  refine fin _ ⟨rfl,rfl,rfl,hsize,?_,.inl (by simp),?_,?_,?_⟩ ?_
  .intro b hb1 hb2;rw[hb b hb1,Zai (hb2 m _ lc (by simp) hSm hρ)]
  .intro lo hlo;rw[hρ] at hlo;obtain rfl:=Zaa hlo;exact⟨Zbo hlb hsize,.inr ⟨m,_,lc,by simp,hSm,hρ,rfl⟩⟩
  .intro f hf;rw[hSm] at hf;obtain rfl:=Zaa hf;exact⟨rfl,rfl,by simp[AObj.len,hsl]⟩
  .intro n' f _ hnone;rw[hSm] at hnone;cases hnone
  .intro _;rw[hρ];simp only[objc,Zbv,hsl];refine⟨g1,g2,putCells id lc.p (flatK encQ 2 (Qakz a).toArray) cv,?_,by simpa[putCells] using g4,?_⟩
   .simp only[Env.one,Env.hp];rw[hb lc.b hlb,Zak rfl,hheap];rfl
   .rw[Qaml];refine⟨(cv.toList.drop (lc.p+a.length*2)),?_⟩;apply Zci;intro t;rw[Zbs,ZaX,putCells,ZeH,hF',<-Qama];by_cases ht:t<a.length*2
    .rw[ZaG (by rw[hl2];exact ht),ZaX,Zbh (show lc.p+t<cv.size by omega),Zbh (by rw[hF'];exact ht)];simp only[ZaT,id];rw[Zak ⟨by omega,by omega⟩,ZcW,getElem!_pos _ _ (by rw[hF'];exact ht)]
    .rw[ZaI (by rw[hl2];omega),hl2,Zbs,ZaX,show lc.p+a.length*2+(t - a.length*2)=lc.p+t by omega];cases cv[lc.p+t]? with
     |none=>rfl
     |some x=>simp only[ZaT];rw[Zai (by omega)]
end Go.Ae
namespace Go.Ae
open Go.Proofs
theorem it_regU{ι:Type}{P:Program}{V:Qbh}{N:Nat}{J:ι->(Nat->Prop)->World->Prop}{base:Nat}{ok0:Nat->Prop}{i j:ι}(HV:Qd1 P V)(hA:Qoh base J){stp:ι->List D->ι->Prop}{l:Nat}(hY: ∀i x j args Pr W,stp i x j->(∀ok hp,rdl ok hp x args.toList)->J i Pr W->YieldAt Fence.wide 0 P l args W fun e W'=>e= .returned (.bool true)/\ ∃Pr',J j Pr' W'/\Move ok0 Pr W Pr' W')
 {id:Nat}{ops:Array Oper}(k1:Nat)(hsz:List.range ops.size=List.range' 0 (ops.toList.take k1).length++(k1::(List.range' (k1+1) (ops.toList.drop (k1+1)).length++[])))(hd1:Qkq N (ops.toList.take k1)=true)(hd2:Qkq N (ops.toList.drop (k1+1))=true)(hcalm:Qhw ops=true)
 {o:Oper}{c:Call}{f:Operand}{x:List D}(s1:Qad){s s2:Qad}{a:Act}{w:World}{Q:Exit->Act->World->Prop}(ho:ops[k1]? =some o)(hop:o.op= .call c)(hcal:c.callee= .value f)(hgd:o.guard=none)
 (hf:evO s1.tm f= .im (.fn (1000000000+l) [] []))(hargs:evL s1.tm c.args.toList=x.map .im)(hsc:x.all D.scs=true)(hx:stp i x j)(hnv: ∀n e,hget s1.h n=some e->e.2.isView=false)(hd: ∀d,o.dst=some d->d<N)(hg1:s1.good=true)(hg2:s2.good=true)
 (h:It J base ok0 N i s a w)(hk1:rgS P V (Qgy ops (ops.toList.take k1)) (fun s=>sub s s1) s)(hk2:rgS P V (Qgy ops (ops.toList.drop (k1+1))) (fun s=>sub s s2) (s1.put o.dst (.im (.bool true))))
 (hend: ∀a w,It J base ok0 N j s2 a w->Q .normal a w):(Code.region id ops false).wpIn Fence.wide 0 P Q a w:=by
 refine wpIn_region ?_;rw[hsz];refine Qamq HV hA (seg:=ops.toList.take k1) (more:=ops.toList.drop k1) (by rw[ZbQ,Zbj]) hd1 hcalm hk1 h (fun s a w h1 h2=> ?_);have h3:=Qdd h2 h1 hg1 hA;have hw:Region.wanted o (yielded ops a.tmps)=true:=by simp[Region.wanted,hgd]
 refine Qamp hA hY ho hw hop hcal hf hargs hsc hx hnv hd h3 (fun a w h4=> ?_);refine Qamq HV hA (seg:=ops.toList.drop (k1+1)) (more:=[]) (by rw[ZaK]) hd2 hcalm hk2 h4 (fun s a w h5 h6=> ?_);exact hend a w (Qdd h6 h5 hg2 hA)
abbrev OpM:=List (Qae×List Int)
def givK(op:OpM):Giv:=⟨OpM×List Qae,(op,[]),fun i x j=> ∃(k:Nat) (p:Qae×List Int),i.1[k]? =some p/\x=[.agg (Qae.c p.1)]/\j=(i.1.eraseIdx k,i.2++[p.1]),fun i=>i.1=[]⟩
def kyS(l:Nat)(left:OpM)(last:Option (D×D)):Qad:=⟨[(5,.it 0),(0,.im (.fn (1000000000+l) [] []))],[(0,(true,.iter last (left.map Qbc)))],1⟩
def kyB(l:Nat)(left:OpM)(p:Qae×List Int):Qad:=⟨[(3,.ptr 1 0),(5,.it 0),(0,.im (.fn (1000000000+l) [] []))],[(0,(true,.iter (some (Qbc p)) (left.map Qbc))),(1,(true,.cells 94 [.im (.int .i64 p.1.X),.im (.int .i64 p.1.Y)]))],2⟩
theorem Qal7(l:Nat)(left:OpM)(last:Option (D×D)):(kyS l left last).good=true:=by simp[kyS,Qad.good,belT,belH,Qam,AV.bel]
theorem kyB_good(l:Nat)(left:OpM)(p:Qae×List Int):(kyB l left p).good=true:=by simp[kyB,Qad.good,belT,belH,belL,Qam,AV.bel]
theorem Qamv:Qkj Tryz.prog (tab []):=Qaaq [] (by simp)
theorem keys_iter(op:OpM):IterG Tryz.prog 243 [.ref [.mp ktP (op.map Qbc)]] (givK op):=by
 refine it_fnG Tryz.func243 rfl rfl (by simp) ?_;intro l J base ok0 hAb hY a w hIt;have HV:=Qvp Qamv;obtain⟨R,hR⟩: ∃R,R=(fun (e:Exit) (a:Act) (w:World)=> ∃i,(givK op).fin i/\itQ J base ok0 Tryz.f243.ntmps i (fun e _=>e= .normal\/e= .ret) e a w):=⟨_,rfl⟩;rw[<-hR];simp only[Tryz.f243,Option.getD] at hIt⊢;refine Qkw Qaq HV hAb (by decide) (by decide) hIt (Qx:=endS (kyS l op none)) ?_ (fun s a w h1 h2=> ?_) (fun _ _ _ _ h=>h.elim) (fun _ _ _ h=>h.elim)
 .simp(maxSteps:=9^9)(disch:=omega)only[ZZ,simprocAttr,rch,endS,kyS,entry,sub,ktP]
 have h3:=Qdd h2 h1 (Qal7 _ _ _) hAb;clear h1 h2 hIt;refine wpIn_block (wpIn_loop_ghost (fun m a w=> ∃(i:OpM×List Qae) (last:Option (D×D)),m=i.1.length/\It J base ok0 14 i (kyS l i.1 last) a w) op.length ⟨(op,[]),none,rfl,h3⟩ ?_);clear h3;rintro m a w ⟨⟨left,giv⟩,last,hm,h⟩;simp only at hm h;refine Qkw Qaq HV hAb (by decide) (by decide) h (Qx:=fun e s=>match e with
  | .normal=>(left=[]/\sub s ⟨(7,.im (.bool false))::(kyS l left last).tm,(kyS l left last).h,1⟩)\/ ∃(k:Nat) (p:Qae×List Int),left[k]? =some p/\sub s ⟨(7,.im (.bool true))::(kyS l left last).tm,(kyS l (left.eraseIdx k) (some (Qbc p))).h,1⟩
  |_=>False) ?_ (fun s a w h1 h2=> ?_) (fun _ _ _ _ h=>h.elim) (fun _ _ _ h=>h.elim)
 .simp(maxSteps:=9^9)(disch:=omega)only[ZZ,simprocAttr,rch,kyS,sub,Qwf];refine⟨fun h=> .inl (by simpa using h),fun i p hp=> ?_⟩;rw[ZaN] at hp;obtain⟨q,hq,rfl⟩:=Zay.1 hp;exact .inr ⟨i,q,hq,rfl⟩
 simp only at h1;rcases h1 with ⟨hl,hs⟩|⟨k,p,hk,hs⟩
 .have h3:=Qdd h2 hs (by simp[kyS,Qad.good,belT,belH,Qam,AV.bel]) hAb;refine Qkw Qaq HV hAb (by decide) (by decide) h3 (Qx:=endC (kyS l left last) False True 0) ?_ (fun s a w h1 h2=>h1.1.elim) (fun id s a w h1 h2=> ?_) (fun _ _ _ h=>h.elim)
  .simp(maxSteps:=9^9)(disch:=omega)only[ZZ,simprocAttr,rch,endC,kyS,sub]
  .obtain⟨rfl,_,h1⟩:=h1;simp only[Exit.then,Exit.inBlock,Zbg,hR,itQ];exact⟨(left,giv),hl,s,.inl trivial,h2⟩
 have h3:=Qdd h2 hs (by simp[kyS,Qad.good,belT,belH,Qam,AV.bel]) hAb;clear h2 h hs;refine Qkw Qaq HV hAb (by decide) (by decide) h3 (Qx:=endC (kyS l (left.eraseIdx k) (some (Qbc p))) True False 0) ?_ (fun s a w h1 h2=> ?_) (fun id s a w h1 h2=>h1.2.1.elim) (fun _ _ _ h=>h.elim)
 .simp(maxSteps:=9^9)(disch:=omega)only[ZZ,simprocAttr,rch,endC,kyS,sub]
 have h:=Qdd h2 h1.2 (Qal7 _ _ _) hAb;clear h1 h2 h3;refine wpIn_block ?_;refine Qkw Qaq HV hAb (by decide) (by decide) h (Qx:=endS (kyB l (left.eraseIdx k) p)) ?_ (fun s a w h1 h2=> ?_) (fun _ _ _ _ h=>h.elim) (fun _ _ _ h=>h.elim)
 .simp(maxSteps:=9^9)(disch:=omega)only[ZZ,simprocAttr,rch,endS,kyS,kyB,sub,Qbc,Qae.c]
  trace_state
 have h3:=Qdd h2 h1 (kyB_good _ _ _) hAb;clear h1 h2 h;have hkl:=(Zaj.1 hk).1;obtain⟨F,hF⟩: ∃F:AV,F= .im (.fn (1000000000+l) [] []):=⟨_,rfl⟩;obtain⟨E,hE⟩: ∃E:Ent,E=(true,.iter (some (Qbc p)) ((left.eraseIdx k).map Qbc)):=⟨_,rfl⟩;refine wpIn_seq (it_regU HV hAb hY (i:=(left,giv)) (j:=(left.eraseIdx k,giv++[p.1])) (x:=[.agg (Qae.c p.1)]) 2 (by decide) (by decide) (by decide) (by decide)
  (⟨[(11,.im (.agg (Qae.c p.1))),(10,F),(5,.it 0),(0,F)],[(0,E)],2⟩:Qad) (s2:=⟨[(13,.im (.bool false)),(5,.it 0),(0,F)],[(0,E)],2⟩) rfl rfl rfl rfl (by rw[hF];rfl) rfl (by rfl) ⟨k,p,hk,rfl,rfl⟩ ?_ (by decide) (by rw[hE,hF];simp[Qad.good,belT,belH,Qam,AV.bel]) (by rw[hE,hF];simp[Qad.good,belT,belH,Qam,AV.bel]) h3 ?_ ?_ (fun a w h4=> ?_))
 .exact fun n e he=>Qaa1 _ (by rw[hE];rfl) n e he
 .simp(maxSteps:=9^9)(disch:=omega)only[ZZ,simprocAttr,rch,kyB,sub,hE,hF,Qae.c,Qgy,Qx6,List.take]
 .simp(maxSteps:=9^9)(disch:=omega)only[ZZ,simprocAttr,rch,kyB,sub,hE,hF,Qae.c,Qgy,Qx6,List.drop]
 simp only[Exit.then];refine Qs5 Qaq HV hAb (by decide) (by decide) h4 (Qx:=endS (kyS l (left.eraseIdx k) (some (Qbc p)))) ?_ (fun s a w h1 h2=> ?_) (fun _ _ _ _ h=>h.elim) (fun _ _ _ h=>h.elim)
 .simp(maxSteps:=9^9)(disch:=omega)only[ZZ,simprocAttr,rch,endS,kyS,sub,hE,hF]
 simp only[Exit.inBlock,Exit.then];exact⟨(left.eraseIdx k).length,by rw[Zed,Zak hkl];omega,(left.eraseIdx k,giv++[p.1]),_,rfl,Qdd h2 h1 (Qal7 _ _ _) hAb⟩
end Go.Ae
namespace Go.Ae
open Go.Proofs Go.RowKit Go.Lib Go.Sort
theorem Qaly{A:Type}: ∀(l:List A) (k:Nat) (x:A),l[k]? =some x->l.Perm (x::l.eraseIdx k)
 |[],k,x,h=>by simp at h
 |y::r,0,x,h=>by
  simp only[ZaS,Zab] at h;subst h;exact Zdv _
 |y::r,k+1,x,h=>by
  rw[ZaW] at h;rw[ZcH];exact ((Qaly r k x h).cons y).trans (List.Perm.swap x y _)
def appQ(op:OpM)(s:Qad)(xs:List AV):Prop:= ∃l:List Qae,l.Perm (op.map Prod.fst)/\ ∃m,xs=[.own m]/\hget s.h m=some (true,.arr 94 2 (l.map Qae.c))
def kyF(op:OpM):D:= .fn 243 [] [.ref [.mp ktP (op.map Qbc)]]
theorem appSeq{op:OpM}(hb:op.length<=1000000){C:Ctx}{S:Env}{vs:Array Value}{RR:Ending->World->Prop}(hW:Wf C S)(hps:PKL S [.val (.sl true 0 []),.val (kyF op)] vs.toList)
 (hfin: ∀(v:Value) (C0:Ctx) (S1:Env) (l:List Qae) (m:Nat),C0.w=S.w->C0.ok=S.ok->(∀b,¬C0.M b)->Wf C0 S1->l.Perm (op.map Prod.fst)->S1.h m=some (true,.arr 94 2 (l.map Qae.c))->conc S1 (.own m) v->RR (.returned v) S1.w):
 Calls Tryz.prog 247 vs S.w RR:=by
 have HV:=Qvp Qamv;refine Qal9 Tryz.func247 rfl (ps:=[.val (.sl true 0 []),.val (kyF op)]) (show 2<=13 by decide) (Q:=appQ op) ?_ hW hps ?_;rotate_left
 .rintro v C0 S1 s xs g1 g2 g3 g4 g5 ⟨l,hl,m,rfl,hm⟩ g7;exact hfin v C0 S1 l m g1 g2 g3 g4 hl ((g5 m).trans hm) g7
 intro C0 a w hw hn0 hc hdf;have hds:C0.ds=[]:=by obtain⟨S0,_,h⟩:=hc;rw[<-h.defers];exact hdf
 simp only[Tryz.f247,Option.getD] at hc⊢;refine Qxh Qaq HV (by decide) (by decide) (s':=⟨[(2,.ptr 0 0),(1,.im (kyF op))],[(0,(true,.cells 144 [.im (.sl true 0 [])]))],2⟩) hc ?_ ?_ (by rw[hn0];exact ZaU _) (fun a w hc=> ?_)
 .simp(maxSteps:=9^9)(disch:=omega)only[ZZ,simprocAttr,rch,endS,sub,Qcq,Qc5,cnum,entry]
 .simp[Qad.good,belT,belH,belL,Qam,AV.bel]
 refine wpIn_seq ?_;refine Qxh Qaq HV (by decide) (by decide) (s':=⟨[(6,.im (kyF op)),(2,.ptr 0 0)],[(0,(true,.cells 144 [.im (.sl true 0 [])]))],2⟩) hc ?_ ?_ (by rw[hn0];exact ZaU _) (fun a w hc=> ?_)
 .simp(maxSteps:=9^9)(disch:=omega)only[ZZ,simprocAttr,rch,endS,sub]
 .simp[Qad.good,belT,belH,belL,Qam,AV.bel]
 refine wpIn_block (wpIn_mono (Qame Qaq HV hc (gf:=243) (capt:=[.ref [.mp ktP (op.map Qbc)]]) (X:=givK op) (Qh7 (by kernel_rfl)) (keys_iter op)
  (fun (i:OpM×List Qae)=>(i.2++i.1.map Prod.fst).Perm (op.map Prod.fst)) (Zdv _) ?_ (by decide) (by decide) (by decide) (by decide) ?_ (by decide)
  (tm0:=[(6,.im (kyF op)),(2,.ptr 0 0)]) (hs:=fun (i:OpM×List Qae)=>[(0,(true,.cells 144 [.own 2])),(2,(true,.arr 94 2 (i.2.map Qae.c)))]) (nx:=3) ⟨[(2,none)],?_⟩ rfl (by simp) ?_ ?_ ?_ ?_) ?_)
 .rintro⟨left,giv⟩ x j hok ⟨k,p,hk,rfl,rfl⟩;simp only at hk hok⊢;have h1:(left.map Prod.fst).Perm (p.1::(left.eraseIdx k).map Prod.fst):=by
   exact (Qaly left k p hk).map Prod.fst
  refine List.Perm.trans ?_ hok;rw[Zbt];exact (h1.append_left giv).symm
 .rintro⟨left,giv⟩ x j hok ⟨k,p,hk,rfl,rfl⟩;rfl
 .simp only[subP];simp(maxSteps:=9^9)(disch:=omega)only[ZZ,simprocAttr,rch,Zah,Zag,ZaV];exact (trivial:nilE true (.arr 0 0 []))
 .simp[belT,AV.bel]
 .rintro⟨left,giv⟩ hok;simp[Qad.good,belT,belH,belL,Qam,AV.bel]
 .intro i o e he hv;rw[Qaa1 _ (by rfl) o e he] at hv;cases hv
 .rintro⟨left,giv⟩ x j hok ⟨k,p,hk,rfl,rfl⟩;have hgl:giv.length<=op.length:=by
   have:=hok.length_eq
   simp at this;omega
  simp(maxSteps:=9^9)(disch:=omega)only[ZZ,simprocAttr,rch,asgQ,rndQ,parT,sub,Qal];refine⟨fun row hrow=>by rw[Zat] at hrow;subst hrow;rfl,by omega,[(2,some 5)],?_⟩;simp only[subP];simp(maxSteps:=9^9)(disch:=omega)only[ZZ,simprocAttr,rch,Zah,Zag,ZbG]
 .rintro e a' w' ⟨⟨left,giv⟩,hok,hfi,hq⟩;simp only[givK] at hfi;subst hfi;simp only[ZaV,ZaK] at hok;cases e<;>simp only[rngQ] at hq;obtain⟨C2,S2,Dk,rfl,hE,hback,ht,hd,hD1,hD2,hD3,hD4,hD5⟩:=hq;simp only[Exit.inBlock,Exit.then];have hd0:a.defers=[]:=by obtain⟨S0,_,h⟩:=hc;rw[h.defers];exact hds
  rw[hd0] at hd;have hm: ∀a'':Act,a''.defers=C2.ds->Qrj C0 C2 a''.defers:=fun a'' h=> .inr ⟨Dk,by rw[h,<-hE.defers,hd],hD1,hD2,hD3,hD4,hD5⟩
  refine wpIn_mono (Qgd (ro:=none) Qaq HV _ (by decide) (by decide) (retXQ Tryz.prog [ResultVar.tmp 4] (appQ op)) _ a' S2.w ?_ ⟨S2,rfl,hE⟩) ?_
  .simp(maxSteps:=9^9)(disch:=omega)only[ZZ,simprocAttr,rch,retXQ,retX,appQ];exact⟨_,rfl,giv,hok,2,rfl,rfl⟩
  .intro e a'' w'' hq;cases e<;>simp only[toQ] at hq<;>simp only[rngP]
   .obtain⟨s',hs',hcon⟩:=hq;exact⟨s',C2,hs',hcon,hback,hm a'' (by obtain⟨S0,_,h⟩:=hcon;exact h.defers)⟩
   .obtain⟨s',hs',hcon⟩:=hq;exact hs'.elim
   .obtain⟨s',hs',hcon⟩:=hq;exact⟨s',C2,hs',hcon,hback,hm a'' (by obtain⟨S0,_,h⟩:=hcon;exact h.defers)⟩
theorem srtQ_dom(a:List Qae)(j:Nat):domB (srtQ.H0 a) j=true↔j<1:=by
 simp only[domB,srtQ.H0,hget];by_cases hj:j=0
 .subst hj;simp
 .have:(0==j)=false:=by simpa using fun h=>hj h.symm
  rw[this];simp;omega
def ColQ(op:OpM)(S:Env)(v:Value)(w:World):Prop:= ∃(C0:Ctx) (S1:Env) (l:List Qae) (m:Nat),S1.w=w/\C0.w=S.w/\C0.ok=S.ok/\(∀b,¬C0.M b)/\Wf C0 S1/\l.Perm (op.map Prod.fst)/\S1.h m=some (true,.arr 94 2 (l.map Qae.c))/\conc S1 (.own m) v
theorem collect{op:OpM}(hb:op.length<=1000000){C:Ctx}{S:Env}{v1:Value}(hW:Wf C S)(hv:PKL S [.val (kyF op)] [v1]):
 Calls Tryz.prog 241 #[v1] S.w (fun e w=> ∃v,e= .returned v/\ColQ op S v w):=by
 have hap:Calls Tryz.prog 247 #[.slice none 0 0,v1] S.w (fun e w=> ∃v,e= .returned v/\ColQ op S v w):=by
  refine appSeq hb hW ⟨_,_,rfl,?_,hv⟩ (fun v C0 S1 l m g1 g2 g3 g4 g5 g6 g7=>⟨v,rfl,C0,S1,l,m,rfl,g1,g2,g3,g4,g5,g6,g7⟩);exact Qami S (.slice none 0 0)
 go_enter Tryz.func241,Tryz.ntmps241
 go_wp2_with (go_at_call 247;refine hap.mono ?_;rintro e w' ⟨v,rfl,h⟩)
 go_ret
 exact⟨v,rfl,h⟩
theorem sort_call{C0:Ctx}{S1:Env}{l:List Qae}{m:Nat}{v v2:Value}{R:Ending->World->Prop}(hW:Wf C0 S1)(hd:l.Nodup)(hm:S1.h m=some (true,.arr 94 2 (l.map Qae.c)))(hv:conc S1 (.own m) v)(hv2:conc S1 (.im (.fn 137 [] [])) v2)
 (hfin: ∀u S',Wf C0 S'->S'.h m=some (true,.arr 94 2 ((Qakz l).map Qae.c))->conc S' (.own m) v->R (.returned u) S'.w):
 Calls Tryz.prog 242 #[v,v2] S1.w R:=by
 have hrow:srtQ.row [.own m,.im (.fn 137 [] [])] S1.h (m+1) (fun r E=>E={use:=[m],kill:=[m],new:=[(m,(true,.arr 94 2 ((Qakz l).map Qae.c)))],cnt:=0}):=by
  refine orow.os l [m] hd (srtQ_dom l) rfl (by simp[Qxw]) ⟨rfl,?_⟩ ?_
  .simp only[srtQ.H0,Qer,sgx,osn];exact⟨hm,trivial⟩
  .rfl
 obtain⟨_,r,E,hT,rfl⟩:=srtQ.ok _ _ _ _ hrow;have hnf: ∀n,¬Fr (m+1) 0 n:=fun n h=>by have:=h.1;have:=h.2;omega
 refine hT C0 S1 #[v,v2] R hW (fun n _=>rfl) (fun n hn=>(hnf n hn).elim) (fun n e _ k _ hk=>hnf k hk) ⟨v,[v2],rfl,hv,v2,[],rfl,hv2,rfl⟩ ?_;intro u S' hW' hh hp _;refine hfin u S' hW' ?_ (Qbt hp _ _ (fun o _ hf=>hnf o hf) hv);rw[hh];simp[Eff.appf,hget]
def sorF.ar:List PK->Option OpM
 |[.val (.fn 243 [] [.ref [.mp ⟨true,[.int .i64,.int .i64]⟩ es]]),.val (.fn 137 [] [])]=>decM (vAgg Qae.d) (vSl intD) es
 |_=>none
def sorF.ae(op:OpM):List PK:=[.val (kyF op),.val (.fn 137 [] [])]
theorem sorF.le: ∀ps a,sorF.ar ps=some a->LeKL ps (sorF.ae a):=by
 intro ps a h;unfold sorF.ar at h;split at h
 .exact⟨Qos ⟨Qil (LeS.leP ⟨le_mp (Qxb Qwu (Qe8 Qb3 (fun _=>rfl)) _ _ h),trivial⟩),trivial⟩,LeK.refl _,trivial⟩
 .cases h
def sorF.fv(op:OpM):List Qae:=Qakz (op.map Prod.fst)
def sorF.row:Row:=Qfi sorF.ar (fun op=>(op.map Prod.fst).Nodup/\op.length<=1000000) (fun op=> .sl false 2 ((sorF.fv op).map Qae.c))
def sorF.q:=vqF sorF.row rfl
theorem sorF.ok:Qas Tryz.prog 235 sorF.row:=by
 refine Quy (by kernel_rfl) sorF.le (rc:=vSl Qae.d) (re:=fun b=> .sl false 2 (b.map Qae.c)) (Qe8 Qae.d_le (fun _=>rfl)) (f:=sorF.fv) (fun op hpre C S vs RR hW hps hfin=> ?_);obtain⟨hnd,hb⟩:=hpre;simp only[sorF.ae,PKL] at hps;obtain⟨v1,r1,hvs,hv1,v2,r2,rfl,hv2,rfl⟩:=hps;have hvs':vs= #[v1,v2]:=by apply Zdu;simpa using hvs
 subst hvs';have hcol:=collect hb hW (v1:=v1) ⟨v1,[],rfl,hv1,rfl⟩
 go_enter Tryz.func235,Tryz.ntmps235
 have hv2': ∀S1:Env,conc S1 (.im (.fn 137 [] [])) v2:=fun S1=>by simpa only[PKc,conc,rd,rdl] using hv2
 have hso: ∀(C0:Ctx) (S1:Env) (l:List Qae) (m:Nat) (v:Value),Wf C0 S1->l.Perm (op.map Prod.fst)->S1.h m=some (true,.arr 94 2 (l.map Qae.c))->conc S1 (.own m) v->
  Calls Tryz.prog 242 #[v,v2] S1.w (fun e w=> ∃u S',e= .returned u/\S'.w=w/\Wf C0 S'/\S'.h m=some (true,.arr 94 2 ((sorF.fv op).map Qae.c))/\conc S' (.own m) v):=by
  intro C0 S1 l m v g4 g5 g6 g7;refine sort_call g4 (g5.nodup_iff.2 hnd) g6 g7 (hv2' S1) (fun u S' h1 h2 h3=>⟨u,S',rfl,rfl,h1,?_,h3⟩)
  have:Qakz l=Qakz (op.map Prod.fst):=Qal3 (Qakg _) (Qakg _) (fun q=>by rw[Qaka,Qaka];exact g5.mem_iff)
  rw[h2,this];rfl
 go_wp2_with (first
  |(go_at_call 241;refine hcol.mono ?_;rintro e w' ⟨v,rfl,C0,S1,l,m,rfl,g1,g2,g3,g4,g5,g6,g7⟩)
  |(go_at_call 242;refine (hso C0 S1 l m v g4 g5 g6 g7).mono ?_;rintro e w' ⟨u,S',rfl,rfl,h1,h2,h3⟩))
 show RR (.returned v) S'.w;obtain⟨d,rfl,hd2⟩:=Qzf (K:=fun d=>d= .sl false 2 ((sorF.fv op).map Qae.c)) g3 h1 (x:= .own m) (by
  simp only[frP,h2,frO,frA];exact⟨by intro row hr;obtain⟨p,_,rfl⟩:=ZaM.1 hr;rfl,trivial⟩) h3
 exact hfin v C0 S' _ g1 g2 g3 h1 (by simp only[decD,vSl,Qae.d_R]) hd2
def keyC.ca(_:OpM):List AV:=[.mp 0]
def keyC.H0(a:OpM):Qan:=[(0,(true,.map ktP (a.map Qbc)))]
def keyC.H1(_:OpM):Qan:=[(1,(true,.cells 288 [.mp 0]))]
def keyC.r0(_:OpM):AV:= .clo 243 [] [.ptr 1 0]
def keyC.row:Row:=orow keyC.ca keyC.H0 1 (fun _=>True) (fun _=>false) keyC.r0 keyC.H1 1
theorem keyC.ok:Qas Tryz.prog 236 keyC.row:=by
 refine ow tN Tryz.func236 rfl (by kernel_rfl) (exB:=fun j=>j==1) (R:=fun a r=>r=keyC.r0 a) (fun _=>rfl)
  (fun a=>by simp[keyC.ca,keyC.H0,keyC.H1,keyC.r0,belL,AV.bel,belH,Qam,Qc2,AObj.nms,nmsL,AV.nms,domB,hget]) (fun a p hp=> ?_) (fun a r h=>by subst h;exact LeV.refl _) ?_
 rotate_left
 intro a hpre;simp only[Tryz.f236,Option.getD,keyC.ca,keyC.H0,keyC.H1,keyC.r0];simp(maxSteps:=9^9)(disch:=omega)only[ZZ,simprocAttr,rch,ORB,keyC.ca,keyC.H0,keyC.H1,keyC.r0];simp[keyC.H1] at hp;subst hp;exact .inr ⟨by omega,by omega,rfl,rfl⟩
end Go.Ae
namespace Go.Ae
open Go.Proofs
theorem lkG_mem{β:Type}{v:β}{p:Qae}: ∀{t:List (Qae×β)},lkP t p=some v->(p,v)∈t
 |(q,w)::r,h=>by
  simp only[lkP] at h;split at h
  .rename_i e;obtain rfl:=Zaa h;rw[e];exact Zau ..
  .exact Zas _ (lkG_mem h)
theorem Qamo{β:Type}{p:Qae}: ∀{t:List (Qae×β)},lkP t p=none->p∉t.map Prod.fst
 |[],_=>by simp
 |(q,w)::r,h=>by
  simp only[lkP] at h;split at h
  .cases h
  .rename_i e;simp only[Zao,Zax,Zfg];exact⟨e,Qamo h⟩
theorem keyC_dom(a:OpM)(j:Nat):domB (keyC.H0 a) j=true↔j<1:=by
 simp only[domB,keyC.H0,hget];by_cases h0:j=0
 .subst h0;simp
 .have e0:(0==j)=false:=by simp;omega
  simp[e0];omega
def lisC.r0(a:Cry):AV:= .im (.sl false 3 ((Qalo a.Op).map Opt.c))
def lisC.row:Row:=orow asmC.ca cryH 3 (fun a=>(a.Op.map Prod.fst).Nodup/\a.Op.length<=1000000/\ ∀q∈a.Op,q.2.length<=1000) (fun _=>false) lisC.r0 (fun _=>[]) 20
def YaR:=J @sorF.q @sorF.fv.eq_1
theorem lisC.ok:Qas Tryz.prog 230 lisC.row:=by
 refine owN (tC keyC.ok (tC sorF.ok tN)) Tryz.func230 rfl (by kernel_rfl) (exB:=fun _=>false) (R:=fun a r=>r=lisC.r0 a) (fun _=>rfl)
  (fun a=>by simp[asmC.ca,cryH,Qbk,belL,AV.bel,belH,Qam,Qc2,AObj.nms,nmsL,AV.nms,domB,hget]) (fun a p hp=> ?_) (fun a r h=>by subst h;exact LeV.refl _) ?_
 rotate_left
 intro a hpre;simp only[Tryz.f230,Option.getD,asmC.ca,cryH,Qbk];simp(maxSteps:=9^9)(disch:=omega)only[ZZ,simprocAttr,rch,YaR,sorF.ar,Qc7,ORB,asmC.ca,cryH,Qbk];obtain⟨hp1,hp2,hp3⟩:=hpre;refine orow.os a.Op [2] trivial (fun j=>keyC_dom _ j) rfl rfl ?_ ?_
 .simp(maxSteps:=9^9)(disch:=omega)only[ZZ,simprocAttr,rch,YaR,sorF.ar,Qc7,ORB,asmC.ca,cryH,Qbk,keyC.ca,keyC.H0,Zbg,Zbi];rfl
 simp(maxSteps:=9^9)(disch:=omega)only[ZZ,simprocAttr,rch,YaR,sorF.ar,Qc7,ORB,asmC.ca,cryH,Qbk,keyC.H1,keyC.r0,sub];obtain⟨L,hL⟩: ∃L,L=Qakz (a.Op.map Prod.fst):=⟨_,rfl⟩;obtain⟨g,hg⟩: ∃g:Qae->List Int,g=fun p=>(lkP a.Op p).getD []:=⟨_,rfl⟩
 have hop:Qalo a.Op=Qajs g L:=by rw[hg,hL];rfl
 refine⟨⟨hp1,hp2⟩,?_⟩;simp only[<-hL];intro hLl;refine Qay.ren ⟨{i:Nat//i<=L.length},fun i=>⟨[(15,.im (.int .i64 i.1)),(14,.im (.int .i64 L.length)),(13,.im (.sl false 2 (L.map Qae.c))),(3,.own 6),(0,.ptr 0 0)],[(6,(true,.arr 108 3 ((Qakh g L i.1).map Opt.c))),(0,(true,.cells 290 (Qbk a.Sys))),(1,(true,.map ⟨true,[.int .i64,.int .i64]⟩ (a.Tl.map Qbe))),(2,(true,.map ⟨true,[.int .i64,.int .i64]⟩ (a.Op.map Qbc)))],7⟩,fun i=>L.length - i.1,fun i=>⟨by simp[Qad.good,belT,belH,Qam,AV.bel,belL,Qbk],by simp⟩,⟨⟨0,ZaU _⟩,[(6,some 4)],?_⟩,fun i=> ?_⟩
 .simp only[subP,Qbk];simp(maxSteps:=9^9)(disch:=omega)only[ZZ,simprocAttr,rch,YaR,sorF.ar,Qc7,ORB,asmC.ca,cryH,Qbk,Zah,Zag,Qakh,Zbq,Qajs,Zdt,ZaV]
  try simp
 obtain⟨i,hi⟩:=i;simp only[Qbk];simp(maxSteps:=9^9)(disch:=omega)only[ZZ,simprocAttr,rch,YaR,sorF.ar,Qc7,ORB,asmC.ca,cryH,Qbk,sub,Qal,lkVC_ps];have hgl: ∀p,(g p).length<=1000:=fun p=>by
  rw[hg];simp only;cases hq:lkP a.Op p with
  |none=>simp
  |some v=>exact hp3 _ (lkG_mem hq)
 have hLn:L.length<=1000000:=by rw[hL,(Qall hp1).length_eq,Zbv];exact hp2
 have hol:(Qakh g L i).length<=1000000*1000:=by
  have:=Qakc hgl (L.take i)
  have h9:(L.take i).length*1000<=1000000*1000:=Zbf _ (by simp;omega);simp only[Qakh];omega
 refine⟨fun hi2=>⟨hi2,fun p hp=>⟨fun v hv=> ?_,fun hv=> ?_⟩⟩,fun hi2=> ?_⟩
 .have hgv:g p=v:=by rw[hg];simp only[hv,Zad]
  have hgp:=hgl p;rw[hgv] at hgp;refine Qay.ren ⟨{k:Nat//k<=v.length},fun k=>⟨[(26,.im (.int .i64 k.1)),(25,.im (.int .i64 v.length)),(24,.im (.sl false 1 (v.map intC))),(5,.ptr 7 0),(15,.im (.int .i64 i)),(14,.im (.int .i64 L.length)),(13,.im (.sl false 2 (L.map Qae.c))),(3,.own 8),(0,.ptr 0 0)],[(8,(true,.arr 108 3 ((Qakh g L i++(v.take k.1).map (mkO2 p)).map Opt.c))),(7,(true,.cells 94 ((Qae.c p).map .im))),(0,(true,.cells 290 (Qbk a.Sys))),(1,(true,.map ⟨true,[.int .i64,.int .i64]⟩ (a.Tl.map Qbe))),(2,(true,.map ⟨true,[.int .i64,.int .i64]⟩ (a.Op.map Qbc)))],9⟩,fun k=>v.length - k.1,fun k=>⟨by simp[Qad.good,belT,belH,Qam,AV.bel,belL,Qbk,Qae.c],by simp⟩,⟨⟨0,ZaU _⟩,[(8,some 6)],?_⟩,fun k=> ?_⟩
  .simp only[subP,Qbk];simp(maxSteps:=9^9)(disch:=omega)only[ZZ,simprocAttr,rch,YaR,sorF.ar,Qc7,ORB,asmC.ca,cryH,Qbk,Zah,Zag,Zbq,ZaV,ZaK]
   try simp
  obtain⟨k,hk⟩:=k;simp only[Qbk];simp(maxSteps:=9^9)(disch:=omega)only[ZZ,simprocAttr,rch,YaR,sorF.ar,Qc7,ORB,asmC.ca,cryH,Qbk,sub,Qal,Qag,Qac,Qaf,allD,D.one,Zbn,Zcn,Zdk,ZaC];refine⟨fun hk2=>⟨hk2,fun x hx=>⟨?_,⟨k+1,by omega⟩,[(8,some 10)],by simp only;omega,?_⟩⟩,fun hk2=>⟨⟨i+1,by omega⟩,[(6,some 8)],by simp only;omega,?_⟩⟩
  .have:(v.take k).length<=1000:=by simp;omega
   omega
  .simp only[subP];simp(maxSteps:=9^9)(disch:=omega)only[ZZ,simprocAttr,rch,YaR,sorF.ar,Qc7,ORB,asmC.ca,cryH,Qbk,Zah,Zag];refine⟨by rw[Qak (by omega) (by omega)];rfl,?_⟩;rw[Qwe hx];simp[mkO2,Opt.c,Qae.c]
  .obtain rfl:k=v.length:=by omega
   simp only[subP];simp(maxSteps:=9^9)(disch:=omega)only[ZZ,simprocAttr,rch,YaR,sorF.ar,Qc7,ORB,asmC.ca,cryH,Qbk,Zah,Zag];refine⟨by rw[Qak (by omega) (by omega)];rfl,?_⟩;rw[Qalm hp,Zbx,hgv]
 .exfalso
  have:p∈L:=Zae hp
  rw[hL,Qaka] at this;exact Qamo hv this
 .obtain rfl:i=L.length:=by omega
  have hA:Qakh g L L.length=Qalo a.Op:=by rw[Qakh,Zbx,hop]
  rw[hA];refine⟨[6],[],⟨[(2,.im (.sl false 3 ((Qalo a.Op).map Opt.c)))],[(0,(true,.cells 290 (Qbk a.Sys))),(1,(true,.map ⟨true,[.int .i64,.int .i64]⟩ (a.Tl.map Qbe))),(2,(true,.map ⟨true,[.int .i64,.int .i64]⟩ (a.Op.map Qbc)))],3⟩,?_,by simp[Qad.good,belT,belH,Qam,AV.bel,belL,Qbk],by simp,?_⟩
  .simp only[subP,Qbk];simp(maxSteps:=9^9)(disch:=omega)only[ZZ,simprocAttr,rch,YaR,sorF.ar,Qc7,ORB,asmC.ca,cryH,Qbk,Zah,Zag]
  .simp only[Qbk];simp(maxSteps:=9^9)(disch:=omega)only[ZZ,simprocAttr,rch,YaR,sorF.ar,Qc7,ORB,asmC.ca,cryH,Qbk,lisC.r0]
 simp at hp
def sptC(x:List Qae):List D:=[.sl false 2 (x.map Qae.c)]
def sptD:List D->Option (List Qae)
 |[.sl _ _ rows]=>decR Qae.d rows
 |_=>none
theorem sptD_le: ∀ds x,sptD ds=some x->LeS ds (sptC x):=by
 intro ds x h;unfold sptD at h;split at h
 .exact⟨Qbf (Qa2 Qae.d_le _ _ h) (by simp[Qae.c]),trivial⟩
 .cases h
theorem spt_t(x:List Qae):sptD (List.take 1 (sptC x))=some x:=Qae.d_R x
theorem spt_l(x:List Qae):(1<=(sptC x).length)=True:=ZeX (Zal 1)
theorem spt_h(x:List Qae):hdD (List.take 1 (sptC x))= .sl false 2 (x.map Qae.c):=rfl
def Qana(l:List Qae)(x:Qab):Bool:=l.contains x.At
def remP(l:List Qae)(ts:List Qab):List Qab:=ts.filter fun x=> !Qana l x
theorem rem_len(l:List Qae)(ts:List Qab):(remP l ts).length<=ts.length:=Zde _ _
theorem Qano(l:List Qae){ts:List Qab}{k:Nat}{x:Qab}(h:ts[k]? =some x):remP l (ts.take (k+1))=remP l (ts.take k)++if Qana l x=false then [x] else []:=by
 rw[Zbu,h,ZcT,remP,remP,ZcI];congr 1;cases hg:Qana l x<;>simp[hg]
theorem Qans{A:Type}{p:A->Bool}: ∀(l:List A) (o i:Nat),Qaw p o l=((o+i:Nat):Int)-> ∀x∈l.take i,p x=false:=by
 intro l;induction l with
 |nil=>intro o i _ x hx;simp at hx
 |cons y r ih=>
  intro o i h x hx;cases i with
  |zero=>simp at hx
  |succ i=>
   simp only[Qaw] at h;split at h
   .omega
   .rename_i hy;rw[ZbI] at hx;rcases Zax.1 hx with rfl|hx
    .simpa using hy
    .exact ih (o+1) i (by rw[h];congr 1;omega) x hx
theorem rem_first{l:List Qae}{ts:List Qab}{i:Nat}{x:Qab}(h1:ts.find? (Qana l)=some x)(h2:Qaw (Qana l) 0 ts=(i:Int))(h3:ts[i]? =some x):remP l (ts.take (i+1))=ts.take i:=by
 have hw:Qana l x=true:=Zcp h1;rw[Qano l h3,Zai (by rw[hw];simp),ZaK,remP,ZcC];intro y hy;rw[Qans (p:=Qana l) ts 0 i (by rw[h2];simp) y hy];rfl
theorem pt_and{p q:Qae}:(p.X=q.X/\p.Y=q.Y)↔p=q:=by
 obtain⟨a,b⟩:=p;obtain⟨c,d⟩:=q;simp
def idxP_.fv(a:(List Qae)×Qae):Int:=(fun l p=>Qaw (fun y=>decide (p=y)) 0 l) (a.1) (a.2)
def idxP_.row:Row:=vKF (b2 (qS Qae.d_le Qae.c_n) (qR Qae.d_le)) rI (fun a=>True) idxP_.fv
def idxP_.q:=vKFq (R:=idxP_.row) rfl
theorem idxP_.ok:Qas Tryz.prog 246 idxP_.row:=by
 refine vwF tN Tryz.func246 rfl (by kernel_rfl) ?_;intro a hpre;simp only[Tryz.f246,Option.getD];simp(maxSteps:=9^9)(disch:=omega)only[ZZ,simprocAttr,rch,idxP_.fv,ORC,D.sc,D.scs,scL,decD];intro hn;refine Qay.old ⟨{k:Nat//k<=a.1.length/\Qaw (fun y=>decide (a.2=y)) k (a.1.drop k)=Qaw (fun y=>decide (a.2=y)) 0 a.1},fun k=>⟨[(8,.im (.int .i64 k.1)),(7,.im (.int .i64 a.1.length)),(4,.im (.int .i64 0)),(0,.im (.sl false 2 (a.1.map Qae.c))),(1,.im (.agg [.int .i64 a.2.X,.int .i64 a.2.Y])),(3,.ptr 0 0)],[(0,(true,.cells 94 [.im (.int .i64 a.2.X),.im (.int .i64 a.2.Y)]))],1⟩,fun k=>a.1.length - k.1,fun k=>⟨by simp[Qad.good,belT,belH,Qam,AV.bel,belL],Zal _⟩,⟨⟨0,by simp⟩,by simp(maxSteps:=9^9)(disch:=omega)only[ZZ,simprocAttr,rch,idxP_.fv,ORC,D.sc,D.scs,scL,decD,sub]⟩,fun k=> ?_⟩;obtain⟨k,hk1,hk2⟩:=k;simp(maxSteps:=9^9)(disch:=omega)only[ZZ,simprocAttr,rch,idxP_.fv,ORC,D.sc,D.scs,scL,decD,sub,Qal];refine⟨fun hk=>⟨hk,fun x hx=> ?_⟩,fun hk=> ?_⟩
 .rw[Qd3 hx,Qaw] at hk2;refine⟨fun h=> ?_,fun h=>Qb6 hk hn ⟨by omega,by rw[<-hk2,Zai (by rw[Zan,<-pt_and];simpa using h)]⟩⟩;rw[Zak (by rw[Zan,<-pt_and];simpa using h)] at hk2;exact hk2
 .rw[Zaq (by omega),Qaw] at hk2;exact hk2
def contP_.fv(a:(List Qae)×Qae):Bool:=(fun l p=>l.contains p) (a.1) (a.2)
def contP_.row:Row:=vKF (b2 (qS Qae.d_le Qae.c_n) (qR Qae.d_le)) rB (fun a=>True) contP_.fv
def contP_.q:=vKFq (R:=contP_.row) rfl
theorem contP_.ok:Qas Tryz.prog 240 contP_.row:=by
 refine vwF (tC idxP_.ok tN) Tryz.func240 rfl (by kernel_rfl) ?_;intro a hpre;simp only[Tryz.f240,Option.getD];simp(maxSteps:=9^9)(disch:=omega)only[ZZ,simprocAttr,rch,contP_.fv,idxP_.q,idxP_.fv,ORC,D.sc,D.scs,scL,decD];rw[Zco,Zan,Zbr];rcases Qyg (fun y=>decide (a.2=y)) a.1 0 with ⟨h,_⟩|⟨h1,h2⟩
 .rw[h,Zeb];constructor
  .rintro⟨x,hx,he⟩
   have:a.2=x:=by simpa using he
   rw[this];exact hx
  .exact fun hx=>⟨_,hx,by simp⟩
 .rw[h2,h1];simp
def wo1.fv(a:Qab×(List Qae)):Bool:=(fun x l=>Qana l x) (a.1) (a.2)
def wo1.row:Row:=vKF (b2 (qR Qab.d_le) (qP 1 sptD_le)) rB (fun a=>True) wo1.fv
def wo1.q:=vKFq (R:=wo1.row) rfl
theorem wo1.ok:Qas Tryz.prog 239 wo1.row:=by
 refine vwF (tC contP_.ok tN) Tryz.func239 rfl (by kernel_rfl) ?_;intro a hpre;simp only[Tryz.f239,Option.getD];simp(maxSteps:=9^9)(disch:=omega)only[ZZ,simprocAttr,rch,wo1.fv,contP_.q,contP_.fv,ORC,D.sc,D.scs,scL,decD];simp(maxSteps:=9^9)(disch:=omega)only[ZZ,simprocAttr,rch,wo1.fv,contP_.q,contP_.fv,ORC,D.sc,D.scs,scL,decD,spt_t,spt_l,spt_h]
 try rfl
def IdxW.ar:List PK->Option ((List Qab)×((List Qae)))
 |[.val (.sl _ _ x0),.val (.fn 239 [] [.ref x1_0])]=>(decR Qab.d x0).bind fun y0=>(sptD (x1_0.take 1)).bind fun y1_0=>some (y0,y1_0)
 |_=>none
def IdxW.ae(a:(List Qab)×((List Qae))):List PK:=[.val (.sl false 3 (a.1.map Qab.c)),.val (.fn 239 [] [.ref (sptC a.2)])]
theorem IdxW.le: ∀ps a,IdxW.ar ps=some a->LeKL ps (IdxW.ae a):=by
 intro ps a h;unfold IdxW.ar at h;split at h
 .simp only[Zaw,Zab] at h;obtain⟨y0,h0,y1_0,h1_0,rfl⟩:=h;exact⟨Qbf (Qa2 Qab.d_le _ _ h0) (by simp only[ZaM];rintro r ⟨y,_,rfl⟩;rfl),Qos ⟨Qil (LeP.trans_take (sptD_le _ _ h1_0)),trivial⟩,trivial⟩
 .cases h
def IdxW.fv(a:(List Qab)×((List Qae))):Int:=(fun l t=>Qaw (Qana t) 0 l) (a.1) (a.2)
def IdxW.row:Row:=Qfi IdxW.ar (fun a=>True) (fun a=>(D.int .i64) (IdxW.fv a))
def IdxW.q:=vqF IdxW.row rfl
theorem IdxW.ok:Qas Tryz.prog 124 IdxW.row:=by
 refine Qbn Qaq (tC wo1.ok tN) Tryz.func124 rfl (by kernel_rfl) (by kernel_rfl) (ar:=IdxW.ar) (ae:=IdxW.ae) IdxW.le (n:=2) (fun _=>rfl) (by decide) (rc:=(vInt)) (re:=(D.int .i64)) (Qa3) (f:=IdxW.fv) ?_;intro a hpre;simp only[Tryz.f124,Option.getD];simp(maxSteps:=9^9)(disch:=omega)only[ZZ,simprocAttr,rch,IdxW.ae,IdxW.fv,wo1.q,wo1.fv,ORC,D.sc,D.scs,scL,decD];intro hn;refine Qay.old ⟨{k:Nat//k<=a.1.length/\Qaw (Qana a.2) k (a.1.drop k)=Qaw (Qana a.2) 0 a.1},fun k=>⟨[(8,.im (.int .i64 k.1)),(7,.im (.int .i64 a.1.length)),(6,.im (.sl false 3 (a.1.map Qab.c))),(4,.im (.int .i64 0)),(0,.im (.sl false 3 (a.1.map Qab.c))),(1,.im (.fn 239 [] [.ref (sptC a.2)]))],[],0⟩,fun k=>a.1.length - k.1,fun k=>⟨by simp[Qad.good,belT,belH,Qam,AV.bel,belL],Zal _⟩,⟨⟨0,by simp⟩,by simp(maxSteps:=9^9)(disch:=omega)only[ZZ,simprocAttr,rch,IdxW.ae,IdxW.fv,wo1.q,wo1.fv,ORC,D.sc,D.scs,scL,decD,sub]⟩,fun k=> ?_⟩;obtain⟨k,hk1,hk2⟩:=k;simp(maxSteps:=9^9)(disch:=omega)only[ZZ,simprocAttr,rch,IdxW.ae,IdxW.fv,wo1.q,wo1.fv,ORC,D.sc,D.scs,scL,decD,sub,Qal,spt_t,spt_l,spt_h];refine⟨fun hk=>⟨hk,fun x hx=> ?_⟩,fun hk=> ?_⟩
 .rw[Qd3 hx,Qaw] at hk2;refine⟨fun h=> ?_,fun h=>Qb6 hk hn ⟨by omega,by rw[<-hk2,Zai (by simpa using h)]⟩⟩;rw[Zak (by simpa using h)] at hk2;exact hk2
 .rw[Zaq (by omega),Qaw] at hk2;exact hk2
def dlP.ca(a:List Qab×List Qae):List AV:=[.own 0,.im (.fn 239 [] [.ref (sptC a.2)])]
def dlP.H0(a:List Qab×List Qae):Qan:=[(0,(true,.arr 103 3 (a.1.map Qab.c)))]
def dlP.H1(a:List Qab×List Qae):Qan:=[(1,(true,.arr 103 3 ((remP a.2 a.1).map Qab.c)))]
def dlP.row:Row:=orow dlP.ca dlP.H0 1 (fun a=>a.1.length<=1000000) (fun j=>j==0) (fun _=> .own 1) dlP.H1 1000
def YaS:=J @IdxW.q<|J @IdxW.fv.eq_1<|J @wo1.q @wo1.fv.eq_1
theorem dlP.ok:Qas Tryz.prog 238 dlP.row:=by
 refine owN (tC IdxW.ok (tC wo1.ok tN)) Tryz.func238 rfl (by kernel_rfl) (exB:=fun j=>j==1) (R:=fun _ r=>r= .own 1) (fun _=>rfl)
  (fun a=>by simp[dlP.ca,dlP.H0,dlP.H1,belL,AV.bel,belH,Qam,Qc2,AObj.nms,nmsL,AV.nms,domB,hget]) (fun a p hp=> ?_) (fun a r h=>by subst h;exact LeV.refl _) ?_
 rotate_left
 intro a hpre;simp only[Tryz.f238,Option.getD,dlP.ca,dlP.H0,dlP.H1];simp(maxSteps:=9^9)(disch:=omega)only[ZZ,simprocAttr,rch,YaS,IdxW.ar,Qc7,ORB,dlP.ca,dlP.H0,dlP.H1];simp(maxSteps:=9^9)(disch:=omega)only[ZZ,simprocAttr,rch,YaS,IdxW.ar,Qc7,ORB,dlP.ca,dlP.H0,dlP.H1,spt_t,spt_l,spt_h];rcases Qep (Qana a.2) a.1 0 with ⟨e1,e2⟩|⟨i0,b0,e1,e2,e3⟩
 .rw[e2,Zak rfl];refine⟨[],[(1,some 0)],⟨[(4,.own 1)],[(1,(true,.arr 103 3 (a.1.map Qab.c)))],2⟩,?_,by simp[Qad.good,belT,belH,Qam,AV.bel,belL],by simp,?_⟩
  .simp only[subP];simp(maxSteps:=9^9)(disch:=omega)only[ZZ,simprocAttr,rch,YaS,IdxW.ar,Qc7,ORB,dlP.ca,dlP.H0,dlP.H1,Zah,Zag]
  .simp(maxSteps:=9^9)(disch:=omega)only[ZZ,simprocAttr,rch,YaS,IdxW.ar,Qc7,ORB,dlP.ca,dlP.H0,dlP.H1]
   have:remP a.2 a.1=a.1:=by
    rw[remP,ZcC];intro b hb
    have:=Zcu.1 e1 b hb
    simpa using this
   rw[this]
 .rw[ZbO] at e2;rw[e2,Zai (by omega)];have hil:=(Zaj.1 e3).1;rw[Qak (by omega) (by omega)];obtain⟨l,hl⟩: ∃l,l=a.1:=⟨_,rfl⟩;obtain⟨t,ht⟩: ∃t,t=a.2:=⟨_,rfl⟩;simp only[<-hl,<-ht] at e1 e2 e3 hil hpre⊢;refine Qay.old ⟨{j:Nat//j<=l.length},fun j=>⟨[(6,.im (.int .i64 j.1)),(5,.im (.int .i64 (remP t (l.take j.1)).length)),(0,.own 0),(1,.im (.fn 239 [] [.ref (sptC t)]))],[(0,(true,.arr 103 3 ((remP t (l.take j.1)++l.drop (remP t (l.take j.1)).length).map Qab.c)))],2⟩,fun j=>l.length - j.1,fun j=>⟨by simp[Qad.good,belT,belH,Qam,AV.bel,belL],by simp⟩,⟨⟨i0+1,by omega⟩,?_⟩,fun j=> ?_⟩
  .have h1:=rem_first e1 e2 e3;simp(maxSteps:=9^9)(disch:=omega)only[ZZ,simprocAttr,rch,YaS,IdxW.ar,Qc7,ORB,dlP.ca,dlP.H0,dlP.H1,sub,h1,Zav];rw[show min i0 l.length=i0 by omega,Zbj];exact⟨⟨by omega,rfl⟩,rfl⟩
  obtain⟨j,hj⟩:=j;obtain⟨kp,hkp⟩: ∃kp,kp=remP t (l.take j):=⟨_,rfl⟩;have hkl:kp.length<=j:=by
   have:=rem_len t (l.take j)
   rw[Zav] at this;rw[hkp];omega
  have hrl:(kp++l.drop kp.length).length=l.length:=by simp;omega
  simp only[<-hkp];simp(maxSteps:=9^9)(disch:=omega)only[ZZ,simprocAttr,rch,YaS,IdxW.ar,Qc7,ORB,dlP.ca,dlP.H0,dlP.H1,sub,Qal,hrl,spt_t,spt_l,spt_h];intro _;refine⟨fun hj2=>⟨hj2,hj2,fun b hb=> ?_⟩,fun hj2=> ?_⟩
  .have hlb:l[j]? =some b:=by
    rw[ZaI hkl,Zbs,show kp.length+(j - kp.length)=j by omega] at hb;exact hb
   have hsu:=Qano t hlb;rw[<-hkp] at hsu;refine⟨fun hw=>⟨by omega,by omega,fun c _=>⟨⟨j+1,by omega⟩,by simp only;omega,?_⟩⟩,fun hw=>⟨⟨j+1,by omega⟩,by simp only;omega,?_⟩⟩
   .rw[Zak hw] at hsu;simp only[hsu,ZaC,ZaF,ZbF];refine⟨⟨by rw[Qak (by omega) (by omega)];omega,by rw[Qak (by omega) (by omega)];omega⟩,?_⟩;have h1:(kp++l.drop kp.length).set kp.length b=kp++[b]++l.drop (kp.length+1):=by
     obtain⟨c,hc⟩: ∃c,l[kp.length]? =some c:=⟨_,Zac (by omega)⟩;rw[Qd3 hc,Zdf _ _ (Zal _),Zca,ZcS,Zbt];rfl
    rw[<-h1,ZcP];rfl
   .rw[Zai hw,ZaK] at hsu;simp only[hsu];exact⟨⟨by rw[Qak (by omega) (by omega)];omega,trivial⟩,trivial⟩
  .refine⟨by omega,false,?_⟩;have hjl:j=l.length:=by omega
   subst hjl;rw[Zbx] at hkp;simp(maxSteps:=9^9)(disch:=omega)only[ZZ,simprocAttr,rch,YaS,IdxW.ar,Qc7,ORB,dlP.ca,dlP.H0,dlP.H1,hrl];have hA:List.take kp.length ((kp++l.drop kp.length).map Qab.c)=kp.map Qab.c:=by
    rw[<-Zfa,ZdI]
   rw[hA];refine⟨by simp only[ZaC,Zbv];omega,true,?_⟩;simp(maxSteps:=9^9)(disch:=omega)only[ZZ,simprocAttr,rch,YaS,IdxW.ar,Qc7,ORB,dlP.ca,dlP.H0,dlP.H1,hrl];refine⟨[],[(1,some 2)],⟨[(4,.own 1)],[(1,(true,.arr 103 3 (kp.map Qab.c)))],2⟩,?_,by simp[Qad.good,belT,belH,Qam,AV.bel,belL],by simp,?_⟩
   .simp only[subP];simp(maxSteps:=9^9)(disch:=omega)only[ZZ,simprocAttr,rch,YaS,IdxW.ar,Qc7,ORB,dlP.ca,dlP.H0,dlP.H1,Zah,Zag];rw[show ((kp.length:Int) - 0).toNat=(kp.map Qab.c).length by simp,Zbt,ZdI]
   .simp(maxSteps:=9^9)(disch:=omega)only[ZZ,simprocAttr,rch,YaS,IdxW.ar,Qc7,ORB,dlP.ca,dlP.H0,dlP.H1,hkp]
 simp[dlP.H1] at hp;subst hp;exact .inr ⟨by omega,by omega,rfl,rfl⟩
theorem dlP.H0_dom(a:List Qab×List Qae)(j:Nat):domB (dlP.H0 a) j=true↔j<1:=by
 simp only[domB,dlP.H0,hget];by_cases h0:j=0
 .subst h0;simp
 .have e0:(0==j)=false:=by simp;omega
  simp[e0];omega
def woA.fv(a:Asm×(List Qae)):Asm:=(fun a l=>⟨remP l a.Tiles⟩) (a.1) (a.2)
def woA.row:Row:=vKF (b2 (qR Asm.d_le) (qS Qae.d_le Qae.c_n)) (rA Asm.d_le) (fun a=>a.1.Tiles.length<=1000000) woA.fv
def woA.q:=vKFq (R:=woA.row) rfl
theorem woA.ok:Qas Tryz.prog 233 woA.row:=by
 refine vwF (tC clonC.ok (tC dlP.ok tN)) Tryz.func233 rfl (by kernel_rfl) ?_;intro a hpre;simp only[Tryz.f233,Option.getD];simp(maxSteps:=9^9)(disch:=omega)only[ZZ,simprocAttr,rch,woA.fv,ORC,D.sc,D.scs,scL,decD];refine orow.os a.1.Tiles [] hpre (fun j=>by simp[domB,hget]) rfl rfl ?_ ?_
 .simp(maxSteps:=9^9)(disch:=omega)only[ZZ,simprocAttr,rch,woA.fv,ORC,D.sc,D.scs,scL,decD,clonC.ca,Qer]
 simp(maxSteps:=9^9)(disch:=omega)only[ZZ,simprocAttr,rch,woA.fv,ORC,D.sc,D.scs,scL,decD,clonC.H1,sub];left;refine orow.os (a.1.Tiles,a.2) [3] hpre (fun j=>dlP.H0_dom _ j) rfl rfl ?_ ?_
 .simp(maxSteps:=9^9)(disch:=omega)only[ZZ,simprocAttr,rch,woA.fv,ORC,D.sc,D.scs,scL,decD,dlP.ca,dlP.H0,sptC,Zbg,Zbi]
 simp(maxSteps:=9^9)(disch:=omega)only[ZZ,simprocAttr,rch,woA.fv,ORC,D.sc,D.scs,scL,decD,dlP.H1,sub]
def Qam9(l:List Opt)(ins:List Int):Nat->List Int
 |0=>[]
 |i+1=>Qam9 l ins i++[ouM l ins i ((l[i]?.map Opt.At).getD ⟨0,0⟩) 4]
theorem Qam3(l:List Opt)(ins:List Int): ∀n,(Qam9 l ins n).length=n
 |0=>rfl
 |n+1=>by simp only[Qam9,ZaC,Qam3 l ins n,ZdX]
theorem Qani(l:List Opt)(ins:List Int): ∀(n i:Nat),i<n->(Qam9 l ins n)[i]? =some (ouM l ins i ((l[i]?.map Opt.At).getD ⟨0,0⟩) 4)
 |n+1,i,h=>by
  simp only[Qam9];by_cases c:i=n
  .subst c;rw[ZaI (by rw[Qam3];omega),Qam3];simp
  .rw[ZaG (by rw[Qam3];omega)];exact Qani l ins n i (by omega)
def outS_.fv(a:(List Opt)×(List Int)):List Int:=(fun l ins=>Qam9 l ins l.length) (a.1) (a.2)
def outS_.row:Row:=vK (b2 (qS Opt.d_le Opt.c_n) (qS Qb3 Qant)) (rS Qb3 Qant) (fun a=>(a.1.map Opt.At).Nodup/\(∀o∈a.1,Qdy o.At)/\a.2.length=a.1.length/\a.1.length<=500) outS_.fv
def outS_.q:=vKq (R:=outS_.row) rfl
def YaT:=J @outS_.fv.eq_1<|J @l01Step.q<|J @l01Step.fv.eq_1<|J @Opposite_.q @Opposite_.fv.eq_1
theorem outS_.ok:Qas Tryz.prog 70 outS_.row:=by
 refine vw (tC l01Step.ok (tC Opposite_.ok tN)) Tryz.func70 rfl (by kernel_rfl) ?_;intro a hpre;simp only[Tryz.f70,Option.getD];simp(maxSteps:=9^9)(disch:=omega)only[ZZ,simprocAttr,rch,YaT];obtain⟨l,ins⟩:=a;obtain⟨h1,h2,h3,h4⟩:=hpre;simp only at h1 h2 h3 h4⊢;refine Qay.ren ⟨{i:Nat//i<=l.length},fun i=>⟨[(6,.im (.int .i64 i.1)),(5,.own 2),(0,.im (.sl false 3 (l.map Opt.c))),(1,.im (.sl false 1 (ins.map intC)))],[(2,(true,.arr 2 1 ((Qam9 l ins i.1).map intC)))],3⟩,fun i=>l.length - i.1,fun i=>⟨by simp[Qad.good,belT,belH,Qam,AV.bel,belL],by simp⟩,⟨⟨0,ZaU _⟩,[(2,some 1)],?_⟩,fun i=> ?_⟩
 .simp only[subP];simp(maxSteps:=9^9)(disch:=omega)only[ZZ,simprocAttr,rch,YaT,Zah,Zag,Qam9,ZaV]
  try simp
 obtain⟨i,hi⟩:=i;simp(maxSteps:=9^9)(disch:=omega)only[ZZ,simprocAttr,rch,YaT,sub,Qal];intro _;refine⟨fun hi2=> ?_,fun hi2=> ?_⟩;rotate_left
 .obtain rfl:i=l.length:=by omega
  rfl
 obtain⟨o,ho⟩: ∃o,l[i]? =some o:=⟨_,Zac hi2⟩;have hos:=h2 o (Zae ho);refine Qay.old ⟨{d:Nat//d<=4},fun d=>⟨[(8,.im (.int .i64 d.1)),(7,.im (.int .i64 (ouM l ins i o.At d.1))),(6,.im (.int .i64 i)),(5,.own 2),(0,.im (.sl false 3 (l.map Opt.c))),(1,.im (.sl false 1 (ins.map intC)))],[(2,(true,.arr 2 1 ((Qam9 l ins i).map intC)))],3⟩,fun d=>4 - d.1,fun d=>⟨by simp[Qad.good,belT,belH,Qam,AV.bel,belL],by simp⟩,⟨⟨0,ZaU _⟩,by simp(maxSteps:=9^9)(disch:=omega)only[ZZ,simprocAttr,rch,YaT,sub,ouM]⟩,fun d=> ?_⟩;obtain⟨d,hd⟩:=d;simp(maxSteps:=9^9)(disch:=omega)only[ZZ,simprocAttr,rch,YaT,sub,Qal];refine⟨fun hd4=> ?_,fun hd4=> ?_⟩;rotate_left
 .obtain rfl:d=4:=by omega
  refine⟨by simp[OneR,allD,D.one],by rw[Qam3];omega,⟨i+1,by omega⟩,[(2,some 4)],by simp only;omega,?_⟩;simp only[subP];simp(maxSteps:=9^9)(disch:=omega)only[ZZ,simprocAttr,rch,YaT,Zah,Zag];refine⟨by rw[Qak (by omega) (by omega)];omega,?_⟩;simp[Qam9,ho,intC]
 refine⟨hi2,fun x hx=> ?_⟩;obtain rfl:o=x:=Zaa (ho.symm.trans hx);refine⟨⟨hos,by omega⟩,?_⟩;have hmb:=ouM_b l ins i o.At d;have hd5:d<4:=by omega
 have hp8:=Qaew hd5;refine Qay.old ⟨{k:Nat//i+1<=k/\k<=l.length},fun k=>⟨[(10,.im (.int .i64 k.1)),(9,.ptr 3 0),(8,.im (.int .i64 d)),(7,.im (.int .i64 (ouM l ins i o.At d+bitN (ouBn l ins i o.At d k.1) d))),(6,.im (.int .i64 i)),(5,.own 2),(0,.im (.sl false 3 (l.map Opt.c))),(1,.im (.sl false 1 (ins.map intC)))],[(3,(true,.cells 94 ((Qae.c (Qf7 o.At d)).map .im))),(2,(true,.arr 2 1 ((Qam9 l ins i).map intC)))],4⟩,fun k=>l.length - k.1,fun k=>⟨by simp[Qad.good,belT,belH,Qam,AV.bel,belL,Qae.c],by simp⟩,⟨⟨i+1,by omega⟩,?_⟩,fun k=> ?_⟩
 .simp(maxSteps:=9^9)(disch:=omega)only[ZZ,simprocAttr,rch,YaT,sub,ouBn_low (Zal _),bitN];exact⟨by rw[Qak (by omega) (by omega)];omega,by simp⟩
 obtain⟨k,hk1,hk2⟩:=k;simp(maxSteps:=9^9)(disch:=omega)only[ZZ,simprocAttr,rch,YaT,sub,Qal];intro _;have hkw:k<l.length->IntKind.i64.wrap ((k:Int)+1)=((k+1:Nat):Int):=fun h=>by rw[Qak (by omega) (by omega)];omega
 have hbb:=bitN_b (ouBn l ins i o.At d k) d;have hno:ouC l ins i o.At d k≠true->ouM l ins i o.At d+bitN (ouBn l ins i o.At d k) d=ouM l ins i o.At d+bitN (ouBn l ins i o.At d (k+1)) d:=fun h=>by
  rw[Qanm h1,Zai h,Zfe]
 refine⟨fun hk=>⟨hk,fun y hy=>⟨fun c1=>⟨by omega,fun v hv=>⟨by omega,by omega,fun c2=>⟨⟨k+1,by omega⟩,by simp only;omega,hkw hk,?_⟩,fun c2=>⟨⟨k+1,by omega⟩,by simp only;omega,hkw hk,?_⟩⟩⟩,fun c1=>⟨⟨k+1,by omega⟩,by simp only;omega,hkw hk,?_⟩⟩⟩,fun hk=>⟨⟨d+1,by omega⟩,by simp only;omega,by rw[Qak (by omega) (by omega)];simp only;omega,?_⟩⟩
 .rw[Qanl] at c1;have hc:ouC l ins i o.At d k=true:=Qam4.2 ⟨by omega,by rw[hy,ZaT,c1],by rw[hv,Zad];simp only[hasI,Zan];exact c2⟩;simp only;rw[Qanf hd5,Qanm h1,Zak hc,Qak (by omega) (by omega),Int.add_assoc]
 .refine hno fun hc=>c2 ?_
  have:=(Qam4.1 hc).2.2
  rw[hv,Zad] at this;simp only[hasI,Zan] at this;exact this
 .refine hno fun hc=>c1 ?_
  have:=(Qam4.1 hc).2.1
  rw[hy,ZaT] at this;rw[Qanl];exact Zaa this
 .obtain rfl:k=l.length:=by omega
  rfl
theorem keep0(p:Qae)(m:Int)(x:Qab):(!(x.At.X==p.X && x.At.Y==p.Y))=Qam5 p m 0 x:=by
 simp only[Qam5];rw[Zco];have h:=Qanl (p:=x.At) (q:=p);simp only[ZbY,Zan,ne_eq];rw[<-h];simp[Zdd]
def witS_.fv(a:Asm×Qae×Int):Asm:=(witA) (a.1) (a.2.1) (a.2.2)
def witS_.row:Row:=vK (b3 (qP 1 Asm.d_le) (qR Qae.d_le) qI) (rA Asm.d_le) (fun a=>Qdy a.2.1/\0<=a.2.2/\a.2.2<=1000000/\a.1.Tiles.length<=1000000) witS_.fv
def witS_.q:=vKq (R:=witS_.row) rfl
def YaU:=J @witS_.fv.eq_1 (J @l01Step.q @l01Step.fv.eq_1)
theorem witS_.ok:Qas Tryz.prog 72 witS_.row:=by
 refine vw (tC l01Step.ok tN) Tryz.func72 rfl (by kernel_rfl) ?_;intro a hpre;simp only[Tryz.f72,Option.getD];simp(maxSteps:=9^9)(disch:=omega)only[ZZ,simprocAttr,rch,YaU];obtain⟨a,p,m⟩:=a;obtain⟨h1,h2,h3,h4⟩:=hpre;simp only at h1 h2 h3 h4⊢;refine Qay.ren ⟨{i:Nat//i<=a.Tiles.length},fun i=>⟨[(8,.im (.int .i64 i.1)),(7,.ptr 3 0),(6,.ptr 2 0),(4,.ptr 1 0),(0,.ptr 0 0),(2,.im (.int .i64 m))],[(4,(true,.arr 103 3 (((a.Tiles.take i.1).filter (Qam5 p m 4)).map Qab.c))),(3,(true,.cells 46 [.own 4])),(2,(true,.cells 46 [.im (.sl true 0 [])])),(1,(true,.cells 94 [.im (.int .i64 p.X),.im (.int .i64 p.Y)])),(0,(false,.view (Asm.c a)))],5⟩,fun i=>a.Tiles.length - i.1,fun i=>⟨by simp[Qad.good,belT,belH,Qam,AV.bel,belL],by simp⟩,⟨⟨0,ZaU _⟩,[(4,none)],?_⟩,fun i=> ?_⟩
 .simp only[subP];simp(maxSteps:=9^9)(disch:=omega)only[ZZ,simprocAttr,rch,YaU,Zah,Zag,Zbq,Zdz,ZaV]
  try simp
 obtain⟨i,hi⟩:=i;simp(maxSteps:=9^9)(disch:=omega)only[ZZ,simprocAttr,rch,YaU,sub,Qal];intro _;refine⟨fun hi2=>⟨hi2,fun x hx=> ?_⟩,fun hi2=> ?_⟩;rotate_left
 .rw[Zap (by omega)];rfl
 refine Qay.old ⟨{d:Nat//d<=4},fun d=>⟨[(10,.im (.int .i64 d.1)),(9,.im (.bool (Qam5 p m d.1 x))),(8,.im (.int .i64 i)),(7,.ptr 3 0),(6,.ptr 2 0),(4,.ptr 1 0),(0,.ptr 0 0),(2,.im (.int .i64 m))],[(4,(true,.arr 103 3 (((a.Tiles.take i).filter (Qam5 p m 4)).map Qab.c))),(3,(true,.cells 46 [.own 4])),(2,(true,.cells 46 [.im (.sl true 0 [])])),(1,(true,.cells 94 [.im (.int .i64 p.X),.im (.int .i64 p.Y)])),(0,(false,.view (Asm.c a)))],5⟩,fun d=>4 - d.1,fun d=>⟨by simp[Qad.good,belT,belH,Qam,AV.bel,belL],by simp⟩,⟨⟨0,ZaU _⟩,?_⟩,fun d=> ?_⟩
 .simp(maxSteps:=9^9)(disch:=omega)only[ZZ,simprocAttr,rch,YaU,sub,keep0 p m x]
  try simp
 obtain⟨d,hd⟩:=d;simp(maxSteps:=9^9)(disch:=omega)only[ZZ,simprocAttr,rch,YaU,sub,Qal];have hdw:IntKind.i64.wrap ((d:Int)+1)=((d+1:Nat):Int):=by rw[Qak (by omega) (by omega)];omega
 simp only[<-has_eq];refine⟨fun hd4=>⟨fun c1=>⟨hi2,fun y hy=>⟨⟨h1,by omega⟩,fun c2=>⟨⟨d+1,by omega⟩,by simp only;omega,hdw,?_⟩,fun c2=>⟨⟨d+1,by omega⟩,by simp only;omega,hdw,?_⟩⟩⟩,fun c1=>⟨⟨d+1,by omega⟩,by simp only;omega,hdw,?_⟩⟩,fun hd4=> ?_⟩
 .obtain rfl:x=y:=Zaa (hx.symm.trans hy);rw[Qanl] at c2;simp[Qam5,c1,c2]
 .obtain rfl:x=y:=Zaa (hx.symm.trans hy);rw[Qanl] at c2;simp[Qam5,c1,c2]
 .rw[ZaO] at c1;simp[Qam5,c1]
 .obtain rfl:d=4:=by omega
  have hfl:((a.Tiles.take i).filter (Qam5 p m 4)).length<=a.Tiles.length:=Zba (Zde _ _) (by simp;omega);have hiw:IntKind.i64.wrap ((i:Int)+1)=((i+1:Nat):Int):=by rw[Qak (by omega) (by omega)];omega
  refine⟨fun c1=>⟨hi2,fun y hy=>⟨by simp[OneR,allD,D.one],by omega,⟨i+1,by omega⟩,[(4,some 6)],by simp only;omega,?_⟩⟩,fun c1=>⟨⟨i+1,by omega⟩,[(4,some 4)],by simp only;omega,?_⟩⟩
  .obtain rfl:x=y:=Zaa (hx.symm.trans hy);simp only[subP];simp(maxSteps:=9^9)(disch:=omega)only[ZZ,simprocAttr,rch,YaU,Zah,Zag];refine⟨hiw,?_⟩;rw[Qwe hx,ZcI,Zdp c1];simp[Qab.c]
  .simp only[subP];simp(maxSteps:=9^9)(disch:=omega)only[ZZ,simprocAttr,rch,YaU,Zah,Zag];refine⟨hiw,?_⟩;rw[Qwe hx,ZcI,Zcj c1];simp
theorem play_of{s:Qar}: ∀(l:List Opt) (b:Asm) (i:Nat),Qaec s b l->Qacg s b l i=(Qac9 b l,0,0)
 |[],_,_,_=>rfl
 |o::r,b,i,h=>by
  have h0:=h 0 o rfl;simp only[Zbq,Qac9] at h0;simp only[Qacg];rw[Zai (by rw[h0.1];simp),Zai (by omega),play_of r _ (i+1) fun k o' hk=>h (k+1) o' hk];rfl
def fltK:Option (Int×Opt)->Int×Qae
 |none=>(0,⟨0,0⟩)
 |some (k,o)=>(k,o.At)
theorem Qanb{A:Type}{g:Nat->Option A}{n i:Nat}{r:A}(hi:i<n)(h:fsF g (n - i) i=fsF g n 0)(hr:g i=some r):fsF g n 0=some r:=by
 rw[<-h,show n - i=(n - i - 1)+1 by omega];simp only[fsF,hr,ZeW]
theorem Qanr{A:Type}{g:Nat->Option A}{n i:Nat}(hi:i<n)(h:fsF g (n - i) i=fsF g n 0)(hr:g i=none):fsF g (n - (i+1)) (i+1)=fsF g n 0:=by
 rw[<-h,show n - i=(n - (i+1))+1 by omega];simp only[fsF,hr,Zdw]
theorem fsF_end{A:Type}{g:Nat->Option A}{n:Nat}(h:fsF g (n - n) n=fsF g n 0):fsF g n 0=none:=by
 rw[<-h,Zca];rfl
theorem putA_le(b:Asm)(p:Qae)(t:Int):(putA b p t).Tiles.length<=b.Tiles.length+1:=by
 rw[Qi8];exact ZeP (by rw[(Qn1 ⟨p,t⟩ b.Tiles).length_eq,ZaF])
theorem Qanh{s:Qar}: ∀(l:List Opt) (b:Asm),b.Tiles.length<=500->Qaec s b l->(Qac9 b l).Tiles.length<=500
 |[],_,h,_=>h
 |o::r,b,h,hp=>by
  have h0:=(hp 0 o rfl).2;simp only[Zbq,Qac9] at h0;have h1:=putA_le b o.At o.Tile;exact Qanh r _ (by omega) fun k o' hk=>hp (k+1) o' hk
def fltS_.fv(a:Qar×(List Opt)):Int×Qae:=(fun s l=>fltK (fltS s l)) (a.1) (a.2)
def fltS_.row:Row:=vK (b2 (qP 4 Qar.d_le) (qS Opt.d_le Opt.c_n)) (r2 rI (rA Qae.d_le)) (fun a=>seqP a.1 a.2/\a.1.Seed.Tiles.length<=500) fltS_.fv
def fltS_.q:=vKq (R:=fltS_.row) rfl
def YaV:=J @fltS_.fv.eq_1<|J @l10Inputs.q<|J @l10Inputs.fv.eq_1<|J @outS_.q<|J @outS_.fv.eq_1<|J @l08Play.q<|J @l08Play.fv.eq_1<|J @witS_.q<|J @witS_.fv.eq_1<|J @atQ_.q<|J @atQ_.fv.eq_1<|J @opsS_.q @opsS_.fv.eq_1
theorem fltS_.ok:Qas Tryz.prog 43 fltS_.row:=by
 refine vw (tC l10Inputs.ok (tC outS_.ok (tC l08Play.ok (tC witS_.ok (tC atQ_.ok (tC opsS_.ok tN)))))) Tryz.func43 rfl (by kernel_rfl) ?_;intro a hpre;simp only[Tryz.f43,Option.getD];simp(maxSteps:=9^9)(disch:=omega)only[ZZ,simprocAttr,rch,YaV];obtain⟨s,l⟩:=a;simp only at hpre⊢;obtain⟨⟨q1,q2,q3,q4,q5,q6⟩,q7⟩:=hpre;have hnd:=Qaf6 q5;have he5:=Qanh l s.Seed q7 q5;have hsm: ∀o∈l,Qdy o.At:=fun o ho=>by
  obtain⟨k,hk⟩:=Zbz.1 ho;exact (Qadk (q5 k o hk).1).2.1
 have hpl:Qacg s s.Seed l 0=(Qac9 s.Seed l,0,0):=play_of l s.Seed 0 q5;refine⟨⟨q1,q2,q3,q4,q5,q6⟩,⟨hnd,hsm,Qadv ..,q6⟩,⟨q1,q2,q3,q4⟩,?_⟩;rw[hpl];simp only;have hend:Qn7 s.Set (Qac9 s.Seed l):=by
  have:=Qafb q3 q2 q5 l.length (Zal _)
  rwa [Zbx] at this
 obtain⟨e,he⟩: ∃e,e=Qac9 s.Seed l:=⟨_,rfl⟩;obtain⟨ins,hins⟩: ∃ins,ins=insS s s.Seed l:=⟨_,rfl⟩;obtain⟨sms,hsms⟩: ∃sms,sms=smsS s s.Seed l:=⟨_,rfl⟩;rw[<-he] at hend he5;have hsl:sms.length=l.length:=by rw[hsms,Qael]
 have hgf: ∀i o,l[i]? =some o->gfS s l i=fltO s sms o i (decide ((atU s (atA (witA e o.At (ouM l ins i o.At 4))) o.At s.Set.Tiles.length).length≠1)):=fun i o ho=>by
  simp only[gfS,ho,ZbD,<-he,<-hins,<-hsms]
 have hfl:fltS s l=(fsF (gfS s l) l.length 0).or (endO (Qaj8 s e)):=by rw[he];rfl
 rw[hfl];simp only[<-hins,<-hsms,<-he];refine Qay.old ⟨{i:Nat//i<=l.length/\fsF (gfS s l) (l.length - i) i=fsF (gfS s l) l.length 0},fun i=>⟨[(12,.im (.int .i64 i.1)),(9,.ptr 2 0),(8,.im (.sl false 1 ((Qam9 l ins l.length).map intC))),(7,.im (.sl false 1 (sms.map intC))),(4,.im (.int .i64 0)),(5,.ptr 1 0),(0,.ptr 0 0),(1,.im (.sl false 3 (l.map Opt.c)))],[(2,(true,.cells 46 [.im (.sl false 3 (e.Tiles.map Qab.c))])),(1,(true,.cells 94 [.im (.int .i64 0),.im (.int .i64 0)])),(0,(false,.view (Qar.c s)))],3⟩,fun i=>l.length - i.1,fun i=>⟨by simp[Qad.good,belT,belH,Qam,AV.bel,belL],by simp⟩,⟨⟨0,ZaU _,rfl⟩,by simp(maxSteps:=9^9)(disch:=omega)only[ZZ,simprocAttr,rch,YaV,sub]⟩,fun i=> ?_⟩;obtain⟨i,hi,hfi⟩:=i;simp(maxSteps:=9^9)(disch:=omega)only[ZZ,simprocAttr,rch,YaV,sub,Qal];intro _;refine⟨fun hi2=>⟨by omega,fun v hv=>⟨fun c1=>⟨hi2,fun o ho=> ?_⟩,fun c1=>⟨hi2,fun o ho=>⟨by rw[Qam3];exact hi2,fun m hm=> ?_⟩⟩⟩⟩,fun hi2=> ?_⟩
 .have hg:gfS s l i=some (1,o):=by
   rw[hgf i o ho];simp only[fltO,hv,Zad];rw[Zak c1]
  rw[Qanb hi2 hfi hg];rfl
 .rw[Qani l ins l.length i hi2,ho] at hm;obtain rfl:=Zaa hm;simp only[ZaT,Zad];have hmb:=ouM_b l ins i o.At 4;have hos:=hsm o (Zae ho);have hwi:=wit_in hend o.At (ouM l ins i o.At 4);refine⟨⟨hos,hmb.1,by omega,by omega⟩,hi2,fun o2 ho2=> ?_⟩;obtain rfl:o=o2:=Zaa (ho.symm.trans ho2);refine⟨⟨q1,hwi,hos,by omega⟩,fun _=>⟨fun c2=>⟨hi2,fun o3 ho3=> ?_⟩,fun c2=>⟨⟨i+1,by omega,?_⟩,by simp only;omega,by rw[Qak (by omega) (by omega)];simp only;omega⟩⟩⟩
  .obtain rfl:o=o3:=Zaa (ho.symm.trans ho3);rw[atU_S _ _ e] at c2;have hg:gfS s l i=some (2,o):=by
    rw[hgf i o ho];simp only[fltO,hv,Zad];rw[Zai c1,Zak (by simp only[Zan];omega)]
   rw[Qanb hi2 hfi hg];rfl
  .rw[atU_S _ _ e] at c2;refine Qanr hi2 hfi ?_;rw[hgf i o ho];simp only[fltO,hv,Zad];rw[Zai c1,Zai (by simp only[Zan];omega)]
 .obtain rfl:i=l.length:=by omega
  rw[fsF_end hfi,Zdw];refine⟨⟨q1,hend,he5,by omega⟩,fun _=>⟨fun c=>⟨c,fun o ho=> ?_⟩,fun c=> ?_⟩⟩
  .cases hL:Qaj8 s e with
   |nil=>rw[hL] at ho;cases ho
   |cons x r=>
    rw[hL] at ho;obtain rfl:x=o:=by simpa using ho
    rfl
  .have:Qaj8 s e=[]:=ZbE.1 (by omega)
   rw[this];rfl
def cntO(op:List (Qae×List Int)):Nat:=(op.map fun q=>q.2.length).sum
theorem Qap9{β:Type}: ∀{l:List (Qae×β)} {q:Qae×β},(l.map Prod.fst).Nodup->q∈l->lkP l q.1=some q.2
 |x::r,q,hn,hq=>by
  obtain⟨p,v⟩:=x;rw[Zao,ZbS] at hn;simp only[lkP];rcases Zax.1 hq with rfl|hq
  .rw[Zak rfl]
  .have:q.1≠p:=fun e=>hn.1 (by rw[<-e];exact ZaM.2 ⟨q,hq,rfl⟩)
   rw[Zai this];exact Qap9 hn.2 hq
theorem Qaky{g:Qae->List Int}: ∀(l:List Qae),(Qajs g l).length=(l.map fun p=>(g p).length).sum
 |[]=>rfl
 |p::r=>by
  have:=Qaky (g:=g) r
  simp only[Qajs] at this;simp only[Qajs,Zbm,ZaC,Zbv,Zao,ZcB,this]
theorem Qapz{op:List (Qae×List Int)}(h:(op.map Prod.fst).Nodup):(Qalo op).length=cntO op:=by
 rw[Qalo,Qaky,((Qall h).map _).sum_nat,ZdY];congr 1;refine ZcD fun q hq=> ?_
 simp only[Function.comp,Qap9 h hq,Zad]
theorem cnt_ge: ∀{l:List (Qae×List Int)},(∀q∈l,q.2≠[])->l.length<=cntO l
 |[],_=>ZaU _
 |x::r,h=>by
  have h1:0<x.2.length:=ZbP.2 (h x (Zau ..));have h2:=cnt_ge fun q hq=>h q (Zas x hq)
  simp only[cntO,Zao,ZcB,ZaF] at h2⊢;omega
theorem opts_len(s:Qar){b:Asm}(h1:b.Tiles.length<=500)(h2:s.Set.Tiles.length<=160):(Qaj8 s b).length<=320000:=by
 have h7:=Qakc (g:=fun p=>atU s (atA b) p s.Set.Tiles.length) (m:=160) (fun p=>Zba (Qakm s (atA b) p _) (by omega)) (Qajq b b.Tiles.length);have h8:=Qaj2 b b.Tiles.length;have h9:(Qajq b b.Tiles.length).length*160<=2000*160:=Zbf _ (by omega);exact Zba h7 h9
theorem op_lim{s:Qar}{b:Asm}{op:List (Qae×List Int)}(hT:1<=s.Temperature)(h1:b.Tiles.length<=500)(h2:s.Set.Tiles.length<=160)(hop:OpOk s (atA b) op):
 Qalo op=Qaj8 s b/\((op.map Prod.fst).Nodup/\op.length<=1000000/\ ∀q∈op,q.2.length<=1000)/\(Qalo op).length<=320000:=by
 have hlaw:=Qap2 hT hop;have hlen:=Qapz hop.1;rw[hlaw] at hlen;have hv2: ∀q∈op,q.2=Qajt s (atA b) q.1/\q.2≠[]:=fun q hq=>by
  have h5:=Qap9 hop.1 hq;rw[hop.2,nonE] at h5;split at h5
  .cases h5
  .rename_i c;have h6:=Zaa h5;exact⟨h6.symm,by rw[<-h6];exact c⟩
 have h6:op.length<=cntO op:=cnt_ge fun q hq=>(hv2 q hq).2
 have h7:=opts_len s h1 h2;refine⟨hlaw,⟨hop.1,by omega,fun q hq=> ?_⟩,by rw[hlaw];exact h7⟩;rw[(hv2 q hq).1];exact Zba (Qus s _ _ _) (by omega)
theorem Qapt{t:TypeId}{a b:D}(h:Le a b):Le (.ifc t a) (.ifc t b):=by
 intro ok hp v hv;obtain⟨x,rfl,h1⟩:=hv;exact⟨x,rfl,h _ _ _ h1⟩
def flE:Option (Int×Opt)->D
 |none=> .nili
 |some (k,o)=>if k=1 then .ifc 334 (.agg (Opt.c o)) else if k=2 then .ifc 336 (.agg (Opt.c o)) else .ifc 338 (.agg (Opt.c o))
def flD:D->Option (Option (Int×Opt))
 | .nili=>some none
 | .ifc t (.agg ds)=>(Opt.d ds).bind fun o=>if t=334 then some (some (1,o)) else if t=336 then some (some (2,o)) else if t=338 then some (some (3,o)) else none
 |_=>none
theorem flD_le: ∀d b,flD d=some b->Le d (flE b):=by
 intro d b h;unfold flD at h;split at h
 .obtain rfl:=Zaa h;exact Le.refl _
 .simp only[Zaw] at h;obtain⟨o,h1,h2⟩:=h;split at h2
  .rename_i c;obtain rfl:=Zaa h2;rw[c];exact Qapt (Qav (Opt.d_le _ _ h1))
  .split at h2
   .rename_i c;obtain rfl:=Zaa h2;rw[c];exact Qapt (Qav (Opt.d_le _ _ h1))
   .split at h2
    .rename_i c;obtain rfl:=Zaa h2;rw[c];exact Qapt (Qav (Opt.d_le _ _ h1))
    .cases h2
 .cases h
def outI_.fv(a:Pld×Int):Int:=(fun x i=>ouM x.Seq x.Inputs i.toNat ((x.Seq[i.toNat]?.map Opt.At).getD ⟨0,0⟩) 4) (a.1) (a.2)
def outI_.row:Row:=vK (b2 (qP 8 Pld.d_le) qI) rI (fun a=>(a.1.Seq.map Opt.At).Nodup/\(∀o∈a.1.Seq,Qdy o.At)/\a.1.Inputs.length=a.1.Seq.length/\a.1.Seq.length<=500/\0<=a.2/\a.2<a.1.Seq.length) outI_.fv
def outI_.q:=vKq (R:=outI_.row) rfl
def YaW:=J @outI_.fv.eq_1<|J @step_.q<|J @step_.fv.eq_1<|J @step_.re.eq_1<|J @idxAt_.q<|J @idxAt_.fv.eq_1<|J @opposite_.q<|J @opposite_.fv.eq_1<|J @has_.q @has_.fv.eq_1
theorem outI_.ok:Qas Tryz.prog 232 outI_.row:=by
 refine vw (tC step_.ok (tC idxAt_.ok (tC opposite_.ok (tC has_.ok tN)))) Tryz.func232 rfl (by kernel_rfl) ?_;intro a hpre;simp only[Tryz.f232,Option.getD];simp(maxSteps:=9^9)(disch:=omega)only[ZZ,simprocAttr,rch,YaW];obtain⟨x,i⟩:=a;obtain⟨h1,h2,h3,h4,h5,h6⟩:=hpre;simp only at h1 h2 h3 h4 h5 h6⊢;obtain⟨o,ho⟩: ∃o,x.Seq[i.toNat]? =some o:=⟨_,Zac (by omega)⟩;have hos:=h2 o (Zae ho);obtain⟨n,hn⟩: ∃n:Nat,i=n:=⟨i.toNat,by omega⟩;subst hn;rw[Zam] at ho⊢;simp only[ho,ZaT,Zad];refine Qay.old ⟨{d:Nat//d<=4},fun d=>⟨[(8,.im (.int .i64 d.1)),(5,.im (.int .i64 (ouM x.Seq x.Inputs n o.At d.1))),(0,.ptr 0 0),(1,.im (.int .i64 n))],[(0,(false,.view (Pld.c x)))],1⟩,fun d=>4 - d.1,fun d=>⟨by simp[Qad.good,belT,belH,Qam,AV.bel,belL],by simp⟩,⟨⟨0,ZaU _⟩,by simp(maxSteps:=9^9)(disch:=omega)only[ZZ,simprocAttr,rch,YaW,sub,ouM]⟩,fun d=> ?_⟩;obtain⟨d,hd⟩:=d;simp(maxSteps:=9^9)(disch:=omega)only[ZZ,simprocAttr,rch,YaW,sub,Qal];have hdw:d<4->IntKind.i64.wrap ((d:Int)+1)=((d+1:Nat):Int):=fun h=>by rw[Qak (by omega) (by omega)];omega
 have hib:=ouB_idx (ins:=x.Inputs) (i:=n) (p:=o.At) (d:=d) h1;have hno: ¬ouB x.Seq x.Inputs n o.At d=true->ouM x.Seq x.Inputs n o.At d=ouM x.Seq x.Inputs n o.At (d+1):=fun h=>by
  rw[ZaO] at h;simp only[ouM,h,bitN];simp
 have hmb:=ouM_b x.Seq x.Inputs n o.At d;refine⟨fun hd4=>⟨by omega,fun y hy=> ?_⟩,fun hd4=>by rw[show d=4 by omega]⟩;obtain rfl:o=y:=Zaa (ho.symm.trans hy);refine⟨⟨hos,by omega⟩,fun c1=> ?_,fun c1=>⟨⟨d+1,by omega⟩,by simp only;omega,hdw (by omega),hno fun h=>c1 (hib.1 h).1⟩⟩;have hil:(idxO x.Seq (Qf7 o.At d)).toNat<x.Seq.length:=by
  have h3:=idxO_at (l:=x.Seq) (q:=Qf7 o.At d) rfl (by omega);cases hk:x.Seq[(idxO x.Seq (Qf7 o.At d)).toNat]? with
  |none=>rw[hk] at h3;cases h3
  |some y=>exact (Zaj.1 hk).1
 refine⟨by omega,by omega,fun v hv=>⟨by omega,by omega,fun c2=>⟨⟨d+1,by omega⟩,by simp only;omega,hdw (by omega),?_⟩,fun c2=>⟨⟨d+1,by omega⟩,by simp only;omega,hdw (by omega),hno fun h=>c2 ?_⟩⟩⟩
 .have hob:ouB x.Seq x.Inputs n o.At d=true:=hib.2 ⟨c1,by rw[hv,Zad];exact c2⟩;rw[Qanf (by omega),or_bit (by omega) hmb.1 hmb.2];simp only[ouM,hob,bitN,Zbg]
 .have:=(hib.1 h).2
  rw[hv,Zad] at this;exact this
def anoI(x:Pld)(i:Nat):Bool:=(x.Seq[i]?.map fun o=>anoK x.Sys (atA (witA x.End o.At (ouM x.Seq x.Inputs i o.At 4))) o.At o.Tile x.Sys.Set.Tiles.length).getD false
def pldOk(x:Pld):Prop:=(x.Seq.map Opt.At).Nodup/\(∀o∈x.Seq,Qdy o.At)/\x.Inputs.length=x.Seq.length/\x.Seq.length<=500/\setP x.Sys.Set/\Qn7 x.Sys.Set x.End/\x.End.Tiles.length<=1000000/\x.Sys.Set.Tiles.length<=160
def anoI_.fv(a:Pld×Int):Bool:=(fun x i=>anoI x i.toNat) (a.1) (a.2)
def anoI_.row:Row:=vK (b2 (qP 8 Pld.d_le) qI) rB (fun a=>pldOk a.1/\0<=a.2/\a.2<a.1.Seq.length) anoI_.fv
def anoI_.q:=vKq (R:=anoI_.row) rfl
def YaX:=J @anoI_.fv.eq_1<|J @outI_.q<|J @outI_.fv.eq_1<|J @has_.q<|J @has_.fv.eq_1<|J @step_.q<|J @step_.fv.eq_1<|J @step_.re.eq_1<|J @woA.q<|J @woA.fv.eq_1<|J @bindA.q @bindA.fv.eq_1
theorem anoI_.ok:Qas Tryz.prog 229 anoI_.row:=by
 refine vw (tC outI_.ok (tC has_.ok (tC step_.ok (tC woA.ok (tC bindA.ok tN))))) Tryz.func229 rfl (by kernel_rfl) ?_;intro a hpre;simp only[Tryz.f229,Option.getD];simp(maxSteps:=9^9)(disch:=omega)only[ZZ,simprocAttr,rch,YaX,bindA.ar];obtain⟨x,i⟩:=a;obtain⟨⟨h1,h2,h3,h4,h5,h6,h7,h8⟩,h9,h10⟩:=hpre;simp only at h1 h2 h3 h4 h5 h6 h7 h8 h9 h10⊢;obtain⟨n,hn⟩: ∃n:Nat,i=n:=⟨i.toNat,by omega⟩;subst hn;rw[Zam];refine⟨h9,h10,fun o ho=> ?_⟩;have hos:=h2 o (Zae ho);obtain⟨m,hm⟩: ∃m,m=ouM x.Seq x.Inputs n o.At 4:=⟨_,rfl⟩;have hmb:=ouM_b x.Seq x.Inputs n o.At 4;rw[<-hm] at hmb;refine Qay.ren ⟨{d:Nat//d<=4},fun d=>⟨[(20,.im (.int .i64 d.1)),(6,.own 3),(5,.ptr 1 0),(0,.ptr 0 0),(1,.im (.int .i64 n))],[(3,(true,.arr 94 2 ((Qam7 o.At m d.1).map Qae.c))),(1,(true,.cells 108 ((Opt.c o).map .im))),(0,(false,.view (Pld.c x)))],4⟩,fun d=>4 - d.1,fun d=>⟨by simp[Qad.good,belT,belH,Qam,AV.bel,belL,Opt.c],by simp⟩,⟨⟨0,ZaU _⟩,[(3,some 2)],?_⟩,fun d=> ?_⟩
 .simp only[subP];simp(maxSteps:=9^9)(disch:=omega)only[ZZ,simprocAttr,rch,YaX,bindA.ar,Zah,Zag,Qam7,Zao,ZaV]
  try simp
 obtain⟨d,hd⟩:=d;simp(maxSteps:=9^9)(disch:=omega)only[ZZ,simprocAttr,rch,YaX,bindA.ar,sub,Qal];have hdw:d<4->IntKind.i64.wrap ((d:Int)+1)=((d+1:Nat):Int):=fun h=>by rw[Qak (by omega) (by omega)];omega
 have hgl:=Qank o.At m d;simp only[ho,ZaT,Zad,<-hm];refine⟨fun hd4=>⟨⟨h1,h2,h3,h4,by omega⟩,by omega,fun c1=>⟨⟨hos,by omega⟩,by simp[OneR,allD,D.one],by omega,⟨d+1,by omega⟩,[(3,some 5)],by simp only;omega,?_⟩,fun c1=>⟨⟨d+1,by omega⟩,[(3,some 3)],by simp only;omega,?_⟩⟩,fun hd4=> ?_⟩
 .simp only[subP];simp(maxSteps:=9^9)(disch:=omega)only[ZZ,simprocAttr,rch,YaX,bindA.ar,Zah,Zag];refine⟨hdw (by omega),?_⟩;simp[Qam7,c1,Qae.c]
 .simp only[subP];simp(maxSteps:=9^9)(disch:=omega)only[ZZ,simprocAttr,rch,YaX,bindA.ar,Zah,Zag];refine⟨hdw (by omega),?_⟩;rw[ZaO] at c1;simp[Qam7,c1]
 obtain rfl:d=4:=by omega
 have hrem:remP (Qam7 o.At m 4) x.End.Tiles=(witA x.End o.At m).Tiles:=ZbR Asm.Tiles (wit_law x.End o.At m);rw[hrem];have hwi:=wit_in h6 o.At m;have hfin:anoI x n=anoK x.Sys (atA (witA x.End o.At m)) o.At o.Tile x.Sys.Set.Tiles.length:=by
  simp only[anoI,ho,ZaT,Zad,<-hm]
 obtain⟨rest,hrest⟩: ∃r,r=witA x.End o.At m:=⟨_,rfl⟩;rw[hfin];simp only[<-hrest] at hwi⊢;refine⟨h7,fun _=> ?_⟩;refine Qay.old ⟨{k:Nat//k<=x.Sys.Set.Tiles.length/\anoK x.Sys (atA rest) o.At o.Tile k=false},fun k=>⟨[(49,.im (.int .i64 k.1)),(48,.im (.int .i64 x.Sys.Set.Tiles.length)),(8,.ptr 4 0),(5,.ptr 1 0),(0,.ptr 0 0)],[(4,(true,.cells 46 [.im (.sl false 3 (rest.Tiles.map Qab.c))])),(1,(true,.cells 108 ((Opt.c o).map .im))),(0,(false,.view (Pld.c x)))],5⟩,fun k=>x.Sys.Set.Tiles.length - k.1,fun k=>⟨by simp[Qad.good,belT,belH,Qam,AV.bel,belL,Opt.c],by simp⟩,⟨⟨0,ZaU _,rfl⟩,by simp(maxSteps:=9^9)(disch:=omega)only[ZZ,simprocAttr,rch,YaX,bindA.ar,sub]⟩,fun k=> ?_⟩;obtain⟨k,hk,hka⟩:=k;simp(maxSteps:=9^9)(disch:=omega)only[ZZ,simprocAttr,rch,YaX,bindA.ar,sub,Qal];have hkw:k<x.Sys.Set.Tiles.length->IntKind.i64.wrap ((k:Int)+1)=((k+1:Nat):Int):=fun h=>by rw[Qak (by omega) (by omega)];omega
 have hin:inF x.Sys.Set (atA rest):=fun p hp=>Qafx hwi p hp
 refine⟨fun hk2=>⟨fun c1=>⟨⟨h5,hin,hos,⟨by omega,by omega⟩,hwi.1⟩,fun c2=> ?_,fun c2=>⟨⟨k+1,by omega,?_⟩,by simp only;omega,hkw hk2⟩⟩,fun c1=>⟨⟨k+1,by omega,?_⟩,by simp only;omega,hkw hk2⟩⟩,fun hk2=> ?_⟩
 .exact (Qang.2 ⟨k,hk2,c1,c2⟩).symm
 .simp only[anoK,hka,Zef,Zbe c2,ZbX]
 .have:decide ((k:Int)≠o.Tile)=false:=Zbe (by omega)
  simp only[anoK,hka,Zef,this,Zaz]
 .rw[<-hka,show k=x.Sys.Set.Tiles.length by omega]
def gpI(x:Pld)(i:Nat):Option (Int×Opt):=(x.Seq[i]?).bind fun o=>fltO x.Sys x.Strength o i (anoI x i)
def fltP(x:Pld):Option (Int×Opt):=(fsF (gpI x) x.Seq.length 0).or (endO (Qaj8 x.Sys x.End))
theorem ifcT:isIfc Tryz.prog 328=true:=by kernel_rfl
theorem con1:Qapw Tryz.prog 334=true:=by kernel_rfl
theorem con2:Qapw Tryz.prog 336=true:=by kernel_rfl
theorem con3:Qapw Tryz.prog 338=true:=by kernel_rfl
theorem mk1:Qak8 Tryz.prog 334 "loop.example/g01081/impl.kind" =some 276:=by kernel_rfl
theorem mk2:Qak8 Tryz.prog 336 "loop.example/g01081/impl.kind" =some 278:=by kernel_rfl
theorem mk3:Qak8 Tryz.prog 338 "loop.example/g01081/impl.kind" =some 280:=by kernel_rfl
theorem ma1:Qak8 Tryz.prog 334 "loop.example/g01081/impl.at" =some 275:=by kernel_rfl
theorem ma2:Qak8 Tryz.prog 336 "loop.example/g01081/impl.at" =some 277:=by kernel_rfl
theorem ma3:Qak8 Tryz.prog 338 "loop.example/g01081/impl.at" =some 279:=by kernel_rfl
def k1_.fv(a:Opt):Int:=(fun _=>1) a
def k1_.row:Row:=vK (b1 (qR Opt.d_le)) rI (fun a=>True) k1_.fv
def k1_.q:=vKq (R:=k1_.row) rfl
theorem k1_.ok:Qas Tryz.prog 276 k1_.row:=by
 refine vw tN Tryz.func276 rfl (by kernel_rfl) ?_;intro a hpre;simp only[Tryz.f276,Option.getD];simp(maxSteps:=9^9)(disch:=omega)only[ZZ,simprocAttr,rch,k1_.fv]
 try trivial
def k2_.fv(a:Opt):Int:=(fun _=>2) a
def k2_.row:Row:=vK (b1 (qR Opt.d_le)) rI (fun a=>True) k2_.fv
def k2_.q:=vKq (R:=k2_.row) rfl
theorem k2_.ok:Qas Tryz.prog 278 k2_.row:=by
 refine vw tN Tryz.func278 rfl (by kernel_rfl) ?_;intro a hpre;simp only[Tryz.f278,Option.getD];simp(maxSteps:=9^9)(disch:=omega)only[ZZ,simprocAttr,rch,k2_.fv]
 try trivial
def k3_.fv(a:Opt):Int:=(fun _=>3) a
def k3_.row:Row:=vK (b1 (qR Opt.d_le)) rI (fun a=>True) k3_.fv
def k3_.q:=vKq (R:=k3_.row) rfl
theorem k3_.ok:Qas Tryz.prog 280 k3_.row:=by
 refine vw tN Tryz.func280 rfl (by kernel_rfl) ?_;intro a hpre;simp only[Tryz.f280,Option.getD];simp(maxSteps:=9^9)(disch:=omega)only[ZZ,simprocAttr,rch,k3_.fv]
 try trivial
def p1_.fv(a:Opt):Qae:=(fun o=>o.At) a
def p1_.row:Row:=vK (b1 (qR Opt.d_le)) (rA Qae.d_le) (fun a=>True) p1_.fv
def p1_.q:=vKq (R:=p1_.row) rfl
theorem p1_.ok:Qas Tryz.prog 275 p1_.row:=by
 refine vw tN Tryz.func275 rfl (by kernel_rfl) ?_;intro a hpre;simp only[Tryz.f275,Option.getD];simp(maxSteps:=9^9)(disch:=omega)only[ZZ,simprocAttr,rch,p1_.fv]
 try trivial
def p2_.fv(a:Opt):Qae:=(fun o=>o.At) a
def p2_.row:Row:=vK (b1 (qR Opt.d_le)) (rA Qae.d_le) (fun a=>True) p2_.fv
def p2_.q:=vKq (R:=p2_.row) rfl
theorem p2_.ok:Qas Tryz.prog 277 p2_.row:=by
 refine vw tN Tryz.func277 rfl (by kernel_rfl) ?_;intro a hpre;simp only[Tryz.f277,Option.getD];simp(maxSteps:=9^9)(disch:=omega)only[ZZ,simprocAttr,rch,p2_.fv]
 try trivial
def p3_.fv(a:Opt):Qae:=(fun o=>o.At) a
def p3_.row:Row:=vK (b1 (qR Opt.d_le)) (rA Qae.d_le) (fun a=>True) p3_.fv
def p3_.q:=vKq (R:=p3_.row) rfl
theorem p3_.ok:Qas Tryz.prog 279 p3_.row:=by
 refine vw tN Tryz.func279 rfl (by kernel_rfl) ?_;intro a hpre;simp only[Tryz.f279,Option.getD];simp(maxSteps:=9^9)(disch:=omega)only[ZZ,simprocAttr,rch,p3_.fv]
 try trivial
def flt_.fv(a:Pld):Option (Int×Opt):=(fltP) a
def flt_.row:Row:=vK (b1 (qP 8 Pld.d_le)) (RK.mk (flD) (flE) (flD_le)) (fun a=>pldOk a/\a.Strength.length=a.Seq.length/\a.End.Tiles.length<=500/\1<=a.Sys.Temperature) flt_.fv
def flt_.q:=vKq (R:=flt_.row) rfl
def YaY:=J @flt_.fv.eq_1 (J @anoI_.q @anoI_.fv.eq_1)
theorem flt_.ok:Qas Tryz.prog 228 flt_.row:=by
 refine vw (tC anoI_.ok (tC newC.ok (tC lisC.ok tN))) Tryz.func228 rfl (by kernel_rfl) ?_;intro a hpre;simp only[Tryz.f228,Option.getD];simp(maxSteps:=9^9)(disch:=omega)only[ZZ,simprocAttr,rch,YaY,ifcT,con1,con2,con3];obtain⟨⟨h1,h2,h3,h4,h5,h6,h7,h8⟩,h9,h10,h11⟩:=hpre;intro _;simp only[fltP];refine Qay.old ⟨{i:Nat//i<=a.Seq.length/\fsF (gpI a) (a.Seq.length - i) i=fsF (gpI a) a.Seq.length 0},fun i=>⟨[(11,.im (.int .i64 i.1)),(10,.im (.int .i64 a.Seq.length)),(9,.im (.sl false 3 (a.Seq.map Opt.c))),(2,.im .nili),(0,.ptr 0 0)],[(0,(false,.view (Pld.c a)))],1⟩,fun i=>a.Seq.length - i.1,fun i=>⟨by simp[Qad.good,belT,belH,Qam,AV.bel,belL],by simp⟩,⟨⟨0,ZaU _,rfl⟩,by simp(maxSteps:=9^9)(disch:=omega)only[ZZ,simprocAttr,rch,YaY,sub]⟩,fun i=> ?_⟩;obtain⟨i,hi,hfi⟩:=i;simp(maxSteps:=9^9)(disch:=omega)only[ZZ,simprocAttr,rch,YaY,sub,Qal,ifcT,con1,con2,con3];have hiw:i<a.Seq.length->IntKind.i64.wrap ((i:Int)+1)=((i+1:Nat):Int):=fun h=>by rw[Qak (by omega) (by omega)];omega
 refine⟨fun hi2=>⟨hi2,fun o ho=>⟨by omega,fun v hv=>⟨fun c1=> ?_,fun c1=>⟨⟨⟨h1,h2,h3,h4,h5,h6,h7,h8⟩,hi2⟩,fun c2=> ?_,fun c2=>⟨⟨i+1,by omega,?_⟩,by simp only;omega,hiw hi2⟩⟩⟩⟩⟩,fun hi2=> ?_⟩
 .have hg:gpI a i=some (1,o):=by
   simp only[gpI,ho,ZbD,fltO,hv,Zad];rw[Zak c1]
  rw[Qanb hi2 hfi hg];rfl
 .have hg:gpI a i=some (2,o):=by
   simp only[gpI,ho,ZbD,fltO,hv,Zad];rw[Zai c1,Zak c2]
  rw[Qanb hi2 hfi hg];rfl
 .refine Qanr hi2 hfi ?_;simp only[gpI,ho,ZbD,fltO,hv,Zad];rw[Zai c1,Zai c2]
 obtain rfl:i=a.Seq.length:=by omega
 rw[fsF_end hfi,Zdw];have hnp:newC.pre (a.Sys,a.End):=⟨h5,by simp only;omega,fun y hy=>⟨h6.2 y hy,Qkc (Qh6 _ none h6.1 y hy).1⟩⟩;have hat:Qbw (tlUp a.End.Tiles)=atA a.End:=(RM.of h6.1 fun x hx=>(h6.2 x hx).1).at;have hop:OpOk a.Sys (atA a.End) (Qui a.Sys a.End).Op:=by
  have:=op_new (s:=a.Sys) (l:=a.End.Tiles) h11
  rw[hat] at this;simp only[Qui,hat];exact this
 obtain⟨g1,g2,g3⟩:=op_lim h11 h10 h8 hop;refine orow.os (a.Sys,a.End) [] hnp (fun j=>by simp[domB,hget]) rfl rfl ?_ ?_
 .simp(maxSteps:=9^9)(disch:=omega)only[ZZ,simprocAttr,rch,YaY,newC.ca,Qer,Qar.c,Asm.c]
 simp(maxSteps:=9^9)(disch:=omega)only[ZZ,simprocAttr,rch,YaY,newC.H1,sub];refine orow.os (Qui a.Sys a.End) [5,3,4] g2 (fun j=>Qack _ j) rfl rfl ?_ ?_
 .simp(maxSteps:=9^9)(disch:=omega)only[ZZ,simprocAttr,rch,YaY,asmC.ca,cryH,Qbk,Zbg,Zbi,ZbT]
  try exact⟨rfl,rfl,rfl,rfl⟩
 simp(maxSteps:=9^9)(disch:=omega)only[ZZ,simprocAttr,rch,YaY,lisC.r0,sub,g1,Qal,ifcT,con1,con2,con3];intro _;refine⟨fun c=>⟨c,fun x hx=> ?_⟩,fun c=> ?_⟩
 .cases hL:Qaj8 a.Sys a.End with
  |nil=>rw[hL] at hx;cases hx
  |cons y r=>
   rw[hL] at hx;obtain rfl:y=x:=by simpa using hx
   rfl
 .have:Qaj8 a.Sys a.End=[]:=ZbE.1 (by omega)
  rw[this];rfl
theorem Qn3{n:Nat}{l:Int}(h:0<=szC n l):(n:Int)<=l/\szC n l<=l/\0<=l:=by
 simp only[szC] at h⊢;split at h
 .omega
 .rename_i c;rw[Zai c];omega
theorem Qu5: ∀(a:List Tile) (l:Int),0<=l->l<=1048576->0<=Qdz Qcn a l-> ∀x∈a,x.Sides.length<=1073741824
 |[],_,_,_,_=>by intro x hx;cases hx
 |y::r,l,h0,hl,h=>by
  simp only[Qdz] at h;split at h
  .omega
  .rename_i c;have hy:0<=Qcn y l:=by omega
   have h1:0<=szC y.Name.size l:=by
    simp only[Qcn] at hy;split at hy
    .omega
    .omega
   have e:Qcn y l=szC y.Sides.length (szC y.Name.size l):=by
    simp only[Qcn];rw[Zai (by omega)]
   rw[e] at hy h;obtain⟨a1,a2,a3⟩:=Qn3 hy;obtain⟨b1,b2,b3⟩:=Qn3 h1;intro x hx;rcases Zax.1 hx with rfl|hx
   .omega
   .exact Qu5 r _ hy (by omega) h x hx
theorem szSet_sm{s:Qaa}{l:Int}(hl: -1<=l)(hl2:l<=1048576)(h:0<=Qqd s l):smSet s:=by
 have hg:=Qo1 s.Glues l hl;simp only[Qqd] at h;split at h
 .omega
 rename_i c;have hg0:0<=Qcj s.Glues l:=by omega
 have hgc:0<=szC s.Glues.length l:=by
  simp only[Qcj] at hg0;split at hg0
  .omega
  .omega
 have htc:0<=szC s.Tiles.length (Qcj s.Glues l):=by
  simp only[Qds] at h;split at h
  .omega
  .omega
 have e:Qds s.Tiles (Qcj s.Glues l)=Qdz Qcn s.Tiles (szC s.Tiles.length (Qcj s.Glues l)):=by
  simp only[Qds];rw[Zai (by omega)]
 rw[e] at h;obtain⟨a1,a2,a3⟩:=Qn3 hgc;obtain⟨b1,b2,b3⟩:=Qn3 htc;exact⟨by omega,by omega,Qu5 s.Tiles _ htc (by omega) h⟩
theorem szSys_sm{s:Qar}{l:Int}(hl: -1<=l)(hl2:l<=1048576)(h:0<=Qlr s l):smSys s:=by
 have hb:=Qxk s.Set l hl;simp only[Qlr] at h;split at h
 .omega
 rename_i c;obtain⟨a1,a2,a3⟩:=Qn3 h;exact⟨szSet_sm hl hl2 (by omega),by omega⟩
theorem flt_pld{s:Qar}{l:List Opt}(h:seqP s l):fltP ⟨s,l,Qac9 s.Seed l,insS s s.Seed l,smsS s s.Seed l⟩=fltS s l:=by
 rw[<-flt_law h];simp only[fltP];rw[Qand l.length 0 (h:=gfI s l) fun i _ _=> ?_];simp only[gpI,gfI,anoI];cases l[i]? <;>rfl
theorem fltO_k{s:Qar}{sms:List Int}{o:Opt}{i:Nat}{m:Bool}{q:Int×Opt}(h:fltO s sms o i m=some q):q.1=1\/q.1=2:=by
 simp only[fltO] at h;split at h
 .obtain rfl:=Zaa h;exact .inl rfl
 .split at h
  .obtain rfl:=Zaa h;exact .inr rfl
  .cases h
theorem fsF_k{g:Nat->Option (Int×Opt)}(hg: ∀i q,g i=some q->q.1=1\/q.1=2): ∀(n k:Nat) (q:Int×Opt),fsF g n k=some q->q.1=1\/q.1=2
 |n+1,k,q,h=>by
  simp only[fsF] at h;cases hk:g k with
  |none=>rw[hk,Zdw] at h;exact fsF_k hg n (k+1) q h
  |some r=>rw[hk,ZeW] at h;obtain rfl:=Zaa h;exact hg k _ hk
theorem fltS_k{s:Qar}{l:List Opt}{q:Int×Opt}(h:fltS s l=some q):q.1=1\/q.1=2\/q.1=3:=by
 simp only[fltS] at h;cases hf:fsF (gfS s l) l.length 0 with
 |some r=>
  rw[hf,ZeW] at h;obtain rfl:=Zaa h
  have:=fsF_k (g:=gfS s l) (fun i q hq=>by
   simp only[gfS,Zaw] at hq;obtain⟨o,_,h2⟩:=hq;exact fltO_k h2) _ _ _ hf
  rcases this with h|h
  .exact .inl h
  .exact .inr (.inl h)
 |none=>
  rw[hf,Zdw] at h;cases he:Qaj8 s (Qac9 s.Seed l) with
  |nil=>rw[he] at h;cases h
  |cons o r=>rw[he] at h;obtain rfl:=Zaa h;exact .inr (.inr rfl)
theorem lfF_no{s:Qar}{l:List Opt}(h:(seqS s l).2.2≠0):lfF s l=(0,⟨0,0⟩,(seqS s l).2.2):=by simp only[lfF];rw[Zak h]
theorem lfF_ok{s:Qar}{l:List Opt}(h:(seqS s l).2.2=0):lfF s l=fltR (fltS s l):=by simp only[lfF];rw[Zai (fun c=>c h)]
theorem pld_ok{s:Qar}{l:List Opt}(c0:(seqS s l).2.2=0):(seqS s l).1=Qac9 s.Seed l/\seqP s l/\s.Seed.Tiles.length<=500/\1<=s.Temperature/\(Qac9 s.Seed l).Tiles.length<=500/\pldOk ⟨s,l,Qac9 s.Seed l,insS s s.Seed l,smsS s s.Seed l⟩:=by
 obtain⟨hE,hp,hso⟩:=seqS_ok c0;have hp':=hp;obtain⟨q1,q2,q3,q4,q5,q6⟩:=hp';have h5:s.Seed.Tiles.length<=500:=(Qdg (Qacj hso).2.2).2;have hT:1<=s.Temperature:=by
  simp only[Qjc,Qau,Zaf,Zan] at hso;exact hso.2.2.2.1.1
 have he5:=Qanh l s.Seed h5 q5;have hend:Qn7 s.Set (Qac9 s.Seed l):=by
  have:=Qafb q3 q2 q5 l.length (Zal _)
  rwa [Zbx] at this
 exact⟨hE,hp,h5,hT,he5,Qaf6 q5,fun o ho=>by
  obtain⟨k,hk⟩:=Zbz.1 ho;exact (Qadk (q5 k o hk).1).2.1,Qadv ..,q6,q1,hend,by simp only;omega,q3⟩
def lfI_.fv(a:Qar×(List Opt)):Int×Qae×Int:=(lfF) (a.1) (a.2)
def lfI_.row:Row:=vK (b2 (qR Qar.d_le) (qS Opt.d_le Opt.c_n)) (r3 rI (rA Qae.d_le) rI) (fun a=>Qf6 a.1.Set) lfI_.fv
def lfI_.q:=vKq (R:=lfI_.row) rfl
def YaZ:=J @lfI_.fv.eq_1<|J @play_.q<|J @play_.fv.eq_1<|J @flt_.q<|J @flt_.fv.eq_1<|J @k1_.q<|J @k1_.fv.eq_1<|J @k2_.q<|J @k2_.fv.eq_1<|J @k3_.q<|J @k3_.fv.eq_1<|J @p1_.q<|J @p1_.fv.eq_1<|J @p2_.q<|J @p2_.fv.eq_1<|J @p3_.q @p3_.fv.eq_1
theorem lfI_.ok:Qas Tryz.prog 226 lfI_.row:=by
 refine vw (tC play_.ok (tC flt_.ok (tC k1_.ok (tC k2_.ok (tC k3_.ok (tC p1_.ok (tC p2_.ok (tC p3_.ok tN)))))))) Tryz.func226 rfl (by kernel_rfl) ?_;intro a hpre;simp only[Tryz.f226,Option.getD];simp(maxSteps:=9^9)(disch:=omega)only[ZZ,simprocAttr,rch,YaZ,ifcT,con1,con2,con3,mk1,mk2,mk3,ma1,ma2,ma3];obtain⟨s,l⟩:=a;simp only at hpre⊢;refine⟨hpre,?_⟩;by_cases c0:(seqS s l).2.2=0
 case neg=>
  have eP:Qae2 s l=(none,(seqS s l).2.2):=by simp only[Qae2];rw[Zak c0]
  rw[eP,Zak c0,lfF_no c0]
 have eP:Qae2 s l=(some ⟨s,l,(seqS s l).1,insS s s.Seed l,smsS s s.Seed l⟩,0):=by
  simp only[Qae2];rw[Zai (fun h=>h c0)]
 obtain⟨hE,hp,h5,hT,he5,hpo⟩:=pld_ok c0;rw[hE] at eP;simp only[eP];rw[Zai (by simp)];have key: ∀x:Pld,(kP Pld.d 8 (pkI (plE (some x))))=some x:=fun x=>Pld.d_c x
 simp only[key,ZbD,decK];refine⟨⟨hpo,Qael ..,he5,hT⟩,?_⟩;rw[flt_pld hp,lfF_ok c0];cases hf:fltS s l with
 |none=>
  simp only[flE];simp(maxSteps:=9^9)(disch:=omega)only[ZZ,simprocAttr,rch,YaZ,ifcT,con1,con2,con3,mk1,mk2,mk3,ma1,ma2,ma3];rfl
 |some q=>
  obtain⟨k,o⟩:=q;rcases fltS_k hf with h|h|h
  all_goals
   simp only at h;subst h;simp only[flE];simp(maxSteps:=9^9)(disch:=omega)only[ZZ,simprocAttr,rch,YaZ,ifcT,con1,con2,con3,mk1,mk2,mk3,ma1,ma2,ma3];rfl
def islI_.fv(a:Qar×(List Opt)):Bool:=(fun s l=>decide ((lfF s l).2.2=3)) (a.1) (a.2)
def islI_.row:Row:=vK (b2 (qR Qar.d_le) (qS Opt.d_le Opt.c_n)) rB (fun a=>Qf6 a.1.Set) islI_.fv
def islI_.q:=vKq (R:=islI_.row) rfl
theorem islI_.ok:Qas Tryz.prog 225 islI_.row:=by
 refine vw (tC lfI_.ok tN) Tryz.func225 rfl (by kernel_rfl) ?_;intro a hpre;simp only[Tryz.f225,Option.getD];simp(maxSteps:=9^9)(disch:=omega)only[ZZ,simprocAttr,rch,islI_.fv,lfI_.q,lfI_.fv];exact hpre
abbrev InS:=Asm×List Opt×Bool
structure InOk(s:Qar)(ts:List Qab)(q:InS):Prop where
 rm: ∃t k,RM t q.1 k
 asm:Qn7 s.Set q.1
 mem: ∀o∈q.2.1,o.At∈ts.map Qab.At
 nd:(q.2.1.map Opt.At).Nodup
 pos: ∀o∈q.2.1,0<=atA q.1 o.At
 len:q.1.Tiles.length=s.Seed.Tiles.length+q.2.1.length
abbrev InI:=Cry×List Opt×Bool
structure InC(s:Qar)(i:InI)(q:InS):Prop where
 sys:i.1.Sys=s
 rm: ∃k,RM i.1.Tl q.1 k
 eq:i.2=q.2
def insX.pre(a:Qar×Asm):Prop:=Qf6 a.1.Set/\Qjc a.1=true/\a.2.Tiles.length<=500/\ ∀x∈a.2.Tiles,Qcs a.1.Set x.Tile
def askC(s:Qar)(a:Asm):Int:=if (Qjc s && Qcp s.Set a)=true then 0 else 1
theorem ask0{s:Qar}{a:Asm}(h:askC s a=0):Qjc s=true/\Qcp s.Set a=true:=by
 simp only[askC] at h;split at h
 .rename_i c;simpa using c
 .cases h
def growC_.fv(a:Qar×Asm):Int:=(askC) (a.1) (a.2)
def growC_.row:Row:=vK (b2 (qR Qar.d_le) (qR Asm.d_le)) rI (fun a=>Qf6 a.1.Set) growC_.fv
def growC_.q:=vKq (R:=growC_.row) rfl
theorem growC_.ok:Qas Tryz.prog 29 growC_.row:=by
 refine vw (tC validI_.ok (tC ValidAssembly_.ok tN)) Tryz.func29 rfl (by kernel_rfl) ?_;intro a hpre;simp only[Tryz.f29,Option.getD];simp(maxSteps:=9^9)(disch:=omega)only[ZZ,simprocAttr,rch,growC_.fv,validI_.q,validI_.fv,ValidAssembly_.q,ValidAssembly_.fv];obtain⟨s,a⟩:=a;simp only at hpre⊢;refine⟨hpre,?_⟩;rw[Qacv];by_cases c:Qjc s=true
 .rw[Zak c];refine⟨hpre,?_⟩;have c2:=(Qacj c).2.1;by_cases c3:Qcp s.Set a=true
  .rw[Zai (by rw[c2,c3];decide)];simp only[askC,c,c3];rfl
  .rw[ZaO] at c3;rw[Zak (by rw[c2,c3];rfl)];simp only[askC,c,c3];rfl
 .rw[Zai c];rw[ZaO] at c;simp only[askC,c];rfl
def ask08.fv(a:Qar×Asm):Int:=(askC) (a.1) (a.2)
def ask08.row:Row:=vK (b2 (qP 4 Qar.d_le) (qP 1 Asm.d_le)) rI (fun a=>True) ask08.fv
def ask08.q:=vKq (R:=ask08.row) rfl
theorem ask08.ok:Qas Tryz.prog 20 ask08.row:=by
 refine vw (tC l08Ok.ok (tC l03Ok.ok tN)) Tryz.func20 rfl (by kernel_rfl) ?_;intro a hpre;simp only[Tryz.f20,Option.getD];simp(maxSteps:=9^9)(disch:=omega)only[ZZ,simprocAttr,rch,ask08.fv,l08Ok.q,l08Ok.fv,l03Ok.q,l03Ok.fv];obtain⟨s,a⟩:=a;simp only;have e:((Qaz none a.Tiles && decide (a.Tiles.length<=500)) && a.Tiles.all fun x=>Qau x.Tile 0 (s.Set.Tiles.length - 1))=Qcp s.Set a:=rfl;rw[e];by_cases c:Qjc s=true
 .rw[Zak c];by_cases c3:Qcp s.Set a=true
  .rw[Zai (by rw[c3];decide)];simp only[askC,c,c3];rfl
  .rw[ZaO] at c3;rw[Zak c3];simp only[askC,c,c3];rfl
 .rw[Zai c];rw[ZaO] at c;simp only[askC,c];rfl
theorem cnt_b{op:List (Qae×List Int)}(h1:op.length<=1000000)(h2: ∀q∈op,q.2.length<=1000):cntO op<=1000000*1000:=by
 have key: ∀(l:List (Qae×List Int)),(∀q∈l,q.2.length<=1000)->cntO l<=l.length*1000:=by
  intro l;induction l with
  |nil=>intro _;simp[cntO]
  |cons x r ih=>
   intro h;have a1:=h x (Zau ..);have a2:=ih fun q hq=>h q (Zas _ hq)
   simp only[cntO,Zao,ZcB,ZaF] at a2⊢;omega
 exact Zba (key op h2) (Zbf 1000 h1)
theorem Qakx: ∀(l:List (Qae×List Int)) (i:Nat) (q:Qae×List Int),l[i]? =some q->q.2.length+cntO (l.eraseIdx i)=cntO l
 |x::r,0,q,h=>by
  obtain rfl:x=q:=by simpa using h
  simp[cntO]
 |x::r,i+1,q,h=>by
  have:=Qakx r i q (by simpa using h)
  simp only[cntO,ZcH,Zao,ZcB] at this⊢;omega
def cntC.H1(a:Cry):Qan:=[(2,(false,.map ⟨true,[.int .i64,.int .i64]⟩ (a.Op.map Qbc)))]
def kl2'(j:Nat):Bool:=j==2
def cntC.row:Row:=orow asmC.ca cryH 3 (fun a=>a.Op.length<=1000000/\ ∀q∈a.Op,q.2.length<=1000) kl2' (fun a=> .im (.int .i64 (cntO a.Op))) cntC.H1 0
theorem cntC.ok:Qas Tryz.prog 223 cntC.row:=by
 refine ow tN Tryz.func223 rfl (by kernel_rfl) (exB:=fun _=>false) (R:=fun a r=>r= .im (.int .i64 (cntO a.Op))) (fun _=>rfl)
  (fun a=>by simp[asmC.ca,cryH,Qbk,cntC.H1,kl2',belL,AV.bel,belH,Qam,Qc2,AObj.nms,nmsL,AV.nms,domB,hget]) (fun a p hp=> ?_) (fun a r h=>by subst h;exact LeV.refl _) ?_
 rotate_left
 intro a hpre;simp only[Tryz.f223,Option.getD,asmC.ca,cryH,Qbk,cntC.H1,kl2'];simp(maxSteps:=9^9)(disch:=omega)only[ZZ,simprocAttr,rch,ORB,asmC.ca,cryH,Qbk,cntC.H1,kl2'];obtain⟨hp1,hp2⟩:=hpre;refine Qay.old ⟨{s:Option (D×D)×List (Qae×List Int)×Nat//s.2.2+cntO s.2.1=cntO a.Op/\(∀q∈s.2.1,q.2.length<=1000)/\s.2.1.length<=1000000},fun s=>⟨[(10,.it 3),(3,.im (.int .i64 s.1.2.2)),(0,.ptr 0 0)],[(3,(true,.iter s.1.1 (s.1.2.1.map Qbc))),(0,(true,.cells 290 (Qbk a.Sys))),(1,(true,.map ⟨true,[.int .i64,.int .i64]⟩ (a.Tl.map Qbe))),(2,(false,.map ⟨true,[.int .i64,.int .i64]⟩ (a.Op.map Qbc)))],4⟩,fun s=>s.1.2.1.length,fun s=>⟨by simp[Qad.good,belT,belH,Qam,AV.bel,belL,Qbk],by simp⟩,⟨⟨(none,a.Op,0),by simp only;exact⟨by omega,hp2,hp1⟩⟩,by simp only[Qbk];simp(maxSteps:=9^9)(disch:=omega)only[ZZ,simprocAttr,rch,ORB,asmC.ca,cryH,Qbk,cntC.H1,kl2',sub]⟩,fun s=> ?_⟩;obtain⟨⟨last,left,n⟩,hs1,hs2,hs3⟩:=s;simp only at hs1 hs2 hs3;simp only[Qbk];simp(maxSteps:=9^9)(disch:=omega)only[ZZ,simprocAttr,rch,ORB,asmC.ca,cryH,Qbk,cntC.H1,kl2',sub,Qal];refine⟨fun hl=> ?_,fun i p hp=> ?_⟩
 .have hl':left=[]:=by simpa using hl
  subst hl'
  have:n=cntO a.Op:=by simpa[cntO] using hs1
  rw[this]
  try trivial
 .rw[ZaN] at hp;cases hq:left[i]? with
  |none=>rw[hq] at hp;cases hp
  |some q=>
   rw[hq] at hp;obtain rfl:=Zaa hp;obtain⟨⟨qx,qy⟩,qn⟩:=q;have hi:i<left.length:=by
    rcases ZbA i left.length with h|h
    .exact h
    .rw[ZaZ h] at hq;cases hq
   have hpm:((⟨qx,qy⟩,qn)::left.eraseIdx i).Perm left:=Qqq _ _ _ hq;have hqn:qn.length<=1000:=hs2 _ (Zae hq);have hc2:n+qn.length+cntO (left.eraseIdx i)=cntO a.Op:=by
    have:=Qakx _ _ _ hq
    simp only at this;omega
   have hbn:cntO a.Op<=1000000*1000:=cnt_b hp1 hp2;simp only[Qbc,Qae.c];simp(maxSteps:=9^9)(disch:=omega)only[ZZ,simprocAttr,rch,ORB,asmC.ca,cryH,Qbk,cntC.H1,kl2',sub,Qal];intro _;refine⟨⟨(some (D.agg [.int .i64 qx,.int .i64 qy],.sl false 1 (qn.map intC)),left.eraseIdx i,n+qn.length),?_⟩,?_,?_,?_⟩
   .simp only;refine⟨hc2,fun q hq=>hs2 q (hpm.mem_iff.1 (Zas _ hq)),?_⟩
    have:=hpm.length_eq
    simp at this;omega
   .simp only[Zed];rw[Zak hi];omega
   .rw[Qak (by omega) (by omega)];simp only;omega
   .simp[Qcd,Qwf]
 simp[cntC.H1] at hp;subst hp;exact .inl ⟨by omega,rfl,rfl⟩
theorem ops_ok{s:Qar}{a:Asm}(c1:Qjc s=true)(c2:Qcp s.Set a=true):newC.pre (s,a)/\(∀q∈(Qui s a).Op,q.2.length<=1000)/\(Qui s a).Op.length<=1000000/\(0<cntO (Qui s a).Op↔Qaj8 s a≠[]):=by
 obtain⟨⟨q1,q2,q3,_⟩,q5,_⟩:=Qacj c1;obtain⟨h3,h4⟩:=Qdg c2;have hbp:=Qof (s:=s.Set) (a:=a) (by rw[q5,c2];rfl);have hT:1<=s.Temperature:=by
  simp only[Qjc,Qau,Zaf,Zan] at c1;exact c1.2.2.2.1.1
 have hat:Qbw (tlUp a.Tiles)=atA a:=(RM.of h3.1 fun x hx=>(h3.2 x hx).1).at;have hop:OpOk s (atA a) (Qui s a).Op:=by
  have:=op_new (s:=s) (l:=a.Tiles) hT
  rw[hat] at this;simp only[Qui,hat];exact this
 have hlaw:=Qap2 hT hop;have hlen:=Qapz hop.1;rw[hlaw] at hlen;have hv: ∀q∈(Qui s a).Op,lkP (Qui s a).Op q.1=some q.2:=fun q hq=>Qap9 hop.1 hq
 have hv2: ∀q∈(Qui s a).Op,q.2=Qajt s (atA a) q.1/\q.2≠[]:=fun q hq=>by
  have h5:=hv q hq;rw[hop.2,nonE] at h5;split at h5
  .cases h5
  .rename_i c;have h6:=Zaa h5;exact⟨h6.symm,by rw[<-h6];exact c⟩
 refine⟨⟨q1,by simp only;omega,fun y hy=>⟨h3.2 y hy,hbp.1.2.2.2 y hy⟩⟩,fun q hq=> ?_,?_,?_⟩
 .rw[(hv2 q hq).1];exact Zba (Qus s _ _ _) (by omega)
 .have h6:(Qui s a).Op.length<=cntO (Qui s a).Op:=cnt_ge fun q hq=>(hv2 q hq).2
  have h7:=Qakc (g:=fun p=>atU s (atA a) p s.Set.Tiles.length) (m:=160) (fun p=>Zba (Qakm s (atA a) p _) (by omega)) (Qajq a a.Tiles.length);have h8:=Qaj2 a a.Tiles.length;have h9:(Qajq a a.Tiles.length).length*160<=2000*160:=Zbf _ (by omega);have h10:(Qaj8 s a).length<=2000*160:=Zba h7 h9;omega
 .rw[<-hlen,ZbP]
def rise(lo hi:Int):Option Int->List Int->Bool
 |_,[]=>true
 |q,p::r=>Qau p lo hi && ((match q with|none=>true|some x=>decide (x<p)) && rise lo hi (some p) r)
theorem Qapp(lo hi:Int)(q:Option Int)(p:Int)(r:List Int):rise lo hi q (p::r)=(Qau p lo hi && ((match q with|none=>true|some x=>decide (x<p)) && rise lo hi (some p) r)):=by cases q<;>rfl
theorem Qap8(lo hi:Int)(q:Option Int):rise lo hi q []=true:=by cases q<;>rfl
def Qapo(l:List Int)(k:Nat):Option Int:=if k=0 then none else l[k - 1]?
theorem Qapm{l:List Int}{k:Nat}{p:Int}(h:l[k]? =some p):Qapo l (k+1)=some p:=by simp[Qapo,h]
def Qapn(l:List Int)(b:Bond):Bool:= !(decide (b.A∈l)==decide (b.B∈l))
def sumW:List Bond->Int->Int
 |[],n=>n
 |b::r,n=>sumW r (IntKind.i64.wrap (n+b.Strength))
def cutI(bs:List Bond)(l:List Int):Int:=sumW (bs.filter (Qapn l)) 0
def flS(lv:List Int)(b:Bond)(f:Int):List Int:=(lv.set b.A.toNat (IntKind.i64.wrap (lv.getD b.A.toNat 0+f))).set b.B.toNat (IntKind.i64.wrap ((lv.set b.A.toNat (IntKind.i64.wrap (lv.getD b.A.toNat 0+f))).getD b.B.toNat 0 - f))
theorem flS_len(lv:List Int)(b:Bond)(f:Int):(flS lv b f).length=lv.length:=by simp[flS]
def flR:List Bond->List Int->List Int->Option (List Int)
 |b::bs,f::fl,lv=>if Qau f (-b.Strength) b.Strength=true then flR bs fl (flS lv b f) else none
 |[],_,lv=>some lv
 |_::_,[],lv=>some lv
theorem Qap6(lv:List Int)(n:Nat)(v:Int):(lv.map intC).set n [D.int .i64 v]=(lv.set n v).map intC:=(ZcP (f:=intC)).symm
def restB(x y:Int)(lv:List Int):Bool:=decide (∀i,i<lv.length->lv.getD i 0=0\/(i:Int)=x\/(i:Int)=y)
def chkM(bs:List Bond)(fl:List Int)(n:Nat)(x y:Int):Int×Int:=match flR bs fl (List.replicate n 0) with
 |none=>(0,10)
 |some lv=>if restB x y lv=true then (lv.getD x.toNat 0,0) else (0,10)
theorem chkM_no{bs:List Bond}{fl:List Int}{n:Nat}{x y:Int}(h:flR bs fl (List.replicate n 0)=none):chkM bs fl n x y=(0,10):=by simp only[chkM,h]
theorem Qap5{bs:List Bond}{fl:List Int}{n:Nat}{x y:Int}{lv:List Int}(h:flR bs fl (List.replicate n 0)=some lv):chkM bs fl n x y=if restB x y lv=true then (lv.getD x.toNat 0,0) else (0,10):=by simp only[chkM,h]
def chkF(s:Qaa)(a:Asm)(x y:Int)(fl:List Int):Int×Int:=
 if (Qcl s && Qcp s a)=false then (0,1)
 else if (Qau x 0 (a.Tiles.length - 1) && (Qau y 0 (a.Tiles.length - 1) && decide (x≠y)))=false then (0,2)
 else if fl.length≠(Qel s a a.Tiles.length).length then (0,10)
 else chkM (Qel s a a.Tiles.length) fl a.Tiles.length x y
theorem Qaps{x y:Int}{lv:List Int}:restB x y lv=true↔ ∀(i:Nat) (v:Int),lv[i]? =some v->v=0\/(i:Int)=x\/(i:Int)=y:=by
 simp only[restB,Zan];constructor
 .intro h i v hv;have hi:=(Zaj.1 hv).1
  have:=h i hi
  rwa [Zcs,hv,Zad] at this
 .intro h i hi
  have:=h i lv[i] (Zac hi)
  rwa [Zcs,Zac hi,Zad]
def flwB(s:Qaa)(a:Asm)(t:Int)(i:Nat)(fl:List Int):Bool:=decide ((chkF s a 0 (i+1) fl).2=0/\t<=(chkF s a 0 (i+1) fl).1)
def flwA(s:Qaa)(a:Asm)(t:Int):Nat->List (List Int)->Bool
 |_,[]=>true
 |i,f::r=>flwB s a t i f && flwA s a t (i+1) r
def stbB(s:Qar)(a:Asm)(fl:List (List Int)):Bool:=decide ((fl.length:Int)=max ((a.Tiles.length:Int) - 1) 0) && flwA s.Set a s.Temperature 0 fl
def losB(s:Qar)(a:Asm)(l:List Int):Bool:=rise 0 (a.Tiles.length - 1) none l && (decide (l≠[]) && (decide (l.length<a.Tiles.length) && decide (cutI (Qel s.Set a a.Tiles.length) l<s.Temperature)))
def ledB(s:Qar)(l:List Opt)(a:Asm):Bool:=decide ((seqS s l).2.2=0) && decide ((seqS s l).1=a)
def Qapl(l:List Opt):Opt:=l.getLastD ⟨⟨0,0⟩,0⟩
theorem Qapu{l:List Opt}(h:l≠[]){x:Opt}(hx:l[l.length - 1]? =some x):Qapl l=x:=by
 rw[Qapl,List.getLastD_eq_getLast?,List.getLast?_eq_getElem?,hx];rfl
def cnfB(s:Qar)(one two:List Opt)(a:Asm):Bool:=decide (one≠[]) && (decide (two≠[]) && (ledB s one a && (decide ((seqS s two).2.2=0) && (decide ((Qapl one).At=(Qapl two).At) && decide ((Qapl one).Tile≠(Qapl two).Tile)))))
def hldB(s:Qar)(a:Asm)(p:Qajo):Bool:=
 if p.Kind=1 then ledB s p.Sequence a
 else if p.Kind=2 then ledB s p.Sequence a && decide (Qaj8 s a=[])
 else if p.Kind=3 then ledB s p.Sequence a && decide ((lfF s p.Sequence).2.2=3)
 else if p.Kind=4 then cnfB s p.Sequence p.Other a
 else if p.Kind=5 then stbB s a p.Flows
 else losB s a p.Part
def fldB(p:Qajo):Bool:=(decide (p.Kind<=4)||decide (p.Sequence=[])) && ((decide (p.Kind=4)||decide (p.Other=[])) && ((decide (p.Kind=6)||decide (p.Part=[])) && (decide (p.Kind=5)||decide (p.Flows=[]))))
def chkPF(s:Qar)(a:Asm)(p:Qajo):Int:=if askC s a≠0 then 1 else if Qau p.Kind 1 6=false then 2 else if (fldB p && hldB s a p)=true then 0 else 10
theorem Qap3(lo:Int): ∀(l:List Int) (hi:Int) (q:Int),rise lo hi (some q) l=true->(l.length:Int)<=max (hi - q) 0
 |[],hi,q,_=>by simp;omega
 |x::r,hi,q,h=>by
  rw[Qapp] at h;simp only[Zaf,Zan,Qau] at h;obtain⟨⟨h1,h2⟩,h3,h4⟩:=h
  have:=Qap3 lo r hi x h4
  rw[ZaF];omega
theorem rise_le{n:Nat}{l:List Int}(h:rise 0 (n - 1) none l=true):l.length<=n:=by
 cases l with
 |nil=>simp
 |cons x r=>
  rw[Qapp] at h;simp only[Zaf,Zan,Qau,ZaD] at h
  have:=Qap3 0 r ((n:Int) - 1) x h.2
  rw[ZaF];omega
theorem Qapx: ∀(l:List Bond) (b:Bond) (n:Int),sumW (l++[b]) n=IntKind.i64.wrap (sumW l n+b.Strength)
 |[],b,n=>rfl
 |x::r,b,n=>by rw[ZaJ,sumW,Qapx r b,sumW]
end Go.Ae
