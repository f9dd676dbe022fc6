/- Lemmas. Conditions: none. -/
import Derived.Test.YthegngjaiiopdaaGreatP11
import Derived.Shelf.SlSortCmp.WholeK
import Derived.Shelf.SlicesG.Cmp
import Derived.StillTailTactics
import Derived.Lib.Small
import Derived.Lib.Walk
import Derived.Shelf.SlSortCmp.NoneTotal
set_option linter.all false
set_option maxHeartbeats 8000000
set_option maxRecDepth 100000
namespace Go.Proofs
open Go.Shelf
def Tryz.sortPl_ren:Go.Shelf.Ren:=⟨fun|6=>178|15=>182|14=>203|28=>212|29=>213|20=>225|21=>226|22=>227|23=>228|24=>229|25=>230|26=>231|27=>232|46=>245|47=>234|48=>235|49=>246|50=>247|57=>252|n=>n,fun|22=>43|24=>160|25=>240|3=>3|39=>244|0=>0|53=>276|55=>278|4=>4|46=>270|45=>269|50=>223|5=>5|9=>9|66=>298|70=>302|76=>320|77=>321|n=>n,fun|n=>n⟩
theorem Tryz.sortPl:Go.Proofs.SlLaysF0.n6 Tryz.prog Tryz.sortPl_ren:={
 mixed:=by kernel_rfl
 f6:=⟨Tryz.f178.name,by decide,Tryz.func178.trans (ZbJ some (by kernel_rfl))⟩
 f14:=⟨Tryz.f203.name,by decide,Tryz.func203.trans (ZbJ some (by kernel_rfl))⟩
 f15:=Tryz.func182.trans (ZbJ some (by kernel_rfl))
 f20:=⟨Tryz.f225.name,by decide,Tryz.func225.trans (ZbJ some (by kernel_rfl))⟩
 f21:=⟨Tryz.f226.name,by decide,Tryz.func226.trans (ZbJ some (by kernel_rfl))⟩
 f22:=⟨Tryz.f227.name,by decide,Tryz.func227.trans (ZbJ some (by kernel_rfl))⟩
 f23:=⟨Tryz.f228.name,by decide,Tryz.func228.trans (ZbJ some (by kernel_rfl))⟩
 f24:=⟨Tryz.f229.name,by decide,Tryz.func229.trans (ZbJ some (by kernel_rfl))⟩
 f25:=⟨Tryz.f230.name,by decide,Tryz.func230.trans (ZbJ some (by kernel_rfl))⟩
 f26:=⟨Tryz.f231.name,by decide,Tryz.func231.trans (ZbJ some (by kernel_rfl))⟩
 f27:=⟨Tryz.f232.name,by decide,Tryz.func232.trans (ZbJ some (by kernel_rfl))⟩
 f28:=Tryz.func212.trans (ZbJ some (by kernel_rfl))
 f29:=Tryz.func213.trans (ZbJ some (by kernel_rfl))
 f46:=⟨Tryz.f245.name,by decide,Tryz.func245.trans (ZbJ some (by kernel_rfl))⟩
 f47:=Tryz.func234.trans (ZbJ some (by kernel_rfl))
 f48:=Tryz.func235.trans (ZbJ some (by kernel_rfl))
 f49:=⟨Tryz.f246.name,by decide,Tryz.func246.trans (ZbJ some (by kernel_rfl))⟩
 f50:=⟨Tryz.f247.name,by decide,Tryz.func247.trans (ZbJ some (by kernel_rfl))⟩
 f57:=⟨Tryz.f252.name,by decide,Tryz.func252.trans (ZbJ some (by kernel_rfl))⟩
 t0:=Tryz.underlying0
 a0:=Tryz.isAgg0
 z0:=Tryz.sizeOf0
 v0:=Tryz.zeroValue0
 t3:=Tryz.underlying3
 a3:=Tryz.isAgg3
 z3:=Tryz.sizeOf3
 v3:=Tryz.zeroValue3
 t4:=Tryz.underlying4
 a4:=Tryz.isAgg4
 z4:=Tryz.sizeOf4
 v4:=Tryz.zeroValue4
 t5:=Tryz.underlying5
 a5:=Tryz.isAgg5
 z5:=Tryz.sizeOf5
 v5:=Tryz.zeroValue5
 t9:=Tryz.underlying9
 a9:=Tryz.isAgg9
 z9:=Tryz.sizeOf9
 v9:=Tryz.zeroValue9
 t22:=Tryz.underlying43
 a22:=Tryz.isAgg43
 z22:=Tryz.sizeOf43
 v22:=Tryz.zeroValue43
 t25:=Tryz.underlying240
 a25:=Tryz.isAgg240
 z25:=Tryz.sizeOf240
 v25:=Tryz.zeroValue240
 t39:=Tryz.underlying244
 a39:=Tryz.isAgg244
 z39:=Tryz.sizeOf244
 v39:=Tryz.zeroValue244
 t45:=Tryz.underlying269
 a45:=Tryz.isAgg269
 z45:=Tryz.sizeOf269
 v45:=Tryz.zeroValue269
 t46:=Tryz.underlying270
 a46:=Tryz.isAgg270
 z46:=Tryz.sizeOf270
 v46:=Tryz.zeroValue270
 t50:=Tryz.underlying223
 a50:=Tryz.isAgg223
 z50:=Tryz.sizeOf223
 v50:=Tryz.zeroValue223
 t53:=Tryz.underlying276
 a53:=Tryz.isAgg276
 z53:=Tryz.sizeOf276
 v53:=Tryz.zeroValue276
 t55:=Tryz.underlying278
 a55:=Tryz.isAgg278
 z55:=Tryz.sizeOf278
 v55:=Tryz.zeroValue278
 t66:=Tryz.underlying298
 a66:=Tryz.isAgg298
 z66:=Tryz.sizeOf298
 v66:=Tryz.zeroValue298
 t70:=Tryz.underlying302
 a70:=Tryz.isAgg302
 z70:=Tryz.sizeOf302
 v70:=Tryz.zeroValue302
 t76:=Tryz.underlying320
 a76:=Tryz.isAgg320
 z76:=Tryz.sizeOf320
 v76:=Tryz.zeroValue320
 t77:=Tryz.underlying321
 a77:=Tryz.isAgg321
 z77:=Tryz.sizeOf321
 v77:=Tryz.zeroValue321}
def Tryz.sortPt_ren:Go.Shelf.Ren:=⟨fun|6=>153|15=>182|14=>181|28=>212|29=>213|20=>204|21=>205|22=>206|23=>207|24=>208|25=>209|26=>210|27=>211|46=>233|47=>234|48=>235|49=>236|50=>237|57=>248|n=>n,fun|22=>158|24=>58|25=>181|3=>3|39=>244|0=>0|53=>276|55=>278|4=>4|46=>270|45=>269|50=>223|5=>5|9=>9|66=>298|70=>302|76=>320|77=>321|n=>n,fun|n=>n⟩
theorem Tryz.sortPt:Go.Proofs.SlLaysF0.n6 Tryz.prog Tryz.sortPt_ren:={
 mixed:=by kernel_rfl
 f6:=⟨Tryz.f153.name,by decide,Tryz.func153.trans (ZbJ some (by kernel_rfl))⟩
 f14:=⟨Tryz.f181.name,by decide,Tryz.func181.trans (ZbJ some (by kernel_rfl))⟩
 f15:=Tryz.func182.trans (ZbJ some (by kernel_rfl))
 f20:=⟨Tryz.f204.name,by decide,Tryz.func204.trans (ZbJ some (by kernel_rfl))⟩
 f21:=⟨Tryz.f205.name,by decide,Tryz.func205.trans (ZbJ some (by kernel_rfl))⟩
 f22:=⟨Tryz.f206.name,by decide,Tryz.func206.trans (ZbJ some (by kernel_rfl))⟩
 f23:=⟨Tryz.f207.name,by decide,Tryz.func207.trans (ZbJ some (by kernel_rfl))⟩
 f24:=⟨Tryz.f208.name,by decide,Tryz.func208.trans (ZbJ some (by kernel_rfl))⟩
 f25:=⟨Tryz.f209.name,by decide,Tryz.func209.trans (ZbJ some (by kernel_rfl))⟩
 f26:=⟨Tryz.f210.name,by decide,Tryz.func210.trans (ZbJ some (by kernel_rfl))⟩
 f27:=⟨Tryz.f211.name,by decide,Tryz.func211.trans (ZbJ some (by kernel_rfl))⟩
 f28:=Tryz.func212.trans (ZbJ some (by kernel_rfl))
 f29:=Tryz.func213.trans (ZbJ some (by kernel_rfl))
 f46:=⟨Tryz.f233.name,by decide,Tryz.func233.trans (ZbJ some (by kernel_rfl))⟩
 f47:=Tryz.func234.trans (ZbJ some (by kernel_rfl))
 f48:=Tryz.func235.trans (ZbJ some (by kernel_rfl))
 f49:=⟨Tryz.f236.name,by decide,Tryz.func236.trans (ZbJ some (by kernel_rfl))⟩
 f50:=⟨Tryz.f237.name,by decide,Tryz.func237.trans (ZbJ some (by kernel_rfl))⟩
 f57:=⟨Tryz.f248.name,by decide,Tryz.func248.trans (ZbJ some (by kernel_rfl))⟩
 t0:=Tryz.underlying0
 a0:=Tryz.isAgg0
 z0:=Tryz.sizeOf0
 v0:=Tryz.zeroValue0
 t3:=Tryz.underlying3
 a3:=Tryz.isAgg3
 z3:=Tryz.sizeOf3
 v3:=Tryz.zeroValue3
 t4:=Tryz.underlying4
 a4:=Tryz.isAgg4
 z4:=Tryz.sizeOf4
 v4:=Tryz.zeroValue4
 t5:=Tryz.underlying5
 a5:=Tryz.isAgg5
 z5:=Tryz.sizeOf5
 v5:=Tryz.zeroValue5
 t9:=Tryz.underlying9
 a9:=Tryz.isAgg9
 z9:=Tryz.sizeOf9
 v9:=Tryz.zeroValue9
 t22:=Tryz.underlying158
 a22:=Tryz.isAgg158
 z22:=Tryz.sizeOf158
 v22:=Tryz.zeroValue158
 t25:=Tryz.underlying181
 a25:=Tryz.isAgg181
 z25:=Tryz.sizeOf181
 v25:=Tryz.zeroValue181
 t39:=Tryz.underlying244
 a39:=Tryz.isAgg244
 z39:=Tryz.sizeOf244
 v39:=Tryz.zeroValue244
 t45:=Tryz.underlying269
 a45:=Tryz.isAgg269
 z45:=Tryz.sizeOf269
 v45:=Tryz.zeroValue269
 t46:=Tryz.underlying270
 a46:=Tryz.isAgg270
 z46:=Tryz.sizeOf270
 v46:=Tryz.zeroValue270
 t50:=Tryz.underlying223
 a50:=Tryz.isAgg223
 z50:=Tryz.sizeOf223
 v50:=Tryz.zeroValue223
 t53:=Tryz.underlying276
 a53:=Tryz.isAgg276
 z53:=Tryz.sizeOf276
 v53:=Tryz.zeroValue276
 t55:=Tryz.underlying278
 a55:=Tryz.isAgg278
 z55:=Tryz.sizeOf278
 v55:=Tryz.zeroValue278
 t66:=Tryz.underlying298
 a66:=Tryz.isAgg298
 z66:=Tryz.sizeOf298
 v66:=Tryz.zeroValue298
 t70:=Tryz.underlying302
 a70:=Tryz.isAgg302
 z70:=Tryz.sizeOf302
 v70:=Tryz.zeroValue302
 t76:=Tryz.underlying320
 a76:=Tryz.isAgg320
 z76:=Tryz.sizeOf320
 v76:=Tryz.zeroValue320
 t77:=Tryz.underlying321
 a77:=Tryz.isAgg321
 z77:=Tryz.sizeOf321
 v77:=Tryz.zeroValue321}
def Tryz.cmpI64_ren:Go.Shelf.Ren:=⟨fun|5=>156|7=>183|n=>n,fun|22=>2|3=>3|4=>4|n=>n,fun|n=>n⟩
theorem Tryz.cmpI64:Go.Proofs.SlLaysC2.n5 Tryz.prog Tryz.cmpI64_ren:={
 mixed:=by kernel_rfl
 f5:=⟨Tryz.f156.name,by decide,Tryz.func156.trans (ZbJ some (by kernel_rfl))⟩
 f7:=⟨Tryz.f183.name,by decide,Tryz.func183.trans (ZbJ some (by kernel_rfl))⟩
 t3:=Tryz.underlying3
 a3:=Tryz.isAgg3
 z3:=Tryz.sizeOf3
 v3:=Tryz.zeroValue3
 t4:=Tryz.underlying4
 a4:=Tryz.isAgg4
 z4:=Tryz.sizeOf4
 v4:=Tryz.zeroValue4
 t22:=Tryz.underlying2
 a22:=Tryz.isAgg2
 z22:=Tryz.sizeOf2
 v22:=Tryz.zeroValue2}
end Go.Proofs
namespace Go.Proofs
open Go.Shelf Go.RowKit Go.Lib Go.Sort
theorem Tryz.cmp64(x y:Int)(W:World):Calls Tryz.prog 156 #[.int .i64 x,.int .i64 y] W fun e w'=>e= .returned (.int .i64 (Lib.compareInt x y))/\w'=W:=
 AnyG.cmp_Compare_int Tryz.cmpI64 x y W
theorem Tryz.orTwo(b:Nat)(x y:Int)(W:World)(h0:W.cell? ⟨b,0,none⟩=some (.int .i64 x))(h1:W.cell? ⟨b,1,none⟩=some (.int .i64 y)):
 Calls Tryz.prog 155 #[.slice (some ⟨b,0,none⟩) 2 2] W fun e w'=>e= .returned (.int .i64 (if x=0 then y else x))/\w'=W:=by
 go_enter Tryz.func155,Tryz.ntmps155
 go_wp2
 refine wp_loop_rounds 3 ?_;rw[rounds_succ]
 go_wp2
 all_goals (try rw[rounds_succ])
 all_goals (try go_wp2)
 all_goals (try rw[rounds_succ])
 all_goals (try go_wp2)
 all_goals (go_ret;refine⟨?_,rfl⟩;simp_all)
theorem two_cells(W:World)(a b a' b':Value)(T:TypeId):
 let w3:=((W.alloc (Obj.cells #[a,b] T)).alloc (Obj.cells #[a',b'] T)).drew
 w3.cell? ⟨W.heap.size,0,none⟩=some a/\w3.cell? ⟨W.heap.size,1,none⟩=some b/\w3.cell? ⟨W.heap.size+1,0,none⟩=some a'/\w3.cell? ⟨W.heap.size+1,1,none⟩=some b'/\
  ∃os0,w3=grow (W.drewN 1) os0:=by
 have e:((W.alloc (Obj.cells #[a,b] T)).alloc (Obj.cells #[a',b'] T)).drew=grow (W.drewN 1) #[Obj.cells #[a,b] T,Obj.cells #[a',b'] T]:=by
  rw[alloc_eq_grow,alloc_eq_grow,grow_grow];rfl
 have h0:(W.heap++ #[Obj.cells #[a,b] T,Obj.cells #[a',b'] T])[W.heap.size]? =some (Obj.cells #[a,b] T):=by
  rw[ZdX (Zal _),Zcb];rfl
 have h1:(W.heap++ #[Obj.cells #[a,b] T,Obj.cells #[a',b'] T])[W.heap.size+1]? =some (Obj.cells #[a',b'] T):=by
  rw[ZdX (Nat.le_succ _),show W.heap.size.succ - W.heap.size=1 by omega];rfl
 simp only[e];refine⟨?_,?_,?_,?_,_,rfl⟩<;>unfold World.cell? <;>simp only[grow,World.drewN,h0,h1]<;>rfl
theorem Qvb(w:World)(a b:Value)(T:TypeId):(w.alloc (Obj.cells #[a,b] T)).cell? ⟨w.heap.size,0,none⟩=some a/\(w.alloc (Obj.cells #[a,b] T)).cell? ⟨w.heap.size,1,none⟩=some b:=by
 have h0:(w.heap.push (Obj.cells #[a,b] T))[w.heap.size]? =some (Obj.cells #[a,b] T):=by simp
 constructor<;>unfold World.cell? <;>simp only[World.alloc,h0]<;>rfl
def Qabu(p q:Int×Int):Int:=if Lib.compareInt p.2 q.2=0 then Lib.compareInt p.1 q.1 else Lib.compareInt p.2 q.2
theorem Tryz.cmpPoints(x y x' y':Int)(W:World):Calls Tryz.prog 112 #[.agg #[.int .i64 x,.int .i64 y],.agg #[.int .i64 x',.int .i64 y']] W fun e w'=>
 e= .returned (.int .i64 (Qabu (x,y) (x',y')))/\ ∃q os',w'=grow (W.drewN q) os':=by
 have hc1:=fun W'=>Tryz.cmp64 y y' W'
 have hc2:=fun W'=>Tryz.cmp64 x x' W'
 unfold Qabu;simp only;generalize Lib.compareInt y y'=r1 at hc1⊢;generalize Lib.compareInt x x'=r2 at hc2⊢;have hor:=fun (b:Nat) W'=>Tryz.orTwo b r1 r2 W'
 generalize (if r1=0 then r2 else r1)=r at hor⊢
 go_enter Tryz.func112,Tryz.ntmps112
 go_wp2
 refine wp_region_still_tail 10 (by kernel_rfl) (by kernel_rfl) ?_;simp only[ZbI,Zbm,ZbW,ZbM];obtain⟨d1,d2,d3,d4,hg⟩:=two_cells W (.int .i64 x) (.int .i64 y) (.int .i64 x') (.int .i64 y') 58;change wpStill _ _ ((W.alloc (Obj.cells #[Value.int IntKind.i64 x,Value.int IntKind.i64 y] 58)).alloc (Obj.cells #[Value.int IntKind.i64 x',Value.int IntKind.i64 y'] 58)).drew (fun a'=>wpList _ _ _ _ a' ((W.alloc (Obj.cells #[Value.int IntKind.i64 x,Value.int IntKind.i64 y] 58)).alloc (Obj.cells #[Value.int IntKind.i64 x',Value.int IntKind.i64 y'] 58)).drew) _ _;generalize ((W.alloc (Obj.cells #[Value.int IntKind.i64 x,Value.int IntKind.i64 y] 58)).alloc (Obj.cells #[Value.int IntKind.i64 x',Value.int IntKind.i64 y'] 58)).drew=w3 at d1 d2 d3 d4 hg⊢
 still_step
 still_step
 still_step
 still_step
 still_call (hc1 _)
 still_step
 still_step
 still_step
 still_step
 still_call (hc2 _)
 refine wpStill_nil ?_
 go_wp2_with (go_at_call 155;refine (hor _ _ (Qvb _ _ _ _).1 (Qvb _ _ _ _).2).mono ?_;rintro e w' ⟨rfl,rfl⟩)
 go_ret
 obtain⟨os0,rfl⟩:=hg;exact⟨rfl,1,_,by rw[alloc_eq_grow,grow_grow]⟩
theorem Tryz.cmpPlaced90(x y t x' y' t':Int)(W:World):Calls Tryz.prog 179 #[.agg #[.int .i64 x,.int .i64 y,.int .i64 t],.agg #[.int .i64 x',.int .i64 y',.int .i64 t']] W fun e w'=>
 e= .returned (.int .i64 (Qabu (x,y) (x',y')))/\ ∃q os',w'=grow (W.drewN q) os':=by
 have hcon:=fun W'=>Tryz.cmpPoints x y x' y' W'
 generalize Qabu (x,y) (x',y')=r at hcon⊢
 go_enter Tryz.func179,Tryz.ntmps179
 go_wp2_with (go_at_call 112;refine (hcon _).mono ?_;rintro e w' ⟨rfl,q,os',rfl⟩)
 go_ret
 exact⟨rfl,q,_,by rw[alloc_eq_grow,alloc_eq_grow,grow_grow];show grow (grow (W.drewN q) _) os'=_;rw[grow_grow]⟩
end Go.Proofs
namespace Go.Ae
open Go.Proofs Go.Sort Go.Shelf
instance:Inhabited Qab:=⟨⟨⟨0,0⟩,0⟩⟩
def encP(x:Qab):List Value:=[.int .i64 x.At.X,.int .i64 x.At.Y,.int .i64 x.Tile]
def cfP(x y:Qab):Int:=Qabu (x.At.X,x.At.Y) (y.At.X,y.At.Y)
theorem Qz0(x y:Qab):ltOf cfP x y=Qap x.At y.At:=by
 simp only[ltOf,cfP,Qabu,Lib.compareInt,Qap]
 grind
theorem swoP:SWO (ltOf cfP) where
 irrefl x:=by rw[Qz0];simp only[Qap];grind
 trans x y z h1 h2:=by rw[Qz0] at*;simp only[Qap] at*;grind
 ntrans x y z h1 h2:=by rw[Qz0] at*;simp only[Qap] at*;grind
def Qfh(l:List Qab):List Qab:=l.foldr (fun x r=>insT x.At x.Tile r) []
theorem Qn1(x:Qab): ∀(l:List Qab),(insT x.At x.Tile l).Perm (x::l)
 |[]=>Zdl _
 |y::r=>by
  simp only[insT];split
  .exact Zdl _
  .exact ((Qn1 x r).cons y).trans (List.Perm.swap x y r)
theorem Qd4: ∀(l:List Qab),(Qfh l).Perm l
 |[]=>Zdl _
 |x::r=>(Qn1 x (Qfh r)).trans ((Qd4 r).cons x)
theorem Quq{a b c:Qae}(h1:Qap a b=true)(h2:Qap c b=false):Qap c a=false:=by
 simp only[Qap] at*;grind
theorem Qx3(x:Qab): ∀(l:List Qab),l.Pairwise (fun a b=>Qap b.At a.At=false)->(insT x.At x.Tile l).Pairwise (fun a b=>Qap b.At a.At=false)
 |[],_=>by simp[insT]
 |y::r,h=>by
  rw[Zcf] at h;simp only[insT];split
  .rename_i hl;rw[Zcf,Zcf];refine⟨fun z hz=> ?_,h⟩;have hyx:Qap y.At x.At=false:=by simp only[Qap] at*;grind
   rcases Zav.1 hz with rfl|hz
   .exact hyx
   .have:=h.1 z hz
    exact Quq hl this
  .rename_i hl;rw[Zcf];refine⟨fun z hz=> ?_,Qx3 x r h.2⟩;rcases (Qlc _ _ _ _).1 hz with rfl|hz
   .simpa using hl
   .exact h.1 z hz
theorem Qnm: ∀(l:List Qab),(Qfh l).Pairwise (fun a b=>Qap b.At a.At=false)
 |[]=>List.Pairwise.nil
 |x::r=>Qx3 x _ (Qnm r)
theorem Qacy(l:List Qab):(Qfh l).length=l.length:=(Qd4 l).length_eq
theorem at_inj{l:List Qab}(h:(l.map Qab.At).Nodup){x y:Qab}(hx:x∈l)(hy:y∈l)(he:x.At=y.At):x=y:=by
 induction l with
 |nil=>cases hx
 |cons z r ih=>
  rw[Zan,ZbK] at h;rcases Zav.1 hx with h1|h1<;>rcases Zav.1 hy with h2|h2
  .rw[h1,h2]
  .exact absurd (show z.At∈r.map Qab.At by rw[<-h1,he];exact Zdg h2) h.1
  .exact absurd (show z.At∈r.map Qab.At by rw[<-h2,<-he];exact Zdg h1) h.1
  .exact ih h.2 h1 h2
theorem Qlp{l l':List Qab}(hd:(l.map Qab.At).Nodup)(hp:l'.Perm l)(hs:l'.Pairwise (fun a b=>Qap b.At a.At=false)):l'=Qfh l:=by
 refine Zes (le:=fun a b=>Qap b.At a.At=false) (fun a b ha hb h1 h2=> ?_) hs (Qnm l) (hp.trans (Qd4 l).symm);refine at_inj hd (hp.mem_iff.1 ha) ((Qd4 l).mem_iff.1 hb) ?_;revert h1 h2;obtain⟨⟨ax,ay⟩,at'⟩:=a;obtain⟨⟨bx,by'⟩,bt⟩:=b;simp only[Qap,Qae.mk.injEq]
 grind
def flP(l:List Qab):List Value:=l.flatMap encP
theorem flP_len(l:List Qab):(flP l).length=l.length*3:=by
 induction l with
 |nil=>rfl
 |cons x r ih=>simp only[flP,Zbf,ZaC,ZaG] at ih⊢;rw[ih];simp[encP];omega
theorem Ql5{ok:Nat->Prop}{hp:Nat->Option Obj}: ∀(l:List Qab) (L:List Value),rdr ok hp 3 (l.map Qab.c) L↔ ∃r,L=flP l++r
 |[],L=>by simp[rdr,flP]
 |x::r,L=>by
  simp only[Zan,rdr,Ql5 r,Qab.c,rdp,rd,flP,Zbf];constructor
  .rintro⟨_,⟨v,L1,rfl,rfl,v2,L2,rfl,rfl,v3,L3,rfl,rfl,_⟩,q,hq⟩;exact⟨q,by simp only[ZbW,ZbM] at hq;rw[hq];rfl⟩
  .rintro⟨q,rfl⟩;exact⟨rfl,⟨_,_,rfl,rfl,_,_,rfl,rfl,_,_,rfl,rfl,trivial⟩,q,rfl⟩
theorem flP_get: ∀(l:List Qab) (t:Nat),t<l.length*3->(flP l)[t]? =some ((encP (l[t/3]?.getD default))[t % 3]!)
 |[],t,h=>by simp at h
 |x::r,t,h=>by
  by_cases ht:t<3
  .have:t=0\/t=1\/t=2:=by omega
   rcases this with rfl|rfl|rfl<;>simp[flP,encP]
  .obtain⟨u,rfl⟩: ∃u,t=u+3:=⟨t - 3,by omega⟩;have e1:(u+3)/3=u/3+1:=by omega
   have e2:(u+3) % 3=u % 3:=by omega
   have ih:=flP_get r u (by simp at h;omega);rw[e1,e2,ZaS,<-ih];simp[flP,encP]
theorem Qvu(l:List Qab):(flatK encP 3 l.toArray).toList=flP l:=by
 apply Zcc;intro t;by_cases ht:t<l.length*3
 .rw[flP_get l t ht];have hs:t<(flatK encP 3 l.toArray).size:=by simp only[size_flatK,ZbU];exact ht
  have h1:=get_flatK encP 3 l.toArray t (by simpa using ht);rw[ZaT,ZaX hs,<-getElem!_pos (flatK encP 3 l.toArray) t hs,h1];congr 3;simp[getElem!_def];cases l[t/3]? <;>rfl
 .have a1:(flatK encP 3 l.toArray).toList.length<=t:=by rw[ZaK,size_flatK,ZbU];omega
  have a2:(flP l).length<=t:=by rw[flP_len];omega
  rw[ZaW a1,ZaW a2]
def srt.ca(_:List Qab):List AV:=[.own 0,.im (.fn 179 [] [])]
def srt.H0(a:List Qab):Qan:=[(0,(true,.arr 160 3 (a.map Qab.c)))]
def srt.H1(a:List Qab):Qan:=[(0,(true,.arr 160 3 ((Qfh a).map Qab.c)))]
def srt.row:Row:=orow srt.ca srt.H0 1 (fun a=>(a.map Qab.At).Nodup) (fun _=>true) (fun _=> .im (.tup [])) srt.H1 0
theorem srt.ok:Qas Tryz.prog 178 srt.row:=by
 rintro args h nx K ⟨a,τ,U,KL,hpre,rfl,hheap,hN,hK⟩;refine⟨Qh7 (by kernel_rfl),_,_,?_,hK⟩;intro C S vs R hW huse hfresh hnames hargs hfin;have hs0:sgx τ 1 nx 0=τ 0:=Zam (by omega);simp only[srt.ca,renL,AV.ren,hs0,Qa0,conc,rd,rdl] at hargs;obtain⟨v0,r0,hv,⟨hone,hown⟩,v1,r1,hr1,⟨ac,cc,hv1,hac,hcc⟩,hr2⟩:=hargs;have hac:ac= #[]:=by apply Zdj;simpa using hac
 have hcc:cc= #[]:=by apply Zdj;simpa using hcc
 subst hac hcc hr2 hr1 hv1;have hvs:vs= #[v0,.func (fnV 179) #[] #[]]:=by apply Zdj;simpa using hv
 subst hvs;have hm:h (τ 0)=some (true,.arr 160 3 (a.map Qab.c)):=by
  have:=hheap.1
  rwa [hs0] at this
 have hd0:domB (srt.H0 a) 0=true:=rfl;have hSm:S.h (τ 0)=some (true,.arr 160 3 (a.map Qab.c)):=by
  rw[huse (τ 0) (ZbC _ (hN.u 0 hd0)),hm]
 have hk0: ∀n,n∈KL↔n=τ 0:=by
  intro n;constructor
  .intro hn;obtain⟨j,h1,_,h3⟩:=hN.k1 n hn
   have:j=0:=by
    simp only[domB,srt.H0,hget] at h1;by_cases hj:j=0
    .exact hj
    .have:(0==j)=false:=by simpa using fun h=>hj h.symm
     rw[this] at h1;cases h1
   rw[h3,this]
  .rintro rfl;exact hN.k2 0 hd0 rfl
 obtain⟨m,hmm⟩: ∃m,m=τ 0:=⟨_,rfl⟩;rw[<-hmm] at hSm hown hk0;have hsl:=Qacy a;have fin: ∀(w':World),Qjb S m (.arr 160 3 ((Qfh a).map Qab.c)) (S.ρ m) [m] w'->
  (Pres (fun n=>S.h m≠none\/n≠m) S (S.one m (.arr 160 3 ((Qfh a).map Qab.c)) (S.ρ m) [m] w')->objc (S.one m (.arr 160 3 ((Qfh a).map Qab.c)) (S.ρ m) [m] w') (S.ρ m) (.arr 160 3 ((Qfh a).map Qab.c)))->R (.returned (.tuple #[])) w':=by
  intro w' hone hob;have hp:=Qg2 hW hone;refine hfin (.tuple #[]) _ (Qqp hW hone (hob hp)) ?_ ⟨hp.ok,fun n _=>hp.nm n (.inl (by rw[hSm];simp))⟩ ⟨#[],rfl,rfl⟩;funext n;simp only[Env.one,Eff.appf,srt.H1,renH,hs0,hget,AObj.ren,<-hmm];by_cases hn:n=m
  .subst hn;simp
  .have h1:(m==n)=false:=by simpa using fun h=>hn h.symm
   have h2:KL.contains n=false:=by
    rw[<-ZbS,Zbj,hk0];exact hn
   simp only[h1,ZaV,h2,hn,ZbB,Zaq]
 have hown':=hown _ hSm;have hobj:=hW.obj _ _ hSm;have hloc:=fun lc=>hW.loc m _ lc hSm
 cases hρ:S.ρ m with
 |none=>
  rw[hρ] at hown' hobj;simp only[objc] at hobj;have ha:a=[]:=by simpa using hobj.2
  subst ha;simp only at hown';rw[hown',Qoi (by decide)];refine (AnyF.slices_SortFunc_none Tryz.sortPl none 0 (.func (.func 179) #[] #[]) S.w).mono ?_;rintro e w' ⟨rfl,rfl⟩;refine fin S.w (Qacz hSm (fun l hl=>by rw[hρ] at hl;cases hl) rfl rfl) (fun _=> ?_);rw[hρ];exact⟨ZaP _,rfl⟩
 |some lc=>
  rw[hρ] at hown' hobj;simp only[objc,AObj.len] at hobj hown';obtain⟨g1,g2,cv,g3,g4,g5⟩:=hobj;obtain⟨hlb,hlk⟩:=hloc lc hρ;rw[Ql5] at g5;obtain⟨rest,g5⟩:=g5;simp only[Zbs] at g1 g2 hown';have hheap:S.w.heap[lc.b]? =some (.cells cv 160 (0,0)):=g3;have hlen:lc.p+a.length*3<=cv.size:=by omega
  have hF:(flatK encP 3 a.toArray).size=a.length*3:=by simp
  have hget: ∀j,j<a.length*3->cv[lc.p+j]? =some ((flatK encP 3 a.toArray)[j]!):=by
   intro j hj;have h1:(cv.toList.drop lc.p)[j]? =(flP a++rest)[j]? :=by rw[g5]
   rw[Zbp,ZaT,ZaB (by rw[flP_len];exact hj),<-Qvu,ZaT] at h1;rw[h1,ZaX (by rw[hF];exact hj),getElem!_pos _ _ (by rw[hF];exact hj)]
  have hH:HoldsK encP 3 S.w lc.b lc.p a.toArray:=by
   intro j hj;rw[hF] at hj;refine⟨?_,?_⟩
   .simp only[World.cell?,hheap,ZcZ,Zax,ZbB,id];exact hget j hj
   .simp only[World.frozen?,hheap];simp
  have hc:=AnyQ.slices_SortFunc Tryz.sortPl 3 Tryz.isAgg160 Tryz.sizeOf160 encP (fun _=>rfl) (fun x v hv=>by simp[encP] at hv;rcases hv with rfl|rfl|rfl<;>rfl) cfP swoP 179 #[] lc.b lc.p lc.cap a.toArray S.w
   (Qhx (Qh7 (by kernel_rfl))) (fun m os dk hs x y=>Tryz.cmpPlaced90 _ _ _ _ _ _ _) hH hlb (by simp only[ZbU,LIM] at g1⊢;omega)
  rw[hown',Qoi (by decide)];refine hc.mono ?_;rintro e w' ⟨rfl,d',n,os,hperm,hsort,rfl⟩;have hsz:d'.size=a.length:=hperm.1;have hd':d'.toList=Qfh a:=by
   refine Qlp hpre ?_ ?_
   .have:=hperm.2.2
    rwa [show d'.extract 0 a.toArray.size=d' by rw[ZbU,<-hsz];exact Zdo,show a.toArray.extract 0 a.toArray.size=a.toArray from Zdo] at this
   .rw[Zda];intro i j hi hj hij
    have:=hsort i j (ZaP _) hij (by rw[ZbU,<-hsz];simpa using hj)
    rw[Qz0,getElem!_pos d' i (by simpa using hi),getElem!_pos d' j (by simpa using hj)] at this;simpa using this
  obtain rfl:d'=(Qfh a).toArray:=by apply Zdj;rw[hd']
  have hF':(flatK encP 3 (Qfh a).toArray).size=a.length*3:=by simp[hsl]
  have hl2:(flatK encP 3 (Qfh a).toArray).toList.length=a.length*3:=by rw[ZaK,hF']
  have hsize:S.w.heap.size<=(sortWorldK encP 3 S.w lc.b lc.p n (Qfh a).toArray os).heap.size:=by
   simp[sortWorldK,grow,putRowK,Sort.ahead]
  have hb: ∀b,b<S.w.heap.size->(sortWorldK encP 3 S.w lc.b lc.p n (Qfh a).toArray os).heap[b]? =if lc.b=b then S.w.heap[b]?.map (onCells (putCells id lc.p (flatK encP 3 (Qfh a).toArray))) else S.w.heap[b]? :=by
   intro b hb;have e0:b<(putRowK encP 3 (Sort.ahead S.w n) lc.b lc.p (Qfh a).toArray).heap.size:=by simpa[putRowK,Sort.ahead] using hb
   simp only[sortWorldK,grow];rw[Zdx e0];simp only[putRowK,putRow,mapBlock,Sort.ahead,ZdO]
  refine fin _ ⟨rfl,rfl,rfl,hsize,?_,.inl (by simp),?_,?_,?_⟩ ?_
  .intro b hb1 hb2;rw[hb b hb1,Zai (hb2 m _ lc (by simp) hSm hρ)]
  .intro lo hlo;rw[hρ] at hlo;obtain rfl:=Zaa hlo;exact⟨Zbh hlb hsize,.inr ⟨m,_,lc,by simp,hSm,hρ,rfl⟩⟩
  .intro f hf;rw[hSm] at hf;obtain rfl:=Zaa hf;exact⟨rfl,rfl,by simp[AObj.len,hsl]⟩
  .intro n' f _ hnone;rw[hSm] at hnone;cases hnone
  .intro _;rw[hρ];simp only[objc,Zbs,hsl];refine⟨g1,g2,putCells id lc.p (flatK encP 3 (Qfh a).toArray) cv,?_,by simpa[putCells] using g4,?_⟩
   .simp only[Env.one,Env.hp];rw[hb lc.b hlb,Zam rfl,hheap];rfl
   .rw[Ql5];refine⟨(cv.toList.drop (lc.p+a.length*3)),?_⟩;apply Zcc;intro t;rw[Zbp,ZaT,putCells,Zez,hF',<-Qvu];by_cases ht:t<a.length*3
    .rw[ZaB (by rw[hl2];exact ht),ZaT,ZaX (show lc.p+t<cv.size by omega),ZaX (by rw[hF'];exact ht)];simp only[ZaO,id];rw[Zam ⟨by omega,by omega⟩,ZcL,getElem!_pos _ _ (by rw[hF'];exact ht)]
    .rw[ZaE (by rw[hl2];omega),hl2,Zbp,ZaT,show lc.p+a.length*3+(t - a.length*3)=lc.p+t by omega];cases cv[lc.p+t]? with
     |none=>rfl
     |some x=>simp only[ZaO];rw[Zai (by omega)]
end Go.Ae
namespace Go.Ae
open Go.Proofs
def asmOf.ar:List PK->Option ((List Qab)):=a1 (kS Qab.d)
def asmOf.ae(a:(List Qab)):List PK:=[.val (.sl false 3 (a.map Qab.c))]
def asmOf.fv(a:(List Qab)):Asm:=(fun l=>⟨Qfh l⟩) a
def asmOf.row:Row:=vrow asmOf.ar (fun a=>(a.map Qab.At).Nodup/\a.length<=1000000) (fun a=>(fun b=>D.agg (Asm.c b)) (asmOf.fv a))
def asmOf.q:=vq asmOf.row rfl
def YaO:=J @asmOf.ae.eq_1 @asmOf.fv.eq_1
theorem asmOf.ok:Qas Tryz.prog 151 asmOf.row:=by
 refine Qaj Qaq (tC clonC.ok (tC srt.ok tN)) Tryz.func151 rfl (by kernel_rfl) (by kernel_rfl) (ar:=asmOf.ar) (ae:=asmOf.ae) (Qacd (Qacb 3 Qab.d_le (fun _=>rfl))) (n:=1) (fun _=>rfl) (by decide) (rc:=(vAgg Asm.d)) (re:=(fun b=>D.agg (Asm.c b))) (Qb1 Asm.d_le) (f:=asmOf.fv) ?_;intro a hpre;simp only[Tryz.f151,Option.getD];simp(maxSteps:=9^9)(disch:=omega)only[ZZ,simprocAttr,rch,YaO];refine orow.os a [] hpre.2 (fun j=>by simp[domB,hget]) rfl rfl ?_ ?_
 .simp(maxSteps:=9^9)(disch:=omega)only[ZZ,simprocAttr,rch,YaO,clonC.ca,Qer,Qb4]
 simp(maxSteps:=9^9)(disch:=omega)only[ZZ,simprocAttr,rch,YaO,clonC.H1,sub];refine orow.os a [1] hpre.1 (fun j=> ?_) rfl rfl ?_ ?_
 .simp only[domB,srt.H0,hget];by_cases hj:j=0
  .subst hj;simp
  .have:(0==j)=false:=by simpa using fun h=>hj h.symm
   rw[this];simp;omega
 .simp(maxSteps:=9^9)(disch:=omega)only[ZZ,simprocAttr,rch,YaO,srt.ca,srt.H0,Qer];exact⟨rfl,rfl⟩
 simp(maxSteps:=9^9)(disch:=omega)only[ZZ,simprocAttr,rch,YaO,srt.H1,sub,Zbk,ZbX]
def mkPl(q:Qae×Int):Qab:=⟨q.1,q.2⟩
def repM1(m:Sim)(t:List (Qae×Int))(x:Qab):Option (List (Qae×Int)):=
 if (m.Labels[x.Tile.toNat]?.getD 0)<0 then some t
 else if (lkP t (Qgu x.At m.Scale).1).getD (m.Labels[x.Tile.toNat]?.getD 0)≠(m.Labels[x.Tile.toNat]?.getD 0) then none
 else some (updP t (Qgu x.At m.Scale).1 (m.Labels[x.Tile.toNat]?.getD 0))
theorem find_perm{l l':List Qab}(hp:l.Perm l')(hd:(l'.map Qab.At).Nodup)(p:Qae):l.find? (fun x=>decide (x.At=p))=l'.find? (fun x=>decide (x.At=p)):=by
 cases h1:l.find? (fun x=>decide (x.At=p)) with
 |none=>
  symm;rw[Zcz] at h1⊢;exact fun x hx=>h1 x (hp.mem_iff.2 hx)
 |some x=>
  have hx:=hp.mem_iff.1 (Zcp h1);have hxp:=Zco h1;cases h2:l'.find? (fun x=>decide (x.At=p)) with
  |none=>
   rw[Zcz] at h2;exact absurd hxp (h2 x hx)
  |some y=>
   have hy:=Zcp h2;have hyp:=Zco h2;rw[at_inj hd hx hy];rw[Zap] at hxp hyp;rw[hxp,hyp]
theorem lk_find(p:Qae): ∀(t:List (Qae×Int)),(((t.map mkPl).find? (fun x=>decide (x.At=p))).map Qab.Tile)=lkP t p
 |[]=>rfl
 |(k,w)::r=>by
  simp only[Zan,Zea,mkPl,lkP];by_cases h:k=p
  .subst h;simp
  .have h1:decide (k=p)=false:=by simpa using h
   have h2: ¬p=k:=fun h3=>h h3.symm
   rw[h1,Zai h2];exact lk_find p r
theorem Qac3(t:List (Qae×Int)):(t.map mkPl).map Qab.At=t.map Prod.fst:=by simp[mkPl]
theorem lk_at{t:List (Qae×Int)}(hd:(t.map Prod.fst).Nodup)(p:Qae):atA ⟨Qfh (t.map mkPl)⟩ p=(lkP t p).getD (-1):=by
 have hd':((t.map mkPl).map Qab.At).Nodup:=by rw[Qac3];exact hd
 simp only[atA];rw[find_perm (Qd4 _) hd',lk_find]
theorem Qm3{t:List (Qae×Int)}{p:Qae}(v:Int)(h:lkP t p=none):updP t p v=t++[(p,v)]:=by
 induction t with
 |nil=>rfl
 |cons q r ih=>
  obtain⟨k,w⟩:=q;simp only[lkP] at h;split at h
  .cases h
  .rename_i hn;simp only[updP,Zai hn,ZaF];rw[ih h]
theorem updP_same{t:List (Qae×Int)}{p:Qae}{v:Int}(h:lkP t p=some v):updP t p v=t:=by
 induction t with
 |nil=>cases h
 |cons q r ih=>
  obtain⟨k,w⟩:=q;simp only[lkP] at h;simp only[updP];split at h
  .rename_i he;obtain rfl:=Zaa h;rw[Zam he,he]
  .rename_i hn;rw[Zai hn,ih h]
theorem Qyz{t:List (Qae×Int)}{p:Qae}(h:lkP t p=none):p∉t.map Prod.fst:=by
 induction t with
 |nil=>simp
 |cons q r ih=>
  obtain⟨k,w⟩:=q;simp only[lkP] at h;split at h
  .cases h
  .rename_i hn;simp only[Zan,Zav,Zfc];exact⟨hn,ih h⟩
theorem Qac0{t:List (Qae×Int)}{p:Qae}{v:Int}(h:lkP t p=some v):(p,v)∈t:=by
 induction t with
 |nil=>cases h
 |cons q r ih=>
  obtain⟨k,w⟩:=q;simp only[lkP] at h;split at h
  .rename_i he;obtain rfl:=Zaa h;rw[he];exact Zas ..
  .exact Zar _ (ih h)
structure RM(t:List (Qae×Int))(o:Asm)(k:Nat):Prop where
 nd:(t.map Prod.fst).Nodup
 pos: ∀q∈t,0<=q.2
 eq:o=⟨Qfh (t.map mkPl)⟩
 len:t.length<=k
theorem RM.step{m:Sim}{t:List (Qae×Int)}{o:Asm}{k:Nat}(h:RM t o k)(x:Qab):(∃t' o',repM1 m t x=some t'/\repS1 m o x=some o'/\RM t' o' (k+1))\/(repM1 m t x=none/\repS1 m o x=none):=by
 obtain⟨nd,pos,rfl,len⟩:=h;simp only[repM1,repS1];generalize m.Labels[x.Tile.toNat]?.getD 0=n;generalize (Qgu x.At m.Scale).1=p;by_cases c1:n<0
 .rw[Zam c1,Zam c1];exact .inl ⟨_,_,rfl,rfl,nd,pos,rfl,by omega⟩
 rw[Zai c1,Zai c1,lk_at nd];cases hq:lkP t p with
 |none=>
  simp only[Option.getD_none];rw[Zai (by simp),Zai (by omega),Zam (by omega)];refine .inl ⟨_,_,rfl,rfl,?_,?_,?_,?_⟩
  .rw[Qm3 n hq,Zbz,Zcj];refine⟨nd,by simp,?_⟩;intro a ha b hb hab;simp only[Zan,ZaR,Zaq] at hb;exact Qyz hq (by rw[<-hb,<-hab];exact ha)
  .intro q hm;rw[Qm3 n hq] at hm;rcases Zao.1 hm with hm|hm
   .exact pos q hm
   .simp only[Zaq] at hm;subst hm;simp only;omega
  .rw[Qi8,Qm3 n hq];congr 1;have hd':(((t++[(p,n)]).map mkPl).map Qab.At).Nodup:=by
    rw[Qac3,Zbz,Zcj];refine⟨nd,by simp,?_⟩;intro a ha b hb hab;simp only[Zan,ZaR,Zaq] at hb;exact Qyz hq (by rw[<-hb,<-hab];exact ha)
   refine Qlp hd' ?_ (Qx3 ⟨p,n⟩ _ (Qnm _));refine (Qn1 ⟨p,n⟩ _).trans ?_;rw[Zbz];refine ((Qd4 _).cons _).trans ?_;exact (Zeg _ _).symm
  .rw[Qm3 n hq];simp;omega
 |some v=>
  simp only[Zac];have hv:=pos _ (Qac0 hq);simp only at hv;by_cases c2:v=n
  .subst c2;rw[Zai (by simp),Zai (by simp),Zai (by omega),updP_same hq];exact .inl ⟨_,_,rfl,rfl,nd,pos,rfl,by omega⟩
  .rw[Zam c2,Zam ⟨hv,c2⟩];exact .inr ⟨rfl,rfl⟩
theorem nodup_at{l:List Qab}(h:(l.map Qab.At).Nodup): ∀x∈l,∀y∈l,x.At=y.At->x=y:=by
 induction l with
 |nil=>intro x hx;cases hx
 |cons z r ih=>
  simp only[Zan,ZbK] at h;intro x hx y hy e;rcases Zav.1 hx with ex|hx2<;>rcases Zav.1 hy with ey|hy2
  .rw[ex,ey]
  .exact absurd (ZaJ.2 ⟨y,hy2,by rw[<-e,ex]⟩) h.1
  .exact absurd (ZaJ.2 ⟨x,hx2,by rw[e,ey]⟩) h.1
  .exact ih h.2 x hx2 y hy2 e
theorem Qala{s:Qaa}{a:Asm}(h: ∀x∈a.Tiles,Qcs s x.Tile)(p:Qae):Qaw (fun x=>decide (x.At=p)) 0 a.Tiles<0↔atA a p<0:=by
 simp only[atA];rcases Qep (fun x=>decide (x.At=p)) a.Tiles 0 with ⟨h1,h2⟩|⟨i,x,h1,h2,h3⟩
 .rw[h1,h2];simp
 .rw[h1,h2]
  have:=(h x (Zad h3)).1
  simp only[ZaO,Zac];omega
theorem RM.put{t:List (Qae×Int)}{o:Asm}{k:Nat}(h:RM t o k){p:Qae}{v:Int}(hv:0<=v)(hn:lkP t p=none):RM (updP t p v) (putA o p v) (k+1):=by
 obtain⟨nd,pos,rfl,len⟩:=h;have hnd:((t++[(p,v)]).map Prod.fst).Nodup:=by
  rw[Zbz,Zcj];refine⟨nd,by simp,?_⟩;intro a ha b hb hab;simp only[Zan,ZaR,Zaq] at hb;exact Qyz hn (by rw[<-hb,<-hab];exact ha)
 rw[Qm3 v hn];refine⟨hnd,?_,?_,by simp;omega⟩
 .intro q hm;rcases Zao.1 hm with hm|hm
  .exact pos q hm
  .simp only[Zaq] at hm;subst hm;exact hv
 .rw[Qi8];congr 1;have hd':(((t++[(p,v)]).map mkPl).map Qab.At).Nodup:=by rw[Qac3];exact hnd
  refine Qlp hd' ?_ (Qx3 ⟨p,v⟩ _ (Qnm _));refine (Qn1 ⟨p,v⟩ _).trans ?_;rw[Zbz];refine ((Qd4 _).cons _).trans ?_;exact (Zeg _ _).symm
theorem RM.at{t:List (Qae×Int)}{o:Asm}{k:Nat}(h:RM t o k):Qbw t=atA o:=by
 funext p;rw[h.eq,lk_at h.nd];rfl
theorem RM.size{t:List (Qae×Int)}{o:Asm}{k:Nat}(h:RM t o k):o.Tiles.length=t.length:=by
 rw[h.eq];simp only[Qacy,Zbs]
theorem Qac4: ∀(l t:List Qab),((t++l).map Qab.At).Nodup->l.foldl (fun u x=>updP u x.At x.Tile) (t.map fun x=>(x.At,x.Tile))=(t++l).map fun x=>(x.At,x.Tile)
 |[],t,_=>by simp
 |x::r,t,h=>by
  have hx:lkP (t.map fun x=>(x.At,x.Tile)) x.At=none:=by
   cases hq:lkP (t.map fun x=>(x.At,x.Tile)) x.At with
   |none=>rfl
   |some v=>
    exfalso;obtain⟨y,hy,he⟩:=ZaJ.1 (Qac0 hq);have e1:y.At=x.At:=ZbJ Prod.fst he;rw[Zbz,Zcj] at h;exact h.2.2 _ (Zdg hy) _ (Zdg (Zas ..)) e1
  rw[Zdd,Qm3 _ hx]
  have:=Qac4 r (t++[x]) (by simpa using h)
  simpa using this
theorem RM.of{a:Asm}(hf:Qaz none a.Tiles=true)(hp: ∀x∈a.Tiles,0<=x.Tile):RM (tlUp a.Tiles) a a.Tiles.length:=by
 have hn:=Qix hf;have e:tlUp a.Tiles=a.Tiles.map fun x=>(x.At,x.Tile):=by
  have:=Qac4 a.Tiles [] (by simpa using hn)
  simpa[tlUp] using this
 have em:(a.Tiles.map fun x=>(x.At,x.Tile)).map mkPl=a.Tiles:=by
  rw[ZdR];exact List.map_id' _
 rw[e];refine⟨by rw[ZdR];exact hn,?_,?_,by simp⟩
 .intro q hq;obtain⟨x,hx,rfl⟩:=ZaJ.1 hq;exact hp x hx
 .rw[em];have hs:=(Qe4 _ _ hf).2;have hw:a.Tiles.Pairwise (fun x y=>Qap y.At x.At=false):=by
   rw[Zda];intro i j hi hj hij
   have:=hs i j a.Tiles[i] a.Tiles[j] hij (Zae hi) (Zae hj)
   simp only[Qap] at this⊢
   grind
  rw[<-Qlp hn (Zdl _) hw]
theorem fit_at{s:Qar}{a:Asm}(h:Qn7 s.Set a)(o:Opt):(Qau o.Tile 0 (s.Set.Tiles.length - 1) && Qpg s (atA a) o.At o.Tile)=canS s a o:=by
 have h2:decide (atA a o.At<0)=decide (Qaw (fun x=>decide (x.At=o.At)) 0 a.Tiles<0):=by rw[decide_eq_decide];exact (Qala h.2 o.At).symm
 simp only[Qpg,canS,Qae8];rw[h2];cases Qbi o.At<;>cases Qau o.Tile 0 (s.Set.Tiles.length - 1)<;>simp
def Qacn(s:Qar):List (Qae×Int)->List Opt->Nat->Asm×Int×Int
 |t,[],_=>(⟨Qfh (t.map mkPl)⟩,0,0)
 |t,o::r,i=>if (Qau o.Tile 0 (s.Set.Tiles.length - 1) && Qpg s (Qbw t) o.At o.Tile)=false then (⟨[]⟩,(i:Int),5) else if 500<=t.length then (⟨[]⟩,0,4) else Qacn s (updP t o.At o.Tile) r (i+1)
def Qacg(s:Qar):Asm->List Opt->Nat->Asm×Int×Int
 |a,[],_=>(a,0,0)
 |a,o::r,i=>if canS s a o=false then (⟨[]⟩,(i:Int),5) else if 500<=a.Tiles.length then (⟨[]⟩,0,4) else Qacg s (putA a o.At o.Tile) r (i+1)
theorem Qac5{s:Qar}(hs:s.Set.Tiles.length<=160): ∀(l:List Opt) (t:List (Qae×Int)) (a:Asm) (k i:Nat),RM t a k->Qn7 s.Set a->Qacn s t l i=Qacg s a l i
 |[],t,a,k,i,h,_=>by simp only[Qacn,Qacg,h.eq]
 |o::r,t,a,k,i,h,ha=>by
  simp only[Qacn,Qacg];rw[h.at,fit_at ha,<-h.size];by_cases c1:canS s a o=false
  .rw[Zam c1,Zam c1]
  rw[Zai c1,Zai c1];by_cases c2:500<=a.Tiles.length
  .rw[Zam c2,Zam c2]
  rw[Zai c2,Zai c2];rw[Zbb] at c1;simp only[canS,Zah,Zap] at c1;obtain⟨d1,d2,d3,_⟩:=c1;have hno:=Qma d3;have hv:0<=o.Tile:=by
   simp only[Qau,Zah,Zap] at d2;exact d2.1
  have hlk:lkP t o.At=none:=by
   have h1:Qbw t o.At=atA a o.At:=congrFun h.at o.At;have h2:=(Qala ha.2 o.At).1 d3;cases hq:lkP t o.At with
   |none=>rfl
   |some v=>
    exfalso;have h3:=h.pos _ (Qac0 hq);simp only[Qbw,hq,Zac] at h1;simp only at h3;omega
  have hw:Qau o.Tile 0 159=true:=by
   simp only[Qau,Zah,Zap] at d2⊢;omega
  refine Qac5 hs r _ _ (k+1) (i+1) (h.put hv hlk) ⟨?_,?_⟩
  .rw[Qi8];exact Qki d1 hw _ none ha.1 (fun q hq=>by cases hq) hno
  .intro x hx;rw[Qi8] at hx;rcases (Qlc _ _ _ _).1 hx with rfl|hx
   .simp only[Qau,Zah,Zap] at d2;exact⟨hv,by simp only;omega⟩
   .exact ha.2 x hx
def eqOption.ar:List PK->Option (Opt×Opt):=a2 (kR Opt.d) (kR Opt.d)
def eqOption.ae(a:Opt×Opt):List PK:=[.val (.agg (Opt.c a.1)),.val (.agg (Opt.c a.2))]
def eqOption.fv(a:Opt×Opt):Bool:=(fun a b=>decide (a=b)) (a.1) (a.2)
def eqOption.row:Row:=vrow eqOption.ar (fun a=>True) (fun a=>(D.bool) (eqOption.fv a))
def eqOption.q:=vq eqOption.row rfl
theorem eqOption.ok:Qas Tryz.prog 42 eqOption.row:=by
 refine Qaj Qaq (tC eqPoint.ok tN) Tryz.func42 rfl (by kernel_rfl) (by kernel_rfl) (ar:=eqOption.ar) (ae:=eqOption.ae) (Qaca (Qab8 Opt.d_le) (Qab8 Opt.d_le)) (n:=2) (fun _=>rfl) (by decide) (rc:=(Qa8)) (re:=(D.bool)) (Qat) (f:=eqOption.fv) ?_;intro a hpre;simp only[Tryz.f42,Option.getD];simp(maxSteps:=9^9)(disch:=omega)only[ZZ,simprocAttr,rch,eqOption.ae,eqOption.fv,eqPoint.q,eqPoint.ar,eqPoint.fv];obtain⟨⟨⟨x,y⟩,u⟩,⟨⟨z,w⟩,v⟩⟩:=a;simp only[Opt.mk.injEq,Qae.mk.injEq]
 grind
def szOptionS.ar:List PK->Option ((List Opt)×Int):=a2 (kS Opt.d) kI
def szOptionS.ae(a:(List Opt)×Int):List PK:=[.val (.sl false 3 (a.1.map Opt.c)),.val (.int .i64 a.2)]
def szOptionS.fv(a:(List Opt)×Int):Int:=(fun a l=>szC a.length l) (a.1) (a.2)
def szOptionS.row:Row:=vrow szOptionS.ar (fun a=> -1<=a.2/\a.2<=1048576) (fun a=>(D.int .i64) (szOptionS.fv a))
def szOptionS.q:=vq szOptionS.row rfl
theorem szOptionS.ok:Qas Tryz.prog 8 szOptionS.row:=by
 refine Qaj Qaq tN Tryz.func8 rfl (by kernel_rfl) (by kernel_rfl) (ar:=szOptionS.ar) (ae:=szOptionS.ae) (Qaca (Qacb 3 Opt.d_le (fun _=>rfl)) Qab9) (n:=2) (fun _=>rfl) (by decide) (rc:=(vInt)) (re:=(D.int .i64)) (Qa3) (f:=szOptionS.fv) ?_;intro a hpre;simp only[Tryz.f8,Option.getD];simp(maxSteps:=9^9)(disch:=omega)only[ZZ,simprocAttr,rch,szOptionS.ae,szOptionS.fv];intro h;rw[Qak (by omega) (by omega)];simp only[szC];grind
def toOptionS.ar:List PK->Option ((List Opt)):=a1 (kS Opt.d)
def toOptionS.ae(a:(List Opt)):List PK:=[.val (.sl false 3 (a.map Opt.c))]
def toOptionS.fv(a:(List Opt)):List Opt:=(fun p=>p) a
def toOptionS.row:Row:=vrow toOptionS.ar (fun a=>a.length<=1073741824) (fun a=>(fun b=>D.sl false 3 (b.map Opt.c)) (toOptionS.fv a))
def toOptionS.q:=vq toOptionS.row rfl
def YaP:=J @toOptionS.ae.eq_1<|J @toOptionS.fv.eq_1<|J @toOption.q<|J @toOption.ar.eq_1 @toOption.fv.eq_1
theorem toOptionS.ok:Qas Tryz.prog 12 toOptionS.row:=by
 refine Qaj Qaq (tC toOption.ok tN) Tryz.func12 rfl (by kernel_rfl) (by kernel_rfl) (ar:=toOptionS.ar) (ae:=toOptionS.ae) (Qacd (Qacb 3 Opt.d_le (fun _=>rfl))) (n:=1) (fun _=>rfl) (by decide) (rc:=(vSl Opt.d)) (re:=(fun b=>D.sl false 3 (b.map Opt.c))) (Qe8 Opt.d_le (fun _=>rfl)) (f:=toOptionS.fv) ?_;intro a hpre;simp only[Tryz.f12,Option.getD];simp(maxSteps:=9^9)(disch:=omega)only[ZZ,simprocAttr,rch,YaP];intro hlen;have hpl:a.length<=1073741824:=hpre;refine⟨by omega,?_⟩;refine Qay.old ⟨{k:Nat//k<=a.length},fun k=>⟨[(4,.im (.int .i64 k.1)),(3,.own 1),(0,.im (.sl false 3 (a.map Opt.c)))],[(1,(true,.arr 72 3 ((a.take k.1).map Opt.c++List.replicate (a.length - k.1) [.int .i64 0,.int .i64 0,.int .i64 0])))],2⟩,fun k=>a.length - k.1,fun k=>⟨by simp[Qad.good,belT,belH,Qam,AV.bel,belL],Zal _⟩,⟨⟨0,by omega⟩,by simp(maxSteps:=9^9)(disch:=omega)only[ZZ,simprocAttr,rch,YaP,sub];simp⟩,fun k=> ?_⟩;obtain⟨k,hk1⟩:=k;simp(maxSteps:=9^9)(disch:=omega)only[ZZ,simprocAttr,rch,YaP,sub,Qal,Qk2 _ _ a k hk1];intro _;refine⟨fun hk=> ?_,fun hk=> ?_⟩
 .refine⟨hk,fun x hx=>⟨hk,hk,Qi3 (Qj5 Opt.c _ a k x hx) ?_⟩⟩;simp(maxSteps:=9^9)(disch:=omega)only[ZZ,simprocAttr,rch,YaP,sub];refine⟨⟨k+1,by omega⟩,by simp only;omega,?_,?_⟩
  .rw[Qak (by omega) (by omega)];simp only;omega
  .exact Qli Opt.c _ a k x hx
 .rw[Qkp Opt.c _ a k (by omega)];simp[Opt.d_R]
def eqOptionS.ar:List PK->Option ((List Opt)×(List Opt)):=a2 (kS Opt.d) (kS Opt.d)
def eqOptionS.ae(a:(List Opt)×(List Opt)):List PK:=[.val (.sl false 3 (a.1.map Opt.c)),.val (.sl false 3 (a.2.map Opt.c))]
def eqOptionS.fv(a:(List Opt)×(List Opt)):Bool:=(fun a b=>decide (a=b)) (a.1) (a.2)
def eqOptionS.row:Row:=vrow eqOptionS.ar (fun a=>True) (fun a=>(D.bool) (eqOptionS.fv a))
def eqOptionS.q:=vq eqOptionS.row rfl
def YaQ:=J @eqOptionS.ae.eq_1<|J @eqOptionS.fv.eq_1<|J @eqOption.q<|J @eqOption.ar.eq_1 @eqOption.fv.eq_1
theorem eqOptionS.ok:Qas Tryz.prog 17 eqOptionS.row:=by
 refine Qaj Qaq (tC eqOption.ok tN) Tryz.func17 rfl (by kernel_rfl) (by kernel_rfl) (ar:=eqOptionS.ar) (ae:=eqOptionS.ae) (Qaca (Qacb 3 Opt.d_le (fun _=>rfl)) (Qacb 3 Opt.d_le (fun _=>rfl))) (n:=2) (fun _=>rfl) (by decide) (rc:=(Qa8)) (re:=(D.bool)) (Qat) (f:=eqOptionS.fv) ?_;intro a hpre;simp only[Tryz.f17,Option.getD];simp(maxSteps:=9^9)(disch:=omega)only[ZZ,simprocAttr,rch,YaQ];intro h1 h2;simp only[Qal];refine⟨fun hl=> ?_,fun hl=> ?_⟩
 .have:a.1≠a.2:=fun h=>hl (by rw[h])
  simp[this]
 have hl:a.1.length=a.2.length:=by omega
 refine Qay.old ⟨{k:Nat//k<=a.1.length/\a.1.take k=a.2.take k},fun k=>⟨[(5,.im (.int .i64 k.1)),(4,.im (.bool false)),(0,.im (.sl false 3 (a.1.map Opt.c))),(1,.im (.sl false 3 (a.2.map Opt.c)))],[],0⟩,fun k=>a.1.length - k.1,fun k=>⟨by simp[Qad.good,belT,belH,Qam,AV.bel,belL],Zal _⟩,⟨⟨0,by simp⟩,by simp(maxSteps:=9^9)(disch:=omega)only[ZZ,simprocAttr,rch,YaQ,sub]⟩,fun k=> ?_⟩;obtain⟨k,hk1,hk2⟩:=k;simp(maxSteps:=9^9)(disch:=omega)only[ZZ,simprocAttr,rch,YaQ,sub,Qal];intro _;refine⟨fun hk=>⟨hk,fun x hx=>⟨by omega,fun y hy=> ?_⟩⟩,fun hk=> ?_⟩
 .obtain⟨g1,g2⟩:=Qew hl hk1 hk2 hx hy;exact⟨fun h=>by simp[g2 (show x≠y from h)],fun h=>Qb6 hk h1 ⟨by omega,g1 (show x=y from Zbl.1 h)⟩⟩
 .rw[ZaA (by omega),ZaA (by omega)] at hk2;simp[hk2]
def l03Own.ar:List PK->Option (Asm):=a1 (kP Asm.d 1)
def l03Own.ae(a:Asm):List PK:=[.ptr (Asm.c a)]
def l03Own.fv(a:Asm):Asm:=(fun a=>a) a
def l03Own.row:Row:=vrow l03Own.ar (fun a=>a.Tiles.length<=1000000) (fun a=>(fun b=>D.agg (Asm.c b)) (l03Own.fv a))
def l03Own.q:=vq l03Own.row rfl
theorem l03Own.ok:Qas Tryz.prog 57 l03Own.row:=by
 refine Qaj Qaq tN Tryz.func57 rfl (by kernel_rfl) (by kernel_rfl) (ar:=l03Own.ar) (ae:=l03Own.ae) (Qacd (Qacc 1 Asm.d_le)) (n:=1) (fun _=>rfl) (by decide) (rc:=(vAgg Asm.d)) (re:=(fun b=>D.agg (Asm.c b))) (Qb1 Asm.d_le) (f:=l03Own.fv) ?_;intro a hpre;simp only[Tryz.f57,Option.getD];simp(maxSteps:=9^9)(disch:=omega)only[ZZ,simprocAttr,rch,l03Own.ae,l03Own.fv];exact⟨by simp[OneR,allD,D.one,Qab.c],by omega⟩
theorem Qac8{s:Qar}{l:List Opt}{i:Nat}{o:Opt}(hx:l[i]? =some o)(b:Asm):Qacg s b (l.drop i) i=if canS s b o=false then (⟨[]⟩,(i:Int),5) else if 500<=b.Tiles.length then (⟨[]⟩,0,4) else Qacg s (putA b o.At o.Tile) (l.drop (i+1)) (i+1):=by
 rw[Qd3 hx,Qacg]
theorem can_in{s:Qar}{b:Asm}(hs:s.Set.Tiles.length<=160)(ha:Qn7 s.Set b){o:Opt}(h:canS s b o=true):Qn7 s.Set (putA b o.At o.Tile):=by
 simp only[canS,Zah,Zap] at h;obtain⟨d1,d2,d3,_⟩:=h;have hno:=Qma d3;have hw:Qau o.Tile 0 159=true:=by
  simp only[Qau,Zah,Zap] at d2⊢;omega
 refine⟨?_,?_⟩
 .rw[Qi8];exact Qki d1 hw _ none ha.1 (fun q hq=>by cases hq) hno
 .intro x hx;rw[Qi8] at hx;rcases (Qlc _ _ _ _).1 hx with rfl|hx
  .simp only[Qau,Zah,Zap] at d2;exact⟨by simp only;omega,by simp only;omega⟩
  .exact ha.2 x hx
def l08Play.ar:List PK->Option (Qar×(List Opt)):=a2 (kP Qar.d 4) (kS Opt.d)
def l08Play.ae(a:Qar×(List Opt)):List PK:=[.ptr (Qar.c a.1),.val (.sl false 3 (a.2.map Opt.c))]
def l08Play.fv(a:Qar×(List Opt)):Asm×Int×Int:=(fun s l=>Qacg s s.Seed l 0) (a.1) (a.2)
def l08Play.row:Row:=vrow l08Play.ar (fun a=>setP a.1.Set/\Qn7 a.1.Set a.1.Seed/\a.1.Set.Tiles.length<=160/\a.1.Seed.Tiles.length<=1000000) (fun a=>(fun b=>D.tup [(fun b=>D.agg (Asm.c b)) (b.1),(D.int .i64) (b.2.1),(D.int .i64) (b.2.2)]) (l08Play.fv a))
def l08Play.q:=vq l08Play.row rfl
def YaR:=J @l08Play.ae.eq_1<|J @l08Play.fv.eq_1<|J @l03Own.q<|J @l03Own.ar.eq_1<|J @l03Own.fv.eq_1<|J @l08Can.q<|J @l08Can.ar.eq_1<|J @l08Can.fv.eq_1<|J @l08Attach.q<|J @l08Attach.ar.eq_1 @l08Attach.fv.eq_1
theorem l08Play.ok:Qas Tryz.prog 84 l08Play.row:=by
 refine Qaj Qaq (tC l03Own.ok (tC l08Can.ok (tC l08Attach.ok tN))) Tryz.func84 rfl (by kernel_rfl) (by kernel_rfl) (ar:=l08Play.ar) (ae:=l08Play.ae) (Qaca (Qacc 4 Qar.d_le) (Qacb 3 Opt.d_le (fun _=>rfl))) (n:=2) (fun _=>rfl) (by decide) (rc:=(Qac1 (vAgg Asm.d) (vInt) (vInt))) (re:=(fun b=>D.tup [(fun b=>D.agg (Asm.c b)) (b.1),(D.int .i64) (b.2.1),(D.int .i64) (b.2.2)])) (Qact (Qb1 Asm.d_le) (Qa3) (Qa3)) (f:=l08Play.fv) ?_;intro a hpre;simp only[Tryz.f84,Option.getD];simp(maxSteps:=9^9)(disch:=omega)only[ZZ,simprocAttr,rch,YaR];obtain⟨s,l⟩:=a;simp only at hpre⊢;obtain⟨h1,h2,h3,h4⟩:=hpre;refine⟨h4,?_⟩;refine Qay.old ⟨{k:Nat×Asm//k.1<=l.length/\Qn7 s.Set k.2/\Qacg s s.Seed l 0=Qacg s k.2 (l.drop k.1) k.1},fun k=>⟨[(8,.im (.int .i64 k.1.1)),(7,.ptr 2 0),(6,.im (.int .i64 0)),(5,.im (.int .i64 0)),(4,.ptr 1 0),(0,.ptr 0 0),(1,.im (.sl false 3 (l.map Opt.c)))],[(2,(true,.cells 45 [.im (.sl false 3 (k.1.2.Tiles.map Qab.c))])),(1,(true,.cells 45 [.im (.sl true 0 [])])),(0,(false,.view (Qar.c s)))],3⟩,fun k=>l.length - k.1.1,fun k=>⟨by simp[Qad.good,belT,belH,Qam,AV.bel,belL],Zal _⟩,⟨⟨(0,s.Seed),by simp[h2]⟩,by simp(maxSteps:=9^9)(disch:=omega)only[ZZ,simprocAttr,rch,YaR,sub]⟩,fun k=> ?_⟩;obtain⟨⟨k,b⟩,hk1,hk2,hk3⟩:=k;simp only at hk1 hk2 hk3;simp(maxSteps:=9^9)(disch:=omega)only[ZZ,simprocAttr,rch,YaR,sub,Qal];intro hn;refine⟨fun hk=>⟨hk,fun x hx=>⟨⟨h1,hk2⟩,?_⟩⟩,fun hk=> ?_⟩
 .rw[Qac8 hx] at hk3;have e:(Qbi x.At && (Qau x.Tile 0 ((s.Set.Tiles.length:Int) - 1) && (decide (Qaw (fun y=>decide (y.At=x.At)) 0 b.Tiles<0) && decide (s.Temperature<=Qjm s.Set b x.At x.Tile 4))))=canS s b x:=rfl;simp only[e];refine⟨fun c1=> ?_,fun c1=>⟨hk,fun y hy=> ?_⟩⟩
  .rw[hk3,Zam c1]
  obtain rfl:x=y:=Zaa (hx.symm.trans hy);rw[Zai c1] at hk3;by_cases c2:500<=b.Tiles.length
  .have q:attA b x=(⟨[]⟩,4):=Zam c2;rw[q,hk3,Zam c2];exact⟨fun _=>rfl,fun h=>(h (by decide)).elim⟩
  .have q:attA b x=(putA b x.At x.Tile,0):=Zai c2;rw[q];rw[Zai c2] at hk3;rw[Zbb] at c1;exact⟨fun h=>(h rfl).elim,fun _=>⟨⟨(k+1,putA b x.At x.Tile),by simp only;omega,can_in h3 hk2 c1,hk3⟩,by simp only;omega,by rw[Qak (by omega) (by omega)];simp only;omega,rfl⟩⟩
 .rw[hk3,Zau (by omega),Qacg]
def seqS(s:Qar)(l:List Opt):Asm×Int×Int:=if Qjc s=false then (⟨[]⟩,0,1) else if 500<l.length then (⟨[]⟩,0,2) else Qacg s s.Seed l 0
theorem Qacj{s:Qar}(h:Qjc s=true):(setP s.Set/\Qn7 s.Set s.Seed/\s.Set.Tiles.length<=160/\s.Seed.Tiles.length<=1000000)/\Qcl s.Set=true/\Qcp s.Set s.Seed=true:=by
 simp only[Qjc,Zah] at h;obtain⟨h1,h2,_⟩:=h;have h3:=Qdg h2;have h4:=Qge h1;have h5:=h1;simp only[Qcl,Qau,Zah,Zap] at h5;exact⟨⟨h4,h3.1,by omega,by omega⟩,h1,h2⟩
def PlayS_.ar:List PK->Option (Qar×(List Opt)):=a2 (kR Qar.d) (kS Opt.d)
def PlayS_.ae(a:Qar×(List Opt)):List PK:=[.val (.agg (Qar.c a.1)),.val (.sl false 3 (a.2.map Opt.c))]
def PlayS_.fv(a:Qar×(List Opt)):Asm×Int×Int:=(seqS) (a.1) (a.2)
def PlayS_.row:Row:=vrow PlayS_.ar (fun a=>True) (fun a=>(fun b=>D.tup [(fun b=>D.agg (Asm.c b)) (b.1),(D.int .i64) (b.2.1),(D.int .i64) (b.2.2)]) (PlayS_.fv a))
def PlayS_.q:=vq PlayS_.row rfl
theorem PlayS_.ok:Qas Tryz.prog 56 PlayS_.row:=by
 refine Qaj Qaq (tC l08Ok.ok (tC l08Play.ok tN)) Tryz.func56 rfl (by kernel_rfl) (by kernel_rfl) (ar:=PlayS_.ar) (ae:=PlayS_.ae) (Qaca (Qab8 Qar.d_le) (Qacb 3 Opt.d_le (fun _=>rfl))) (n:=2) (fun _=>rfl) (by decide) (rc:=(Qac1 (vAgg Asm.d) (vInt) (vInt))) (re:=(fun b=>D.tup [(fun b=>D.agg (Asm.c b)) (b.1),(D.int .i64) (b.2.1),(D.int .i64) (b.2.2)])) (Qact (Qb1 Asm.d_le) (Qa3) (Qa3)) (f:=PlayS_.fv) ?_;intro a hpre;simp only[Tryz.f56,Option.getD];simp(maxSteps:=9^9)(disch:=omega)only[ZZ,simprocAttr,rch,PlayS_.ae,PlayS_.fv,l08Ok.q,l08Ok.ar,l08Ok.fv,l08Play.q,l08Play.ar,l08Play.fv];by_cases c1:Qjc a.1=false
 .rw[Zam c1];simp only[seqS];rw[Zam c1]
 rw[Zai c1];intro _;by_cases c2:500<a.2.length
 .rw[Zam (by omega)];simp only[seqS];rw[Zai c1,Zam c2]
 rw[Zai (by omega)];rw[Zbb] at c1;refine⟨(Qacj c1).1,?_⟩;simp only[seqS];rw[Zai (by rw[c1];decide),Zai c2]
def l10Asked.ar:List PK->Option (Qar×(List Opt)):=a2 (kP Qar.d 4) (kS Opt.d)
def l10Asked.ae(a:Qar×(List Opt)):List PK:=[.ptr (Qar.c a.1),.val (.sl false 3 (a.2.map Opt.c))]
def l10Asked.fv(a:Qar×(List Opt)):Int:=(fun s l=>(seqS s l).2.2) (a.1) (a.2)
def l10Asked.row:Row:=vrow l10Asked.ar (fun a=>True) (fun a=>(D.int .i64) (l10Asked.fv a))
def l10Asked.q:=vq l10Asked.row rfl
theorem l10Asked.ok:Qas Tryz.prog 48 l10Asked.row:=by
 refine Qaj Qaq (tC PlayS_.ok tN) Tryz.func48 rfl (by kernel_rfl) (by kernel_rfl) (ar:=l10Asked.ar) (ae:=l10Asked.ae) (Qaca (Qacc 4 Qar.d_le) (Qacb 3 Opt.d_le (fun _=>rfl))) (n:=2) (fun _=>rfl) (by decide) (rc:=(vInt)) (re:=(D.int .i64)) (Qa3) (f:=l10Asked.fv) ?_;intro a hpre;simp only[Tryz.f48,Option.getD];simp(maxSteps:=9^9)(disch:=omega)only[ZZ,simprocAttr,rch,l10Asked.ae,l10Asked.fv,PlayS_.q,PlayS_.ar,PlayS_.fv]
theorem seq_ok{s:Qar}{l:List Opt}(h:(seqS s l).2.2=0):Qjc s=true/\l.length<=500:=by
 simp only[seqS] at h;split at h
 .simp at h
 rename_i c1;split at h
 .simp at h
 .rw[Zbb] at c1;exact⟨c1,by omega⟩
theorem Qwf{A B:Type}(f:A->B): ∀(l:List A) (i:Nat),(l.map f).eraseIdx i=(l.eraseIdx i).map f
 |[],_=>rfl
 |_::_,0=>rfl
 |x::r,i+1=>by simp only[Zan,ZcJ,Qwf f r i]
theorem Qqq{A:Type}: ∀(l:List A) (i:Nat) (x:A),l[i]? =some x->(x::l.eraseIdx i).Perm l
 |[],i,x,h=>by simp at h
 |y::r,0,x,h=>by
  simp only[ZaN,Zab] at h;subst h;exact Zdl _
 |y::r,i+1,x,h=>by
  rw[ZaS] at h;rw[ZcJ];exact (List.Perm.swap y x _).trans ((Qqq r i x h).cons y)
def putT(c:Cry)(p:Qae)(t:Int):Cry:=⟨c.Sys,updP c.Tl p t,Qrz c.Sys (Qbw (updP c.Tl p t)) (delP c.Op p) p 4⟩
theorem putT_in{s:Qaa}{t:List (Qae×Int)}{p:Qae}{v:Int}(h:inF s (Qbw t))(hv:Qcs s v):inF s (Qbw (updP t p v)):=by
 intro q hq;simp only[Qbw,Qyq] at hq⊢;by_cases c:q=p
 .rw[Zam c];exact hv
 .rw[Zai c] at hq⊢;exact h q hq
def putC.ca(a:Cry×Qae×Int):List AV:=[.ptr 0 0,.im (.agg [.int .i64 a.2.1.X,.int .i64 a.2.1.Y]),.im (.int .i64 a.2.2)]
def putC.H1(a:Cry×Qae×Int):Qan:=[(1,(true,.map ⟨true,[.int .i64,.int .i64]⟩ ((putT a.1 a.2.1 a.2.2).Tl.map Qbe))),(2,(true,.map ⟨true,[.int .i64,.int .i64]⟩ ((putT a.1 a.2.1 a.2.2).Op.map Qbc)))]
def kl12(j:Nat):Bool:=j==1||j==2
def putC.row:Row:=orow putC.ca (fun a=>cryH a.1) 3 (fun a=>Qacu a.1/\Qdy a.2.1/\Qcs a.1.Sys.Set a.2.2) kl12 (fun _=> .im (.tup [])) putC.H1 0
theorem putC.ok:Qas Tryz.prog 91 putC.row:=by
 refine Qf1 Qaq (tC lookC.ok tN) Tryz.func91 rfl (by kernel_rfl) (by kernel_rfl) (exB:=fun _=>false) (R:=fun _ r=>r= .im (.tup [])) (n:=3) (fun _=>rfl) (by decide)
  (fun a=>by simp[putC.ca,cryH,Qbk,putC.H1,kl12,belL,AV.bel]) (fun a=>by simp[putC.ca,cryH,Qbk,putC.H1,kl12,belH,belL,AV.bel]) (fun a=>by simp[putC.ca,cryH,Qbk,putC.H1,kl12,Qam])
  (fun a=>by simp[Qc2,putC.ca,cryH,Qbk,putC.H1,kl12,AObj.nms,nmsL,AV.nms,domB,hget]) (fun a p hp=> ?_) (fun a r h=>by subst h;exact LeV.refl _) ?_
 rotate_left
 intro a hpre;simp only[Tryz.f91,Option.getD,putC.ca,cryH,Qbk,putC.H1,kl12];simp(maxSteps:=9^9)(disch:=omega)only[ZZ,simprocAttr,rch,ORB,putC.ca,cryH,Qbk,putC.H1,kl12];obtain⟨hp1,hp2,hp3⟩:=hpre;rw[upd_pi,del_ps];have hq:Qacu ⟨a.1.Sys,updP a.1.Tl a.2.1 a.2.2,delP a.1.Op a.2.1⟩:=⟨hp1.1,putT_in hp1.2.1 hp3,hp1.2.2⟩;refine orow.os (⟨a.1.Sys,updP a.1.Tl a.2.1 a.2.2,delP a.1.Op a.2.1⟩,a.2.1) [0,1,2] ⟨hq,hp2⟩ (fun j=>Qack _ j) rfl rfl ?_ ?_
 .simp(maxSteps:=9^9)(disch:=omega)only[ZZ,simprocAttr,rch,ORB,putC.ca,cryH,Qbk,putC.H1,kl12,lookC.ca,cryH,Qbk,Zbd]
 .simp(maxSteps:=9^9)(disch:=omega)only[ZZ,simprocAttr,rch,ORB,putC.ca,cryH,Qbk,putC.H1,kl12,lookC.H1,kl2,sub,putT]
 simp[putC.H1] at hp;rcases hp with rfl|rfl
 .exact .inl ⟨by omega,rfl,rfl⟩
 .exact .inl ⟨by omega,rfl,rfl⟩
def asmC.ca(_:Cry):List AV:=[.ptr 0 0]
def asmC.H1(a:Cry):Qan:=[(1,(false,.map ⟨true,[.int .i64,.int .i64]⟩ (a.Tl.map Qbe)))]
def klA(j:Nat):Bool:=j==1
theorem asmT_perm{t:List (Qae×Int)}{l:List Qab}(hd:(t.map Prod.fst).Nodup)(h:l.Perm (t.map mkPl)):Qfh l=Qfh (t.map mkPl)/\(l.map Qab.At).Nodup/\l.length=t.length:=by
 have hd':((t.map mkPl).map Qab.At).Nodup:=by rw[Qac3];exact hd
 refine⟨Qlp hd' ((Qd4 l).trans h) (Qnm l),(h.map Qab.At).nodup_iff.2 hd',by rw[h.length_eq,Zbs]⟩
def asmT(t:List (Qae×Int)):Asm:=⟨Qfh (t.map mkPl)⟩
def asmC.row:Row:=orow asmC.ca cryH 3 (fun a=>(a.Tl.map Prod.fst).Nodup/\a.Tl.length<=100000) klA (fun a=> .im (.agg (Asm.c (asmT a.Tl)))) asmC.H1 0
def YaS:=J @asmOf.q (J @asmOf.ar.eq_1 @asmOf.fv.eq_1)
theorem asmC.ok:Qas Tryz.prog 108 asmC.row:=by
 refine Qf1 Qaq (tC asmOf.ok tN) Tryz.func108 rfl (by kernel_rfl) (by kernel_rfl) (exB:=fun _=>false) (R:=fun a r=>r= .im (.agg (Asm.c (asmT a.Tl)))) (n:=1) (fun _=>rfl) (by decide)
  (fun a=>by simp[asmC.ca,cryH,Qbk,asmC.H1,klA,belL,AV.bel]) (fun a=>by simp[asmC.ca,cryH,Qbk,asmC.H1,klA,belH,belL,AV.bel]) (fun a=>by simp[asmC.ca,cryH,Qbk,asmC.H1,klA,Qam])
  (fun a=>by simp[Qc2,asmC.ca,cryH,Qbk,asmC.H1,klA,AObj.nms,nmsL,AV.nms,domB,hget]) (fun a p hp=> ?_) (fun a r h=>by subst h;exact LeV.refl _) ?_
 rotate_left
 intro a hpre;simp only[Tryz.f108,Option.getD,asmC.ca,cryH,Qbk,asmC.H1,klA];simp(maxSteps:=9^9)(disch:=omega)only[ZZ,simprocAttr,rch,YaS,ORB,asmC.ca,cryH,Qbk,asmC.H1,klA];obtain⟨hp1,hp2⟩:=hpre;refine Qay.ren ⟨{s:Option (D×D)×List (Qae×Int)×List Qab//(s.2.2++s.2.1.map mkPl).Perm (a.Tl.map mkPl)},fun s=>⟨[(10,.it 5),(3,.own 6),(2,.ptr 3 0),(0,.ptr 0 0)],[(6,(true,.arr 160 3 (s.1.2.2.map Qab.c))),(5,(true,.iter s.1.1 (s.1.2.1.map Qbe))),(3,(true,.cells 45 [.im (.sl true 0 [])])),(0,(true,.cells 175 (Qbk a.Sys))),(1,(false,.map ⟨true,[.int .i64,.int .i64]⟩ (a.Tl.map Qbe))),(2,(true,.map ⟨true,[.int .i64,.int .i64]⟩ (a.Op.map Qbc)))],7⟩,fun s=>s.1.2.1.length,fun s=>⟨by simp[Qad.good,belT,belH,Qam,AV.bel,belL,Qbk],by simp⟩,⟨⟨(none,a.Tl,[]),by simp⟩,[(6,some 4)],?_⟩,fun s=> ?_⟩
 .simp only[subP,Qbk];simp(maxSteps:=9^9)(disch:=omega)only[ZZ,simprocAttr,rch,YaS,ORB,asmC.ca,cryH,Qbk,asmC.H1,klA,ZaR]
  try simp
 obtain⟨⟨last,left,col⟩,hs⟩:=s;simp only at hs;simp only[Qbk];simp(maxSteps:=9^9)(disch:=omega)only[ZZ,simprocAttr,rch,YaS,ORB,asmC.ca,cryH,Qbk,asmC.H1,klA,sub,Qal];refine⟨fun hl=> ?_,fun i p hp=> ?_⟩
 .have hl':left=[]:=by simpa using hl
  subst hl';rw[ZaR,ZaI] at hs;obtain⟨r1,r2,r3⟩:=asmT_perm hp1 hs;exact⟨⟨r2,by omega⟩,by simp only[asmT,r1]⟩
 .rw[ZaQ] at hp;cases hq:left[i]? with
  |none=>rw[hq] at hp;cases hp
  |some q=>
   rw[hq] at hp;obtain rfl:=Zaa hp;obtain⟨⟨qx,qy⟩,qn⟩:=q;simp only[Qbe,Qae.c];simp(maxSteps:=9^9)(disch:=omega)only[ZZ,simprocAttr,rch,YaS,ORB,asmC.ca,cryH,Qbk,asmC.H1,klA,sub,Qal];have hi:i<left.length:=by
    rcases ZbF i left.length with h|h
    .exact h
    .rw[ZaW h] at hq;cases hq
   have hpm:((⟨qx,qy⟩,qn)::left.eraseIdx i).Perm left:=Qqq _ _ _ hq;have hP:((col++[(⟨⟨qx,qy⟩,qn⟩:Qab)])++(left.eraseIdx i).map mkPl).Perm (a.Tl.map mkPl):=by
    rw[Zbv];refine (List.Perm.append_left col ?_).trans hs;exact hpm.map mkPl
   have hcl:col.length<=a.Tl.length:=by
    have r3:=hs.length_eq;simp at r3;omega
   refine⟨by omega,⟨⟨(some (D.agg [.int .i64 qx,.int .i64 qy],D.int .i64 qn),left.eraseIdx i,col++[(⟨⟨qx,qy⟩,qn⟩:Qab)]),hP⟩,[(6,some 9)],?_,?_⟩⟩
   .simp only[ZeP];rw[Zam hi];omega
   .simp only[subP];simp(maxSteps:=9^9)(disch:=omega)only[ZZ,simprocAttr,rch,YaS,ORB,asmC.ca,cryH,Qbk,asmC.H1,klA];simp[Qab.c,Qwf]
 simp[asmC.H1] at hp;subst hp;exact .inl ⟨by omega,rfl,rfl⟩
def seqI(s:Qar)(l:List Opt):Asm×Int×Int:=if Qk1 s=false then (⟨[]⟩,0,1) else if 500<l.length then (⟨[]⟩,0,2) else Qacn s (tlUp s.Seed.Tiles) l 0
theorem Qacl{β:Type}(p:Qae)(v:β): ∀(t:List (Qae×β)),(t.map Prod.fst).Nodup->((updP t p v).map Prod.fst).Nodup/\(∀q,q∈(updP t p v).map Prod.fst->q=p\/q∈t.map Prod.fst)/\(updP t p v).length<=t.length+1
 |[],_=>by simp[updP]
 |(k,w)::r,h=>by
  rw[Zan,ZbK] at h;simp only[updP];by_cases c:p=k
  .subst c;rw[Zam rfl];refine⟨by rw[Zan,ZbK];exact h,fun q hq=> .inr hq,by simp⟩
  .rw[Zai c];obtain⟨h1,h2,h3⟩:=Qacl p v r h.2;refine⟨?_,?_,by simp only[ZaG];omega⟩
   .rw[Zan,ZbK];refine⟨fun hk=> ?_,h1⟩;rcases h2 _ hk with hk|hk
    .exact c hk.symm
    .exact h.1 hk
   .intro q hq;rw[Zan] at hq⊢;rcases Zav.1 hq with rfl|hq
    .exact .inr (Zas ..)
    .rcases h2 _ hq with hq|hq
     .exact .inl hq
     .exact .inr (Zar _ hq)
theorem tlUp_keys(l:List Qab):((tlUp l).map Prod.fst).Nodup/\(tlUp l).length<=l.length:=by
 have key: ∀(l:List Qab) (t:List (Qae×Int)),(t.map Prod.fst).Nodup->((l.foldl (fun t x=>updP t x.At x.Tile) t).map Prod.fst).Nodup/\(l.foldl (fun t x=>updP t x.At x.Tile) t).length<=t.length+l.length:=by
  intro l;induction l with
  |nil=>intro t h;exact⟨h,by simp⟩
  |cons x r ih=>
   intro t h;obtain⟨h1,_,h3⟩:=Qacl x.At x.Tile t h;obtain⟨h4,h5⟩:=ih _ h1;exact⟨h4,by simp only[Zdd,ZaG] at h5⊢;omega⟩
 have:=key l [] (by simp)
 exact⟨this.1,by simpa[tlUp] using this.2⟩
theorem Qac7{s:Qar}{l:List Opt}{i:Nat}{o:Opt}(hx:l[i]? =some o)(t:List (Qae×Int)):Qacn s t (l.drop i) i=if (Qau o.Tile 0 (s.Set.Tiles.length - 1) && Qpg s (Qbw t) o.At o.Tile)=false then (⟨[]⟩,(i:Int),5) else if 500<=t.length then (⟨[]⟩,0,4) else Qacn s (updP t o.At o.Tile) (l.drop (i+1)) (i+1):=by
 rw[Qd3 hx,Qacn]
def PlayI_.ar:List PK->Option (Qar×(List Opt)):=a2 (kR Qar.d) (kS Opt.d)
def PlayI_.ae(a:Qar×(List Opt)):List PK:=[.val (.agg (Qar.c a.1)),.val (.sl false 3 (a.2.map Opt.c))]
def PlayI_.fv(a:Qar×(List Opt)):Asm×Int×Int:=(seqI) (a.1) (a.2)
def PlayI_.row:Row:=vrow PlayI_.ar (fun a=>Qf6 a.1.Set) (fun a=>(fun b=>D.tup [(fun b=>D.agg (Asm.c b)) (b.1),(D.int .i64) (b.2.1),(D.int .i64) (b.2.2)]) (PlayI_.fv a))
def PlayI_.q:=vq PlayI_.row rfl
def YaT:=J @PlayI_.ae.eq_1<|J @PlayI_.fv.eq_1<|J @validI_.q<|J @validI_.ar.eq_1<|J @validI_.fv.eq_1<|J @isTile.q<|J @isTile.ar.eq_1<|J @isTile.fv.eq_1<|J @fitsC.q<|J @fitsC.ar.eq_1 @fitsC.fv.eq_1
theorem PlayI_.ok:Qas Tryz.prog 69 PlayI_.row:=by
 refine Qaj Qaq (tC validI_.ok (tC newC.ok (tC isTile.ok (tC fitsC.ok (tC putC.ok (tC asmC.ok tN)))))) Tryz.func69 rfl (by kernel_rfl) (by kernel_rfl) (ar:=PlayI_.ar) (ae:=PlayI_.ae) (Qaca (Qab8 Qar.d_le) (Qacb 3 Opt.d_le (fun _=>rfl))) (n:=2) (fun _=>rfl) (by decide) (rc:=(Qac1 (vAgg Asm.d) (vInt) (vInt))) (re:=(fun b=>D.tup [(fun b=>D.agg (Asm.c b)) (b.1),(D.int .i64) (b.2.1),(D.int .i64) (b.2.2)])) (Qact (Qb1 Asm.d_le) (Qa3) (Qa3)) (f:=PlayI_.fv) ?_;intro a hpre;simp only[Tryz.f69,Option.getD];simp(maxSteps:=9^9)(disch:=omega)only[ZZ,simprocAttr,rch,YaT];obtain⟨s,l⟩:=a;simp only at hpre⊢;refine⟨hpre,?_⟩;by_cases c1:Qk1 s=false
 .rw[Zam c1];simp only[seqI];rw[Zam c1]
 rw[Zai c1];intro _;by_cases c2:500<l.length
 .rw[Zam (by omega)];simp only[seqI];rw[Zai c1,Zam c2]
 rw[Zai (by omega)];have eR:seqI s l=Qacn s (tlUp s.Seed.Tiles) l 0:=by simp only[seqI];rw[Zai c1,Zai c2]
 rw[Zbb,Qacv] at c1;obtain⟨⟨q1,q2,q3,_⟩,q5,q6⟩:=Qacj c1;have hbp:=Qof (s:=s.Set) (a:=s.Seed) (by rw[q5,q6];rfl);have hnp:newC.pre (s,s.Seed):=⟨q1,by simp only;omega,fun y hy=>⟨q2.2 y hy,hbp.1.2.2.2 y hy⟩⟩;have hcp:=cryOf_pre hnp;have hk0:=tlUp_keys s.Seed.Tiles;refine orow.os (s,s.Seed) [] hnp (fun j=>by simp[domB,hget]) rfl rfl ?_ ?_
 .simp(maxSteps:=9^9)(disch:=omega)only[ZZ,simprocAttr,rch,YaT,newC.ca,Qer,Qar.c,Asm.c]
 simp(maxSteps:=9^9)(disch:=omega)only[ZZ,simprocAttr,rch,YaT,newC.H1,sub];intro _;refine Qay.old ⟨{k:Nat×List (Qae×Int)×List (Qae×List Int)//k.1<=l.length/\inF s.Set (Qbw k.2.1)/\(k.2.1.map Prod.fst).Nodup/\k.2.1.length<=1000/\seqI s l=Qacn s k.2.1 (l.drop k.1) k.1},fun k=>⟨[(26,.im (.int .i64 k.1.1)),(25,.im (.int .i64 l.length)),(24,.im (.sl false 3 (l.map Opt.c))),(7,.ptr 6 0),(6,.im (.int .i64 0)),(5,.im (.int .i64 0)),(4,.ptr 1 0),(2,.ptr 0 0)],[(6,(true,.cells 175 [.im (.sl false 2 (s.Set.Glues.map Glue.c)),.im (.sl false 2 (s.Set.Tiles.map Tile.c)),.im (.sl false 3 (s.Seed.Tiles.map Qab.c)),.im (.int .i64 s.Temperature),.mp 4,.mp 5])),
  (4,(true,.map ⟨true,[.int .i64,.int .i64]⟩ (k.1.2.1.map Qbe))),(5,(true,.map ⟨true,[.int .i64,.int .i64]⟩ (k.1.2.2.map Qbc))),(1,(true,.cells 45 [.im (.sl true 0 [])])),(0,(true,.cells 47 ((Qar.c s).map .im)))],7⟩,fun k=>l.length - k.1.1,fun k=>⟨by simp[Qad.good,belT,belH,Qam,AV.bel,belL,Qar.c],by simp⟩,⟨⟨(0,(Qui s s.Seed).Tl,(Qui s s.Seed).Op),by simp only;exact⟨ZaP _,hcp.2.1,hk0.1,ZaY hk0.2 (by omega),eR⟩⟩,by simp(maxSteps:=9^9)(disch:=omega)only[ZZ,simprocAttr,rch,YaT,sub]⟩,fun k=> ?_⟩
 obtain⟨⟨k,tl,op⟩,hk1,hk2,hk3,hk4,hk5⟩:=k;simp only at hk1 hk2 hk3 hk4 hk5;simp(maxSteps:=9^9)(disch:=omega)only[ZZ,simprocAttr,rch,YaT,sub,Qal];refine⟨fun hk=>⟨hk,fun x hx=> ?_⟩,fun hk=> ?_⟩
 .rw[Qac7 hx] at hk5;by_cases d1:Qau x.Tile 0 ((s.Set.Tiles.length:Int) - 1)=true
  case neg=>
   refine⟨fun h=>(d1 h).elim,fun _=> ?_⟩;rw[ZbS] at d1;rw[hk5,d1,Zbr,Zam rfl]
  refine⟨fun _=> ?_,fun h=>(h d1).elim⟩;have hti:Qcs s.Set x.Tile:=by
   simp only[Qau,Zah,Zap] at d1;exact⟨d1.1,by omega⟩
  rw[d1,Zbo] at hk5;refine⟨⟨q1,hk2,hti⟩,fun d2=> ?_,fun d2=>⟨fun d3=> ?_,fun d3=> ?_⟩⟩
  .rw[hk5,Zam d2]
  .rw[hk5,Zai d2,Zam (by omega)]
  .rw[Zai d2,Zai (by omega)] at hk5;have hsm:Qdy x.At:=by
    rw[Zbb] at d2;simp only[Qpg,Zah] at d2;exact Qkc d2.1
   have hcr:Qacu ⟨s,tl,op⟩:=⟨q1,hk2,by simp only;omega⟩;obtain⟨u1,_,u3⟩:=Qacl x.At x.Tile tl hk3;refine orow.os (⟨s,tl,op⟩,x.At,x.Tile) [6,4,5] ⟨hcr,hsm,hti⟩ (fun j=>Qack _ j) rfl rfl ?_ ?_
   .simp(maxSteps:=9^9)(disch:=omega)only[ZZ,simprocAttr,rch,YaT,putC.ca,cryH,Qbk,Zbd,Zbk,ZbX]
   .simp(maxSteps:=9^9)(disch:=omega)only[ZZ,simprocAttr,rch,YaT,putC.H1,kl12,sub,putT,Zbk,ZbX];exact⟨⟨(k+1,updP tl x.At x.Tile,Qrz s (Qbw (updP tl x.At x.Tile)) (delP op x.At) x.At 4),by simp only;exact⟨by omega,putT_in hk2 hti,u1,by omega,hk5⟩⟩,by simp only;omega,by rw[Qak (by omega) (by omega)];simp only;omega,rfl,rfl⟩
 .rw[Zau (by omega),Qacn] at hk5;refine orow.os ⟨s,tl,op⟩ [6,4,5] ⟨hk3,by simp only;omega⟩ (fun j=>Qack _ j) rfl rfl ?_ ?_
  .simp(maxSteps:=9^9)(disch:=omega)only[ZZ,simprocAttr,rch,YaT,asmC.ca,cryH,Qbk,Zbd,Zbk,ZbX]
  .simp(maxSteps:=9^9)(disch:=omega)only[ZZ,simprocAttr,rch,YaT,asmC.H1,klA,sub,asmT,Zbk,ZbX];rw[hk5]
end Go.Ae
namespace Go.Ae
end Go.Ae
namespace Go.Ae
open Go.Proofs
theorem seq_law(s:Qar)(l:List Opt):seqI s l=seqS s l:=by
 simp only[seqI,seqS,Qacv];by_cases c1:Qjc s=false
 .rw[Zam c1,Zam c1]
 rw[Zai c1,Zai c1];rw[Zbb] at c1;obtain⟨⟨q1,q2,q3,_⟩,_⟩:=Qacj c1;rw[Qac5 q3 l (tlUp s.Seed.Tiles) s.Seed s.Seed.Tiles.length 0 (RM.of q2.1 (fun x hx=>(q2.2 x hx).1)) q2]
def Qadf(s:Qaa)(f:Qae->Int)(p:Qae)(t:Int):Nat->Int
 |0=>0
 |k+1=>Qadf s f p t k+(if 0<Quh s f p t k then 2^k else 0)
theorem Qafe(s:Qaa)(f:Qae->Int)(p:Qae)(t:Int): ∀k,0<=Qadf s f p t k/\Qadf s f p t k<2^k
 |0=>by simp[Qadf]
 |k+1=>by
  have:=Qafe s f p t k
  have e:(2:Int)^(k+1)=2^k*2:=Int.pow_succ ..;simp only[Qadf]
  split<;>omega
def Qac9:Asm->List Opt->Asm
 |b,[]=>b
 |b,o::r=>Qac9 (putA b o.At o.Tile) r
theorem Qadp: ∀(l:List Opt) (b:Asm) (o:Opt),Qac9 b (l++[o])=putA (Qac9 b l) o.At o.Tile
 |[],_,_=>rfl
 |x::r,b,o=>by simp only[ZaF,Qac9,Qadp r]
def insS(s:Qar):Asm->List Opt->List Int
 |_,[]=>[]
 |b,o::r=>Qadf s.Set (atA b) o.At o.Tile 4::insS s (putA b o.At o.Tile) r
def smsS(s:Qar):Asm->List Opt->List Int
 |_,[]=>[]
 |b,o::r=>Qhs s.Set (atA b) o.At o.Tile 4::smsS s (putA b o.At o.Tile) r
theorem Qad8(s:Qar): ∀(l:List Opt) (b:Asm) (o:Opt),insS s b (l++[o])=insS s b l++[Qadf s.Set (atA (Qac9 b l)) o.At o.Tile 4]
 |[],_,_=>rfl
 |x::r,b,o=>by simp only[ZaF,insS,Qad8 s r,Qac9]
theorem Qad9(s:Qar): ∀(l:List Opt) (b:Asm) (o:Opt),smsS s b (l++[o])=smsS s b l++[Qhs s.Set (atA (Qac9 b l)) o.At o.Tile 4]
 |[],_,_=>rfl
 |x::r,b,o=>by simp only[ZaF,smsS,Qad9 s r,Qac9]
theorem Qadv(s:Qar): ∀(l:List Opt) (b:Asm),(insS s b l).length=l.length
 |[],_=>rfl
 |x::r,b=>by simp only[insS,ZaG,Qadv s r]
theorem Qael(s:Qar): ∀(l:List Opt) (b:Asm),(smsS s b l).length=l.length
 |[],_=>rfl
 |x::r,b=>by simp only[smsS,ZaG,Qael s r]
def Qaec(s:Qar)(b:Asm)(l:List Opt):Prop:= ∀k o,l[k]? =some o->canS s (Qac9 b (l.take k)) o=true/\(Qac9 b (l.take k)).Tiles.length<500
theorem Qaez{s:Qar}: ∀(l:List Opt) (b:Asm) (i:Nat),(Qacg s b l i).2.2=0->Qacg s b l i=(Qac9 b l,0,0)/\Qaec s b l
 |[],b,i,_=>⟨rfl,fun k o h=>by simp at h⟩
 |x::r,b,i,h=>by
  simp only[Qacg] at h⊢;by_cases c1:canS s b x=false
  .rw[Zam c1] at h;simp at h
  rw[Zai c1] at h⊢;by_cases c2:500<=b.Tiles.length
  .rw[Zam c2] at h;simp at h
  rw[Zai c2] at h⊢;obtain⟨h1,h2⟩:=Qaez r _ _ h;refine⟨h1,fun k o hk=> ?_⟩;cases k with
  |zero=>
   simp only[ZaN,Zab] at hk;subst hk;rw[Zbb] at c1;exact⟨by simpa[Qac9] using c1,by simp only[Zbm,Qac9];omega⟩
  |succ k=>
   rw[ZaS] at hk;simp only[ZbI,Qac9];exact h2 k o hk
theorem Qafb{s:Qar}(hs:s.Set.Tiles.length<=160){b:Asm}(hb:Qn7 s.Set b){l:List Opt}(h:Qaec s b l): ∀k,k<=l.length->Qn7 s.Set (Qac9 b (l.take k))
 |0,_=>by simpa[Qac9] using hb
 |k+1,hk=>by
  obtain⟨o,ho⟩: ∃o,l[k]? =some o:=⟨_,Zae (by omega)⟩;rw[Qwe ho,Qadp];exact can_in hs (Qafb hs hb h k (by omega)) (h k o ho).1
theorem Qadk{s:Qar}{b:Asm}{o:Opt}(h:canS s b o=true):Qbi o.At=true/\Qdy o.At/\0<=o.Tile/\o.Tile<s.Set.Tiles.length/\Qcs s.Set o.Tile/\(∀x∈b.Tiles,x.At≠o.At):=by
 simp only[canS,Zah,Zap] at h;obtain⟨d1,d2,d3,_⟩:=h;simp only[Qau,Zah,Zap] at d2;exact⟨d1,Qkc d1,d2.1,by omega,⟨d2.1,by omega⟩,Qma d3⟩
def hasI(m d:Int):Bool:=decide (andI .i64 (m.fdiv (2^min d.toNat 64)) 1=1)
def bitN(b:Bool)(k:Nat):Int:=if b=true then 2^k else 0
theorem has_bits: ∀b0 b1 b2 b3:Bool,hasI (0+bitN b0 0+bitN b1 1+bitN b2 2+bitN b3 3) 0=b0/\hasI (0+bitN b0 0+bitN b1 1+bitN b2 2+bitN b3 3) 1=b1/\hasI (0+bitN b0 0+bitN b1 1+bitN b2 2+bitN b3 3) 2=b2/\hasI (0+bitN b0 0+bitN b1 1+bitN b2 2+bitN b3 3) 3=b3:=by
 intro b0 b1 b2 b3;cases b0<;>cases b1<;>cases b2<;>cases b3<;>decide
theorem or_bit{m:Int}{k:Nat}(hk:k<4)(h0:0<=m)(h1:m<2^k):orI .i64 m (2^k)=m+2^k:=by
 rcases (by omega:k=0\/k=1\/k=2\/k=3) with rfl|rfl|rfl|rfl
 .obtain rfl:m=0:=by omega
  decide
 .rcases (by omega:m=0\/m=1) with rfl|rfl<;>decide
 .rcases (by omega:m=0\/m=1\/m=2\/m=3) with rfl|rfl|rfl|rfl<;>decide
 .rcases (by omega:m=0\/m=1\/m=2\/m=3\/m=4\/m=5\/m=6\/m=7) with rfl|rfl|rfl|rfl|rfl|rfl|rfl|rfl<;>decide
def idxO(l:List Opt)(q:Qae):Int:=Qaw (fun o:Opt=>decide (o.At=q)) 0 l
theorem Qane{l:List Opt}(hd:(l.map Opt.At).Nodup){q:Qae}{k:Nat}(h:l[k]?.map Opt.At=some q):idxO l q=k:=by
 rcases Qep (fun o:Opt=>decide (o.At=q)) l 0 with ⟨h1,h2⟩|⟨i,x,h1,h2,h3⟩
 .exfalso;cases hx:l[k]? with
  |none=>rw[hx] at h;cases h
  |some y=>
   rw[hx] at h
   have:=Zcz.1 h1 y (Zad hx)
   simp at this h;exact this h
 .have hxq:x.At=q:=by simpa using Zco h1
  simp only[idxO,h2]
  have:i=k:=by
   have e1:(l.map Opt.At)[i]? =some q:=by rw[ZaQ,h3];simp[hxq]
   have e2:(l.map Opt.At)[k]? =some q:=by rw[ZaQ];exact h
   obtain⟨g1,f1⟩:=Zaj.1 e1;obtain⟨g2,f2⟩:=Zaj.1 e2;exact (List.getElem_inj hd).1 (f1.trans f2.symm)
  omega
theorem idxO_at{l:List Opt}{q:Qae}{k:Int}(h:idxO l q=k)(h0:0<=k):l[k.toNat]?.map Opt.At=some q:=by
 rcases Qep (fun o:Opt=>decide (o.At=q)) l 0 with ⟨h1,h2⟩|⟨i,x,h1,h2,h3⟩
 .simp only[idxO,h2] at h;omega
 .have hxq:x.At=q:=by simpa using Zco h1
  simp only[idxO,h2] at h;rw[show k.toNat=i by omega,h3];simp[hxq]
theorem Qaei{x:Qab}: ∀(l:List Opt) (b:Asm),x∈(Qac9 b l).Tiles↔x∈b.Tiles\/ ∃o∈l,x=⟨o.At,o.Tile⟩
 |[],b=>by simp[Qac9]
 |o::r,b=>by
  simp only[Qac9,Qaei r,Qi8,Qlc,Zav];constructor
  .rintro ((h|h)|⟨y,hy,h⟩)
   .exact .inr ⟨o,.inl rfl,h⟩
   .exact .inl h
   .exact .inr ⟨y,.inr hy,h⟩
  .rintro (h|⟨y,rfl|hy,h⟩)
   .exact .inl (.inr h)
   .exact .inl (.inl h)
   .exact .inr ⟨y,hy,h⟩
theorem Qaf6{s:Qar}{b:Asm}{l:List Opt}(h:Qaec s b l):(l.map Opt.At).Nodup:=by
 rw[Zdz,List.pairwise_map,Zda];intro i j hi hj hij heq;have h1:=(Qadk (h j l[j] (Zae hj)).1).2.2.2.2.2;refine h1 ⟨l[i].At,l[i].Tile⟩ ?_ heq;rw[Qaei];refine .inr ⟨l[i],?_,rfl⟩;rw[Zbq];exact⟨i,by rw[ZdF hij];exact Zae hi⟩
theorem at_mem{a:Asm}{q:Qae}(h:0<=atA a q): ∃x∈a.Tiles,x.At=q:=by
 simp only[atA] at h;cases hf:a.Tiles.find? (fun x=>decide (x.At=q)) with
 |none=>rw[hf] at h;simp at h
 |some x=>exact⟨x,Zcp hf,by simpa using Zco hf⟩
theorem bind_law(s:Qar)(b:Asm)(o:Opt):Qjm s.Set b o.At o.Tile 4=Qhs s.Set (atA b) o.At o.Tile 4:=(Qae8 ..).symm
def seqP(s:Qar)(l:List Opt):Prop:=setP s.Set/\Qn7 s.Set s.Seed/\s.Set.Tiles.length<=160/\s.Seed.Tiles.length<=1000000/\Qaec s s.Seed l/\l.length<=500
theorem Qanf{d:Nat}(hd:d<4):IntKind.i64.wrap (1*2^min d IntKind.i64.bits)=2^d:=by
 rcases (by omega:d=0\/d=1\/d=2\/d=3) with rfl|rfl|rfl|rfl<;>decide
theorem Qaew{d:Nat}(hd:d<4):(2:Int)^d<=8:=by
 rcases (by omega:d=0\/d=1\/d=2\/d=3) with rfl|rfl|rfl|rfl<;>decide
theorem Qaee(s:Qaa)(f:Qae->Int)(p:Qae)(t d:Int):0<Quh s f p t d↔(0<=f (Qf7 p d)/\0<Qfn s t d (f (Qf7 p d))):=by
 by_cases c:0<=f (Qf7 p d)
 .have e:Quh s f p t d=Qfn s t d (f (Qf7 p d)):=Zam c;rw[e];exact⟨fun h=>⟨c,h⟩,fun h=>h.2⟩
 .have e:Quh s f p t d=0:=Zai c;rw[e];exact⟨fun h=>by omega,fun h=>(c h.1).elim⟩
theorem maskF_s(s:Qaa)(f:Qae->Int)(p:Qae)(t:Int)(d:Nat)(h:0<=f (Qf7 p d))(h2:0<Qfn s t d (f (Qf7 p d))):Qadf s f p t (d+1)=Qadf s f p t d+2^d:=by
 simp only[Qadf];rw[Zam ((Qaee ..).2 ⟨h,h2⟩)]
theorem Qaek(s:Qaa)(f:Qae->Int)(p:Qae)(t:Int)(d:Nat)(h: ¬(0<=f (Qf7 p d)/\0<Qfn s t d (f (Qf7 p d)))):Qadf s f p t (d+1)=Qadf s f p t d:=by
 simp only[Qadf];rw[Zai (fun q=>h ((Qaee ..).1 q)),Zfa]
def l10Inputs.ar:List PK->Option (Qar×(List Opt)):=a2 (kP Qar.d 4) (kS Opt.d)
def l10Inputs.ae(a:Qar×(List Opt)):List PK:=[.ptr (Qar.c a.1),.val (.sl false 3 (a.2.map Opt.c))]
def l10Inputs.fv(a:Qar×(List Opt)):(List Int)×(List Int):=(fun s l=>(insS s s.Seed l,smsS s s.Seed l)) (a.1) (a.2)
def l10Inputs.row:Row:=vrow l10Inputs.ar (fun a=>seqP a.1 a.2) (fun a=>(fun b=>D.tup [(fun b=>D.sl false 1 (b.map intC)) (b.1),(fun b=>D.sl false 1 (b.map intC)) (b.2)]) (l10Inputs.fv a))
def l10Inputs.q:=vq l10Inputs.row rfl
def YaU:=J @l10Inputs.ae.eq_1<|J @l10Inputs.fv.eq_1<|J @l03Own.q<|J @l03Own.ar.eq_1<|J @l03Own.fv.eq_1<|J @l01Step.q<|J @l01Step.ar.eq_1<|J @l01Step.fv.eq_1<|J @l03At.q<|J @l03At.ar.eq_1<|J @l03At.fv.eq_1<|J @l02Bond.q<|J @l02Bond.ar.eq_1<|J @l02Bond.fv.eq_1<|J @l06Binding.q<|J @l06Binding.ar.eq_1<|J @l06Binding.fv.eq_1<|J @l03Put.q<|J @l03Put.ar.eq_1 @l03Put.fv.eq_1
theorem l10Inputs.ok:Qas Tryz.prog 82 l10Inputs.row:=by
 refine Qaj Qaq (tC l03Own.ok (tC l01Step.ok (tC l03At.ok (tC l02Bond.ok (tC l06Binding.ok (tC l03Put.ok tN)))))) Tryz.func82 rfl (by kernel_rfl) (by kernel_rfl) (ar:=l10Inputs.ar) (ae:=l10Inputs.ae) (Qaca (Qacc 4 Qar.d_le) (Qacb 3 Opt.d_le (fun _=>rfl))) (n:=2) (fun _=>rfl) (by decide) (rc:=(Qfa (vSl intD) (vSl intD))) (re:=(fun b=>D.tup [(fun b=>D.sl false 1 (b.map intC)) (b.1),(fun b=>D.sl false 1 (b.map intC)) (b.2)])) (Qbz (Qe8 Qb3 (fun _=>rfl)) (Qe8 Qb3 (fun _=>rfl))) (f:=l10Inputs.fv) ?_;intro a hpre;simp only[Tryz.f82,Option.getD];simp(maxSteps:=9^9)(disch:=omega)only[ZZ,simprocAttr,rch,YaU];obtain⟨s,l⟩:=a;simp only at hpre⊢;obtain⟨h1,h2,h3,h4,h5,h6⟩:=hpre;refine⟨h4,?_⟩;refine Qay.ren ⟨{k:Nat//k<=l.length},fun k=>⟨[(9,.im (.int .i64 k.1)),(8,.own 7),(7,.own 6),(6,.ptr 3 0),(0,.ptr 0 0),(1,.im (.sl false 3 (l.map Opt.c)))],[(7,(true,.arr 2 1 ((smsS s s.Seed (l.take k.1)).map intC))),(6,(true,.arr 2 1 ((insS s s.Seed (l.take k.1)).map intC))),(3,(true,.cells 45 [.im (.sl false 3 ((Qac9 s.Seed (l.take k.1)).Tiles.map Qab.c))])),(0,(false,.view (Qar.c s)))],8⟩,fun k=>l.length - k.1,fun k=>⟨by simp[Qad.good,belT,belH,Qam,AV.bel,belL],by simp⟩,⟨⟨0,by simp⟩,[(7,some 5),(6,some 4)],?_⟩,fun k=> ?_⟩
 .simp only[subP];simp(maxSteps:=9^9)(disch:=omega)only[ZZ,simprocAttr,rch,YaU,Zbm,insS,smsS,Qac9,ZaR]
  try simp
 obtain⟨k,hk1⟩:=k;simp(maxSteps:=9^9)(disch:=omega)only[ZZ,simprocAttr,rch,YaU,sub,Qal];intro _;obtain⟨b,hb⟩: ∃b,b=Qac9 s.Seed (l.take k):=⟨_,rfl⟩;have hbi:Qn7 s.Set b:=by rw[hb];exact Qafb h3 h2 h5 k hk1
 rw[<-hb];refine⟨fun hk=>⟨hk,fun x hx=> ?_⟩,fun hk=> ?_⟩
 .have hc:=Qadk (h5 k x hx).1;rw[<-hb] at hc;obtain⟨g1,g2,g3,g4,g5,g6⟩:=hc;refine Qay.old ⟨{d:Nat//d<=4},fun d=>⟨[(12,.im (.int .i64 d.1)),(11,.im (.int .i64 (Qadf s.Set (atA b) x.At x.Tile d.1))),(10,.ptr 8 0),(9,.im (.int .i64 k)),(8,.own 7),(7,.own 6),(6,.ptr 3 0),(0,.ptr 0 0),(1,.im (.sl false 3 (l.map Opt.c)))],[(8,(true,.cells 72 ((Opt.c x).map .im))),(7,(true,.arr 2 1 ((smsS s s.Seed (l.take k)).map intC))),(6,(true,.arr 2 1 ((insS s s.Seed (l.take k)).map intC))),(3,(true,.cells 45 [.im (.sl false 3 (b.Tiles.map Qab.c))])),(0,(false,.view (Qar.c s)))],9⟩,fun d=>4 - d.1,fun d=>⟨by simp[Qad.good,belT,belH,Qam,AV.bel,belL,Opt.c],by simp⟩,⟨⟨0,by simp⟩,by simp(maxSteps:=9^9)(disch:=omega)only[ZZ,simprocAttr,rch,YaU,sub,Qadf]⟩,fun d=> ?_⟩;obtain⟨d,hd1⟩:=d;simp(maxSteps:=9^9)(disch:=omega)only[ZZ,simprocAttr,rch,YaU,sub,Qal];have hmb:=Qafe s.Set (atA b) x.At x.Tile d;refine⟨fun hd=> ?_,fun hd=> ?_⟩
  .have hd4:d<4:=by omega
   have hp8:=Qaew hd4;refine⟨⟨g2,by omega⟩,hbi.1,fun c1=>⟨⟨h1,g5,⟨by omega,by omega⟩,Qafx hbi _ c1⟩,fun c2=> ?_,fun c2=> ?_⟩,fun c1=> ?_⟩
   .refine⟨⟨d+1,by omega⟩,by simp only;omega,by rw[Qak (by omega) (by omega)];simp only;omega,?_⟩;rw[Qanf hd4,Qak (by omega) (by omega),maskF_s _ _ _ _ _ c1 c2]
   .refine⟨⟨d+1,by omega⟩,by simp only;omega,by rw[Qak (by omega) (by omega)];simp only;omega,?_⟩;rw[Qaek _ _ _ _ _ (fun h=>c2 h.2)]
   .refine⟨⟨d+1,by omega⟩,by simp only;omega,by rw[Qak (by omega) (by omega)];simp only;omega,?_⟩;rw[Qaek _ _ _ _ _ (fun h=>c1 h.1)]
  .have hd4:d=4:=by omega
   subst hd4;have hbl:=(h5 k x hx).2;rw[<-hb] at hbl;refine⟨by simp[OneR,allD,D.one],by rw[Qadv,Zat];omega,⟨h1,hbi,g2,g5⟩,by simp[OneR,allD,D.one],by rw[Qael,Zat];omega,by omega,⟨k+1,by omega⟩,[(7,some 12),(6,some 10)],by simp only;omega,?_⟩;simp only[subP,Qwe hx,Qad8,Qad9,Qadp,<-hb];simp(maxSteps:=9^9)(disch:=omega)only[ZZ,simprocAttr,rch,YaU,Zag,Zaf];refine⟨by rw[Qak (by omega) (by omega)];omega,?_,?_⟩
   .simp[intC,bind_law]
   .simp[intC]
 .rw[ZaA (by omega)]
  try trivial
theorem has_eq(m:Int)(d:Nat):(hasI m d=true)=(andI .i64 (m.fdiv (2^min d IntKind.i64.bits)) 1=1):=by
 simp only[hasI,Zap,Zak];rfl
theorem Qanl{p q:Qae}:((p.X==q.X)=true/\(p.Y==q.Y)=true)↔p=q:=by
 cases p;cases q;simp
theorem rm_free{s:Qar}{t:List (Qae×Int)}{a:Asm}{k:Nat}{o:Opt}(h:RM t a k)(ha:Qn7 s.Set a)(c1:canS s a o=true):lkP t o.At=none/\0<=o.Tile:=by
 simp only[canS,Zah,Zap] at c1;obtain⟨d1,d2,d3,_⟩:=c1;have hv:0<=o.Tile:=by
  simp only[Qau,Zah,Zap] at d2;exact d2.1
 refine⟨?_,hv⟩;have h1:Qbw t o.At=atA a o.At:=congrFun h.at o.At;have h2:=(Qala ha.2 o.At).1 d3;cases hq:lkP t o.At with
 |none=>rfl
 |some v=>
  exfalso;have h3:=h.pos _ (Qac0 hq);simp only[Qbw,hq,Zac] at h1;simp only at h3;omega
def plD:D->Option (Option Pld)
 | .ref ds=>(Pld.d (ds.take 8)).map some
 | .nilp=>some none
 |_=>none
def plE:Option Pld->D
 |some x=> .ref (Pld.c x)
 |none=> .nilp
theorem plD_le: ∀d b,plD d=some b->Le d (plE b):=by
 intro d b h;unfold plD at h;split at h
 .simp only[Zaw] at h;obtain⟨x,h1,rfl⟩:=h;exact Qil (LeP.trans_take (Pld.d_le _ _ h1))
 .obtain rfl:=Zaa h;exact Le.refl _
 .cases h
theorem plD_ref(x:Pld):plD (.ref (Pld.c x))=some (some x):=by
 show (Pld.d (Pld.c x)).map some=_;rw[Pld.d_c];rfl
theorem bindF_s(s:Qaa)(f:Qae->Int)(p:Qae)(t:Int)(d:Nat)(h:0<=f (Qf7 p d)):Qhs s f p t (d+1)=Qhs s f p t d+Qfn s t d (f (Qf7 p d)):=by
 have e:Quh s f p t d=Qfn s t d (f (Qf7 p d)):=Zam h;simp only[Qhs,e]
theorem bindF_n{s:Qaa}(hs:setP s)(f:Qae->Int)(p:Qae)(t:Int)(d:Nat)(h: ¬(0<=f (Qf7 p d)/\0<Qfn s t d (f (Qf7 p d)))):Qhs s f p t (d+1)=Qhs s f p t d:=by
 have h1:=Qxd hs f p t d;have h2: ¬0<Quh s f p t d:=fun q=>h ((Qaee ..).1 q)
 simp only[Qhs];omega
def Qae2(s:Qar)(l:List Opt):Option Pld×Int:=if (seqS s l).2.2≠0 then (none,(seqS s l).2.2) else (some ⟨s,l,(seqS s l).1,insS s s.Seed l,smsS s s.Seed l⟩,0)
theorem seqS_ok{s:Qar}{l:List Opt}(h:(seqS s l).2.2=0):(seqS s l).1=Qac9 s.Seed l/\seqP s l/\Qjc s=true:=by
 obtain⟨h1,h2⟩:=seq_ok h;obtain⟨⟨q1,q2,q3,q4⟩,_⟩:=Qacj h1;have e:seqS s l=Qacg s s.Seed l 0:=by
  simp only[seqS];rw[Zai (by rw[h1];decide),Zai (by omega)]
 rw[e] at h⊢;obtain⟨p1,p2⟩:=Qaez l s.Seed 0 h;exact⟨by rw[p1],⟨q1,q2,q3,q4,p2,h2⟩,h1⟩
def play_.ar:List PK->Option (Qar×(List Opt)):=a2 (kR Qar.d) (kS Opt.d)
def play_.ae(a:Qar×(List Opt)):List PK:=[.val (.agg (Qar.c a.1)),.val (.sl false 3 (a.2.map Opt.c))]
def play_.fv(a:Qar×(List Opt)):(Option Pld)×Int:=(Qae2) (a.1) (a.2)
def play_.row:Row:=vrow play_.ar (fun a=>Qf6 a.1.Set) (fun a=>(fun b=>D.tup [(plE) (b.1),(D.int .i64) (b.2)]) (play_.fv a))
def play_.q:=vq play_.row rfl
def YaV:=J @play_.ae.eq_1<|J @play_.fv.eq_1<|J @PlayI_.q<|J @PlayI_.ar.eq_1<|J @PlayI_.fv.eq_1<|J @step_.q<|J @step_.ar.eq_1<|J @step_.fv.eq_1<|J @step_.re.eq_1<|J @catC.q<|J @catC.ar.eq_1<|J @catC.fv.eq_1<|J @bond_.q<|J @bond_.ar.eq_1<|J @bond_.fv.eq_1 @bond_.re.eq_1
theorem play_.ok:Qas Tryz.prog 50 play_.row:=by
 refine Qaj Qaq (tC PlayI_.ok (tC newC.ok (tC step_.ok (tC catC.ok (tC bond_.ok (tC putC.ok tN)))))) Tryz.func50 rfl (by kernel_rfl) (by kernel_rfl) (ar:=play_.ar) (ae:=play_.ae) (Qaca (Qab8 Qar.d_le) (Qacb 3 Opt.d_le (fun _=>rfl))) (n:=2) (fun _=>rfl) (by decide) (rc:=(Qfa (plD) (vInt))) (re:=(fun b=>D.tup [(plE) (b.1),(D.int .i64) (b.2)])) (Qbz (plD_le) (Qa3)) (f:=play_.fv) ?_;intro a hpre;simp only[Tryz.f50,Option.getD];simp(maxSteps:=9^9)(disch:=omega)only[ZZ,simprocAttr,rch,YaV];obtain⟨s,l⟩:=a;simp only at hpre⊢;refine⟨hpre,?_⟩;simp only[seq_law];by_cases c0:(seqS s l).2.2=0
 case neg=>
  rw[Zam c0];simp only[Qae2,plD,Zby];rw[Zam c0]
 rw[Zai (fun h=>h c0)];have eR:Qae2 s l=(some ⟨s,l,(seqS s l).1,insS s s.Seed l,smsS s s.Seed l⟩,0):=by
  simp only[Qae2];rw[Zai (fun h=>h c0)]
 obtain⟨hE,⟨q1,q2,q3,q4,q5,q6⟩,hso⟩:=seqS_ok c0;obtain⟨_,q7,q8⟩:=Qacj hso;have hbp:=Qof (s:=s.Set) (a:=s.Seed) (by rw[q7,q8];rfl);have hnp:newC.pre (s,s.Seed):=⟨q1,by simp only;omega,fun y hy=>⟨q2.2 y hy,hbp.1.2.2.2 y hy⟩⟩;obtain⟨e,he⟩: ∃e,e=(seqS s l).1:=⟨_,rfl⟩;rw[eR];simp only[<-he];refine orow.os (s,s.Seed) [] hnp (fun j=>by simp[domB,hget]) rfl rfl ?_ ?_
 .simp(maxSteps:=9^9)(disch:=omega)only[ZZ,simprocAttr,rch,YaV,newC.ca,Qer,Qar.c,Asm.c]
 simp(maxSteps:=9^9)(disch:=omega)only[ZZ,simprocAttr,rch,YaV,newC.H1,sub,Zbk,ZbX];intro _;refine Qay.ren ⟨{k:Nat×List (Qae×Int)×List (Qae×List Int)//k.1<=l.length/\ ∃n,RM k.2.1 (Qac9 s.Seed (l.take k.1)) n},fun k=>⟨[(39,.im (.int .i64 k.1.1)),(38,.im (.int .i64 l.length)),(37,.im (.sl false 3 (l.map Opt.c))),(10,.ptr 7 0),(9,.ptr 2 0),(5,.im (.int .i64 0)),(2,.ptr 0 0)],[(2,(true,.cells 138 [.im (.sl false 2 (s.Set.Glues.map Glue.c)),.im (.sl false 2 (s.Set.Tiles.map Tile.c)),.im (.sl false 3 (s.Seed.Tiles.map Qab.c)),.im (.int .i64 s.Temperature),.im (.sl false 3 (l.map Opt.c)),.im (.sl false 3 (e.Tiles.map Qab.c)),.own 8,.own 9])),(9,(true,.arr 2 1 ((smsS s s.Seed (l.take k.1.1)).map intC))),(8,(true,.arr 2 1 ((insS s s.Seed (l.take k.1.1)).map intC))),(7,(true,.cells 175 [.im (.sl false 2 (s.Set.Glues.map Glue.c)),.im (.sl false 2 (s.Set.Tiles.map Tile.c)),.im (.sl false 3 (s.Seed.Tiles.map Qab.c)),.im (.int .i64 s.Temperature),.mp 5,.mp 6])),
  (5,(true,.map ⟨true,[.int .i64,.int .i64]⟩ (k.1.2.1.map Qbe))),(6,(true,.map ⟨true,[.int .i64,.int .i64]⟩ (k.1.2.2.map Qbc))),(0,(true,.cells 47 ((Qar.c s).map .im)))],10⟩,fun k=>l.length - k.1.1,fun k=>⟨by simp[Qad.good,belT,belH,Qam,AV.bel,belL,Qar.c],by simp⟩,⟨⟨(0,(Qui s s.Seed).Tl,(Qui s s.Seed).Op),by simp only;exact⟨ZaP _,_,RM.of q2.1 (fun x hx=>(q2.2 x hx).1)⟩⟩,[(9,none),(8,none)],?_⟩,fun k=> ?_⟩
 .simp only[subP];simp(maxSteps:=9^9)(disch:=omega)only[ZZ,simprocAttr,rch,YaV,Zbm,insS,smsS,Qac9,ZaR]
  try simp
 obtain⟨⟨k,tl,op⟩,hk1,n,hrm⟩:=k;simp only at hk1 hrm;simp(maxSteps:=9^9)(disch:=omega)only[ZZ,simprocAttr,rch,YaV,sub,Qal];obtain⟨b,hb⟩: ∃b,b=Qac9 s.Seed (l.take k):=⟨_,rfl⟩;have hbi:Qn7 s.Set b:=by rw[hb];exact Qafb q3 q2 q5 k hk1
 rw[<-hb] at hrm;have hat:=hrm.at;refine⟨fun hk=>⟨hk,fun x hx=> ?_⟩,fun hk=> ?_⟩
 .obtain⟨cS,cL⟩:=q5 k x hx;rw[<-hb] at cS cL;obtain⟨g1,g2,g3,g4,g5,g6⟩:=Qadk cS;refine Qay.old ⟨{d:Nat//d<=4},fun d=>⟨[(43,.im (.int .i64 d.1)),(14,.im (.int .i64 (Qhs s.Set (atA b) x.At x.Tile d.1))),(13,.im (.int .i64 (Qadf s.Set (atA b) x.At x.Tile d.1))),(12,.ptr 10 0),(39,.im (.int .i64 k)),(38,.im (.int .i64 l.length)),(37,.im (.sl false 3 (l.map Opt.c))),(10,.ptr 7 0),(9,.ptr 2 0),(5,.im (.int .i64 0)),(2,.ptr 0 0)],[(10,(true,.cells 72 ((Opt.c x).map .im))),(2,(true,.cells 138 [.im (.sl false 2 (s.Set.Glues.map Glue.c)),.im (.sl false 2 (s.Set.Tiles.map Tile.c)),.im (.sl false 3 (s.Seed.Tiles.map Qab.c)),.im (.int .i64 s.Temperature),.im (.sl false 3 (l.map Opt.c)),.im (.sl false 3 (e.Tiles.map Qab.c)),.own 8,.own 9])),(9,(true,.arr 2 1 ((smsS s s.Seed (l.take k)).map intC))),(8,(true,.arr 2 1 ((insS s s.Seed (l.take k)).map intC))),(7,(true,.cells 175 [.im (.sl false 2 (s.Set.Glues.map Glue.c)),.im (.sl false 2 (s.Set.Tiles.map Tile.c)),.im (.sl false 3 (s.Seed.Tiles.map Qab.c)),.im (.int .i64 s.Temperature),.mp 5,.mp 6])),
   (5,(true,.map ⟨true,[.int .i64,.int .i64]⟩ (tl.map Qbe))),(6,(true,.map ⟨true,[.int .i64,.int .i64]⟩ (op.map Qbc))),(0,(true,.cells 47 ((Qar.c s).map .im)))],11⟩,fun d=>4 - d.1,fun d=>⟨by simp[Qad.good,belT,belH,Qam,AV.bel,belL,Qar.c,Opt.c],by simp⟩,⟨⟨0,by simp⟩,by simp(maxSteps:=9^9)(disch:=omega)only[ZZ,simprocAttr,rch,YaV,sub,Qadf,Qhs]⟩,fun d=> ?_⟩
  obtain⟨d,hd1⟩:=d;simp(maxSteps:=9^9)(disch:=omega)only[ZZ,simprocAttr,rch,YaV,sub,Qal,hat];have hmb:=Qafe s.Set (atA b) x.At x.Tile d;have hbb:=Qwy q1 (atA b) x.At x.Tile d;have htb:=Qxd q1 (atA b) x.At x.Tile d;refine⟨fun hd=> ?_,fun hd=> ?_⟩
  .have hd4:d<4:=by omega
   have hp8:=Qaew hd4;refine⟨⟨g2,by omega⟩,fun c1=>⟨⟨q1,g5,⟨by omega,by omega⟩,Qafx hbi _ c1⟩,fun c2=> ?_,fun c2=> ?_⟩,fun c1=> ?_⟩
   .have ht:Quh s.Set (atA b) x.At x.Tile d=Qfn s.Set x.Tile d (atA b (Qf7 x.At d)):=Zam c1;rw[ht] at htb;refine⟨⟨d+1,by omega⟩,by simp only;omega,by rw[Qak (by omega) (by omega)];simp only;omega,?_,?_⟩
    .rw[Qak (by omega) (by omega),bindF_s _ _ _ _ _ c1]
    .rw[Qanf hd4,or_bit hd4 hmb.1 hmb.2,maskF_s _ _ _ _ _ c1 c2]
   .refine⟨⟨d+1,by omega⟩,by simp only;omega,by rw[Qak (by omega) (by omega)];simp only;omega,?_,?_⟩
    .rw[bindF_n q1 _ _ _ _ (fun h=>c2 h.2)]
    .rw[Qaek _ _ _ _ _ (fun h=>c2 h.2)]
   .refine⟨⟨d+1,by omega⟩,by simp only;omega,by rw[Qak (by omega) (by omega)];simp only;omega,?_,?_⟩
    .rw[bindF_n q1 _ _ _ _ (fun h=>c1 h.1)]
    .rw[Qaek _ _ _ _ _ (fun h=>c1 h.1)]
  .have hd4:d=4:=by omega
   subst hd4;refine⟨by simp[OneR,allD,D.one],by rw[Qadv,Zat];omega,by simp[OneR,allD,D.one],by rw[Qael,Zat];omega,?_⟩;have hin:inF s.Set (Qbw tl):=by rw[hat];exact fun p hp=>Qafx hbi p hp
   have hcr:Qacu ⟨s,tl,op⟩:=⟨q1,hin,by simp only;omega⟩;obtain⟨f1,f2⟩:=rm_free hrm hbi cS;refine orow.os (⟨s,tl,op⟩,x.At,x.Tile) [7,5,6] ⟨hcr,g2,g5⟩ (fun j=>Qack _ j) rfl rfl ?_ ?_
   .simp(maxSteps:=9^9)(disch:=omega)only[ZZ,simprocAttr,rch,YaV,putC.ca,cryH,Qbk,Zbd,Zbk,ZbX]
   .simp(maxSteps:=9^9)(disch:=omega)only[ZZ,simprocAttr,rch,YaV,putC.H1,kl12,sub,putT,Zbk,ZbX];refine⟨⟨(k+1,updP tl x.At x.Tile,Qrz s (Qbw (updP tl x.At x.Tile)) (delP op x.At) x.At 4),by simp only;exact⟨by omega,_,by rw[Qwe hx,Qadp,<-hb];exact hrm.put f2 f1⟩⟩,[(9,some 14),(8,some 12)],by simp only;omega,?_⟩;simp only[subP,Qwe hx,Qad8,Qad9,<-hb];simp(maxSteps:=9^9)(disch:=omega)only[ZZ,simprocAttr,rch,YaV,Zag,Zaf];refine⟨by rw[Qak (by omega) (by omega)];omega,?_,?_⟩<;>simp[intC]
 .rw[ZaA (by omega)]
  have:=plD_ref ⟨s,l,e,insS s s.Seed l,smsS s s.Seed l⟩
  simp only[Pld.c] at this;rw[this];rfl
def has_.ar:List PK->Option (Int×Int):=a2 kI kI
def has_.ae(a:Int×Int):List PK:=[.val (.int .i64 a.1),.val (.int .i64 a.2)]
def has_.fv(a:Int×Int):Bool:=(hasI) (a.1) (a.2)
def has_.row:Row:=vrow has_.ar (fun a=>0<=a.2/\a.2<=62) (fun a=>(D.bool) (has_.fv a))
def has_.q:=vq has_.row rfl
theorem has_.ok:Qas Tryz.prog 131 has_.row:=by
 refine Qaj Qaq tN Tryz.func131 rfl (by kernel_rfl) (by kernel_rfl) (ar:=has_.ar) (ae:=has_.ae) (Qaca Qab9 Qab9) (n:=2) (fun _=>rfl) (by decide) (rc:=(Qa8)) (re:=(D.bool)) (Qat) (f:=has_.fv) ?_;intro a hpre;simp only[Tryz.f131,Option.getD];simp(maxSteps:=9^9)(disch:=omega)only[ZZ,simprocAttr,rch,has_.ae,has_.fv];exact⟨hpre.1,rfl⟩
def iA1.ar:List PK->Option (Opt×Qae):=a2 (kR Opt.d) (kP Qae.d 2)
def iA1.ae(a:Opt×Qae):List PK:=[.val (.agg (Opt.c a.1)),.ptr (Qae.c a.2)]
def iA1.fv(a:Opt×Qae):Bool:=(fun o p=>decide (o.At=p)) (a.1) (a.2)
def iA1.row:Row:=vrow iA1.ar (fun a=>True) (fun a=>(D.bool) (iA1.fv a))
def iA1.q:=vq iA1.row rfl
theorem iA1.ok:Qas Tryz.prog 185 iA1.row:=by
 refine Qaj Qaq tN Tryz.func185 rfl (by kernel_rfl) (by kernel_rfl) (ar:=iA1.ar) (ae:=iA1.ae) (Qaca (Qab8 Opt.d_le) (Qacc 2 Qae.d_le)) (n:=2) (fun _=>rfl) (by decide) (rc:=(Qa8)) (re:=(D.bool)) (Qat) (f:=iA1.fv) ?_;intro a hpre;simp only[Tryz.f185,Option.getD];simp(maxSteps:=9^9)(disch:=omega)only[ZZ,simprocAttr,rch,iA1.ae,iA1.fv];obtain⟨⟨⟨x,y⟩,u⟩,⟨z,w⟩⟩:=a;rw[Zcu];simp
def IdxO_.ar:List PK->Option ((List Opt)×Qae)
 |[.val (.sl _ _ x0),.val (.fn 185 [] [.ref x1_0])]=>(decR Opt.d x0).bind fun y0=>(Qae.d (x1_0.take 2)).bind fun y1_0=>some (y0,y1_0)
 |_=>none
def IdxO_.ae(a:(List Opt)×Qae):List PK:=[.val (.sl false 3 (a.1.map Opt.c)),.val (.fn 185 [] [.ref (Qae.c a.2)])]
theorem IdxO_.le: ∀ps a,IdxO_.ar ps=some a->LeKL ps (IdxO_.ae a):=by
 intro ps a h;unfold IdxO_.ar at h;split at h
 .simp only[ZaH,Zab] at h;obtain⟨y0,h0,y1_0,h1_0,rfl⟩:=h;exact⟨Qbf (Qa2 Opt.d_le _ _ h0) (by simp only[ZaJ];rintro r ⟨y,_,rfl⟩;rfl),Qos ⟨Qil (LeP.trans_take (Qae.d_le _ _ h1_0)),trivial⟩,trivial⟩
 .cases h
def IdxO_.fv(a:(List Opt)×Qae):Int:=(fun l p=>idxO l p) (a.1) (a.2)
def IdxO_.row:Row:=vrow IdxO_.ar (fun a=>True) (fun a=>(D.int .i64) (IdxO_.fv a))
def IdxO_.q:=vq IdxO_.row rfl
def YaW:=J @IdxO_.ae.eq_1<|J @IdxO_.fv.eq_1<|J @iA1.q<|J @iA1.ar.eq_1 @iA1.fv.eq_1
theorem IdxO_.ok:Qas Tryz.prog 184 IdxO_.row:=by
 refine Qaj Qaq (tC iA1.ok tN) Tryz.func184 rfl (by kernel_rfl) (by kernel_rfl) (ar:=IdxO_.ar) (ae:=IdxO_.ae) IdxO_.le (n:=2) (fun _=>rfl) (by decide) (rc:=(vInt)) (re:=(D.int .i64)) (Qa3) (f:=IdxO_.fv) ?_;intro a hpre;simp only[Tryz.f184,Option.getD];simp(maxSteps:=9^9)(disch:=omega)only[ZZ,simprocAttr,rch,YaW];intro hn;simp only[idxO];refine Qay.old ⟨{k:Nat//k<=a.1.length/\Qaw (fun o:Opt=>decide (o.At=a.2)) k (a.1.drop k)=Qaw (fun o:Opt=>decide (o.At=a.2)) 0 a.1},fun k=>⟨[(8,.im (.int .i64 k.1)),(7,.im (.int .i64 a.1.length)),(6,.im (.sl false 3 (a.1.map Opt.c))),(4,.im (.int .i64 0)),(0,.im (.sl false 3 (a.1.map Opt.c))),(1,.im (.fn 185 [] [.ref (Qae.c a.2)]))],[],0⟩,fun k=>a.1.length - k.1,fun k=>⟨by simp[Qad.good,belT,belH,Qam,AV.bel,belL],Zal _⟩,⟨⟨0,by simp⟩,by simp(maxSteps:=9^9)(disch:=omega)only[ZZ,simprocAttr,rch,YaW,sub]⟩,fun k=> ?_⟩;obtain⟨k,hk1,hk2⟩:=k;simp(maxSteps:=9^9)(disch:=omega)only[ZZ,simprocAttr,rch,YaW,sub,Qal];refine⟨fun hk=>⟨hk,fun x hx=> ?_⟩,fun hk=> ?_⟩
 .rw[Qd3 hx,Qaw] at hk2;refine⟨fun h=> ?_,fun h=>Qb6 hk hn ⟨by omega,by rw[<-hk2,Zai (by simpa using h)]⟩⟩;rw[Zam (by simpa using h)] at hk2;exact hk2
 .rw[Zau (by omega),Qaw] at hk2;exact hk2
def idxAt_.ar:List PK->Option (Pld×Qae):=a2 (kP Pld.d 8) (kR Qae.d)
def idxAt_.ae(a:Pld×Qae):List PK:=[.ptr (Pld.c a.1),.val (.agg (Qae.c a.2))]
def idxAt_.fv(a:Pld×Qae):Int:=(fun x p=>idxO x.Seq p) (a.1) (a.2)
def idxAt_.row:Row:=vrow idxAt_.ar (fun a=>True) (fun a=>(D.int .i64) (idxAt_.fv a))
def idxAt_.q:=vq idxAt_.row rfl
theorem idxAt_.ok:Qas Tryz.prog 159 idxAt_.row:=by
 refine Qaj Qaq (tC IdxO_.ok tN) Tryz.func159 rfl (by kernel_rfl) (by kernel_rfl) (ar:=idxAt_.ar) (ae:=idxAt_.ae) (Qaca (Qacc 8 Pld.d_le) (Qab8 Qae.d_le)) (n:=2) (fun _=>rfl) (by decide) (rc:=(vInt)) (re:=(D.int .i64)) (Qa3) (f:=idxAt_.fv) ?_;intro a hpre;simp only[Tryz.f159,Option.getD];simp(maxSteps:=9^9)(disch:=omega)only[ZZ,simprocAttr,rch,idxAt_.ae,idxAt_.fv,IdxO_.q,IdxO_.ar,IdxO_.fv]
 skip
def nonE{A:Type}(l:List A):Option (List A):=if l=[] then none else some l
abbrev Qajt(s:Qar)(f:Qae->Int)(q:Qae):List Int:=Qm0 s f q s.Set.Tiles.length
def OpOk(s:Qar)(f:Qae->Int)(op:List (Qae×List Int)):Prop:=(op.map Prod.fst).Nodup/\ ∀q,lkP op q=nonE (Qajt s f q)
theorem Qaj1{s:Qar}{f:Qae->Int}{q:Qae}(h: ∀k:Int,Qpg s f q k=false): ∀n,Qm0 s f q n=[]
 |0=>rfl
 |n+1=>by simp only[Qm0,Qaj1 h n,h,ZbA];rfl
theorem fitUp_occ{s:Qar}{f:Qae->Int}{q:Qae}(h:0<=f q)(n:Nat):Qm0 s f q n=[]:=
 Qaj1 (fun k=>by simp only[Qpg];rw[ZcS (show ¬f q<0 by omega)];simp) n
theorem Qakr{s:Qaa}{f:Qae->Int}{q:Qae}{t:Int}(h: ∀d:Nat,d<4->f (Qf7 q d)<0): ∀k,k<=4->Qhs s f q t k=0
 |0,_=>rfl
 |k+1,hk=>by
  have:=h k (by omega)
  simp only[Qhs,Qakr h k (by omega),Quh];rw[Zai (by omega)];rfl
theorem Qakp{s:Qar}{f:Qae->Int}{q:Qae}(hT:1<=s.Temperature)(h: ∀d:Nat,d<4->f (Qf7 q d)<0)(n:Nat):Qm0 s f q n=[]:=
 Qaj1 (fun k=>by simp only[Qpg,Qakr h 4 (Zal _)];rw[ZcS (show ¬s.Temperature<=0 by omega)];simp) n
theorem lkP_no{β:Type}{p:Qae}: ∀{l:List (Qae×β)},p∉l.map Prod.fst->lkP l p=none
 |[],_=>rfl
 |(k,v)::r,h=>by
  simp only[Zan,Zav,Zfc] at h;simp only[lkP];rw[Zai h.1,lkP_no h.2]
theorem Qakn{β:Type}{p:Qae}: ∀{l:List (Qae×β)},p∈l.map Prod.fst-> ∃v,lkP l p=some v/\(p,v)∈l
 |[],h=>by simp at h
 |(k,v)::r,h=>by
  simp only[lkP];by_cases c:p=k
  .rw[Zam c,c];exact⟨v,rfl,Zas ..⟩
  .rw[Zai c];obtain⟨w,h1,h2⟩:=Qakn (l:=r) (by simpa[c] using h);exact⟨w,h1,Zar _ h2⟩
theorem lkP_in{β:Type}{p:Qae}{l:List (Qae×β)}:p∈l.map Prod.fst↔lkP l p≠none:=by
 constructor
 .intro h;obtain⟨v,h1,_⟩:=Qakn h;rw[h1];simp
 .intro h;apply Zcn;intro h2;exact h (lkP_no h2)
theorem Qak7{β:Type}{p q:Qae}: ∀{l:List (Qae×β)},q∈(delP l p).map Prod.fst->q∈l.map Prod.fst
 |[],h=>by simp[delP] at h
 |(k,v)::r,h=>by
  simp only[delP] at h;split at h
  .exact Zar _ h
  .simp only[Zan,Zav] at h⊢;rcases h with h|h
   .exact .inl h
   .exact .inr (Qak7 h)
theorem delP_nd{β:Type}{p:Qae}: ∀{l:List (Qae×β)},(l.map Prod.fst).Nodup->((delP l p).map Prod.fst).Nodup
 |[],h=>h
 |(k,v)::r,h=>by
  simp only[Zan,ZbK] at h;simp only[delP];split
  .exact h.2
  .simp only[Zan,ZbK];exact⟨fun h2=>h.1 (Qak7 h2),delP_nd h.2⟩
theorem lkP_del{β:Type}{p:Qae}(q:Qae): ∀{l:List (Qae×β)},(l.map Prod.fst).Nodup->lkP (delP l p) q=if q=p then none else lkP l q
 |[],_=>by simp[delP,lkP]
 |(k,v)::r,h=>by
  simp only[Zan,ZbK] at h;simp only[delP];by_cases c:p=k
  .rw[Zam c];by_cases e:q=p
   .rw[Zam e,e,c];exact lkP_no h.1
   .rw[Zai e];simp only[lkP];rw[Zai (fun h2=>e (h2.trans c.symm))]
  .rw[Zai c];simp only[lkP];by_cases e:q=k
   .rw[Zam e,Zam e,Zai (fun h2=>c (h2.symm.trans e))]
   .rw[Zai e,Zai e,lkP_del q h.2]
theorem updP_ky{β:Type}{p q:Qae}{v:β}: ∀{l:List (Qae×β)},q∈(updP l p v).map Prod.fst↔q=p\/q∈l.map Prod.fst
 |[]=>by simp[updP]
 |(k,w)::r=>by
  simp only[updP];split
  .rename_i c;subst c;simp
  .simp only[Zan,Zav,updP_ky (l:=r)];constructor
   .rintro (h|h|h)
    .exact .inr (.inl h)
    .exact .inl h
    .exact .inr (.inr h)
   .rintro (h|h|h)
    .exact .inr (.inl h)
    .exact .inl h
    .exact .inr (.inr h)
theorem Qak9{β:Type}{p:Qae}{v:β}: ∀{l:List (Qae×β)},(l.map Prod.fst).Nodup->((updP l p v).map Prod.fst).Nodup
 |[],_=>by simp[updP]
 |(k,w)::r,h=>by
  simp only[Zan,ZbK] at h;simp only[updP];split
  .rename_i c;subst c;simp only[Zan,ZbK];exact h
  .rename_i c;simp only[Zan,ZbK];refine⟨fun h2=> ?_,Qak9 h.2⟩;rcases updP_ky.1 h2 with e|e
   .exact c e.symm
   .exact h.1 e
theorem lookS_nd{s:Qar}{f:Qae->Int}{op:List (Qae×List Int)}{q:Qae}(h:(op.map Prod.fst).Nodup):((Qak2 s f op q).map Prod.fst).Nodup:=by
 simp only[Qak2];split
 .exact delP_nd h
 .exact Qak9 h
theorem lookS_lk{s:Qar}{f:Qae->Int}{op:List (Qae×List Int)}{p:Qae}(h:(op.map Prod.fst).Nodup)(q:Qae):lkP (Qak2 s f op p) q=if q=p then nonE (Qajt s f q) else lkP op q:=by
 simp only[Qak2];by_cases c:Qm0 s f p s.Set.Tiles.length=[]
 .rw[Zam c,lkP_del q h];by_cases e:q=p
  .subst e;rw[Zam rfl,Zam rfl,nonE,Zam c]
  .rw[Zai e,Zai e]
 .rw[Zai c,Qyq];by_cases e:q=p
  .subst e;rw[Zam rfl,Zam rfl,nonE,Zai c]
  .rw[Zai e,Zai e]
theorem Qakk{s:Qar}{f:Qae->Int}{op:List (Qae×List Int)}{p:Qae}(h:(op.map Prod.fst).Nodup): ∀k,((Qrz s f op p k).map Prod.fst).Nodup
 |0=>h
 |k+1=>lookS_nd (Qakk h k)
def Qaj9(p q:Qae):Prop:= ∃d:Nat,d<4/\Qf7 p d=q
theorem Qalc{s:Qar}{f:Qae->Int}{op:List (Qae×List Int)}{p:Qae}(h:(op.map Prod.fst).Nodup)(q:Qae): ∀k,(∀d:Nat,d<k->Qf7 p d≠q)/\lkP (Qrz s f op p k) q=lkP op q\/(∃d:Nat,d<k/\Qf7 p d=q)/\lkP (Qrz s f op p k) q=nonE (Qajt s f q)
 |0=> .inl ⟨fun d hd=>absurd hd (by omega),rfl⟩
 |k+1=>by
  have ih:=Qalc (s:=s) (f:=f) (p:=p) h q k;simp only[Qrz,lookS_lk (Qakk h k)];by_cases c:q=Qf7 p k
  .rw[Zam c];exact .inr ⟨⟨k,by omega,c.symm⟩,rfl⟩
  .rw[Zai c];rcases ih with ⟨h1,h2⟩|⟨⟨d,h1,h2⟩,h3⟩
   .refine .inl ⟨fun d hd=> ?_,h2⟩;by_cases e:d=k
    .subst e;exact fun h=>c h.symm
    .exact h1 d (by omega)
   .exact .inr ⟨⟨d,by omega,h2⟩,h3⟩
theorem look4{s:Qar}{f:Qae->Int}{op:List (Qae×List Int)}{p:Qae}(h:(op.map Prod.fst).Nodup)(q:Qae):(¬Qaj9 p q/\lkP (Qrz s f op p 4) q=lkP op q)\/(Qaj9 p q/\lkP (Qrz s f op p 4) q=nonE (Qajt s f q)):=by
 rcases Qalc (s:=s) (f:=f) h q 4 with ⟨h1,h2⟩|h
 .exact .inl ⟨fun ⟨d,hd,e⟩=>h1 d hd e,h2⟩
 .exact .inr h
theorem step_back(p:Qae){d:Nat}(h:d<4):Qf7 (Qf7 p d) ((d+2) % 4:Nat)=p:=by
 rcases (by omega:d=0\/d=1\/d=2\/d=3) with rfl|rfl|rfl|rfl<;>simp[Qf7]<;>omega
theorem Qake{p q:Qae}(h:Qaj9 p q):Qaj9 q p:=by
 obtain⟨d,hd,rfl⟩:=h;exact⟨(d+2) % 4,by omega,step_back p hd⟩
theorem Qak1{s:Qar}{f:Qae->Int}(q:Qae): ∀(l:List Qab) (op:List (Qae×List Int)),(op.map Prod.fst).Nodup->
 ((l.foldl (fun o x=>Qrz s f o x.At 4) op).map Prod.fst).Nodup/\((∀x∈l,¬Qaj9 x.At q)/\lkP (l.foldl (fun o x=>Qrz s f o x.At 4) op) q=lkP op q\/(∃x∈l,Qaj9 x.At q)/\lkP (l.foldl (fun o x=>Qrz s f o x.At 4) op) q=nonE (Qajt s f q))
 |[],op,h=>⟨h,.inl ⟨by simp,rfl⟩⟩
 |x::r,op,h=>by
  simp only[Zdd];obtain⟨h1,h2⟩:=Qak1 (s:=s) (f:=f) q r (Qrz s f op x.At 4) (Qakk h 4);refine⟨h1,?_⟩;rcases h2 with ⟨a,b⟩|⟨⟨y,hy,a⟩,b⟩
  .rcases look4 (s:=s) (f:=f) (p:=x.At) h q with ⟨c,e⟩|⟨c,e⟩
   .refine .inl ⟨fun y hy=> ?_,b.trans e⟩;rcases Zav.1 hy with rfl|hy
    .exact c
    .exact a y hy
   .exact .inr ⟨⟨x,Zas ..,c⟩,b.trans e⟩
  .exact .inr ⟨⟨y,Zar _ hy,a⟩,b⟩
theorem tlUp_at{l:List Qab}: ∀{q:Qae},0<=Qbw (tlUp l) q-> ∃x∈l,x.At=q:=by
 have key: ∀(l:List Qab) (t:List (Qae×Int)) (q:Qae),lkP (l.foldl (fun t x=>updP t x.At x.Tile) t) q≠none->(∃x∈l,x.At=q)\/lkP t q≠none:=by
  intro l;induction l with
  |nil=>intro t q h;exact .inr h
  |cons x r ih=>
   intro t q h;rcases ih _ q h with ⟨y,hy,e⟩|h2
   .exact .inl ⟨y,Zar _ hy,e⟩
   .rw[Qyq] at h2;split at h2
    .rename_i e;exact .inl ⟨x,Zas ..,e.symm⟩
    .exact .inr h2
 intro q h;rcases key l [] q (fun e=>by
  simp only[Qbw,tlUp,e,Option.getD_none] at h;omega) with h2|h2
 .exact h2
 .simp[lkP] at h2
theorem op_new{s:Qar}{l:List Qab}(hT:1<=s.Temperature):OpOk s (Qbw (tlUp l)) (opUp s (Qbw (tlUp l)) l):=by
 have hn:(([]:List (Qae×List Int)).map Prod.fst).Nodup:=by simp
 refine⟨(Qak1 ⟨0,0⟩ l [] hn).1,fun q=> ?_⟩;rcases (Qak1 (s:=s) (f:=Qbw (tlUp l)) q l [] hn).2 with ⟨h1,h2⟩|⟨_,h2⟩
 .rw[opUp,h2]
  have:Qajt s (Qbw (tlUp l)) q=[]:=by
   refine Qakp hT (fun d hd=> ?_) _;apply Zcn;intro h;obtain⟨x,hx,e⟩:=tlUp_at (l:=l) (q:=Qf7 q d) (by omega);exact h1 x hx (Qake (e▸⟨d,hd,rfl⟩))
  rw[nonE,Zam this];rfl
 .exact h2
def insQ(p:Qae):List Qae->List Qae
 |[]=>[p]
 |y::r=>if Qap y p=true then y::insQ p r else if y=p then y::r else p::y::r
def Qakz(l:List Qae):List Qae:=l.foldr insQ []
abbrev ltQ(l:List Qae):Prop:=l.Pairwise fun a b=>Qap a b=true
theorem Qajr{a b c:Qae}(h1:Qap a b=true)(h2:Qap b c=true):Qap a c=true:=by simp only[Qap] at*;grind
theorem Qaj3(a:Qae):Qap a a=false:=by simp[Qap]
theorem Qako{a b:Qae}(h1:Qap a b=false)(h2:a≠b):Qap b a=true:=by
 obtain⟨ax,ay⟩:=a;obtain⟨bx,by'⟩:=b;simp only[Qap,ne_eq,Qae.mk.injEq] at*
 grind
theorem Qaj7{p q:Qae}: ∀{l:List Qae},q∈insQ p l↔q=p\/q∈l
 |[]=>by simp[insQ]
 |y::r=>by
  simp only[insQ];split
  .simp only[Zav,Qaj7 (l:=r)];constructor
   .rintro (h|h|h)
    .exact .inr (.inl h)
    .exact .inl h
    .exact .inr (.inr h)
   .rintro (h|h|h)
    .exact .inr (.inl h)
    .exact .inl h
    .exact .inr (.inr h)
  .split
   .rename_i c;subst c;simp
   .simp
theorem Qak4{p:Qae}: ∀{l:List Qae},ltQ l->ltQ (insQ p l)
 |[],_=>by simp[insQ]
 |y::r,h=>by
  rw[ltQ,Zcf] at h;simp only[insQ];split
  .rename_i c;rw[ltQ,Zcf];refine⟨fun z hz=> ?_,Qak4 h.2⟩;rcases Qaj7.1 hz with rfl|hz
   .exact c
   .exact h.1 z hz
  .rename_i c;split
   .rw[ltQ,Zcf];exact h
   .rename_i e;have hpy:=Qako (by simpa using c) e;rw[ltQ,Zcf,Zcf];refine⟨fun z hz=> ?_,h⟩;rcases Zav.1 hz with rfl|hz
    .exact hpy
    .exact Qajr hpy (h.1 z hz)
theorem Qakg: ∀(l:List Qae),ltQ (Qakz l)
 |[]=>List.Pairwise.nil
 |_::r=>Qak4 (Qakg r)
theorem Qaka{q:Qae}: ∀{l:List Qae},q∈Qakz l↔q∈l
 |[]=>by simp[Qakz]
 |x::r=>by
  have:Qakz (x::r)=insQ x (Qakz r):=rfl
  rw[this,Qaj7,Qaka (l:=r),Zav]
theorem ltQ_nd{l:List Qae}(h:ltQ l):l.Nodup:=by
 refine Zer (fun {a b} hab e=> ?_) h;rw[e,Qaj3] at hab;cases hab
theorem Qal3{l m:List Qae}(h1:ltQ l)(h2:ltQ m)(h: ∀q,q∈l↔q∈m):l=m:=by
 have hp:l.Perm m:=(Zeh (ltQ_nd h1) (ltQ_nd h2)).2 h;refine Zes (le:=fun a b=>Qap a b=true) (fun a b _ _ g1 g2=> ?_) h1 h2 hp
 have:=Qajr g1 g2
 rw[Qaj3] at this;cases this
def Qajv(a:Asm)(p:Qae)(l:List Qae):Nat->List Qae
 |0=>l
 |k+1=>if Qbi (Qf7 p k)=true/\atA a (Qf7 p k)<0 then insQ (Qf7 p k) (Qajv a p l k) else Qajv a p l k
def Qajq(a:Asm):Nat->List Qae
 |0=>[]
 |i+1=>Qajv a ((a.Tiles[i]?.map Qab.At).getD ⟨0,0⟩) (Qajq a i) 4
theorem Qaj6{a:Asm}{p:Qae}{l:List Qae}(h:ltQ l): ∀k,ltQ (Qajv a p l k)
 |0=>h
 |k+1=>by
  simp only[Qajv];split
  .exact Qak4 (Qaj6 h k)
  .exact Qaj6 h k
theorem Qaki(a:Asm): ∀i,ltQ (Qajq a i)
 |0=>List.Pairwise.nil
 |i+1=>Qaj6 (Qaki a i) 4
theorem Qakw{a:Asm}{p q:Qae}{l:List Qae}: ∀k,q∈Qajv a p l k↔q∈l\/(Qbi q=true/\atA a q<0)/\ ∃d:Nat,d<k/\Qf7 p d=q
 |0=>by simp[Qajv]
 |k+1=>by
  simp only[Qajv];have ih:=Qakw (a:=a) (p:=p) (q:=q) (l:=l) k;split
  .rename_i c;rw[Qaj7,ih];constructor
   .rintro (rfl|h|⟨h,d,h1,h2⟩)
    .exact .inr ⟨c,k,by omega,rfl⟩
    .exact .inl h
    .exact .inr ⟨h,d,by omega,h2⟩
   .rintro (h|⟨h,d,h1,h2⟩)
    .exact .inr (.inl h)
    .by_cases e:d=k
     .subst e;exact .inl h2.symm
     .exact .inr (.inr ⟨h,d,by omega,h2⟩)
  .rename_i c;rw[ih];constructor
   .rintro (h|⟨h,d,h1,h2⟩)
    .exact .inl h
    .exact .inr ⟨h,d,by omega,h2⟩
   .rintro (h|⟨h,d,h1,h2⟩)
    .exact .inl h
    .by_cases e:d=k
     .subst e;subst h2;exact absurd h c
     .exact .inr ⟨h,d,by omega,h2⟩
theorem Qajz{a:Asm}{q:Qae}: ∀i,i<=a.Tiles.length->(q∈Qajq a i↔(Qbi q=true/\atA a q<0)/\ ∃x∈a.Tiles.take i,Qaj9 x.At q)
 |0,_=>by simp[Qajq]
 |i+1,hi=>by
  have hx:a.Tiles[i]? =some (a.Tiles[i]'(by omega)):=Zae (by omega);simp only[Qajq];rw[Qakw,Qajz i (by omega),Qwe hx,hx,ZaO,Zac];constructor
  .rintro (⟨h,x,h1,h2⟩|⟨h,h2⟩)
   .exact⟨h,x,ZbC _ h1,h2⟩
   .exact⟨h,_,ZbR _ (Zas ..),h2⟩
  .rintro⟨h,x,h1,h2⟩;rcases Zao.1 h1 with h1|h1
   .exact .inl ⟨h,x,h1,h2⟩
   .rw[Zaq] at h1;subst h1;exact .inr ⟨h,h2⟩
def atU(s:Qar)(f:Qae->Int)(q:Qae):Nat->List Int
 |0=>[]
 |k+1=>atU s f q k++(if s.Temperature<=Qhs s.Set f q k 4 then [(k:Int)] else [])
theorem Qakm(s:Qar)(f:Qae->Int)(q:Qae): ∀k,(atU s f q k).length<=k
 |0=>by simp[atU]
 |k+1=>by
  have:=Qakm s f q k
  simp only[atU,ZaC]
  split<;>simp<;>omega
theorem Qalg{s:Qar}{f:Qae->Int}{q:Qae}(h1:Qbi q=true)(h2:f q<0): ∀n,Qm0 s f q n=atU s f q n
 |0=>rfl
 |n+1=>by
  simp only[Qm0,atU,Qalg h1 h2 n,Qpg,h1,ZeT h2,Zbo,Zap]
def mkO2(p:Qae)(k:Int):Opt:=⟨p,k⟩
def Qajs(g:Qae->List Int)(l:List Qae):List Opt:=l.flatMap fun p=>(g p).map (mkO2 p)
def Qaj8(s:Qar)(a:Asm):List Opt:=Qajs (fun p=>atU s (atA a) p s.Set.Tiles.length) (Qajq a a.Tiles.length)
def Qalo(op:List (Qae×List Int)):List Opt:=Qajs (fun p=>(lkP op p).getD []) (Qakz (op.map Prod.fst))
theorem Qaj5{g:Qae->List Int}: ∀(l:List Qae),Qajs g (l.filter fun p=> !(g p).isEmpty)=Qajs g l
 |[]=>rfl
 |p::r=>by
  have ih:=Qaj5 (g:=g) r;simp only[Qajs] at ih;simp only[Qajs,ZdB];split
  .simp only[Zbf,ih]
  .rename_i c
   have:g p=[]:=by simpa using c
   simp only[Zbf,ih,this,ZaR,ZbA]
theorem Qajx{g h:Qae->List Int}: ∀(l:List Qae),(∀p∈l,g p=h p)->Qajs g l=Qajs h l
 |[],_=>rfl
 |p::r,hg=>by
  simp only[Qajs,Zbf];rw[hg p (Zas ..)]
  have:=Qajx r fun q hq=>hg q (Zar _ hq)
  simp only[Qajs] at this;rw[this]
theorem atA_mem{a:Asm}{q:Qae}(h:0<=atA a q): ∃x∈a.Tiles,x.At=q:=by
 simp only[atA] at h;cases e:a.Tiles.find? (fun x=>decide (x.At=q)) with
 |none=>rw[e] at h;simp at h
 |some x=>exact⟨x,Zcp e,by simpa using Zco e⟩
theorem opts_law{s:Qar}{a:Asm}{op:List (Qae×List Int)}(hT:1<=s.Temperature)(h:OpOk s (atA a) op):Qalo op=Qaj8 s a:=by
 have hin: ∀q,Qajt s (atA a) q≠[]->q∈Qajq a a.Tiles.length:=fun q hq=>by
  rw[Qajz _ (Zal _),Zbu];have h0:atA a q<0:=by
   apply Zcn;intro c;exact hq (fitUp_occ (by omega) _)
  have hp:Qbi q=true:=by
   apply Zcn;intro c;exact hq (Qaj1 (fun k=>by simp only[Qpg];rw[ZbS] at c;rw[c];rfl) _)
  refine⟨⟨hp,h0⟩,?_⟩;apply Zcn;intro c;refine hq (Qakp hT (fun d hd=> ?_) _);apply Zcn;intro c2;obtain⟨x,hx,e⟩:=atA_mem (a:=a) (q:=Qf7 q d) (by omega);exact c ⟨x,hx,Qake ⟨d,hd,e.symm⟩⟩
 have hon: ∀q∈Qajq a a.Tiles.length,atU s (atA a) q s.Set.Tiles.length=Qajt s (atA a) q:=fun q hq=>by
  rw[Qajz _ (Zal _)] at hq;exact (Qalg hq.1.1 hq.1.2 _).symm
 have hlk: ∀q,(lkP op q).getD []=Qajt s (atA a) q:=fun q=>by
  rw[h.2 q,nonE];split
  .rename_i e;rw[e];rfl
  .rfl
 have e1:Qaj8 s a=Qajs (Qajt s (atA a)) (Qajq a a.Tiles.length):=Qajx _ hon;have e2:Qalo op=Qajs (Qajt s (atA a)) (Qakz (op.map Prod.fst)):=Qajx _ fun q _=>hlk q
 rw[e1,e2,<-Qaj5 (Qajq a a.Tiles.length)];congr 1;refine Qal3 (Qakg _) ((Qaki a _).filter _) (fun q=> ?_);rw[Qaka,lkP_in,h.2 q,nonE,ZcH];constructor
 .intro hq;have hne:Qajt s (atA a) q≠[]:=fun e=>hq (Zam e)
  exact⟨hin q hne,by simpa using hne⟩
 .rintro⟨_,hq⟩;have hne:Qajt s (atA a) q≠[]:=by simpa using hq
  rw[Zai hne];simp
def posQ(p:Qae)(l:List Qae):Nat:=(l.takeWhile fun y=>Qap y p).length
theorem Qald(p:Qae): ∀(l:List Qae),insQ p l=if l[posQ p l]? =some p then l else l.take (posQ p l)++p::l.drop (posQ p l)
 |[]=>by simp[insQ,posQ]
 |y::r=>by
  have ih:=Qald p r;simp only[insQ];by_cases c:Qap y p=true
  .have e:posQ p (y::r)=posQ p r+1:=by simp[posQ,ZcR,c]
   rw[Zam c,ih,e,ZaS];split
   .rfl
   .simp
  .have e:posQ p (y::r)=0:=by simp[posQ,ZcR,c]
   rw[Zai c,e];simp
theorem posQ_eq{p:Qae}: ∀{l:List Qae} {k:Nat},ltQ l->k<=l.length->(∀(i:Nat) (y:Qae),k<=i->l[i]? =some y->Qap y p=false)->(∀y,k≠0->l[k - 1]? =some y->Qap y p=true)->posQ p l=k
 |[],k,_,hk,_,_=>by simp at hk;simp[posQ,hk]
 |y::r,0,_,_,h1,_=>by
  have:=h1 0 y (Zal _) rfl
  simp[posQ,ZcR,this]
 |y::r,k+1,hl,hk,h1,h2=>by
  rw[ltQ,Zcf] at hl;have hy:Qap y p=true:=by
   cases k with
   |zero=>exact h2 y (by omega) rfl
   |succ k=>
    have hlt:k+1<(y::r).length:=by simp at hk⊢;omega
    have h3:=h2 _ (by omega) (Zae (l:=y::r) (i:=k+1) hlt);refine Qajr (hl.1 _ ?_) h3;simp
  have ih:=posQ_eq (p:=p) (l:=r) (k:=k) hl.2 (by simpa using hk) (fun i z hi hz=>h1 (i+1) z (by omega) (by simpa using hz)) (fun z hk0 hz=>h2 z (by omega) (by
   obtain⟨m,rfl⟩: ∃m,k=m+1:=⟨k - 1,by omega⟩;simpa using hz))
  simp only[posQ] at ih;simp[posQ,ZcR,hy,ih]
def shQ(p:Qae)(l:List Qae)(i:Nat):List Qae:=(l++[p]).take (i+1)++l.drop i
theorem Qak6{p:Qae}{l:List Qae}{i:Nat}(h:i<=l.length):(shQ p l i).length=l.length+1:=by simp[shQ];omega
theorem shQ_all(p:Qae)(l:List Qae):shQ p l l.length=l++[p]:=by simp[shQ,ZaA]
theorem shQ_step{p x:Qae}{l:List Qae}{i:Nat}(h:i+1<=l.length)(hx:(shQ p l (i+1))[i]? =some x):(shQ p l (i+1)).set (i+1) x=shQ p l i:=by
 have hx2:l[i]? =some x:=by
  rw[<-hx,shQ,ZaB (by simp;omega),ZcA,Zam (by omega),ZaB (by omega)]
 apply Zcc;intro j;have e1:((l++[p]).take (i+1+1)).length=i+2:=by simp;omega
 have e2:((l++[p]).take (i+1)).length=i+1:=by simp;omega
 by_cases c:j=i+1
 .subst c;rw[Zaz (by rw[Qak6 h];omega),shQ,ZaE (by omega),e2,Zcb,Zbp,ZdS,hx2]
 .rw[ZaD (ZcC c)];simp only[shQ];by_cases c2:j<i+1
  .rw[ZaB (by omega),ZaB (by omega),ZcA,ZcA,Zam (by omega),Zam c2]
  .rw[ZaE (by omega),ZaE (by omega),e1,e2,Zbp,Zbp];congr 1;omega
theorem shQ_end{p:Qae}{l:List Qae}{k:Nat}(h:k<=l.length):(shQ p l k).set k p=l.take k++p::l.drop k:=by
 apply Zcc;intro j;have e2:((l++[p]).take (k+1)).length=k+1:=by simp;omega
 have e3:(l.take k).length=k:=by simp;omega
 by_cases c:j=k
 .subst c;rw[Zaz (by rw[Qak6 h];omega),ZaE (by omega),e3,Zcb];simp
 .rw[ZaD (ZcC c)];simp only[shQ];by_cases c2:j<k
  .rw[ZaB (by omega),ZaB (by omega),ZcA,ZcA,Zam (by omega),Zam c2,ZaB (by omega)]
  .obtain⟨m,rfl⟩: ∃m,j=k+1+m:=⟨j - (k+1),by omega⟩;rw[ZaE (by omega),ZaE (by omega),e2,e3,Zbp,show k+1+m - k=m+1 by omega,ZaS,Zbp];congr 1;omega
theorem pt_eq3{p q:Qae}:((p.X==q.X)=true/\(p.Y==q.Y)=true)↔p=q:=by
 obtain⟨px,py⟩:=p;obtain⟨qx,qy⟩:=q;simp
def putQ.ca(a:List Qae×Qae):List AV:=[.own 0,.im (.agg [.int .i64 a.2.X,.int .i64 a.2.Y])]
def putQ.H0(a:List Qae×Qae):Qan:=[(0,(true,.arr 58 2 (a.1.map Qae.c)))]
def putQ.H1(a:List Qae×Qae):Qan:=[(1,(true,.arr 58 2 ((insQ a.2 a.1).map Qae.c)))]
def kl0(j:Nat):Bool:=j==0
def putQ.row:Row:=orow putQ.ca putQ.H0 1 (fun a=>ltQ a.1/\a.1.length<=1000000) kl0 (fun _=> .own 1) putQ.H1 1
def YaX:=J @l_LessPoint.q (J @l_LessPoint.ar.eq_1 @l_LessPoint.fv.eq_1)
theorem putQ.ok:Qas Tryz.prog 144 putQ.row:=by
 refine Qnh Qaq (tC l_LessPoint.ok tN) Tryz.func144 rfl (by kernel_rfl) (by kernel_rfl) (exB:=fun j=>j==1) (R:=fun _ r=>r= .own 1) (n:=2) (fun _=>rfl) (by decide)
  (fun a=>by simp[putQ.ca,putQ.H0,putQ.H1,kl0,belL,AV.bel]) (fun a=>by simp[putQ.ca,putQ.H0,putQ.H1,kl0,belH,belL,AV.bel]) (fun a=>by simp[putQ.ca,putQ.H0,putQ.H1,kl0,Qam])
  (fun a=>by simp[Qc2,putQ.ca,putQ.H0,putQ.H1,kl0,AObj.nms,nmsL,AV.nms,domB,hget]) (fun a p hp=> ?_) (fun a r h=>by subst h;exact LeV.refl _) ?_
 rotate_left
 intro a hpre;simp only[Tryz.f144,Option.getD,putQ.ca,putQ.H0,putQ.H1,kl0];simp(maxSteps:=9^9)(disch:=omega)only[ZZ,simprocAttr,rch,YaX,Qc7,ORB,putQ.ca,putQ.H0,putQ.H1,kl0];rotate_left
 .simp[putQ.H1] at hp;subst hp;exact .inr ⟨by omega,by omega,rfl,rfl⟩
 obtain⟨l,p⟩:=a;obtain⟨hl,hn⟩:=hpre;simp only at hl hn⊢;intro _;refine Qay.old ⟨{k:Nat//k<=l.length/\ ∀(i:Nat) (y:Qae),k<=i->l[i]? =some y->Qap y p=false},fun k=>⟨[(5,.im (.int .i64 k.1)),(3,.ptr 1 0),(0,.own 0)],[(1,(true,.cells 58 [.im (.int .i64 p.X),.im (.int .i64 p.Y)])),(0,(true,.arr 58 2 (l.map Qae.c)))],3⟩,fun k=>k.1,fun k=>⟨by simp[Qad.good,belT,belH,Qam,AV.bel,belL],by simp⟩,⟨⟨l.length,Zal _,fun i y hi hy=>by rw[ZaW hi] at hy;cases hy⟩,by simp(maxSteps:=9^9)(disch:=omega)only[ZZ,simprocAttr,rch,YaX,Qc7,ORB,putQ.ca,putQ.H0,putQ.H1,kl0,sub]⟩,fun k=> ?_⟩;obtain⟨k,hk,hkn⟩:=k;simp(maxSteps:=9^9)(disch:=omega)only[ZZ,simprocAttr,rch,YaX,Qc7,ORB,putQ.ca,putQ.H0,putQ.H1,kl0,sub,Qal,Zbs];have hkw:0<k->IntKind.i64.wrap ((k:Int) - 1)=((k - 1:Nat):Int):=fun h=>by rw[Qak (by omega) (by omega)];omega
 refine⟨fun hk0=>⟨by rw[hkw (by omega)];omega,by rw[hkw (by omega)];omega,by rw[hkw (by omega)];omega,fun x hx=>⟨fun hlt=> ?r,fun hlt=>⟨fun hkl=>⟨hkl,hkl,fun y hy=>⟨fun e=> ?a1,fun e=> ?b1⟩⟩,fun hkl=> ?b2⟩⟩⟩,fun hk0=>⟨fun hkl=>⟨hkl,hkl,fun y hy=>⟨fun e=> ?a2,fun e=> ?b3⟩⟩,fun hkl=> ?b4⟩⟩
 case r=>
  rw[hkw (by omega),Zak] at hx;refine⟨⟨k - 1,by omega,fun i y hi hy=> ?_⟩,by simp only;omega,by rw[hkw (by omega)]⟩;by_cases c:i=k - 1
  .subst c;obtain rfl:=Zaa (hx.symm.trans hy);exact hlt
  .exact hkn i y (by omega) hy
 all_goals
  have hpos:posQ p l=k:=posQ_eq hl hk hkn (fun y hk0' hy=>by
   first
    |(rw[hkw (by omega),Zak] at hx;obtain rfl:=Zaa (hx.symm.trans hy);simpa using hlt)
    |(exact absurd (by omega) hk0))
  have hins:=Qald p l;rw[hpos] at hins
 case a1=>
  have ey:y=p:=pt_eq3.1 e;rw[hy,ey,Zam rfl] at hins;refine⟨[],[(1,some 0)],⟨[(4,.own 1)],putQ.H1 (l,p),2⟩,?_,by simp[putQ.H1,Qad.good,belT,belH,Qam,AV.bel],by simp,?_⟩
  .simp only[subP,putQ.H1,hins];simp(maxSteps:=9^9)(disch:=omega)only[ZZ,simprocAttr,rch,YaX,Qc7,ORB,putQ.ca,putQ.H0,putQ.H1,kl0,Zag,Zaf]
  .simp(maxSteps:=9^9)(disch:=omega)only[ZZ,simprocAttr,rch,YaX,Qc7,ORB,putQ.ca,putQ.H0,putQ.H1,kl0,putQ.H1]
 case a2=>
  have ey:y=p:=pt_eq3.1 e;rw[hy,ey,Zam rfl] at hins;refine⟨[],[(1,some 0)],⟨[(4,.own 1)],putQ.H1 (l,p),2⟩,?_,by simp[putQ.H1,Qad.good,belT,belH,Qam,AV.bel],by simp,?_⟩
  .simp only[subP,putQ.H1,hins];simp(maxSteps:=9^9)(disch:=omega)only[ZZ,simprocAttr,rch,YaX,Qc7,ORB,putQ.ca,putQ.H0,putQ.H1,kl0,Zag,Zaf]
  .simp(maxSteps:=9^9)(disch:=omega)only[ZZ,simprocAttr,rch,YaX,Qc7,ORB,putQ.ca,putQ.H0,putQ.H1,kl0,putQ.H1]
 all_goals
  have hne:l[k]? ≠some p:=fun h=>by
   first
    |(obtain rfl:=Zaa (hy.symm.trans h);exact e (pt_eq3.2 rfl))
    |(rw[ZaW (by omega)] at h;cases h)
  rw[Zai hne] at hins;have hap:l.map Qae.c++[[D.int .i64 p.X,D.int .i64 p.Y]]=(l++[p]).map Qae.c:=by rw[Zbz];rfl
  rw[hap];refine⟨by omega,fun _=> ?_⟩;refine Qay.old ⟨{i:Nat//k<=i/\i<=l.length},fun i=>⟨[(6,.im (.int .i64 i.1)),(5,.im (.int .i64 k)),(0,.own 4),(3,.ptr 1 0)],[(4,(true,.arr 58 2 ((shQ p l i.1).map Qae.c))),(1,(true,.cells 58 [.im (.int .i64 p.X),.im (.int .i64 p.Y)]))],5⟩,fun i=>i.1,fun i=>⟨by simp[Qad.good,belT,belH,Qam,AV.bel,belL],by simp⟩,⟨⟨l.length,hk,Zal _⟩,?_⟩,fun i=> ?_⟩
  .simp(maxSteps:=9^9)(disch:=omega)only[ZZ,simprocAttr,rch,YaX,Qc7,ORB,putQ.ca,putQ.H0,putQ.H1,kl0,sub,shQ_all];rw[ZaC,ZdQ,Qak (by omega) (by omega)];omega
  obtain⟨i,hi1,hi2⟩:=i;have hsl:=Qak6 (p:=p) hi2;simp(maxSteps:=9^9)(disch:=omega)only[ZZ,simprocAttr,rch,YaX,Qc7,ORB,putQ.ca,putQ.H0,putQ.H1,kl0,sub,Qal,Zbs,hsl];refine⟨fun hki=> ?_,fun hki=>⟨by omega,by omega,fun x hx=> ?_⟩⟩
  .have hiw:IntKind.i64.wrap ((i:Int) - 1)=((i - 1:Nat):Int):=by rw[Qak (by omega) (by omega)];omega
   rw[hiw,Zak];refine⟨by omega,by omega,by omega,fun x hx=>⟨by omega,by omega,fun z hz=>⟨⟨i - 1,by omega,by omega⟩,by simp only;omega,rfl,?_⟩⟩⟩;have hst:=shQ_step (p:=p) (x:=x) (l:=l) (i:=i - 1) (by omega) (by rwa [show i - 1+1=i by omega]);rw[show i - 1+1=i by omega] at hst;rw[<-hst,ZcV];rfl
  .obtain rfl:i=k:=by omega
   have hse:((shQ p l i).map Qae.c).set i [D.int .i64 p.X,D.int .i64 p.Y]=(insQ p l).map Qae.c:=by
    rw[hins,<-shQ_end hk,ZcV];rfl
   refine⟨[],[(1,some 4)],⟨[(4,.own 1)],putQ.H1 (l,p),2⟩,?_,by simp[putQ.H1,Qad.good,belT,belH,Qam,AV.bel],by simp,?_⟩
   .simp only[subP,putQ.H1,hse];simp(maxSteps:=9^9)(disch:=omega)only[ZZ,simprocAttr,rch,YaX,Qc7,ORB,putQ.ca,putQ.H0,putQ.H1,kl0,Zag,Zaf]
   .simp(maxSteps:=9^9)(disch:=omega)only[ZZ,simprocAttr,rch,YaX,Qc7,ORB,putQ.ca,putQ.H0,putQ.H1,kl0,putQ.H1]
theorem putQ_dom(a:List Qae×Qae)(j:Nat):domB (putQ.H0 a) j=true↔j<1:=by
 simp only[domB,putQ.H0,hget];by_cases hj:j=0
 .subst hj;simp
 .have:(0==j)=false:=by simpa using fun h=>hj h.symm
  rw[this];simp;omega
theorem Qalj(p:Qae): ∀(l:List Qae),(insQ p l).length<=l.length+1
 |[]=>by simp[insQ]
 |y::r=>by
  have:=Qalj p r
  simp only[insQ];split
  .simp only[ZaG];omega
  .split<;>simp
theorem Qakd(a:Asm)(p:Qae)(l:List Qae): ∀k,(Qajv a p l k).length<=l.length+k
 |0=>by simp[Qajv]
 |k+1=>by
  have:=Qakd a p l k
  simp only[Qajv];split
  .have:=Qalj (Qf7 p k) (Qajv a p l k);omega
  .omega
theorem Qaj2(a:Asm): ∀i,(Qajq a i).length<=4*i
 |0=>by simp[Qajq]
 |i+1=>by
  have:=Qaj2 a i
  have:=Qakd a ((a.Tiles[i]?.map Qab.At).getD ⟨0,0⟩) (Qajq a i) 4
  simp only[Qajq];omega
def nearS_.ar:List PK->Option (Asm):=a1 (kP Asm.d 1)
def nearS_.ae(a:Asm):List PK:=[.ptr (Asm.c a)]
def nearS_.fv(a:Asm):List Qae:=(fun a=>Qajq a a.Tiles.length) a
def nearS_.row:Row:=vrow nearS_.ar (fun a=>Qaz none a.Tiles=true/\a.Tiles.length<=1000/\ ∃s,∀x∈a.Tiles,Qcs s x.Tile) (fun a=>(fun b=>D.sl false 2 (b.map Qae.c)) (nearS_.fv a))
def nearS_.q:=vq nearS_.row rfl
def YaY:=J @nearS_.ae.eq_1<|J @nearS_.fv.eq_1<|J @l01Step.q<|J @l01Step.ar.eq_1<|J @l01Step.fv.eq_1<|J @l01Point.q<|J @l01Point.ar.eq_1<|J @l01Point.fv.eq_1<|J @l03Index.q<|J @l03Index.ar.eq_1 @l03Index.fv.eq_1
theorem nearS_.ok:Qas Tryz.prog 98 nearS_.row:=by
 refine Qaj Qaq (tC l01Step.ok (tC l01Point.ok (tC l03Index.ok (tC putQ.ok tN)))) Tryz.func98 rfl (by kernel_rfl) (by kernel_rfl) (ar:=nearS_.ar) (ae:=nearS_.ae) (Qacd (Qacc 1 Asm.d_le)) (n:=1) (fun _=>rfl) (by decide) (rc:=(vSl Qae.d)) (re:=(fun b=>D.sl false 2 (b.map Qae.c))) (Qe8 Qae.d_le (fun _=>rfl)) (f:=nearS_.fv) ?_;intro a hpre;simp only[Tryz.f98,Option.getD];simp(maxSteps:=9^9)(disch:=omega)only[ZZ,simprocAttr,rch,YaY];obtain⟨h1,h2,s0,h3⟩:=hpre;refine Qay.ren ⟨{i:Nat//i<=a.Tiles.length},fun i=>⟨[(4,.im (.int .i64 i.1)),(3,.own 3),(0,.ptr 0 0)],[(3,(true,.arr 58 2 ((Qajq a i.1).map Qae.c))),(0,(false,.view (Asm.c a)))],4⟩,fun i=>a.Tiles.length - i.1,fun i=>⟨by simp[Qad.good,belT,belH,Qam,AV.bel,belL],by simp⟩,⟨⟨0,ZaP _⟩,[(3,some 2)],?_⟩,fun i=> ?_⟩
 .simp only[subP];simp(maxSteps:=9^9)(disch:=omega)only[ZZ,simprocAttr,rch,YaY,Zag,Zaf,Qajq,ZaR]
  try simp
 obtain⟨i,hi⟩:=i;simp(maxSteps:=9^9)(disch:=omega)only[ZZ,simprocAttr,rch,YaY,sub,Qal];intro _;refine⟨fun hi2=> ?_,fun hi2=> ?_⟩;rotate_left
 .obtain rfl:i=a.Tiles.length:=by omega
  rfl
 obtain⟨x,hx⟩: ∃x,a.Tiles[i]? =some x:=⟨_,Zae hi2⟩;have hxo:=(Qh6 _ _ h1 x (Zad hx)).1;have e1:Qajq a (i+1)=Qajv a x.At (Qajq a i) 4:=by simp only[Qajq,hx];rfl
 have hnl:=Qaj2 a i;have hlt:=Qaki a i;refine Qay.ren ⟨{d:Nat//d<=4},fun d=>⟨[(5,.im (.int .i64 d.1)),(4,.im (.int .i64 i)),(3,.own 4),(0,.ptr 0 0)],[(4,(true,.arr 58 2 ((Qajv a x.At (Qajq a i) d.1).map Qae.c))),(0,(false,.view (Asm.c a)))],5⟩,fun d=>4 - d.1,fun d=>⟨by simp[Qad.good,belT,belH,Qam,AV.bel,belL],by simp⟩,⟨⟨0,ZaP _⟩,[(4,some 3)],?_⟩,fun d=> ?_⟩
 .simp only[subP];simp(maxSteps:=9^9)(disch:=omega)only[ZZ,simprocAttr,rch,YaY,Zag,Zaf,Qajv]
  try simp
 obtain⟨d,hd⟩:=d;have htl:=Qakd a x.At (Qajq a i) d;have htt:=Qaj6 (a:=a) (p:=x.At) hlt d;simp(maxSteps:=9^9)(disch:=omega)only[ZZ,simprocAttr,rch,YaY,sub,Qal];have hdw:IntKind.i64.wrap ((d:Int)+1)=((d+1:Nat):Int):=by rw[Qak (by omega) (by omega)];omega
 refine⟨fun hd4=>⟨hi2,fun y hy=> ?_⟩,fun hd4=> ?_⟩;rotate_left
 .obtain rfl:d=4:=by omega
  refine⟨⟨i+1,by omega⟩,[(3,some 4)],by simp only;omega,?_⟩;simp only[subP];simp(maxSteps:=9^9)(disch:=omega)only[ZZ,simprocAttr,rch,YaY,Zag,Zaf,e1];rw[Qak (by omega) (by omega)];rfl
 obtain rfl:=Zaa (hx.symm.trans hy);refine⟨⟨Qkc hxo,by omega⟩,fun hok=>⟨h1,fun hix=> ?_,fun hix=> ?_⟩,fun hok=> ?_⟩
 .have hat:=(Qala h3 (Qf7 x.At d)).1 hix;refine orow.os (Qajv a x.At (Qajq a i) d,Qf7 x.At d) [4] ⟨htt,by simp only;omega⟩ (putQ_dom _) rfl rfl ?_ ?_
  .simp(maxSteps:=9^9)(disch:=omega)only[ZZ,simprocAttr,rch,YaY,putQ.ca,putQ.H0,Qer,Zbk]
  simp(maxSteps:=9^9)(disch:=omega)only[ZZ,simprocAttr,rch,YaY,putQ.H1,sub,kl0,Zbk,ZbX];refine⟨⟨d+1,by omega⟩,[(4,some 6)],by simp only;omega,?_⟩;simp only[subP];simp(maxSteps:=9^9)(disch:=omega)only[ZZ,simprocAttr,rch,YaY,Zag,Zaf,Qajv];rw[Zam ⟨hok,hat⟩];exact⟨hdw,rfl⟩
 all_goals
  refine⟨⟨d+1,by omega⟩,[(4,some 4)],by simp only;omega,?_⟩;simp only[subP];simp(maxSteps:=9^9)(disch:=omega)only[ZZ,simprocAttr,rch,YaY,Zag,Zaf,Qajv];refine⟨hdw,?_⟩;rw[Zai];rintro⟨g1,g2⟩
  first
   |exact hix ((Qala h3 _).2 g2)
   |exact hok g1
def glQ(s:Qaa)(a:Asm)(p:Qae):Nat->List Int
 |0=>[]
 |k+1=>glQ s a p k++[if atA a (Qf7 p k)<0 then 0 else Qqu s (atA a (Qf7 p k)) (((k:Int)+2) % 4)]
theorem Qaj4(s:Qaa)(a:Asm)(p:Qae): ∀k,(glQ s a p k).length=k
 |0=>rfl
 |k+1=>by simp[glQ,Qaj4 s a p k]
theorem Qak3{s:Qaa}{a:Asm}{p:Qae}: ∀{n k:Nat},k<n->(glQ s a p n)[k]? =some (if atA a (Qf7 p k)<0 then 0 else Qqu s (atA a (Qf7 p k)) (((k:Int)+2) % 4))
 |0,k,h=>by omega
 |n+1,k,h=>by
  simp only[glQ];by_cases c:k<n
  .rw[ZaB (by rw[Qaj4];exact c),Qak3 c]
  .obtain rfl:k=n:=by omega
   rw[ZaE (by rw[Qaj4];omega),Qaj4,Zcb];rfl
theorem term_gl{s:Qaa}{a:Asm}{p:Qae}{i:Int}{k:Nat}{g:Int}(hg:g=if atA a (Qf7 p k)<0 then 0 else Qqu s (atA a (Qf7 p k)) (((k:Int)+2) % 4)):(if Qqu s i k=g then Qe1 s g else 0)=Quh s (atA a) p i k:=by
 simp only[Quh,Qfn];by_cases c:atA a (Qf7 p k)<0
 .rw[Zam c] at hg;subst hg;rw[Zai (show ¬0<=atA a (Qf7 p k) by omega),glue_no (by omega)]
  split<;>rfl
 .rw[Zai c] at hg;rw[Zam (show 0<=atA a (Qf7 p k) by omega),<-hg];split
  .rename_i e;rw[e]
  .rfl
theorem side_b{s:Qaa}(h:setP s){t:Int}{d:Int}:0<=Qqu s t d/\Qqu s t d<=s.Glues.length:=by
 simp only[Qqu];cases e:s.Tiles[t.toNat]? with
 |none=>simp
 |some x=>
  simp only[ZaO,Zac];cases e2:x.Sides[d.toNat]? with
  |none=>simp
  |some g=>
   simp only[Zac];exact (h.2.1 x (Zad e)).2 g (Zad e2)
def atQ_.ar:List PK->Option (Qaa×Asm×Qae×Int):=a4 (kP Qaa.d 2) (kP Asm.d 1) (kR Qae.d) kI
def atQ_.ae(a:Qaa×Asm×Qae×Int):List PK:=[.ptr (Qaa.c a.1),.ptr (Asm.c a.2.1),.val (.agg (Qae.c a.2.2.1)),.val (.int .i64 a.2.2.2)]
def atQ_.fv(a:Qaa×Asm×Qae×Int):List Int:=(fun s a p t=>atU ⟨s,a,t⟩ (atA a) p s.Tiles.length) (a.1) (a.2.1) (a.2.2.1) (a.2.2.2)
def atQ_.row:Row:=vrow atQ_.ar (fun a=>setP a.1/\Qn7 a.1 a.2.1/\Qdy a.2.2.1/\a.1.Tiles.length<=1000000) (fun a=>(fun b=>D.sl false 1 (b.map intC)) (atQ_.fv a))
def atQ_.q:=vq atQ_.row rfl
def YaZ:=J @atQ_.ae.eq_1<|J @atQ_.fv.eq_1<|J @l01Step.q<|J @l01Step.ar.eq_1<|J @l01Step.fv.eq_1<|J @l03At.q<|J @l03At.ar.eq_1<|J @l03At.fv.eq_1<|J @Opposite_.q<|J @Opposite_.ar.eq_1<|J @Opposite_.fv.eq_1<|J @l02Strength.q<|J @l02Strength.ar.eq_1 @l02Strength.fv.eq_1
theorem atQ_.ok:Qas Tryz.prog 86 atQ_.row:=by
 refine Qaj Qaq (tC l01Step.ok (tC l03At.ok (tC Opposite_.ok (tC l02Strength.ok tN)))) Tryz.func86 rfl (by kernel_rfl) (by kernel_rfl) (ar:=atQ_.ar) (ae:=atQ_.ae) (a4_le (Qacc 2 Qaa.d_le) (Qacc 1 Asm.d_le) (Qab8 Qae.d_le) Qab9) (n:=4) (fun _=>rfl) (by decide) (rc:=(vSl intD)) (re:=(fun b=>D.sl false 1 (b.map intC))) (Qe8 Qb3 (fun _=>rfl)) (f:=atQ_.fv) ?_;intro a hpre;simp only[Tryz.f86,Option.getD];simp(maxSteps:=9^9)(disch:=omega)only[ZZ,simprocAttr,rch,YaZ];obtain⟨s,a,p,t⟩:=a;obtain⟨h1,h2,h3,h4⟩:=hpre;simp only at h1 h2 h3 h4⊢;refine Qay.ren ⟨{d:Nat//d<=4},fun d=>⟨[(10,.im (.int .i64 d.1)),(9,.own 5),(6,.ptr 2 0),(0,.ptr 0 0),(1,.ptr 1 0),(3,.im (.int .i64 t))],[(5,(true,.arr 2 1 ((glQ s a p d.1).map intC))),(2,(true,.cells 58 [.im (.int .i64 p.X),.im (.int .i64 p.Y)])),(0,(false,.view (Qaa.c s))),(1,(false,.view (Asm.c a)))],6⟩,fun d=>4 - d.1,fun d=>⟨by simp[Qad.good,belT,belH,Qam,AV.bel,belL],by simp⟩,⟨⟨0,ZaP _⟩,[(5,some 4)],?_⟩,fun d=> ?_⟩
 .simp only[subP];simp(maxSteps:=9^9)(disch:=omega)only[ZZ,simprocAttr,rch,YaZ,Zag,Zaf,glQ,ZaR]
  try simp
 obtain⟨d,hd⟩:=d;have hgl:=Qaj4 s a p d;simp(maxSteps:=9^9)(disch:=omega)only[ZZ,simprocAttr,rch,YaZ,sub,Qal,Qag,Qac,Qaf,allD,D.one,Zbg,Zch,Zdb];have hdw:IntKind.i64.wrap ((d:Int)+1)=((d+1:Nat):Int):=by rw[Qak (by omega) (by omega)];omega
 refine⟨fun hd4=>⟨⟨h3,by omega⟩,h2.1,fun hn=>⟨by omega,⟨d+1,by omega⟩,[(5,some 7)],by simp only;omega,?_⟩,fun hn=> ?_⟩,fun hd4=> ?_⟩
 .simp only[subP];simp(maxSteps:=9^9)(disch:=omega)only[ZZ,simprocAttr,rch,YaZ,Zag,Zaf,glQ];rw[Zam hn];refine⟨hdw,by simp[intC]⟩
 .obtain⟨b1,b2⟩:=Qafx h2 (Qf7 p d) (by omega);refine⟨b1,b2,fun x hx=>⟨by omega,by omega,by rw[(h1.2.1 x (Zad hx)).1];omega,fun g hg=>⟨by omega,⟨d+1,by omega⟩,[(5,some 7)],by simp only;omega,?_⟩⟩⟩;have hse:Qqu s (atA a (Qf7 p d)) (((d:Int)+2) % 4)=g:=Qpn hx hg;simp only[subP];simp(maxSteps:=9^9)(disch:=omega)only[ZZ,simprocAttr,rch,YaZ,Zag,Zaf,glQ];rw[Zai hn,hse];refine⟨hdw,by simp[intC]⟩
 obtain rfl:d=4:=by omega
 clear hdw hd4 hd;obtain⟨S,hS⟩: ∃S:Qar,S=⟨s,a,t⟩:=⟨_,rfl⟩;rw[<-hS];refine Qay.ren ⟨{i:Nat//i<=s.Tiles.length},fun i=>⟨[(13,.im (.int .i64 i.1)),(12,.own 7),(9,.own 5),(0,.ptr 0 0),(3,.im (.int .i64 t))],[(7,(true,.arr 2 1 ((atU S (atA a) p i.1).map intC))),(5,(true,.arr 2 1 ((glQ s a p 4).map intC))),(0,(false,.view (Qaa.c s))),(1,(false,.view (Asm.c a)))],8⟩,fun i=>s.Tiles.length - i.1,fun i=>⟨by simp[Qad.good,belT,belH,Qam,AV.bel,belL],by simp⟩,⟨⟨0,ZaP _⟩,[(7,some 6)],?_⟩,fun i=> ?_⟩
 .simp only[subP];simp(maxSteps:=9^9)(disch:=omega)only[ZZ,simprocAttr,rch,YaZ,Zag,Zaf,atU,ZaR]
  try simp
 obtain⟨i,hi⟩:=i;have hul:=Qakm S (atA a) p i;simp(maxSteps:=9^9)(disch:=omega)only[ZZ,simprocAttr,rch,YaZ,sub,Qal];intro _;refine⟨fun hi2=> ?_,fun hi2=> ?_⟩;rotate_left
 .obtain rfl:i=s.Tiles.length:=by omega
  rfl
 refine Qay.old ⟨{k:Nat//k<=4},fun k=>⟨[(15,.im (.int .i64 k.1)),(14,.im (.int .i64 (Qhs s (atA a) p i k.1))),(13,.im (.int .i64 i)),(12,.own 7),(9,.own 5),(0,.ptr 0 0),(3,.im (.int .i64 t))],[(7,(true,.arr 2 1 ((atU S (atA a) p i).map intC))),(5,(true,.arr 2 1 ((glQ s a p 4).map intC))),(0,(false,.view (Qaa.c s))),(1,(false,.view (Asm.c a)))],8⟩,fun k=>4 - k.1,fun k=>⟨by simp[Qad.good,belT,belH,Qam,AV.bel,belL],by simp⟩,⟨⟨0,ZaP _⟩,?_⟩,fun k=> ?_⟩
 .simp(maxSteps:=9^9)(disch:=omega)only[ZZ,simprocAttr,rch,YaZ,sub,Qhs]
 obtain⟨k,hk⟩:=k;simp(maxSteps:=9^9)(disch:=omega)only[ZZ,simprocAttr,rch,YaZ,sub,Qal,Qag,Qac,Qaf,allD,D.one,Zbg,Zch,Zdb];have hkw:IntKind.i64.wrap ((k:Int)+1)=((k+1:Nat):Int):=by rw[Qak (by omega) (by omega)];omega
 have hbb:=Qwy h1 (atA a) p i k;have htb:=Qxd h1 (atA a) p i k;have h4l:=Qaj4 s a p 4;rw[h4l];refine⟨fun hk4=>⟨hi2,fun x hx=>⟨by rw[(h1.2.1 x (Zad hx)).1];omega,fun g hg=>⟨by omega,by omega,fun y hy=> ?_⟩⟩⟩,fun hk4=> ?_⟩
 .have hse:Qqu s i k=g:=Qpn (by simpa using hx) (by simpa using hg);rw[Qak3 (by omega),Zab] at hy;have htl:=term_gl (i:=i) hy.symm;rw[hse] at htl;refine⟨fun e=>⟨by omega,by omega,fun z hz=> ?_⟩,fun e=>⟨⟨k+1,by omega⟩,by simp only;omega,hkw,?_⟩⟩
  .rw[Qak3 (by omega),Zab] at hz;obtain rfl:y=z:=hy.symm.trans hz;rw[Zam e] at htl;have hyb:0<=y/\y<=s.Glues.length:=by
    have:=side_b h1 (t:=i) (d:=k)
    rw[hse,e] at this;exact this
   refine⟨⟨hyb.1,hyb.2,h1.1⟩,⟨k+1,by omega⟩,by simp only;omega,hkw,?_⟩;rw[htl,Qak (by omega) (by omega)];rfl
  .rw[Zai e] at htl;simp only[Qhs,<-htl];omega
 .obtain rfl:k=4:=by omega
  have hiw:IntKind.i64.wrap ((i:Int)+1)=((i+1:Nat):Int):=by rw[Qak (by omega) (by omega)];omega
  have e1:S.Temperature=t:=by rw[hS]
  have e2:S.Set=s:=by rw[hS]
  refine⟨fun e=>⟨by omega,⟨i+1,by omega⟩,[(7,some 9)],by simp only;omega,?_⟩,fun e=>⟨⟨i+1,by omega⟩,[(7,some 7)],by simp only;omega,?_⟩⟩
  .simp only[subP];simp(maxSteps:=9^9)(disch:=omega)only[ZZ,simprocAttr,rch,YaZ,Zag,Zaf,atU,e1,e2];rw[Zam e];exact⟨hiw,by simp[intC]⟩
  .simp only[subP];simp(maxSteps:=9^9)(disch:=omega)only[ZZ,simprocAttr,rch,YaZ,Zag,Zaf,atU,e1,e2];rw[Zai e,ZaI];exact⟨hiw,rfl⟩
theorem atU_S(s:Qar)(a b:Asm)(f:Qae->Int)(p:Qae): ∀n,atU ⟨s.Set,a,s.Temperature⟩ f p n=atU s f p n
 |0=>rfl
 |n+1=>by simp only[atU,atU_S s a b f p n]
def Qakh(g:Qae->List Int)(l:List Qae)(i:Nat):List Opt:=Qajs g (l.take i)
theorem Qalm{g:Qae->List Int}{l:List Qae}{i:Nat}{p:Qae}(h:l[i]? =some p):Qakh g l (i+1)=Qakh g l i++(g p).map (mkO2 p):=by
 simp only[Qakh,Qajs,Qwe h,ZdD,Zbf,Zdi,ZaI]
theorem Qakc{g:Qae->List Int}{m:Nat}(hg: ∀p,(g p).length<=m): ∀(l:List Qae),(Qajs g l).length<=l.length*m
 |[]=>by simp[Qajs]
 |p::r=>by
  have ih:=Qakc hg r
  have:=hg p
  simp only[Qajs] at ih;simp only[Qajs,Zbf,ZaC,Zbs,ZaG,ZeL];omega
def opsS_.ar:List PK->Option (Qar×Asm):=a2 (kP Qar.d 4) (kP Asm.d 1)
def opsS_.ae(a:Qar×Asm):List PK:=[.ptr (Qar.c a.1),.ptr (Asm.c a.2)]
def opsS_.fv(a:Qar×Asm):List Opt:=(Qaj8) (a.1) (a.2)
def opsS_.row:Row:=vrow opsS_.ar (fun a=>setP a.1.Set/\Qn7 a.1.Set a.2/\a.2.Tiles.length<=500/\a.1.Set.Tiles.length<=1000) (fun a=>(fun b=>D.sl false 3 (b.map Opt.c)) (opsS_.fv a))
def opsS_.q:=vq opsS_.row rfl
def Yba:=J @opsS_.ae.eq_1<|J @opsS_.fv.eq_1<|J @nearS_.q<|J @nearS_.ar.eq_1<|J @nearS_.fv.eq_1<|J @atQ_.q<|J @atQ_.ar.eq_1 @atQ_.fv.eq_1
theorem opsS_.ok:Qas Tryz.prog 59 opsS_.row:=by
 refine Qaj Qaq (tC nearS_.ok (tC atQ_.ok tN)) Tryz.func59 rfl (by kernel_rfl) (by kernel_rfl) (ar:=opsS_.ar) (ae:=opsS_.ae) (Qaca (Qacc 4 Qar.d_le) (Qacc 1 Asm.d_le)) (n:=2) (fun _=>rfl) (by decide) (rc:=(vSl Opt.d)) (re:=(fun b=>D.sl false 3 (b.map Opt.c))) (Qe8 Opt.d_le (fun _=>rfl)) (f:=opsS_.fv) ?_;intro a hpre;simp only[Tryz.f59,Option.getD];simp(maxSteps:=9^9)(disch:=omega)only[ZZ,simprocAttr,rch,Yba];obtain⟨s,a⟩:=a;obtain⟨h1,h2,h3,h4⟩:=hpre;simp only at h1 h2 h3 h4⊢;refine⟨⟨h2.1,by omega,s.Set,h2.2⟩,?_⟩;obtain⟨L,hL⟩: ∃L,L=Qajq a a.Tiles.length:=⟨_,rfl⟩;obtain⟨g,hg⟩: ∃g,g=fun p=>atU s (atA a) p s.Set.Tiles.length:=⟨_,rfl⟩
 have hop:Qaj8 s a=Qajs g L:=by rw[hg,hL];rfl
 rw[hop];have hLl:L.length<=2000:=by have:=Qaj2 a a.Tiles.length;rw[hL];omega
 have hgl: ∀p,(g p).length<=1000:=fun p=>by have:=Qakm s (atA a) p s.Set.Tiles.length;rw[hg];simp only;omega
 have hLo: ∀p∈L,Qbi p=true:=fun p hp=>by
  rw[hL,Qajz _ (Zal _)] at hp;exact hp.1.1
 simp only[<-hL];refine Qay.ren ⟨{i:Nat//i<=L.length},fun i=>⟨[(7,.im (.int .i64 i.1)),(6,.im (.sl false 2 (L.map Qae.c))),(5,.own 4),(0,.ptr 0 0),(1,.ptr 1 0)],[(4,(true,.arr 72 3 ((Qakh g L i.1).map Opt.c))),(0,(false,.view (Qar.c s))),(1,(false,.view (Asm.c a)))],5⟩,fun i=>L.length - i.1,fun i=>⟨by simp[Qad.good,belT,belH,Qam,AV.bel,belL],by simp⟩,⟨⟨0,ZaP _⟩,[(4,some 3)],?_⟩,fun i=> ?_⟩
 .simp only[subP];simp(maxSteps:=9^9)(disch:=omega)only[ZZ,simprocAttr,rch,Yba,Zag,Zaf,Qakh,Zbm,Qajs,Zdi,ZaR]
  try simp
 obtain⟨i,hi⟩:=i;simp(maxSteps:=9^9)(disch:=omega)only[ZZ,simprocAttr,rch,Yba,sub,Qal];intro _;refine⟨fun hi2=> ?_,fun hi2=> ?_⟩;rotate_left
 .obtain rfl:i=L.length:=by omega
  rw[Qakh,Zbu]
 have hol:(Qakh g L i).length<=2000*1000:=by
  have:=Qakc hgl (L.take i)
  have h9:(L.take i).length*1000<=2000*1000:=Zba _ (by simp;omega);simp only[Qakh];omega
 refine⟨hi2,fun p hp=> ?_⟩;have hpo:=hLo p (Zad hp);refine⟨⟨h1,h2,Qkc hpo,by omega⟩,?_⟩;have hga:atU ⟨s.Set,a,s.Temperature⟩ (atA a) p s.Set.Tiles.length=g p:=by rw[atU_S _ _ a,hg]
 rw[hga];have hgp:=hgl p;refine Qay.ren ⟨{k:Nat//k<=(g p).length},fun k=>⟨[(9,.im (.int .i64 k.1)),(8,.im (.sl false 1 ((g p).map intC))),(7,.im (.int .i64 i)),(6,.im (.sl false 2 (L.map Qae.c))),(5,.own 5),(0,.ptr 0 0),(1,.ptr 1 0)],[(5,(true,.arr 72 3 ((Qakh g L i++((g p).take k.1).map (mkO2 p)).map Opt.c))),(0,(false,.view (Qar.c s))),(1,(false,.view (Asm.c a)))],6⟩,fun k=>(g p).length - k.1,fun k=>⟨by simp[Qad.good,belT,belH,Qam,AV.bel,belL],by simp⟩,⟨⟨0,ZaP _⟩,[(5,some 4)],?_⟩,fun k=> ?_⟩
 .simp only[subP];simp(maxSteps:=9^9)(disch:=omega)only[ZZ,simprocAttr,rch,Yba,Zag,Zaf,Zbm,ZaR,ZaI]
  try simp
 obtain⟨k,hk⟩:=k;simp(maxSteps:=9^9)(disch:=omega)only[ZZ,simprocAttr,rch,Yba,sub,Qal,Qag,Qac,Qaf,allD,D.one,Zbg,Zch,Zdb,ZaC];intro _;refine⟨fun hk2=>⟨hi2,fun q hq=>⟨hk2,fun x hx=>⟨?_,⟨k+1,by omega⟩,[(5,some 7)],by simp only;omega,?_⟩⟩⟩,fun hk2=>⟨⟨i+1,by omega⟩,[(4,some 5)],by simp only;omega,?_⟩⟩
 .have:((g p).take k).length<=1000:=by simp;omega
  omega
 .obtain rfl:=Zaa (hp.symm.trans hq);simp only[subP];simp(maxSteps:=9^9)(disch:=omega)only[ZZ,simprocAttr,rch,Yba,Zag,Zaf];refine⟨by rw[Qak (by omega) (by omega)];rfl,?_⟩;rw[Qwe hx];simp[mkO2,Opt.c,Qae.c]
 .obtain rfl:k=(g p).length:=by omega
  simp only[subP];simp(maxSteps:=9^9)(disch:=omega)only[ZZ,simprocAttr,rch,Yba,Zag,Zaf];refine⟨by rw[Qak (by omega) (by omega)];rfl,?_⟩;rw[Qalm hp,Zbu]
def ouC(l:List Opt)(ins:List Int)(i:Nat)(p:Qae)(d k:Nat):Bool:=decide (i<k) && (decide (l[k]?.map Opt.At=some (Qf7 p d)) && hasI (ins[k]?.getD 0) (((d:Int)+2) % 4))
def ouBn(l:List Opt)(ins:List Int)(i:Nat)(p:Qae)(d:Nat):Nat->Bool
 |0=>false
 |k+1=>ouBn l ins i p d k||ouC l ins i p d k
def ouB(l:List Opt)(ins:List Int)(i:Nat)(p:Qae)(d:Nat):Bool:=ouBn l ins i p d l.length
def ouM(l:List Opt)(ins:List Int)(i:Nat)(p:Qae):Nat->Int
 |0=>0
 |d+1=>ouM l ins i p d+bitN (ouB l ins i p d) d
theorem Qam6{l:List Opt}{ins:List Int}{i:Nat}{p:Qae}{d:Nat}: ∀{n:Nat},ouBn l ins i p d n=true↔ ∃k,k<n/\ouC l ins i p d k=true
 |0=>by simp[ouBn]
 |n+1=>by
  simp only[ouBn,ZbO,Qam6 (n:=n)];constructor
  .rintro (⟨k,h1,h2⟩|h)
   .exact⟨k,by omega,h2⟩
   .exact⟨n,by omega,h⟩
  .rintro⟨k,h1,h2⟩;by_cases hk:k=n
   .subst hk;exact .inr h2
   .exact .inl ⟨k,by omega,h2⟩
theorem Qam4{l:List Opt}{ins:List Int}{i:Nat}{p:Qae}{d k:Nat}:ouC l ins i p d k=true↔i<k/\l[k]?.map Opt.At=some (Qf7 p d)/\hasI (ins[k]?.getD 0) (((d:Int)+2) % 4)=true:=by
 simp only[ouC,Zah,Zap]
theorem at_uniq{l:List Opt}(hd:(l.map Opt.At).Nodup){q:Qae}{j k:Nat}(h1:l[j]?.map Opt.At=some q)(h2:l[k]?.map Opt.At=some q):j=k:=by
 have a1:=Qane hd h1;have a2:=Qane hd h2;omega
theorem ouC_one{l:List Opt}{ins:List Int}{i:Nat}{p:Qae}{d k:Nat}(hd:(l.map Opt.At).Nodup)(h:ouC l ins i p d k=true):ouBn l ins i p d k=false:=by
 cases hb:ouBn l ins i p d k with
 |false=>rfl
 |true=>
  exfalso;obtain⟨j,h1,h2⟩:=Qam6.1 hb
  have:=at_uniq hd (Qam4.1 h2).2.1 (Qam4.1 h).2.1
  omega
theorem Qanm{l:List Opt}{ins:List Int}{i:Nat}{p:Qae}{d k:Nat}(hd:(l.map Opt.At).Nodup):bitN (ouBn l ins i p d (k+1)) d=bitN (ouBn l ins i p d k) d+(if ouC l ins i p d k=true then 2^d else 0):=by
 simp only[ouBn];by_cases h:ouC l ins i p d k=true
 .rw[ouC_one hd h,h,Zam rfl];simp[bitN]
 .rw[Zai h];rw[ZbS] at h;rw[h];simp
theorem ouBn_low{l:List Opt}{ins:List Int}{i:Nat}{p:Qae}{d:Nat}: ∀{k:Nat},k<=i+1->ouBn l ins i p d k=false:=by
 intro k hk;cases hb:ouBn l ins i p d k with
 |false=>rfl
 |true=>
  exfalso;obtain⟨j,h1,h2⟩:=Qam6.1 hb
  have:=(Qam4.1 h2).1
  omega
theorem ouB_idx{l:List Opt}{ins:List Int}{i:Nat}{p:Qae}{d:Nat}(hd:(l.map Opt.At).Nodup):ouB l ins i p d=true↔(i:Int)<idxO l (Qf7 p d)/\hasI (ins[(idxO l (Qf7 p d)).toNat]?.getD 0) (((d:Int)+2) % 4)=true:=by
 rw[ouB,Qam6];constructor
 .rintro⟨k,h1,h2⟩;obtain⟨g1,g2,g3⟩:=Qam4.1 h2;rw[Qane hd g2];exact⟨by omega,by rw[Zak];exact g3⟩
 .rintro⟨h1,h2⟩;have h3:=idxO_at (l:=l) (q:=Qf7 p d) rfl (by omega);refine⟨(idxO l (Qf7 p d)).toNat,?_,Qam4.2 ⟨by omega,h3,h2⟩⟩;cases hk:l[(idxO l (Qf7 p d)).toNat]? with
  |none=>rw[hk] at h3;cases h3
  |some y=>exact (Zaj.1 hk).1
theorem bitN_b(b:Bool)(k:Nat):0<=bitN b k/\bitN b k<=2^k:=by
 have:(0:Int)<=2^k:=Int.le_of_lt (Int.pow_pos (by omega))
 cases b<;>simp[bitN,this]
theorem ouM_b(l:List Opt)(ins:List Int)(i:Nat)(p:Qae): ∀k,0<=ouM l ins i p k/\ouM l ins i p k<2^k
 |0=>by simp[ouM]
 |k+1=>by
  have h1:=ouM_b l ins i p k;have h2:=bitN_b (ouB l ins i p k) k;have e:(2:Int)^(k+1)=2^k*2:=Int.pow_succ ..;simp only[ouM];omega
theorem has_out(l:List Opt)(ins:List Int)(i:Nat)(p:Qae): ∀d:Nat,d<4->hasI (ouM l ins i p 4) d=ouB l ins i p d:=by
 intro d hd;obtain⟨k0,k1,k2,k3⟩:=has_bits (ouB l ins i p 0) (ouB l ins i p 1) (ouB l ins i p 2) (ouB l ins i p 3);have e:ouM l ins i p 4=0+bitN (ouB l ins i p 0) 0+bitN (ouB l ins i p 1) 1+bitN (ouB l ins i p 2) 2+bitN (ouB l ins i p 3) 3:=by
  simp only[ouM]
 rw[e];rcases (by omega:d=0\/d=1\/d=2\/d=3) with rfl|rfl|rfl|rfl
 .exact k0
 .exact k1
 .exact k2
 .exact k3
def Qam5(p:Qae)(m:Int):Nat->Qab->Bool
 |0,x=>decide (x.At≠p)
 |d+1,x=>Qam5 p m d x && !(hasI m d && decide (x.At=Qf7 p d))
def witA(a:Asm)(p:Qae)(m:Int):Asm:=⟨a.Tiles.filter (Qam5 p m 4)⟩
def Qam7(p:Qae)(m:Int):Nat->List Qae
 |0=>[p]
 |d+1=>Qam7 p m d++(if hasI m d=true then [Qf7 p d] else [])
def withI(a:Asm)(l:List Qae):Asm:=⟨a.Tiles.filter fun x=> !l.contains x.At⟩
theorem Qanj(p:Qae)(m:Int)(x:Qab): ∀d,(Qam7 p m d).contains x.At= !(Qam5 p m d x)
 |0=>by
  simp only[Qam7,Qam5,Zcx,ZcE,Zcv];by_cases h:x.At=p<;>simp[h]
 |d+1=>by
  simp only[Qam7,Qam5,List.contains_append,Qanj p m x d];by_cases c:hasI m d=true
  .rw[Zam c,c];by_cases h:x.At=Qf7 p d<;>simp[h]
  .rw[Zai c];rw[ZbS] at c;rw[c];simp
theorem wit_law(a:Asm)(p:Qae)(m:Int):withI a (Qam7 p m 4)=witA a p m:=by
 simp only[withI,witA,Qanj,Bool.not_not]
theorem Qank(p:Qae)(m:Int): ∀d,(Qam7 p m d).length<=d+1
 |0=>by simp[Qam7]
 |d+1=>by
  have:=Qank p m d
  simp only[Qam7,ZaC]
  split<;>simp<;>omega
theorem form_weak{p:Qae}{q:Option Qae}(hq: ∀u,q=some u->Qap u p=true): ∀{r:List Qab},Qaz (some p) r=true->Qaz q r=true
 |[],_=>Qik q
 |x::r,h=>by
  rw[Qbq] at h⊢;simp only[Zah] at h⊢;obtain⟨h1,h2,h3,h4⟩:=h;refine⟨h1,h2,?_,h4⟩;cases q with
  |none=>rfl
  |some u=>exact Qajr (hq u rfl) h3
theorem Qanc(c:Qab->Bool): ∀(l:List Qab) (q:Option Qae),Qaz q l=true->Qaz q (l.filter c)=true
 |[],q,_=>Qik q
 |x::r,q,h=>by
  rw[Qbq] at h;simp only[Zah] at h;obtain⟨h1,h2,h3,h4⟩:=h;have ih:=Qanc c r (some x.At) h4;rw[ZdB];split
  .rw[Qbq];simp only[Zah];exact⟨h1,h2,h3,ih⟩
  .refine form_weak (fun u hu=> ?_) ih;subst hu;exact h3
theorem wit_in{s:Qaa}{a:Asm}(h:Qn7 s a)(p:Qae)(m:Int):Qn7 s (witA a p m):=
 ⟨Qanc _ _ _ h.1,fun x hx=>h.2 x (ZcH.1 hx).1⟩
theorem atA_of{a:Asm}(h:Qaz none a.Tiles=true){x:Qab}(hx:x∈a.Tiles):atA a x.At=x.Tile:=by
 simp only[atA];cases hf:a.Tiles.find? (fun y=>decide (y.At=x.At)) with
 |none=>
  have:=Zcz.1 hf x hx
  simp at this
 |some y=>
  have hy:=Zcp hf;have e:y.At=x.At:=by simpa using Zco hf
  rw[nodup_at (Qix h) y hy x hx e];rfl
theorem Qann{s:Qaa}{f g:Qae->Int}{p:Qae}{t:Int}: ∀(k:Nat),(∀d:Nat,d<k->Quh s f p t d<=Quh s g p t d)->Qhs s f p t k<=Qhs s g p t k
 |0,_=>ZcN _
 |k+1,h=>by
  have h1:=Qann k fun d hd=>h d (by omega)
  have h2:=h k (by omega);simp only[Qhs];omega
theorem flt_bind{s:Qar}{b:Asm}{l:List Opt}(h:Qaec s b l)(hb:Qn7 s.Set b)(h0:setP s.Set)(h1:s.Set.Tiles.length<=160){i:Nat}{o:Opt}(ho:l[i]? =some o)(ins:List Int):
 Qhs s.Set (atA (Qac9 b (l.take i))) o.At o.Tile 4<=Qhs s.Set (atA (witA (Qac9 b l) o.At (ouM l ins i o.At 4))) o.At o.Tile 4:=by
 have hil:i<l.length:=(Zaj.1 ho).1;have hin:=Qafb h1 hb h i (by omega);have hend:Qn7 s.Set (Qac9 b l):=by
  have:=Qafb h1 hb h l.length (Zal _)
  rwa [Zbu] at this
 have hwi:=wit_in hend o.At (ouM l ins i o.At 4);have hmono: ∀x∈(Qac9 b (l.take i)).Tiles,∀k,i<=k->x∈(Qac9 b (l.take k)).Tiles:=by
  intro x hx k hk;rw[Qaei] at hx⊢;rcases hx with hx|⟨z,hz,e⟩
  .exact .inl hx
  .refine .inr ⟨z,?_,e⟩;obtain⟨j,hj⟩:=Zbq.1 hz;have hji:j<i:=by
    have:=(Zaj.1 hj).1
    simp at this;omega
   rw[Zbq];exact⟨j,by rw[ZdF hji] at hj;rw[ZdF (by omega)];exact hj⟩
 refine Qann 4 fun d hd=> ?_
 have hp:=(Qxd h0 (atA (witA (Qac9 b l) o.At (ouM l ins i o.At 4))) o.At o.Tile d).1;by_cases c:0<=atA (Qac9 b (l.take i)) (Qf7 o.At d)
 .obtain⟨x,hx,hxq⟩:=at_mem c;have hxe:x∈(Qac9 b l).Tiles:=by
   have:=hmono x hx l.length (by omega)
   rwa [Zbu] at this
  have hfree:=(Qadk (h i o ho).1).2.2.2.2.2;have hk: ∀e:Nat,e<=4->Qam5 o.At (ouM l ins i o.At 4) e x=true:=by
   intro e;induction e with
   |zero=>intro _;simpa[Qam5] using hfree x hx
   |succ e ih=>
    intro he;simp only[Qam5,ih (by omega),Zbo,ZbT,ZcU,Zbi];rw[has_out _ _ _ _ e (by omega)];cases hob:ouB l ins i o.At e with
    |false=>exact .inl rfl
    |true=>
     right;intro hxe2;obtain⟨k,_,h3⟩:=Qam6.1 hob;obtain⟨g1,g2,_⟩:=Qam4.1 h3;cases hlk:l[k]? with
     |none=>rw[hlk] at g2;cases g2
     |some y=>
      rw[hlk] at g2;have hy:y.At=Qf7 o.At e:=by simpa using g2
      exact (Qadk (h k y hlk).1).2.2.2.2.2 x (hmono x hx k (by omega)) (hxe2.trans hy.symm)
  have hxr:x∈(witA (Qac9 b l) o.At (ouM l ins i o.At 4)).Tiles:=ZcH.2 ⟨hxe,hk 4 (Zal _)⟩;have e1:=atA_of hin.1 hx;have e2:=atA_of hwi.1 hxr;rw[hxq] at e1 e2;simp only[Quh,e1,e2];exact ZcN _
 .have:Quh s.Set (atA (Qac9 b (l.take i))) o.At o.Tile d=0:=Zai c
  omega
def anoK(s:Qar)(f:Qae->Int)(p:Qae)(t:Int):Nat->Bool
 |0=>false
 |k+1=>anoK s f p t k||(decide ((k:Int)≠t) && decide (s.Temperature<=Qhs s.Set f p k 4))
theorem Qang{s:Qar}{f:Qae->Int}{p:Qae}{t:Int}: ∀{n:Nat},anoK s f p t n=true↔ ∃k:Nat,k<n/\(k:Int)≠t/\s.Temperature<=Qhs s.Set f p k 4
 |0=>by simp[anoK]
 |n+1=>by
  simp only[anoK,ZbO,Zah,Zap,Qang (n:=n)];constructor
  .rintro (⟨k,h1,h2⟩|h)
   .exact⟨k,by omega,h2⟩
   .exact⟨n,by omega,h⟩
  .rintro⟨k,h1,h2⟩;by_cases hk:k=n
   .subst hk;exact .inr h2
   .exact .inl ⟨k,by omega,h2⟩
theorem Qam8{s:Qar}{f:Qae->Int}{p:Qae}{x:Int}: ∀{n:Nat},x∈atU s f p n↔ ∃k:Nat,k<n/\x=k/\s.Temperature<=Qhs s.Set f p k 4
 |0=>by simp[atU]
 |n+1=>by
  simp only[atU,Zao,Qam8 (n:=n)];constructor
  .rintro (⟨k,h1,h2⟩|h)
   .exact⟨k,by omega,h2⟩
   .split at h
    .rename_i c;exact⟨n,by omega,by simpa using h,c⟩
    .cases h
  .rintro⟨k,h1,h2,h3⟩;by_cases hk:k=n
   .subst hk;right;rw[Zam h3,h2];exact Zaq.2 rfl
   .exact .inl ⟨k,by omega,h2,h3⟩
theorem atU_nd{s:Qar}{f:Qae->Int}{p:Qae}: ∀n:Nat,(atU s f p n).Nodup
 |0=>by simp[atU]
 |n+1=>by
  simp only[atU];split
  .rw[Zcj];refine⟨atU_nd n,by simp,?_⟩;intro a ha z hz haz;rw[Zaq] at hz;obtain⟨k,h1,h2,_⟩:=Qam8.1 ha;omega
  .rw[ZaI];exact atU_nd n
theorem one_law{s:Qar}{f:Qae->Int}{p:Qae}{t:Int}{n:Nat}(h1:0<=t)(h2:t<n)(h3:s.Temperature<=Qhs s.Set f p t 4):(atU s f p n).length≠1↔anoK s f p t n=true:=by
 have hm:t∈atU s f p n:=Qam8.2 ⟨t.toNat,by omega,by omega,by rw[Int.toNat_of_nonneg h1];exact h3⟩;rw[Qang];constructor
 .intro h;cases hl:atU s f p n with
  |nil=>rw[hl] at hm;cases hm
  |cons x r=>
   cases r with
   |nil=>rw[hl] at h;exact (h rfl).elim
   |cons y r=>
    have hn:=atU_nd (s:=s) (f:=f) (p:=p) n;rw[hl,ZbK] at hn;have hxy:x≠y:=fun e=>hn.1 (by rw[e];exact Zas ..)
    have hx:x∈atU s f p n:=by rw[hl];exact Zas ..
    have hy:y∈atU s f p n:=by rw[hl];exact Zar _ (Zas ..)
    obtain⟨k,a1,a2,a3⟩:=Qam8.1 hx;obtain⟨j,b1,b2,b3⟩:=Qam8.1 hy;by_cases c:x=t
    .exact⟨j,b1,by rw[<-b2,<-c];exact fun e=>hxy e.symm,b3⟩
    .exact⟨k,a1,by rw[<-a2];exact c,a3⟩
 .rintro⟨k,h4,h5,h6⟩ hl;obtain⟨x,hx⟩:=Zdn.1 hl;have h7:(k:Int)∈atU s f p n:=Qam8.2 ⟨k,h4,rfl,h6⟩;rw[hx,Zaq] at hm h7;exact h5 (h7.trans hm.symm)
def fsF{A:Type}(g:Nat->Option A):Nat->Nat->Option A
 |0,_=>none
 |n+1,k=>(g k).or (fsF g n (k+1))
theorem Qand{A:Type}{g h:Nat->Option A}: ∀(n k:Nat),(∀i,k<=i->i<k+n->g i=h i)->fsF g n k=fsF h n k
 |0,_,_=>rfl
 |n+1,k,e=>by
  simp only[fsF];rw[e k (by omega) (by omega),Qand n (k+1) fun i h1 h2=>e i (by omega) (by omega)]
def fltO(s:Qar)(sms:List Int)(o:Opt)(i:Nat)(many:Bool):Option (Int×Opt):=if sms[i]?.getD 0≠s.Temperature then some (1,o) else if many=true then some (2,o) else none
def endO:List Opt->Option (Int×Opt)
 |[]=>none
 |o::_=>some (3,o)
def gfI(s:Qar)(l:List Opt)(i:Nat):Option (Int×Opt):=
 (l[i]?).bind fun o=>fltO s (smsS s s.Seed l) o i (anoK s (atA (witA (Qac9 s.Seed l) o.At (ouM l (insS s s.Seed l) i o.At 4))) o.At o.Tile s.Set.Tiles.length)
def gfS(s:Qar)(l:List Opt)(i:Nat):Option (Int×Opt):=
 (l[i]?).bind fun o=>fltO s (smsS s s.Seed l) o i (decide ((atU s (atA (witA (Qac9 s.Seed l) o.At (ouM l (insS s s.Seed l) i o.At 4))) o.At s.Set.Tiles.length).length≠1))
theorem Qanp(s:Qar): ∀(l:List Opt) (b:Asm) (k:Nat) (o:Opt),l[k]? =some o->(smsS s b l)[k]? =some (Qhs s.Set (atA (Qac9 b (l.take k))) o.At o.Tile 4)
 |[],_,k,o,h=>by simp at h
 |x::r,b,0,o,h=>by
  simp only[ZaN,Zab] at h;subst h;simp[smsS,Qac9]
 |x::r,b,k+1,o,h=>by
  rw[ZaS] at h;simp only[smsS,ZaS,ZbI,Qac9];exact Qanp s r _ k o h
theorem gf_law{s:Qar}{l:List Opt}(h:seqP s l)(i:Nat):gfI s l i=gfS s l i:=by
 obtain⟨q1,q2,q3,q4,q5,q6⟩:=h;simp only[gfI,gfS];cases ho:l[i]? with
 |none=>rfl
 |some o=>
  simp only[Zby,fltO];rw[Qanp s l s.Seed i o ho,Zac];by_cases c:Qhs s.Set (atA (Qac9 s.Seed (l.take i))) o.At o.Tile 4≠s.Temperature
  .rw[Zam c,Zam c]
  rw[Zai c,Zai c];have hle:=flt_bind q5 q2 q1 q3 ho (insS s s.Seed l);obtain⟨g1,g2,g3,g4,g5,g6⟩:=Qadk (q5 i o ho).1;have hT:s.Temperature<=Qhs s.Set (atA (witA (Qac9 s.Seed l) o.At (ouM l (insS s s.Seed l) i o.At 4))) o.At o.Tile 4:=by
   have:Qhs s.Set (atA (Qac9 s.Seed (l.take i))) o.At o.Tile 4=s.Temperature:=Decidable.not_not.1 c
   omega
  have:=one_law (n:=s.Set.Tiles.length) g3 g4 hT
  simp only[Zap,this]
def fltS(s:Qar)(l:List Opt):Option (Int×Opt):=(fsF (gfS s l) l.length 0).or (endO (Qaj8 s (Qac9 s.Seed l)))
theorem flt_law{s:Qar}{l:List Opt}(h:seqP s l):(fsF (gfI s l) l.length 0).or (endO (Qaj8 s (Qac9 s.Seed l)))=fltS s l:=by
 rw[fltS,Qand l.length 0 fun i _ _=>gf_law h i]
def fltR:Option (Int×Opt)->Int×Qae×Int
 |none=>(0,⟨0,0⟩,3)
 |some (k,o)=>(k,o.At,0)
def lfF(s:Qar)(l:List Opt):Int×Qae×Int:=if (seqS s l).2.2≠0 then (0,⟨0,0⟩,(seqS s l).2.2) else fltR (fltS s l)
end Go.Ae
namespace Go.Ae
open Go.Proofs Go.Sort Go.Shelf
instance:Inhabited Qae:=⟨⟨0,0⟩⟩
def encQ(x:Qae):List Value:=[.int .i64 x.X,.int .i64 x.Y]
def cfQ(x y:Qae):Int:=Qabu (x.X,x.Y) (y.X,y.Y)
theorem Qamn(x y:Qae):ltOf cfQ x y=Qap x y:=by
 simp only[ltOf,cfQ,Qabu,Lib.compareInt,Qap]
 grind
theorem swoQ:SWO (ltOf cfQ) where
 irrefl x:=by rw[Qamn];simp only[Qap];grind
 trans x y z h1 h2:=by rw[Qamn] at*;simp only[Qap] at*;grind
 ntrans x y z h1 h2:=by rw[Qamn] at*;simp only[Qap] at*;grind
theorem Qall{l:List Qae}(hd:l.Nodup):(Qakz l).Perm l:=(Zeh (ltQ_nd (Qakg l)) hd).2 fun _=>Qaka
theorem Qamw{l l':List Qae}(hd:l.Nodup)(hp:l'.Perm l)(hs:l'.Pairwise (fun a b=>Qap b a=false)):l'=Qakz l:=by
 refine Qal3 ?_ (Qakg l) (fun q=>by rw[Qaka,hp.mem_iff]);have hn:l'.Nodup:=hp.nodup_iff.2 hd;refine Zer (fun {a b} h=> ?_) (List.pairwise_and_iff.2 ⟨hs,hn⟩);exact Qako h.1 fun e=>h.2 e.symm
theorem sortQ_len{l:List Qae}(hd:l.Nodup):(Qakz l).length=l.length:=(Qall hd).length_eq
def flQ(l:List Qae):List Value:=l.flatMap encQ
theorem flQ_len(l:List Qae):(flQ l).length=l.length*2:=by
 induction l with
 |nil=>rfl
 |cons x r ih=>simp only[flQ,Zbf,ZaC,ZaG] at ih⊢;rw[ih];simp[encQ];omega
theorem Qaml{ok:Nat->Prop}{hp:Nat->Option Obj}: ∀(l:List Qae) (L:List Value),rdr ok hp 2 (l.map Qae.c) L↔ ∃r,L=flQ l++r
 |[],L=>by simp[rdr,flQ]
 |x::r,L=>by
  simp only[Zan,rdr,Qaml r,Qae.c,rdp,rd,flQ,Zbf];constructor
  .rintro⟨_,⟨v,L1,rfl,rfl,v2,L2,rfl,rfl,_⟩,q,hq⟩;exact⟨q,by simp only[ZbW,ZbM] at hq;rw[hq];rfl⟩
  .rintro⟨q,rfl⟩;exact⟨rfl,⟨_,_,rfl,rfl,_,_,rfl,rfl,trivial⟩,q,rfl⟩
theorem flQ_get: ∀(l:List Qae) (t:Nat),t<l.length*2->(flQ l)[t]? =some ((encQ (l[t/2]?.getD default))[t % 2]!)
 |[],t,h=>by simp at h
 |x::r,t,h=>by
  by_cases ht:t<2
  .have:t=0\/t=1:=by omega
   rcases this with rfl|rfl<;>simp[flQ,encQ]
  .obtain⟨u,rfl⟩: ∃u,t=u+2:=⟨t - 2,by omega⟩;have e1:(u+2)/2=u/2+1:=by omega
   have e2:(u+2) % 2=u % 2:=by omega
   have ih:=flQ_get r u (by simp at h;omega);rw[e1,e2,ZaS,<-ih];simp[flQ,encQ]
theorem Qama(l:List Qae):(flatK encQ 2 l.toArray).toList=flQ l:=by
 apply Zcc;intro t;by_cases ht:t<l.length*2
 .rw[flQ_get l t ht];have hs:t<(flatK encQ 2 l.toArray).size:=by simp only[size_flatK,ZbU];exact ht
  have h1:=get_flatK encQ 2 l.toArray t (by simpa using ht);rw[ZaT,ZaX hs,<-getElem!_pos (flatK encQ 2 l.toArray) t hs,h1];congr 3;simp[getElem!_def];cases l[t/2]? <;>rfl
 .have a1:(flatK encQ 2 l.toArray).toList.length<=t:=by rw[ZaK,size_flatK,ZbU];omega
  have a2:(flQ l).length<=t:=by rw[flQ_len];omega
  rw[ZaW a1,ZaW a2]
def srtQ.ca(_:List Qae):List AV:=[.own 0,.im (.fn 112 [] [])]
def srtQ.H0(a:List Qae):Qan:=[(0,(true,.arr 58 2 (a.map Qae.c)))]
def srtQ.H1(a:List Qae):Qan:=[(0,(true,.arr 58 2 ((Qakz a).map Qae.c)))]
def srtQ.row:Row:=orow srtQ.ca srtQ.H0 1 (fun a=>a.Nodup) (fun _=>true) (fun _=> .im (.tup [])) srtQ.H1 0
theorem srtQ.ok:Qas Tryz.prog 153 srtQ.row:=by
 rintro args h nx K ⟨a,τ,U,KL,hpre,rfl,hheap,hN,hK⟩;refine⟨Qh7 (by kernel_rfl),_,_,?_,hK⟩;intro C S vs R hW huse hfresh hnames hargs hfin;have hs0:sgx τ 1 nx 0=τ 0:=Zam (by omega);simp only[srtQ.ca,renL,AV.ren,hs0,Qa0,conc,rd,rdl] at hargs;obtain⟨v0,r0,hv,⟨hone,hown⟩,v1,r1,hr1,⟨ac,cc,hv1,hac,hcc⟩,hr2⟩:=hargs;have hac:ac= #[]:=by apply Zdj;simpa using hac
 have hcc:cc= #[]:=by apply Zdj;simpa using hcc
 subst hac hcc hr2 hr1 hv1;have hvs:vs= #[v0,.func (fnV 112) #[] #[]]:=by apply Zdj;simpa using hv
 subst hvs;have hm:h (τ 0)=some (true,.arr 58 2 (a.map Qae.c)):=by
  have:=hheap.1
  rwa [hs0] at this
 have hd0:domB (srtQ.H0 a) 0=true:=rfl;have hSm:S.h (τ 0)=some (true,.arr 58 2 (a.map Qae.c)):=by
  rw[huse (τ 0) (ZbC _ (hN.u 0 hd0)),hm]
 have hk0: ∀n,n∈KL↔n=τ 0:=by
  intro n;constructor
  .intro hn;obtain⟨j,h1,_,h3⟩:=hN.k1 n hn
   have:j=0:=by
    simp only[domB,srtQ.H0,hget] at h1;by_cases hj:j=0
    .exact hj
    .have:(0==j)=false:=by simpa using fun h=>hj h.symm
     rw[this] at h1;cases h1
   rw[h3,this]
  .rintro rfl;exact hN.k2 0 hd0 rfl
 obtain⟨m,hmm⟩: ∃m,m=τ 0:=⟨_,rfl⟩;rw[<-hmm] at hSm hown hk0;have hsl:=sortQ_len hpre;have fin: ∀(w':World),Qjb S m (.arr 58 2 ((Qakz a).map Qae.c)) (S.ρ m) [m] w'->
  (Pres (fun n=>S.h m≠none\/n≠m) S (S.one m (.arr 58 2 ((Qakz a).map Qae.c)) (S.ρ m) [m] w')->objc (S.one m (.arr 58 2 ((Qakz a).map Qae.c)) (S.ρ m) [m] w') (S.ρ m) (.arr 58 2 ((Qakz a).map Qae.c)))->R (.returned (.tuple #[])) w':=by
  intro w' hone hob;have hp:=Qg2 hW hone;refine hfin (.tuple #[]) _ (Qqp hW hone (hob hp)) ?_ ⟨hp.ok,fun n _=>hp.nm n (.inl (by rw[hSm];simp))⟩ ⟨#[],rfl,rfl⟩;funext n;simp only[Env.one,Eff.appf,srtQ.H1,renH,hs0,hget,AObj.ren,<-hmm];by_cases hn:n=m
  .subst hn;simp
  .have h1:(m==n)=false:=by simpa using fun h=>hn h.symm
   have h2:KL.contains n=false:=by
    rw[<-ZbS,Zbj,hk0];exact hn
   simp only[h1,ZaV,h2,hn,ZbB,Zaq]
 have hown':=hown _ hSm;have hobj:=hW.obj _ _ hSm;have hloc:=fun lc=>hW.loc m _ lc hSm
 cases hρ:S.ρ m with
 |none=>
  rw[hρ] at hown' hobj;simp only[objc] at hobj;have ha:a=[]:=by simpa using hobj.2
  subst ha;simp only at hown';rw[hown',Qoi (by decide)];refine (AnyF.slices_SortFunc_none Tryz.sortPt none 0 (.func (.func 112) #[] #[]) S.w).mono ?_;rintro e w' ⟨rfl,rfl⟩;refine fin S.w (Qacz hSm (fun l hl=>by rw[hρ] at hl;cases hl) rfl rfl) (fun _=> ?_);rw[hρ];exact⟨ZaP _,rfl⟩
 |some lc=>
  rw[hρ] at hown' hobj;simp only[objc,AObj.len] at hobj hown';obtain⟨g1,g2,cv,g3,g4,g5⟩:=hobj;obtain⟨hlb,hlk⟩:=hloc lc hρ;rw[Qaml] at g5;obtain⟨rest,g5⟩:=g5;simp only[Zbs] at g1 g2 hown';have hheap:S.w.heap[lc.b]? =some (.cells cv 58 (0,0)):=g3;have hlen:lc.p+a.length*2<=cv.size:=by omega
  have hF:(flatK encQ 2 a.toArray).size=a.length*2:=by simp
  have hget: ∀j,j<a.length*2->cv[lc.p+j]? =some ((flatK encQ 2 a.toArray)[j]!):=by
   intro j hj;have h1:(cv.toList.drop lc.p)[j]? =(flQ a++rest)[j]? :=by rw[g5]
   rw[Zbp,ZaT,ZaB (by rw[flQ_len];exact hj),<-Qama,ZaT] at h1;rw[h1,ZaX (by rw[hF];exact hj),getElem!_pos _ _ (by rw[hF];exact hj)]
  have hH:HoldsK encQ 2 S.w lc.b lc.p a.toArray:=by
   intro j hj;rw[hF] at hj;refine⟨?_,?_⟩
   .simp only[World.cell?,hheap,ZcZ,Zax,ZbB,id];exact hget j hj
   .simp only[World.frozen?,hheap];simp
  have hc:=AnyQ.slices_SortFunc Tryz.sortPt 2 Tryz.isAgg58 Tryz.sizeOf58 encQ (fun _=>rfl) (fun x v hv=>by simp[encQ] at hv;rcases hv with rfl|rfl<;>rfl) cfQ swoQ 112 #[] lc.b lc.p lc.cap a.toArray S.w
   (Qhx (Qh7 (by kernel_rfl))) (fun m os dk hs x y=>Tryz.cmpPoints _ _ _ _ _) hH hlb (by simp only[ZbU,LIM] at g1⊢;omega)
  rw[hown',Qoi (by decide)];refine hc.mono ?_;rintro e w' ⟨rfl,d',n,os,hperm,hsort,rfl⟩;have hsz:d'.size=a.length:=hperm.1;have hd':d'.toList=Qakz a:=by
   refine Qamw hpre ?_ ?_
   .have:=hperm.2.2
    rwa [show d'.extract 0 a.toArray.size=d' by rw[ZbU,<-hsz];exact Zdo,show a.toArray.extract 0 a.toArray.size=a.toArray from Zdo] at this
   .rw[Zda];intro i j hi hj hij
    have:=hsort i j (ZaP _) hij (by rw[ZbU,<-hsz];simpa using hj)
    rw[Qamn,getElem!_pos d' i (by simpa using hi),getElem!_pos d' j (by simpa using hj)] at this;simpa using this
  obtain rfl:d'=(Qakz a).toArray:=by apply Zdj;rw[hd']
  have hF':(flatK encQ 2 (Qakz a).toArray).size=a.length*2:=by simp[hsl]
  have hl2:(flatK encQ 2 (Qakz a).toArray).toList.length=a.length*2:=by rw[ZaK,hF']
  have hsize:S.w.heap.size<=(sortWorldK encQ 2 S.w lc.b lc.p n (Qakz a).toArray os).heap.size:=by
   simp[sortWorldK,grow,putRowK,Sort.ahead]
  have hb: ∀b,b<S.w.heap.size->(sortWorldK encQ 2 S.w lc.b lc.p n (Qakz a).toArray os).heap[b]? =if lc.b=b then S.w.heap[b]?.map (onCells (putCells id lc.p (flatK encQ 2 (Qakz a).toArray))) else S.w.heap[b]? :=by
   intro b hb;have e0:b<(putRowK encQ 2 (Sort.ahead S.w n) lc.b lc.p (Qakz a).toArray).heap.size:=by simpa[putRowK,Sort.ahead] using hb
   simp only[sortWorldK,grow];rw[Zdx e0];simp only[putRowK,putRow,mapBlock,Sort.ahead,ZdO]
  refine fin _ ⟨rfl,rfl,rfl,hsize,?_,.inl (by simp),?_,?_,?_⟩ ?_
  .intro b hb1 hb2;rw[hb b hb1,Zai (hb2 m _ lc (by simp) hSm hρ)]
  .intro lo hlo;rw[hρ] at hlo;obtain rfl:=Zaa hlo;exact⟨Zbh hlb hsize,.inr ⟨m,_,lc,by simp,hSm,hρ,rfl⟩⟩
  .intro f hf;rw[hSm] at hf;obtain rfl:=Zaa hf;exact⟨rfl,rfl,by simp[AObj.len,hsl]⟩
  .intro n' f _ hnone;rw[hSm] at hnone;cases hnone
  .intro _;rw[hρ];simp only[objc,Zbs,hsl];refine⟨g1,g2,putCells id lc.p (flatK encQ 2 (Qakz a).toArray) cv,?_,by simpa[putCells] using g4,?_⟩
   .simp only[Env.one,Env.hp];rw[hb lc.b hlb,Zam rfl,hheap];rfl
   .rw[Qaml];refine⟨(cv.toList.drop (lc.p+a.length*2)),?_⟩;apply Zcc;intro t;rw[Zbp,ZaT,putCells,Zez,hF',<-Qama];by_cases ht:t<a.length*2
    .rw[ZaB (by rw[hl2];exact ht),ZaT,ZaX (show lc.p+t<cv.size by omega),ZaX (by rw[hF'];exact ht)];simp only[ZaO,id];rw[Zam ⟨by omega,by omega⟩,ZcL,getElem!_pos _ _ (by rw[hF'];exact ht)]
    .rw[ZaE (by rw[hl2];omega),hl2,Zbp,ZaT,show lc.p+a.length*2+(t - a.length*2)=lc.p+t by omega];cases cv[lc.p+t]? with
     |none=>rfl
     |some x=>simp only[ZaO];rw[Zai (by omega)]
end Go.Ae
namespace Go.Ae
open Go.Proofs
theorem it_regU{ι:Type}{P:Program}{V:Qbh}{N:Nat}{J:ι->(Nat->Prop)->World->Prop}{base:Nat}{ok0:Nat->Prop}{i j:ι}(HV:Qd1 P V)(hA:Qoh base J){stp:ι->List D->ι->Prop}{l:Nat}(hY: ∀i x j args Pr W,stp i x j->(∀ok hp,rdl ok hp x args.toList)->J i Pr W->YieldAt Fence.wide 0 P l args W fun e W'=>e= .returned (.bool true)/\ ∃Pr',J j Pr' W'/\Move ok0 Pr W Pr' W')
 {id:Nat}{ops:Array Oper}(k1:Nat)(hsz:List.range ops.size=List.range' 0 (ops.toList.take k1).length++(k1::(List.range' (k1+1) (ops.toList.drop (k1+1)).length++[])))(hd1:Qkq N (ops.toList.take k1)=true)(hd2:Qkq N (ops.toList.drop (k1+1))=true)(hcalm:Qhw ops=true)
 {o:Oper}{c:Call}{f:Operand}{x:List D}(s1:Qad){s s2:Qad}{a:Act}{w:World}{Q:Exit->Act->World->Prop}(ho:ops[k1]? =some o)(hop:o.op= .call c)(hcal:c.callee= .value f)(hgd:o.guard=none)
 (hf:evO s1.tm f= .im (.fn (1000000000+l) [] []))(hargs:evL s1.tm c.args.toList=x.map .im)(hsc:x.all D.scs=true)(hx:stp i x j)(hnv: ∀n e,hget s1.h n=some e->e.2.isView=false)(hd: ∀d,o.dst=some d->d<N)(hg1:s1.good=true)(hg2:s2.good=true)
 (h:It J base ok0 N i s a w)(hk1:rgS P V (Qgy ops (ops.toList.take k1)) (fun s=>sub s s1) s)(hk2:rgS P V (Qgy ops (ops.toList.drop (k1+1))) (fun s=>sub s s2) (s1.put o.dst (.im (.bool true))))
 (hend: ∀a w,It J base ok0 N j s2 a w->Q .normal a w):(Code.region id ops false).wpIn Fence.wide 0 P Q a w:=by
 refine wpIn_region ?_;rw[hsz];refine Qamq HV hA (seg:=ops.toList.take k1) (more:=ops.toList.drop k1) (by rw[ZbM,ZbE]) hd1 hcalm hk1 h (fun s a w h1 h2=> ?_);have h3:=Qdd h2 h1 hg1 hA;have hw:Region.wanted o (yielded ops a.tmps)=true:=by simp[Region.wanted,hgd]
 refine Qamp hA hY ho hw hop hcal hf hargs hsc hx hnv hd h3 (fun a w h4=> ?_);refine Qamq HV hA (seg:=ops.toList.drop (k1+1)) (more:=[]) (by rw[ZaI]) hd2 hcalm hk2 h4 (fun s a w h5 h6=> ?_);exact hend a w (Qdd h6 h5 hg2 hA)
abbrev OpM:=List (Qae×List Int)
def givK(op:OpM):Giv:=⟨OpM×List Qae,(op,[]),fun i x j=> ∃(k:Nat) (p:Qae×List Int),i.1[k]? =some p/\x=[.agg (Qae.c p.1)]/\j=(i.1.eraseIdx k,i.2++[p.1]),fun i=>i.1=[]⟩
def kyS(l:Nat)(left:OpM)(last:Option (D×D)):Qad:=⟨[(5,.it 0),(0,.im (.fn (1000000000+l) [] []))],[(0,(true,.iter last (left.map Qbc)))],1⟩
def kyB(l:Nat)(left:OpM)(p:Qae×List Int):Qad:=⟨[(3,.ptr 1 0),(5,.it 0),(0,.im (.fn (1000000000+l) [] []))],[(0,(true,.iter (some (Qbc p)) (left.map Qbc))),(1,(true,.cells 58 [.im (.int .i64 p.1.X),.im (.int .i64 p.1.Y)]))],2⟩
theorem Qal7(l:Nat)(left:OpM)(last:Option (D×D)):(kyS l left last).good=true:=by simp[kyS,Qad.good,belT,belH,Qam,AV.bel]
theorem kyB_good(l:Nat)(left:OpM)(p:Qae×List Int):(kyB l left p).good=true:=by simp[kyB,Qad.good,belT,belH,belL,Qam,AV.bel]
theorem Qamv:Qkj Tryz.prog (tab []):=Qaaq [] (by simp)
theorem keys_iter(op:OpM):IterG Tryz.prog 154 [.ref [.mp ktP (op.map Qbc)]] (givK op):=by
 refine it_fnG Tryz.func154 rfl rfl (by simp) ?_;intro l J base ok0 hAb hY a w hIt;have HV:=Qvp Qamv;obtain⟨R,hR⟩: ∃R,R=(fun (e:Exit) (a:Act) (w:World)=> ∃i,(givK op).fin i/\itQ J base ok0 Tryz.f154.ntmps i (fun e _=>e= .normal\/e= .ret) e a w):=⟨_,rfl⟩;rw[<-hR];simp only[Tryz.f154,Option.getD] at hIt⊢;refine Qkw Qaq HV hAb (by decide) (by decide) hIt (Qx:=endS (kyS l op none)) ?_ (fun s a w h1 h2=> ?_) (fun _ _ _ _ h=>h.elim) (fun _ _ _ h=>h.elim)
 .simp(maxSteps:=9^9)(disch:=omega)only[ZZ,simprocAttr,rch,endS,kyS,entry,sub,ktP]
 have h3:=Qdd h2 h1 (Qal7 _ _ _) hAb;clear h1 h2 hIt;refine wpIn_block (wpIn_loop_ghost (fun m a w=> ∃(i:OpM×List Qae) (last:Option (D×D)),m=i.1.length/\It J base ok0 14 i (kyS l i.1 last) a w) op.length ⟨(op,[]),none,rfl,h3⟩ ?_);clear h3;rintro m a w ⟨⟨left,giv⟩,last,hm,h⟩;simp only at hm h;refine Qkw Qaq HV hAb (by decide) (by decide) h (Qx:=fun e s=>match e with
  | .normal=>(left=[]/\sub s ⟨(7,.im (.bool false))::(kyS l left last).tm,(kyS l left last).h,1⟩)\/ ∃(k:Nat) (p:Qae×List Int),left[k]? =some p/\sub s ⟨(7,.im (.bool true))::(kyS l left last).tm,(kyS l (left.eraseIdx k) (some (Qbc p))).h,1⟩
  |_=>False) ?_ (fun s a w h1 h2=> ?_) (fun _ _ _ _ h=>h.elim) (fun _ _ _ h=>h.elim)
 .simp(maxSteps:=9^9)(disch:=omega)only[ZZ,simprocAttr,rch,kyS,sub,Qwf];refine⟨fun h=> .inl (by simpa using h),fun i p hp=> ?_⟩;rw[ZaQ] at hp;obtain⟨q,hq,rfl⟩:=Zaw.1 hp;exact .inr ⟨i,q,hq,rfl⟩
 simp only at h1;rcases h1 with ⟨hl,hs⟩|⟨k,p,hk,hs⟩
 .have h3:=Qdd h2 hs (by simp[kyS,Qad.good,belT,belH,Qam,AV.bel]) hAb;refine Qkw Qaq HV hAb (by decide) (by decide) h3 (Qx:=endC (kyS l left last) False True 0) ?_ (fun s a w h1 h2=>h1.1.elim) (fun id s a w h1 h2=> ?_) (fun _ _ _ h=>h.elim)
  .simp(maxSteps:=9^9)(disch:=omega)only[ZZ,simprocAttr,rch,endC,kyS,sub]
  .obtain⟨rfl,_,h1⟩:=h1;simp only[Exit.then,Exit.inBlock,Zbd,hR,itQ];exact⟨(left,giv),hl,s,.inl trivial,h2⟩
 have h3:=Qdd h2 hs (by simp[kyS,Qad.good,belT,belH,Qam,AV.bel]) hAb;clear h2 h hs;refine Qkw Qaq HV hAb (by decide) (by decide) h3 (Qx:=endC (kyS l (left.eraseIdx k) (some (Qbc p))) True False 0) ?_ (fun s a w h1 h2=> ?_) (fun id s a w h1 h2=>h1.2.1.elim) (fun _ _ _ h=>h.elim)
 .simp(maxSteps:=9^9)(disch:=omega)only[ZZ,simprocAttr,rch,endC,kyS,sub]
 have h:=Qdd h2 h1.2 (Qal7 _ _ _) hAb;clear h1 h2 h3;refine wpIn_block ?_;refine Qkw Qaq HV hAb (by decide) (by decide) h (Qx:=endS (kyB l (left.eraseIdx k) p)) ?_ (fun s a w h1 h2=> ?_) (fun _ _ _ _ h=>h.elim) (fun _ _ _ h=>h.elim)
 .simp(maxSteps:=9^9)(disch:=omega)only[ZZ,simprocAttr,rch,endS,kyS,kyB,sub,Qbc,Qae.c]
  trace_state
 have h3:=Qdd h2 h1 (kyB_good _ _ _) hAb;clear h1 h2 h;have hkl:=(Zaj.1 hk).1;obtain⟨F,hF⟩: ∃F:AV,F= .im (.fn (1000000000+l) [] []):=⟨_,rfl⟩;obtain⟨E,hE⟩: ∃E:Ent,E=(true,.iter (some (Qbc p)) ((left.eraseIdx k).map Qbc)):=⟨_,rfl⟩;refine wpIn_seq (it_regU HV hAb hY (i:=(left,giv)) (j:=(left.eraseIdx k,giv++[p.1])) (x:=[.agg (Qae.c p.1)]) 2 (by decide) (by decide) (by decide) (by decide)
  (⟨[(11,.im (.agg (Qae.c p.1))),(10,F),(5,.it 0),(0,F)],[(0,E)],2⟩:Qad) (s2:=⟨[(13,.im (.bool false)),(5,.it 0),(0,F)],[(0,E)],2⟩) rfl rfl rfl rfl (by rw[hF];rfl) rfl (by rfl) ⟨k,p,hk,rfl,rfl⟩ ?_ (by decide) (by rw[hE,hF];simp[Qad.good,belT,belH,Qam,AV.bel]) (by rw[hE,hF];simp[Qad.good,belT,belH,Qam,AV.bel]) h3 ?_ ?_ (fun a w h4=> ?_))
 .exact fun n e he=>Qaa1 _ (by rw[hE];rfl) n e he
 .simp(maxSteps:=9^9)(disch:=omega)only[ZZ,simprocAttr,rch,kyB,sub,hE,hF,Qae.c,Qgy,Qx6,List.take]
 .simp(maxSteps:=9^9)(disch:=omega)only[ZZ,simprocAttr,rch,kyB,sub,hE,hF,Qae.c,Qgy,Qx6,List.drop]
 simp only[Exit.then];refine Qs5 Qaq HV hAb (by decide) (by decide) h4 (Qx:=endS (kyS l (left.eraseIdx k) (some (Qbc p)))) ?_ (fun s a w h1 h2=> ?_) (fun _ _ _ _ h=>h.elim) (fun _ _ _ h=>h.elim)
 .simp(maxSteps:=9^9)(disch:=omega)only[ZZ,simprocAttr,rch,endS,kyS,sub,hE,hF]
 simp only[Exit.inBlock,Exit.then];exact⟨(left.eraseIdx k).length,by rw[ZeP,Zam hkl];omega,(left.eraseIdx k,giv++[p.1]),_,rfl,Qdd h2 h1 (Qal7 _ _ _) hAb⟩
end Go.Ae
namespace Go.Ae
open Go.Proofs Go.RowKit Go.Lib Go.Sort
theorem Qaly{A:Type}: ∀(l:List A) (k:Nat) (x:A),l[k]? =some x->l.Perm (x::l.eraseIdx k)
 |[],k,x,h=>by simp at h
 |y::r,0,x,h=>by
  simp only[ZaN,Zab] at h;subst h;exact Zdl _
 |y::r,k+1,x,h=>by
  rw[ZaS] at h;rw[ZcJ];exact ((Qaly r k x h).cons y).trans (List.Perm.swap x y _)
def appQ(op:OpM)(s:Qad)(xs:List AV):Prop:= ∃l:List Qae,l.Perm (op.map Prod.fst)/\ ∃m,xs=[.own m]/\hget s.h m=some (true,.arr 58 2 (l.map Qae.c))
def kyF(op:OpM):D:= .fn 154 [] [.ref [.mp ktP (op.map Qbc)]]
theorem appSeq{op:OpM}(hb:op.length<=1000000){C:Ctx}{S:Env}{vs:Array Value}{RR:Ending->World->Prop}(hW:Wf C S)(hps:PKL S [.val (.sl true 0 []),.val (kyF op)] vs.toList)
 (hfin: ∀(v:Value) (C0:Ctx) (S1:Env) (l:List Qae) (m:Nat),C0.w=S.w->C0.ok=S.ok->(∀b,¬C0.M b)->Wf C0 S1->l.Perm (op.map Prod.fst)->S1.h m=some (true,.arr 58 2 (l.map Qae.c))->conc S1 (.own m) v->RR (.returned v) S1.w):
 Calls Tryz.prog 180 vs S.w RR:=by
 have HV:=Qvp Qamv;refine Qal9 Tryz.func180 rfl (ps:=[.val (.sl true 0 []),.val (kyF op)]) (show 2<=13 by decide) (Q:=appQ op) ?_ hW hps ?_;rotate_left
 .rintro v C0 S1 s xs g1 g2 g3 g4 g5 ⟨l,hl,m,rfl,hm⟩ g7;exact hfin v C0 S1 l m g1 g2 g3 g4 hl ((g5 m).trans hm) g7
 intro C0 a w hw hn0 hc hdf;have hds:C0.ds=[]:=by obtain⟨S0,_,h⟩:=hc;rw[<-h.defers];exact hdf
 simp only[Tryz.f180,Option.getD] at hc⊢;refine Qxh Qaq HV (by decide) (by decide) (s':=⟨[(2,.ptr 0 0),(1,.im (kyF op))],[(0,(true,.cells 158 [.im (.sl true 0 [])]))],2⟩) hc ?_ ?_ (by rw[hn0];exact ZaP _) (fun a w hc=> ?_)
 .simp(maxSteps:=9^9)(disch:=omega)only[ZZ,simprocAttr,rch,endS,sub,Qcq,Qc5,cnum,entry]
 .simp[Qad.good,belT,belH,belL,Qam,AV.bel]
 refine wpIn_seq ?_;refine Qxh Qaq HV (by decide) (by decide) (s':=⟨[(6,.im (kyF op)),(2,.ptr 0 0)],[(0,(true,.cells 158 [.im (.sl true 0 [])]))],2⟩) hc ?_ ?_ (by rw[hn0];exact ZaP _) (fun a w hc=> ?_)
 .simp(maxSteps:=9^9)(disch:=omega)only[ZZ,simprocAttr,rch,endS,sub]
 .simp[Qad.good,belT,belH,belL,Qam,AV.bel]
 refine wpIn_block (wpIn_mono (Qame Qaq HV hc (gf:=154) (capt:=[.ref [.mp ktP (op.map Qbc)]]) (X:=givK op) (Qh7 (by kernel_rfl)) (keys_iter op)
  (fun (i:OpM×List Qae)=>(i.2++i.1.map Prod.fst).Perm (op.map Prod.fst)) (Zdl _) ?_ (by decide) (by decide) (by decide) (by decide) ?_ (by decide)
  (tm0:=[(6,.im (kyF op)),(2,.ptr 0 0)]) (hs:=fun (i:OpM×List Qae)=>[(0,(true,.cells 158 [.own 2])),(2,(true,.arr 58 2 (i.2.map Qae.c)))]) (nx:=3) ⟨[(2,none)],?_⟩ rfl (by simp) ?_ ?_ ?_ ?_) ?_)
 .rintro⟨left,giv⟩ x j hok ⟨k,p,hk,rfl,rfl⟩;simp only at hk hok⊢;have h1:(left.map Prod.fst).Perm (p.1::(left.eraseIdx k).map Prod.fst):=by
   exact (Qaly left k p hk).map Prod.fst
  refine List.Perm.trans ?_ hok;rw[Zbv];exact (h1.append_left giv).symm
 .rintro⟨left,giv⟩ x j hok ⟨k,p,hk,rfl,rfl⟩;rfl
 .simp only[subP];simp(maxSteps:=9^9)(disch:=omega)only[ZZ,simprocAttr,rch,Zag,Zaf,ZaR];exact (trivial:nilE true (.arr 0 0 []))
 .simp[belT,AV.bel]
 .rintro⟨left,giv⟩ hok;simp[Qad.good,belT,belH,belL,Qam,AV.bel]
 .intro i o e he hv;rw[Qaa1 _ (by rfl) o e he] at hv;cases hv
 .rintro⟨left,giv⟩ x j hok ⟨k,p,hk,rfl,rfl⟩;have hgl:giv.length<=op.length:=by
   have:=hok.length_eq
   simp at this;omega
  simp(maxSteps:=9^9)(disch:=omega)only[ZZ,simprocAttr,rch,asgQ,rndQ,parT,sub,Qal];refine⟨fun row hrow=>by rw[Zaq] at hrow;subst hrow;rfl,by omega,[(2,some 5)],?_⟩;simp only[subP];simp(maxSteps:=9^9)(disch:=omega)only[ZZ,simprocAttr,rch,Zag,Zaf,Zbz]
 .rintro e a' w' ⟨⟨left,giv⟩,hok,hfi,hq⟩;simp only[givK] at hfi;subst hfi;simp only[ZaR,ZaI] at hok;cases e<;>simp only[rngQ] at hq;obtain⟨C2,S2,Dk,rfl,hE,hback,ht,hd,hD1,hD2,hD3,hD4,hD5⟩:=hq;simp only[Exit.inBlock,Exit.then];have hd0:a.defers=[]:=by obtain⟨S0,_,h⟩:=hc;rw[h.defers];exact hds
  rw[hd0] at hd;have hm: ∀a'':Act,a''.defers=C2.ds->Qrj C0 C2 a''.defers:=fun a'' h=> .inr ⟨Dk,by rw[h,<-hE.defers,hd],hD1,hD2,hD3,hD4,hD5⟩
  refine wpIn_mono (Qgd (ro:=none) Qaq HV _ (by decide) (by decide) (retXQ Tryz.prog [ResultVar.tmp 4] (appQ op)) _ a' S2.w ?_ ⟨S2,rfl,hE⟩) ?_
  .simp(maxSteps:=9^9)(disch:=omega)only[ZZ,simprocAttr,rch,retXQ,retX,appQ];exact⟨_,rfl,giv,hok,2,rfl,rfl⟩
  .intro e a'' w'' hq;cases e<;>simp only[toQ] at hq<;>simp only[rngP]
   .obtain⟨s',hs',hcon⟩:=hq;exact⟨s',C2,hs',hcon,hback,hm a'' (by obtain⟨S0,_,h⟩:=hcon;exact h.defers)⟩
   .obtain⟨s',hs',hcon⟩:=hq;exact hs'.elim
   .obtain⟨s',hs',hcon⟩:=hq;exact⟨s',C2,hs',hcon,hback,hm a'' (by obtain⟨S0,_,h⟩:=hcon;exact h.defers)⟩
theorem srtQ_dom(a:List Qae)(j:Nat):domB (srtQ.H0 a) j=true↔j<1:=by
 simp only[domB,srtQ.H0,hget];by_cases hj:j=0
 .subst hj;simp
 .have:(0==j)=false:=by simpa using fun h=>hj h.symm
  rw[this];simp;omega
def ColQ(op:OpM)(S:Env)(v:Value)(w:World):Prop:= ∃(C0:Ctx) (S1:Env) (l:List Qae) (m:Nat),S1.w=w/\C0.w=S.w/\C0.ok=S.ok/\(∀b,¬C0.M b)/\Wf C0 S1/\l.Perm (op.map Prod.fst)/\S1.h m=some (true,.arr 58 2 (l.map Qae.c))/\conc S1 (.own m) v
theorem collect{op:OpM}(hb:op.length<=1000000){C:Ctx}{S:Env}{v1:Value}(hW:Wf C S)(hv:PKL S [.val (kyF op)] [v1]):
 Calls Tryz.prog 152 #[v1] S.w (fun e w=> ∃v,e= .returned v/\ColQ op S v w):=by
 have hap:Calls Tryz.prog 180 #[.slice none 0 0,v1] S.w (fun e w=> ∃v,e= .returned v/\ColQ op S v w):=by
  refine appSeq hb hW ⟨_,_,rfl,?_,hv⟩ (fun v C0 S1 l m g1 g2 g3 g4 g5 g6 g7=>⟨v,rfl,C0,S1,l,m,rfl,g1,g2,g3,g4,g5,g6,g7⟩);exact Qami S (.slice none 0 0)
 go_enter Tryz.func152,Tryz.ntmps152
 go_wp2_with (go_at_call 180;refine hap.mono ?_;rintro e w' ⟨v,rfl,h⟩)
 go_ret
 exact⟨v,rfl,h⟩
theorem sort_call{C0:Ctx}{S1:Env}{l:List Qae}{m:Nat}{v v2:Value}{R:Ending->World->Prop}(hW:Wf C0 S1)(hd:l.Nodup)(hm:S1.h m=some (true,.arr 58 2 (l.map Qae.c)))(hv:conc S1 (.own m) v)(hv2:conc S1 (.im (.fn 112 [] [])) v2)
 (hfin: ∀u S',Wf C0 S'->S'.h m=some (true,.arr 58 2 ((Qakz l).map Qae.c))->conc S' (.own m) v->R (.returned u) S'.w):
 Calls Tryz.prog 153 #[v,v2] S1.w R:=by
 have hrow:srtQ.row [.own m,.im (.fn 112 [] [])] S1.h (m+1) (fun r E=>E={use:=[m],kill:=[m],new:=[(m,(true,.arr 58 2 ((Qakz l).map Qae.c)))],cnt:=0}):=by
  refine orow.os l [m] hd (srtQ_dom l) rfl (by simp[Qxw]) ⟨rfl,?_⟩ ?_
  .simp only[srtQ.H0,Qer,sgx,osn];exact⟨hm,trivial⟩
  .rfl
 obtain⟨_,r,E,hT,rfl⟩:=srtQ.ok _ _ _ _ hrow;have hnf: ∀n,¬Fr (m+1) 0 n:=fun n h=>by have:=h.1;have:=h.2;omega
 refine hT C0 S1 #[v,v2] R hW (fun n _=>rfl) (fun n hn=>(hnf n hn).elim) (fun n e _ k _ hk=>hnf k hk) ⟨v,[v2],rfl,hv,v2,[],rfl,hv2,rfl⟩ ?_;intro u S' hW' hh hp _;refine hfin u S' hW' ?_ (Qbt hp _ _ (fun o _ hf=>hnf o hf) hv);rw[hh];simp[Eff.appf,hget]
def sorF.ar:List PK->Option OpM
 |[.val (.fn 154 [] [.ref [.mp ⟨true,[.int .i64,.int .i64]⟩ es]]),.val (.fn 112 [] [])]=>decM (vAgg Qae.d) (vSl intD) es
 |_=>none
def sorF.ae(op:OpM):List PK:=[.val (kyF op),.val (.fn 112 [] [])]
theorem sorF.le: ∀ps a,sorF.ar ps=some a->LeKL ps (sorF.ae a):=by
 intro ps a h;unfold sorF.ar at h;split at h
 .exact⟨Qos ⟨Qil (LeS.leP ⟨le_mp (Qxb Qwu (Qe8 Qb3 (fun _=>rfl)) _ _ h),trivial⟩),trivial⟩,LeK.refl _,trivial⟩
 .cases h
def sorF.fv(op:OpM):List Qae:=Qakz (op.map Prod.fst)
def sorF.row:Row:=Qfi sorF.ar (fun op=>(op.map Prod.fst).Nodup/\op.length<=1000000) (fun op=> .sl false 2 ((sorF.fv op).map Qae.c))
def sorF.q:=vqF sorF.row rfl
theorem sorF.ok:Qas Tryz.prog 110 sorF.row:=by
 refine Quy (by kernel_rfl) sorF.le (rc:=vSl Qae.d) (re:=fun b=> .sl false 2 (b.map Qae.c)) (Qe8 Qae.d_le (fun _=>rfl)) (f:=sorF.fv) (fun op hpre C S vs RR hW hps hfin=> ?_);obtain⟨hnd,hb⟩:=hpre;simp only[sorF.ae,PKL] at hps;obtain⟨v1,r1,hvs,hv1,v2,r2,rfl,hv2,rfl⟩:=hps;have hvs':vs= #[v1,v2]:=by apply Zdj;simpa using hvs
 subst hvs';have hcol:=collect hb hW (v1:=v1) ⟨v1,[],rfl,hv1,rfl⟩
 go_enter Tryz.func110,Tryz.ntmps110
 have hv2': ∀S1:Env,conc S1 (.im (.fn 112 [] [])) v2:=fun S1=>by simpa only[PKc,conc,rd,rdl] using hv2
 have hso: ∀(C0:Ctx) (S1:Env) (l:List Qae) (m:Nat) (v:Value),Wf C0 S1->l.Perm (op.map Prod.fst)->S1.h m=some (true,.arr 58 2 (l.map Qae.c))->conc S1 (.own m) v->
  Calls Tryz.prog 153 #[v,v2] S1.w (fun e w=> ∃u S',e= .returned u/\S'.w=w/\Wf C0 S'/\S'.h m=some (true,.arr 58 2 ((sorF.fv op).map Qae.c))/\conc S' (.own m) v):=by
  intro C0 S1 l m v g4 g5 g6 g7;refine sort_call g4 (g5.nodup_iff.2 hnd) g6 g7 (hv2' S1) (fun u S' h1 h2 h3=>⟨u,S',rfl,rfl,h1,?_,h3⟩)
  have:Qakz l=Qakz (op.map Prod.fst):=Qal3 (Qakg _) (Qakg _) (fun q=>by rw[Qaka,Qaka];exact g5.mem_iff)
  rw[h2,this];rfl
 go_wp2_with (first
  |(go_at_call 152;refine hcol.mono ?_;rintro e w' ⟨v,rfl,C0,S1,l,m,rfl,g1,g2,g3,g4,g5,g6,g7⟩)
  |(go_at_call 153;refine (hso C0 S1 l m v g4 g5 g6 g7).mono ?_;rintro e w' ⟨u,S',rfl,rfl,h1,h2,h3⟩))
 show RR (.returned v) S'.w;obtain⟨d,rfl,hd2⟩:=Qzf (K:=fun d=>d= .sl false 2 ((sorF.fv op).map Qae.c)) g3 h1 (x:= .own m) (by
  simp only[frP,h2,frO,frA];exact⟨by intro row hr;obtain⟨p,_,rfl⟩:=ZaJ.1 hr;rfl,trivial⟩) h3
 exact hfin v C0 S' _ g1 g2 g3 h1 (by simp only[decD,vSl,Qae.d_R]) hd2
def keyC.ca(_:OpM):List AV:=[.mp 0]
def keyC.H0(a:OpM):Qan:=[(0,(true,.map ktP (a.map Qbc)))]
def keyC.H1(_:OpM):Qan:=[(1,(true,.cells 173 [.mp 0]))]
def keyC.r0(_:OpM):AV:= .clo 154 [] [.ptr 1 0]
def keyC.row:Row:=orow keyC.ca keyC.H0 1 (fun _=>True) (fun _=>false) keyC.r0 keyC.H1 1
theorem keyC.ok:Qas Tryz.prog 111 keyC.row:=by
 refine Qf1 Qaq tN Tryz.func111 rfl (by kernel_rfl) (by kernel_rfl) (exB:=fun j=>j==1) (R:=fun a r=>r=keyC.r0 a) (n:=1) (fun _=>rfl) (by decide)
  (fun a=>by simp[keyC.ca,keyC.H0,keyC.H1,keyC.r0,belL,AV.bel]) (fun a=>by simp[keyC.ca,keyC.H0,keyC.H1,keyC.r0,belH,belL,AV.bel]) (fun a=>by simp[keyC.ca,keyC.H0,keyC.H1,keyC.r0,Qam])
  (fun a=>by simp[Qc2,keyC.ca,keyC.H0,keyC.H1,keyC.r0,AObj.nms,nmsL,AV.nms,domB,hget]) (fun a p hp=> ?_) (fun a r h=>by subst h;exact LeV.refl _) ?_
 rotate_left
 intro a hpre;simp only[Tryz.f111,Option.getD,keyC.ca,keyC.H0,keyC.H1,keyC.r0];simp(maxSteps:=9^9)(disch:=omega)only[ZZ,simprocAttr,rch,ORB,keyC.ca,keyC.H0,keyC.H1,keyC.r0];simp[keyC.H1] at hp;subst hp;exact .inr ⟨by omega,by omega,rfl,rfl⟩
end Go.Ae
namespace Go.Ae
open Go.Proofs
theorem lkG_mem{β:Type}{v:β}{p:Qae}: ∀{t:List (Qae×β)},lkP t p=some v->(p,v)∈t
 |(q,w)::r,h=>by
  simp only[lkP] at h;split at h
  .rename_i e;obtain rfl:=Zaa h;rw[e];exact Zas ..
  .exact Zar _ (lkG_mem h)
theorem Qamo{β:Type}{p:Qae}: ∀{t:List (Qae×β)},lkP t p=none->p∉t.map Prod.fst
 |[],_=>by simp
 |(q,w)::r,h=>by
  simp only[lkP] at h;split at h
  .cases h
  .rename_i e;simp only[Zan,Zav,Zfc];exact⟨e,Qamo h⟩
theorem keyC_dom(a:OpM)(j:Nat):domB (keyC.H0 a) j=true↔j<1:=by
 simp only[domB,keyC.H0,hget];by_cases h0:j=0
 .subst h0;simp
 .have e0:(0==j)=false:=by simp;omega
  simp[e0];omega
def lisC.r0(a:Cry):AV:= .im (.sl false 3 ((Qalo a.Op).map Opt.c))
def lisC.row:Row:=orow asmC.ca cryH 3 (fun a=>(a.Op.map Prod.fst).Nodup/\a.Op.length<=1000000/\ ∀q∈a.Op,q.2.length<=1000) (fun _=>false) lisC.r0 (fun _=>[]) 20
def Ybb:=J @sorF.q @sorF.fv.eq_1
theorem lisC.ok:Qas Tryz.prog 73 lisC.row:=by
 refine Qnh Qaq (tC keyC.ok (tC sorF.ok tN)) Tryz.func73 rfl (by kernel_rfl) (by kernel_rfl) (exB:=fun _=>false) (R:=fun a r=>r=lisC.r0 a) (n:=1) (fun _=>rfl) (by decide)
  (fun a=>by simp[asmC.ca,cryH,Qbk,belL,AV.bel]) (fun a=>by simp[asmC.ca,cryH,Qbk,belH,belL,AV.bel]) (fun a=>by simp[asmC.ca,cryH,Qbk,Qam])
  (fun a=>by simp[Qc2,asmC.ca,cryH,Qbk,AObj.nms,nmsL,AV.nms,domB,hget]) (fun a p hp=> ?_) (fun a r h=>by subst h;exact LeV.refl _) ?_
 rotate_left
 intro a hpre;simp only[Tryz.f73,Option.getD,asmC.ca,cryH,Qbk];simp(maxSteps:=9^9)(disch:=omega)only[ZZ,simprocAttr,rch,Ybb,sorF.ar,Qc7,ORB,asmC.ca,cryH,Qbk];obtain⟨hp1,hp2,hp3⟩:=hpre;refine orow.os a.Op [2] trivial (fun j=>keyC_dom _ j) rfl rfl ?_ ?_
 .simp(maxSteps:=9^9)(disch:=omega)only[ZZ,simprocAttr,rch,Ybb,sorF.ar,Qc7,ORB,asmC.ca,cryH,Qbk,keyC.ca,keyC.H0,Zbd,Zbk];rfl
 simp(maxSteps:=9^9)(disch:=omega)only[ZZ,simprocAttr,rch,Ybb,sorF.ar,Qc7,ORB,asmC.ca,cryH,Qbk,keyC.H1,keyC.r0,sub];obtain⟨L,hL⟩: ∃L,L=Qakz (a.Op.map Prod.fst):=⟨_,rfl⟩;obtain⟨g,hg⟩: ∃g:Qae->List Int,g=fun p=>(lkP a.Op p).getD []:=⟨_,rfl⟩
 have hop:Qalo a.Op=Qajs g L:=by rw[hg,hL];rfl
 refine⟨⟨hp1,hp2⟩,?_⟩;simp only[<-hL];intro hLl;refine Qay.ren ⟨{i:Nat//i<=L.length},fun i=>⟨[(15,.im (.int .i64 i.1)),(14,.im (.int .i64 L.length)),(13,.im (.sl false 2 (L.map Qae.c))),(3,.own 6),(0,.ptr 0 0)],[(6,(true,.arr 72 3 ((Qakh g L i.1).map Opt.c))),(0,(true,.cells 175 (Qbk a.Sys))),(1,(true,.map ⟨true,[.int .i64,.int .i64]⟩ (a.Tl.map Qbe))),(2,(true,.map ⟨true,[.int .i64,.int .i64]⟩ (a.Op.map Qbc)))],7⟩,fun i=>L.length - i.1,fun i=>⟨by simp[Qad.good,belT,belH,Qam,AV.bel,belL,Qbk],by simp⟩,⟨⟨0,ZaP _⟩,[(6,some 4)],?_⟩,fun i=> ?_⟩
 .simp only[subP,Qbk];simp(maxSteps:=9^9)(disch:=omega)only[ZZ,simprocAttr,rch,Ybb,sorF.ar,Qc7,ORB,asmC.ca,cryH,Qbk,Zag,Zaf,Qakh,Zbm,Qajs,Zdi,ZaR]
  try simp
 obtain⟨i,hi⟩:=i;simp only[Qbk];simp(maxSteps:=9^9)(disch:=omega)only[ZZ,simprocAttr,rch,Ybb,sorF.ar,Qc7,ORB,asmC.ca,cryH,Qbk,sub,Qal,lkVC_ps];have hgl: ∀p,(g p).length<=1000:=fun p=>by
  rw[hg];simp only;cases hq:lkP a.Op p with
  |none=>simp
  |some v=>exact hp3 _ (lkG_mem hq)
 have hLn:L.length<=1000000:=by rw[hL,(Qall hp1).length_eq,Zbs];exact hp2
 have hol:(Qakh g L i).length<=1000000*1000:=by
  have:=Qakc hgl (L.take i)
  have h9:(L.take i).length*1000<=1000000*1000:=Zba _ (by simp;omega);simp only[Qakh];omega
 refine⟨fun hi2=>⟨hi2,fun p hp=>⟨fun v hv=> ?_,fun hv=> ?_⟩⟩,fun hi2=> ?_⟩
 .have hgv:g p=v:=by rw[hg];simp only[hv,Zac]
  have hgp:=hgl p;rw[hgv] at hgp;refine Qay.ren ⟨{k:Nat//k<=v.length},fun k=>⟨[(26,.im (.int .i64 k.1)),(25,.im (.int .i64 v.length)),(24,.im (.sl false 1 (v.map intC))),(5,.ptr 7 0),(15,.im (.int .i64 i)),(14,.im (.int .i64 L.length)),(13,.im (.sl false 2 (L.map Qae.c))),(3,.own 8),(0,.ptr 0 0)],[(8,(true,.arr 72 3 ((Qakh g L i++(v.take k.1).map (mkO2 p)).map Opt.c))),(7,(true,.cells 58 ((Qae.c p).map .im))),(0,(true,.cells 175 (Qbk a.Sys))),(1,(true,.map ⟨true,[.int .i64,.int .i64]⟩ (a.Tl.map Qbe))),(2,(true,.map ⟨true,[.int .i64,.int .i64]⟩ (a.Op.map Qbc)))],9⟩,fun k=>v.length - k.1,fun k=>⟨by simp[Qad.good,belT,belH,Qam,AV.bel,belL,Qbk,Qae.c],by simp⟩,⟨⟨0,ZaP _⟩,[(8,some 6)],?_⟩,fun k=> ?_⟩
  .simp only[subP,Qbk];simp(maxSteps:=9^9)(disch:=omega)only[ZZ,simprocAttr,rch,Ybb,sorF.ar,Qc7,ORB,asmC.ca,cryH,Qbk,Zag,Zaf,Zbm,ZaR,ZaI]
   try simp
  obtain⟨k,hk⟩:=k;simp only[Qbk];simp(maxSteps:=9^9)(disch:=omega)only[ZZ,simprocAttr,rch,Ybb,sorF.ar,Qc7,ORB,asmC.ca,cryH,Qbk,sub,Qal,Qag,Qac,Qaf,allD,D.one,Zbg,Zch,Zdb,ZaC];refine⟨fun hk2=>⟨hk2,fun x hx=>⟨?_,⟨k+1,by omega⟩,[(8,some 10)],by simp only;omega,?_⟩⟩,fun hk2=>⟨⟨i+1,by omega⟩,[(6,some 8)],by simp only;omega,?_⟩⟩
  .have:(v.take k).length<=1000:=by simp;omega
   omega
  .simp only[subP];simp(maxSteps:=9^9)(disch:=omega)only[ZZ,simprocAttr,rch,Ybb,sorF.ar,Qc7,ORB,asmC.ca,cryH,Qbk,Zag,Zaf];refine⟨by rw[Qak (by omega) (by omega)];rfl,?_⟩;rw[Qwe hx];simp[mkO2,Opt.c,Qae.c]
  .obtain rfl:k=v.length:=by omega
   simp only[subP];simp(maxSteps:=9^9)(disch:=omega)only[ZZ,simprocAttr,rch,Ybb,sorF.ar,Qc7,ORB,asmC.ca,cryH,Qbk,Zag,Zaf];refine⟨by rw[Qak (by omega) (by omega)];rfl,?_⟩;rw[Qalm hp,Zbu,hgv]
 .exfalso
  have:p∈L:=Zad hp
  rw[hL,Qaka] at this;exact Qamo hv this
 .obtain rfl:i=L.length:=by omega
  have hA:Qakh g L L.length=Qalo a.Op:=by rw[Qakh,Zbu,hop]
  rw[hA];refine⟨[6],[],⟨[(2,.im (.sl false 3 ((Qalo a.Op).map Opt.c)))],[(0,(true,.cells 175 (Qbk a.Sys))),(1,(true,.map ⟨true,[.int .i64,.int .i64]⟩ (a.Tl.map Qbe))),(2,(true,.map ⟨true,[.int .i64,.int .i64]⟩ (a.Op.map Qbc)))],3⟩,?_,by simp[Qad.good,belT,belH,Qam,AV.bel,belL,Qbk],by simp,?_⟩
  .simp only[subP,Qbk];simp(maxSteps:=9^9)(disch:=omega)only[ZZ,simprocAttr,rch,Ybb,sorF.ar,Qc7,ORB,asmC.ca,cryH,Qbk,Zag,Zaf]
  .simp only[Qbk];simp(maxSteps:=9^9)(disch:=omega)only[ZZ,simprocAttr,rch,Ybb,sorF.ar,Qc7,ORB,asmC.ca,cryH,Qbk,lisC.r0]
 simp at hp
def sptC(x:List Qae):List D:=[.sl false 2 (x.map Qae.c)]
def sptD:List D->Option (List Qae)
 |[.sl _ _ rows]=>decR Qae.d rows
 |_=>none
theorem sptD_le: ∀ds x,sptD ds=some x->LeS ds (sptC x):=by
 intro ds x h;unfold sptD at h;split at h
 .exact⟨Qbf (Qa2 Qae.d_le _ _ h) (by simp[Qae.c]),trivial⟩
 .cases h
theorem spt_t(x:List Qae):sptD (List.take 1 (sptC x))=some x:=Qae.d_R x
theorem spt_l(x:List Qae):(1<=(sptC x).length)=True:=ZeU (Zal 1)
theorem spt_h(x:List Qae):hdD (List.take 1 (sptC x))= .sl false 2 (x.map Qae.c):=rfl
def Qana(l:List Qae)(x:Qab):Bool:=l.contains x.At
def remP(l:List Qae)(ts:List Qab):List Qab:=ts.filter fun x=> !Qana l x
theorem rem_len(l:List Qae)(ts:List Qab):(remP l ts).length<=ts.length:=Zds _ _
theorem Qano(l:List Qae){ts:List Qab}{k:Nat}{x:Qab}(h:ts[k]? =some x):remP l (ts.take (k+1))=remP l (ts.take k)++if Qana l x=false then [x] else []:=by
 rw[Zbx,h,Zdq,remP,remP,Zdp];congr 1;cases hg:Qana l x<;>simp[hg]
theorem Qans{A:Type}{p:A->Bool}: ∀(l:List A) (o i:Nat),Qaw p o l=((o+i:Nat):Int)-> ∀x∈l.take i,p x=false:=by
 intro l;induction l with
 |nil=>intro o i _ x hx;simp at hx
 |cons y r ih=>
  intro o i h x hx;cases i with
  |zero=>simp at hx
  |succ i=>
   simp only[Qaw] at h;split at h
   .omega
   .rename_i hy;rw[ZbI] at hx;rcases Zav.1 hx with rfl|hx
    .simpa using hy
    .exact ih (o+1) i (by rw[h];congr 1;omega) x hx
theorem rem_first{l:List Qae}{ts:List Qab}{i:Nat}{x:Qab}(h1:ts.find? (Qana l)=some x)(h2:Qaw (Qana l) 0 ts=(i:Int))(h3:ts[i]? =some x):remP l (ts.take (i+1))=ts.take i:=by
 have hw:Qana l x=true:=Zco h1;rw[Qano l h3,Zai (by rw[hw];simp),ZaI,remP,ZcO];intro y hy;rw[Qans (p:=Qana l) ts 0 i (by rw[h2];simp) y hy];rfl
theorem pt_and{p q:Qae}:(p.X=q.X/\p.Y=q.Y)↔p=q:=by
 obtain⟨a,b⟩:=p;obtain⟨c,d⟩:=q;simp
def idxP_.ar:List PK->Option ((List Qae)×Qae):=a2 (kS Qae.d) (kR Qae.d)
def idxP_.ae(a:(List Qae)×Qae):List PK:=[.val (.sl false 2 (a.1.map Qae.c)),.val (.agg (Qae.c a.2))]
def idxP_.fv(a:(List Qae)×Qae):Int:=(fun l p=>Qaw (fun y=>decide (p=y)) 0 l) (a.1) (a.2)
def idxP_.row:Row:=Qfi idxP_.ar (fun a=>True) (fun a=>(D.int .i64) (idxP_.fv a))
def idxP_.q:=vqF idxP_.row rfl
theorem idxP_.ok:Qas Tryz.prog 187 idxP_.row:=by
 refine Qbn Qaq tN Tryz.func187 rfl (by kernel_rfl) (by kernel_rfl) (ar:=idxP_.ar) (ae:=idxP_.ae) (Qaca (Qacb 2 Qae.d_le (fun _=>rfl)) (Qab8 Qae.d_le)) (n:=2) (fun _=>rfl) (by decide) (rc:=(vInt)) (re:=(D.int .i64)) (Qa3) (f:=idxP_.fv) ?_;intro a hpre;simp only[Tryz.f187,Option.getD];simp(maxSteps:=9^9)(disch:=omega)only[ZZ,simprocAttr,rch,idxP_.ae,idxP_.fv,ORC,D.sc,D.scs,scL,decD];intro hn;refine Qay.old ⟨{k:Nat//k<=a.1.length/\Qaw (fun y=>decide (a.2=y)) k (a.1.drop k)=Qaw (fun y=>decide (a.2=y)) 0 a.1},fun k=>⟨[(8,.im (.int .i64 k.1)),(7,.im (.int .i64 a.1.length)),(4,.im (.int .i64 0)),(0,.im (.sl false 2 (a.1.map Qae.c))),(1,.im (.agg [.int .i64 a.2.X,.int .i64 a.2.Y])),(3,.ptr 0 0)],[(0,(true,.cells 58 [.im (.int .i64 a.2.X),.im (.int .i64 a.2.Y)]))],1⟩,fun k=>a.1.length - k.1,fun k=>⟨by simp[Qad.good,belT,belH,Qam,AV.bel,belL],Zal _⟩,⟨⟨0,by simp⟩,by simp(maxSteps:=9^9)(disch:=omega)only[ZZ,simprocAttr,rch,idxP_.ae,idxP_.fv,ORC,D.sc,D.scs,scL,decD,sub]⟩,fun k=> ?_⟩;obtain⟨k,hk1,hk2⟩:=k;simp(maxSteps:=9^9)(disch:=omega)only[ZZ,simprocAttr,rch,idxP_.ae,idxP_.fv,ORC,D.sc,D.scs,scL,decD,sub,Qal];refine⟨fun hk=>⟨hk,fun x hx=> ?_⟩,fun hk=> ?_⟩
 .rw[Qd3 hx,Qaw] at hk2;refine⟨fun h=> ?_,fun h=>Qb6 hk hn ⟨by omega,by rw[<-hk2,Zai (by rw[Zap,<-pt_and];simpa using h)]⟩⟩;rw[Zam (by rw[Zap,<-pt_and];simpa using h)] at hk2;exact hk2
 .rw[Zau (by omega),Qaw] at hk2;exact hk2
def contP_.ar:List PK->Option ((List Qae)×Qae):=a2 (kS Qae.d) (kR Qae.d)
def contP_.ae(a:(List Qae)×Qae):List PK:=[.val (.sl false 2 (a.1.map Qae.c)),.val (.agg (Qae.c a.2))]
def contP_.fv(a:(List Qae)×Qae):Bool:=(fun l p=>l.contains p) (a.1) (a.2)
def contP_.row:Row:=Qfi contP_.ar (fun a=>True) (fun a=>(D.bool) (contP_.fv a))
def contP_.q:=vqF contP_.row rfl
theorem contP_.ok:Qas Tryz.prog 163 contP_.row:=by
 refine Qbn Qaq (tC idxP_.ok tN) Tryz.func163 rfl (by kernel_rfl) (by kernel_rfl) (ar:=contP_.ar) (ae:=contP_.ae) (Qaca (Qacb 2 Qae.d_le (fun _=>rfl)) (Qab8 Qae.d_le)) (n:=2) (fun _=>rfl) (by decide) (rc:=(Qa8)) (re:=(D.bool)) (Qat) (f:=contP_.fv) ?_;intro a hpre;simp only[Tryz.f163,Option.getD];simp(maxSteps:=9^9)(disch:=omega)only[ZZ,simprocAttr,rch,contP_.ae,contP_.fv,idxP_.q,idxP_.ar,idxP_.fv,ORC,D.sc,D.scs,scL,decD];rw[Zcu,Zap,Zbj];rcases Qyg (fun y=>decide (a.2=y)) a.1 0 with ⟨h,_⟩|⟨h1,h2⟩
 .rw[h,Zew];constructor
  .rintro⟨x,hx,he⟩
   have:a.2=x:=by simpa using he
   rw[this];exact hx
  .exact fun hx=>⟨_,hx,by simp⟩
 .rw[h2,h1];simp
def wo1.ar:List PK->Option (Qab×(List Qae)):=a2 (kR Qab.d) (kP sptD 1)
def wo1.ae(a:Qab×(List Qae)):List PK:=[.val (.agg (Qab.c a.1)),.ptr (sptC a.2)]
def wo1.fv(a:Qab×(List Qae)):Bool:=(fun x l=>Qana l x) (a.1) (a.2)
def wo1.row:Row:=Qfi wo1.ar (fun a=>True) (fun a=>(D.bool) (wo1.fv a))
def wo1.q:=vqF wo1.row rfl
theorem wo1.ok:Qas Tryz.prog 162 wo1.row:=by
 refine Qbn Qaq (tC contP_.ok tN) Tryz.func162 rfl (by kernel_rfl) (by kernel_rfl) (ar:=wo1.ar) (ae:=wo1.ae) (Qaca (Qab8 Qab.d_le) (Qacc 1 sptD_le)) (n:=2) (fun _=>rfl) (by decide) (rc:=(Qa8)) (re:=(D.bool)) (Qat) (f:=wo1.fv) ?_;intro a hpre;simp only[Tryz.f162,Option.getD];simp(maxSteps:=9^9)(disch:=omega)only[ZZ,simprocAttr,rch,wo1.ae,wo1.fv,contP_.q,contP_.ar,contP_.fv,ORC,D.sc,D.scs,scL,decD];simp(maxSteps:=9^9)(disch:=omega)only[ZZ,simprocAttr,rch,wo1.ae,wo1.fv,contP_.q,contP_.ar,contP_.fv,ORC,D.sc,D.scs,scL,decD,spt_t,spt_l,spt_h]
 try rfl
def IdxW.ar:List PK->Option ((List Qab)×((List Qae)))
 |[.val (.sl _ _ x0),.val (.fn 162 [] [.ref x1_0])]=>(decR Qab.d x0).bind fun y0=>(sptD (x1_0.take 1)).bind fun y1_0=>some (y0,y1_0)
 |_=>none
def IdxW.ae(a:(List Qab)×((List Qae))):List PK:=[.val (.sl false 3 (a.1.map Qab.c)),.val (.fn 162 [] [.ref (sptC a.2)])]
theorem IdxW.le: ∀ps a,IdxW.ar ps=some a->LeKL ps (IdxW.ae a):=by
 intro ps a h;unfold IdxW.ar at h;split at h
 .simp only[ZaH,Zab] at h;obtain⟨y0,h0,y1_0,h1_0,rfl⟩:=h;exact⟨Qbf (Qa2 Qab.d_le _ _ h0) (by simp only[ZaJ];rintro r ⟨y,_,rfl⟩;rfl),Qos ⟨Qil (LeP.trans_take (sptD_le _ _ h1_0)),trivial⟩,trivial⟩
 .cases h
def IdxW.fv(a:(List Qab)×((List Qae))):Int:=(fun l t=>Qaw (Qana t) 0 l) (a.1) (a.2)
def IdxW.row:Row:=Qfi IdxW.ar (fun a=>True) (fun a=>(D.int .i64) (IdxW.fv a))
def IdxW.q:=vqF IdxW.row rfl
theorem IdxW.ok:Qas Tryz.prog 186 IdxW.row:=by
 refine Qbn Qaq (tC wo1.ok tN) Tryz.func186 rfl (by kernel_rfl) (by kernel_rfl) (ar:=IdxW.ar) (ae:=IdxW.ae) IdxW.le (n:=2) (fun _=>rfl) (by decide) (rc:=(vInt)) (re:=(D.int .i64)) (Qa3) (f:=IdxW.fv) ?_;intro a hpre;simp only[Tryz.f186,Option.getD];simp(maxSteps:=9^9)(disch:=omega)only[ZZ,simprocAttr,rch,IdxW.ae,IdxW.fv,wo1.q,wo1.ar,wo1.fv,ORC,D.sc,D.scs,scL,decD];intro hn;refine Qay.old ⟨{k:Nat//k<=a.1.length/\Qaw (Qana a.2) k (a.1.drop k)=Qaw (Qana a.2) 0 a.1},fun k=>⟨[(8,.im (.int .i64 k.1)),(7,.im (.int .i64 a.1.length)),(6,.im (.sl false 3 (a.1.map Qab.c))),(4,.im (.int .i64 0)),(0,.im (.sl false 3 (a.1.map Qab.c))),(1,.im (.fn 162 [] [.ref (sptC a.2)]))],[],0⟩,fun k=>a.1.length - k.1,fun k=>⟨by simp[Qad.good,belT,belH,Qam,AV.bel,belL],Zal _⟩,⟨⟨0,by simp⟩,by simp(maxSteps:=9^9)(disch:=omega)only[ZZ,simprocAttr,rch,IdxW.ae,IdxW.fv,wo1.q,wo1.ar,wo1.fv,ORC,D.sc,D.scs,scL,decD,sub]⟩,fun k=> ?_⟩;obtain⟨k,hk1,hk2⟩:=k;simp(maxSteps:=9^9)(disch:=omega)only[ZZ,simprocAttr,rch,IdxW.ae,IdxW.fv,wo1.q,wo1.ar,wo1.fv,ORC,D.sc,D.scs,scL,decD,sub,Qal,spt_t,spt_l,spt_h];refine⟨fun hk=>⟨hk,fun x hx=> ?_⟩,fun hk=> ?_⟩
 .rw[Qd3 hx,Qaw] at hk2;refine⟨fun h=> ?_,fun h=>Qb6 hk hn ⟨by omega,by rw[<-hk2,Zai (by simpa using h)]⟩⟩;rw[Zam (by simpa using h)] at hk2;exact hk2
 .rw[Zau (by omega),Qaw] at hk2;exact hk2
def dlP.ca(a:List Qab×List Qae):List AV:=[.own 0,.im (.fn 162 [] [.ref (sptC a.2)])]
def dlP.H0(a:List Qab×List Qae):Qan:=[(0,(true,.arr 160 3 (a.1.map Qab.c)))]
def dlP.H1(a:List Qab×List Qae):Qan:=[(1,(true,.arr 160 3 ((remP a.2 a.1).map Qab.c)))]
def dlP.row:Row:=orow dlP.ca dlP.H0 1 (fun a=>a.1.length<=1000000) (fun j=>j==0) (fun _=> .own 1) dlP.H1 1000
def Ybc:=J @IdxW.q<|J @IdxW.fv.eq_1<|J @wo1.q<|J @wo1.ar.eq_1 @wo1.fv.eq_1
theorem dlP.ok:Qas Tryz.prog 160 dlP.row:=by
 refine Qnh Qaq (tC IdxW.ok (tC wo1.ok tN)) Tryz.func160 rfl (by kernel_rfl) (by kernel_rfl) (exB:=fun j=>j==1) (R:=fun _ r=>r= .own 1) (n:=2) (fun _=>rfl) (by decide)
  (fun a=>by simp[dlP.ca,dlP.H0,dlP.H1,belL,AV.bel]) (fun a=>by simp[dlP.ca,dlP.H0,dlP.H1,belH,belL,AV.bel]) (fun a=>by simp[dlP.ca,dlP.H0,dlP.H1,Qam])
  (fun a=>by simp[Qc2,dlP.ca,dlP.H0,dlP.H1,AObj.nms,nmsL,AV.nms,domB,hget]) (fun a p hp=> ?_) (fun a r h=>by subst h;exact LeV.refl _) ?_
 rotate_left
 intro a hpre;simp only[Tryz.f160,Option.getD,dlP.ca,dlP.H0,dlP.H1];simp(maxSteps:=9^9)(disch:=omega)only[ZZ,simprocAttr,rch,Ybc,IdxW.ar,Qc7,ORB,dlP.ca,dlP.H0,dlP.H1];simp(maxSteps:=9^9)(disch:=omega)only[ZZ,simprocAttr,rch,Ybc,IdxW.ar,Qc7,ORB,dlP.ca,dlP.H0,dlP.H1,spt_t,spt_l,spt_h];rcases Qep (Qana a.2) a.1 0 with ⟨e1,e2⟩|⟨i0,b0,e1,e2,e3⟩
 .rw[e2,Zam rfl];refine⟨[],[(1,some 0)],⟨[(4,.own 1)],[(1,(true,.arr 160 3 (a.1.map Qab.c)))],2⟩,?_,by simp[Qad.good,belT,belH,Qam,AV.bel,belL],by simp,?_⟩
  .simp only[subP];simp(maxSteps:=9^9)(disch:=omega)only[ZZ,simprocAttr,rch,Ybc,IdxW.ar,Qc7,ORB,dlP.ca,dlP.H0,dlP.H1,Zag,Zaf]
  .simp(maxSteps:=9^9)(disch:=omega)only[ZZ,simprocAttr,rch,Ybc,IdxW.ar,Qc7,ORB,dlP.ca,dlP.H0,dlP.H1]
   have:remP a.2 a.1=a.1:=by
    rw[remP,ZcO];intro b hb
    have:=Zcz.1 e1 b hb
    simpa using this
   rw[this]
 .rw[ZbL] at e2;rw[e2,Zai (by omega)];have hil:=(Zaj.1 e3).1;rw[Qak (by omega) (by omega)];obtain⟨l,hl⟩: ∃l,l=a.1:=⟨_,rfl⟩;obtain⟨t,ht⟩: ∃t,t=a.2:=⟨_,rfl⟩;simp only[<-hl,<-ht] at e1 e2 e3 hil hpre⊢;refine Qay.old ⟨{j:Nat//j<=l.length},fun j=>⟨[(6,.im (.int .i64 j.1)),(5,.im (.int .i64 (remP t (l.take j.1)).length)),(0,.own 0),(1,.im (.fn 162 [] [.ref (sptC t)]))],[(0,(true,.arr 160 3 ((remP t (l.take j.1)++l.drop (remP t (l.take j.1)).length).map Qab.c)))],2⟩,fun j=>l.length - j.1,fun j=>⟨by simp[Qad.good,belT,belH,Qam,AV.bel,belL],by simp⟩,⟨⟨i0+1,by omega⟩,?_⟩,fun j=> ?_⟩
  .have h1:=rem_first e1 e2 e3;simp(maxSteps:=9^9)(disch:=omega)only[ZZ,simprocAttr,rch,Ybc,IdxW.ar,Qc7,ORB,dlP.ca,dlP.H0,dlP.H1,sub,h1,Zat];rw[show min i0 l.length=i0 by omega,ZbE];exact⟨⟨by omega,rfl⟩,rfl⟩
  obtain⟨j,hj⟩:=j;obtain⟨kp,hkp⟩: ∃kp,kp=remP t (l.take j):=⟨_,rfl⟩;have hkl:kp.length<=j:=by
   have:=rem_len t (l.take j)
   rw[Zat] at this;rw[hkp];omega
  have hrl:(kp++l.drop kp.length).length=l.length:=by simp;omega
  simp only[<-hkp];simp(maxSteps:=9^9)(disch:=omega)only[ZZ,simprocAttr,rch,Ybc,IdxW.ar,Qc7,ORB,dlP.ca,dlP.H0,dlP.H1,sub,Qal,hrl,spt_t,spt_l,spt_h];intro _;refine⟨fun hj2=>⟨hj2,hj2,fun b hb=> ?_⟩,fun hj2=> ?_⟩
  .have hlb:l[j]? =some b:=by
    rw[ZaE hkl,Zbp,show kp.length+(j - kp.length)=j by omega] at hb;exact hb
   have hsu:=Qano t hlb;rw[<-hkp] at hsu;refine⟨fun hw=>⟨by omega,by omega,fun c _=>⟨⟨j+1,by omega⟩,by simp only;omega,?_⟩⟩,fun hw=>⟨⟨j+1,by omega⟩,by simp only;omega,?_⟩⟩
   .rw[Zam hw] at hsu;simp only[hsu,ZaC,ZaG,ZbH];refine⟨⟨by rw[Qak (by omega) (by omega)];omega,by rw[Qak (by omega) (by omega)];omega⟩,?_⟩;have h1:(kp++l.drop kp.length).set kp.length b=kp++[b]++l.drop (kp.length+1):=by
     obtain⟨c,hc⟩: ∃c,l[kp.length]? =some c:=⟨_,Zae (by omega)⟩;rw[Qd3 hc,Zdt _ _ (Zal _),Zcb,ZcX,Zbv];rfl
    rw[<-h1,ZcV];rfl
   .rw[Zai hw,ZaI] at hsu;simp only[hsu];exact⟨⟨by rw[Qak (by omega) (by omega)];omega,trivial⟩,trivial⟩
  .refine⟨by omega,false,?_⟩;have hjl:j=l.length:=by omega
   subst hjl;rw[Zbu] at hkp;simp(maxSteps:=9^9)(disch:=omega)only[ZZ,simprocAttr,rch,Ybc,IdxW.ar,Qc7,ORB,dlP.ca,dlP.H0,dlP.H1,hrl];have hA:List.take kp.length ((kp++l.drop kp.length).map Qab.c)=kp.map Qab.c:=by
    rw[<-List.map_take,Zeq]
   rw[hA];refine⟨by simp only[ZaC,Zbs];omega,true,?_⟩;simp(maxSteps:=9^9)(disch:=omega)only[ZZ,simprocAttr,rch,Ybc,IdxW.ar,Qc7,ORB,dlP.ca,dlP.H0,dlP.H1,hrl];refine⟨[],[(1,some 2)],⟨[(4,.own 1)],[(1,(true,.arr 160 3 (kp.map Qab.c)))],2⟩,?_,by simp[Qad.good,belT,belH,Qam,AV.bel,belL],by simp,?_⟩
   .simp only[subP];simp(maxSteps:=9^9)(disch:=omega)only[ZZ,simprocAttr,rch,Ybc,IdxW.ar,Qc7,ORB,dlP.ca,dlP.H0,dlP.H1,Zag,Zaf];rw[show ((kp.length:Int) - 0).toNat=(kp.map Qab.c).length by simp,Zbv,Zeq]
   .simp(maxSteps:=9^9)(disch:=omega)only[ZZ,simprocAttr,rch,Ybc,IdxW.ar,Qc7,ORB,dlP.ca,dlP.H0,dlP.H1,hkp]
 simp[dlP.H1] at hp;subst hp;exact .inr ⟨by omega,by omega,rfl,rfl⟩
theorem dlP.H0_dom(a:List Qab×List Qae)(j:Nat):domB (dlP.H0 a) j=true↔j<1:=by
 simp only[domB,dlP.H0,hget];by_cases h0:j=0
 .subst h0;simp
 .have e0:(0==j)=false:=by simp;omega
  simp[e0];omega
def woA.ar:List PK->Option (Asm×(List Qae)):=a2 (kR Asm.d) (kS Qae.d)
def woA.ae(a:Asm×(List Qae)):List PK:=[.val (.agg (Asm.c a.1)),.val (.sl false 2 (a.2.map Qae.c))]
def woA.fv(a:Asm×(List Qae)):Asm:=(fun a l=>⟨remP l a.Tiles⟩) (a.1) (a.2)
def woA.row:Row:=Qfi woA.ar (fun a=>a.1.Tiles.length<=1000000) (fun a=>(fun b=>D.agg (Asm.c b)) (woA.fv a))
def woA.q:=vqF woA.row rfl
def Ybd:=J @woA.ae.eq_1 @woA.fv.eq_1
theorem woA.ok:Qas Tryz.prog 133 woA.row:=by
 refine Qbn Qaq (tC clonC.ok (tC dlP.ok tN)) Tryz.func133 rfl (by kernel_rfl) (by kernel_rfl) (ar:=woA.ar) (ae:=woA.ae) (Qaca (Qab8 Asm.d_le) (Qacb 2 Qae.d_le (fun _=>rfl))) (n:=2) (fun _=>rfl) (by decide) (rc:=(vAgg Asm.d)) (re:=(fun b=>D.agg (Asm.c b))) (Qb1 Asm.d_le) (f:=woA.fv) ?_;intro a hpre;simp only[Tryz.f133,Option.getD];simp(maxSteps:=9^9)(disch:=omega)only[ZZ,simprocAttr,rch,Ybd,ORC,D.sc,D.scs,scL,decD];refine orow.os a.1.Tiles [] hpre (fun j=>by simp[domB,hget]) rfl rfl ?_ ?_
 .simp(maxSteps:=9^9)(disch:=omega)only[ZZ,simprocAttr,rch,Ybd,ORC,D.sc,D.scs,scL,decD,clonC.ca,Qer]
 simp(maxSteps:=9^9)(disch:=omega)only[ZZ,simprocAttr,rch,Ybd,ORC,D.sc,D.scs,scL,decD,clonC.H1,sub];left;refine orow.os (a.1.Tiles,a.2) [3] hpre (fun j=>dlP.H0_dom _ j) rfl rfl ?_ ?_
 .simp(maxSteps:=9^9)(disch:=omega)only[ZZ,simprocAttr,rch,Ybd,ORC,D.sc,D.scs,scL,decD,dlP.ca,dlP.H0,sptC,Zbd,Zbk]
 simp(maxSteps:=9^9)(disch:=omega)only[ZZ,simprocAttr,rch,Ybd,ORC,D.sc,D.scs,scL,decD,dlP.H1,sub]
def Qam9(l:List Opt)(ins:List Int):Nat->List Int
 |0=>[]
 |i+1=>Qam9 l ins i++[ouM l ins i ((l[i]?.map Opt.At).getD ⟨0,0⟩) 4]
theorem Qam3(l:List Opt)(ins:List Int): ∀n,(Qam9 l ins n).length=n
 |0=>rfl
 |n+1=>by simp only[Qam9,ZaC,Qam3 l ins n,ZdQ]
theorem Qani(l:List Opt)(ins:List Int): ∀(n i:Nat),i<n->(Qam9 l ins n)[i]? =some (ouM l ins i ((l[i]?.map Opt.At).getD ⟨0,0⟩) 4)
 |n+1,i,h=>by
  simp only[Qam9];by_cases c:i=n
  .subst c;rw[ZaE (by rw[Qam3];omega),Qam3];simp
  .rw[ZaB (by rw[Qam3];omega)];exact Qani l ins n i (by omega)
def outS_.ar:List PK->Option ((List Opt)×(List Int)):=a2 (kS Opt.d) (kS intD)
def outS_.ae(a:(List Opt)×(List Int)):List PK:=[.val (.sl false 3 (a.1.map Opt.c)),.val (.sl false 1 (a.2.map intC))]
def outS_.fv(a:(List Opt)×(List Int)):List Int:=(fun l ins=>Qam9 l ins l.length) (a.1) (a.2)
def outS_.row:Row:=vrow outS_.ar (fun a=>(a.1.map Opt.At).Nodup/\(∀o∈a.1,Qdy o.At)/\a.2.length=a.1.length/\a.1.length<=500) (fun a=>(fun b=>D.sl false 1 (b.map intC)) (outS_.fv a))
def outS_.q:=vq outS_.row rfl
def Ybe:=J @outS_.ae.eq_1<|J @outS_.fv.eq_1<|J @l01Step.q<|J @l01Step.ar.eq_1<|J @l01Step.fv.eq_1<|J @Opposite_.q<|J @Opposite_.ar.eq_1 @Opposite_.fv.eq_1
theorem outS_.ok:Qas Tryz.prog 83 outS_.row:=by
 refine Qaj Qaq (tC l01Step.ok (tC Opposite_.ok tN)) Tryz.func83 rfl (by kernel_rfl) (by kernel_rfl) (ar:=outS_.ar) (ae:=outS_.ae) (Qaca (Qacb 3 Opt.d_le (fun _=>rfl)) (Qacb 1 Qb3 (fun _=>rfl))) (n:=2) (fun _=>rfl) (by decide) (rc:=(vSl intD)) (re:=(fun b=>D.sl false 1 (b.map intC))) (Qe8 Qb3 (fun _=>rfl)) (f:=outS_.fv) ?_;intro a hpre;simp only[Tryz.f83,Option.getD];simp(maxSteps:=9^9)(disch:=omega)only[ZZ,simprocAttr,rch,Ybe];obtain⟨l,ins⟩:=a;obtain⟨h1,h2,h3,h4⟩:=hpre;simp only at h1 h2 h3 h4⊢;refine Qay.ren ⟨{i:Nat//i<=l.length},fun i=>⟨[(6,.im (.int .i64 i.1)),(5,.own 2),(0,.im (.sl false 3 (l.map Opt.c))),(1,.im (.sl false 1 (ins.map intC)))],[(2,(true,.arr 2 1 ((Qam9 l ins i.1).map intC)))],3⟩,fun i=>l.length - i.1,fun i=>⟨by simp[Qad.good,belT,belH,Qam,AV.bel,belL],by simp⟩,⟨⟨0,ZaP _⟩,[(2,some 1)],?_⟩,fun i=> ?_⟩
 .simp only[subP];simp(maxSteps:=9^9)(disch:=omega)only[ZZ,simprocAttr,rch,Ybe,Zag,Zaf,Qam9,ZaR]
  try simp
 obtain⟨i,hi⟩:=i;simp(maxSteps:=9^9)(disch:=omega)only[ZZ,simprocAttr,rch,Ybe,sub,Qal];intro _;refine⟨fun hi2=> ?_,fun hi2=> ?_⟩;rotate_left
 .obtain rfl:i=l.length:=by omega
  rfl
 obtain⟨o,ho⟩: ∃o,l[i]? =some o:=⟨_,Zae hi2⟩;have hos:=h2 o (Zad ho);refine Qay.old ⟨{d:Nat//d<=4},fun d=>⟨[(8,.im (.int .i64 d.1)),(7,.im (.int .i64 (ouM l ins i o.At d.1))),(6,.im (.int .i64 i)),(5,.own 2),(0,.im (.sl false 3 (l.map Opt.c))),(1,.im (.sl false 1 (ins.map intC)))],[(2,(true,.arr 2 1 ((Qam9 l ins i).map intC)))],3⟩,fun d=>4 - d.1,fun d=>⟨by simp[Qad.good,belT,belH,Qam,AV.bel,belL],by simp⟩,⟨⟨0,ZaP _⟩,by simp(maxSteps:=9^9)(disch:=omega)only[ZZ,simprocAttr,rch,Ybe,sub,ouM]⟩,fun d=> ?_⟩;obtain⟨d,hd⟩:=d;simp(maxSteps:=9^9)(disch:=omega)only[ZZ,simprocAttr,rch,Ybe,sub,Qal];refine⟨fun hd4=> ?_,fun hd4=> ?_⟩;rotate_left
 .obtain rfl:d=4:=by omega
  refine⟨by simp[OneR,allD,D.one],by rw[Qam3];omega,⟨i+1,by omega⟩,[(2,some 4)],by simp only;omega,?_⟩;simp only[subP];simp(maxSteps:=9^9)(disch:=omega)only[ZZ,simprocAttr,rch,Ybe,Zag,Zaf];refine⟨by rw[Qak (by omega) (by omega)];omega,?_⟩;simp[Qam9,ho,intC]
 refine⟨hi2,fun x hx=> ?_⟩;obtain rfl:o=x:=Zaa (ho.symm.trans hx);refine⟨⟨hos,by omega⟩,?_⟩;have hmb:=ouM_b l ins i o.At d;have hd5:d<4:=by omega
 have hp8:=Qaew hd5;refine Qay.old ⟨{k:Nat//i+1<=k/\k<=l.length},fun k=>⟨[(10,.im (.int .i64 k.1)),(9,.ptr 3 0),(8,.im (.int .i64 d)),(7,.im (.int .i64 (ouM l ins i o.At d+bitN (ouBn l ins i o.At d k.1) d))),(6,.im (.int .i64 i)),(5,.own 2),(0,.im (.sl false 3 (l.map Opt.c))),(1,.im (.sl false 1 (ins.map intC)))],[(3,(true,.cells 58 ((Qae.c (Qf7 o.At d)).map .im))),(2,(true,.arr 2 1 ((Qam9 l ins i).map intC)))],4⟩,fun k=>l.length - k.1,fun k=>⟨by simp[Qad.good,belT,belH,Qam,AV.bel,belL,Qae.c],by simp⟩,⟨⟨i+1,by omega⟩,?_⟩,fun k=> ?_⟩
 .simp(maxSteps:=9^9)(disch:=omega)only[ZZ,simprocAttr,rch,Ybe,sub,ouBn_low (Zal _),bitN];exact⟨by rw[Qak (by omega) (by omega)];omega,by simp⟩
 obtain⟨k,hk1,hk2⟩:=k;simp(maxSteps:=9^9)(disch:=omega)only[ZZ,simprocAttr,rch,Ybe,sub,Qal];intro _;have hkw:k<l.length->IntKind.i64.wrap ((k:Int)+1)=((k+1:Nat):Int):=fun h=>by rw[Qak (by omega) (by omega)];omega
 have hbb:=bitN_b (ouBn l ins i o.At d k) d;have hno:ouC l ins i o.At d k≠true->ouM l ins i o.At d+bitN (ouBn l ins i o.At d k) d=ouM l ins i o.At d+bitN (ouBn l ins i o.At d (k+1)) d:=fun h=>by
  rw[Qanm h1,Zai h,Zfa]
 refine⟨fun hk=>⟨hk,fun y hy=>⟨fun c1=>⟨by omega,fun v hv=>⟨by omega,by omega,fun c2=>⟨⟨k+1,by omega⟩,by simp only;omega,hkw hk,?_⟩,fun c2=>⟨⟨k+1,by omega⟩,by simp only;omega,hkw hk,?_⟩⟩⟩,fun c1=>⟨⟨k+1,by omega⟩,by simp only;omega,hkw hk,?_⟩⟩⟩,fun hk=>⟨⟨d+1,by omega⟩,by simp only;omega,by rw[Qak (by omega) (by omega)];simp only;omega,?_⟩⟩
 .rw[Qanl] at c1;have hc:ouC l ins i o.At d k=true:=Qam4.2 ⟨by omega,by rw[hy,ZaO,c1],by rw[hv,Zac];simp only[hasI,Zap];exact c2⟩;simp only;rw[Qanf hd5,Qanm h1,Zam hc,Qak (by omega) (by omega),Int.add_assoc]
 .refine hno fun hc=>c2 ?_
  have:=(Qam4.1 hc).2.2
  rw[hv,Zac] at this;simp only[hasI,Zap] at this;exact this
 .refine hno fun hc=>c1 ?_
  have:=(Qam4.1 hc).2.1
  rw[hy,ZaO] at this;rw[Qanl];exact Zaa this
 .obtain rfl:k=l.length:=by omega
  rfl
theorem keep0(p:Qae)(m:Int)(x:Qab):(!(x.At.X==p.X && x.At.Y==p.Y))=Qam5 p m 0 x:=by
 simp only[Qam5];rw[Zcu];have h:=Qanl (p:=x.At) (q:=p);simp only[ZbT,Zap,ne_eq];rw[<-h];simp[ZcU]
def witS_.ar:List PK->Option (Asm×Qae×Int):=a3 (kP Asm.d 1) (kR Qae.d) kI
def witS_.ae(a:Asm×Qae×Int):List PK:=[.ptr (Asm.c a.1),.val (.agg (Qae.c a.2.1)),.val (.int .i64 a.2.2)]
def witS_.fv(a:Asm×Qae×Int):Asm:=(witA) (a.1) (a.2.1) (a.2.2)
def witS_.row:Row:=vrow witS_.ar (fun a=>Qdy a.2.1/\0<=a.2.2/\a.2.2<=1000000/\a.1.Tiles.length<=1000000) (fun a=>(fun b=>D.agg (Asm.c b)) (witS_.fv a))
def witS_.q:=vq witS_.row rfl
def Ybf:=J @witS_.ae.eq_1<|J @witS_.fv.eq_1<|J @l01Step.q<|J @l01Step.ar.eq_1 @l01Step.fv.eq_1
theorem witS_.ok:Qas Tryz.prog 85 witS_.row:=by
 refine Qaj Qaq (tC l01Step.ok tN) Tryz.func85 rfl (by kernel_rfl) (by kernel_rfl) (ar:=witS_.ar) (ae:=witS_.ae) (Qace (Qacc 1 Asm.d_le) (Qab8 Qae.d_le) Qab9) (n:=3) (fun _=>rfl) (by decide) (rc:=(vAgg Asm.d)) (re:=(fun b=>D.agg (Asm.c b))) (Qb1 Asm.d_le) (f:=witS_.fv) ?_;intro a hpre;simp only[Tryz.f85,Option.getD];simp(maxSteps:=9^9)(disch:=omega)only[ZZ,simprocAttr,rch,Ybf];obtain⟨a,p,m⟩:=a;obtain⟨h1,h2,h3,h4⟩:=hpre;simp only at h1 h2 h3 h4⊢;refine Qay.ren ⟨{i:Nat//i<=a.Tiles.length},fun i=>⟨[(8,.im (.int .i64 i.1)),(7,.ptr 3 0),(6,.ptr 2 0),(4,.ptr 1 0),(0,.ptr 0 0),(2,.im (.int .i64 m))],[(4,(true,.arr 160 3 (((a.Tiles.take i.1).filter (Qam5 p m 4)).map Qab.c))),(3,(true,.cells 45 [.own 4])),(2,(true,.cells 45 [.im (.sl true 0 [])])),(1,(true,.cells 58 [.im (.int .i64 p.X),.im (.int .i64 p.Y)])),(0,(false,.view (Asm.c a)))],5⟩,fun i=>a.Tiles.length - i.1,fun i=>⟨by simp[Qad.good,belT,belH,Qam,AV.bel,belL],by simp⟩,⟨⟨0,ZaP _⟩,[(4,none)],?_⟩,fun i=> ?_⟩
 .simp only[subP];simp(maxSteps:=9^9)(disch:=omega)only[ZZ,simprocAttr,rch,Ybf,Zag,Zaf,Zbm,ZeD,ZaR]
  try simp
 obtain⟨i,hi⟩:=i;simp(maxSteps:=9^9)(disch:=omega)only[ZZ,simprocAttr,rch,Ybf,sub,Qal];intro _;refine⟨fun hi2=>⟨hi2,fun x hx=> ?_⟩,fun hi2=> ?_⟩;rotate_left
 .rw[ZaA (by omega)];rfl
 refine Qay.old ⟨{d:Nat//d<=4},fun d=>⟨[(10,.im (.int .i64 d.1)),(9,.im (.bool (Qam5 p m d.1 x))),(8,.im (.int .i64 i)),(7,.ptr 3 0),(6,.ptr 2 0),(4,.ptr 1 0),(0,.ptr 0 0),(2,.im (.int .i64 m))],[(4,(true,.arr 160 3 (((a.Tiles.take i).filter (Qam5 p m 4)).map Qab.c))),(3,(true,.cells 45 [.own 4])),(2,(true,.cells 45 [.im (.sl true 0 [])])),(1,(true,.cells 58 [.im (.int .i64 p.X),.im (.int .i64 p.Y)])),(0,(false,.view (Asm.c a)))],5⟩,fun d=>4 - d.1,fun d=>⟨by simp[Qad.good,belT,belH,Qam,AV.bel,belL],by simp⟩,⟨⟨0,ZaP _⟩,?_⟩,fun d=> ?_⟩
 .simp(maxSteps:=9^9)(disch:=omega)only[ZZ,simprocAttr,rch,Ybf,sub,keep0 p m x]
  try simp
 obtain⟨d,hd⟩:=d;simp(maxSteps:=9^9)(disch:=omega)only[ZZ,simprocAttr,rch,Ybf,sub,Qal];have hdw:IntKind.i64.wrap ((d:Int)+1)=((d+1:Nat):Int):=by rw[Qak (by omega) (by omega)];omega
 simp only[<-has_eq];refine⟨fun hd4=>⟨fun c1=>⟨hi2,fun y hy=>⟨⟨h1,by omega⟩,fun c2=>⟨⟨d+1,by omega⟩,by simp only;omega,hdw,?_⟩,fun c2=>⟨⟨d+1,by omega⟩,by simp only;omega,hdw,?_⟩⟩⟩,fun c1=>⟨⟨d+1,by omega⟩,by simp only;omega,hdw,?_⟩⟩,fun hd4=> ?_⟩
 .obtain rfl:x=y:=Zaa (hx.symm.trans hy);rw[Qanl] at c2;simp[Qam5,c1,c2]
 .obtain rfl:x=y:=Zaa (hx.symm.trans hy);rw[Qanl] at c2;simp[Qam5,c1,c2]
 .rw[ZbS] at c1;simp[Qam5,c1]
 .obtain rfl:d=4:=by omega
  have hfl:((a.Tiles.take i).filter (Qam5 p m 4)).length<=a.Tiles.length:=ZaY (Zds _ _) (by simp;omega);have hiw:IntKind.i64.wrap ((i:Int)+1)=((i+1:Nat):Int):=by rw[Qak (by omega) (by omega)];omega
  refine⟨fun c1=>⟨hi2,fun y hy=>⟨by simp[OneR,allD,D.one],by omega,⟨i+1,by omega⟩,[(4,some 6)],by simp only;omega,?_⟩⟩,fun c1=>⟨⟨i+1,by omega⟩,[(4,some 4)],by simp only;omega,?_⟩⟩
  .obtain rfl:x=y:=Zaa (hx.symm.trans hy);simp only[subP];simp(maxSteps:=9^9)(disch:=omega)only[ZZ,simprocAttr,rch,Ybf,Zag,Zaf];refine⟨hiw,?_⟩;rw[Qwe hx,Zdp,ZdJ c1];simp[Qab.c]
  .simp only[subP];simp(maxSteps:=9^9)(disch:=omega)only[ZZ,simprocAttr,rch,Ybf,Zag,Zaf];refine⟨hiw,?_⟩;rw[Qwe hx,Zdp,Zcy c1];simp
theorem play_of{s:Qar}: ∀(l:List Opt) (b:Asm) (i:Nat),Qaec s b l->Qacg s b l i=(Qac9 b l,0,0)
 |[],_,_,_=>rfl
 |o::r,b,i,h=>by
  have h0:=h 0 o rfl;simp only[Zbm,Qac9] at h0;simp only[Qacg];rw[Zai (by rw[h0.1];simp),Zai (by omega),play_of r _ (i+1) fun k o' hk=>h (k+1) o' hk];rfl
def fltK:Option (Int×Opt)->Int×Qae
 |none=>(0,⟨0,0⟩)
 |some (k,o)=>(k,o.At)
theorem Qanb{A:Type}{g:Nat->Option A}{n i:Nat}{r:A}(hi:i<n)(h:fsF g (n - i) i=fsF g n 0)(hr:g i=some r):fsF g n 0=some r:=by
 rw[<-h,show n - i=(n - i - 1)+1 by omega];simp only[fsF,hr,ZeS]
theorem Qanr{A:Type}{g:Nat->Option A}{n i:Nat}(hi:i<n)(h:fsF g (n - i) i=fsF g n 0)(hr:g i=none):fsF g (n - (i+1)) (i+1)=fsF g n 0:=by
 rw[<-h,show n - i=(n - (i+1))+1 by omega];simp only[fsF,hr,Zdm]
theorem fsF_end{A:Type}{g:Nat->Option A}{n:Nat}(h:fsF g (n - n) n=fsF g n 0):fsF g n 0=none:=by
 rw[<-h,Zcb];rfl
theorem putA_le(b:Asm)(p:Qae)(t:Int):(putA b p t).Tiles.length<=b.Tiles.length+1:=by
 rw[Qi8];exact ZeJ (by rw[(Qn1 ⟨p,t⟩ b.Tiles).length_eq,ZaG])
theorem Qanh{s:Qar}: ∀(l:List Opt) (b:Asm),b.Tiles.length<=500->Qaec s b l->(Qac9 b l).Tiles.length<=500
 |[],_,h,_=>h
 |o::r,b,h,hp=>by
  have h0:=(hp 0 o rfl).2;simp only[Zbm,Qac9] at h0;have h1:=putA_le b o.At o.Tile;exact Qanh r _ (by omega) fun k o' hk=>hp (k+1) o' hk
def fltS_.ar:List PK->Option (Qar×(List Opt)):=a2 (kP Qar.d 4) (kS Opt.d)
def fltS_.ae(a:Qar×(List Opt)):List PK:=[.ptr (Qar.c a.1),.val (.sl false 3 (a.2.map Opt.c))]
def fltS_.fv(a:Qar×(List Opt)):Int×Qae:=(fun s l=>fltK (fltS s l)) (a.1) (a.2)
def fltS_.row:Row:=vrow fltS_.ar (fun a=>seqP a.1 a.2/\a.1.Seed.Tiles.length<=500) (fun a=>(fun b=>D.tup [(D.int .i64) (b.1),(fun b=>D.agg (Qae.c b)) (b.2)]) (fltS_.fv a))
def fltS_.q:=vq fltS_.row rfl
def Ybg:=J @fltS_.ae.eq_1<|J @fltS_.fv.eq_1<|J @l10Inputs.q<|J @l10Inputs.ar.eq_1<|J @l10Inputs.fv.eq_1<|J @outS_.q<|J @outS_.ar.eq_1<|J @outS_.fv.eq_1<|J @l08Play.q<|J @l08Play.ar.eq_1<|J @l08Play.fv.eq_1<|J @witS_.q<|J @witS_.ar.eq_1<|J @witS_.fv.eq_1<|J @atQ_.q<|J @atQ_.ar.eq_1<|J @atQ_.fv.eq_1<|J @opsS_.q<|J @opsS_.ar.eq_1 @opsS_.fv.eq_1
theorem fltS_.ok:Qas Tryz.prog 49 fltS_.row:=by
 refine Qaj Qaq (tC l10Inputs.ok (tC outS_.ok (tC l08Play.ok (tC witS_.ok (tC atQ_.ok (tC opsS_.ok tN)))))) Tryz.func49 rfl (by kernel_rfl) (by kernel_rfl) (ar:=fltS_.ar) (ae:=fltS_.ae) (Qaca (Qacc 4 Qar.d_le) (Qacb 3 Opt.d_le (fun _=>rfl))) (n:=2) (fun _=>rfl) (by decide) (rc:=(Qfa (vInt) (vAgg Qae.d))) (re:=(fun b=>D.tup [(D.int .i64) (b.1),(fun b=>D.agg (Qae.c b)) (b.2)])) (Qbz (Qa3) (Qb1 Qae.d_le)) (f:=fltS_.fv) ?_;intro a hpre;simp only[Tryz.f49,Option.getD];simp(maxSteps:=9^9)(disch:=omega)only[ZZ,simprocAttr,rch,Ybg];obtain⟨s,l⟩:=a;simp only at hpre⊢;obtain⟨⟨q1,q2,q3,q4,q5,q6⟩,q7⟩:=hpre;have hnd:=Qaf6 q5;have he5:=Qanh l s.Seed q7 q5;have hsm: ∀o∈l,Qdy o.At:=fun o ho=>by
  obtain⟨k,hk⟩:=Zbq.1 ho;exact (Qadk (q5 k o hk).1).2.1
 have hpl:Qacg s s.Seed l 0=(Qac9 s.Seed l,0,0):=play_of l s.Seed 0 q5;refine⟨⟨q1,q2,q3,q4,q5,q6⟩,⟨hnd,hsm,Qadv ..,q6⟩,⟨q1,q2,q3,q4⟩,?_⟩;rw[hpl];simp only;have hend:Qn7 s.Set (Qac9 s.Seed l):=by
  have:=Qafb q3 q2 q5 l.length (Zal _)
  rwa [Zbu] at this
 obtain⟨e,he⟩: ∃e,e=Qac9 s.Seed l:=⟨_,rfl⟩;obtain⟨ins,hins⟩: ∃ins,ins=insS s s.Seed l:=⟨_,rfl⟩;obtain⟨sms,hsms⟩: ∃sms,sms=smsS s s.Seed l:=⟨_,rfl⟩;rw[<-he] at hend he5;have hsl:sms.length=l.length:=by rw[hsms,Qael]
 have hgf: ∀i o,l[i]? =some o->gfS s l i=fltO s sms o i (decide ((atU s (atA (witA e o.At (ouM l ins i o.At 4))) o.At s.Set.Tiles.length).length≠1)):=fun i o ho=>by
  simp only[gfS,ho,Zby,<-he,<-hins,<-hsms]
 have hfl:fltS s l=(fsF (gfS s l) l.length 0).or (endO (Qaj8 s e)):=by rw[he];rfl
 rw[hfl];simp only[<-hins,<-hsms,<-he];refine Qay.old ⟨{i:Nat//i<=l.length/\fsF (gfS s l) (l.length - i) i=fsF (gfS s l) l.length 0},fun i=>⟨[(12,.im (.int .i64 i.1)),(9,.ptr 2 0),(8,.im (.sl false 1 ((Qam9 l ins l.length).map intC))),(7,.im (.sl false 1 (sms.map intC))),(4,.im (.int .i64 0)),(5,.ptr 1 0),(0,.ptr 0 0),(1,.im (.sl false 3 (l.map Opt.c)))],[(2,(true,.cells 45 [.im (.sl false 3 (e.Tiles.map Qab.c))])),(1,(true,.cells 58 [.im (.int .i64 0),.im (.int .i64 0)])),(0,(false,.view (Qar.c s)))],3⟩,fun i=>l.length - i.1,fun i=>⟨by simp[Qad.good,belT,belH,Qam,AV.bel,belL],by simp⟩,⟨⟨0,ZaP _,rfl⟩,by simp(maxSteps:=9^9)(disch:=omega)only[ZZ,simprocAttr,rch,Ybg,sub]⟩,fun i=> ?_⟩;obtain⟨i,hi,hfi⟩:=i;simp(maxSteps:=9^9)(disch:=omega)only[ZZ,simprocAttr,rch,Ybg,sub,Qal];intro _;refine⟨fun hi2=>⟨by omega,fun v hv=>⟨fun c1=>⟨hi2,fun o ho=> ?_⟩,fun c1=>⟨hi2,fun o ho=>⟨by rw[Qam3];exact hi2,fun m hm=> ?_⟩⟩⟩⟩,fun hi2=> ?_⟩
 .have hg:gfS s l i=some (1,o):=by
   rw[hgf i o ho];simp only[fltO,hv,Zac];rw[Zam c1]
  rw[Qanb hi2 hfi hg];rfl
 .rw[Qani l ins l.length i hi2,ho] at hm;obtain rfl:=Zaa hm;simp only[ZaO,Zac];have hmb:=ouM_b l ins i o.At 4;have hos:=hsm o (Zad ho);have hwi:=wit_in hend o.At (ouM l ins i o.At 4);refine⟨⟨hos,hmb.1,by omega,by omega⟩,hi2,fun o2 ho2=> ?_⟩;obtain rfl:o=o2:=Zaa (ho.symm.trans ho2);refine⟨⟨q1,hwi,hos,by omega⟩,fun _=>⟨fun c2=>⟨hi2,fun o3 ho3=> ?_⟩,fun c2=>⟨⟨i+1,by omega,?_⟩,by simp only;omega,by rw[Qak (by omega) (by omega)];simp only;omega⟩⟩⟩
  .obtain rfl:o=o3:=Zaa (ho.symm.trans ho3);rw[atU_S _ _ e] at c2;have hg:gfS s l i=some (2,o):=by
    rw[hgf i o ho];simp only[fltO,hv,Zac];rw[Zai c1,Zam (by simp only[Zap];omega)]
   rw[Qanb hi2 hfi hg];rfl
  .rw[atU_S _ _ e] at c2;refine Qanr hi2 hfi ?_;rw[hgf i o ho];simp only[fltO,hv,Zac];rw[Zai c1,Zai (by simp only[Zap];omega)]
 .obtain rfl:i=l.length:=by omega
  rw[fsF_end hfi,Zdm];refine⟨⟨q1,hend,he5,by omega⟩,fun _=>⟨fun c=>⟨c,fun o ho=> ?_⟩,fun c=> ?_⟩⟩
  .cases hL:Qaj8 s e with
   |nil=>rw[hL] at ho;cases ho
   |cons x r=>
    rw[hL] at ho;obtain rfl:x=o:=by simpa using ho
    rfl
  .have:Qaj8 s e=[]:=ZbQ.1 (by omega)
   rw[this];rfl
def cntO(op:List (Qae×List Int)):Nat:=(op.map fun q=>q.2.length).sum
theorem lkP_of{β:Type}: ∀{l:List (Qae×β)} {q:Qae×β},(l.map Prod.fst).Nodup->q∈l->lkP l q.1=some q.2
 |x::r,q,hn,hq=>by
  obtain⟨p,v⟩:=x;rw[Zan,ZbK] at hn;simp only[lkP];rcases Zav.1 hq with rfl|hq
  .rw[Zam rfl]
  .have:q.1≠p:=fun e=>hn.1 (by rw[<-e];exact ZaJ.2 ⟨q,hq,rfl⟩)
   rw[Zai this];exact lkP_of hn.2 hq
theorem Qaky{g:Qae->List Int}: ∀(l:List Qae),(Qajs g l).length=(l.map fun p=>(g p).length).sum
 |[]=>rfl
 |p::r=>by
  have:=Qaky (g:=g) r
  simp only[Qajs] at this;simp only[Qajs,Zbf,ZaC,Zbs,Zan,ZcG,this]
theorem optsC_len{op:List (Qae×List Int)}(h:(op.map Prod.fst).Nodup):(Qalo op).length=cntO op:=by
 rw[Qalo,Qaky,((Qall h).map _).sum_nat,ZdR];congr 1;refine Zct fun q hq=> ?_
 simp only[Function.comp,lkP_of h hq,Zac]
theorem cnt_ge: ∀{l:List (Qae×List Int)},(∀q∈l,q.2≠[])->l.length<=cntO l
 |[],_=>ZaP _
 |x::r,h=>by
  have h1:0<x.2.length:=ZcP.2 (h x (Zas ..));have h2:=cnt_ge fun q hq=>h q (Zar x hq)
  simp only[cntO,Zan,ZcG,ZaG] at h2⊢;omega
theorem opts_len(s:Qar){b:Asm}(h1:b.Tiles.length<=500)(h2:s.Set.Tiles.length<=160):(Qaj8 s b).length<=320000:=by
 have h7:=Qakc (g:=fun p=>atU s (atA b) p s.Set.Tiles.length) (m:=160) (fun p=>ZaY (Qakm s (atA b) p _) (by omega)) (Qajq b b.Tiles.length);have h8:=Qaj2 b b.Tiles.length;have h9:(Qajq b b.Tiles.length).length*160<=2000*160:=Zba _ (by omega);exact ZaY h7 h9
theorem op_lim{s:Qar}{b:Asm}{op:List (Qae×List Int)}(hT:1<=s.Temperature)(h1:b.Tiles.length<=500)(h2:s.Set.Tiles.length<=160)(hop:OpOk s (atA b) op):
 Qalo op=Qaj8 s b/\((op.map Prod.fst).Nodup/\op.length<=1000000/\ ∀q∈op,q.2.length<=1000)/\(Qalo op).length<=320000:=by
 have hlaw:=opts_law hT hop;have hlen:=optsC_len hop.1;rw[hlaw] at hlen;have hv2: ∀q∈op,q.2=Qajt s (atA b) q.1/\q.2≠[]:=fun q hq=>by
  have h5:=lkP_of hop.1 hq;rw[hop.2,nonE] at h5;split at h5
  .cases h5
  .rename_i c;have h6:=Zaa h5;exact⟨h6.symm,by rw[<-h6];exact c⟩
 have h6:op.length<=cntO op:=cnt_ge fun q hq=>(hv2 q hq).2
 have h7:=opts_len s h1 h2;refine⟨hlaw,⟨hop.1,by omega,fun q hq=> ?_⟩,by rw[hlaw];exact h7⟩;rw[(hv2 q hq).1];exact ZaY (Qus s _ _ _) (by omega)
theorem le_ifc{t:TypeId}{a b:D}(h:Le a b):Le (.ifc t a) (.ifc t b):=by
 intro ok hp v hv;obtain⟨x,rfl,h1⟩:=hv;exact⟨x,rfl,h _ _ _ h1⟩
def flE:Option (Int×Opt)->D
 |none=> .nili
 |some (k,o)=>if k=1 then .ifc 145 (.agg (Opt.c o)) else if k=2 then .ifc 147 (.agg (Opt.c o)) else .ifc 148 (.agg (Opt.c o))
def flD:D->Option (Option (Int×Opt))
 | .nili=>some none
 | .ifc t (.agg ds)=>(Opt.d ds).bind fun o=>if t=145 then some (some (1,o)) else if t=147 then some (some (2,o)) else if t=148 then some (some (3,o)) else none
 |_=>none
theorem flD_le: ∀d b,flD d=some b->Le d (flE b):=by
 intro d b h;unfold flD at h;split at h
 .obtain rfl:=Zaa h;exact Le.refl _
 .simp only[ZaH] at h;obtain⟨o,h1,h2⟩:=h;split at h2
  .rename_i c;obtain rfl:=Zaa h2;rw[c];exact le_ifc (Qav (Opt.d_le _ _ h1))
  .split at h2
   .rename_i c;obtain rfl:=Zaa h2;rw[c];exact le_ifc (Qav (Opt.d_le _ _ h1))
   .split at h2
    .rename_i c;obtain rfl:=Zaa h2;rw[c];exact le_ifc (Qav (Opt.d_le _ _ h1))
    .cases h2
 .cases h
def outI_.ar:List PK->Option (Pld×Int):=a2 (kP Pld.d 8) kI
def outI_.ae(a:Pld×Int):List PK:=[.ptr (Pld.c a.1),.val (.int .i64 a.2)]
def outI_.fv(a:Pld×Int):Int:=(fun x i=>ouM x.Seq x.Inputs i.toNat ((x.Seq[i.toNat]?.map Opt.At).getD ⟨0,0⟩) 4) (a.1) (a.2)
def outI_.row:Row:=vrow outI_.ar (fun a=>(a.1.Seq.map Opt.At).Nodup/\(∀o∈a.1.Seq,Qdy o.At)/\a.1.Inputs.length=a.1.Seq.length/\a.1.Seq.length<=500/\0<=a.2/\a.2<a.1.Seq.length) (fun a=>(D.int .i64) (outI_.fv a))
def outI_.q:=vq outI_.row rfl
def Ybh:=J @outI_.ae.eq_1<|J @outI_.fv.eq_1<|J @step_.q<|J @step_.ar.eq_1<|J @step_.fv.eq_1<|J @step_.re.eq_1<|J @idxAt_.q<|J @idxAt_.ar.eq_1<|J @idxAt_.fv.eq_1<|J @opposite_.q<|J @opposite_.ar.eq_1<|J @opposite_.fv.eq_1<|J @has_.q<|J @has_.ar.eq_1 @has_.fv.eq_1
theorem outI_.ok:Qas Tryz.prog 132 outI_.row:=by
 refine Qaj Qaq (tC step_.ok (tC idxAt_.ok (tC opposite_.ok (tC has_.ok tN)))) Tryz.func132 rfl (by kernel_rfl) (by kernel_rfl) (ar:=outI_.ar) (ae:=outI_.ae) (Qaca (Qacc 8 Pld.d_le) Qab9) (n:=2) (fun _=>rfl) (by decide) (rc:=(vInt)) (re:=(D.int .i64)) (Qa3) (f:=outI_.fv) ?_;intro a hpre;simp only[Tryz.f132,Option.getD];simp(maxSteps:=9^9)(disch:=omega)only[ZZ,simprocAttr,rch,Ybh];obtain⟨x,i⟩:=a;obtain⟨h1,h2,h3,h4,h5,h6⟩:=hpre;simp only at h1 h2 h3 h4 h5 h6⊢;obtain⟨o,ho⟩: ∃o,x.Seq[i.toNat]? =some o:=⟨_,Zae (by omega)⟩;have hos:=h2 o (Zad ho);obtain⟨n,hn⟩: ∃n:Nat,i=n:=⟨i.toNat,by omega⟩;subst hn;rw[Zak] at ho⊢;simp only[ho,ZaO,Zac];refine Qay.old ⟨{d:Nat//d<=4},fun d=>⟨[(8,.im (.int .i64 d.1)),(5,.im (.int .i64 (ouM x.Seq x.Inputs n o.At d.1))),(0,.ptr 0 0),(1,.im (.int .i64 n))],[(0,(false,.view (Pld.c x)))],1⟩,fun d=>4 - d.1,fun d=>⟨by simp[Qad.good,belT,belH,Qam,AV.bel,belL],by simp⟩,⟨⟨0,ZaP _⟩,by simp(maxSteps:=9^9)(disch:=omega)only[ZZ,simprocAttr,rch,Ybh,sub,ouM]⟩,fun d=> ?_⟩;obtain⟨d,hd⟩:=d;simp(maxSteps:=9^9)(disch:=omega)only[ZZ,simprocAttr,rch,Ybh,sub,Qal];have hdw:d<4->IntKind.i64.wrap ((d:Int)+1)=((d+1:Nat):Int):=fun h=>by rw[Qak (by omega) (by omega)];omega
 have hib:=ouB_idx (ins:=x.Inputs) (i:=n) (p:=o.At) (d:=d) h1;have hno: ¬ouB x.Seq x.Inputs n o.At d=true->ouM x.Seq x.Inputs n o.At d=ouM x.Seq x.Inputs n o.At (d+1):=fun h=>by
  rw[ZbS] at h;simp only[ouM,h,bitN];simp
 have hmb:=ouM_b x.Seq x.Inputs n o.At d;refine⟨fun hd4=>⟨by omega,fun y hy=> ?_⟩,fun hd4=>by rw[show d=4 by omega]⟩;obtain rfl:o=y:=Zaa (ho.symm.trans hy);refine⟨⟨hos,by omega⟩,fun c1=> ?_,fun c1=>⟨⟨d+1,by omega⟩,by simp only;omega,hdw (by omega),hno fun h=>c1 (hib.1 h).1⟩⟩;have hil:(idxO x.Seq (Qf7 o.At d)).toNat<x.Seq.length:=by
  have h3:=idxO_at (l:=x.Seq) (q:=Qf7 o.At d) rfl (by omega);cases hk:x.Seq[(idxO x.Seq (Qf7 o.At d)).toNat]? with
  |none=>rw[hk] at h3;cases h3
  |some y=>exact (Zaj.1 hk).1
 refine⟨by omega,by omega,fun v hv=>⟨by omega,by omega,fun c2=>⟨⟨d+1,by omega⟩,by simp only;omega,hdw (by omega),?_⟩,fun c2=>⟨⟨d+1,by omega⟩,by simp only;omega,hdw (by omega),hno fun h=>c2 ?_⟩⟩⟩
 .have hob:ouB x.Seq x.Inputs n o.At d=true:=hib.2 ⟨c1,by rw[hv,Zac];exact c2⟩;rw[Qanf (by omega),or_bit (by omega) hmb.1 hmb.2];simp only[ouM,hob,bitN,Zbd]
 .have:=(hib.1 h).2
  rw[hv,Zac] at this;exact this
def anoI(x:Pld)(i:Nat):Bool:=(x.Seq[i]?.map fun o=>anoK x.Sys (atA (witA x.End o.At (ouM x.Seq x.Inputs i o.At 4))) o.At o.Tile x.Sys.Set.Tiles.length).getD false
def pldOk(x:Pld):Prop:=(x.Seq.map Opt.At).Nodup/\(∀o∈x.Seq,Qdy o.At)/\x.Inputs.length=x.Seq.length/\x.Seq.length<=500/\setP x.Sys.Set/\Qn7 x.Sys.Set x.End/\x.End.Tiles.length<=1000000/\x.Sys.Set.Tiles.length<=160
def anoI_.ar:List PK->Option (Pld×Int):=a2 (kP Pld.d 8) kI
def anoI_.ae(a:Pld×Int):List PK:=[.ptr (Pld.c a.1),.val (.int .i64 a.2)]
def anoI_.fv(a:Pld×Int):Bool:=(fun x i=>anoI x i.toNat) (a.1) (a.2)
def anoI_.row:Row:=vrow anoI_.ar (fun a=>pldOk a.1/\0<=a.2/\a.2<a.1.Seq.length) (fun a=>(D.bool) (anoI_.fv a))
def anoI_.q:=vq anoI_.row rfl
def Ybi:=J @anoI_.ae.eq_1<|J @anoI_.fv.eq_1<|J @outI_.q<|J @outI_.ar.eq_1<|J @outI_.fv.eq_1<|J @has_.q<|J @has_.ar.eq_1<|J @has_.fv.eq_1<|J @step_.q<|J @step_.ar.eq_1<|J @step_.fv.eq_1<|J @step_.re.eq_1<|J @woA.q<|J @woA.ar.eq_1<|J @woA.fv.eq_1<|J @bindA.q @bindA.fv.eq_1
theorem anoI_.ok:Qas Tryz.prog 92 anoI_.row:=by
 refine Qaj Qaq (tC outI_.ok (tC has_.ok (tC step_.ok (tC woA.ok (tC bindA.ok tN))))) Tryz.func92 rfl (by kernel_rfl) (by kernel_rfl) (ar:=anoI_.ar) (ae:=anoI_.ae) (Qaca (Qacc 8 Pld.d_le) Qab9) (n:=2) (fun _=>rfl) (by decide) (rc:=(Qa8)) (re:=(D.bool)) (Qat) (f:=anoI_.fv) ?_;intro a hpre;simp only[Tryz.f92,Option.getD];simp(maxSteps:=9^9)(disch:=omega)only[ZZ,simprocAttr,rch,Ybi,bindA.ar];obtain⟨x,i⟩:=a;obtain⟨⟨h1,h2,h3,h4,h5,h6,h7,h8⟩,h9,h10⟩:=hpre;simp only at h1 h2 h3 h4 h5 h6 h7 h8 h9 h10⊢;obtain⟨n,hn⟩: ∃n:Nat,i=n:=⟨i.toNat,by omega⟩;subst hn;rw[Zak];refine⟨h9,h10,fun o ho=> ?_⟩;have hos:=h2 o (Zad ho);obtain⟨m,hm⟩: ∃m,m=ouM x.Seq x.Inputs n o.At 4:=⟨_,rfl⟩;have hmb:=ouM_b x.Seq x.Inputs n o.At 4;rw[<-hm] at hmb;refine Qay.ren ⟨{d:Nat//d<=4},fun d=>⟨[(20,.im (.int .i64 d.1)),(6,.own 3),(5,.ptr 1 0),(0,.ptr 0 0),(1,.im (.int .i64 n))],[(3,(true,.arr 58 2 ((Qam7 o.At m d.1).map Qae.c))),(1,(true,.cells 72 ((Opt.c o).map .im))),(0,(false,.view (Pld.c x)))],4⟩,fun d=>4 - d.1,fun d=>⟨by simp[Qad.good,belT,belH,Qam,AV.bel,belL,Opt.c],by simp⟩,⟨⟨0,ZaP _⟩,[(3,some 2)],?_⟩,fun d=> ?_⟩
 .simp only[subP];simp(maxSteps:=9^9)(disch:=omega)only[ZZ,simprocAttr,rch,Ybi,bindA.ar,Zag,Zaf,Qam7,Zan,ZaR]
  try simp
 obtain⟨d,hd⟩:=d;simp(maxSteps:=9^9)(disch:=omega)only[ZZ,simprocAttr,rch,Ybi,bindA.ar,sub,Qal];have hdw:d<4->IntKind.i64.wrap ((d:Int)+1)=((d+1:Nat):Int):=fun h=>by rw[Qak (by omega) (by omega)];omega
 have hgl:=Qank o.At m d;simp only[ho,ZaO,Zac,<-hm];refine⟨fun hd4=>⟨⟨h1,h2,h3,h4,by omega⟩,by omega,fun c1=>⟨⟨hos,by omega⟩,by simp[OneR,allD,D.one],by omega,⟨d+1,by omega⟩,[(3,some 5)],by simp only;omega,?_⟩,fun c1=>⟨⟨d+1,by omega⟩,[(3,some 3)],by simp only;omega,?_⟩⟩,fun hd4=> ?_⟩
 .simp only[subP];simp(maxSteps:=9^9)(disch:=omega)only[ZZ,simprocAttr,rch,Ybi,bindA.ar,Zag,Zaf];refine⟨hdw (by omega),?_⟩;simp[Qam7,c1,Qae.c]
 .simp only[subP];simp(maxSteps:=9^9)(disch:=omega)only[ZZ,simprocAttr,rch,Ybi,bindA.ar,Zag,Zaf];refine⟨hdw (by omega),?_⟩;rw[ZbS] at c1;simp[Qam7,c1]
 obtain rfl:d=4:=by omega
 have hrem:remP (Qam7 o.At m 4) x.End.Tiles=(witA x.End o.At m).Tiles:=ZbJ Asm.Tiles (wit_law x.End o.At m);rw[hrem];have hwi:=wit_in h6 o.At m;have hfin:anoI x n=anoK x.Sys (atA (witA x.End o.At m)) o.At o.Tile x.Sys.Set.Tiles.length:=by
  simp only[anoI,ho,ZaO,Zac,<-hm]
 obtain⟨rest,hrest⟩: ∃r,r=witA x.End o.At m:=⟨_,rfl⟩;rw[hfin];simp only[<-hrest] at hwi⊢;refine⟨h7,fun _=> ?_⟩;refine Qay.old ⟨{k:Nat//k<=x.Sys.Set.Tiles.length/\anoK x.Sys (atA rest) o.At o.Tile k=false},fun k=>⟨[(49,.im (.int .i64 k.1)),(48,.im (.int .i64 x.Sys.Set.Tiles.length)),(8,.ptr 4 0),(5,.ptr 1 0),(0,.ptr 0 0)],[(4,(true,.cells 45 [.im (.sl false 3 (rest.Tiles.map Qab.c))])),(1,(true,.cells 72 ((Opt.c o).map .im))),(0,(false,.view (Pld.c x)))],5⟩,fun k=>x.Sys.Set.Tiles.length - k.1,fun k=>⟨by simp[Qad.good,belT,belH,Qam,AV.bel,belL,Opt.c],by simp⟩,⟨⟨0,ZaP _,rfl⟩,by simp(maxSteps:=9^9)(disch:=omega)only[ZZ,simprocAttr,rch,Ybi,bindA.ar,sub]⟩,fun k=> ?_⟩;obtain⟨k,hk,hka⟩:=k;simp(maxSteps:=9^9)(disch:=omega)only[ZZ,simprocAttr,rch,Ybi,bindA.ar,sub,Qal];have hkw:k<x.Sys.Set.Tiles.length->IntKind.i64.wrap ((k:Int)+1)=((k+1:Nat):Int):=fun h=>by rw[Qak (by omega) (by omega)];omega
 have hin:inF x.Sys.Set (atA rest):=fun p hp=>Qafx hwi p hp
 refine⟨fun hk2=>⟨fun c1=>⟨⟨h5,hin,hos,⟨by omega,by omega⟩,hwi.1⟩,fun c2=> ?_,fun c2=>⟨⟨k+1,by omega,?_⟩,by simp only;omega,hkw hk2⟩⟩,fun c1=>⟨⟨k+1,by omega,?_⟩,by simp only;omega,hkw hk2⟩⟩,fun hk2=> ?_⟩
 .exact (Qang.2 ⟨k,hk2,c1,c2⟩).symm
 .simp only[anoK,hka,ZdW,ZcS c2,Zdk]
 .have:decide ((k:Int)≠o.Tile)=false:=ZcS (by omega)
  simp only[anoK,hka,ZdW,this,Zbr]
 .rw[<-hka,show k=x.Sys.Set.Tiles.length by omega]
def gpI(x:Pld)(i:Nat):Option (Int×Opt):=(x.Seq[i]?).bind fun o=>fltO x.Sys x.Strength o i (anoI x i)
def fltP(x:Pld):Option (Int×Opt):=(fsF (gpI x) x.Seq.length 0).or (endO (Qaj8 x.Sys x.End))
theorem ifcT:isIfc Tryz.prog 95=true:=by kernel_rfl
theorem con1:isCon Tryz.prog 145=true:=by kernel_rfl
theorem con2:isCon Tryz.prog 147=true:=by kernel_rfl
theorem con3:isCon Tryz.prog 148=true:=by kernel_rfl
theorem mk1:Qak8 Tryz.prog 145 "loop.example/g01081/impl.kind" =some 276:=by kernel_rfl
theorem mk2:Qak8 Tryz.prog 147 "loop.example/g01081/impl.kind" =some 278:=by kernel_rfl
theorem mk3:Qak8 Tryz.prog 148 "loop.example/g01081/impl.kind" =some 280:=by kernel_rfl
theorem ma1:Qak8 Tryz.prog 145 "loop.example/g01081/impl.at" =some 275:=by kernel_rfl
theorem ma2:Qak8 Tryz.prog 147 "loop.example/g01081/impl.at" =some 277:=by kernel_rfl
theorem ma3:Qak8 Tryz.prog 148 "loop.example/g01081/impl.at" =some 279:=by kernel_rfl
def k1_.ar:List PK->Option (Opt):=a1 (kR Opt.d)
def k1_.ae(a:Opt):List PK:=[.val (.agg (Opt.c a))]
def k1_.fv(a:Opt):Int:=(fun _=>1) a
def k1_.row:Row:=vrow k1_.ar (fun a=>True) (fun a=>(D.int .i64) (k1_.fv a))
def k1_.q:=vq k1_.row rfl
theorem k1_.ok:Qas Tryz.prog 276 k1_.row:=by
 refine Qaj Qaq tN Tryz.func276 rfl (by kernel_rfl) (by kernel_rfl) (ar:=k1_.ar) (ae:=k1_.ae) (Qacd (Qab8 Opt.d_le)) (n:=1) (fun _=>rfl) (by decide) (rc:=(vInt)) (re:=(D.int .i64)) (Qa3) (f:=k1_.fv) ?_;intro a hpre;simp only[Tryz.f276,Option.getD];simp(maxSteps:=9^9)(disch:=omega)only[ZZ,simprocAttr,rch,k1_.ae,k1_.fv]
 try trivial
def k2_.ar:List PK->Option (Opt):=a1 (kR Opt.d)
def k2_.ae(a:Opt):List PK:=[.val (.agg (Opt.c a))]
def k2_.fv(a:Opt):Int:=(fun _=>2) a
def k2_.row:Row:=vrow k2_.ar (fun a=>True) (fun a=>(D.int .i64) (k2_.fv a))
def k2_.q:=vq k2_.row rfl
theorem k2_.ok:Qas Tryz.prog 278 k2_.row:=by
 refine Qaj Qaq tN Tryz.func278 rfl (by kernel_rfl) (by kernel_rfl) (ar:=k2_.ar) (ae:=k2_.ae) (Qacd (Qab8 Opt.d_le)) (n:=1) (fun _=>rfl) (by decide) (rc:=(vInt)) (re:=(D.int .i64)) (Qa3) (f:=k2_.fv) ?_;intro a hpre;simp only[Tryz.f278,Option.getD];simp(maxSteps:=9^9)(disch:=omega)only[ZZ,simprocAttr,rch,k2_.ae,k2_.fv]
 try trivial
def k3_.ar:List PK->Option (Opt):=a1 (kR Opt.d)
def k3_.ae(a:Opt):List PK:=[.val (.agg (Opt.c a))]
def k3_.fv(a:Opt):Int:=(fun _=>3) a
def k3_.row:Row:=vrow k3_.ar (fun a=>True) (fun a=>(D.int .i64) (k3_.fv a))
def k3_.q:=vq k3_.row rfl
theorem k3_.ok:Qas Tryz.prog 280 k3_.row:=by
 refine Qaj Qaq tN Tryz.func280 rfl (by kernel_rfl) (by kernel_rfl) (ar:=k3_.ar) (ae:=k3_.ae) (Qacd (Qab8 Opt.d_le)) (n:=1) (fun _=>rfl) (by decide) (rc:=(vInt)) (re:=(D.int .i64)) (Qa3) (f:=k3_.fv) ?_;intro a hpre;simp only[Tryz.f280,Option.getD];simp(maxSteps:=9^9)(disch:=omega)only[ZZ,simprocAttr,rch,k3_.ae,k3_.fv]
 try trivial
def p1_.ar:List PK->Option (Opt):=a1 (kR Opt.d)
def p1_.ae(a:Opt):List PK:=[.val (.agg (Opt.c a))]
def p1_.fv(a:Opt):Qae:=(fun o=>o.At) a
def p1_.row:Row:=vrow p1_.ar (fun a=>True) (fun a=>(fun b=>D.agg (Qae.c b)) (p1_.fv a))
def p1_.q:=vq p1_.row rfl
theorem p1_.ok:Qas Tryz.prog 275 p1_.row:=by
 refine Qaj Qaq tN Tryz.func275 rfl (by kernel_rfl) (by kernel_rfl) (ar:=p1_.ar) (ae:=p1_.ae) (Qacd (Qab8 Opt.d_le)) (n:=1) (fun _=>rfl) (by decide) (rc:=(vAgg Qae.d)) (re:=(fun b=>D.agg (Qae.c b))) (Qb1 Qae.d_le) (f:=p1_.fv) ?_;intro a hpre;simp only[Tryz.f275,Option.getD];simp(maxSteps:=9^9)(disch:=omega)only[ZZ,simprocAttr,rch,p1_.ae,p1_.fv]
 try trivial
def p2_.ar:List PK->Option (Opt):=a1 (kR Opt.d)
def p2_.ae(a:Opt):List PK:=[.val (.agg (Opt.c a))]
def p2_.fv(a:Opt):Qae:=(fun o=>o.At) a
def p2_.row:Row:=vrow p2_.ar (fun a=>True) (fun a=>(fun b=>D.agg (Qae.c b)) (p2_.fv a))
def p2_.q:=vq p2_.row rfl
theorem p2_.ok:Qas Tryz.prog 277 p2_.row:=by
 refine Qaj Qaq tN Tryz.func277 rfl (by kernel_rfl) (by kernel_rfl) (ar:=p2_.ar) (ae:=p2_.ae) (Qacd (Qab8 Opt.d_le)) (n:=1) (fun _=>rfl) (by decide) (rc:=(vAgg Qae.d)) (re:=(fun b=>D.agg (Qae.c b))) (Qb1 Qae.d_le) (f:=p2_.fv) ?_;intro a hpre;simp only[Tryz.f277,Option.getD];simp(maxSteps:=9^9)(disch:=omega)only[ZZ,simprocAttr,rch,p2_.ae,p2_.fv]
 try trivial
def p3_.ar:List PK->Option (Opt):=a1 (kR Opt.d)
def p3_.ae(a:Opt):List PK:=[.val (.agg (Opt.c a))]
def p3_.fv(a:Opt):Qae:=(fun o=>o.At) a
def p3_.row:Row:=vrow p3_.ar (fun a=>True) (fun a=>(fun b=>D.agg (Qae.c b)) (p3_.fv a))
def p3_.q:=vq p3_.row rfl
theorem p3_.ok:Qas Tryz.prog 279 p3_.row:=by
 refine Qaj Qaq tN Tryz.func279 rfl (by kernel_rfl) (by kernel_rfl) (ar:=p3_.ar) (ae:=p3_.ae) (Qacd (Qab8 Opt.d_le)) (n:=1) (fun _=>rfl) (by decide) (rc:=(vAgg Qae.d)) (re:=(fun b=>D.agg (Qae.c b))) (Qb1 Qae.d_le) (f:=p3_.fv) ?_;intro a hpre;simp only[Tryz.f279,Option.getD];simp(maxSteps:=9^9)(disch:=omega)only[ZZ,simprocAttr,rch,p3_.ae,p3_.fv]
 try trivial
def flt_.ar:List PK->Option (Pld):=a1 (kP Pld.d 8)
def flt_.ae(a:Pld):List PK:=[.ptr (Pld.c a)]
def flt_.fv(a:Pld):Option (Int×Opt):=(fltP) a
def flt_.row:Row:=vrow flt_.ar (fun a=>pldOk a/\a.Strength.length=a.Seq.length/\a.End.Tiles.length<=500/\1<=a.Sys.Temperature) (fun a=>(flE) (flt_.fv a))
def flt_.q:=vq flt_.row rfl
def Ybj:=J @flt_.ae.eq_1<|J @flt_.fv.eq_1<|J @anoI_.q<|J @anoI_.ar.eq_1 @anoI_.fv.eq_1
theorem flt_.ok:Qas Tryz.prog 51 flt_.row:=by
 refine Qaj Qaq (tC anoI_.ok (tC newC.ok (tC lisC.ok tN))) Tryz.func51 rfl (by kernel_rfl) (by kernel_rfl) (ar:=flt_.ar) (ae:=flt_.ae) (Qacd (Qacc 8 Pld.d_le)) (n:=1) (fun _=>rfl) (by decide) (rc:=(flD)) (re:=(flE)) (flD_le) (f:=flt_.fv) ?_;intro a hpre;simp only[Tryz.f51,Option.getD];simp(maxSteps:=9^9)(disch:=omega)only[ZZ,simprocAttr,rch,Ybj,ifcT,con1,con2,con3];obtain⟨⟨h1,h2,h3,h4,h5,h6,h7,h8⟩,h9,h10,h11⟩:=hpre;intro _;simp only[fltP];refine Qay.old ⟨{i:Nat//i<=a.Seq.length/\fsF (gpI a) (a.Seq.length - i) i=fsF (gpI a) a.Seq.length 0},fun i=>⟨[(11,.im (.int .i64 i.1)),(10,.im (.int .i64 a.Seq.length)),(9,.im (.sl false 3 (a.Seq.map Opt.c))),(2,.im .nili),(0,.ptr 0 0)],[(0,(false,.view (Pld.c a)))],1⟩,fun i=>a.Seq.length - i.1,fun i=>⟨by simp[Qad.good,belT,belH,Qam,AV.bel,belL],by simp⟩,⟨⟨0,ZaP _,rfl⟩,by simp(maxSteps:=9^9)(disch:=omega)only[ZZ,simprocAttr,rch,Ybj,sub]⟩,fun i=> ?_⟩;obtain⟨i,hi,hfi⟩:=i;simp(maxSteps:=9^9)(disch:=omega)only[ZZ,simprocAttr,rch,Ybj,sub,Qal,ifcT,con1,con2,con3];have hiw:i<a.Seq.length->IntKind.i64.wrap ((i:Int)+1)=((i+1:Nat):Int):=fun h=>by rw[Qak (by omega) (by omega)];omega
 refine⟨fun hi2=>⟨hi2,fun o ho=>⟨by omega,fun v hv=>⟨fun c1=> ?_,fun c1=>⟨⟨⟨h1,h2,h3,h4,h5,h6,h7,h8⟩,hi2⟩,fun c2=> ?_,fun c2=>⟨⟨i+1,by omega,?_⟩,by simp only;omega,hiw hi2⟩⟩⟩⟩⟩,fun hi2=> ?_⟩
 .have hg:gpI a i=some (1,o):=by
   simp only[gpI,ho,Zby,fltO,hv,Zac];rw[Zam c1]
  rw[Qanb hi2 hfi hg];rfl
 .have hg:gpI a i=some (2,o):=by
   simp only[gpI,ho,Zby,fltO,hv,Zac];rw[Zai c1,Zam c2]
  rw[Qanb hi2 hfi hg];rfl
 .refine Qanr hi2 hfi ?_;simp only[gpI,ho,Zby,fltO,hv,Zac];rw[Zai c1,Zai c2]
 obtain rfl:i=a.Seq.length:=by omega
 rw[fsF_end hfi,Zdm];have hnp:newC.pre (a.Sys,a.End):=⟨h5,by simp only;omega,fun y hy=>⟨h6.2 y hy,Qkc (Qh6 _ none h6.1 y hy).1⟩⟩;have hat:Qbw (tlUp a.End.Tiles)=atA a.End:=(RM.of h6.1 fun x hx=>(h6.2 x hx).1).at;have hop:OpOk a.Sys (atA a.End) (Qui a.Sys a.End).Op:=by
  have:=op_new (s:=a.Sys) (l:=a.End.Tiles) h11
  rw[hat] at this;simp only[Qui,hat];exact this
 obtain⟨g1,g2,g3⟩:=op_lim h11 h10 h8 hop;refine orow.os (a.Sys,a.End) [] hnp (fun j=>by simp[domB,hget]) rfl rfl ?_ ?_
 .simp(maxSteps:=9^9)(disch:=omega)only[ZZ,simprocAttr,rch,Ybj,newC.ca,Qer,Qar.c,Asm.c]
 simp(maxSteps:=9^9)(disch:=omega)only[ZZ,simprocAttr,rch,Ybj,newC.H1,sub];refine orow.os (Qui a.Sys a.End) [5,3,4] g2 (fun j=>Qack _ j) rfl rfl ?_ ?_
 .simp(maxSteps:=9^9)(disch:=omega)only[ZZ,simprocAttr,rch,Ybj,asmC.ca,cryH,Qbk,Zbd,Zbk,ZbX]
  try exact⟨rfl,rfl,rfl,rfl⟩
 simp(maxSteps:=9^9)(disch:=omega)only[ZZ,simprocAttr,rch,Ybj,lisC.r0,sub,g1,Qal,ifcT,con1,con2,con3];intro _;refine⟨fun c=>⟨c,fun x hx=> ?_⟩,fun c=> ?_⟩
 .cases hL:Qaj8 a.Sys a.End with
  |nil=>rw[hL] at hx;cases hx
  |cons y r=>
   rw[hL] at hx;obtain rfl:y=x:=by simpa using hx
   rfl
 .have:Qaj8 a.Sys a.End=[]:=ZbQ.1 (by omega)
  rw[this];rfl
theorem Qn3{n:Nat}{l:Int}(h:0<=szC n l):(n:Int)<=l/\szC n l<=l/\0<=l:=by
 simp only[szC] at h⊢;split at h
 .omega
 .rename_i c;rw[Zai c];omega
theorem Qu5: ∀(a:List Tile) (l:Int),0<=l->l<=1048576->0<=Qdz Qcn a l-> ∀x∈a,x.Sides.length<=1073741824
 |[],_,_,_,_=>by intro x hx;cases hx
 |y::r,l,h0,hl,h=>by
  simp only[Qdz] at h;split at h
  .omega
  .rename_i c;have hy:0<=Qcn y l:=by omega
   have h1:0<=szC y.Name.size l:=by
    simp only[Qcn] at hy;split at hy
    .omega
    .omega
   have e:Qcn y l=szC y.Sides.length (szC y.Name.size l):=by
    simp only[Qcn];rw[Zai (by omega)]
   rw[e] at hy h;obtain⟨a1,a2,a3⟩:=Qn3 hy;obtain⟨b1,b2,b3⟩:=Qn3 h1;intro x hx;rcases Zav.1 hx with rfl|hx
   .omega
   .exact Qu5 r _ hy (by omega) h x hx
theorem szSet_sm{s:Qaa}{l:Int}(hl: -1<=l)(hl2:l<=1048576)(h:0<=Qqd s l):smSet s:=by
 have hg:=Qo1 s.Glues l hl;simp only[Qqd] at h;split at h
 .omega
 rename_i c;have hg0:0<=Qcj s.Glues l:=by omega
 have hgc:0<=szC s.Glues.length l:=by
  simp only[Qcj] at hg0;split at hg0
  .omega
  .omega
 have htc:0<=szC s.Tiles.length (Qcj s.Glues l):=by
  simp only[Qds] at h;split at h
  .omega
  .omega
 have e:Qds s.Tiles (Qcj s.Glues l)=Qdz Qcn s.Tiles (szC s.Tiles.length (Qcj s.Glues l)):=by
  simp only[Qds];rw[Zai (by omega)]
 rw[e] at h;obtain⟨a1,a2,a3⟩:=Qn3 hgc;obtain⟨b1,b2,b3⟩:=Qn3 htc;exact⟨by omega,by omega,Qu5 s.Tiles _ htc (by omega) h⟩
theorem Qz9{s:Qar}{l:Int}(hl: -1<=l)(hl2:l<=1048576)(h:0<=Qlr s l):smSys s:=by
 have hb:=Qxk s.Set l hl;simp only[Qlr] at h;split at h
 .omega
 rename_i c;obtain⟨a1,a2,a3⟩:=Qn3 h;exact⟨szSet_sm hl hl2 (by omega),by omega⟩
theorem flt_pld{s:Qar}{l:List Opt}(h:seqP s l):fltP ⟨s,l,Qac9 s.Seed l,insS s s.Seed l,smsS s s.Seed l⟩=fltS s l:=by
 rw[<-flt_law h];simp only[fltP];rw[Qand l.length 0 (h:=gfI s l) fun i _ _=> ?_];simp only[gpI,gfI,anoI];cases l[i]? <;>rfl
theorem fltO_k{s:Qar}{sms:List Int}{o:Opt}{i:Nat}{m:Bool}{q:Int×Opt}(h:fltO s sms o i m=some q):q.1=1\/q.1=2:=by
 simp only[fltO] at h;split at h
 .obtain rfl:=Zaa h;exact .inl rfl
 .split at h
  .obtain rfl:=Zaa h;exact .inr rfl
  .cases h
theorem fsF_k{g:Nat->Option (Int×Opt)}(hg: ∀i q,g i=some q->q.1=1\/q.1=2): ∀(n k:Nat) (q:Int×Opt),fsF g n k=some q->q.1=1\/q.1=2
 |n+1,k,q,h=>by
  simp only[fsF] at h;cases hk:g k with
  |none=>rw[hk,Zdm] at h;exact fsF_k hg n (k+1) q h
  |some r=>rw[hk,ZeS] at h;obtain rfl:=Zaa h;exact hg k _ hk
theorem fltS_k{s:Qar}{l:List Opt}{q:Int×Opt}(h:fltS s l=some q):q.1=1\/q.1=2\/q.1=3:=by
 simp only[fltS] at h;cases hf:fsF (gfS s l) l.length 0 with
 |some r=>
  rw[hf,ZeS] at h;obtain rfl:=Zaa h
  have:=fsF_k (g:=gfS s l) (fun i q hq=>by
   simp only[gfS,ZaH] at hq;obtain⟨o,_,h2⟩:=hq;exact fltO_k h2) _ _ _ hf
  rcases this with h|h
  .exact .inl h
  .exact .inr (.inl h)
 |none=>
  rw[hf,Zdm] at h;cases he:Qaj8 s (Qac9 s.Seed l) with
  |nil=>rw[he] at h;cases h
  |cons o r=>rw[he] at h;obtain rfl:=Zaa h;exact .inr (.inr rfl)
theorem Qanq(s:Qar): ∀(l:List Opt) (a:Asm) (i:Nat),(Qacg s a l i).2.2≠3
 |[],_,_=>by simp[Qacg]
 |o::r,a,i=>by
  simp only[Qacg];split
  .simp
  .split
   .simp
   .exact Qanq s r _ _
theorem seqS_n3(s:Qar)(l:List Opt):(seqS s l).2.2≠3:=by
 simp only[seqS];split
 .simp
 .split
  .simp
  .exact Qanq s l _ _
theorem lfF_no{s:Qar}{l:List Opt}(h:(seqS s l).2.2≠0):lfF s l=(0,⟨0,0⟩,(seqS s l).2.2):=by simp only[lfF];rw[Zam h]
theorem lfF_ok{s:Qar}{l:List Opt}(h:(seqS s l).2.2=0):lfF s l=fltR (fltS s l):=by simp only[lfF];rw[Zai (fun c=>c h)]
theorem pld_ok{s:Qar}{l:List Opt}(c0:(seqS s l).2.2=0):(seqS s l).1=Qac9 s.Seed l/\seqP s l/\s.Seed.Tiles.length<=500/\1<=s.Temperature/\(Qac9 s.Seed l).Tiles.length<=500/\pldOk ⟨s,l,Qac9 s.Seed l,insS s s.Seed l,smsS s s.Seed l⟩:=by
 obtain⟨hE,hp,hso⟩:=seqS_ok c0;have hp':=hp;obtain⟨q1,q2,q3,q4,q5,q6⟩:=hp';have h5:s.Seed.Tiles.length<=500:=(Qdg (Qacj hso).2.2).2;have hT:1<=s.Temperature:=by
  simp only[Qjc,Qau,Zah,Zap] at hso;exact hso.2.2.2.1.1
 have he5:=Qanh l s.Seed h5 q5;have hend:Qn7 s.Set (Qac9 s.Seed l):=by
  have:=Qafb q3 q2 q5 l.length (Zal _)
  rwa [Zbu] at this
 exact⟨hE,hp,h5,hT,he5,Qaf6 q5,fun o ho=>by
  obtain⟨k,hk⟩:=Zbq.1 ho;exact (Qadk (q5 k o hk).1).2.1,Qadv ..,q6,q1,hend,by simp only;omega,q3⟩
def lfI_.ar:List PK->Option (Qar×(List Opt)):=a2 (kR Qar.d) (kS Opt.d)
def lfI_.ae(a:Qar×(List Opt)):List PK:=[.val (.agg (Qar.c a.1)),.val (.sl false 3 (a.2.map Opt.c))]
def lfI_.fv(a:Qar×(List Opt)):Int×Qae×Int:=(lfF) (a.1) (a.2)
def lfI_.row:Row:=vrow lfI_.ar (fun a=>Qf6 a.1.Set) (fun a=>(fun b=>D.tup [(D.int .i64) (b.1),(fun b=>D.agg (Qae.c b)) (b.2.1),(D.int .i64) (b.2.2)]) (lfI_.fv a))
def lfI_.q:=vq lfI_.row rfl
def Ybk:=J @lfI_.ae.eq_1<|J @lfI_.fv.eq_1<|J @play_.q<|J @play_.ar.eq_1<|J @play_.fv.eq_1<|J @flt_.q<|J @flt_.ar.eq_1<|J @flt_.fv.eq_1<|J @k1_.q<|J @k1_.ar.eq_1<|J @k1_.fv.eq_1<|J @k2_.q<|J @k2_.ar.eq_1<|J @k2_.fv.eq_1<|J @k3_.q<|J @k3_.ar.eq_1<|J @k3_.fv.eq_1<|J @p1_.q<|J @p1_.ar.eq_1<|J @p1_.fv.eq_1<|J @p2_.q<|J @p2_.ar.eq_1<|J @p2_.fv.eq_1<|J @p3_.q<|J @p3_.ar.eq_1 @p3_.fv.eq_1
theorem lfI_.ok:Qas Tryz.prog 21 lfI_.row:=by
 refine Qaj Qaq (tC play_.ok (tC flt_.ok (tC k1_.ok (tC k2_.ok (tC k3_.ok (tC p1_.ok (tC p2_.ok (tC p3_.ok tN)))))))) Tryz.func21 rfl (by kernel_rfl) (by kernel_rfl) (ar:=lfI_.ar) (ae:=lfI_.ae) (Qaca (Qab8 Qar.d_le) (Qacb 3 Opt.d_le (fun _=>rfl))) (n:=2) (fun _=>rfl) (by decide) (rc:=(Qac1 (vInt) (vAgg Qae.d) (vInt))) (re:=(fun b=>D.tup [(D.int .i64) (b.1),(fun b=>D.agg (Qae.c b)) (b.2.1),(D.int .i64) (b.2.2)])) (Qact (Qa3) (Qb1 Qae.d_le) (Qa3)) (f:=lfI_.fv) ?_;intro a hpre;simp only[Tryz.f21,Option.getD];simp(maxSteps:=9^9)(disch:=omega)only[ZZ,simprocAttr,rch,Ybk,ifcT,con1,con2,con3,mk1,mk2,mk3,ma1,ma2,ma3];obtain⟨s,l⟩:=a;simp only at hpre⊢;refine⟨hpre,?_⟩;by_cases c0:(seqS s l).2.2=0
 case neg=>
  have eP:Qae2 s l=(none,(seqS s l).2.2):=by simp only[Qae2];rw[Zam c0]
  rw[eP,Zam c0,lfF_no c0]
 have eP:Qae2 s l=(some ⟨s,l,(seqS s l).1,insS s s.Seed l,smsS s s.Seed l⟩,0):=by
  simp only[Qae2];rw[Zai (fun h=>h c0)]
 obtain⟨hE,hp,h5,hT,he5,hpo⟩:=pld_ok c0;rw[hE] at eP;simp only[eP];rw[Zai (by simp)];have key: ∀x:Pld,(kP Pld.d 8 (pkI (plE (some x))))=some x:=fun x=>Pld.d_c x
 simp only[key,Zby,decK];refine⟨⟨hpo,Qael ..,he5,hT⟩,?_⟩;rw[flt_pld hp,lfF_ok c0];cases hf:fltS s l with
 |none=>
  simp only[flE];simp(maxSteps:=9^9)(disch:=omega)only[ZZ,simprocAttr,rch,Ybk,ifcT,con1,con2,con3,mk1,mk2,mk3,ma1,ma2,ma3];rfl
 |some q=>
  obtain⟨k,o⟩:=q;rcases fltS_k hf with h|h|h
  all_goals
   simp only at h;subst h;simp only[flE];simp(maxSteps:=9^9)(disch:=omega)only[ZZ,simprocAttr,rch,Ybk,ifcT,con1,con2,con3,mk1,mk2,mk3,ma1,ma2,ma3];rfl
def islI_.ar:List PK->Option (Qar×(List Opt)):=a2 (kR Qar.d) (kS Opt.d)
def islI_.ae(a:Qar×(List Opt)):List PK:=[.val (.agg (Qar.c a.1)),.val (.sl false 3 (a.2.map Opt.c))]
def islI_.fv(a:Qar×(List Opt)):Bool:=(fun s l=>decide ((lfF s l).2.2=3)) (a.1) (a.2)
def islI_.row:Row:=vrow islI_.ar (fun a=>Qf6 a.1.Set) (fun a=>(D.bool) (islI_.fv a))
def islI_.q:=vq islI_.row rfl
theorem islI_.ok:Qas Tryz.prog 24 islI_.row:=by
 refine Qaj Qaq (tC lfI_.ok tN) Tryz.func24 rfl (by kernel_rfl) (by kernel_rfl) (ar:=islI_.ar) (ae:=islI_.ae) (Qaca (Qab8 Qar.d_le) (Qacb 3 Opt.d_le (fun _=>rfl))) (n:=2) (fun _=>rfl) (by decide) (rc:=(Qa8)) (re:=(D.bool)) (Qat) (f:=islI_.fv) ?_;intro a hpre;simp only[Tryz.f24,Option.getD];simp(maxSteps:=9^9)(disch:=omega)only[ZZ,simprocAttr,rch,islI_.ae,islI_.fv,lfI_.q,lfI_.ar,lfI_.fv];exact hpre
def lfS_.ar:List PK->Option (Qar×(List Opt)):=a2 (kR Qar.d) (kS Opt.d)
def lfS_.ae(a:Qar×(List Opt)):List PK:=[.val (.agg (Qar.c a.1)),.val (.sl false 3 (a.2.map Opt.c))]
def lfS_.fv(a:Qar×(List Opt)):Int×Qae×Int:=(lfF) (a.1) (a.2)
def lfS_.row:Row:=vrow lfS_.ar (fun a=>True) (fun a=>(fun b=>D.tup [(D.int .i64) (b.1),(fun b=>D.agg (Qae.c b)) (b.2.1),(D.int .i64) (b.2.2)]) (lfS_.fv a))
def lfS_.q:=vq lfS_.row rfl
theorem lfS_.ok:Qas Tryz.prog 20 lfS_.row:=by
 refine Qaj Qaq (tC l10Asked.ok (tC fltS_.ok tN)) Tryz.func20 rfl (by kernel_rfl) (by kernel_rfl) (ar:=lfS_.ar) (ae:=lfS_.ae) (Qaca (Qab8 Qar.d_le) (Qacb 3 Opt.d_le (fun _=>rfl))) (n:=2) (fun _=>rfl) (by decide) (rc:=(Qac1 (vInt) (vAgg Qae.d) (vInt))) (re:=(fun b=>D.tup [(D.int .i64) (b.1),(fun b=>D.agg (Qae.c b)) (b.2.1),(D.int .i64) (b.2.2)])) (Qact (Qa3) (Qb1 Qae.d_le) (Qa3)) (f:=lfS_.fv) ?_;intro a hpre;simp only[Tryz.f20,Option.getD];simp(maxSteps:=9^9)(disch:=omega)only[ZZ,simprocAttr,rch,lfS_.ae,lfS_.fv,l10Asked.q,l10Asked.ar,l10Asked.fv,fltS_.q,fltS_.ar,fltS_.fv];obtain⟨s,l⟩:=a;simp only;by_cases c0:(seqS s l).2.2=0
 case neg=>rw[Zam c0,lfF_no c0]
 rw[Zai (fun h=>h c0),lfF_ok c0];obtain⟨hE,hp,h5,hT,he5,hpo⟩:=pld_ok c0;refine⟨⟨hp,h5⟩,?_⟩;cases hf:fltS s l with
 |none=>rfl
 |some q=>
  obtain⟨k,o⟩:=q
  have:=fltS_k hf
  simp only at this;simp only[fltK,fltR];rw[Zai (by omega)];trivial
def islS_.ar:List PK->Option (Qar×(List Opt)):=a2 (kR Qar.d) (kS Opt.d)
def islS_.ae(a:Qar×(List Opt)):List PK:=[.val (.agg (Qar.c a.1)),.val (.sl false 3 (a.2.map Opt.c))]
def islS_.fv(a:Qar×(List Opt)):Bool:=(fun s l=>decide ((lfF s l).2.2=3)) (a.1) (a.2)
def islS_.row:Row:=vrow islS_.ar (fun a=>True) (fun a=>(D.bool) (islS_.fv a))
def islS_.q:=vq islS_.row rfl
theorem islS_.ok:Qas Tryz.prog 23 islS_.row:=by
 refine Qaj Qaq (tC l10Asked.ok (tC fltS_.ok tN)) Tryz.func23 rfl (by kernel_rfl) (by kernel_rfl) (ar:=islS_.ar) (ae:=islS_.ae) (Qaca (Qab8 Qar.d_le) (Qacb 3 Opt.d_le (fun _=>rfl))) (n:=2) (fun _=>rfl) (by decide) (rc:=(Qa8)) (re:=(D.bool)) (Qat) (f:=islS_.fv) ?_;intro a hpre;simp only[Tryz.f23,Option.getD];simp(maxSteps:=9^9)(disch:=omega)only[ZZ,simprocAttr,rch,islS_.ae,islS_.fv,l10Asked.q,l10Asked.ar,l10Asked.fv,fltS_.q,fltS_.ar,fltS_.fv];obtain⟨s,l⟩:=a;simp only;by_cases c0:(seqS s l).2.2=0
 case neg=>rw[Zam c0,lfF_no c0,ZcS (seqS_n3 s l)]
 rw[Zai (fun h=>h c0),lfF_ok c0];obtain⟨hE,hp,h5,hT,he5,hpo⟩:=pld_ok c0;refine⟨⟨hp,h5⟩,?_⟩;cases hf:fltS s l with
 |none=>rfl
 |some q=>
  obtain⟨k,o⟩:=q
  have:=fltS_k hf
  simp only at this;show decide (k=0)=decide ((0:Int)=3);rw[ZcS (by omega)];rfl
def lawLF.ar:List PK->Option (Qar×(List Opt)):=a2 (kR Qar.d) (kS Opt.d)
def lawLF.ae(a:Qar×(List Opt)):List PK:=[.val (.agg (Qar.c a.1)),.val (.sl false 3 (a.2.map Opt.c))]
def lawLF.rc:D->Option (Bool):=Qa8
def lawLF.re:Bool->D:=D.bool
theorem lawLF.rle: ∀d b,lawLF.rc d=some b->Le d (lawLF.re b):=Qat
def lawLF.fv(a:Qar×(List Opt)):Bool:=(fun _ _=>true) (a.1) (a.2)
def lawLF.row:Row:=vrow lawLF.ar (fun a=>nmOk a.1.Set) (fun a=>lawLF.re (lawLF.fv a))
def lawLF.q:=vq lawLF.row rfl
theorem lawLF.ok:Qas Tryz.prog 5 lawLF.row:=by
 refine Qaj Qaq (tC szSystem.ok (tC szOptionS.ok (tC toSystem.ok (tC toOptionS.ok (tC lfS_.ok (tC lfI_.ok (tC eqPoint.ok (tC eqSystem.ok (tC eqOptionS.ok tN))))))))) Tryz.func5 rfl (by kernel_rfl) (by kernel_rfl) (ar:=lawLF.ar) (ae:=lawLF.ae) (Qaca (Qab8 Qar.d_le) (Qacb 3 Opt.d_le (fun _=>rfl))) (n:=2) (fun _=>rfl) (by decide) (rc:=lawLF.rc) (re:=lawLF.re) lawLF.rle (f:=lawLF.fv) ?_;intro a hpre;simp only[Tryz.f5,Option.getD];simp(maxSteps:=9^9)(disch:=omega)only[ZZ,simprocAttr,rch,lawLF.ae,lawLF.fv,lawLF.rc,szSystem.q,szSystem.ar,szSystem.fv,szOptionS.q,szOptionS.ar,szOptionS.fv,toSystem.q,toSystem.ar,toSystem.fv,toOptionS.q,toOptionS.ar,toOptionS.fv,lfS_.q,lfS_.ar,lfS_.fv,lfI_.q,lfI_.ar,lfI_.fv,eqPoint.q,eqPoint.ar,eqPoint.fv,eqSystem.q,eqSystem.ar,eqSystem.fv,eqOptionS.q,eqOptionS.ar,eqOptionS.fv];obtain⟨s,l⟩:=a;simp only at hpre⊢;refine⟨hpre,?_⟩;split
 .trivial
 rename_i c1;have h1:=Qz9 (s:=s) (l:=1048576) (by decide) (by decide) (by omega);have hb:=szSys_b s 1048576 (by decide);refine⟨⟨by omega,by omega⟩,?_⟩;split
 .trivial
 rename_i c2;obtain⟨b1,_,_⟩:=Qn3 (n:=l.length) (l:=Qlr s 1048576) (by omega);have h3:l.length<=1073741824:=by omega
 exact⟨h1,h3,h1,h3,hpre,h1,h3⟩
def lawIL.ar:List PK->Option (Qar×(List Opt)):=a2 (kR Qar.d) (kS Opt.d)
def lawIL.ae(a:Qar×(List Opt)):List PK:=[.val (.agg (Qar.c a.1)),.val (.sl false 3 (a.2.map Opt.c))]
def lawIL.rc:D->Option (Bool):=Qa8
def lawIL.re:Bool->D:=D.bool
theorem lawIL.rle: ∀d b,lawIL.rc d=some b->Le d (lawIL.re b):=Qat
def lawIL.fv(a:Qar×(List Opt)):Bool:=(fun _ _=>true) (a.1) (a.2)
def lawIL.row:Row:=vrow lawIL.ar (fun a=>nmOk a.1.Set) (fun a=>lawIL.re (lawIL.fv a))
def lawIL.q:=vq lawIL.row rfl
theorem lawIL.ok:Qas Tryz.prog 6 lawIL.row:=by
 refine Qaj Qaq (tC szSystem.ok (tC szOptionS.ok (tC toSystem.ok (tC toOptionS.ok (tC islS_.ok (tC islI_.ok (tC eqSystem.ok (tC eqOptionS.ok tN)))))))) Tryz.func6 rfl (by kernel_rfl) (by kernel_rfl) (ar:=lawIL.ar) (ae:=lawIL.ae) (Qaca (Qab8 Qar.d_le) (Qacb 3 Opt.d_le (fun _=>rfl))) (n:=2) (fun _=>rfl) (by decide) (rc:=lawIL.rc) (re:=lawIL.re) lawIL.rle (f:=lawIL.fv) ?_;intro a hpre;simp only[Tryz.f6,Option.getD];simp(maxSteps:=9^9)(disch:=omega)only[ZZ,simprocAttr,rch,lawIL.ae,lawIL.fv,lawIL.rc,szSystem.q,szSystem.ar,szSystem.fv,szOptionS.q,szOptionS.ar,szOptionS.fv,toSystem.q,toSystem.ar,toSystem.fv,toOptionS.q,toOptionS.ar,toOptionS.fv,islS_.q,islS_.ar,islS_.fv,islI_.q,islI_.ar,islI_.fv,eqSystem.q,eqSystem.ar,eqSystem.fv,eqOptionS.q,eqOptionS.ar,eqOptionS.fv];obtain⟨s,l⟩:=a;simp only at hpre⊢;refine⟨hpre,?_⟩;split
 .trivial
 rename_i c1;have h1:=Qz9 (s:=s) (l:=1048576) (by decide) (by decide) (by omega);have hb:=szSys_b s 1048576 (by decide);refine⟨⟨by omega,by omega⟩,?_⟩;split
 .trivial
 rename_i c2;obtain⟨b1,_,_⟩:=Qn3 (n:=l.length) (l:=Qlr s 1048576) (by omega);have h3:l.length<=1073741824:=by omega
 refine⟨h1,h3,h1,h3,hpre,?_⟩;rw[bne_self_eq_false,Zai (by simp)];exact⟨h1,h3⟩
end Go.Ae
