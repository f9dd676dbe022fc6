/- Lemmas. Conditions: none. -/
import Derived.Test.YthegngjaiiopdaaGreatP11
import Derived.Shelf.SlSortCmp.WholeK
import Derived.Shelf.SlicesG.Cmp
import Derived.StillTailTactics
import Derived.Lib.Small
import Derived.Lib.Walk
import Derived.Shelf.SlSortCmp.NoneTotal
set_option linter.all false
set_option maxHeartbeats 8000000
set_option maxRecDepth 100000
namespace Go.Proofs
open Go.Shelf
def Tryz.sortPl_ren:Go.Shelf.Ren:=⟨fun|6=>178|15=>182|14=>203|28=>212|29=>213|20=>225|21=>226|22=>227|23=>228|24=>229|25=>230|26=>231|27=>232|46=>245|47=>234|48=>235|49=>246|50=>247|57=>252|n=>n,fun|22=>43|24=>160|25=>240|3=>3|39=>244|0=>0|53=>276|55=>278|4=>4|46=>270|45=>269|50=>223|5=>5|9=>9|66=>298|70=>302|76=>320|77=>321|n=>n,fun|n=>n⟩
theorem Tryz.sortPl:Go.Proofs.SlLaysF0.n6 Tryz.prog Tryz.sortPl_ren:={
 mixed:=by kernel_rfl
 f6:=⟨Tryz.f178.name,by decide,Tryz.func178.trans (ZbH some (by kernel_rfl))⟩
 f14:=⟨Tryz.f203.name,by decide,Tryz.func203.trans (ZbH some (by kernel_rfl))⟩
 f15:=Tryz.func182.trans (ZbH some (by kernel_rfl))
 f20:=⟨Tryz.f225.name,by decide,Tryz.func225.trans (ZbH some (by kernel_rfl))⟩
 f21:=⟨Tryz.f226.name,by decide,Tryz.func226.trans (ZbH some (by kernel_rfl))⟩
 f22:=⟨Tryz.f227.name,by decide,Tryz.func227.trans (ZbH some (by kernel_rfl))⟩
 f23:=⟨Tryz.f228.name,by decide,Tryz.func228.trans (ZbH some (by kernel_rfl))⟩
 f24:=⟨Tryz.f229.name,by decide,Tryz.func229.trans (ZbH some (by kernel_rfl))⟩
 f25:=⟨Tryz.f230.name,by decide,Tryz.func230.trans (ZbH some (by kernel_rfl))⟩
 f26:=⟨Tryz.f231.name,by decide,Tryz.func231.trans (ZbH some (by kernel_rfl))⟩
 f27:=⟨Tryz.f232.name,by decide,Tryz.func232.trans (ZbH some (by kernel_rfl))⟩
 f28:=Tryz.func212.trans (ZbH some (by kernel_rfl))
 f29:=Tryz.func213.trans (ZbH some (by kernel_rfl))
 f46:=⟨Tryz.f245.name,by decide,Tryz.func245.trans (ZbH some (by kernel_rfl))⟩
 f47:=Tryz.func234.trans (ZbH some (by kernel_rfl))
 f48:=Tryz.func235.trans (ZbH some (by kernel_rfl))
 f49:=⟨Tryz.f246.name,by decide,Tryz.func246.trans (ZbH some (by kernel_rfl))⟩
 f50:=⟨Tryz.f247.name,by decide,Tryz.func247.trans (ZbH some (by kernel_rfl))⟩
 f57:=⟨Tryz.f252.name,by decide,Tryz.func252.trans (ZbH some (by kernel_rfl))⟩
 t0:=Tryz.underlying0
 a0:=Tryz.isAgg0
 z0:=Tryz.sizeOf0
 v0:=Tryz.zeroValue0
 t3:=Tryz.underlying3
 a3:=Tryz.isAgg3
 z3:=Tryz.sizeOf3
 v3:=Tryz.zeroValue3
 t4:=Tryz.underlying4
 a4:=Tryz.isAgg4
 z4:=Tryz.sizeOf4
 v4:=Tryz.zeroValue4
 t5:=Tryz.underlying5
 a5:=Tryz.isAgg5
 z5:=Tryz.sizeOf5
 v5:=Tryz.zeroValue5
 t9:=Tryz.underlying9
 a9:=Tryz.isAgg9
 z9:=Tryz.sizeOf9
 v9:=Tryz.zeroValue9
 t22:=Tryz.underlying43
 a22:=Tryz.isAgg43
 z22:=Tryz.sizeOf43
 v22:=Tryz.zeroValue43
 t25:=Tryz.underlying240
 a25:=Tryz.isAgg240
 z25:=Tryz.sizeOf240
 v25:=Tryz.zeroValue240
 t39:=Tryz.underlying244
 a39:=Tryz.isAgg244
 z39:=Tryz.sizeOf244
 v39:=Tryz.zeroValue244
 t45:=Tryz.underlying269
 a45:=Tryz.isAgg269
 z45:=Tryz.sizeOf269
 v45:=Tryz.zeroValue269
 t46:=Tryz.underlying270
 a46:=Tryz.isAgg270
 z46:=Tryz.sizeOf270
 v46:=Tryz.zeroValue270
 t50:=Tryz.underlying223
 a50:=Tryz.isAgg223
 z50:=Tryz.sizeOf223
 v50:=Tryz.zeroValue223
 t53:=Tryz.underlying276
 a53:=Tryz.isAgg276
 z53:=Tryz.sizeOf276
 v53:=Tryz.zeroValue276
 t55:=Tryz.underlying278
 a55:=Tryz.isAgg278
 z55:=Tryz.sizeOf278
 v55:=Tryz.zeroValue278
 t66:=Tryz.underlying298
 a66:=Tryz.isAgg298
 z66:=Tryz.sizeOf298
 v66:=Tryz.zeroValue298
 t70:=Tryz.underlying302
 a70:=Tryz.isAgg302
 z70:=Tryz.sizeOf302
 v70:=Tryz.zeroValue302
 t76:=Tryz.underlying320
 a76:=Tryz.isAgg320
 z76:=Tryz.sizeOf320
 v76:=Tryz.zeroValue320
 t77:=Tryz.underlying321
 a77:=Tryz.isAgg321
 z77:=Tryz.sizeOf321
 v77:=Tryz.zeroValue321}
def Tryz.sortPt_ren:Go.Shelf.Ren:=⟨fun|6=>153|15=>182|14=>181|28=>212|29=>213|20=>204|21=>205|22=>206|23=>207|24=>208|25=>209|26=>210|27=>211|46=>233|47=>234|48=>235|49=>236|50=>237|57=>248|n=>n,fun|22=>158|24=>58|25=>181|3=>3|39=>244|0=>0|53=>276|55=>278|4=>4|46=>270|45=>269|50=>223|5=>5|9=>9|66=>298|70=>302|76=>320|77=>321|n=>n,fun|n=>n⟩
theorem Tryz.sortPt:Go.Proofs.SlLaysF0.n6 Tryz.prog Tryz.sortPt_ren:={
 mixed:=by kernel_rfl
 f6:=⟨Tryz.f153.name,by decide,Tryz.func153.trans (ZbH some (by kernel_rfl))⟩
 f14:=⟨Tryz.f181.name,by decide,Tryz.func181.trans (ZbH some (by kernel_rfl))⟩
 f15:=Tryz.func182.trans (ZbH some (by kernel_rfl))
 f20:=⟨Tryz.f204.name,by decide,Tryz.func204.trans (ZbH some (by kernel_rfl))⟩
 f21:=⟨Tryz.f205.name,by decide,Tryz.func205.trans (ZbH some (by kernel_rfl))⟩
 f22:=⟨Tryz.f206.name,by decide,Tryz.func206.trans (ZbH some (by kernel_rfl))⟩
 f23:=⟨Tryz.f207.name,by decide,Tryz.func207.trans (ZbH some (by kernel_rfl))⟩
 f24:=⟨Tryz.f208.name,by decide,Tryz.func208.trans (ZbH some (by kernel_rfl))⟩
 f25:=⟨Tryz.f209.name,by decide,Tryz.func209.trans (ZbH some (by kernel_rfl))⟩
 f26:=⟨Tryz.f210.name,by decide,Tryz.func210.trans (ZbH some (by kernel_rfl))⟩
 f27:=⟨Tryz.f211.name,by decide,Tryz.func211.trans (ZbH some (by kernel_rfl))⟩
 f28:=Tryz.func212.trans (ZbH some (by kernel_rfl))
 f29:=Tryz.func213.trans (ZbH some (by kernel_rfl))
 f46:=⟨Tryz.f233.name,by decide,Tryz.func233.trans (ZbH some (by kernel_rfl))⟩
 f47:=Tryz.func234.trans (ZbH some (by kernel_rfl))
 f48:=Tryz.func235.trans (ZbH some (by kernel_rfl))
 f49:=⟨Tryz.f236.name,by decide,Tryz.func236.trans (ZbH some (by kernel_rfl))⟩
 f50:=⟨Tryz.f237.name,by decide,Tryz.func237.trans (ZbH some (by kernel_rfl))⟩
 f57:=⟨Tryz.f248.name,by decide,Tryz.func248.trans (ZbH some (by kernel_rfl))⟩
 t0:=Tryz.underlying0
 a0:=Tryz.isAgg0
 z0:=Tryz.sizeOf0
 v0:=Tryz.zeroValue0
 t3:=Tryz.underlying3
 a3:=Tryz.isAgg3
 z3:=Tryz.sizeOf3
 v3:=Tryz.zeroValue3
 t4:=Tryz.underlying4
 a4:=Tryz.isAgg4
 z4:=Tryz.sizeOf4
 v4:=Tryz.zeroValue4
 t5:=Tryz.underlying5
 a5:=Tryz.isAgg5
 z5:=Tryz.sizeOf5
 v5:=Tryz.zeroValue5
 t9:=Tryz.underlying9
 a9:=Tryz.isAgg9
 z9:=Tryz.sizeOf9
 v9:=Tryz.zeroValue9
 t22:=Tryz.underlying158
 a22:=Tryz.isAgg158
 z22:=Tryz.sizeOf158
 v22:=Tryz.zeroValue158
 t25:=Tryz.underlying181
 a25:=Tryz.isAgg181
 z25:=Tryz.sizeOf181
 v25:=Tryz.zeroValue181
 t39:=Tryz.underlying244
 a39:=Tryz.isAgg244
 z39:=Tryz.sizeOf244
 v39:=Tryz.zeroValue244
 t45:=Tryz.underlying269
 a45:=Tryz.isAgg269
 z45:=Tryz.sizeOf269
 v45:=Tryz.zeroValue269
 t46:=Tryz.underlying270
 a46:=Tryz.isAgg270
 z46:=Tryz.sizeOf270
 v46:=Tryz.zeroValue270
 t50:=Tryz.underlying223
 a50:=Tryz.isAgg223
 z50:=Tryz.sizeOf223
 v50:=Tryz.zeroValue223
 t53:=Tryz.underlying276
 a53:=Tryz.isAgg276
 z53:=Tryz.sizeOf276
 v53:=Tryz.zeroValue276
 t55:=Tryz.underlying278
 a55:=Tryz.isAgg278
 z55:=Tryz.sizeOf278
 v55:=Tryz.zeroValue278
 t66:=Tryz.underlying298
 a66:=Tryz.isAgg298
 z66:=Tryz.sizeOf298
 v66:=Tryz.zeroValue298
 t70:=Tryz.underlying302
 a70:=Tryz.isAgg302
 z70:=Tryz.sizeOf302
 v70:=Tryz.zeroValue302
 t76:=Tryz.underlying320
 a76:=Tryz.isAgg320
 z76:=Tryz.sizeOf320
 v76:=Tryz.zeroValue320
 t77:=Tryz.underlying321
 a77:=Tryz.isAgg321
 z77:=Tryz.sizeOf321
 v77:=Tryz.zeroValue321}
def Tryz.cmpI64_ren:Go.Shelf.Ren:=⟨fun|5=>156|7=>183|n=>n,fun|22=>2|3=>3|4=>4|n=>n,fun|n=>n⟩
theorem Tryz.cmpI64:Go.Proofs.SlLaysC2.n5 Tryz.prog Tryz.cmpI64_ren:={
 mixed:=by kernel_rfl
 f5:=⟨Tryz.f156.name,by decide,Tryz.func156.trans (ZbH some (by kernel_rfl))⟩
 f7:=⟨Tryz.f183.name,by decide,Tryz.func183.trans (ZbH some (by kernel_rfl))⟩
 t3:=Tryz.underlying3
 a3:=Tryz.isAgg3
 z3:=Tryz.sizeOf3
 v3:=Tryz.zeroValue3
 t4:=Tryz.underlying4
 a4:=Tryz.isAgg4
 z4:=Tryz.sizeOf4
 v4:=Tryz.zeroValue4
 t22:=Tryz.underlying2
 a22:=Tryz.isAgg2
 z22:=Tryz.sizeOf2
 v22:=Tryz.zeroValue2}
end Go.Proofs
namespace Go.Proofs
open Go.Shelf Go.RowKit Go.Lib Go.Sort
theorem Tryz.cmp64(x y:Int)(W:World):Calls Tryz.prog 156 #[.int .i64 x,.int .i64 y] W fun e w'=>e= .returned (.int .i64 (Lib.compareInt x y))/\w'=W:=
 AnyG.cmp_Compare_int Tryz.cmpI64 x y W
theorem Tryz.orTwo(b:Nat)(x y:Int)(W:World)(h0:W.cell? ⟨b,0,none⟩=some (.int .i64 x))(h1:W.cell? ⟨b,1,none⟩=some (.int .i64 y)):
 Calls Tryz.prog 155 #[.slice (some ⟨b,0,none⟩) 2 2] W fun e w'=>e= .returned (.int .i64 (if x=0 then y else x))/\w'=W:=by
 go_enter Tryz.func155,Tryz.ntmps155
 go_wp2
 refine wp_loop_rounds 3 ?_;rw[rounds_succ]
 go_wp2
 all_goals (try rw[rounds_succ])
 all_goals (try go_wp2)
 all_goals (try rw[rounds_succ])
 all_goals (try go_wp2)
 all_goals (go_ret;refine⟨?_,rfl⟩;simp_all)
theorem two_cells(W:World)(a b a' b':Value)(T:TypeId):
 let w3:=((W.alloc (Obj.cells #[a,b] T)).alloc (Obj.cells #[a',b'] T)).drew
 w3.cell? ⟨W.heap.size,0,none⟩=some a/\w3.cell? ⟨W.heap.size,1,none⟩=some b/\w3.cell? ⟨W.heap.size+1,0,none⟩=some a'/\w3.cell? ⟨W.heap.size+1,1,none⟩=some b'/\
  ∃os0,w3=grow (W.drewN 1) os0:=by
 have e:((W.alloc (Obj.cells #[a,b] T)).alloc (Obj.cells #[a',b'] T)).drew=grow (W.drewN 1) #[Obj.cells #[a,b] T,Obj.cells #[a',b'] T]:=by
  rw[alloc_eq_grow,alloc_eq_grow,grow_grow];rfl
 have h0:(W.heap++ #[Obj.cells #[a,b] T,Obj.cells #[a',b'] T])[W.heap.size]? =some (Obj.cells #[a,b] T):=by
  rw[ZdS (Zam _),Zcd];rfl
 have h1:(W.heap++ #[Obj.cells #[a,b] T,Obj.cells #[a',b'] T])[W.heap.size+1]? =some (Obj.cells #[a',b'] T):=by
  rw[ZdS (Nat.le_succ _),show W.heap.size.succ - W.heap.size=1 by omega];rfl
 simp only[e];refine⟨?_,?_,?_,?_,_,rfl⟩<;>unfold World.cell? <;>simp only[grow,World.drewN,h0,h1]<;>rfl
theorem Qvb(w:World)(a b:Value)(T:TypeId):(w.alloc (Obj.cells #[a,b] T)).cell? ⟨w.heap.size,0,none⟩=some a/\(w.alloc (Obj.cells #[a,b] T)).cell? ⟨w.heap.size,1,none⟩=some b:=by
 have h0:(w.heap.push (Obj.cells #[a,b] T))[w.heap.size]? =some (Obj.cells #[a,b] T):=by simp
 constructor<;>unfold World.cell? <;>simp only[World.alloc,h0]<;>rfl
def Qabu(p q:Int×Int):Int:=if Lib.compareInt p.2 q.2=0 then Lib.compareInt p.1 q.1 else Lib.compareInt p.2 q.2
theorem Tryz.cmpPoints(x y x' y':Int)(W:World):Calls Tryz.prog 112 #[.agg #[.int .i64 x,.int .i64 y],.agg #[.int .i64 x',.int .i64 y']] W fun e w'=>
 e= .returned (.int .i64 (Qabu (x,y) (x',y')))/\ ∃q os',w'=grow (W.drewN q) os':=by
 have hc1:=fun W'=>Tryz.cmp64 y y' W'
 have hc2:=fun W'=>Tryz.cmp64 x x' W'
 unfold Qabu;simp only;generalize Lib.compareInt y y'=r1 at hc1⊢;generalize Lib.compareInt x x'=r2 at hc2⊢;have hor:=fun (b:Nat) W'=>Tryz.orTwo b r1 r2 W'
 generalize (if r1=0 then r2 else r1)=r at hor⊢
 go_enter Tryz.func112,Tryz.ntmps112
 go_wp2
 refine wp_region_still_tail 10 (by kernel_rfl) (by kernel_rfl) ?_;simp only[ZbJ,Zbr,ZbV,ZbI];obtain⟨d1,d2,d3,d4,hg⟩:=two_cells W (.int .i64 x) (.int .i64 y) (.int .i64 x') (.int .i64 y') 58;change wpStill _ _ ((W.alloc (Obj.cells #[Value.int IntKind.i64 x,Value.int IntKind.i64 y] 58)).alloc (Obj.cells #[Value.int IntKind.i64 x',Value.int IntKind.i64 y'] 58)).drew (fun a'=>wpList _ _ _ _ a' ((W.alloc (Obj.cells #[Value.int IntKind.i64 x,Value.int IntKind.i64 y] 58)).alloc (Obj.cells #[Value.int IntKind.i64 x',Value.int IntKind.i64 y'] 58)).drew) _ _;generalize ((W.alloc (Obj.cells #[Value.int IntKind.i64 x,Value.int IntKind.i64 y] 58)).alloc (Obj.cells #[Value.int IntKind.i64 x',Value.int IntKind.i64 y'] 58)).drew=w3 at d1 d2 d3 d4 hg⊢
 still_step
 still_step
 still_step
 still_step
 still_call (hc1 _)
 still_step
 still_step
 still_step
 still_step
 still_call (hc2 _)
 refine wpStill_nil ?_
 go_wp2_with (go_at_call 155;refine (hor _ _ (Qvb _ _ _ _).1 (Qvb _ _ _ _).2).mono ?_;rintro e w' ⟨rfl,rfl⟩)
 go_ret
 obtain⟨os0,rfl⟩:=hg;exact⟨rfl,1,_,by rw[alloc_eq_grow,grow_grow]⟩
theorem Tryz.cmpPlaced90(x y t x' y' t':Int)(W:World):Calls Tryz.prog 179 #[.agg #[.int .i64 x,.int .i64 y,.int .i64 t],.agg #[.int .i64 x',.int .i64 y',.int .i64 t']] W fun e w'=>
 e= .returned (.int .i64 (Qabu (x,y) (x',y')))/\ ∃q os',w'=grow (W.drewN q) os':=by
 have hcon:=fun W'=>Tryz.cmpPoints x y x' y' W'
 generalize Qabu (x,y) (x',y')=r at hcon⊢
 go_enter Tryz.func179,Tryz.ntmps179
 go_wp2_with (go_at_call 112;refine (hcon _).mono ?_;rintro e w' ⟨rfl,q,os',rfl⟩)
 go_ret
 exact⟨rfl,q,_,by rw[alloc_eq_grow,alloc_eq_grow,grow_grow];show grow (grow (W.drewN q) _) os'=_;rw[grow_grow]⟩
end Go.Proofs
namespace Go.Ae
open Go.Proofs Go.Sort Go.Shelf
instance:Inhabited Qab:=⟨⟨⟨0,0⟩,0⟩⟩
def encP(x:Qab):List Value:=[.int .i64 x.At.X,.int .i64 x.At.Y,.int .i64 x.Tile]
def cfP(x y:Qab):Int:=Qabu (x.At.X,x.At.Y) (y.At.X,y.At.Y)
theorem Qz0(x y:Qab):ltOf cfP x y=Qap x.At y.At:=by
 simp only[ltOf,cfP,Qabu,Lib.compareInt,Qap]
 grind
theorem swoP:SWO (ltOf cfP) where
 irrefl x:=by rw[Qz0];simp only[Qap];grind
 trans x y z h1 h2:=by rw[Qz0] at*;simp only[Qap] at*;grind
 ntrans x y z h1 h2:=by rw[Qz0] at*;simp only[Qap] at*;grind
def Qfh(l:List Qab):List Qab:=l.foldr (fun x r=>insT x.At x.Tile r) []
theorem Qn1(x:Qab): ∀(l:List Qab),(insT x.At x.Tile l).Perm (x::l)
 |[]=>Zdf _
 |y::r=>by
  simp only[insT];split
  .exact Zdf _
  .exact ((Qn1 x r).cons y).trans (List.Perm.swap x y r)
theorem Qd4: ∀(l:List Qab),(Qfh l).Perm l
 |[]=>Zdf _
 |x::r=>(Qn1 x (Qfh r)).trans ((Qd4 r).cons x)
theorem Quq{a b c:Qae}(h1:Qap a b=true)(h2:Qap c b=false):Qap c a=false:=by
 simp only[Qap] at*;grind
theorem Qx3(x:Qab): ∀(l:List Qab),l.Pairwise (fun a b=>Qap b.At a.At=false)->(insT x.At x.Tile l).Pairwise (fun a b=>Qap b.At a.At=false)
 |[],_=>by simp[insT]
 |y::r,h=>by
  rw[Zcf] at h;simp only[insT];split
  .rename_i hl;rw[Zcf,Zcf];refine⟨fun z hz=> ?_,h⟩;have hyx:Qap y.At x.At=false:=by simp only[Qap] at*;grind
   rcases Zaw.1 hz with rfl|hz
   .exact hyx
   .have:=h.1 z hz
    exact Quq hl this
  .rename_i hl;rw[Zcf];refine⟨fun z hz=> ?_,Qx3 x r h.2⟩;rcases (Qlc _ _ _ _).1 hz with rfl|hz
   .simpa using hl
   .exact h.1 z hz
theorem Qnm: ∀(l:List Qab),(Qfh l).Pairwise (fun a b=>Qap b.At a.At=false)
 |[]=>List.Pairwise.nil
 |x::r=>Qx3 x _ (Qnm r)
theorem Qacy(l:List Qab):(Qfh l).length=l.length:=(Qd4 l).length_eq
theorem at_inj{l:List Qab}(h:(l.map Qab.At).Nodup){x y:Qab}(hx:x∈l)(hy:y∈l)(he:x.At=y.At):x=y:=by
 induction l with
 |nil=>cases hx
 |cons z r ih=>
  rw[Zan,ZbQ] at h;rcases Zaw.1 hx with h1|h1<;>rcases Zaw.1 hy with h2|h2
  .rw[h1,h2]
  .exact absurd (show z.At∈r.map Qab.At by rw[<-h1,he];exact Zdb h2) h.1
  .exact absurd (show z.At∈r.map Qab.At by rw[<-h2,<-he];exact Zdb h1) h.1
  .exact ih h.2 h1 h2
theorem Qlp{l l':List Qab}(hd:(l.map Qab.At).Nodup)(hp:l'.Perm l)(hs:l'.Pairwise (fun a b=>Qap b.At a.At=false)):l'=Qfh l:=by
 refine Zeu (le:=fun a b=>Qap b.At a.At=false) (fun a b ha hb h1 h2=> ?_) hs (Qnm l) (hp.trans (Qd4 l).symm);refine at_inj hd (hp.mem_iff.1 ha) ((Qd4 l).mem_iff.1 hb) ?_;revert h1 h2;obtain⟨⟨ax,ay⟩,at'⟩:=a;obtain⟨⟨bx,by'⟩,bt⟩:=b;simp only[Qap,Qae.mk.injEq]
 grind
def flP(l:List Qab):List Value:=l.flatMap encP
theorem flP_len(l:List Qab):(flP l).length=l.length*3:=by
 induction l with
 |nil=>rfl
 |cons x r ih=>simp only[flP,Zbi,ZaF,ZaG] at ih⊢;rw[ih];simp[encP];omega
theorem Ql5{ok:Nat->Prop}{hp:Nat->Option Obj}: ∀(l:List Qab) (L:List Value),rdr ok hp 3 (l.map Qab.c) L↔ ∃r,L=flP l++r
 |[],L=>by simp[rdr,flP]
 |x::r,L=>by
  simp only[Zan,rdr,Ql5 r,Qab.c,rdp,rd,flP,Zbi];constructor
  .rintro⟨_,⟨v,L1,rfl,rfl,v2,L2,rfl,rfl,v3,L3,rfl,rfl,_⟩,q,hq⟩;exact⟨q,by simp only[ZbV,ZbI] at hq;rw[hq];rfl⟩
  .rintro⟨q,rfl⟩;exact⟨rfl,⟨_,_,rfl,rfl,_,_,rfl,rfl,_,_,rfl,rfl,trivial⟩,q,rfl⟩
theorem flP_get: ∀(l:List Qab) (t:Nat),t<l.length*3->(flP l)[t]? =some ((encP (l[t/3]?.getD default))[t % 3]!)
 |[],t,h=>by simp at h
 |x::r,t,h=>by
  by_cases ht:t<3
  .have:t=0\/t=1\/t=2:=by omega
   rcases this with rfl|rfl|rfl<;>simp[flP,encP]
  .obtain⟨u,rfl⟩: ∃u,t=u+3:=⟨t - 3,by omega⟩;have e1:(u+3)/3=u/3+1:=by omega
   have e2:(u+3) % 3=u % 3:=by omega
   have ih:=flP_get r u (by simp at h;omega);rw[e1,e2,ZaX,<-ih];simp[flP,encP]
theorem Qvu(l:List Qab):(flatK encP 3 l.toArray).toList=flP l:=by
 apply Zca;intro t;by_cases ht:t<l.length*3
 .rw[flP_get l t ht];have hs:t<(flatK encP 3 l.toArray).size:=by simp only[size_flatK,ZbR];exact ht
  have h1:=get_flatK encP 3 l.toArray t (by simpa using ht);rw[ZaS,Zba hs,<-getElem!_pos (flatK encP 3 l.toArray) t hs,h1];congr 3;simp[getElem!_def];cases l[t/3]? <;>rfl
 .have a1:(flatK encP 3 l.toArray).toList.length<=t:=by rw[ZaM,size_flatK,ZbR];omega
  have a2:(flP l).length<=t:=by rw[flP_len];omega
  rw[ZaY a1,ZaY a2]
def srt.ca(_:List Qab):List AV:=[.own 0,.im (.fn 179 [] [])]
def srt.H0(a:List Qab):Qan:=[(0,(true,.arr 160 3 (a.map Qab.c)))]
def srt.H1(a:List Qab):Qan:=[(0,(true,.arr 160 3 ((Qfh a).map Qab.c)))]
def srt.row:Row:=orow srt.ca srt.H0 1 (fun a=>(a.map Qab.At).Nodup) (fun _=>true) (fun _=> .im (.tup [])) srt.H1 0
theorem srt.ok:Qas Tryz.prog 178 srt.row:=by
 rintro args h nx K ⟨a,τ,U,KL,hpre,rfl,hheap,hN,hK⟩;refine⟨Qh7 (by kernel_rfl),_,_,?_,hK⟩;intro C S vs R hW huse hfresh hnames hargs hfin;have hs0:sgx τ 1 nx 0=τ 0:=Zak (by omega);simp only[srt.ca,renL,AV.ren,hs0,Qa0,conc,rd,rdl] at hargs;obtain⟨v0,r0,hv,⟨hone,hown⟩,v1,r1,hr1,⟨ac,cc,hv1,hac,hcc⟩,hr2⟩:=hargs;have hac:ac= #[]:=by apply Zde;simpa using hac
 have hcc:cc= #[]:=by apply Zde;simpa using hcc
 subst hac hcc hr2 hr1 hv1;have hvs:vs= #[v0,.func (fnV 179) #[] #[]]:=by apply Zde;simpa using hv
 subst hvs;have hm:h (τ 0)=some (true,.arr 160 3 (a.map Qab.c)):=by
  have:=hheap.1
  rwa [hs0] at this
 have hd0:domB (srt.H0 a) 0=true:=rfl;have hSm:S.h (τ 0)=some (true,.arr 160 3 (a.map Qab.c)):=by
  rw[huse (τ 0) (Zby _ (hN.u 0 hd0)),hm]
 have hk0: ∀n,n∈KL↔n=τ 0:=by
  intro n;constructor
  .intro hn;obtain⟨j,h1,_,h3⟩:=hN.k1 n hn
   have:j=0:=by
    simp only[domB,srt.H0,hget] at h1;by_cases hj:j=0
    .exact hj
    .have:(0==j)=false:=by simpa using fun h=>hj h.symm
     rw[this] at h1;cases h1
   rw[h3,this]
  .rintro rfl;exact hN.k2 0 hd0 rfl
 obtain⟨m,hmm⟩: ∃m,m=τ 0:=⟨_,rfl⟩;rw[<-hmm] at hSm hown hk0;have hsl:=Qacy a;have fin: ∀(w':World),Qjb S m (.arr 160 3 ((Qfh a).map Qab.c)) (S.ρ m) [m] w'->
  (Pres (fun n=>S.h m≠none\/n≠m) S (S.one m (.arr 160 3 ((Qfh a).map Qab.c)) (S.ρ m) [m] w')->objc (S.one m (.arr 160 3 ((Qfh a).map Qab.c)) (S.ρ m) [m] w') (S.ρ m) (.arr 160 3 ((Qfh a).map Qab.c)))->R (.returned (.tuple #[])) w':=by
  intro w' hone hob;have hp:=Qg2 hW hone;refine hfin (.tuple #[]) _ (Qqp hW hone (hob hp)) ?_ ⟨hp.ok,fun n _=>hp.nm n (.inl (by rw[hSm];simp))⟩ ⟨#[],rfl,rfl⟩;funext n;simp only[Env.one,Eff.appf,srt.H1,renH,hs0,hget,AObj.ren,<-hmm];by_cases hn:n=m
  .subst hn;simp
  .have h1:(m==n)=false:=by simpa using fun h=>hn h.symm
   have h2:KL.contains n=false:=by
    rw[<-ZbP,Zbq,hk0];exact hn
   simp only[h1,ZaW,h2,hn,Zbx,Zaq]
 have hown':=hown _ hSm;have hobj:=hW.obj _ _ hSm;have hloc:=fun lc=>hW.loc m _ lc hSm
 cases hρ:S.ρ m with
 |none=>
  rw[hρ] at hown' hobj;simp only[objc] at hobj;have ha:a=[]:=by simpa using hobj.2
  subst ha;simp only at hown';rw[hown',Qoi (by decide)];refine (AnyF.slices_SortFunc_none Tryz.sortPl none 0 (.func (.func 179) #[] #[]) S.w).mono ?_;rintro e w' ⟨rfl,rfl⟩;refine fin S.w (Qacz hSm (fun l hl=>by rw[hρ] at hl;cases hl) rfl rfl) (fun _=> ?_);rw[hρ];exact⟨ZaZ _,rfl⟩
 |some lc=>
  rw[hρ] at hown' hobj;simp only[objc,AObj.len] at hobj hown';obtain⟨g1,g2,cv,g3,g4,g5⟩:=hobj;obtain⟨hlb,hlk⟩:=hloc lc hρ;rw[Ql5] at g5;obtain⟨rest,g5⟩:=g5;simp only[Zbv] at g1 g2 hown';have hheap:S.w.heap[lc.b]? =some (.cells cv 160 (0,0)):=g3;have hlen:lc.p+a.length*3<=cv.size:=by omega
  have hF:(flatK encP 3 a.toArray).size=a.length*3:=by simp
  have hget: ∀j,j<a.length*3->cv[lc.p+j]? =some ((flatK encP 3 a.toArray)[j]!):=by
   intro j hj;have h1:(cv.toList.drop lc.p)[j]? =(flP a++rest)[j]? :=by rw[g5]
   rw[Zbt,ZaS,ZaD (by rw[flP_len];exact hj),<-Qvu,ZaS] at h1;rw[h1,Zba (by rw[hF];exact hj),getElem!_pos _ _ (by rw[hF];exact hj)]
  have hH:HoldsK encP 3 S.w lc.b lc.p a.toArray:=by
   intro j hj;rw[hF] at hj;refine⟨?_,?_⟩
   .simp only[World.cell?,hheap,ZcQ,Zay,Zbx,id];exact hget j hj
   .simp only[World.frozen?,hheap];simp
  have hc:=AnyQ.slices_SortFunc Tryz.sortPl 3 Tryz.isAgg160 Tryz.sizeOf160 encP (fun _=>rfl) (fun x v hv=>by simp[encP] at hv;rcases hv with rfl|rfl|rfl<;>rfl) cfP swoP 179 #[] lc.b lc.p lc.cap a.toArray S.w
   (Qhx (Qh7 (by kernel_rfl))) (fun m os dk hs x y=>Tryz.cmpPlaced90 _ _ _ _ _ _ _) hH hlb (by simp only[ZbR,LIM] at g1⊢;omega)
  rw[hown',Qoi (by decide)];refine hc.mono ?_;rintro e w' ⟨rfl,d',n,os,hperm,hsort,rfl⟩;have hsz:d'.size=a.length:=hperm.1;have hd':d'.toList=Qfh a:=by
   refine Qlp hpre ?_ ?_
   .have:=hperm.2.2
    rwa [show d'.extract 0 a.toArray.size=d' by rw[ZbR,<-hsz];exact Zdg,show a.toArray.extract 0 a.toArray.size=a.toArray from Zdg] at this
   .rw[Zdr];intro i j hi hj hij
    have:=hsort i j (ZaZ _) hij (by rw[ZbR,<-hsz];simpa using hj)
    rw[Qz0,getElem!_pos d' i (by simpa using hi),getElem!_pos d' j (by simpa using hj)] at this;simpa using this
  obtain rfl:d'=(Qfh a).toArray:=by apply Zde;rw[hd']
  have hF':(flatK encP 3 (Qfh a).toArray).size=a.length*3:=by simp[hsl]
  have hl2:(flatK encP 3 (Qfh a).toArray).toList.length=a.length*3:=by rw[ZaM,hF']
  have hsize:S.w.heap.size<=(sortWorldK encP 3 S.w lc.b lc.p n (Qfh a).toArray os).heap.size:=by
   simp[sortWorldK,grow,putRowK,Sort.ahead]
  have hb: ∀b,b<S.w.heap.size->(sortWorldK encP 3 S.w lc.b lc.p n (Qfh a).toArray os).heap[b]? =if lc.b=b then S.w.heap[b]?.map (onCells (putCells id lc.p (flatK encP 3 (Qfh a).toArray))) else S.w.heap[b]? :=by
   intro b hb;have e0:b<(putRowK encP 3 (Sort.ahead S.w n) lc.b lc.p (Qfh a).toArray).heap.size:=by simpa[putRowK,Sort.ahead] using hb
   simp only[sortWorldK,grow];rw[Zdo e0];simp only[putRowK,putRow,mapBlock,Sort.ahead,ZdG]
  refine fin _ ⟨rfl,rfl,rfl,hsize,?_,.inl (by simp),?_,?_,?_⟩ ?_
  .intro b hb1 hb2;rw[hb b hb1,Zag (hb2 m _ lc (by simp) hSm hρ)]
  .intro lo hlo;rw[hρ] at hlo;obtain rfl:=Zaa hlo;exact⟨Zbl hlb hsize,.inr ⟨m,_,lc,by simp,hSm,hρ,rfl⟩⟩
  .intro f hf;rw[hSm] at hf;obtain rfl:=Zaa hf;exact⟨rfl,rfl,by simp[AObj.len,hsl]⟩
  .intro n' f _ hnone;rw[hSm] at hnone;cases hnone
  .intro _;rw[hρ];simp only[objc,Zbv,hsl];refine⟨g1,g2,putCells id lc.p (flatK encP 3 (Qfh a).toArray) cv,?_,by simpa[putCells] using g4,?_⟩
   .simp only[Env.one,Env.hp];rw[hb lc.b hlb,Zak rfl,hheap];rfl
   .rw[Ql5];refine⟨(cv.toList.drop (lc.p+a.length*3)),?_⟩;apply Zca;intro t;rw[Zbt,ZaS,putCells,ZeG,hF',<-Qvu];by_cases ht:t<a.length*3
    .rw[ZaD (by rw[hl2];exact ht),ZaS,Zba (show lc.p+t<cv.size by omega),Zba (by rw[hF'];exact ht)];simp only[ZaR,id];rw[Zak ⟨by omega,by omega⟩,ZcG,getElem!_pos _ _ (by rw[hF'];exact ht)]
    .rw[ZaH (by rw[hl2];omega),hl2,Zbt,ZaS,show lc.p+a.length*3+(t - a.length*3)=lc.p+t by omega];cases cv[lc.p+t]? with
     |none=>rfl
     |some x=>simp only[ZaR];rw[Zag (by omega)]
end Go.Ae
namespace Go.Ae
open Go.Proofs
def asmOf.ar:List PK->Option ((List Qab)):=a1 (kS Qab.d)
def asmOf.ae(a:(List Qab)):List PK:=[.val (.sl false 3 (a.map Qab.c))]
def asmOf.fv(a:(List Qab)):Asm:=(fun l=>⟨Qfh l⟩) a
def asmOf.row:Row:=vrow asmOf.ar (fun a=>(a.map Qab.At).Nodup/\a.length<=1000000) (fun a=>(fun b=>D.agg (Asm.c b)) (asmOf.fv a))
def asmOf.q:=vq asmOf.row rfl
def YaR:=J @asmOf.ae.eq_1 @asmOf.fv.eq_1
theorem asmOf.ok:Qas Tryz.prog 151 asmOf.row:=by
 refine Qaj Qaq (tC clonC.ok (tC srt.ok tN)) Tryz.func151 rfl (by kernel_rfl) (by kernel_rfl) (ar:=asmOf.ar) (ae:=asmOf.ae) (Qacd (Qacb 3 Qab.d_le (fun _=>rfl))) (n:=1) (fun _=>rfl) (by decide) (rc:=(vAgg Asm.d)) (re:=(fun b=>D.agg (Asm.c b))) (Qb1 Asm.d_le) (f:=asmOf.fv) ?_;intro a hpre;simp only[Tryz.f151,Option.getD];simp(maxSteps:=9^9)(disch:=omega)only[ZZ,simprocAttr,rch,YaR];refine orow.os a [] hpre.2 (fun j=>by simp[domB,hget]) rfl rfl ?_ ?_
 .simp(maxSteps:=9^9)(disch:=omega)only[ZZ,simprocAttr,rch,YaR,clonC.ca,Qer,Qb4]
 simp(maxSteps:=9^9)(disch:=omega)only[ZZ,simprocAttr,rch,YaR,clonC.H1,sub];refine orow.os a [1] hpre.1 (fun j=> ?_) rfl rfl ?_ ?_
 .simp only[domB,srt.H0,hget];by_cases hj:j=0
  .subst hj;simp
  .have:(0==j)=false:=by simpa using fun h=>hj h.symm
   rw[this];simp;omega
 .simp(maxSteps:=9^9)(disch:=omega)only[ZZ,simprocAttr,rch,YaR,srt.ca,srt.H0,Qer];exact⟨rfl,rfl⟩
 simp(maxSteps:=9^9)(disch:=omega)only[ZZ,simprocAttr,rch,YaR,srt.H1,sub,ZaC,ZaQ]
def mkPl(q:Qae×Int):Qab:=⟨q.1,q.2⟩
def repM1(m:Sim)(t:List (Qae×Int))(x:Qab):Option (List (Qae×Int)):=
 if (m.Labels[x.Tile.toNat]?.getD 0)<0 then some t
 else if (lkP t (Qgu x.At m.Scale).1).getD (m.Labels[x.Tile.toNat]?.getD 0)≠(m.Labels[x.Tile.toNat]?.getD 0) then none
 else some (updP t (Qgu x.At m.Scale).1 (m.Labels[x.Tile.toNat]?.getD 0))
theorem find_perm{l l':List Qab}(hp:l.Perm l')(hd:(l'.map Qab.At).Nodup)(p:Qae):l.find? (fun x=>decide (x.At=p))=l'.find? (fun x=>decide (x.At=p)):=by
 cases h1:l.find? (fun x=>decide (x.At=p)) with
 |none=>
  symm;rw[Zdh] at h1⊢;exact fun x hx=>h1 x (hp.mem_iff.2 hx)
 |some x=>
  have hx:=hp.mem_iff.1 (ZcT h1);have hxp:=Zdj h1;cases h2:l'.find? (fun x=>decide (x.At=p)) with
  |none=>
   rw[Zdh] at h2;exact absurd hxp (h2 x hx)
  |some y=>
   have hy:=ZcT h2;have hyp:=Zdj h2;rw[at_inj hd hx hy];rw[Zap] at hxp hyp;rw[hxp,hyp]
theorem lk_find(p:Qae): ∀(t:List (Qae×Int)),(((t.map mkPl).find? (fun x=>decide (x.At=p))).map Qab.Tile)=lkP t p
 |[]=>rfl
 |(k,w)::r=>by
  simp only[Zan,ZdV,mkPl,lkP];by_cases h:k=p
  .subst h;simp
  .have h1:decide (k=p)=false:=by simpa using h
   have h2: ¬p=k:=fun h3=>h h3.symm
   rw[h1,Zag h2];exact lk_find p r
theorem Qac3(t:List (Qae×Int)):(t.map mkPl).map Qab.At=t.map Prod.fst:=by simp[mkPl]
theorem lk_at{t:List (Qae×Int)}(hd:(t.map Prod.fst).Nodup)(p:Qae):atA ⟨Qfh (t.map mkPl)⟩ p=(lkP t p).getD (-1):=by
 have hd':((t.map mkPl).map Qab.At).Nodup:=by rw[Qac3];exact hd
 simp only[atA];rw[find_perm (Qd4 _) hd',lk_find]
theorem Qm3{t:List (Qae×Int)}{p:Qae}(v:Int)(h:lkP t p=none):updP t p v=t++[(p,v)]:=by
 induction t with
 |nil=>rfl
 |cons q r ih=>
  obtain⟨k,w⟩:=q;simp only[lkP] at h;split at h
  .cases h
  .rename_i hn;simp only[updP,Zag hn,Zas];rw[ih h]
theorem updP_same{t:List (Qae×Int)}{p:Qae}{v:Int}(h:lkP t p=some v):updP t p v=t:=by
 induction t with
 |nil=>cases h
 |cons q r ih=>
  obtain⟨k,w⟩:=q;simp only[lkP] at h;simp only[updP];split at h
  .rename_i he;obtain rfl:=Zaa h;rw[Zak he,he]
  .rename_i hn;rw[Zag hn,ih h]
theorem Qyz{t:List (Qae×Int)}{p:Qae}(h:lkP t p=none):p∉t.map Prod.fst:=by
 induction t with
 |nil=>simp
 |cons q r ih=>
  obtain⟨k,w⟩:=q;simp only[lkP] at h;split at h
  .cases h
  .rename_i hn;simp only[Zan,Zaw,Zfi];exact⟨hn,ih h⟩
theorem Qac0{t:List (Qae×Int)}{p:Qae}{v:Int}(h:lkP t p=some v):(p,v)∈t:=by
 induction t with
 |nil=>cases h
 |cons q r ih=>
  obtain⟨k,w⟩:=q;simp only[lkP] at h;split at h
  .rename_i he;obtain rfl:=Zaa h;rw[he];exact Zau ..
  .exact Zar _ (ih h)
structure RM(t:List (Qae×Int))(o:Asm)(k:Nat):Prop where
 nd:(t.map Prod.fst).Nodup
 pos: ∀q∈t,0<=q.2
 eq:o=⟨Qfh (t.map mkPl)⟩
 len:t.length<=k
theorem RM.step{m:Sim}{t:List (Qae×Int)}{o:Asm}{k:Nat}(h:RM t o k)(x:Qab):(∃t' o',repM1 m t x=some t'/\repS1 m o x=some o'/\RM t' o' (k+1))\/(repM1 m t x=none/\repS1 m o x=none):=by
 obtain⟨nd,pos,rfl,len⟩:=h;simp only[repM1,repS1];generalize m.Labels[x.Tile.toNat]?.getD 0=n;generalize (Qgu x.At m.Scale).1=p;by_cases c1:n<0
 .rw[Zak c1,Zak c1];exact .inl ⟨_,_,rfl,rfl,nd,pos,rfl,by omega⟩
 rw[Zag c1,Zag c1,lk_at nd];cases hq:lkP t p with
 |none=>
  simp only[Option.getD_none];rw[Zag (by simp),Zag (by omega),Zak (by omega)];refine .inl ⟨_,_,rfl,rfl,?_,?_,?_,?_⟩
  .rw[Qm3 n hq,Zbw,Zcr];refine⟨nd,by simp,?_⟩;intro a ha b hb hab;simp only[Zan,Zbb,Zaq] at hb;exact Qyz hq (by rw[<-hb,<-hab];exact ha)
  .intro q hm;rw[Qm3 n hq] at hm;rcases Zao.1 hm with hm|hm
   .exact pos q hm
   .simp only[Zaq] at hm;subst hm;simp only;omega
  .rw[Qi8,Qm3 n hq];congr 1;have hd':(((t++[(p,n)]).map mkPl).map Qab.At).Nodup:=by
    rw[Qac3,Zbw,Zcr];refine⟨nd,by simp,?_⟩;intro a ha b hb hab;simp only[Zan,Zbb,Zaq] at hb;exact Qyz hq (by rw[<-hb,<-hab];exact ha)
   refine Qlp hd' ?_ (Qx3 ⟨p,n⟩ _ (Qnm _));refine (Qn1 ⟨p,n⟩ _).trans ?_;rw[Zbw];refine ((Qd4 _).cons _).trans ?_;exact (Zee _ _).symm
  .rw[Qm3 n hq];simp;omega
 |some v=>
  simp only[Zae];have hv:=pos _ (Qac0 hq);simp only at hv;by_cases c2:v=n
  .subst c2;rw[Zag (by simp),Zag (by simp),Zag (by omega),updP_same hq];exact .inl ⟨_,_,rfl,rfl,nd,pos,rfl,by omega⟩
  .rw[Zak c2,Zak ⟨hv,c2⟩];exact .inr ⟨rfl,rfl⟩
theorem Qala{s:Qaa}{a:Asm}(h: ∀x∈a.Tiles,Qcs s x.Tile)(p:Qae):Qaw (fun x=>decide (x.At=p)) 0 a.Tiles<0↔atA a p<0:=by
 simp only[atA];rcases Qep (fun x=>decide (x.At=p)) a.Tiles 0 with ⟨h1,h2⟩|⟨i,x,h1,h2,h3⟩
 .rw[h1,h2];simp
 .rw[h1,h2]
  have:=(h x (Zac h3)).1
  simp only[ZaR,Zae];omega
theorem RM.put{t:List (Qae×Int)}{o:Asm}{k:Nat}(h:RM t o k){p:Qae}{v:Int}(hv:0<=v)(hn:lkP t p=none):RM (updP t p v) (putA o p v) (k+1):=by
 obtain⟨nd,pos,rfl,len⟩:=h;have hnd:((t++[(p,v)]).map Prod.fst).Nodup:=by
  rw[Zbw,Zcr];refine⟨nd,by simp,?_⟩;intro a ha b hb hab;simp only[Zan,Zbb,Zaq] at hb;exact Qyz hn (by rw[<-hb,<-hab];exact ha)
 rw[Qm3 v hn];refine⟨hnd,?_,?_,by simp;omega⟩
 .intro q hm;rcases Zao.1 hm with hm|hm
  .exact pos q hm
  .simp only[Zaq] at hm;subst hm;exact hv
 .rw[Qi8];congr 1;have hd':(((t++[(p,v)]).map mkPl).map Qab.At).Nodup:=by rw[Qac3];exact hnd
  refine Qlp hd' ?_ (Qx3 ⟨p,v⟩ _ (Qnm _));refine (Qn1 ⟨p,v⟩ _).trans ?_;rw[Zbw];refine ((Qd4 _).cons _).trans ?_;exact (Zee _ _).symm
theorem RM.at{t:List (Qae×Int)}{o:Asm}{k:Nat}(h:RM t o k):Qbw t=atA o:=by
 funext p;rw[h.eq,lk_at h.nd];rfl
theorem RM.size{t:List (Qae×Int)}{o:Asm}{k:Nat}(h:RM t o k):o.Tiles.length=t.length:=by
 rw[h.eq];simp only[Qacy,Zbv]
theorem Qac4: ∀(l t:List Qab),((t++l).map Qab.At).Nodup->l.foldl (fun u x=>updP u x.At x.Tile) (t.map fun x=>(x.At,x.Tile))=(t++l).map fun x=>(x.At,x.Tile)
 |[],t,_=>by simp
 |x::r,t,h=>by
  have hx:lkP (t.map fun x=>(x.At,x.Tile)) x.At=none:=by
   cases hq:lkP (t.map fun x=>(x.At,x.Tile)) x.At with
   |none=>rfl
   |some v=>
    exfalso;obtain⟨y,hy,he⟩:=ZaJ.1 (Qac0 hq);have e1:y.At=x.At:=ZbH Prod.fst he;rw[Zbw,Zcr] at h;exact h.2.2 _ (Zdb hy) _ (Zdb (Zau ..)) e1
  rw[ZcW,Qm3 _ hx]
  have:=Qac4 r (t++[x]) (by simpa using h)
  simpa using this
theorem RM.of{a:Asm}(hf:Qaz none a.Tiles=true)(hp: ∀x∈a.Tiles,0<=x.Tile):RM (tlUp a.Tiles) a a.Tiles.length:=by
 have hn:=Qix hf;have e:tlUp a.Tiles=a.Tiles.map fun x=>(x.At,x.Tile):=by
  have:=Qac4 a.Tiles [] (by simpa using hn)
  simpa[tlUp] using this
 have em:(a.Tiles.map fun x=>(x.At,x.Tile)).map mkPl=a.Tiles:=by
  rw[ZdJ];exact List.map_id' _
 rw[e];refine⟨by rw[ZdJ];exact hn,?_,?_,by simp⟩
 .intro q hq;obtain⟨x,hx,rfl⟩:=ZaJ.1 hq;exact hp x hx
 .rw[em];have hs:=(Qe4 _ _ hf).2;have hw:a.Tiles.Pairwise (fun x y=>Qap y.At x.At=false):=by
   rw[Zdr];intro i j hi hj hij
   have:=hs i j a.Tiles[i] a.Tiles[j] hij (Zad hi) (Zad hj)
   simp only[Qap] at this⊢
   grind
  rw[<-Qlp hn (Zdf _) hw]
theorem fit_at{s:Qar}{a:Asm}(h:Qn7 s.Set a)(o:Opt):(Qau o.Tile 0 (s.Set.Tiles.length - 1) && Qpg s (atA a) o.At o.Tile)=canS s a o:=by
 have h2:decide (atA a o.At<0)=decide (Qaw (fun x=>decide (x.At=o.At)) 0 a.Tiles<0):=by rw[decide_eq_decide];exact (Qala h.2 o.At).symm
 simp only[Qpg,canS,Qae8];rw[h2];cases Qbi o.At<;>cases Qau o.Tile 0 (s.Set.Tiles.length - 1)<;>simp
def Qacn(s:Qar):List (Qae×Int)->List Opt->Nat->Asm×Int×Int
 |t,[],_=>(⟨Qfh (t.map mkPl)⟩,0,0)
 |t,o::r,i=>if (Qau o.Tile 0 (s.Set.Tiles.length - 1) && Qpg s (Qbw t) o.At o.Tile)=false then (⟨[]⟩,(i:Int),5) else if 500<=t.length then (⟨[]⟩,0,4) else Qacn s (updP t o.At o.Tile) r (i+1)
def Qacg(s:Qar):Asm->List Opt->Nat->Asm×Int×Int
 |a,[],_=>(a,0,0)
 |a,o::r,i=>if canS s a o=false then (⟨[]⟩,(i:Int),5) else if 500<=a.Tiles.length then (⟨[]⟩,0,4) else Qacg s (putA a o.At o.Tile) r (i+1)
theorem Qac5{s:Qar}(hs:s.Set.Tiles.length<=160): ∀(l:List Opt) (t:List (Qae×Int)) (a:Asm) (k i:Nat),RM t a k->Qn7 s.Set a->Qacn s t l i=Qacg s a l i
 |[],t,a,k,i,h,_=>by simp only[Qacn,Qacg,h.eq]
 |o::r,t,a,k,i,h,ha=>by
  simp only[Qacn,Qacg];rw[h.at,fit_at ha,<-h.size];by_cases c1:canS s a o=false
  .rw[Zak c1,Zak c1]
  rw[Zag c1,Zag c1];by_cases c2:500<=a.Tiles.length
  .rw[Zak c2,Zak c2]
  rw[Zag c2,Zag c2];rw[Zbc] at c1;simp only[canS,Zaf,Zap] at c1;obtain⟨d1,d2,d3,_⟩:=c1;have hno:=Qma d3;have hv:0<=o.Tile:=by
   simp only[Qau,Zaf,Zap] at d2;exact d2.1
  have hlk:lkP t o.At=none:=by
   have h1:Qbw t o.At=atA a o.At:=congrFun h.at o.At;have h2:=(Qala ha.2 o.At).1 d3;cases hq:lkP t o.At with
   |none=>rfl
   |some v=>
    exfalso;have h3:=h.pos _ (Qac0 hq);simp only[Qbw,hq,Zae] at h1;simp only at h3;omega
  have hw:Qau o.Tile 0 159=true:=by
   simp only[Qau,Zaf,Zap] at d2⊢;omega
  refine Qac5 hs r _ _ (k+1) (i+1) (h.put hv hlk) ⟨?_,?_⟩
  .rw[Qi8];exact Qki d1 hw _ none ha.1 (fun q hq=>by cases hq) hno
  .intro x hx;rw[Qi8] at hx;rcases (Qlc _ _ _ _).1 hx with rfl|hx
   .simp only[Qau,Zaf,Zap] at d2;exact⟨hv,by simp only;omega⟩
   .exact ha.2 x hx
def eqOption.ar:List PK->Option (Opt×Opt):=a2 (kR Opt.d) (kR Opt.d)
def eqOption.ae(a:Opt×Opt):List PK:=[.val (.agg (Opt.c a.1)),.val (.agg (Opt.c a.2))]
def eqOption.fv(a:Opt×Opt):Bool:=(fun a b=>decide (a=b)) (a.1) (a.2)
def eqOption.row:Row:=vrow eqOption.ar (fun a=>True) (fun a=>(D.bool) (eqOption.fv a))
def eqOption.q:=vq eqOption.row rfl
theorem eqOption.ok:Qas Tryz.prog 42 eqOption.row:=by
 refine Qaj Qaq (tC eqPoint.ok tN) Tryz.func42 rfl (by kernel_rfl) (by kernel_rfl) (ar:=eqOption.ar) (ae:=eqOption.ae) (Qaca (Qab8 Opt.d_le) (Qab8 Opt.d_le)) (n:=2) (fun _=>rfl) (by decide) (rc:=(Qa8)) (re:=(D.bool)) (Qat) (f:=eqOption.fv) ?_;intro a hpre;simp only[Tryz.f42,Option.getD];simp(maxSteps:=9^9)(disch:=omega)only[ZZ,simprocAttr,rch,eqOption.ae,eqOption.fv,eqPoint.q,eqPoint.ar,eqPoint.fv];obtain⟨⟨⟨x,y⟩,u⟩,⟨⟨z,w⟩,v⟩⟩:=a;simp only[Opt.mk.injEq,Qae.mk.injEq]
 grind
def szOptionS.ar:List PK->Option ((List Opt)×Int):=a2 (kS Opt.d) kI
def szOptionS.ae(a:(List Opt)×Int):List PK:=[.val (.sl false 3 (a.1.map Opt.c)),.val (.int .i64 a.2)]
def szOptionS.fv(a:(List Opt)×Int):Int:=(fun a l=>szC a.length l) (a.1) (a.2)
def szOptionS.row:Row:=vrow szOptionS.ar (fun a=> -1<=a.2/\a.2<=1048576) (fun a=>(D.int .i64) (szOptionS.fv a))
def szOptionS.q:=vq szOptionS.row rfl
theorem szOptionS.ok:Qas Tryz.prog 8 szOptionS.row:=by
 refine Qaj Qaq tN Tryz.func8 rfl (by kernel_rfl) (by kernel_rfl) (ar:=szOptionS.ar) (ae:=szOptionS.ae) (Qaca (Qacb 3 Opt.d_le (fun _=>rfl)) Qab9) (n:=2) (fun _=>rfl) (by decide) (rc:=(vInt)) (re:=(D.int .i64)) (Qa3) (f:=szOptionS.fv) ?_;intro a hpre;simp only[Tryz.f8,Option.getD];simp(maxSteps:=9^9)(disch:=omega)only[ZZ,simprocAttr,rch,szOptionS.ae,szOptionS.fv];intro h;rw[Qak (by omega) (by omega)];simp only[szC];grind
def toOptionS.ar:List PK->Option ((List Opt)):=a1 (kS Opt.d)
def toOptionS.ae(a:(List Opt)):List PK:=[.val (.sl false 3 (a.map Opt.c))]
def toOptionS.fv(a:(List Opt)):List Opt:=(fun p=>p) a
def toOptionS.row:Row:=vrow toOptionS.ar (fun a=>a.length<=1073741824) (fun a=>(fun b=>D.sl false 3 (b.map Opt.c)) (toOptionS.fv a))
def toOptionS.q:=vq toOptionS.row rfl
def YaS:=J @toOptionS.ae.eq_1<|J @toOptionS.fv.eq_1<|J @toOption.q<|J @toOption.ar.eq_1 @toOption.fv.eq_1
theorem toOptionS.ok:Qas Tryz.prog 12 toOptionS.row:=by
 refine Qaj Qaq (tC toOption.ok tN) Tryz.func12 rfl (by kernel_rfl) (by kernel_rfl) (ar:=toOptionS.ar) (ae:=toOptionS.ae) (Qacd (Qacb 3 Opt.d_le (fun _=>rfl))) (n:=1) (fun _=>rfl) (by decide) (rc:=(vSl Opt.d)) (re:=(fun b=>D.sl false 3 (b.map Opt.c))) (Qe8 Opt.d_le (fun _=>rfl)) (f:=toOptionS.fv) ?_;intro a hpre;simp only[Tryz.f12,Option.getD];simp(maxSteps:=9^9)(disch:=omega)only[ZZ,simprocAttr,rch,YaS];intro hlen;have hpl:a.length<=1073741824:=hpre;refine⟨by omega,?_⟩;refine Qay.old ⟨{k:Nat//k<=a.length},fun k=>⟨[(4,.im (.int .i64 k.1)),(3,.own 1),(0,.im (.sl false 3 (a.map Opt.c)))],[(1,(true,.arr 72 3 ((a.take k.1).map Opt.c++List.replicate (a.length - k.1) [.int .i64 0,.int .i64 0,.int .i64 0])))],2⟩,fun k=>a.length - k.1,fun k=>⟨by simp[Qad.good,belT,belH,Qam,AV.bel,belL],Zam _⟩,⟨⟨0,by omega⟩,by simp(maxSteps:=9^9)(disch:=omega)only[ZZ,simprocAttr,rch,YaS,sub];simp⟩,fun k=> ?_⟩;obtain⟨k,hk1⟩:=k;simp(maxSteps:=9^9)(disch:=omega)only[ZZ,simprocAttr,rch,YaS,sub,Qal,Qk2 _ _ a k hk1];intro _;refine⟨fun hk=> ?_,fun hk=> ?_⟩
 .refine⟨hk,fun x hx=>⟨hk,hk,Qi3 (Qj5 Opt.c _ a k x hx) ?_⟩⟩;simp(maxSteps:=9^9)(disch:=omega)only[ZZ,simprocAttr,rch,YaS,sub];refine⟨⟨k+1,by omega⟩,by simp only;omega,?_,?_⟩
  .rw[Qak (by omega) (by omega)];simp only;omega
  .exact Qli Opt.c _ a k x hx
 .rw[Qkp Opt.c _ a k (by omega)];simp[Opt.d_R]
def eqOptionS.ar:List PK->Option ((List Opt)×(List Opt)):=a2 (kS Opt.d) (kS Opt.d)
def eqOptionS.ae(a:(List Opt)×(List Opt)):List PK:=[.val (.sl false 3 (a.1.map Opt.c)),.val (.sl false 3 (a.2.map Opt.c))]
def eqOptionS.fv(a:(List Opt)×(List Opt)):Bool:=(fun a b=>decide (a=b)) (a.1) (a.2)
def eqOptionS.row:Row:=vrow eqOptionS.ar (fun a=>True) (fun a=>(D.bool) (eqOptionS.fv a))
def eqOptionS.q:=vq eqOptionS.row rfl
def YaT:=J @eqOptionS.ae.eq_1<|J @eqOptionS.fv.eq_1<|J @eqOption.q<|J @eqOption.ar.eq_1 @eqOption.fv.eq_1
theorem eqOptionS.ok:Qas Tryz.prog 17 eqOptionS.row:=by
 refine Qaj Qaq (tC eqOption.ok tN) Tryz.func17 rfl (by kernel_rfl) (by kernel_rfl) (ar:=eqOptionS.ar) (ae:=eqOptionS.ae) (Qaca (Qacb 3 Opt.d_le (fun _=>rfl)) (Qacb 3 Opt.d_le (fun _=>rfl))) (n:=2) (fun _=>rfl) (by decide) (rc:=(Qa8)) (re:=(D.bool)) (Qat) (f:=eqOptionS.fv) ?_;intro a hpre;simp only[Tryz.f17,Option.getD];simp(maxSteps:=9^9)(disch:=omega)only[ZZ,simprocAttr,rch,YaT];intro h1 h2;simp only[Qal];refine⟨fun hl=> ?_,fun hl=> ?_⟩
 .have:a.1≠a.2:=fun h=>hl (by rw[h])
  simp[this]
 have hl:a.1.length=a.2.length:=by omega
 refine Qay.old ⟨{k:Nat//k<=a.1.length/\a.1.take k=a.2.take k},fun k=>⟨[(5,.im (.int .i64 k.1)),(4,.im (.bool false)),(0,.im (.sl false 3 (a.1.map Opt.c))),(1,.im (.sl false 3 (a.2.map Opt.c)))],[],0⟩,fun k=>a.1.length - k.1,fun k=>⟨by simp[Qad.good,belT,belH,Qam,AV.bel,belL],Zam _⟩,⟨⟨0,by simp⟩,by simp(maxSteps:=9^9)(disch:=omega)only[ZZ,simprocAttr,rch,YaT,sub]⟩,fun k=> ?_⟩;obtain⟨k,hk1,hk2⟩:=k;simp(maxSteps:=9^9)(disch:=omega)only[ZZ,simprocAttr,rch,YaT,sub,Qal];intro _;refine⟨fun hk=>⟨hk,fun x hx=>⟨by omega,fun y hy=> ?_⟩⟩,fun hk=> ?_⟩
 .obtain⟨g1,g2⟩:=Qew hl hk1 hk2 hx hy;exact⟨fun h=>by simp[g2 (show x≠y from h)],fun h=>Qb6 hk h1 ⟨by omega,g1 (show x=y from Zbn.1 h)⟩⟩
 .rw[ZaE (by omega),ZaE (by omega)] at hk2;simp[hk2]
def l03Own.ar:List PK->Option (Asm):=a1 (kP Asm.d 1)
def l03Own.ae(a:Asm):List PK:=[.ptr (Asm.c a)]
def l03Own.fv(a:Asm):Asm:=(fun a=>a) a
def l03Own.row:Row:=vrow l03Own.ar (fun a=>a.Tiles.length<=1000000) (fun a=>(fun b=>D.agg (Asm.c b)) (l03Own.fv a))
def l03Own.q:=vq l03Own.row rfl
theorem l03Own.ok:Qas Tryz.prog 57 l03Own.row:=by
 refine Qaj Qaq tN Tryz.func57 rfl (by kernel_rfl) (by kernel_rfl) (ar:=l03Own.ar) (ae:=l03Own.ae) (Qacd (Qacc 1 Asm.d_le)) (n:=1) (fun _=>rfl) (by decide) (rc:=(vAgg Asm.d)) (re:=(fun b=>D.agg (Asm.c b))) (Qb1 Asm.d_le) (f:=l03Own.fv) ?_;intro a hpre;simp only[Tryz.f57,Option.getD];simp(maxSteps:=9^9)(disch:=omega)only[ZZ,simprocAttr,rch,l03Own.ae,l03Own.fv];exact⟨by simp[OneR,allD,D.one,Qab.c],by omega⟩
theorem Qac8{s:Qar}{l:List Opt}{i:Nat}{o:Opt}(hx:l[i]? =some o)(b:Asm):Qacg s b (l.drop i) i=if canS s b o=false then (⟨[]⟩,(i:Int),5) else if 500<=b.Tiles.length then (⟨[]⟩,0,4) else Qacg s (putA b o.At o.Tile) (l.drop (i+1)) (i+1):=by
 rw[Qd3 hx,Qacg]
theorem can_in{s:Qar}{b:Asm}(hs:s.Set.Tiles.length<=160)(ha:Qn7 s.Set b){o:Opt}(h:canS s b o=true):Qn7 s.Set (putA b o.At o.Tile):=by
 simp only[canS,Zaf,Zap] at h;obtain⟨d1,d2,d3,_⟩:=h;have hno:=Qma d3;have hw:Qau o.Tile 0 159=true:=by
  simp only[Qau,Zaf,Zap] at d2⊢;omega
 refine⟨?_,?_⟩
 .rw[Qi8];exact Qki d1 hw _ none ha.1 (fun q hq=>by cases hq) hno
 .intro x hx;rw[Qi8] at hx;rcases (Qlc _ _ _ _).1 hx with rfl|hx
  .simp only[Qau,Zaf,Zap] at d2;exact⟨by simp only;omega,by simp only;omega⟩
  .exact ha.2 x hx
def l08Play.ar:List PK->Option (Qar×(List Opt)):=a2 (kP Qar.d 4) (kS Opt.d)
def l08Play.ae(a:Qar×(List Opt)):List PK:=[.ptr (Qar.c a.1),.val (.sl false 3 (a.2.map Opt.c))]
def l08Play.fv(a:Qar×(List Opt)):Asm×Int×Int:=(fun s l=>Qacg s s.Seed l 0) (a.1) (a.2)
def l08Play.row:Row:=vrow l08Play.ar (fun a=>setP a.1.Set/\Qn7 a.1.Set a.1.Seed/\a.1.Set.Tiles.length<=160/\a.1.Seed.Tiles.length<=1000000) (fun a=>(fun b=>D.tup [(fun b=>D.agg (Asm.c b)) (b.1),(D.int .i64) (b.2.1),(D.int .i64) (b.2.2)]) (l08Play.fv a))
def l08Play.q:=vq l08Play.row rfl
def YaU:=J @l08Play.ae.eq_1<|J @l08Play.fv.eq_1<|J @l03Own.q<|J @l03Own.ar.eq_1<|J @l03Own.fv.eq_1<|J @l08Can.q<|J @l08Can.ar.eq_1<|J @l08Can.fv.eq_1<|J @l08Attach.q<|J @l08Attach.ar.eq_1 @l08Attach.fv.eq_1
theorem l08Play.ok:Qas Tryz.prog 84 l08Play.row:=by
 refine Qaj Qaq (tC l03Own.ok (tC l08Can.ok (tC l08Attach.ok tN))) Tryz.func84 rfl (by kernel_rfl) (by kernel_rfl) (ar:=l08Play.ar) (ae:=l08Play.ae) (Qaca (Qacc 4 Qar.d_le) (Qacb 3 Opt.d_le (fun _=>rfl))) (n:=2) (fun _=>rfl) (by decide) (rc:=(Qac1 (vAgg Asm.d) (vInt) (vInt))) (re:=(fun b=>D.tup [(fun b=>D.agg (Asm.c b)) (b.1),(D.int .i64) (b.2.1),(D.int .i64) (b.2.2)])) (Qact (Qb1 Asm.d_le) (Qa3) (Qa3)) (f:=l08Play.fv) ?_;intro a hpre;simp only[Tryz.f84,Option.getD];simp(maxSteps:=9^9)(disch:=omega)only[ZZ,simprocAttr,rch,YaU];obtain⟨s,l⟩:=a;simp only at hpre⊢;obtain⟨h1,h2,h3,h4⟩:=hpre;refine⟨h4,?_⟩;refine Qay.old ⟨{k:Nat×Asm//k.1<=l.length/\Qn7 s.Set k.2/\Qacg s s.Seed l 0=Qacg s k.2 (l.drop k.1) k.1},fun k=>⟨[(8,.im (.int .i64 k.1.1)),(7,.ptr 2 0),(6,.im (.int .i64 0)),(5,.im (.int .i64 0)),(4,.ptr 1 0),(0,.ptr 0 0),(1,.im (.sl false 3 (l.map Opt.c)))],[(2,(true,.cells 45 [.im (.sl false 3 (k.1.2.Tiles.map Qab.c))])),(1,(true,.cells 45 [.im (.sl true 0 [])])),(0,(false,.view (Qar.c s)))],3⟩,fun k=>l.length - k.1.1,fun k=>⟨by simp[Qad.good,belT,belH,Qam,AV.bel,belL],Zam _⟩,⟨⟨(0,s.Seed),by simp[h2]⟩,by simp(maxSteps:=9^9)(disch:=omega)only[ZZ,simprocAttr,rch,YaU,sub]⟩,fun k=> ?_⟩;obtain⟨⟨k,b⟩,hk1,hk2,hk3⟩:=k;simp only at hk1 hk2 hk3;simp(maxSteps:=9^9)(disch:=omega)only[ZZ,simprocAttr,rch,YaU,sub,Qal];intro hn;refine⟨fun hk=>⟨hk,fun x hx=>⟨⟨h1,hk2⟩,?_⟩⟩,fun hk=> ?_⟩
 .rw[Qac8 hx] at hk3;have e:(Qbi x.At && (Qau x.Tile 0 ((s.Set.Tiles.length:Int) - 1) && (decide (Qaw (fun y=>decide (y.At=x.At)) 0 b.Tiles<0) && decide (s.Temperature<=Qjm s.Set b x.At x.Tile 4))))=canS s b x:=rfl;simp only[e];refine⟨fun c1=> ?_,fun c1=>⟨hk,fun y hy=> ?_⟩⟩
  .rw[hk3,Zak c1]
  obtain rfl:x=y:=Zaa (hx.symm.trans hy);rw[Zag c1] at hk3;by_cases c2:500<=b.Tiles.length
  .have q:attA b x=(⟨[]⟩,4):=Zak c2;rw[q,hk3,Zak c2];exact⟨fun _=>rfl,fun h=>(h (by decide)).elim⟩
  .have q:attA b x=(putA b x.At x.Tile,0):=Zag c2;rw[q];rw[Zag c2] at hk3;rw[Zbc] at c1;exact⟨fun h=>(h rfl).elim,fun _=>⟨⟨(k+1,putA b x.At x.Tile),by simp only;omega,can_in h3 hk2 c1,hk3⟩,by simp only;omega,by rw[Qak (by omega) (by omega)];simp only;omega,rfl⟩⟩
 .rw[hk3,Zat (by omega),Qacg]
def seqS(s:Qar)(l:List Opt):Asm×Int×Int:=if Qjc s=false then (⟨[]⟩,0,1) else if 500<l.length then (⟨[]⟩,0,2) else Qacg s s.Seed l 0
theorem Qacj{s:Qar}(h:Qjc s=true):(setP s.Set/\Qn7 s.Set s.Seed/\s.Set.Tiles.length<=160/\s.Seed.Tiles.length<=1000000)/\Qcl s.Set=true/\Qcp s.Set s.Seed=true:=by
 simp only[Qjc,Zaf] at h;obtain⟨h1,h2,_⟩:=h;have h3:=Qdg h2;have h4:=Qge h1;have h5:=h1;simp only[Qcl,Qau,Zaf,Zap] at h5;exact⟨⟨h4,h3.1,by omega,by omega⟩,h1,h2⟩
def PlayS_.ar:List PK->Option (Qar×(List Opt)):=a2 (kR Qar.d) (kS Opt.d)
def PlayS_.ae(a:Qar×(List Opt)):List PK:=[.val (.agg (Qar.c a.1)),.val (.sl false 3 (a.2.map Opt.c))]
def PlayS_.fv(a:Qar×(List Opt)):Asm×Int×Int:=(seqS) (a.1) (a.2)
def PlayS_.row:Row:=vrow PlayS_.ar (fun a=>True) (fun a=>(fun b=>D.tup [(fun b=>D.agg (Asm.c b)) (b.1),(D.int .i64) (b.2.1),(D.int .i64) (b.2.2)]) (PlayS_.fv a))
def PlayS_.q:=vq PlayS_.row rfl
theorem PlayS_.ok:Qas Tryz.prog 56 PlayS_.row:=by
 refine Qaj Qaq (tC l08Ok.ok (tC l08Play.ok tN)) Tryz.func56 rfl (by kernel_rfl) (by kernel_rfl) (ar:=PlayS_.ar) (ae:=PlayS_.ae) (Qaca (Qab8 Qar.d_le) (Qacb 3 Opt.d_le (fun _=>rfl))) (n:=2) (fun _=>rfl) (by decide) (rc:=(Qac1 (vAgg Asm.d) (vInt) (vInt))) (re:=(fun b=>D.tup [(fun b=>D.agg (Asm.c b)) (b.1),(D.int .i64) (b.2.1),(D.int .i64) (b.2.2)])) (Qact (Qb1 Asm.d_le) (Qa3) (Qa3)) (f:=PlayS_.fv) ?_;intro a hpre;simp only[Tryz.f56,Option.getD];simp(maxSteps:=9^9)(disch:=omega)only[ZZ,simprocAttr,rch,PlayS_.ae,PlayS_.fv,l08Ok.q,l08Ok.ar,l08Ok.fv,l08Play.q,l08Play.ar,l08Play.fv];by_cases c1:Qjc a.1=false
 .rw[Zak c1];simp only[seqS];rw[Zak c1]
 rw[Zag c1];intro _;by_cases c2:500<a.2.length
 .rw[Zak (by omega)];simp only[seqS];rw[Zag c1,Zak c2]
 rw[Zag (by omega)];rw[Zbc] at c1;refine⟨(Qacj c1).1,?_⟩;simp only[seqS];rw[Zag (by rw[c1];decide),Zag c2]
theorem seq_ok{s:Qar}{l:List Opt}(h:(seqS s l).2.2=0):Qjc s=true/\l.length<=500:=by
 simp only[seqS] at h;split at h
 .simp at h
 rename_i c1;split at h
 .simp at h
 .rw[Zbc] at c1;exact⟨c1,by omega⟩
theorem Qwf{A B:Type}(f:A->B): ∀(l:List A) (i:Nat),(l.map f).eraseIdx i=(l.eraseIdx i).map f
 |[],_=>rfl
 |_::_,0=>rfl
 |x::r,i+1=>by simp only[Zan,ZcD,Qwf f r i]
theorem Qqq{A:Type}: ∀(l:List A) (i:Nat) (x:A),l[i]? =some x->(x::l.eraseIdx i).Perm l
 |[],i,x,h=>by simp at h
 |y::r,0,x,h=>by
  simp only[ZaP,Zab] at h;subst h;exact Zdf _
 |y::r,i+1,x,h=>by
  rw[ZaX] at h;rw[ZcD];exact (List.Perm.swap y x _).trans ((Qqq r i x h).cons y)
def putT(c:Cry)(p:Qae)(t:Int):Cry:=⟨c.Sys,updP c.Tl p t,Qrz c.Sys (Qbw (updP c.Tl p t)) (delP c.Op p) p 4⟩
theorem putT_in{s:Qaa}{t:List (Qae×Int)}{p:Qae}{v:Int}(h:inF s (Qbw t))(hv:Qcs s v):inF s (Qbw (updP t p v)):=by
 intro q hq;simp only[Qbw,Qyq] at hq⊢;by_cases c:q=p
 .rw[Zak c];exact hv
 .rw[Zag c] at hq⊢;exact h q hq
def putC.ca(a:Cry×Qae×Int):List AV:=[.ptr 0 0,.im (.agg [.int .i64 a.2.1.X,.int .i64 a.2.1.Y]),.im (.int .i64 a.2.2)]
def putC.H1(a:Cry×Qae×Int):Qan:=[(1,(true,.map ⟨true,[.int .i64,.int .i64]⟩ ((putT a.1 a.2.1 a.2.2).Tl.map Qbe))),(2,(true,.map ⟨true,[.int .i64,.int .i64]⟩ ((putT a.1 a.2.1 a.2.2).Op.map Qbc)))]
def kl12(j:Nat):Bool:=j==1||j==2
def putC.row:Row:=orow putC.ca (fun a=>cryH a.1) 3 (fun a=>Qacu a.1/\Qdy a.2.1/\Qcs a.1.Sys.Set a.2.2) kl12 (fun _=> .im (.tup [])) putC.H1 0
theorem putC.ok:Qas Tryz.prog 91 putC.row:=by
 refine Qf1 Qaq (tC lookC.ok tN) Tryz.func91 rfl (by kernel_rfl) (by kernel_rfl) (exB:=fun _=>false) (R:=fun _ r=>r= .im (.tup [])) (n:=3) (fun _=>rfl) (by decide)
  (fun a=>by simp[putC.ca,cryH,Qbk,putC.H1,kl12,belL,AV.bel]) (fun a=>by simp[putC.ca,cryH,Qbk,putC.H1,kl12,belH,belL,AV.bel]) (fun a=>by simp[putC.ca,cryH,Qbk,putC.H1,kl12,Qam])
  (fun a=>by simp[Qc2,putC.ca,cryH,Qbk,putC.H1,kl12,AObj.nms,nmsL,AV.nms,domB,hget]) (fun a p hp=> ?_) (fun a r h=>by subst h;exact LeV.refl _) ?_
 rotate_left
 intro a hpre;simp only[Tryz.f91,Option.getD,putC.ca,cryH,Qbk,putC.H1,kl12];simp(maxSteps:=9^9)(disch:=omega)only[ZZ,simprocAttr,rch,ORB,putC.ca,cryH,Qbk,putC.H1,kl12];obtain⟨hp1,hp2,hp3⟩:=hpre;rw[upd_pi,del_ps];have hq:Qacu ⟨a.1.Sys,updP a.1.Tl a.2.1 a.2.2,delP a.1.Op a.2.1⟩:=⟨hp1.1,putT_in hp1.2.1 hp3,hp1.2.2⟩;refine orow.os (⟨a.1.Sys,updP a.1.Tl a.2.1 a.2.2,delP a.1.Op a.2.1⟩,a.2.1) [0,1,2] ⟨hq,hp2⟩ (fun j=>Qack _ j) rfl rfl ?_ ?_
 .simp(maxSteps:=9^9)(disch:=omega)only[ZZ,simprocAttr,rch,ORB,putC.ca,cryH,Qbk,putC.H1,kl12,lookC.ca,cryH,Qbk,ZaV]
 .simp(maxSteps:=9^9)(disch:=omega)only[ZZ,simprocAttr,rch,ORB,putC.ca,cryH,Qbk,putC.H1,kl12,lookC.H1,kl2,sub,putT]
 simp[putC.H1] at hp;rcases hp with rfl|rfl
 .exact .inl ⟨by omega,rfl,rfl⟩
 .exact .inl ⟨by omega,rfl,rfl⟩
def asmC.ca(_:Cry):List AV:=[.ptr 0 0]
def asmC.H1(a:Cry):Qan:=[(1,(false,.map ⟨true,[.int .i64,.int .i64]⟩ (a.Tl.map Qbe)))]
def klA(j:Nat):Bool:=j==1
theorem asmT_perm{t:List (Qae×Int)}{l:List Qab}(hd:(t.map Prod.fst).Nodup)(h:l.Perm (t.map mkPl)):Qfh l=Qfh (t.map mkPl)/\(l.map Qab.At).Nodup/\l.length=t.length:=by
 have hd':((t.map mkPl).map Qab.At).Nodup:=by rw[Qac3];exact hd
 refine⟨Qlp hd' ((Qd4 l).trans h) (Qnm l),(h.map Qab.At).nodup_iff.2 hd',by rw[h.length_eq,Zbv]⟩
def asmT(t:List (Qae×Int)):Asm:=⟨Qfh (t.map mkPl)⟩
def asmC.row:Row:=orow asmC.ca cryH 3 (fun a=>(a.Tl.map Prod.fst).Nodup/\a.Tl.length<=100000) klA (fun a=> .im (.agg (Asm.c (asmT a.Tl)))) asmC.H1 0
def YaV:=J @asmOf.q (J @asmOf.ar.eq_1 @asmOf.fv.eq_1)
theorem asmC.ok:Qas Tryz.prog 108 asmC.row:=by
 refine Qf1 Qaq (tC asmOf.ok tN) Tryz.func108 rfl (by kernel_rfl) (by kernel_rfl) (exB:=fun _=>false) (R:=fun a r=>r= .im (.agg (Asm.c (asmT a.Tl)))) (n:=1) (fun _=>rfl) (by decide)
  (fun a=>by simp[asmC.ca,cryH,Qbk,asmC.H1,klA,belL,AV.bel]) (fun a=>by simp[asmC.ca,cryH,Qbk,asmC.H1,klA,belH,belL,AV.bel]) (fun a=>by simp[asmC.ca,cryH,Qbk,asmC.H1,klA,Qam])
  (fun a=>by simp[Qc2,asmC.ca,cryH,Qbk,asmC.H1,klA,AObj.nms,nmsL,AV.nms,domB,hget]) (fun a p hp=> ?_) (fun a r h=>by subst h;exact LeV.refl _) ?_
 rotate_left
 intro a hpre;simp only[Tryz.f108,Option.getD,asmC.ca,cryH,Qbk,asmC.H1,klA];simp(maxSteps:=9^9)(disch:=omega)only[ZZ,simprocAttr,rch,YaV,ORB,asmC.ca,cryH,Qbk,asmC.H1,klA];obtain⟨hp1,hp2⟩:=hpre;refine Qay.ren ⟨{s:Option (D×D)×List (Qae×Int)×List Qab//(s.2.2++s.2.1.map mkPl).Perm (a.Tl.map mkPl)},fun s=>⟨[(10,.it 5),(3,.own 6),(2,.ptr 3 0),(0,.ptr 0 0)],[(6,(true,.arr 160 3 (s.1.2.2.map Qab.c))),(5,(true,.iter s.1.1 (s.1.2.1.map Qbe))),(3,(true,.cells 45 [.im (.sl true 0 [])])),(0,(true,.cells 175 (Qbk a.Sys))),(1,(false,.map ⟨true,[.int .i64,.int .i64]⟩ (a.Tl.map Qbe))),(2,(true,.map ⟨true,[.int .i64,.int .i64]⟩ (a.Op.map Qbc)))],7⟩,fun s=>s.1.2.1.length,fun s=>⟨by simp[Qad.good,belT,belH,Qam,AV.bel,belL,Qbk],by simp⟩,⟨⟨(none,a.Tl,[]),by simp⟩,[(6,some 4)],?_⟩,fun s=> ?_⟩
 .simp only[subP,Qbk];simp(maxSteps:=9^9)(disch:=omega)only[ZZ,simprocAttr,rch,YaV,ORB,asmC.ca,cryH,Qbk,asmC.H1,klA,Zbb]
  try simp
 obtain⟨⟨last,left,col⟩,hs⟩:=s;simp only at hs;simp only[Qbk];simp(maxSteps:=9^9)(disch:=omega)only[ZZ,simprocAttr,rch,YaV,ORB,asmC.ca,cryH,Qbk,asmC.H1,klA,sub,Qal];refine⟨fun hl=> ?_,fun i p hp=> ?_⟩
 .have hl':left=[]:=by simpa using hl
  subst hl';rw[Zbb,ZaL] at hs;obtain⟨r1,r2,r3⟩:=asmT_perm hp1 hs;exact⟨⟨r2,by omega⟩,by simp only[asmT,r1]⟩
 .rw[ZaT] at hp;cases hq:left[i]? with
  |none=>rw[hq] at hp;cases hp
  |some q=>
   rw[hq] at hp;obtain rfl:=Zaa hp;obtain⟨⟨qx,qy⟩,qn⟩:=q;simp only[Qbe,Qae.c];simp(maxSteps:=9^9)(disch:=omega)only[ZZ,simprocAttr,rch,YaV,ORB,asmC.ca,cryH,Qbk,asmC.H1,klA,sub,Qal];have hi:i<left.length:=by
    rcases ZbC i left.length with h|h
    .exact h
    .rw[ZaY h] at hq;cases hq
   have hpm:((⟨qx,qy⟩,qn)::left.eraseIdx i).Perm left:=Qqq _ _ _ hq;have hP:((col++[(⟨⟨qx,qy⟩,qn⟩:Qab)])++(left.eraseIdx i).map mkPl).Perm (a.Tl.map mkPl):=by
    rw[ZbE];refine (List.Perm.append_left col ?_).trans hs;exact hpm.map mkPl
   have hcl:col.length<=a.Tl.length:=by
    have r3:=hs.length_eq;simp at r3;omega
   refine⟨by omega,⟨⟨(some (D.agg [.int .i64 qx,.int .i64 qy],D.int .i64 qn),left.eraseIdx i,col++[(⟨⟨qx,qy⟩,qn⟩:Qab)]),hP⟩,[(6,some 9)],?_,?_⟩⟩
   .simp only[ZeV];rw[Zak hi];omega
   .simp only[subP];simp(maxSteps:=9^9)(disch:=omega)only[ZZ,simprocAttr,rch,YaV,ORB,asmC.ca,cryH,Qbk,asmC.H1,klA];simp[Qab.c,Qwf]
 simp[asmC.H1] at hp;subst hp;exact .inl ⟨by omega,rfl,rfl⟩
def nonE{A:Type}(l:List A):Option (List A):=if l=[] then none else some l
abbrev Qajt(s:Qar)(f:Qae->Int)(q:Qae):List Int:=Qm0 s f q s.Set.Tiles.length
def OpOk(s:Qar)(f:Qae->Int)(op:List (Qae×List Int)):Prop:=(op.map Prod.fst).Nodup/\ ∀q,lkP op q=nonE (Qajt s f q)
theorem Qaj1{s:Qar}{f:Qae->Int}{q:Qae}(h: ∀k:Int,Qpg s f q k=false): ∀n,Qm0 s f q n=[]
 |0=>rfl
 |n+1=>by simp only[Qm0,Qaj1 h n,h,ZaK];rfl
theorem Qamc{s:Qar}{f:Qae->Int}{q:Qae}(h:0<=f q)(n:Nat):Qm0 s f q n=[]:=
 Qaj1 (fun k=>by simp only[Qpg];rw[ZdZ (show ¬f q<0 by omega)];simp) n
theorem Qakr{s:Qaa}{f:Qae->Int}{q:Qae}{t:Int}(h: ∀d:Nat,d<4->f (Qf7 q d)<0): ∀k,k<=4->Qhs s f q t k=0
 |0,_=>rfl
 |k+1,hk=>by
  have:=h k (by omega)
  simp only[Qhs,Qakr h k (by omega),Quh];rw[Zag (by omega)];rfl
theorem Qakp{s:Qar}{f:Qae->Int}{q:Qae}(hT:1<=s.Temperature)(h: ∀d:Nat,d<4->f (Qf7 q d)<0)(n:Nat):Qm0 s f q n=[]:=
 Qaj1 (fun k=>by simp only[Qpg,Qakr h 4 (Zam _)];rw[ZdZ (show ¬s.Temperature<=0 by omega)];simp) n
theorem Qalw{s:Qaa}{f g:Qae->Int}{q:Qae}{t:Int}(h: ∀d:Nat,d<4->f (Qf7 q d)=g (Qf7 q d)): ∀k,k<=4->Qhs s f q t k=Qhs s g q t k
 |0,_=>rfl
 |k+1,hk=>by simp only[Qhs,Qalw h k (by omega),Quh,h k (by omega)]
theorem Qalv{s:Qar}{f g:Qae->Int}{q:Qae}(h0:f q=g q)(h: ∀d:Nat,d<4->f (Qf7 q d)=g (Qf7 q d)): ∀n,Qm0 s f q n=Qm0 s g q n
 |0=>rfl
 |n+1=>by
  have e:Qpg s f q n=Qpg s g q n:=by simp only[Qpg,h0,Qalw h 4 (Zam _)]
  simp only[Qm0,Qalv h0 h n,e]
theorem lkP_no{β:Type}{p:Qae}: ∀{l:List (Qae×β)},p∉l.map Prod.fst->lkP l p=none
 |[],_=>rfl
 |(k,v)::r,h=>by
  simp only[Zan,Zaw,Zfi] at h;simp only[lkP];rw[Zag h.1,lkP_no h.2]
theorem Qakn{β:Type}{p:Qae}: ∀{l:List (Qae×β)},p∈l.map Prod.fst-> ∃v,lkP l p=some v/\(p,v)∈l
 |[],h=>by simp at h
 |(k,v)::r,h=>by
  simp only[lkP];by_cases c:p=k
  .rw[Zak c,c];exact⟨v,rfl,Zau ..⟩
  .rw[Zag c];obtain⟨w,h1,h2⟩:=Qakn (l:=r) (by simpa[c] using h);exact⟨w,h1,Zar _ h2⟩
theorem lkP_in{β:Type}{p:Qae}{l:List (Qae×β)}:p∈l.map Prod.fst↔lkP l p≠none:=by
 constructor
 .intro h;obtain⟨v,h1,_⟩:=Qakn h;rw[h1];simp
 .intro h;apply ZbT;intro h2;exact h (lkP_no h2)
theorem Qak7{β:Type}{p q:Qae}: ∀{l:List (Qae×β)},q∈(delP l p).map Prod.fst->q∈l.map Prod.fst
 |[],h=>by simp[delP] at h
 |(k,v)::r,h=>by
  simp only[delP] at h;split at h
  .exact Zar _ h
  .simp only[Zan,Zaw] at h⊢;rcases h with h|h
   .exact .inl h
   .exact .inr (Qak7 h)
theorem Qamm{β:Type}{p:Qae}: ∀{l:List (Qae×β)},(l.map Prod.fst).Nodup->((delP l p).map Prod.fst).Nodup
 |[],h=>h
 |(k,v)::r,h=>by
  simp only[Zan,ZbQ] at h;simp only[delP];split
  .exact h.2
  .simp only[Zan,ZbQ];exact⟨fun h2=>h.1 (Qak7 h2),Qamm h.2⟩
theorem Qamj{β:Type}{p:Qae}(q:Qae): ∀{l:List (Qae×β)},(l.map Prod.fst).Nodup->lkP (delP l p) q=if q=p then none else lkP l q
 |[],_=>by simp[delP,lkP]
 |(k,v)::r,h=>by
  simp only[Zan,ZbQ] at h;simp only[delP];by_cases c:p=k
  .rw[Zak c];by_cases e:q=p
   .rw[Zak e,e,c];exact lkP_no h.1
   .rw[Zag e];simp only[lkP];rw[Zag (fun h2=>e (h2.trans c.symm))]
  .rw[Zag c];simp only[lkP];by_cases e:q=k
   .rw[Zak e,Zak e,Zag (fun h2=>c (h2.symm.trans e))]
   .rw[Zag e,Zag e,Qamj q h.2]
theorem updP_ky{β:Type}{p q:Qae}{v:β}: ∀{l:List (Qae×β)},q∈(updP l p v).map Prod.fst↔q=p\/q∈l.map Prod.fst
 |[]=>by simp[updP]
 |(k,w)::r=>by
  simp only[updP];split
  .rename_i c;subst c;simp
  .simp only[Zan,Zaw,updP_ky (l:=r)];constructor
   .rintro (h|h|h)
    .exact .inr (.inl h)
    .exact .inl h
    .exact .inr (.inr h)
   .rintro (h|h|h)
    .exact .inr (.inl h)
    .exact .inl h
    .exact .inr (.inr h)
theorem Qak9{β:Type}{p:Qae}{v:β}: ∀{l:List (Qae×β)},(l.map Prod.fst).Nodup->((updP l p v).map Prod.fst).Nodup
 |[],_=>by simp[updP]
 |(k,w)::r,h=>by
  simp only[Zan,ZbQ] at h;simp only[updP];split
  .rename_i c;subst c;simp only[Zan,ZbQ];exact h
  .rename_i c;simp only[Zan,ZbQ];refine⟨fun h2=> ?_,Qak9 h.2⟩;rcases updP_ky.1 h2 with e|e
   .exact c e.symm
   .exact h.1 e
theorem lookS_nd{s:Qar}{f:Qae->Int}{op:List (Qae×List Int)}{q:Qae}(h:(op.map Prod.fst).Nodup):((Qak2 s f op q).map Prod.fst).Nodup:=by
 simp only[Qak2];split
 .exact Qamm h
 .exact Qak9 h
theorem lookS_lk{s:Qar}{f:Qae->Int}{op:List (Qae×List Int)}{p:Qae}(h:(op.map Prod.fst).Nodup)(q:Qae):lkP (Qak2 s f op p) q=if q=p then nonE (Qajt s f q) else lkP op q:=by
 simp only[Qak2];by_cases c:Qm0 s f p s.Set.Tiles.length=[]
 .rw[Zak c,Qamj q h];by_cases e:q=p
  .subst e;rw[Zak rfl,Zak rfl,nonE,Zak c]
  .rw[Zag e,Zag e]
 .rw[Zag c,Qyq];by_cases e:q=p
  .subst e;rw[Zak rfl,Zak rfl,nonE,Zag c]
  .rw[Zag e,Zag e]
theorem Qakk{s:Qar}{f:Qae->Int}{op:List (Qae×List Int)}{p:Qae}(h:(op.map Prod.fst).Nodup): ∀k,((Qrz s f op p k).map Prod.fst).Nodup
 |0=>h
 |k+1=>lookS_nd (Qakk h k)
def Qaj9(p q:Qae):Prop:= ∃d:Nat,d<4/\Qf7 p d=q
theorem Qalc{s:Qar}{f:Qae->Int}{op:List (Qae×List Int)}{p:Qae}(h:(op.map Prod.fst).Nodup)(q:Qae): ∀k,(∀d:Nat,d<k->Qf7 p d≠q)/\lkP (Qrz s f op p k) q=lkP op q\/(∃d:Nat,d<k/\Qf7 p d=q)/\lkP (Qrz s f op p k) q=nonE (Qajt s f q)
 |0=> .inl ⟨fun d hd=>absurd hd (by omega),rfl⟩
 |k+1=>by
  have ih:=Qalc (s:=s) (f:=f) (p:=p) h q k;simp only[Qrz,lookS_lk (Qakk h k)];by_cases c:q=Qf7 p k
  .rw[Zak c];exact .inr ⟨⟨k,by omega,c.symm⟩,rfl⟩
  .rw[Zag c];rcases ih with ⟨h1,h2⟩|⟨⟨d,h1,h2⟩,h3⟩
   .refine .inl ⟨fun d hd=> ?_,h2⟩;by_cases e:d=k
    .subst e;exact fun h=>c h.symm
    .exact h1 d (by omega)
   .exact .inr ⟨⟨d,by omega,h2⟩,h3⟩
theorem look4{s:Qar}{f:Qae->Int}{op:List (Qae×List Int)}{p:Qae}(h:(op.map Prod.fst).Nodup)(q:Qae):(¬Qaj9 p q/\lkP (Qrz s f op p 4) q=lkP op q)\/(Qaj9 p q/\lkP (Qrz s f op p 4) q=nonE (Qajt s f q)):=by
 rcases Qalc (s:=s) (f:=f) h q 4 with ⟨h1,h2⟩|h
 .exact .inl ⟨fun ⟨d,hd,e⟩=>h1 d hd e,h2⟩
 .exact .inr h
theorem step_back(p:Qae){d:Nat}(h:d<4):Qf7 (Qf7 p d) ((d+2) % 4:Nat)=p:=by
 rcases (by omega:d=0\/d=1\/d=2\/d=3) with rfl|rfl|rfl|rfl<;>simp[Qf7]<;>omega
theorem Qake{p q:Qae}(h:Qaj9 p q):Qaj9 q p:=by
 obtain⟨d,hd,rfl⟩:=h;exact⟨(d+2) % 4,by omega,step_back p hd⟩
theorem Qak1{s:Qar}{f:Qae->Int}(q:Qae): ∀(l:List Qab) (op:List (Qae×List Int)),(op.map Prod.fst).Nodup->
 ((l.foldl (fun o x=>Qrz s f o x.At 4) op).map Prod.fst).Nodup/\((∀x∈l,¬Qaj9 x.At q)/\lkP (l.foldl (fun o x=>Qrz s f o x.At 4) op) q=lkP op q\/(∃x∈l,Qaj9 x.At q)/\lkP (l.foldl (fun o x=>Qrz s f o x.At 4) op) q=nonE (Qajt s f q))
 |[],op,h=>⟨h,.inl ⟨by simp,rfl⟩⟩
 |x::r,op,h=>by
  simp only[ZcW];obtain⟨h1,h2⟩:=Qak1 (s:=s) (f:=f) q r (Qrz s f op x.At 4) (Qakk h 4);refine⟨h1,?_⟩;rcases h2 with ⟨a,b⟩|⟨⟨y,hy,a⟩,b⟩
  .rcases look4 (s:=s) (f:=f) (p:=x.At) h q with ⟨c,e⟩|⟨c,e⟩
   .refine .inl ⟨fun y hy=> ?_,b.trans e⟩;rcases Zaw.1 hy with rfl|hy
    .exact c
    .exact a y hy
   .exact .inr ⟨⟨x,Zau ..,c⟩,b.trans e⟩
  .exact .inr ⟨⟨y,Zar _ hy,a⟩,b⟩
theorem tlUp_at{l:List Qab}: ∀{q:Qae},0<=Qbw (tlUp l) q-> ∃x∈l,x.At=q:=by
 have key: ∀(l:List Qab) (t:List (Qae×Int)) (q:Qae),lkP (l.foldl (fun t x=>updP t x.At x.Tile) t) q≠none->(∃x∈l,x.At=q)\/lkP t q≠none:=by
  intro l;induction l with
  |nil=>intro t q h;exact .inr h
  |cons x r ih=>
   intro t q h;rcases ih _ q h with ⟨y,hy,e⟩|h2
   .exact .inl ⟨y,Zar _ hy,e⟩
   .rw[Qyq] at h2;split at h2
    .rename_i e;exact .inl ⟨x,Zau ..,e.symm⟩
    .exact .inr h2
 intro q h;rcases key l [] q (fun e=>by
  simp only[Qbw,tlUp,e,Option.getD_none] at h;omega) with h2|h2
 .exact h2
 .simp[lkP] at h2
theorem op_new{s:Qar}{l:List Qab}(hT:1<=s.Temperature):OpOk s (Qbw (tlUp l)) (opUp s (Qbw (tlUp l)) l):=by
 have hn:(([]:List (Qae×List Int)).map Prod.fst).Nodup:=by simp
 refine⟨(Qak1 ⟨0,0⟩ l [] hn).1,fun q=> ?_⟩;rcases (Qak1 (s:=s) (f:=Qbw (tlUp l)) q l [] hn).2 with ⟨h1,h2⟩|⟨_,h2⟩
 .rw[opUp,h2]
  have:Qajt s (Qbw (tlUp l)) q=[]:=by
   refine Qakp hT (fun d hd=> ?_) _;apply ZbT;intro h;obtain⟨x,hx,e⟩:=tlUp_at (l:=l) (q:=Qf7 q d) (by omega);exact h1 x hx (Qake (e▸⟨d,hd,rfl⟩))
  rw[nonE,Zak this];rfl
 .exact h2
theorem op_put{s:Qar}{tl:List (Qae×Int)}{op:List (Qae×List Int)}{p:Qae}{t:Int}(h:OpOk s (Qbw tl) op)(ht:0<=t):
 OpOk s (Qbw (updP tl p t)) (Qrz s (Qbw (updP tl p t)) (delP op p) p 4):=by
 have hn:=Qamm (p:=p) h.1;have hup: ∀q,Qbw (updP tl p t) q=if q=p then t else Qbw tl q:=fun q=>by
  simp only[Qbw,Qyq];split<;>rfl
 refine⟨Qakk hn 4,fun q=> ?_⟩;rcases look4 (s:=s) (f:=Qbw (updP tl p t)) (p:=p) hn q with ⟨h1,h2⟩|⟨_,h2⟩
 .rw[h2,Qamj q h.1];by_cases e:q=p
  .rw[Zak e,nonE,Zak (Qamc (by rw[hup,Zak e];exact ht) _)]
  .rw[Zag e,h.2 q]
   have:Qajt s (Qbw (updP tl p t)) q=Qajt s (Qbw tl) q:=by
    refine Qalv (by rw[hup,Zag e]) (fun d hd=> ?_) _;rw[hup,Zag];intro e2;exact h1 (Qake ⟨d,hd,e2⟩)
   rw[this]
 .exact h2
def insQ(p:Qae):List Qae->List Qae
 |[]=>[p]
 |y::r=>if Qap y p=true then y::insQ p r else if y=p then y::r else p::y::r
def Qakz(l:List Qae):List Qae:=l.foldr insQ []
abbrev ltQ(l:List Qae):Prop:=l.Pairwise fun a b=>Qap a b=true
theorem Qajr{a b c:Qae}(h1:Qap a b=true)(h2:Qap b c=true):Qap a c=true:=by simp only[Qap] at*;grind
theorem Qaj3(a:Qae):Qap a a=false:=by simp[Qap]
theorem Qako{a b:Qae}(h1:Qap a b=false)(h2:a≠b):Qap b a=true:=by
 obtain⟨ax,ay⟩:=a;obtain⟨bx,by'⟩:=b;simp only[Qap,ne_eq,Qae.mk.injEq] at*
 grind
theorem Qaj7{p q:Qae}: ∀{l:List Qae},q∈insQ p l↔q=p\/q∈l
 |[]=>by simp[insQ]
 |y::r=>by
  simp only[insQ];split
  .simp only[Zaw,Qaj7 (l:=r)];constructor
   .rintro (h|h|h)
    .exact .inr (.inl h)
    .exact .inl h
    .exact .inr (.inr h)
   .rintro (h|h|h)
    .exact .inr (.inl h)
    .exact .inl h
    .exact .inr (.inr h)
  .split
   .rename_i c;subst c;simp
   .simp
theorem Qak4{p:Qae}: ∀{l:List Qae},ltQ l->ltQ (insQ p l)
 |[],_=>by simp[insQ]
 |y::r,h=>by
  rw[ltQ,Zcf] at h;simp only[insQ];split
  .rename_i c;rw[ltQ,Zcf];refine⟨fun z hz=> ?_,Qak4 h.2⟩;rcases Qaj7.1 hz with rfl|hz
   .exact c
   .exact h.1 z hz
  .rename_i c;split
   .rw[ltQ,Zcf];exact h
   .rename_i e;have hpy:=Qako (by simpa using c) e;rw[ltQ,Zcf,Zcf];refine⟨fun z hz=> ?_,h⟩;rcases Zaw.1 hz with rfl|hz
    .exact hpy
    .exact Qajr hpy (h.1 z hz)
theorem Qakg: ∀(l:List Qae),ltQ (Qakz l)
 |[]=>List.Pairwise.nil
 |_::r=>Qak4 (Qakg r)
theorem Qaka{q:Qae}: ∀{l:List Qae},q∈Qakz l↔q∈l
 |[]=>by simp[Qakz]
 |x::r=>by
  have:Qakz (x::r)=insQ x (Qakz r):=rfl
  rw[this,Qaj7,Qaka (l:=r),Zaw]
theorem ltQ_nd{l:List Qae}(h:ltQ l):l.Nodup:=by
 refine Zet (fun {a b} hab e=> ?_) h;rw[e,Qaj3] at hab;cases hab
theorem Qal3{l m:List Qae}(h1:ltQ l)(h2:ltQ m)(h: ∀q,q∈l↔q∈m):l=m:=by
 have hp:l.Perm m:=(Zef (ltQ_nd h1) (ltQ_nd h2)).2 h;refine Zeu (le:=fun a b=>Qap a b=true) (fun a b _ _ g1 g2=> ?_) h1 h2 hp
 have:=Qajr g1 g2
 rw[Qaj3] at this;cases this
def Qajv(a:Asm)(p:Qae)(l:List Qae):Nat->List Qae
 |0=>l
 |k+1=>if Qbi (Qf7 p k)=true/\atA a (Qf7 p k)<0 then insQ (Qf7 p k) (Qajv a p l k) else Qajv a p l k
def Qajq(a:Asm):Nat->List Qae
 |0=>[]
 |i+1=>Qajv a ((a.Tiles[i]?.map Qab.At).getD ⟨0,0⟩) (Qajq a i) 4
theorem Qaj6{a:Asm}{p:Qae}{l:List Qae}(h:ltQ l): ∀k,ltQ (Qajv a p l k)
 |0=>h
 |k+1=>by
  simp only[Qajv];split
  .exact Qak4 (Qaj6 h k)
  .exact Qaj6 h k
theorem Qaki(a:Asm): ∀i,ltQ (Qajq a i)
 |0=>List.Pairwise.nil
 |i+1=>Qaj6 (Qaki a i) 4
theorem Qakw{a:Asm}{p q:Qae}{l:List Qae}: ∀k,q∈Qajv a p l k↔q∈l\/(Qbi q=true/\atA a q<0)/\ ∃d:Nat,d<k/\Qf7 p d=q
 |0=>by simp[Qajv]
 |k+1=>by
  simp only[Qajv];have ih:=Qakw (a:=a) (p:=p) (q:=q) (l:=l) k;split
  .rename_i c;rw[Qaj7,ih];constructor
   .rintro (rfl|h|⟨h,d,h1,h2⟩)
    .exact .inr ⟨c,k,by omega,rfl⟩
    .exact .inl h
    .exact .inr ⟨h,d,by omega,h2⟩
   .rintro (h|⟨h,d,h1,h2⟩)
    .exact .inr (.inl h)
    .by_cases e:d=k
     .subst e;exact .inl h2.symm
     .exact .inr (.inr ⟨h,d,by omega,h2⟩)
  .rename_i c;rw[ih];constructor
   .rintro (h|⟨h,d,h1,h2⟩)
    .exact .inl h
    .exact .inr ⟨h,d,by omega,h2⟩
   .rintro (h|⟨h,d,h1,h2⟩)
    .exact .inl h
    .by_cases e:d=k
     .subst e;subst h2;exact absurd h c
     .exact .inr ⟨h,d,by omega,h2⟩
theorem Qajz{a:Asm}{q:Qae}: ∀i,i<=a.Tiles.length->(q∈Qajq a i↔(Qbi q=true/\atA a q<0)/\ ∃x∈a.Tiles.take i,Qaj9 x.At q)
 |0,_=>by simp[Qajq]
 |i+1,hi=>by
  have hx:a.Tiles[i]? =some (a.Tiles[i]'(by omega)):=Zad (by omega);simp only[Qajq];rw[Qakw,Qajz i (by omega),Qwe hx,hx,ZaR,Zae];constructor
  .rintro (⟨h,x,h1,h2⟩|⟨h,h2⟩)
   .exact⟨h,x,Zby _ h1,h2⟩
   .exact⟨h,_,ZbN _ (Zau ..),h2⟩
  .rintro⟨h,x,h1,h2⟩;rcases Zao.1 h1 with h1|h1
   .exact .inl ⟨h,x,h1,h2⟩
   .rw[Zaq] at h1;subst h1;exact .inr ⟨h,h2⟩
def atU(s:Qar)(f:Qae->Int)(q:Qae):Nat->List Int
 |0=>[]
 |k+1=>atU s f q k++(if s.Temperature<=Qhs s.Set f q k 4 then [(k:Int)] else [])
theorem Qakm(s:Qar)(f:Qae->Int)(q:Qae): ∀k,(atU s f q k).length<=k
 |0=>by simp[atU]
 |k+1=>by
  have:=Qakm s f q k
  simp only[atU,ZaF]
  split<;>simp<;>omega
theorem Qalg{s:Qar}{f:Qae->Int}{q:Qae}(h1:Qbi q=true)(h2:f q<0): ∀n,Qm0 s f q n=atU s f q n
 |0=>rfl
 |n+1=>by
  simp only[Qm0,atU,Qalg h1 h2 n,Qpg,h1,ZeY h2,Zbk,Zap]
def mkO2(p:Qae)(k:Int):Opt:=⟨p,k⟩
def Qajs(g:Qae->List Int)(l:List Qae):List Opt:=l.flatMap fun p=>(g p).map (mkO2 p)
def Qaj8(s:Qar)(a:Asm):List Opt:=Qajs (fun p=>atU s (atA a) p s.Set.Tiles.length) (Qajq a a.Tiles.length)
def Qalo(op:List (Qae×List Int)):List Opt:=Qajs (fun p=>(lkP op p).getD []) (Qakz (op.map Prod.fst))
theorem Qaj5{g:Qae->List Int}: ∀(l:List Qae),Qajs g (l.filter fun p=> !(g p).isEmpty)=Qajs g l
 |[]=>rfl
 |p::r=>by
  have ih:=Qaj5 (g:=g) r;simp only[Qajs] at ih;simp only[Qajs,ZdO];split
  .simp only[Zbi,ih]
  .rename_i c
   have:g p=[]:=by simpa using c
   simp only[Zbi,ih,this,Zbb,ZaK]
theorem Qajx{g h:Qae->List Int}: ∀(l:List Qae),(∀p∈l,g p=h p)->Qajs g l=Qajs h l
 |[],_=>rfl
 |p::r,hg=>by
  simp only[Qajs,Zbi];rw[hg p (Zau ..)]
  have:=Qajx r fun q hq=>hg q (Zar _ hq)
  simp only[Qajs] at this;rw[this]
theorem atA_mem{a:Asm}{q:Qae}(h:0<=atA a q): ∃x∈a.Tiles,x.At=q:=by
 simp only[atA] at h;cases e:a.Tiles.find? (fun x=>decide (x.At=q)) with
 |none=>rw[e] at h;simp at h
 |some x=>exact⟨x,ZcT e,by simpa using Zdj e⟩
theorem opts_law{s:Qar}{a:Asm}{op:List (Qae×List Int)}(hT:1<=s.Temperature)(h:OpOk s (atA a) op):Qalo op=Qaj8 s a:=by
 have hin: ∀q,Qajt s (atA a) q≠[]->q∈Qajq a a.Tiles.length:=fun q hq=>by
  rw[Qajz _ (Zam _),ZbB];have h0:atA a q<0:=by
   apply ZbT;intro c;exact hq (Qamc (by omega) _)
  have hp:Qbi q=true:=by
   apply ZbT;intro c;exact hq (Qaj1 (fun k=>by simp only[Qpg];rw[ZbP] at c;rw[c];rfl) _)
  refine⟨⟨hp,h0⟩,?_⟩;apply ZbT;intro c;refine hq (Qakp hT (fun d hd=> ?_) _);apply ZbT;intro c2;obtain⟨x,hx,e⟩:=atA_mem (a:=a) (q:=Qf7 q d) (by omega);exact c ⟨x,hx,Qake ⟨d,hd,e.symm⟩⟩
 have hon: ∀q∈Qajq a a.Tiles.length,atU s (atA a) q s.Set.Tiles.length=Qajt s (atA a) q:=fun q hq=>by
  rw[Qajz _ (Zam _)] at hq;exact (Qalg hq.1.1 hq.1.2 _).symm
 have hlk: ∀q,(lkP op q).getD []=Qajt s (atA a) q:=fun q=>by
  rw[h.2 q,nonE];split
  .rename_i e;rw[e];rfl
  .rfl
 have e1:Qaj8 s a=Qajs (Qajt s (atA a)) (Qajq a a.Tiles.length):=Qajx _ hon;have e2:Qalo op=Qajs (Qajt s (atA a)) (Qakz (op.map Prod.fst)):=Qajx _ fun q _=>hlk q
 rw[e1,e2,<-Qaj5 (Qajq a a.Tiles.length)];congr 1;refine Qal3 (Qakg _) ((Qaki a _).filter _) (fun q=> ?_);rw[Qaka,lkP_in,h.2 q,nonE,ZcX];constructor
 .intro hq;have hne:Qajt s (atA a) q≠[]:=fun e=>hq (Zak e)
  exact⟨hin q hne,by simpa using hne⟩
 .rintro⟨_,hq⟩;have hne:Qajt s (atA a) q≠[]:=by simpa using hq
  rw[Zag hne];simp
end Go.Ae
namespace Go.Ae
open Go.Proofs Go.Sort Go.Shelf
instance:Inhabited Qae:=⟨⟨0,0⟩⟩
def encQ(x:Qae):List Value:=[.int .i64 x.X,.int .i64 x.Y]
def cfQ(x y:Qae):Int:=Qabu (x.X,x.Y) (y.X,y.Y)
theorem Qamn(x y:Qae):ltOf cfQ x y=Qap x y:=by
 simp only[ltOf,cfQ,Qabu,Lib.compareInt,Qap]
 grind
theorem swoQ:SWO (ltOf cfQ) where
 irrefl x:=by rw[Qamn];simp only[Qap];grind
 trans x y z h1 h2:=by rw[Qamn] at*;simp only[Qap] at*;grind
 ntrans x y z h1 h2:=by rw[Qamn] at*;simp only[Qap] at*;grind
theorem Qall{l:List Qae}(hd:l.Nodup):(Qakz l).Perm l:=(Zef (ltQ_nd (Qakg l)) hd).2 fun _=>Qaka
theorem Qamw{l l':List Qae}(hd:l.Nodup)(hp:l'.Perm l)(hs:l'.Pairwise (fun a b=>Qap b a=false)):l'=Qakz l:=by
 refine Qal3 ?_ (Qakg l) (fun q=>by rw[Qaka,hp.mem_iff]);have hn:l'.Nodup:=hp.nodup_iff.2 hd;refine Zet (fun {a b} h=> ?_) (List.pairwise_and_iff.2 ⟨hs,hn⟩);exact Qako h.1 fun e=>h.2 e.symm
theorem sortQ_len{l:List Qae}(hd:l.Nodup):(Qakz l).length=l.length:=(Qall hd).length_eq
def flQ(l:List Qae):List Value:=l.flatMap encQ
theorem flQ_len(l:List Qae):(flQ l).length=l.length*2:=by
 induction l with
 |nil=>rfl
 |cons x r ih=>simp only[flQ,Zbi,ZaF,ZaG] at ih⊢;rw[ih];simp[encQ];omega
theorem Qaml{ok:Nat->Prop}{hp:Nat->Option Obj}: ∀(l:List Qae) (L:List Value),rdr ok hp 2 (l.map Qae.c) L↔ ∃r,L=flQ l++r
 |[],L=>by simp[rdr,flQ]
 |x::r,L=>by
  simp only[Zan,rdr,Qaml r,Qae.c,rdp,rd,flQ,Zbi];constructor
  .rintro⟨_,⟨v,L1,rfl,rfl,v2,L2,rfl,rfl,_⟩,q,hq⟩;exact⟨q,by simp only[ZbV,ZbI] at hq;rw[hq];rfl⟩
  .rintro⟨q,rfl⟩;exact⟨rfl,⟨_,_,rfl,rfl,_,_,rfl,rfl,trivial⟩,q,rfl⟩
theorem flQ_get: ∀(l:List Qae) (t:Nat),t<l.length*2->(flQ l)[t]? =some ((encQ (l[t/2]?.getD default))[t % 2]!)
 |[],t,h=>by simp at h
 |x::r,t,h=>by
  by_cases ht:t<2
  .have:t=0\/t=1:=by omega
   rcases this with rfl|rfl<;>simp[flQ,encQ]
  .obtain⟨u,rfl⟩: ∃u,t=u+2:=⟨t - 2,by omega⟩;have e1:(u+2)/2=u/2+1:=by omega
   have e2:(u+2) % 2=u % 2:=by omega
   have ih:=flQ_get r u (by simp at h;omega);rw[e1,e2,ZaX,<-ih];simp[flQ,encQ]
theorem Qama(l:List Qae):(flatK encQ 2 l.toArray).toList=flQ l:=by
 apply Zca;intro t;by_cases ht:t<l.length*2
 .rw[flQ_get l t ht];have hs:t<(flatK encQ 2 l.toArray).size:=by simp only[size_flatK,ZbR];exact ht
  have h1:=get_flatK encQ 2 l.toArray t (by simpa using ht);rw[ZaS,Zba hs,<-getElem!_pos (flatK encQ 2 l.toArray) t hs,h1];congr 3;simp[getElem!_def];cases l[t/2]? <;>rfl
 .have a1:(flatK encQ 2 l.toArray).toList.length<=t:=by rw[ZaM,size_flatK,ZbR];omega
  have a2:(flQ l).length<=t:=by rw[flQ_len];omega
  rw[ZaY a1,ZaY a2]
def srtQ.ca(_:List Qae):List AV:=[.own 0,.im (.fn 112 [] [])]
def srtQ.H0(a:List Qae):Qan:=[(0,(true,.arr 58 2 (a.map Qae.c)))]
def srtQ.H1(a:List Qae):Qan:=[(0,(true,.arr 58 2 ((Qakz a).map Qae.c)))]
def srtQ.row:Row:=orow srtQ.ca srtQ.H0 1 (fun a=>a.Nodup) (fun _=>true) (fun _=> .im (.tup [])) srtQ.H1 0
theorem srtQ.ok:Qas Tryz.prog 153 srtQ.row:=by
 rintro args h nx K ⟨a,τ,U,KL,hpre,rfl,hheap,hN,hK⟩;refine⟨Qh7 (by kernel_rfl),_,_,?_,hK⟩;intro C S vs R hW huse hfresh hnames hargs hfin;have hs0:sgx τ 1 nx 0=τ 0:=Zak (by omega);simp only[srtQ.ca,renL,AV.ren,hs0,Qa0,conc,rd,rdl] at hargs;obtain⟨v0,r0,hv,⟨hone,hown⟩,v1,r1,hr1,⟨ac,cc,hv1,hac,hcc⟩,hr2⟩:=hargs;have hac:ac= #[]:=by apply Zde;simpa using hac
 have hcc:cc= #[]:=by apply Zde;simpa using hcc
 subst hac hcc hr2 hr1 hv1;have hvs:vs= #[v0,.func (fnV 112) #[] #[]]:=by apply Zde;simpa using hv
 subst hvs;have hm:h (τ 0)=some (true,.arr 58 2 (a.map Qae.c)):=by
  have:=hheap.1
  rwa [hs0] at this
 have hd0:domB (srtQ.H0 a) 0=true:=rfl;have hSm:S.h (τ 0)=some (true,.arr 58 2 (a.map Qae.c)):=by
  rw[huse (τ 0) (Zby _ (hN.u 0 hd0)),hm]
 have hk0: ∀n,n∈KL↔n=τ 0:=by
  intro n;constructor
  .intro hn;obtain⟨j,h1,_,h3⟩:=hN.k1 n hn
   have:j=0:=by
    simp only[domB,srtQ.H0,hget] at h1;by_cases hj:j=0
    .exact hj
    .have:(0==j)=false:=by simpa using fun h=>hj h.symm
     rw[this] at h1;cases h1
   rw[h3,this]
  .rintro rfl;exact hN.k2 0 hd0 rfl
 obtain⟨m,hmm⟩: ∃m,m=τ 0:=⟨_,rfl⟩;rw[<-hmm] at hSm hown hk0;have hsl:=sortQ_len hpre;have fin: ∀(w':World),Qjb S m (.arr 58 2 ((Qakz a).map Qae.c)) (S.ρ m) [m] w'->
  (Pres (fun n=>S.h m≠none\/n≠m) S (S.one m (.arr 58 2 ((Qakz a).map Qae.c)) (S.ρ m) [m] w')->objc (S.one m (.arr 58 2 ((Qakz a).map Qae.c)) (S.ρ m) [m] w') (S.ρ m) (.arr 58 2 ((Qakz a).map Qae.c)))->R (.returned (.tuple #[])) w':=by
  intro w' hone hob;have hp:=Qg2 hW hone;refine hfin (.tuple #[]) _ (Qqp hW hone (hob hp)) ?_ ⟨hp.ok,fun n _=>hp.nm n (.inl (by rw[hSm];simp))⟩ ⟨#[],rfl,rfl⟩;funext n;simp only[Env.one,Eff.appf,srtQ.H1,renH,hs0,hget,AObj.ren,<-hmm];by_cases hn:n=m
  .subst hn;simp
  .have h1:(m==n)=false:=by simpa using fun h=>hn h.symm
   have h2:KL.contains n=false:=by
    rw[<-ZbP,Zbq,hk0];exact hn
   simp only[h1,ZaW,h2,hn,Zbx,Zaq]
 have hown':=hown _ hSm;have hobj:=hW.obj _ _ hSm;have hloc:=fun lc=>hW.loc m _ lc hSm
 cases hρ:S.ρ m with
 |none=>
  rw[hρ] at hown' hobj;simp only[objc] at hobj;have ha:a=[]:=by simpa using hobj.2
  subst ha;simp only at hown';rw[hown',Qoi (by decide)];refine (AnyF.slices_SortFunc_none Tryz.sortPt none 0 (.func (.func 112) #[] #[]) S.w).mono ?_;rintro e w' ⟨rfl,rfl⟩;refine fin S.w (Qacz hSm (fun l hl=>by rw[hρ] at hl;cases hl) rfl rfl) (fun _=> ?_);rw[hρ];exact⟨ZaZ _,rfl⟩
 |some lc=>
  rw[hρ] at hown' hobj;simp only[objc,AObj.len] at hobj hown';obtain⟨g1,g2,cv,g3,g4,g5⟩:=hobj;obtain⟨hlb,hlk⟩:=hloc lc hρ;rw[Qaml] at g5;obtain⟨rest,g5⟩:=g5;simp only[Zbv] at g1 g2 hown';have hheap:S.w.heap[lc.b]? =some (.cells cv 58 (0,0)):=g3;have hlen:lc.p+a.length*2<=cv.size:=by omega
  have hF:(flatK encQ 2 a.toArray).size=a.length*2:=by simp
  have hget: ∀j,j<a.length*2->cv[lc.p+j]? =some ((flatK encQ 2 a.toArray)[j]!):=by
   intro j hj;have h1:(cv.toList.drop lc.p)[j]? =(flQ a++rest)[j]? :=by rw[g5]
   rw[Zbt,ZaS,ZaD (by rw[flQ_len];exact hj),<-Qama,ZaS] at h1;rw[h1,Zba (by rw[hF];exact hj),getElem!_pos _ _ (by rw[hF];exact hj)]
  have hH:HoldsK encQ 2 S.w lc.b lc.p a.toArray:=by
   intro j hj;rw[hF] at hj;refine⟨?_,?_⟩
   .simp only[World.cell?,hheap,ZcQ,Zay,Zbx,id];exact hget j hj
   .simp only[World.frozen?,hheap];simp
  have hc:=AnyQ.slices_SortFunc Tryz.sortPt 2 Tryz.isAgg58 Tryz.sizeOf58 encQ (fun _=>rfl) (fun x v hv=>by simp[encQ] at hv;rcases hv with rfl|rfl<;>rfl) cfQ swoQ 112 #[] lc.b lc.p lc.cap a.toArray S.w
   (Qhx (Qh7 (by kernel_rfl))) (fun m os dk hs x y=>Tryz.cmpPoints _ _ _ _ _) hH hlb (by simp only[ZbR,LIM] at g1⊢;omega)
  rw[hown',Qoi (by decide)];refine hc.mono ?_;rintro e w' ⟨rfl,d',n,os,hperm,hsort,rfl⟩;have hsz:d'.size=a.length:=hperm.1;have hd':d'.toList=Qakz a:=by
   refine Qamw hpre ?_ ?_
   .have:=hperm.2.2
    rwa [show d'.extract 0 a.toArray.size=d' by rw[ZbR,<-hsz];exact Zdg,show a.toArray.extract 0 a.toArray.size=a.toArray from Zdg] at this
   .rw[Zdr];intro i j hi hj hij
    have:=hsort i j (ZaZ _) hij (by rw[ZbR,<-hsz];simpa using hj)
    rw[Qamn,getElem!_pos d' i (by simpa using hi),getElem!_pos d' j (by simpa using hj)] at this;simpa using this
  obtain rfl:d'=(Qakz a).toArray:=by apply Zde;rw[hd']
  have hF':(flatK encQ 2 (Qakz a).toArray).size=a.length*2:=by simp[hsl]
  have hl2:(flatK encQ 2 (Qakz a).toArray).toList.length=a.length*2:=by rw[ZaM,hF']
  have hsize:S.w.heap.size<=(sortWorldK encQ 2 S.w lc.b lc.p n (Qakz a).toArray os).heap.size:=by
   simp[sortWorldK,grow,putRowK,Sort.ahead]
  have hb: ∀b,b<S.w.heap.size->(sortWorldK encQ 2 S.w lc.b lc.p n (Qakz a).toArray os).heap[b]? =if lc.b=b then S.w.heap[b]?.map (onCells (putCells id lc.p (flatK encQ 2 (Qakz a).toArray))) else S.w.heap[b]? :=by
   intro b hb;have e0:b<(putRowK encQ 2 (Sort.ahead S.w n) lc.b lc.p (Qakz a).toArray).heap.size:=by simpa[putRowK,Sort.ahead] using hb
   simp only[sortWorldK,grow];rw[Zdo e0];simp only[putRowK,putRow,mapBlock,Sort.ahead,ZdG]
  refine fin _ ⟨rfl,rfl,rfl,hsize,?_,.inl (by simp),?_,?_,?_⟩ ?_
  .intro b hb1 hb2;rw[hb b hb1,Zag (hb2 m _ lc (by simp) hSm hρ)]
  .intro lo hlo;rw[hρ] at hlo;obtain rfl:=Zaa hlo;exact⟨Zbl hlb hsize,.inr ⟨m,_,lc,by simp,hSm,hρ,rfl⟩⟩
  .intro f hf;rw[hSm] at hf;obtain rfl:=Zaa hf;exact⟨rfl,rfl,by simp[AObj.len,hsl]⟩
  .intro n' f _ hnone;rw[hSm] at hnone;cases hnone
  .intro _;rw[hρ];simp only[objc,Zbv,hsl];refine⟨g1,g2,putCells id lc.p (flatK encQ 2 (Qakz a).toArray) cv,?_,by simpa[putCells] using g4,?_⟩
   .simp only[Env.one,Env.hp];rw[hb lc.b hlb,Zak rfl,hheap];rfl
   .rw[Qaml];refine⟨(cv.toList.drop (lc.p+a.length*2)),?_⟩;apply Zca;intro t;rw[Zbt,ZaS,putCells,ZeG,hF',<-Qama];by_cases ht:t<a.length*2
    .rw[ZaD (by rw[hl2];exact ht),ZaS,Zba (show lc.p+t<cv.size by omega),Zba (by rw[hF'];exact ht)];simp only[ZaR,id];rw[Zak ⟨by omega,by omega⟩,ZcG,getElem!_pos _ _ (by rw[hF'];exact ht)]
    .rw[ZaH (by rw[hl2];omega),hl2,Zbt,ZaS,show lc.p+a.length*2+(t - a.length*2)=lc.p+t by omega];cases cv[lc.p+t]? with
     |none=>rfl
     |some x=>simp only[ZaR];rw[Zag (by omega)]
end Go.Ae
namespace Go.Ae
open Go.Proofs
theorem it_regU{ι:Type}{P:Program}{V:Qbh}{N:Nat}{J:ι->(Nat->Prop)->World->Prop}{base:Nat}{ok0:Nat->Prop}{i j:ι}(HV:Qd1 P V)(hA:Qoh base J){stp:ι->List D->ι->Prop}{l:Nat}(hY: ∀i x j args Pr W,stp i x j->(∀ok hp,rdl ok hp x args.toList)->J i Pr W->YieldAt Fence.wide 0 P l args W fun e W'=>e= .returned (.bool true)/\ ∃Pr',J j Pr' W'/\Move ok0 Pr W Pr' W')
 {id:Nat}{ops:Array Oper}(k1:Nat)(hsz:List.range ops.size=List.range' 0 (ops.toList.take k1).length++(k1::(List.range' (k1+1) (ops.toList.drop (k1+1)).length++[])))(hd1:Qkq N (ops.toList.take k1)=true)(hd2:Qkq N (ops.toList.drop (k1+1))=true)(hcalm:Qhw ops=true)
 {o:Oper}{c:Call}{f:Operand}{x:List D}(s1:Qad){s s2:Qad}{a:Act}{w:World}{Q:Exit->Act->World->Prop}(ho:ops[k1]? =some o)(hop:o.op= .call c)(hcal:c.callee= .value f)(hgd:o.guard=none)
 (hf:evO s1.tm f= .im (.fn (1000000000+l) [] []))(hargs:evL s1.tm c.args.toList=x.map .im)(hsc:x.all D.scs=true)(hx:stp i x j)(hnv: ∀n e,hget s1.h n=some e->e.2.isView=false)(hd: ∀d,o.dst=some d->d<N)(hg1:s1.good=true)(hg2:s2.good=true)
 (h:It J base ok0 N i s a w)(hk1:rgS P V (Qgy ops (ops.toList.take k1)) (fun s=>sub s s1) s)(hk2:rgS P V (Qgy ops (ops.toList.drop (k1+1))) (fun s=>sub s s2) (s1.put o.dst (.im (.bool true))))
 (hend: ∀a w,It J base ok0 N j s2 a w->Q .normal a w):(Code.region id ops false).wpIn Fence.wide 0 P Q a w:=by
 refine wpIn_region ?_;rw[hsz];refine Qamq HV hA (seg:=ops.toList.take k1) (more:=ops.toList.drop k1) (by rw[ZbI,ZbG]) hd1 hcalm hk1 h (fun s a w h1 h2=> ?_);have h3:=Qdd h2 h1 hg1 hA;have hw:Region.wanted o (yielded ops a.tmps)=true:=by simp[Region.wanted,hgd]
 refine Qamp hA hY ho hw hop hcal hf hargs hsc hx hnv hd h3 (fun a w h4=> ?_);refine Qamq HV hA (seg:=ops.toList.drop (k1+1)) (more:=[]) (by rw[ZaL]) hd2 hcalm hk2 h4 (fun s a w h5 h6=> ?_);exact hend a w (Qdd h6 h5 hg2 hA)
abbrev OpM:=List (Qae×List Int)
def givK(op:OpM):Giv:=⟨OpM×List Qae,(op,[]),fun i x j=> ∃(k:Nat) (p:Qae×List Int),i.1[k]? =some p/\x=[.agg (Qae.c p.1)]/\j=(i.1.eraseIdx k,i.2++[p.1]),fun i=>i.1=[]⟩
def kyS(l:Nat)(left:OpM)(last:Option (D×D)):Qad:=⟨[(5,.it 0),(0,.im (.fn (1000000000+l) [] []))],[(0,(true,.iter last (left.map Qbc)))],1⟩
def kyB(l:Nat)(left:OpM)(p:Qae×List Int):Qad:=⟨[(3,.ptr 1 0),(5,.it 0),(0,.im (.fn (1000000000+l) [] []))],[(0,(true,.iter (some (Qbc p)) (left.map Qbc))),(1,(true,.cells 58 [.im (.int .i64 p.1.X),.im (.int .i64 p.1.Y)]))],2⟩
theorem Qal7(l:Nat)(left:OpM)(last:Option (D×D)):(kyS l left last).good=true:=by simp[kyS,Qad.good,belT,belH,Qam,AV.bel]
theorem kyB_good(l:Nat)(left:OpM)(p:Qae×List Int):(kyB l left p).good=true:=by simp[kyB,Qad.good,belT,belH,belL,Qam,AV.bel]
theorem Qamv:Qkj Tryz.prog (tab []):=Qaaq [] (by simp)
theorem keys_iter(op:OpM):IterG Tryz.prog 154 [.ref [.mp ktP (op.map Qbc)]] (givK op):=by
 refine it_fnG Tryz.func154 rfl rfl (by simp) ?_;intro l J base ok0 hAb hY a w hIt;have HV:=Qvp Qamv;obtain⟨R,hR⟩: ∃R,R=(fun (e:Exit) (a:Act) (w:World)=> ∃i,(givK op).fin i/\itQ J base ok0 Tryz.f154.ntmps i (fun e _=>e= .normal\/e= .ret) e a w):=⟨_,rfl⟩;rw[<-hR];simp only[Tryz.f154,Option.getD] at hIt⊢;refine Qkw Qaq HV hAb (by decide) (by decide) hIt (Qx:=endS (kyS l op none)) ?_ (fun s a w h1 h2=> ?_) (fun _ _ _ _ h=>h.elim) (fun _ _ _ h=>h.elim)
 .simp(maxSteps:=9^9)(disch:=omega)only[ZZ,simprocAttr,rch,endS,kyS,entry,sub,ktP]
 have h3:=Qdd h2 h1 (Qal7 _ _ _) hAb;clear h1 h2 hIt;refine wpIn_block (wpIn_loop_ghost (fun m a w=> ∃(i:OpM×List Qae) (last:Option (D×D)),m=i.1.length/\It J base ok0 14 i (kyS l i.1 last) a w) op.length ⟨(op,[]),none,rfl,h3⟩ ?_);clear h3;rintro m a w ⟨⟨left,giv⟩,last,hm,h⟩;simp only at hm h;refine Qkw Qaq HV hAb (by decide) (by decide) h (Qx:=fun e s=>match e with
  | .normal=>(left=[]/\sub s ⟨(7,.im (.bool false))::(kyS l left last).tm,(kyS l left last).h,1⟩)\/ ∃(k:Nat) (p:Qae×List Int),left[k]? =some p/\sub s ⟨(7,.im (.bool true))::(kyS l left last).tm,(kyS l (left.eraseIdx k) (some (Qbc p))).h,1⟩
  |_=>False) ?_ (fun s a w h1 h2=> ?_) (fun _ _ _ _ h=>h.elim) (fun _ _ _ h=>h.elim)
 .simp(maxSteps:=9^9)(disch:=omega)only[ZZ,simprocAttr,rch,kyS,sub,Qwf];refine⟨fun h=> .inl (by simpa using h),fun i p hp=> ?_⟩;rw[ZaT] at hp;obtain⟨q,hq,rfl⟩:=Zax.1 hp;exact .inr ⟨i,q,hq,rfl⟩
 simp only at h1;rcases h1 with ⟨hl,hs⟩|⟨k,p,hk,hs⟩
 .have h3:=Qdd h2 hs (by simp[kyS,Qad.good,belT,belH,Qam,AV.bel]) hAb;refine Qkw Qaq HV hAb (by decide) (by decide) h3 (Qx:=endC (kyS l left last) False True 0) ?_ (fun s a w h1 h2=>h1.1.elim) (fun id s a w h1 h2=> ?_) (fun _ _ _ h=>h.elim)
  .simp(maxSteps:=9^9)(disch:=omega)only[ZZ,simprocAttr,rch,endC,kyS,sub]
  .obtain⟨rfl,_,h1⟩:=h1;simp only[Exit.then,Exit.inBlock,ZaV,hR,itQ];exact⟨(left,giv),hl,s,.inl trivial,h2⟩
 have h3:=Qdd h2 hs (by simp[kyS,Qad.good,belT,belH,Qam,AV.bel]) hAb;clear h2 h hs;refine Qkw Qaq HV hAb (by decide) (by decide) h3 (Qx:=endC (kyS l (left.eraseIdx k) (some (Qbc p))) True False 0) ?_ (fun s a w h1 h2=> ?_) (fun id s a w h1 h2=>h1.2.1.elim) (fun _ _ _ h=>h.elim)
 .simp(maxSteps:=9^9)(disch:=omega)only[ZZ,simprocAttr,rch,endC,kyS,sub]
 have h:=Qdd h2 h1.2 (Qal7 _ _ _) hAb;clear h1 h2 h3;refine wpIn_block ?_;refine Qkw Qaq HV hAb (by decide) (by decide) h (Qx:=endS (kyB l (left.eraseIdx k) p)) ?_ (fun s a w h1 h2=> ?_) (fun _ _ _ _ h=>h.elim) (fun _ _ _ h=>h.elim)
 .simp(maxSteps:=9^9)(disch:=omega)only[ZZ,simprocAttr,rch,endS,kyS,kyB,sub,Qbc,Qae.c]
  trace_state
 have h3:=Qdd h2 h1 (kyB_good _ _ _) hAb;clear h1 h2 h;have hkl:=(Zaj.1 hk).1;obtain⟨F,hF⟩: ∃F:AV,F= .im (.fn (1000000000+l) [] []):=⟨_,rfl⟩;obtain⟨E,hE⟩: ∃E:Ent,E=(true,.iter (some (Qbc p)) ((left.eraseIdx k).map Qbc)):=⟨_,rfl⟩;refine wpIn_seq (it_regU HV hAb hY (i:=(left,giv)) (j:=(left.eraseIdx k,giv++[p.1])) (x:=[.agg (Qae.c p.1)]) 2 (by decide) (by decide) (by decide) (by decide)
  (⟨[(11,.im (.agg (Qae.c p.1))),(10,F),(5,.it 0),(0,F)],[(0,E)],2⟩:Qad) (s2:=⟨[(13,.im (.bool false)),(5,.it 0),(0,F)],[(0,E)],2⟩) rfl rfl rfl rfl (by rw[hF];rfl) rfl (by rfl) ⟨k,p,hk,rfl,rfl⟩ ?_ (by decide) (by rw[hE,hF];simp[Qad.good,belT,belH,Qam,AV.bel]) (by rw[hE,hF];simp[Qad.good,belT,belH,Qam,AV.bel]) h3 ?_ ?_ (fun a w h4=> ?_))
 .exact fun n e he=>Qaa1 _ (by rw[hE];rfl) n e he
 .simp(maxSteps:=9^9)(disch:=omega)only[ZZ,simprocAttr,rch,kyB,sub,hE,hF,Qae.c,Qgy,Qx6,List.take]
 .simp(maxSteps:=9^9)(disch:=omega)only[ZZ,simprocAttr,rch,kyB,sub,hE,hF,Qae.c,Qgy,Qx6,List.drop]
 simp only[Exit.then];refine Qs5 Qaq HV hAb (by decide) (by decide) h4 (Qx:=endS (kyS l (left.eraseIdx k) (some (Qbc p)))) ?_ (fun s a w h1 h2=> ?_) (fun _ _ _ _ h=>h.elim) (fun _ _ _ h=>h.elim)
 .simp(maxSteps:=9^9)(disch:=omega)only[ZZ,simprocAttr,rch,endS,kyS,sub,hE,hF]
 simp only[Exit.inBlock,Exit.then];exact⟨(left.eraseIdx k).length,by rw[ZeV,Zak hkl];omega,(left.eraseIdx k,giv++[p.1]),_,rfl,Qdd h2 h1 (Qal7 _ _ _) hAb⟩
end Go.Ae
namespace Go.Ae
open Go.Proofs Go.RowKit Go.Lib Go.Sort
theorem Qaly{A:Type}: ∀(l:List A) (k:Nat) (x:A),l[k]? =some x->l.Perm (x::l.eraseIdx k)
 |[],k,x,h=>by simp at h
 |y::r,0,x,h=>by
  simp only[ZaP,Zab] at h;subst h;exact Zdf _
 |y::r,k+1,x,h=>by
  rw[ZaX] at h;rw[ZcD];exact ((Qaly r k x h).cons y).trans (List.Perm.swap x y _)
def appQ(op:OpM)(s:Qad)(xs:List AV):Prop:= ∃l:List Qae,l.Perm (op.map Prod.fst)/\ ∃m,xs=[.own m]/\hget s.h m=some (true,.arr 58 2 (l.map Qae.c))
def kyF(op:OpM):D:= .fn 154 [] [.ref [.mp ktP (op.map Qbc)]]
theorem appSeq{op:OpM}(hb:op.length<=1000000){C:Ctx}{S:Env}{vs:Array Value}{RR:Ending->World->Prop}(hW:Wf C S)(hps:PKL S [.val (.sl true 0 []),.val (kyF op)] vs.toList)
 (hfin: ∀(v:Value) (C0:Ctx) (S1:Env) (l:List Qae) (m:Nat),C0.w=S.w->C0.ok=S.ok->(∀b,¬C0.M b)->Wf C0 S1->l.Perm (op.map Prod.fst)->S1.h m=some (true,.arr 58 2 (l.map Qae.c))->conc S1 (.own m) v->RR (.returned v) S1.w):
 Calls Tryz.prog 180 vs S.w RR:=by
 have HV:=Qvp Qamv;refine Qal9 Tryz.func180 rfl (ps:=[.val (.sl true 0 []),.val (kyF op)]) (show 2<=13 by decide) (Q:=appQ op) ?_ hW hps ?_;rotate_left
 .rintro v C0 S1 s xs g1 g2 g3 g4 g5 ⟨l,hl,m,rfl,hm⟩ g7;exact hfin v C0 S1 l m g1 g2 g3 g4 hl ((g5 m).trans hm) g7
 intro C0 a w hw hn0 hc hdf;have hds:C0.ds=[]:=by obtain⟨S0,_,h⟩:=hc;rw[<-h.defers];exact hdf
 simp only[Tryz.f180,Option.getD] at hc⊢;refine Qxh Qaq HV (by decide) (by decide) (s':=⟨[(2,.ptr 0 0),(1,.im (kyF op))],[(0,(true,.cells 158 [.im (.sl true 0 [])]))],2⟩) hc ?_ ?_ (by rw[hn0];exact ZaZ _) (fun a w hc=> ?_)
 .simp(maxSteps:=9^9)(disch:=omega)only[ZZ,simprocAttr,rch,endS,sub,Qcq,Qc5,cnum,entry]
 .simp[Qad.good,belT,belH,belL,Qam,AV.bel]
 refine wpIn_seq ?_;refine Qxh Qaq HV (by decide) (by decide) (s':=⟨[(6,.im (kyF op)),(2,.ptr 0 0)],[(0,(true,.cells 158 [.im (.sl true 0 [])]))],2⟩) hc ?_ ?_ (by rw[hn0];exact ZaZ _) (fun a w hc=> ?_)
 .simp(maxSteps:=9^9)(disch:=omega)only[ZZ,simprocAttr,rch,endS,sub]
 .simp[Qad.good,belT,belH,belL,Qam,AV.bel]
 refine wpIn_block (wpIn_mono (Qame Qaq HV hc (gf:=154) (capt:=[.ref [.mp ktP (op.map Qbc)]]) (X:=givK op) (Qh7 (by kernel_rfl)) (keys_iter op)
  (fun (i:OpM×List Qae)=>(i.2++i.1.map Prod.fst).Perm (op.map Prod.fst)) (Zdf _) ?_ (by decide) (by decide) (by decide) (by decide) ?_ (by decide)
  (tm0:=[(6,.im (kyF op)),(2,.ptr 0 0)]) (hs:=fun (i:OpM×List Qae)=>[(0,(true,.cells 158 [.own 2])),(2,(true,.arr 58 2 (i.2.map Qae.c)))]) (nx:=3) ⟨[(2,none)],?_⟩ rfl (by simp) ?_ ?_ ?_ ?_) ?_)
 .rintro⟨left,giv⟩ x j hok ⟨k,p,hk,rfl,rfl⟩;simp only at hk hok⊢;have h1:(left.map Prod.fst).Perm (p.1::(left.eraseIdx k).map Prod.fst):=by
   exact (Qaly left k p hk).map Prod.fst
  refine List.Perm.trans ?_ hok;rw[ZbE];exact (h1.append_left giv).symm
 .rintro⟨left,giv⟩ x j hok ⟨k,p,hk,rfl,rfl⟩;rfl
 .simp only[subP];simp(maxSteps:=9^9)(disch:=omega)only[ZZ,simprocAttr,rch,Zai,Zah,Zbb];exact (trivial:nilE true (.arr 0 0 []))
 .simp[belT,AV.bel]
 .rintro⟨left,giv⟩ hok;simp[Qad.good,belT,belH,belL,Qam,AV.bel]
 .intro i o e he hv;rw[Qaa1 _ (by rfl) o e he] at hv;cases hv
 .rintro⟨left,giv⟩ x j hok ⟨k,p,hk,rfl,rfl⟩;have hgl:giv.length<=op.length:=by
   have:=hok.length_eq
   simp at this;omega
  simp(maxSteps:=9^9)(disch:=omega)only[ZZ,simprocAttr,rch,asgQ,rndQ,parT,sub,Qal];refine⟨fun row hrow=>by rw[Zaq] at hrow;subst hrow;rfl,by omega,[(2,some 5)],?_⟩;simp only[subP];simp(maxSteps:=9^9)(disch:=omega)only[ZZ,simprocAttr,rch,Zai,Zah,Zbw]
 .rintro e a' w' ⟨⟨left,giv⟩,hok,hfi,hq⟩;simp only[givK] at hfi;subst hfi;simp only[Zbb,ZaL] at hok;cases e<;>simp only[rngQ] at hq;obtain⟨C2,S2,Dk,rfl,hE,hback,ht,hd,hD1,hD2,hD3,hD4,hD5⟩:=hq;simp only[Exit.inBlock,Exit.then];have hd0:a.defers=[]:=by obtain⟨S0,_,h⟩:=hc;rw[h.defers];exact hds
  rw[hd0] at hd;have hm: ∀a'':Act,a''.defers=C2.ds->Qrj C0 C2 a''.defers:=fun a'' h=> .inr ⟨Dk,by rw[h,<-hE.defers,hd],hD1,hD2,hD3,hD4,hD5⟩
  refine wpIn_mono (Qgd (ro:=none) Qaq HV _ (by decide) (by decide) (retXQ Tryz.prog [ResultVar.tmp 4] (appQ op)) _ a' S2.w ?_ ⟨S2,rfl,hE⟩) ?_
  .simp(maxSteps:=9^9)(disch:=omega)only[ZZ,simprocAttr,rch,retXQ,retX,appQ];exact⟨_,rfl,giv,hok,2,rfl,rfl⟩
  .intro e a'' w'' hq;cases e<;>simp only[toQ] at hq<;>simp only[rngP]
   .obtain⟨s',hs',hcon⟩:=hq;exact⟨s',C2,hs',hcon,hback,hm a'' (by obtain⟨S0,_,h⟩:=hcon;exact h.defers)⟩
   .obtain⟨s',hs',hcon⟩:=hq;exact hs'.elim
   .obtain⟨s',hs',hcon⟩:=hq;exact⟨s',C2,hs',hcon,hback,hm a'' (by obtain⟨S0,_,h⟩:=hcon;exact h.defers)⟩
theorem srtQ_dom(a:List Qae)(j:Nat):domB (srtQ.H0 a) j=true↔j<1:=by
 simp only[domB,srtQ.H0,hget];by_cases hj:j=0
 .subst hj;simp
 .have:(0==j)=false:=by simpa using fun h=>hj h.symm
  rw[this];simp;omega
def ColQ(op:OpM)(S:Env)(v:Value)(w:World):Prop:= ∃(C0:Ctx) (S1:Env) (l:List Qae) (m:Nat),S1.w=w/\C0.w=S.w/\C0.ok=S.ok/\(∀b,¬C0.M b)/\Wf C0 S1/\l.Perm (op.map Prod.fst)/\S1.h m=some (true,.arr 58 2 (l.map Qae.c))/\conc S1 (.own m) v
theorem collect{op:OpM}(hb:op.length<=1000000){C:Ctx}{S:Env}{v1:Value}(hW:Wf C S)(hv:PKL S [.val (kyF op)] [v1]):
 Calls Tryz.prog 152 #[v1] S.w (fun e w=> ∃v,e= .returned v/\ColQ op S v w):=by
 have hap:Calls Tryz.prog 180 #[.slice none 0 0,v1] S.w (fun e w=> ∃v,e= .returned v/\ColQ op S v w):=by
  refine appSeq hb hW ⟨_,_,rfl,?_,hv⟩ (fun v C0 S1 l m g1 g2 g3 g4 g5 g6 g7=>⟨v,rfl,C0,S1,l,m,rfl,g1,g2,g3,g4,g5,g6,g7⟩);exact Qami S (.slice none 0 0)
 go_enter Tryz.func152,Tryz.ntmps152
 go_wp2_with (go_at_call 180;refine hap.mono ?_;rintro e w' ⟨v,rfl,h⟩)
 go_ret
 exact⟨v,rfl,h⟩
theorem sort_call{C0:Ctx}{S1:Env}{l:List Qae}{m:Nat}{v v2:Value}{R:Ending->World->Prop}(hW:Wf C0 S1)(hd:l.Nodup)(hm:S1.h m=some (true,.arr 58 2 (l.map Qae.c)))(hv:conc S1 (.own m) v)(hv2:conc S1 (.im (.fn 112 [] [])) v2)
 (hfin: ∀u S',Wf C0 S'->S'.h m=some (true,.arr 58 2 ((Qakz l).map Qae.c))->conc S' (.own m) v->R (.returned u) S'.w):
 Calls Tryz.prog 153 #[v,v2] S1.w R:=by
 have hrow:srtQ.row [.own m,.im (.fn 112 [] [])] S1.h (m+1) (fun r E=>E={use:=[m],kill:=[m],new:=[(m,(true,.arr 58 2 ((Qakz l).map Qae.c)))],cnt:=0}):=by
  refine orow.os l [m] hd (srtQ_dom l) rfl (by simp[Qxw]) ⟨rfl,?_⟩ ?_
  .simp only[srtQ.H0,Qer,sgx,osn];exact⟨hm,trivial⟩
  .rfl
 obtain⟨_,r,E,hT,rfl⟩:=srtQ.ok _ _ _ _ hrow;have hnf: ∀n,¬Fr (m+1) 0 n:=fun n h=>by have:=h.1;have:=h.2;omega
 refine hT C0 S1 #[v,v2] R hW (fun n _=>rfl) (fun n hn=>(hnf n hn).elim) (fun n e _ k _ hk=>hnf k hk) ⟨v,[v2],rfl,hv,v2,[],rfl,hv2,rfl⟩ ?_;intro u S' hW' hh hp _;refine hfin u S' hW' ?_ (Qbt hp _ _ (fun o _ hf=>hnf o hf) hv);rw[hh];simp[Eff.appf,hget]
def sorF.ar:List PK->Option OpM
 |[.val (.fn 154 [] [.ref [.mp ⟨true,[.int .i64,.int .i64]⟩ es]]),.val (.fn 112 [] [])]=>decM (vAgg Qae.d) (vSl intD) es
 |_=>none
def sorF.ae(op:OpM):List PK:=[.val (kyF op),.val (.fn 112 [] [])]
theorem sorF.le: ∀ps a,sorF.ar ps=some a->LeKL ps (sorF.ae a):=by
 intro ps a h;unfold sorF.ar at h;split at h
 .exact⟨Qos ⟨Qil (LeS.leP ⟨le_mp (Qxb Qwu (Qe8 Qb3 (fun _=>rfl)) _ _ h),trivial⟩),trivial⟩,LeK.refl _,trivial⟩
 .cases h
def sorF.fv(op:OpM):List Qae:=Qakz (op.map Prod.fst)
def sorF.row:Row:=Qfi sorF.ar (fun op=>(op.map Prod.fst).Nodup/\op.length<=1000000) (fun op=> .sl false 2 ((sorF.fv op).map Qae.c))
def sorF.q:=vqF sorF.row rfl
theorem sorF.ok:Qas Tryz.prog 110 sorF.row:=by
 refine Quy (by kernel_rfl) sorF.le (rc:=vSl Qae.d) (re:=fun b=> .sl false 2 (b.map Qae.c)) (Qe8 Qae.d_le (fun _=>rfl)) (f:=sorF.fv) (fun op hpre C S vs RR hW hps hfin=> ?_);obtain⟨hnd,hb⟩:=hpre;simp only[sorF.ae,PKL] at hps;obtain⟨v1,r1,hvs,hv1,v2,r2,rfl,hv2,rfl⟩:=hps;have hvs':vs= #[v1,v2]:=by apply Zde;simpa using hvs
 subst hvs';have hcol:=collect hb hW (v1:=v1) ⟨v1,[],rfl,hv1,rfl⟩
 go_enter Tryz.func110,Tryz.ntmps110
 have hv2': ∀S1:Env,conc S1 (.im (.fn 112 [] [])) v2:=fun S1=>by simpa only[PKc,conc,rd,rdl] using hv2
 have hso: ∀(C0:Ctx) (S1:Env) (l:List Qae) (m:Nat) (v:Value),Wf C0 S1->l.Perm (op.map Prod.fst)->S1.h m=some (true,.arr 58 2 (l.map Qae.c))->conc S1 (.own m) v->
  Calls Tryz.prog 153 #[v,v2] S1.w (fun e w=> ∃u S',e= .returned u/\S'.w=w/\Wf C0 S'/\S'.h m=some (true,.arr 58 2 ((sorF.fv op).map Qae.c))/\conc S' (.own m) v):=by
  intro C0 S1 l m v g4 g5 g6 g7;refine sort_call g4 (g5.nodup_iff.2 hnd) g6 g7 (hv2' S1) (fun u S' h1 h2 h3=>⟨u,S',rfl,rfl,h1,?_,h3⟩)
  have:Qakz l=Qakz (op.map Prod.fst):=Qal3 (Qakg _) (Qakg _) (fun q=>by rw[Qaka,Qaka];exact g5.mem_iff)
  rw[h2,this];rfl
 go_wp2_with (first
  |(go_at_call 152;refine hcol.mono ?_;rintro e w' ⟨v,rfl,C0,S1,l,m,rfl,g1,g2,g3,g4,g5,g6,g7⟩)
  |(go_at_call 153;refine (hso C0 S1 l m v g4 g5 g6 g7).mono ?_;rintro e w' ⟨u,S',rfl,rfl,h1,h2,h3⟩))
 show RR (.returned v) S'.w;obtain⟨d,rfl,hd2⟩:=Qzf (K:=fun d=>d= .sl false 2 ((sorF.fv op).map Qae.c)) g3 h1 (x:= .own m) (by
  simp only[frP,h2,frO,frA];exact⟨by intro row hr;obtain⟨p,_,rfl⟩:=ZaJ.1 hr;rfl,trivial⟩) h3
 exact hfin v C0 S' _ g1 g2 g3 h1 (by simp only[decD,vSl,Qae.d_R]) hd2
def keyC.ca(_:OpM):List AV:=[.mp 0]
def keyC.H0(a:OpM):Qan:=[(0,(true,.map ktP (a.map Qbc)))]
def keyC.H1(_:OpM):Qan:=[(1,(true,.cells 173 [.mp 0]))]
def keyC.r0(_:OpM):AV:= .clo 154 [] [.ptr 1 0]
def keyC.row:Row:=orow keyC.ca keyC.H0 1 (fun _=>True) (fun _=>false) keyC.r0 keyC.H1 1
theorem keyC.ok:Qas Tryz.prog 111 keyC.row:=by
 refine Qf1 Qaq tN Tryz.func111 rfl (by kernel_rfl) (by kernel_rfl) (exB:=fun j=>j==1) (R:=fun a r=>r=keyC.r0 a) (n:=1) (fun _=>rfl) (by decide)
  (fun a=>by simp[keyC.ca,keyC.H0,keyC.H1,keyC.r0,belL,AV.bel]) (fun a=>by simp[keyC.ca,keyC.H0,keyC.H1,keyC.r0,belH,belL,AV.bel]) (fun a=>by simp[keyC.ca,keyC.H0,keyC.H1,keyC.r0,Qam])
  (fun a=>by simp[Qc2,keyC.ca,keyC.H0,keyC.H1,keyC.r0,AObj.nms,nmsL,AV.nms,domB,hget]) (fun a p hp=> ?_) (fun a r h=>by subst h;exact LeV.refl _) ?_
 rotate_left
 intro a hpre;simp only[Tryz.f111,Option.getD,keyC.ca,keyC.H0,keyC.H1,keyC.r0];simp(maxSteps:=9^9)(disch:=omega)only[ZZ,simprocAttr,rch,ORB,keyC.ca,keyC.H0,keyC.H1,keyC.r0];simp[keyC.H1] at hp;subst hp;exact .inr ⟨by omega,by omega,rfl,rfl⟩
end Go.Ae
namespace Go.Ae
open Go.Proofs
def posQ(p:Qae)(l:List Qae):Nat:=(l.takeWhile fun y=>Qap y p).length
theorem Qald(p:Qae): ∀(l:List Qae),insQ p l=if l[posQ p l]? =some p then l else l.take (posQ p l)++p::l.drop (posQ p l)
 |[]=>by simp[insQ,posQ]
 |y::r=>by
  have ih:=Qald p r;simp only[insQ];by_cases c:Qap y p=true
  .have e:posQ p (y::r)=posQ p r+1:=by simp[posQ,ZcM,c]
   rw[Zak c,ih,e,ZaX];split
   .rfl
   .simp
  .have e:posQ p (y::r)=0:=by simp[posQ,ZcM,c]
   rw[Zag c,e];simp
theorem posQ_eq{p:Qae}: ∀{l:List Qae} {k:Nat},ltQ l->k<=l.length->(∀(i:Nat) (y:Qae),k<=i->l[i]? =some y->Qap y p=false)->(∀y,k≠0->l[k - 1]? =some y->Qap y p=true)->posQ p l=k
 |[],k,_,hk,_,_=>by simp at hk;simp[posQ,hk]
 |y::r,0,_,_,h1,_=>by
  have:=h1 0 y (Zam _) rfl
  simp[posQ,ZcM,this]
 |y::r,k+1,hl,hk,h1,h2=>by
  rw[ltQ,Zcf] at hl;have hy:Qap y p=true:=by
   cases k with
   |zero=>exact h2 y (by omega) rfl
   |succ k=>
    have hlt:k+1<(y::r).length:=by simp at hk⊢;omega
    have h3:=h2 _ (by omega) (Zad (l:=y::r) (i:=k+1) hlt);refine Qajr (hl.1 _ ?_) h3;simp
  have ih:=posQ_eq (p:=p) (l:=r) (k:=k) hl.2 (by simpa using hk) (fun i z hi hz=>h1 (i+1) z (by omega) (by simpa using hz)) (fun z hk0 hz=>h2 z (by omega) (by
   obtain⟨m,rfl⟩: ∃m,k=m+1:=⟨k - 1,by omega⟩;simpa using hz))
  simp only[posQ] at ih;simp[posQ,ZcM,hy,ih]
def shQ(p:Qae)(l:List Qae)(i:Nat):List Qae:=(l++[p]).take (i+1)++l.drop i
theorem Qak6{p:Qae}{l:List Qae}{i:Nat}(h:i<=l.length):(shQ p l i).length=l.length+1:=by simp[shQ];omega
theorem shQ_all(p:Qae)(l:List Qae):shQ p l l.length=l++[p]:=by simp[shQ,ZaE]
theorem shQ_step{p x:Qae}{l:List Qae}{i:Nat}(h:i+1<=l.length)(hx:(shQ p l (i+1))[i]? =some x):(shQ p l (i+1)).set (i+1) x=shQ p l i:=by
 have hx2:l[i]? =some x:=by
  rw[<-hx,shQ,ZaD (by simp;omega),Zct,Zak (by omega),ZaD (by omega)]
 apply Zca;intro j;have e1:((l++[p]).take (i+1+1)).length=i+2:=by simp;omega
 have e2:((l++[p]).take (i+1)).length=i+1:=by simp;omega
 by_cases c:j=i+1
 .subst c;rw[ZaA (by rw[Qak6 h];omega),shQ,ZaH (by omega),e2,Zcd,Zbt,ZdL,hx2]
 .rw[ZaB (Zcv c)];simp only[shQ];by_cases c2:j<i+1
  .rw[ZaD (by omega),ZaD (by omega),Zct,Zct,Zak (by omega),Zak c2]
  .rw[ZaH (by omega),ZaH (by omega),e1,e2,Zbt,Zbt];congr 1;omega
theorem shQ_end{p:Qae}{l:List Qae}{k:Nat}(h:k<=l.length):(shQ p l k).set k p=l.take k++p::l.drop k:=by
 apply Zca;intro j;have e2:((l++[p]).take (k+1)).length=k+1:=by simp;omega
 have e3:(l.take k).length=k:=by simp;omega
 by_cases c:j=k
 .subst c;rw[ZaA (by rw[Qak6 h];omega),ZaH (by omega),e3,Zcd];simp
 .rw[ZaB (Zcv c)];simp only[shQ];by_cases c2:j<k
  .rw[ZaD (by omega),ZaD (by omega),Zct,Zct,Zak (by omega),Zak c2,ZaD (by omega)]
  .obtain⟨m,rfl⟩: ∃m,j=k+1+m:=⟨j - (k+1),by omega⟩;rw[ZaH (by omega),ZaH (by omega),e2,e3,Zbt,show k+1+m - k=m+1 by omega,ZaX,Zbt];congr 1;omega
theorem pt_eq3{p q:Qae}:((p.X==q.X)=true/\(p.Y==q.Y)=true)↔p=q:=by
 obtain⟨px,py⟩:=p;obtain⟨qx,qy⟩:=q;simp
def putQ.ca(a:List Qae×Qae):List AV:=[.own 0,.im (.agg [.int .i64 a.2.X,.int .i64 a.2.Y])]
def putQ.H0(a:List Qae×Qae):Qan:=[(0,(true,.arr 58 2 (a.1.map Qae.c)))]
def putQ.H1(a:List Qae×Qae):Qan:=[(1,(true,.arr 58 2 ((insQ a.2 a.1).map Qae.c)))]
def kl0(j:Nat):Bool:=j==0
def putQ.row:Row:=orow putQ.ca putQ.H0 1 (fun a=>ltQ a.1/\a.1.length<=1000000) kl0 (fun _=> .own 1) putQ.H1 1
def YaW:=J @l_LessPoint.q (J @l_LessPoint.ar.eq_1 @l_LessPoint.fv.eq_1)
theorem putQ.ok:Qas Tryz.prog 144 putQ.row:=by
 refine Qnh Qaq (tC l_LessPoint.ok tN) Tryz.func144 rfl (by kernel_rfl) (by kernel_rfl) (exB:=fun j=>j==1) (R:=fun _ r=>r= .own 1) (n:=2) (fun _=>rfl) (by decide)
  (fun a=>by simp[putQ.ca,putQ.H0,putQ.H1,kl0,belL,AV.bel]) (fun a=>by simp[putQ.ca,putQ.H0,putQ.H1,kl0,belH,belL,AV.bel]) (fun a=>by simp[putQ.ca,putQ.H0,putQ.H1,kl0,Qam])
  (fun a=>by simp[Qc2,putQ.ca,putQ.H0,putQ.H1,kl0,AObj.nms,nmsL,AV.nms,domB,hget]) (fun a p hp=> ?_) (fun a r h=>by subst h;exact LeV.refl _) ?_
 rotate_left
 intro a hpre;simp only[Tryz.f144,Option.getD,putQ.ca,putQ.H0,putQ.H1,kl0];simp(maxSteps:=9^9)(disch:=omega)only[ZZ,simprocAttr,rch,YaW,Qc7,ORB,putQ.ca,putQ.H0,putQ.H1,kl0];rotate_left
 .simp[putQ.H1] at hp;subst hp;exact .inr ⟨by omega,by omega,rfl,rfl⟩
 obtain⟨l,p⟩:=a;obtain⟨hl,hn⟩:=hpre;simp only at hl hn⊢;intro _;refine Qay.old ⟨{k:Nat//k<=l.length/\ ∀(i:Nat) (y:Qae),k<=i->l[i]? =some y->Qap y p=false},fun k=>⟨[(5,.im (.int .i64 k.1)),(3,.ptr 1 0),(0,.own 0)],[(1,(true,.cells 58 [.im (.int .i64 p.X),.im (.int .i64 p.Y)])),(0,(true,.arr 58 2 (l.map Qae.c)))],3⟩,fun k=>k.1,fun k=>⟨by simp[Qad.good,belT,belH,Qam,AV.bel,belL],by simp⟩,⟨⟨l.length,Zam _,fun i y hi hy=>by rw[ZaY hi] at hy;cases hy⟩,by simp(maxSteps:=9^9)(disch:=omega)only[ZZ,simprocAttr,rch,YaW,Qc7,ORB,putQ.ca,putQ.H0,putQ.H1,kl0,sub]⟩,fun k=> ?_⟩;obtain⟨k,hk,hkn⟩:=k;simp(maxSteps:=9^9)(disch:=omega)only[ZZ,simprocAttr,rch,YaW,Qc7,ORB,putQ.ca,putQ.H0,putQ.H1,kl0,sub,Qal,Zbv];have hkw:0<k->IntKind.i64.wrap ((k:Int) - 1)=((k - 1:Nat):Int):=fun h=>by rw[Qak (by omega) (by omega)];omega
 refine⟨fun hk0=>⟨by rw[hkw (by omega)];omega,by rw[hkw (by omega)];omega,by rw[hkw (by omega)];omega,fun x hx=>⟨fun hlt=> ?r,fun hlt=>⟨fun hkl=>⟨hkl,hkl,fun y hy=>⟨fun e=> ?a1,fun e=> ?b1⟩⟩,fun hkl=> ?b2⟩⟩⟩,fun hk0=>⟨fun hkl=>⟨hkl,hkl,fun y hy=>⟨fun e=> ?a2,fun e=> ?b3⟩⟩,fun hkl=> ?b4⟩⟩
 case r=>
  rw[hkw (by omega),Zal] at hx;refine⟨⟨k - 1,by omega,fun i y hi hy=> ?_⟩,by simp only;omega,by rw[hkw (by omega)]⟩;by_cases c:i=k - 1
  .subst c;obtain rfl:=Zaa (hx.symm.trans hy);exact hlt
  .exact hkn i y (by omega) hy
 all_goals
  have hpos:posQ p l=k:=posQ_eq hl hk hkn (fun y hk0' hy=>by
   first
    |(rw[hkw (by omega),Zal] at hx;obtain rfl:=Zaa (hx.symm.trans hy);simpa using hlt)
    |(exact absurd (by omega) hk0))
  have hins:=Qald p l;rw[hpos] at hins
 case a1=>
  have ey:y=p:=pt_eq3.1 e;rw[hy,ey,Zak rfl] at hins;refine⟨[],[(1,some 0)],⟨[(4,.own 1)],putQ.H1 (l,p),2⟩,?_,by simp[putQ.H1,Qad.good,belT,belH,Qam,AV.bel],by simp,?_⟩
  .simp only[subP,putQ.H1,hins];simp(maxSteps:=9^9)(disch:=omega)only[ZZ,simprocAttr,rch,YaW,Qc7,ORB,putQ.ca,putQ.H0,putQ.H1,kl0,Zai,Zah]
  .simp(maxSteps:=9^9)(disch:=omega)only[ZZ,simprocAttr,rch,YaW,Qc7,ORB,putQ.ca,putQ.H0,putQ.H1,kl0,putQ.H1]
 case a2=>
  have ey:y=p:=pt_eq3.1 e;rw[hy,ey,Zak rfl] at hins;refine⟨[],[(1,some 0)],⟨[(4,.own 1)],putQ.H1 (l,p),2⟩,?_,by simp[putQ.H1,Qad.good,belT,belH,Qam,AV.bel],by simp,?_⟩
  .simp only[subP,putQ.H1,hins];simp(maxSteps:=9^9)(disch:=omega)only[ZZ,simprocAttr,rch,YaW,Qc7,ORB,putQ.ca,putQ.H0,putQ.H1,kl0,Zai,Zah]
  .simp(maxSteps:=9^9)(disch:=omega)only[ZZ,simprocAttr,rch,YaW,Qc7,ORB,putQ.ca,putQ.H0,putQ.H1,kl0,putQ.H1]
 all_goals
  have hne:l[k]? ≠some p:=fun h=>by
   first
    |(obtain rfl:=Zaa (hy.symm.trans h);exact e (pt_eq3.2 rfl))
    |(rw[ZaY (by omega)] at h;cases h)
  rw[Zag hne] at hins;have hap:l.map Qae.c++[[D.int .i64 p.X,D.int .i64 p.Y]]=(l++[p]).map Qae.c:=by rw[Zbw];rfl
  rw[hap];refine⟨by omega,fun _=> ?_⟩;refine Qay.old ⟨{i:Nat//k<=i/\i<=l.length},fun i=>⟨[(6,.im (.int .i64 i.1)),(5,.im (.int .i64 k)),(0,.own 4),(3,.ptr 1 0)],[(4,(true,.arr 58 2 ((shQ p l i.1).map Qae.c))),(1,(true,.cells 58 [.im (.int .i64 p.X),.im (.int .i64 p.Y)]))],5⟩,fun i=>i.1,fun i=>⟨by simp[Qad.good,belT,belH,Qam,AV.bel,belL],by simp⟩,⟨⟨l.length,hk,Zam _⟩,?_⟩,fun i=> ?_⟩
  .simp(maxSteps:=9^9)(disch:=omega)only[ZZ,simprocAttr,rch,YaW,Qc7,ORB,putQ.ca,putQ.H0,putQ.H1,kl0,sub,shQ_all];rw[ZaF,ZeN,Qak (by omega) (by omega)];omega
  obtain⟨i,hi1,hi2⟩:=i;have hsl:=Qak6 (p:=p) hi2;simp(maxSteps:=9^9)(disch:=omega)only[ZZ,simprocAttr,rch,YaW,Qc7,ORB,putQ.ca,putQ.H0,putQ.H1,kl0,sub,Qal,Zbv,hsl];refine⟨fun hki=> ?_,fun hki=>⟨by omega,by omega,fun x hx=> ?_⟩⟩
  .have hiw:IntKind.i64.wrap ((i:Int) - 1)=((i - 1:Nat):Int):=by rw[Qak (by omega) (by omega)];omega
   rw[hiw,Zal];refine⟨by omega,by omega,by omega,fun x hx=>⟨by omega,by omega,fun z hz=>⟨⟨i - 1,by omega,by omega⟩,by simp only;omega,rfl,?_⟩⟩⟩;have hst:=shQ_step (p:=p) (x:=x) (l:=l) (i:=i - 1) (by omega) (by rwa [show i - 1+1=i by omega]);rw[show i - 1+1=i by omega] at hst;rw[<-hst,Zda];rfl
  .obtain rfl:i=k:=by omega
   have hse:((shQ p l i).map Qae.c).set i [D.int .i64 p.X,D.int .i64 p.Y]=(insQ p l).map Qae.c:=by
    rw[hins,<-shQ_end hk,Zda];rfl
   refine⟨[],[(1,some 4)],⟨[(4,.own 1)],putQ.H1 (l,p),2⟩,?_,by simp[putQ.H1,Qad.good,belT,belH,Qam,AV.bel],by simp,?_⟩
   .simp only[subP,putQ.H1,hse];simp(maxSteps:=9^9)(disch:=omega)only[ZZ,simprocAttr,rch,YaW,Qc7,ORB,putQ.ca,putQ.H0,putQ.H1,kl0,Zai,Zah]
   .simp(maxSteps:=9^9)(disch:=omega)only[ZZ,simprocAttr,rch,YaW,Qc7,ORB,putQ.ca,putQ.H0,putQ.H1,kl0,putQ.H1]
theorem putQ_dom(a:List Qae×Qae)(j:Nat):domB (putQ.H0 a) j=true↔j<1:=by
 simp only[domB,putQ.H0,hget];by_cases hj:j=0
 .subst hj;simp
 .have:(0==j)=false:=by simpa using fun h=>hj h.symm
  rw[this];simp;omega
theorem Qalj(p:Qae): ∀(l:List Qae),(insQ p l).length<=l.length+1
 |[]=>by simp[insQ]
 |y::r=>by
  have:=Qalj p r
  simp only[insQ];split
  .simp only[ZaG];omega
  .split<;>simp
theorem Qakd(a:Asm)(p:Qae)(l:List Qae): ∀k,(Qajv a p l k).length<=l.length+k
 |0=>by simp[Qajv]
 |k+1=>by
  have:=Qakd a p l k
  simp only[Qajv];split
  .have:=Qalj (Qf7 p k) (Qajv a p l k);omega
  .omega
theorem Qaj2(a:Asm): ∀i,(Qajq a i).length<=4*i
 |0=>by simp[Qajq]
 |i+1=>by
  have:=Qaj2 a i
  have:=Qakd a ((a.Tiles[i]?.map Qab.At).getD ⟨0,0⟩) (Qajq a i) 4
  simp only[Qajq];omega
def nearS_.ar:List PK->Option (Asm):=a1 (kP Asm.d 1)
def nearS_.ae(a:Asm):List PK:=[.ptr (Asm.c a)]
def nearS_.fv(a:Asm):List Qae:=(fun a=>Qajq a a.Tiles.length) a
def nearS_.row:Row:=vrow nearS_.ar (fun a=>Qaz none a.Tiles=true/\a.Tiles.length<=1000/\ ∃s,∀x∈a.Tiles,Qcs s x.Tile) (fun a=>(fun b=>D.sl false 2 (b.map Qae.c)) (nearS_.fv a))
def nearS_.q:=vq nearS_.row rfl
def YaX:=J @nearS_.ae.eq_1<|J @nearS_.fv.eq_1<|J @l01Step.q<|J @l01Step.ar.eq_1<|J @l01Step.fv.eq_1<|J @l01Point.q<|J @l01Point.ar.eq_1<|J @l01Point.fv.eq_1<|J @l03Index.q<|J @l03Index.ar.eq_1 @l03Index.fv.eq_1
theorem nearS_.ok:Qas Tryz.prog 98 nearS_.row:=by
 refine Qaj Qaq (tC l01Step.ok (tC l01Point.ok (tC l03Index.ok (tC putQ.ok tN)))) Tryz.func98 rfl (by kernel_rfl) (by kernel_rfl) (ar:=nearS_.ar) (ae:=nearS_.ae) (Qacd (Qacc 1 Asm.d_le)) (n:=1) (fun _=>rfl) (by decide) (rc:=(vSl Qae.d)) (re:=(fun b=>D.sl false 2 (b.map Qae.c))) (Qe8 Qae.d_le (fun _=>rfl)) (f:=nearS_.fv) ?_;intro a hpre;simp only[Tryz.f98,Option.getD];simp(maxSteps:=9^9)(disch:=omega)only[ZZ,simprocAttr,rch,YaX];obtain⟨h1,h2,s0,h3⟩:=hpre;refine Qay.ren ⟨{i:Nat//i<=a.Tiles.length},fun i=>⟨[(4,.im (.int .i64 i.1)),(3,.own 3),(0,.ptr 0 0)],[(3,(true,.arr 58 2 ((Qajq a i.1).map Qae.c))),(0,(false,.view (Asm.c a)))],4⟩,fun i=>a.Tiles.length - i.1,fun i=>⟨by simp[Qad.good,belT,belH,Qam,AV.bel,belL],by simp⟩,⟨⟨0,ZaZ _⟩,[(3,some 2)],?_⟩,fun i=> ?_⟩
 .simp only[subP];simp(maxSteps:=9^9)(disch:=omega)only[ZZ,simprocAttr,rch,YaX,Zai,Zah,Qajq,Zbb]
  try simp
 obtain⟨i,hi⟩:=i;simp(maxSteps:=9^9)(disch:=omega)only[ZZ,simprocAttr,rch,YaX,sub,Qal];intro _;refine⟨fun hi2=> ?_,fun hi2=> ?_⟩;rotate_left
 .obtain rfl:i=a.Tiles.length:=by omega
  rfl
 obtain⟨x,hx⟩: ∃x,a.Tiles[i]? =some x:=⟨_,Zad hi2⟩;have hxo:=(Qh6 _ _ h1 x (Zac hx)).1;have e1:Qajq a (i+1)=Qajv a x.At (Qajq a i) 4:=by simp only[Qajq,hx];rfl
 have hnl:=Qaj2 a i;have hlt:=Qaki a i;refine Qay.ren ⟨{d:Nat//d<=4},fun d=>⟨[(5,.im (.int .i64 d.1)),(4,.im (.int .i64 i)),(3,.own 4),(0,.ptr 0 0)],[(4,(true,.arr 58 2 ((Qajv a x.At (Qajq a i) d.1).map Qae.c))),(0,(false,.view (Asm.c a)))],5⟩,fun d=>4 - d.1,fun d=>⟨by simp[Qad.good,belT,belH,Qam,AV.bel,belL],by simp⟩,⟨⟨0,ZaZ _⟩,[(4,some 3)],?_⟩,fun d=> ?_⟩
 .simp only[subP];simp(maxSteps:=9^9)(disch:=omega)only[ZZ,simprocAttr,rch,YaX,Zai,Zah,Qajv]
  try simp
 obtain⟨d,hd⟩:=d;have htl:=Qakd a x.At (Qajq a i) d;have htt:=Qaj6 (a:=a) (p:=x.At) hlt d;simp(maxSteps:=9^9)(disch:=omega)only[ZZ,simprocAttr,rch,YaX,sub,Qal];have hdw:IntKind.i64.wrap ((d:Int)+1)=((d+1:Nat):Int):=by rw[Qak (by omega) (by omega)];omega
 refine⟨fun hd4=>⟨hi2,fun y hy=> ?_⟩,fun hd4=> ?_⟩;rotate_left
 .obtain rfl:d=4:=by omega
  refine⟨⟨i+1,by omega⟩,[(3,some 4)],by simp only;omega,?_⟩;simp only[subP];simp(maxSteps:=9^9)(disch:=omega)only[ZZ,simprocAttr,rch,YaX,Zai,Zah,e1];rw[Qak (by omega) (by omega)];rfl
 obtain rfl:=Zaa (hx.symm.trans hy);refine⟨⟨Qkc hxo,by omega⟩,fun hok=>⟨h1,fun hix=> ?_,fun hix=> ?_⟩,fun hok=> ?_⟩
 .have hat:=(Qala h3 (Qf7 x.At d)).1 hix;refine orow.os (Qajv a x.At (Qajq a i) d,Qf7 x.At d) [4] ⟨htt,by simp only;omega⟩ (putQ_dom _) rfl rfl ?_ ?_
  .simp(maxSteps:=9^9)(disch:=omega)only[ZZ,simprocAttr,rch,YaX,putQ.ca,putQ.H0,Qer,ZaC]
  simp(maxSteps:=9^9)(disch:=omega)only[ZZ,simprocAttr,rch,YaX,putQ.H1,sub,kl0,ZaC,ZaQ];refine⟨⟨d+1,by omega⟩,[(4,some 6)],by simp only;omega,?_⟩;simp only[subP];simp(maxSteps:=9^9)(disch:=omega)only[ZZ,simprocAttr,rch,YaX,Zai,Zah,Qajv];rw[Zak ⟨hok,hat⟩];exact⟨hdw,rfl⟩
 all_goals
  refine⟨⟨d+1,by omega⟩,[(4,some 4)],by simp only;omega,?_⟩;simp only[subP];simp(maxSteps:=9^9)(disch:=omega)only[ZZ,simprocAttr,rch,YaX,Zai,Zah,Qajv];refine⟨hdw,?_⟩;rw[Zag];rintro⟨g1,g2⟩
  first
   |exact hix ((Qala h3 _).2 g2)
   |exact hok g1
def glQ(s:Qaa)(a:Asm)(p:Qae):Nat->List Int
 |0=>[]
 |k+1=>glQ s a p k++[if atA a (Qf7 p k)<0 then 0 else Qqu s (atA a (Qf7 p k)) (((k:Int)+2) % 4)]
theorem Qaj4(s:Qaa)(a:Asm)(p:Qae): ∀k,(glQ s a p k).length=k
 |0=>rfl
 |k+1=>by simp[glQ,Qaj4 s a p k]
theorem Qak3{s:Qaa}{a:Asm}{p:Qae}: ∀{n k:Nat},k<n->(glQ s a p n)[k]? =some (if atA a (Qf7 p k)<0 then 0 else Qqu s (atA a (Qf7 p k)) (((k:Int)+2) % 4))
 |0,k,h=>by omega
 |n+1,k,h=>by
  simp only[glQ];by_cases c:k<n
  .rw[ZaD (by rw[Qaj4];exact c),Qak3 c]
  .obtain rfl:k=n:=by omega
   rw[ZaH (by rw[Qaj4];omega),Qaj4,Zcd];rfl
theorem term_gl{s:Qaa}{a:Asm}{p:Qae}{i:Int}{k:Nat}{g:Int}(hg:g=if atA a (Qf7 p k)<0 then 0 else Qqu s (atA a (Qf7 p k)) (((k:Int)+2) % 4)):(if Qqu s i k=g then Qe1 s g else 0)=Quh s (atA a) p i k:=by
 simp only[Quh,Qfn];by_cases c:atA a (Qf7 p k)<0
 .rw[Zak c] at hg;subst hg;rw[Zag (show ¬0<=atA a (Qf7 p k) by omega),glue_no (by omega)]
  split<;>rfl
 .rw[Zag c] at hg;rw[Zak (show 0<=atA a (Qf7 p k) by omega),<-hg];split
  .rename_i e;rw[e]
  .rfl
theorem side_b{s:Qaa}(h:setP s){t:Int}{d:Int}:0<=Qqu s t d/\Qqu s t d<=s.Glues.length:=by
 simp only[Qqu];cases e:s.Tiles[t.toNat]? with
 |none=>simp
 |some x=>
  simp only[ZaR,Zae];cases e2:x.Sides[d.toNat]? with
  |none=>simp
  |some g=>
   simp only[Zae];exact (h.2.1 x (Zac e)).2 g (Zac e2)
def atQ_.ar:List PK->Option (Qaa×Asm×Qae×Int):=a4 (kP Qaa.d 2) (kP Asm.d 1) (kR Qae.d) kI
def atQ_.ae(a:Qaa×Asm×Qae×Int):List PK:=[.ptr (Qaa.c a.1),.ptr (Asm.c a.2.1),.val (.agg (Qae.c a.2.2.1)),.val (.int .i64 a.2.2.2)]
def atQ_.fv(a:Qaa×Asm×Qae×Int):List Int:=(fun s a p t=>atU ⟨s,a,t⟩ (atA a) p s.Tiles.length) (a.1) (a.2.1) (a.2.2.1) (a.2.2.2)
def atQ_.row:Row:=vrow atQ_.ar (fun a=>setP a.1/\Qn7 a.1 a.2.1/\Qdy a.2.2.1/\a.1.Tiles.length<=1000000) (fun a=>(fun b=>D.sl false 1 (b.map intC)) (atQ_.fv a))
def atQ_.q:=vq atQ_.row rfl
def YaY:=J @atQ_.ae.eq_1<|J @atQ_.fv.eq_1<|J @l01Step.q<|J @l01Step.ar.eq_1<|J @l01Step.fv.eq_1<|J @l03At.q<|J @l03At.ar.eq_1<|J @l03At.fv.eq_1<|J @Opposite_.q<|J @Opposite_.ar.eq_1<|J @Opposite_.fv.eq_1<|J @l02Strength.q<|J @l02Strength.ar.eq_1 @l02Strength.fv.eq_1
theorem atQ_.ok:Qas Tryz.prog 86 atQ_.row:=by
 refine Qaj Qaq (tC l01Step.ok (tC l03At.ok (tC Opposite_.ok (tC l02Strength.ok tN)))) Tryz.func86 rfl (by kernel_rfl) (by kernel_rfl) (ar:=atQ_.ar) (ae:=atQ_.ae) (a4_le (Qacc 2 Qaa.d_le) (Qacc 1 Asm.d_le) (Qab8 Qae.d_le) Qab9) (n:=4) (fun _=>rfl) (by decide) (rc:=(vSl intD)) (re:=(fun b=>D.sl false 1 (b.map intC))) (Qe8 Qb3 (fun _=>rfl)) (f:=atQ_.fv) ?_;intro a hpre;simp only[Tryz.f86,Option.getD];simp(maxSteps:=9^9)(disch:=omega)only[ZZ,simprocAttr,rch,YaY];obtain⟨s,a,p,t⟩:=a;obtain⟨h1,h2,h3,h4⟩:=hpre;simp only at h1 h2 h3 h4⊢;refine Qay.ren ⟨{d:Nat//d<=4},fun d=>⟨[(10,.im (.int .i64 d.1)),(9,.own 5),(6,.ptr 2 0),(0,.ptr 0 0),(1,.ptr 1 0),(3,.im (.int .i64 t))],[(5,(true,.arr 2 1 ((glQ s a p d.1).map intC))),(2,(true,.cells 58 [.im (.int .i64 p.X),.im (.int .i64 p.Y)])),(0,(false,.view (Qaa.c s))),(1,(false,.view (Asm.c a)))],6⟩,fun d=>4 - d.1,fun d=>⟨by simp[Qad.good,belT,belH,Qam,AV.bel,belL],by simp⟩,⟨⟨0,ZaZ _⟩,[(5,some 4)],?_⟩,fun d=> ?_⟩
 .simp only[subP];simp(maxSteps:=9^9)(disch:=omega)only[ZZ,simprocAttr,rch,YaY,Zai,Zah,glQ,Zbb]
  try simp
 obtain⟨d,hd⟩:=d;have hgl:=Qaj4 s a p d;simp(maxSteps:=9^9)(disch:=omega)only[ZZ,simprocAttr,rch,YaY,sub,Qal,Qag,Qac,Qaf,allD,D.one,Zbj,Zch,ZcU];have hdw:IntKind.i64.wrap ((d:Int)+1)=((d+1:Nat):Int):=by rw[Qak (by omega) (by omega)];omega
 refine⟨fun hd4=>⟨⟨h3,by omega⟩,h2.1,fun hn=>⟨by omega,⟨d+1,by omega⟩,[(5,some 7)],by simp only;omega,?_⟩,fun hn=> ?_⟩,fun hd4=> ?_⟩
 .simp only[subP];simp(maxSteps:=9^9)(disch:=omega)only[ZZ,simprocAttr,rch,YaY,Zai,Zah,glQ];rw[Zak hn];refine⟨hdw,by simp[intC]⟩
 .obtain⟨b1,b2⟩:=Qafx h2 (Qf7 p d) (by omega);refine⟨b1,b2,fun x hx=>⟨by omega,by omega,by rw[(h1.2.1 x (Zac hx)).1];omega,fun g hg=>⟨by omega,⟨d+1,by omega⟩,[(5,some 7)],by simp only;omega,?_⟩⟩⟩;have hse:Qqu s (atA a (Qf7 p d)) (((d:Int)+2) % 4)=g:=Qpn hx hg;simp only[subP];simp(maxSteps:=9^9)(disch:=omega)only[ZZ,simprocAttr,rch,YaY,Zai,Zah,glQ];rw[Zag hn,hse];refine⟨hdw,by simp[intC]⟩
 obtain rfl:d=4:=by omega
 clear hdw hd4 hd;obtain⟨S,hS⟩: ∃S:Qar,S=⟨s,a,t⟩:=⟨_,rfl⟩;rw[<-hS];refine Qay.ren ⟨{i:Nat//i<=s.Tiles.length},fun i=>⟨[(13,.im (.int .i64 i.1)),(12,.own 7),(9,.own 5),(0,.ptr 0 0),(3,.im (.int .i64 t))],[(7,(true,.arr 2 1 ((atU S (atA a) p i.1).map intC))),(5,(true,.arr 2 1 ((glQ s a p 4).map intC))),(0,(false,.view (Qaa.c s))),(1,(false,.view (Asm.c a)))],8⟩,fun i=>s.Tiles.length - i.1,fun i=>⟨by simp[Qad.good,belT,belH,Qam,AV.bel,belL],by simp⟩,⟨⟨0,ZaZ _⟩,[(7,some 6)],?_⟩,fun i=> ?_⟩
 .simp only[subP];simp(maxSteps:=9^9)(disch:=omega)only[ZZ,simprocAttr,rch,YaY,Zai,Zah,atU,Zbb]
  try simp
 obtain⟨i,hi⟩:=i;have hul:=Qakm S (atA a) p i;simp(maxSteps:=9^9)(disch:=omega)only[ZZ,simprocAttr,rch,YaY,sub,Qal];intro _;refine⟨fun hi2=> ?_,fun hi2=> ?_⟩;rotate_left
 .obtain rfl:i=s.Tiles.length:=by omega
  rfl
 refine Qay.old ⟨{k:Nat//k<=4},fun k=>⟨[(15,.im (.int .i64 k.1)),(14,.im (.int .i64 (Qhs s (atA a) p i k.1))),(13,.im (.int .i64 i)),(12,.own 7),(9,.own 5),(0,.ptr 0 0),(3,.im (.int .i64 t))],[(7,(true,.arr 2 1 ((atU S (atA a) p i).map intC))),(5,(true,.arr 2 1 ((glQ s a p 4).map intC))),(0,(false,.view (Qaa.c s))),(1,(false,.view (Asm.c a)))],8⟩,fun k=>4 - k.1,fun k=>⟨by simp[Qad.good,belT,belH,Qam,AV.bel,belL],by simp⟩,⟨⟨0,ZaZ _⟩,?_⟩,fun k=> ?_⟩
 .simp(maxSteps:=9^9)(disch:=omega)only[ZZ,simprocAttr,rch,YaY,sub,Qhs]
 obtain⟨k,hk⟩:=k;simp(maxSteps:=9^9)(disch:=omega)only[ZZ,simprocAttr,rch,YaY,sub,Qal,Qag,Qac,Qaf,allD,D.one,Zbj,Zch,ZcU];have hkw:IntKind.i64.wrap ((k:Int)+1)=((k+1:Nat):Int):=by rw[Qak (by omega) (by omega)];omega
 have hbb:=Qwy h1 (atA a) p i k;have htb:=Qxd h1 (atA a) p i k;have h4l:=Qaj4 s a p 4;rw[h4l];refine⟨fun hk4=>⟨hi2,fun x hx=>⟨by rw[(h1.2.1 x (Zac hx)).1];omega,fun g hg=>⟨by omega,by omega,fun y hy=> ?_⟩⟩⟩,fun hk4=> ?_⟩
 .have hse:Qqu s i k=g:=Qpn (by simpa using hx) (by simpa using hg);rw[Qak3 (by omega),Zab] at hy;have htl:=term_gl (i:=i) hy.symm;rw[hse] at htl;refine⟨fun e=>⟨by omega,by omega,fun z hz=> ?_⟩,fun e=>⟨⟨k+1,by omega⟩,by simp only;omega,hkw,?_⟩⟩
  .rw[Qak3 (by omega),Zab] at hz;obtain rfl:y=z:=hy.symm.trans hz;rw[Zak e] at htl;have hyb:0<=y/\y<=s.Glues.length:=by
    have:=side_b h1 (t:=i) (d:=k)
    rw[hse,e] at this;exact this
   refine⟨⟨hyb.1,hyb.2,h1.1⟩,⟨k+1,by omega⟩,by simp only;omega,hkw,?_⟩;rw[htl,Qak (by omega) (by omega)];rfl
  .rw[Zag e] at htl;simp only[Qhs,<-htl];omega
 .obtain rfl:k=4:=by omega
  have hiw:IntKind.i64.wrap ((i:Int)+1)=((i+1:Nat):Int):=by rw[Qak (by omega) (by omega)];omega
  have e1:S.Temperature=t:=by rw[hS]
  have e2:S.Set=s:=by rw[hS]
  refine⟨fun e=>⟨by omega,⟨i+1,by omega⟩,[(7,some 9)],by simp only;omega,?_⟩,fun e=>⟨⟨i+1,by omega⟩,[(7,some 7)],by simp only;omega,?_⟩⟩
  .simp only[subP];simp(maxSteps:=9^9)(disch:=omega)only[ZZ,simprocAttr,rch,YaY,Zai,Zah,atU,e1,e2];rw[Zak e];exact⟨hiw,by simp[intC]⟩
  .simp only[subP];simp(maxSteps:=9^9)(disch:=omega)only[ZZ,simprocAttr,rch,YaY,Zai,Zah,atU,e1,e2];rw[Zag e,ZaL];exact⟨hiw,rfl⟩
theorem atU_S(s:Qar)(a b:Asm)(f:Qae->Int)(p:Qae): ∀n,atU ⟨s.Set,a,s.Temperature⟩ f p n=atU s f p n
 |0=>rfl
 |n+1=>by simp only[atU,atU_S s a b f p n]
def Qakh(g:Qae->List Int)(l:List Qae)(i:Nat):List Opt:=Qajs g (l.take i)
theorem Qalm{g:Qae->List Int}{l:List Qae}{i:Nat}{p:Qae}(h:l[i]? =some p):Qakh g l (i+1)=Qakh g l i++(g p).map (mkO2 p):=by
 simp only[Qakh,Qajs,Qwe h,Zdu,Zbi,Zdd,ZaL]
theorem Qakc{g:Qae->List Int}{m:Nat}(hg: ∀p,(g p).length<=m): ∀(l:List Qae),(Qajs g l).length<=l.length*m
 |[]=>by simp[Qajs]
 |p::r=>by
  have ih:=Qakc hg r
  have:=hg p
  simp only[Qajs] at ih;simp only[Qajs,Zbi,ZaF,Zbv,ZaG,ZeR];omega
def opsS_.ar:List PK->Option (Qar×Asm):=a2 (kP Qar.d 4) (kP Asm.d 1)
def opsS_.ae(a:Qar×Asm):List PK:=[.ptr (Qar.c a.1),.ptr (Asm.c a.2)]
def opsS_.fv(a:Qar×Asm):List Opt:=(Qaj8) (a.1) (a.2)
def opsS_.row:Row:=vrow opsS_.ar (fun a=>setP a.1.Set/\Qn7 a.1.Set a.2/\a.2.Tiles.length<=500/\a.1.Set.Tiles.length<=1000) (fun a=>(fun b=>D.sl false 3 (b.map Opt.c)) (opsS_.fv a))
def opsS_.q:=vq opsS_.row rfl
def YaZ:=J @opsS_.ae.eq_1<|J @opsS_.fv.eq_1<|J @nearS_.q<|J @nearS_.ar.eq_1<|J @nearS_.fv.eq_1<|J @atQ_.q<|J @atQ_.ar.eq_1 @atQ_.fv.eq_1
theorem opsS_.ok:Qas Tryz.prog 59 opsS_.row:=by
 refine Qaj Qaq (tC nearS_.ok (tC atQ_.ok tN)) Tryz.func59 rfl (by kernel_rfl) (by kernel_rfl) (ar:=opsS_.ar) (ae:=opsS_.ae) (Qaca (Qacc 4 Qar.d_le) (Qacc 1 Asm.d_le)) (n:=2) (fun _=>rfl) (by decide) (rc:=(vSl Opt.d)) (re:=(fun b=>D.sl false 3 (b.map Opt.c))) (Qe8 Opt.d_le (fun _=>rfl)) (f:=opsS_.fv) ?_;intro a hpre;simp only[Tryz.f59,Option.getD];simp(maxSteps:=9^9)(disch:=omega)only[ZZ,simprocAttr,rch,YaZ];obtain⟨s,a⟩:=a;obtain⟨h1,h2,h3,h4⟩:=hpre;simp only at h1 h2 h3 h4⊢;refine⟨⟨h2.1,by omega,s.Set,h2.2⟩,?_⟩;obtain⟨L,hL⟩: ∃L,L=Qajq a a.Tiles.length:=⟨_,rfl⟩;obtain⟨g,hg⟩: ∃g,g=fun p=>atU s (atA a) p s.Set.Tiles.length:=⟨_,rfl⟩
 have hop:Qaj8 s a=Qajs g L:=by rw[hg,hL];rfl
 rw[hop];have hLl:L.length<=2000:=by have:=Qaj2 a a.Tiles.length;rw[hL];omega
 have hgl: ∀p,(g p).length<=1000:=fun p=>by have:=Qakm s (atA a) p s.Set.Tiles.length;rw[hg];simp only;omega
 have hLo: ∀p∈L,Qbi p=true:=fun p hp=>by
  rw[hL,Qajz _ (Zam _)] at hp;exact hp.1.1
 simp only[<-hL];refine Qay.ren ⟨{i:Nat//i<=L.length},fun i=>⟨[(7,.im (.int .i64 i.1)),(6,.im (.sl false 2 (L.map Qae.c))),(5,.own 4),(0,.ptr 0 0),(1,.ptr 1 0)],[(4,(true,.arr 72 3 ((Qakh g L i.1).map Opt.c))),(0,(false,.view (Qar.c s))),(1,(false,.view (Asm.c a)))],5⟩,fun i=>L.length - i.1,fun i=>⟨by simp[Qad.good,belT,belH,Qam,AV.bel,belL],by simp⟩,⟨⟨0,ZaZ _⟩,[(4,some 3)],?_⟩,fun i=> ?_⟩
 .simp only[subP];simp(maxSteps:=9^9)(disch:=omega)only[ZZ,simprocAttr,rch,YaZ,Zai,Zah,Qakh,Zbr,Qajs,Zdd,Zbb]
  try simp
 obtain⟨i,hi⟩:=i;simp(maxSteps:=9^9)(disch:=omega)only[ZZ,simprocAttr,rch,YaZ,sub,Qal];intro _;refine⟨fun hi2=> ?_,fun hi2=> ?_⟩;rotate_left
 .obtain rfl:i=L.length:=by omega
  rw[Qakh,ZbB]
 have hol:(Qakh g L i).length<=2000*1000:=by
  have:=Qakc hgl (L.take i)
  have h9:(L.take i).length*1000<=2000*1000:=Zbf _ (by simp;omega);simp only[Qakh];omega
 refine⟨hi2,fun p hp=> ?_⟩;have hpo:=hLo p (Zac hp);refine⟨⟨h1,h2,Qkc hpo,by omega⟩,?_⟩;have hga:atU ⟨s.Set,a,s.Temperature⟩ (atA a) p s.Set.Tiles.length=g p:=by rw[atU_S _ _ a,hg]
 rw[hga];have hgp:=hgl p;refine Qay.ren ⟨{k:Nat//k<=(g p).length},fun k=>⟨[(9,.im (.int .i64 k.1)),(8,.im (.sl false 1 ((g p).map intC))),(7,.im (.int .i64 i)),(6,.im (.sl false 2 (L.map Qae.c))),(5,.own 5),(0,.ptr 0 0),(1,.ptr 1 0)],[(5,(true,.arr 72 3 ((Qakh g L i++((g p).take k.1).map (mkO2 p)).map Opt.c))),(0,(false,.view (Qar.c s))),(1,(false,.view (Asm.c a)))],6⟩,fun k=>(g p).length - k.1,fun k=>⟨by simp[Qad.good,belT,belH,Qam,AV.bel,belL],by simp⟩,⟨⟨0,ZaZ _⟩,[(5,some 4)],?_⟩,fun k=> ?_⟩
 .simp only[subP];simp(maxSteps:=9^9)(disch:=omega)only[ZZ,simprocAttr,rch,YaZ,Zai,Zah,Zbr,Zbb,ZaL]
  try simp
 obtain⟨k,hk⟩:=k;simp(maxSteps:=9^9)(disch:=omega)only[ZZ,simprocAttr,rch,YaZ,sub,Qal,Qag,Qac,Qaf,allD,D.one,Zbj,Zch,ZcU,ZaF];intro _;refine⟨fun hk2=>⟨hi2,fun q hq=>⟨hk2,fun x hx=>⟨?_,⟨k+1,by omega⟩,[(5,some 7)],by simp only;omega,?_⟩⟩⟩,fun hk2=>⟨⟨i+1,by omega⟩,[(4,some 5)],by simp only;omega,?_⟩⟩
 .have:((g p).take k).length<=1000:=by simp;omega
  omega
 .obtain rfl:=Zaa (hp.symm.trans hq);simp only[subP];simp(maxSteps:=9^9)(disch:=omega)only[ZZ,simprocAttr,rch,YaZ,Zai,Zah];refine⟨by rw[Qak (by omega) (by omega)];rfl,?_⟩;rw[Qwe hx];simp[mkO2,Opt.c,Qae.c]
 .obtain rfl:k=(g p).length:=by omega
  simp only[subP];simp(maxSteps:=9^9)(disch:=omega)only[ZZ,simprocAttr,rch,YaZ,Zai,Zah];refine⟨by rw[Qak (by omega) (by omega)];rfl,?_⟩;rw[Qalm hp,ZbB]
theorem lkG_mem{β:Type}{v:β}{p:Qae}: ∀{t:List (Qae×β)},lkP t p=some v->(p,v)∈t
 |(q,w)::r,h=>by
  simp only[lkP] at h;split at h
  .rename_i e;obtain rfl:=Zaa h;rw[e];exact Zau ..
  .exact Zar _ (lkG_mem h)
theorem Qamo{β:Type}{p:Qae}: ∀{t:List (Qae×β)},lkP t p=none->p∉t.map Prod.fst
 |[],_=>by simp
 |(q,w)::r,h=>by
  simp only[lkP] at h;split at h
  .cases h
  .rename_i e;simp only[Zan,Zaw,Zfi];exact⟨e,Qamo h⟩
theorem keyC_dom(a:OpM)(j:Nat):domB (keyC.H0 a) j=true↔j<1:=by
 simp only[domB,keyC.H0,hget];by_cases h0:j=0
 .subst h0;simp
 .have e0:(0==j)=false:=by simp;omega
  simp[e0];omega
def lisC.r0(a:Cry):AV:= .im (.sl false 3 ((Qalo a.Op).map Opt.c))
def lisC.row:Row:=orow asmC.ca cryH 3 (fun a=>(a.Op.map Prod.fst).Nodup/\a.Op.length<=1000000/\ ∀q∈a.Op,q.2.length<=1000) (fun _=>false) lisC.r0 (fun _=>[]) 20
def Yba:=J @sorF.q @sorF.fv.eq_1
theorem lisC.ok:Qas Tryz.prog 73 lisC.row:=by
 refine Qnh Qaq (tC keyC.ok (tC sorF.ok tN)) Tryz.func73 rfl (by kernel_rfl) (by kernel_rfl) (exB:=fun _=>false) (R:=fun a r=>r=lisC.r0 a) (n:=1) (fun _=>rfl) (by decide)
  (fun a=>by simp[asmC.ca,cryH,Qbk,belL,AV.bel]) (fun a=>by simp[asmC.ca,cryH,Qbk,belH,belL,AV.bel]) (fun a=>by simp[asmC.ca,cryH,Qbk,Qam])
  (fun a=>by simp[Qc2,asmC.ca,cryH,Qbk,AObj.nms,nmsL,AV.nms,domB,hget]) (fun a p hp=> ?_) (fun a r h=>by subst h;exact LeV.refl _) ?_
 rotate_left
 intro a hpre;simp only[Tryz.f73,Option.getD,asmC.ca,cryH,Qbk];simp(maxSteps:=9^9)(disch:=omega)only[ZZ,simprocAttr,rch,Yba,sorF.ar,Qc7,ORB,asmC.ca,cryH,Qbk];obtain⟨hp1,hp2,hp3⟩:=hpre;refine orow.os a.Op [2] trivial (fun j=>keyC_dom _ j) rfl rfl ?_ ?_
 .simp(maxSteps:=9^9)(disch:=omega)only[ZZ,simprocAttr,rch,Yba,sorF.ar,Qc7,ORB,asmC.ca,cryH,Qbk,keyC.ca,keyC.H0,ZaV,ZaC];rfl
 simp(maxSteps:=9^9)(disch:=omega)only[ZZ,simprocAttr,rch,Yba,sorF.ar,Qc7,ORB,asmC.ca,cryH,Qbk,keyC.H1,keyC.r0,sub];obtain⟨L,hL⟩: ∃L,L=Qakz (a.Op.map Prod.fst):=⟨_,rfl⟩;obtain⟨g,hg⟩: ∃g:Qae->List Int,g=fun p=>(lkP a.Op p).getD []:=⟨_,rfl⟩
 have hop:Qalo a.Op=Qajs g L:=by rw[hg,hL];rfl
 refine⟨⟨hp1,hp2⟩,?_⟩;simp only[<-hL];intro hLl;refine Qay.ren ⟨{i:Nat//i<=L.length},fun i=>⟨[(15,.im (.int .i64 i.1)),(14,.im (.int .i64 L.length)),(13,.im (.sl false 2 (L.map Qae.c))),(3,.own 6),(0,.ptr 0 0)],[(6,(true,.arr 72 3 ((Qakh g L i.1).map Opt.c))),(0,(true,.cells 175 (Qbk a.Sys))),(1,(true,.map ⟨true,[.int .i64,.int .i64]⟩ (a.Tl.map Qbe))),(2,(true,.map ⟨true,[.int .i64,.int .i64]⟩ (a.Op.map Qbc)))],7⟩,fun i=>L.length - i.1,fun i=>⟨by simp[Qad.good,belT,belH,Qam,AV.bel,belL,Qbk],by simp⟩,⟨⟨0,ZaZ _⟩,[(6,some 4)],?_⟩,fun i=> ?_⟩
 .simp only[subP,Qbk];simp(maxSteps:=9^9)(disch:=omega)only[ZZ,simprocAttr,rch,Yba,sorF.ar,Qc7,ORB,asmC.ca,cryH,Qbk,Zai,Zah,Qakh,Zbr,Qajs,Zdd,Zbb]
  try simp
 obtain⟨i,hi⟩:=i;simp only[Qbk];simp(maxSteps:=9^9)(disch:=omega)only[ZZ,simprocAttr,rch,Yba,sorF.ar,Qc7,ORB,asmC.ca,cryH,Qbk,sub,Qal,lkVC_ps];have hgl: ∀p,(g p).length<=1000:=fun p=>by
  rw[hg];simp only;cases hq:lkP a.Op p with
  |none=>simp
  |some v=>exact hp3 _ (lkG_mem hq)
 have hLn:L.length<=1000000:=by rw[hL,(Qall hp1).length_eq,Zbv];exact hp2
 have hol:(Qakh g L i).length<=1000000*1000:=by
  have:=Qakc hgl (L.take i)
  have h9:(L.take i).length*1000<=1000000*1000:=Zbf _ (by simp;omega);simp only[Qakh];omega
 refine⟨fun hi2=>⟨hi2,fun p hp=>⟨fun v hv=> ?_,fun hv=> ?_⟩⟩,fun hi2=> ?_⟩
 .have hgv:g p=v:=by rw[hg];simp only[hv,Zae]
  have hgp:=hgl p;rw[hgv] at hgp;refine Qay.ren ⟨{k:Nat//k<=v.length},fun k=>⟨[(26,.im (.int .i64 k.1)),(25,.im (.int .i64 v.length)),(24,.im (.sl false 1 (v.map intC))),(5,.ptr 7 0),(15,.im (.int .i64 i)),(14,.im (.int .i64 L.length)),(13,.im (.sl false 2 (L.map Qae.c))),(3,.own 8),(0,.ptr 0 0)],[(8,(true,.arr 72 3 ((Qakh g L i++(v.take k.1).map (mkO2 p)).map Opt.c))),(7,(true,.cells 58 ((Qae.c p).map .im))),(0,(true,.cells 175 (Qbk a.Sys))),(1,(true,.map ⟨true,[.int .i64,.int .i64]⟩ (a.Tl.map Qbe))),(2,(true,.map ⟨true,[.int .i64,.int .i64]⟩ (a.Op.map Qbc)))],9⟩,fun k=>v.length - k.1,fun k=>⟨by simp[Qad.good,belT,belH,Qam,AV.bel,belL,Qbk,Qae.c],by simp⟩,⟨⟨0,ZaZ _⟩,[(8,some 6)],?_⟩,fun k=> ?_⟩
  .simp only[subP,Qbk];simp(maxSteps:=9^9)(disch:=omega)only[ZZ,simprocAttr,rch,Yba,sorF.ar,Qc7,ORB,asmC.ca,cryH,Qbk,Zai,Zah,Zbr,Zbb,ZaL]
   try simp
  obtain⟨k,hk⟩:=k;simp only[Qbk];simp(maxSteps:=9^9)(disch:=omega)only[ZZ,simprocAttr,rch,Yba,sorF.ar,Qc7,ORB,asmC.ca,cryH,Qbk,sub,Qal,Qag,Qac,Qaf,allD,D.one,Zbj,Zch,ZcU,ZaF];refine⟨fun hk2=>⟨hk2,fun x hx=>⟨?_,⟨k+1,by omega⟩,[(8,some 10)],by simp only;omega,?_⟩⟩,fun hk2=>⟨⟨i+1,by omega⟩,[(6,some 8)],by simp only;omega,?_⟩⟩
  .have:(v.take k).length<=1000:=by simp;omega
   omega
  .simp only[subP];simp(maxSteps:=9^9)(disch:=omega)only[ZZ,simprocAttr,rch,Yba,sorF.ar,Qc7,ORB,asmC.ca,cryH,Qbk,Zai,Zah];refine⟨by rw[Qak (by omega) (by omega)];rfl,?_⟩;rw[Qwe hx];simp[mkO2,Opt.c,Qae.c]
  .obtain rfl:k=v.length:=by omega
   simp only[subP];simp(maxSteps:=9^9)(disch:=omega)only[ZZ,simprocAttr,rch,Yba,sorF.ar,Qc7,ORB,asmC.ca,cryH,Qbk,Zai,Zah];refine⟨by rw[Qak (by omega) (by omega)];rfl,?_⟩;rw[Qalm hp,ZbB,hgv]
 .exfalso
  have:p∈L:=Zac hp
  rw[hL,Qaka] at this;exact Qamo hv this
 .obtain rfl:i=L.length:=by omega
  have hA:Qakh g L L.length=Qalo a.Op:=by rw[Qakh,ZbB,hop]
  rw[hA];refine⟨[6],[],⟨[(2,.im (.sl false 3 ((Qalo a.Op).map Opt.c)))],[(0,(true,.cells 175 (Qbk a.Sys))),(1,(true,.map ⟨true,[.int .i64,.int .i64]⟩ (a.Tl.map Qbe))),(2,(true,.map ⟨true,[.int .i64,.int .i64]⟩ (a.Op.map Qbc)))],3⟩,?_,by simp[Qad.good,belT,belH,Qam,AV.bel,belL,Qbk],by simp,?_⟩
  .simp only[subP,Qbk];simp(maxSteps:=9^9)(disch:=omega)only[ZZ,simprocAttr,rch,Yba,sorF.ar,Qc7,ORB,asmC.ca,cryH,Qbk,Zai,Zah]
  .simp only[Qbk];simp(maxSteps:=9^9)(disch:=omega)only[ZZ,simprocAttr,rch,Yba,sorF.ar,Qc7,ORB,asmC.ca,cryH,Qbk,lisC.r0]
 simp at hp
def oclC.ca(a:Int×Frac×Int×Int):List AV:=[.ptr 0 0,.im (.agg [.int .i64 a.2.1.Num,.int .i64 a.2.1.Den]),.im (.int .i64 a.2.2.1),.im (.int .i64 a.2.2.2)]
def wclC.H1(q:Frac×Int):Qan:=[(5,(true,.cells 36 ((Frac.c q.1).map .im))),(7,(true,.cells 119 [.im (.int .i64 q.2)]))]
def wclC.ca(a:Cry×Opt×List Int×Frac×Int):List AV:=[.ptr 0 0,.im (.agg [.int .i64 a.2.1.At.X,.int .i64 a.2.1.At.Y,.int .i64 a.2.1.Tile]),.ptr 3 0,.ptr 4 0,.ptr 5 0,.ptr 6 0]
def kl57(j:Nat):Bool:=j==5||j==7
def wclC.pre(g:Int->Int)(a:Cry×Opt×List Int×Frac×Int):Prop:=((a.1.Op.map Prod.fst).Nodup/\a.1.Op.length<=1000000/\ ∀q∈a.1.Op,q.2.length<=1000)/\wtIn a.2.2.1 a.2.1.Tile/\((∀o∈Qalo a.1.Op,wtIn a.2.2.1 o.Tile)/\a.2.2.1.any badW=false/\(Qalo a.1.Op).length<=1000000)/\0<=a.2.2.2.1.Num/\0<=g (wAt a.2.2.1 a.2.1.Tile)/\g (wAt a.2.2.1 a.2.1.Tile)<=1000000000/\1<=totW a.2.2.1 (Qalo a.1.Op)/\totW a.2.2.1 (Qalo a.1.Op)<=1000000000
def oclO.q0(a:Int×Frac×Int×Int):Frac×Int:=stF mulF a.2.2.1 a.2.2.2 (a.2.1,a.1)
def oclO.r0(a:Int×Frac×Int×Int):AV:= .im (.agg (Frac.c (oclO.q0 a).1))
def oclO.row:Row:=orow oclC.ca (fun a=>frH a.1) 1 (fun a=>0<=a.2.1.Num/\0<=a.2.2.1/\a.2.2.1<=1000000000/\1<=a.2.2.2/\a.2.2.2<=1000000000) kl0' oclO.r0 (fun a=>frH (oclO.q0 a).2) 0
theorem oclO.ok:Qas Tryz.prog 37 oclO.row:=by
 refine Qf1 Qaq (tC parC.ok (tC timC.ok tN)) Tryz.func37 rfl (by kernel_rfl) (by kernel_rfl) (exB:=fun _=>false) (R:=fun a r=>r=oclO.r0 a) (n:=4) (fun _=>rfl) (by decide)
  (fun a=>by simp[oclC.ca,frH,kl0',belL,AV.bel]) (fun a=>by simp[oclC.ca,frH,kl0',belH,belL,AV.bel]) (fun a=>by simp[oclC.ca,frH,kl0',Qam])
  (fun a=>by simp[Qc2,oclC.ca,frH,kl0',AObj.nms,nmsL,AV.nms,domB,hget]) (fun a p hp=> ?_) (fun a r h=>by subst h;exact LeV.refl _) ?_
 rotate_left
 intro a hpre;simp only[Tryz.f37,Option.getD,oclC.ca,frH,kl0'];simp(maxSteps:=9^9)(disch:=omega)only[ZZ,simprocAttr,rch,ORB,oclC.ca,frH,kl0'];obtain⟨c,f,r,t⟩:=a;obtain⟨h0,h1,h2,h3,h4⟩:=hpre;simp only at h0 h1 h2 h3 h4⊢;refine orow.os (c,r,t) [0] ⟨h1,h2,h3,h4⟩ (fun j=>Qalt _ j) rfl rfl ?_ ?_
 .simp(maxSteps:=9^9)(disch:=omega)only[ZZ,simprocAttr,rch,ORB,oclC.ca,frH,kl0',parC.ca,frH,ZaV,ZaC]
 simp(maxSteps:=9^9)(disch:=omega)only[ZZ,simprocAttr,rch,ORB,oclC.ca,frH,kl0',frH,kl0',sub,parC.r0];have hp:=Qamf h1 h3 (Qalp h1 h2 h3 h4);refine orow.os (Qal4 c (mkF r t).2,f,(mkF r t).1) [0] ⟨h0,hp.1⟩ (fun j=>Qalt _ j) rfl rfl ?_ ?_
 .simp(maxSteps:=9^9)(disch:=omega)only[ZZ,simprocAttr,rch,ORB,oclC.ca,frH,kl0',timC.ca,frH,ZaV,ZaC]
 simp(maxSteps:=9^9)(disch:=omega)only[ZZ,simprocAttr,rch,ORB,oclC.ca,frH,kl0',frH,kl0',sub,timC.r0,timC.q0];exact⟨rfl,rfl⟩;simp[frH] at hp;subst hp;exact .inl ⟨by omega,rfl,rfl⟩
def wclO.H0(a:Cry×Opt×List Int×Frac×Int):Qan:=cryH a.1++[(3,(true,.cells 84 [.im (.fn 37 [] [])])),(4,(true,.cells 81 [.ptr 7 0])),(5,(true,.cells 36 ((Frac.c a.2.2.2.1).map .im))),(6,(true,.cells 31 [.im (.sl false 1 (a.2.2.1.map intC))])),(7,(true,.cells 119 [.im (.int .i64 a.2.2.2.2)]))]
def wclO.q0(a:Cry×Opt×List Int×Frac×Int):Frac×Int:=stF mulF ((fun x=>x) (wAt a.2.2.1 a.2.1.Tile)) (totW a.2.2.1 (Qalo a.1.Op)) (a.2.2.2.1,a.2.2.2.2)
def wclO.row:Row:=orow wclC.ca wclO.H0 8 (wclC.pre (fun x=>x)) kl57 (fun _=> .im (.tup [])) (fun a=>wclC.H1 (wclO.q0 a)) 0
def Ybb:=J @totI_.q (J @totI_.ar.eq_1 @totI_.fv.eq_1)
theorem wclO.ok:Qas Tryz.prog 71 wclO.row:=by
 refine Qf1 Qaq (tC lisC.ok (tC totI_.ok (tC oclO.ok tN))) Tryz.func71 rfl (by kernel_rfl) (by kernel_rfl) (exB:=fun _=>false) (R:=fun _ r=>r= .im (.tup [])) (n:=6) (fun _=>rfl) (by decide)
  (fun a=>by simp[wclC.ca,wclO.H0,cryH,Qbk,Zas,ZaK,wclC.H1,kl57,Frac.c,belL,AV.bel]) (fun a=>by simp[wclC.ca,wclO.H0,cryH,Qbk,Zas,ZaK,wclC.H1,kl57,Frac.c,belH,belL,AV.bel]) (fun a=>by simp[wclC.ca,wclO.H0,cryH,Qbk,Zas,ZaK,wclC.H1,kl57,Frac.c,Qam])
  (fun a=>by simp[Qc2,wclC.ca,wclO.H0,cryH,Qbk,Zas,ZaK,wclC.H1,kl57,Frac.c,AObj.nms,nmsL,AV.nms,domB,hget]) (fun a p hp=> ?_) (fun a r h=>by subst h;exact LeV.refl _) ?_
 rotate_left
 intro a hpre;simp only[Tryz.f71,Option.getD,wclC.ca,wclO.H0,cryH,Qbk,Zas,ZaK,wclC.H1,kl57,Frac.c];simp(maxSteps:=9^9)(disch:=omega)only[ZZ,simprocAttr,rch,Ybb,ORB,wclC.ca,wclO.H0,cryH,Qbk,Zas,ZaK,wclC.H1,kl57,Frac.c];obtain⟨c,o,w,f,e⟩:=a;obtain⟨h0,h1,h2,h3,h4,h5,h6,h7⟩:=hpre;simp only at h0 h1 h2 h3 h4 h5 h6 h7⊢;refine⟨h1.1,h1.2,fun x hx=> ?_⟩;have hx2:wAt w o.Tile=x:=by simp only[wAt,hx,Zae]
 try rw[hx2] at h4 h5
 refine orow.os c [0,1,2] h0 (fun j=>Qack _ j) rfl rfl ?_ ?_
 .simp(maxSteps:=9^9)(disch:=omega)only[ZZ,simprocAttr,rch,Ybb,ORB,wclC.ca,wclO.H0,cryH,Qbk,Zas,ZaK,wclC.H1,kl57,Frac.c,asmC.ca,cryH,Qbk,ZaV,ZaC,ZaQ]
 simp(maxSteps:=9^9)(disch:=omega)only[ZZ,simprocAttr,rch,Ybb,ORB,wclC.ca,wclO.H0,cryH,Qbk,Zas,ZaK,wclC.H1,kl57,Frac.c,sub,lisC.r0];refine⟨h2,?_⟩;refine orow.os (e,f,x,totW w (Qalo c.Op)) [7] ⟨h3,h4,h5,h6,h7⟩ (fun j=>Qalt _ j) rfl rfl ?_ ?_
 .simp(maxSteps:=9^9)(disch:=omega)only[ZZ,simprocAttr,rch,Ybb,ORB,wclC.ca,wclO.H0,cryH,Qbk,Zas,ZaK,wclC.H1,kl57,Frac.c,oclC.ca,frH,ZaV,ZaC,ZaQ]
 simp(maxSteps:=9^9)(disch:=omega)only[ZZ,simprocAttr,rch,Ybb,ORB,wclC.ca,wclO.H0,cryH,Qbk,Zas,ZaK,wclC.H1,kl57,Frac.c,frH,kl0',sub,oclO.r0,oclO.q0,wclO.q0,hx2];simp[wclC.H1] at hp;rcases hp with rfl|rfl
 .exact .inl ⟨by omega,rfl,rfl⟩
 .exact .inl ⟨by omega,rfl,rfl⟩
def oclT.q0(a:Int×Frac×Int×Int):Frac×Int:=stF addF (1:Int) a.2.2.2 (a.2.1,a.1)
def oclT.r0(a:Int×Frac×Int×Int):AV:= .im (.agg (Frac.c (oclT.q0 a).1))
def oclT.row:Row:=orow oclC.ca (fun a=>frH a.1) 1 (fun a=>0<=a.2.1.Num/\0<=(1:Int)/\(1:Int)<=1000000000/\1<=a.2.2.2/\a.2.2.2<=1000000000) kl0' oclT.r0 (fun a=>frH (oclT.q0 a).2) 0
theorem oclT.ok:Qas Tryz.prog 46 oclT.row:=by
 refine Qf1 Qaq (tC parC.ok (tC pluC.ok tN)) Tryz.func46 rfl (by kernel_rfl) (by kernel_rfl) (exB:=fun _=>false) (R:=fun a r=>r=oclT.r0 a) (n:=4) (fun _=>rfl) (by decide)
  (fun a=>by simp[oclC.ca,frH,kl0',belL,AV.bel]) (fun a=>by simp[oclC.ca,frH,kl0',belH,belL,AV.bel]) (fun a=>by simp[oclC.ca,frH,kl0',Qam])
  (fun a=>by simp[Qc2,oclC.ca,frH,kl0',AObj.nms,nmsL,AV.nms,domB,hget]) (fun a p hp=> ?_) (fun a r h=>by subst h;exact LeV.refl _) ?_
 rotate_left
 intro a hpre;simp only[Tryz.f46,Option.getD,oclC.ca,frH,kl0'];simp(maxSteps:=9^9)(disch:=omega)only[ZZ,simprocAttr,rch,ORB,oclC.ca,frH,kl0'];obtain⟨c,f,r,t⟩:=a;obtain⟨h0,h1,h2,h3,h4⟩:=hpre;simp only at h0 h1 h2 h3 h4⊢;refine orow.os (c,(1:Int),t) [0] ⟨h1,h2,h3,h4⟩ (fun j=>Qalt _ j) rfl rfl ?_ ?_
 .simp(maxSteps:=9^9)(disch:=omega)only[ZZ,simprocAttr,rch,ORB,oclC.ca,frH,kl0',parC.ca,frH,ZaV,ZaC]
 simp(maxSteps:=9^9)(disch:=omega)only[ZZ,simprocAttr,rch,ORB,oclC.ca,frH,kl0',frH,kl0',sub,parC.r0];have hp:=Qamf h1 h3 (Qalp h1 h2 h3 h4);refine orow.os (Qal4 c (mkF (1:Int) t).2,f,(mkF (1:Int) t).1) [0] ⟨h0,hp.1⟩ (fun j=>Qalt _ j) rfl rfl ?_ ?_
 .simp(maxSteps:=9^9)(disch:=omega)only[ZZ,simprocAttr,rch,ORB,oclC.ca,frH,kl0',timC.ca,frH,ZaV,ZaC]
 simp(maxSteps:=9^9)(disch:=omega)only[ZZ,simprocAttr,rch,ORB,oclC.ca,frH,kl0',frH,kl0',sub,pluC.r0,pluC.q0];exact⟨rfl,rfl⟩;simp[frH] at hp;subst hp;exact .inl ⟨by omega,rfl,rfl⟩
def wclT.H0(a:Cry×Opt×List Int×Frac×Int):Qan:=cryH a.1++[(3,(true,.cells 84 [.im (.fn 46 [] [])])),(4,(true,.cells 81 [.ptr 7 0])),(5,(true,.cells 36 ((Frac.c a.2.2.2.1).map .im))),(6,(true,.cells 31 [.im (.sl false 1 (a.2.2.1.map intC))])),(7,(true,.cells 119 [.im (.int .i64 a.2.2.2.2)]))]
def wclT.q0(a:Cry×Opt×List Int×Frac×Int):Frac×Int:=stF addF ((fun _=>1) (wAt a.2.2.1 a.2.1.Tile)) (totW a.2.2.1 (Qalo a.1.Op)) (a.2.2.2.1,a.2.2.2.2)
def wclT.row:Row:=orow wclC.ca wclT.H0 8 (wclC.pre (fun _=>1)) kl57 (fun _=> .im (.tup [])) (fun a=>wclC.H1 (wclT.q0 a)) 0
def Ybc:=J @totI_.q (J @totI_.ar.eq_1 @totI_.fv.eq_1)
theorem wclT.ok:Qas Tryz.prog 71 wclT.row:=by
 refine Qf1 Qaq (tC lisC.ok (tC totI_.ok (tC oclT.ok tN))) Tryz.func71 rfl (by kernel_rfl) (by kernel_rfl) (exB:=fun _=>false) (R:=fun _ r=>r= .im (.tup [])) (n:=6) (fun _=>rfl) (by decide)
  (fun a=>by simp[wclC.ca,wclT.H0,cryH,Qbk,Zas,ZaK,wclC.H1,kl57,Frac.c,belL,AV.bel]) (fun a=>by simp[wclC.ca,wclT.H0,cryH,Qbk,Zas,ZaK,wclC.H1,kl57,Frac.c,belH,belL,AV.bel]) (fun a=>by simp[wclC.ca,wclT.H0,cryH,Qbk,Zas,ZaK,wclC.H1,kl57,Frac.c,Qam])
  (fun a=>by simp[Qc2,wclC.ca,wclT.H0,cryH,Qbk,Zas,ZaK,wclC.H1,kl57,Frac.c,AObj.nms,nmsL,AV.nms,domB,hget]) (fun a p hp=> ?_) (fun a r h=>by subst h;exact LeV.refl _) ?_
 rotate_left
 intro a hpre;simp only[Tryz.f71,Option.getD,wclC.ca,wclT.H0,cryH,Qbk,Zas,ZaK,wclC.H1,kl57,Frac.c];simp(maxSteps:=9^9)(disch:=omega)only[ZZ,simprocAttr,rch,Ybc,ORB,wclC.ca,wclT.H0,cryH,Qbk,Zas,ZaK,wclC.H1,kl57,Frac.c];obtain⟨c,o,w,f,e⟩:=a;obtain⟨h0,h1,h2,h3,h4,h5,h6,h7⟩:=hpre;simp only at h0 h1 h2 h3 h4 h5 h6 h7⊢;refine⟨h1.1,h1.2,fun x hx=> ?_⟩;have hx2:wAt w o.Tile=x:=by simp only[wAt,hx,Zae]
 try rw[hx2] at h4 h5
 refine orow.os c [0,1,2] h0 (fun j=>Qack _ j) rfl rfl ?_ ?_
 .simp(maxSteps:=9^9)(disch:=omega)only[ZZ,simprocAttr,rch,Ybc,ORB,wclC.ca,wclT.H0,cryH,Qbk,Zas,ZaK,wclC.H1,kl57,Frac.c,asmC.ca,cryH,Qbk,ZaV,ZaC,ZaQ]
 simp(maxSteps:=9^9)(disch:=omega)only[ZZ,simprocAttr,rch,Ybc,ORB,wclC.ca,wclT.H0,cryH,Qbk,Zas,ZaK,wclC.H1,kl57,Frac.c,sub,lisC.r0];refine⟨h2,?_⟩;refine orow.os (e,f,x,totW w (Qalo c.Op)) [7] ⟨h3,h4,h5,h6,h7⟩ (fun j=>Qalt _ j) rfl rfl ?_ ?_
 .simp(maxSteps:=9^9)(disch:=omega)only[ZZ,simprocAttr,rch,Ybc,ORB,wclC.ca,wclT.H0,cryH,Qbk,Zas,ZaK,wclC.H1,kl57,Frac.c,oclC.ca,frH,ZaV,ZaC,ZaQ]
 simp(maxSteps:=9^9)(disch:=omega)only[ZZ,simprocAttr,rch,Ybc,ORB,wclC.ca,wclT.H0,cryH,Qbk,Zas,ZaK,wclC.H1,kl57,Frac.c,frH,kl0',sub,oclT.r0,oclT.q0,wclT.q0,hx2];simp[wclC.H1] at hp;rcases hp with rfl|rfl
 .exact .inl ⟨by omega,rfl,rfl⟩
 .exact .inl ⟨by omega,rfl,rfl⟩
def seqI(s:Qar)(l:List Opt):Asm×Int×Int:=if Qk1 s=false then (⟨[]⟩,0,1) else if 500<l.length then (⟨[]⟩,0,2) else Qacn s (tlUp s.Seed.Tiles) l 0
theorem Qacl{β:Type}(p:Qae)(v:β): ∀(t:List (Qae×β)),(t.map Prod.fst).Nodup->((updP t p v).map Prod.fst).Nodup/\(∀q,q∈(updP t p v).map Prod.fst->q=p\/q∈t.map Prod.fst)/\(updP t p v).length<=t.length+1
 |[],_=>by simp[updP]
 |(k,w)::r,h=>by
  rw[Zan,ZbQ] at h;simp only[updP];by_cases c:p=k
  .subst c;rw[Zak rfl];refine⟨by rw[Zan,ZbQ];exact h,fun q hq=> .inr hq,by simp⟩
  .rw[Zag c];obtain⟨h1,h2,h3⟩:=Qacl p v r h.2;refine⟨?_,?_,by simp only[ZaG];omega⟩
   .rw[Zan,ZbQ];refine⟨fun hk=> ?_,h1⟩;rcases h2 _ hk with hk|hk
    .exact c hk.symm
    .exact h.1 hk
   .intro q hq;rw[Zan] at hq⊢;rcases Zaw.1 hq with rfl|hq
    .exact .inr (Zau ..)
    .rcases h2 _ hq with hq|hq
     .exact .inl hq
     .exact .inr (Zar _ hq)
theorem tlUp_keys(l:List Qab):((tlUp l).map Prod.fst).Nodup/\(tlUp l).length<=l.length:=by
 have key: ∀(l:List Qab) (t:List (Qae×Int)),(t.map Prod.fst).Nodup->((l.foldl (fun t x=>updP t x.At x.Tile) t).map Prod.fst).Nodup/\(l.foldl (fun t x=>updP t x.At x.Tile) t).length<=t.length+l.length:=by
  intro l;induction l with
  |nil=>intro t h;exact⟨h,by simp⟩
  |cons x r ih=>
   intro t h;obtain⟨h1,_,h3⟩:=Qacl x.At x.Tile t h;obtain⟨h4,h5⟩:=ih _ h1;exact⟨h4,by simp only[ZcW,ZaG] at h5⊢;omega⟩
 have:=key l [] (by simp)
 exact⟨this.1,by simpa[tlUp] using this.2⟩
theorem Qac7{s:Qar}{l:List Opt}{i:Nat}{o:Opt}(hx:l[i]? =some o)(t:List (Qae×Int)):Qacn s t (l.drop i) i=if (Qau o.Tile 0 (s.Set.Tiles.length - 1) && Qpg s (Qbw t) o.At o.Tile)=false then (⟨[]⟩,(i:Int),5) else if 500<=t.length then (⟨[]⟩,0,4) else Qacn s (updP t o.At o.Tile) (l.drop (i+1)) (i+1):=by
 rw[Qd3 hx,Qacn]
def PlayI_.ar:List PK->Option (Qar×(List Opt)):=a2 (kR Qar.d) (kS Opt.d)
def PlayI_.ae(a:Qar×(List Opt)):List PK:=[.val (.agg (Qar.c a.1)),.val (.sl false 3 (a.2.map Opt.c))]
def PlayI_.fv(a:Qar×(List Opt)):Asm×Int×Int:=(seqI) (a.1) (a.2)
def PlayI_.row:Row:=vrow PlayI_.ar (fun a=>Qf6 a.1.Set) (fun a=>(fun b=>D.tup [(fun b=>D.agg (Asm.c b)) (b.1),(D.int .i64) (b.2.1),(D.int .i64) (b.2.2)]) (PlayI_.fv a))
def PlayI_.q:=vq PlayI_.row rfl
def Ybd:=J @PlayI_.ae.eq_1<|J @PlayI_.fv.eq_1<|J @validI_.q<|J @validI_.ar.eq_1<|J @validI_.fv.eq_1<|J @isTile.q<|J @isTile.ar.eq_1<|J @isTile.fv.eq_1<|J @fitsC.q<|J @fitsC.ar.eq_1 @fitsC.fv.eq_1
theorem PlayI_.ok:Qas Tryz.prog 69 PlayI_.row:=by
 refine Qaj Qaq (tC validI_.ok (tC newC.ok (tC isTile.ok (tC fitsC.ok (tC putC.ok (tC asmC.ok tN)))))) Tryz.func69 rfl (by kernel_rfl) (by kernel_rfl) (ar:=PlayI_.ar) (ae:=PlayI_.ae) (Qaca (Qab8 Qar.d_le) (Qacb 3 Opt.d_le (fun _=>rfl))) (n:=2) (fun _=>rfl) (by decide) (rc:=(Qac1 (vAgg Asm.d) (vInt) (vInt))) (re:=(fun b=>D.tup [(fun b=>D.agg (Asm.c b)) (b.1),(D.int .i64) (b.2.1),(D.int .i64) (b.2.2)])) (Qact (Qb1 Asm.d_le) (Qa3) (Qa3)) (f:=PlayI_.fv) ?_;intro a hpre;simp only[Tryz.f69,Option.getD];simp(maxSteps:=9^9)(disch:=omega)only[ZZ,simprocAttr,rch,Ybd];obtain⟨s,l⟩:=a;simp only at hpre⊢;refine⟨hpre,?_⟩;by_cases c1:Qk1 s=false
 .rw[Zak c1];simp only[seqI];rw[Zak c1]
 rw[Zag c1];intro _;by_cases c2:500<l.length
 .rw[Zak (by omega)];simp only[seqI];rw[Zag c1,Zak c2]
 rw[Zag (by omega)];have eR:seqI s l=Qacn s (tlUp s.Seed.Tiles) l 0:=by simp only[seqI];rw[Zag c1,Zag c2]
 rw[Zbc,Qacv] at c1;obtain⟨⟨q1,q2,q3,_⟩,q5,q6⟩:=Qacj c1;have hbp:=Qof (s:=s.Set) (a:=s.Seed) (by rw[q5,q6];rfl);have hnp:newC.pre (s,s.Seed):=⟨q1,by simp only;omega,fun y hy=>⟨q2.2 y hy,hbp.1.2.2.2 y hy⟩⟩;have hcp:=cryOf_pre hnp;have hk0:=tlUp_keys s.Seed.Tiles;refine orow.os (s,s.Seed) [] hnp (fun j=>by simp[domB,hget]) rfl rfl ?_ ?_
 .simp(maxSteps:=9^9)(disch:=omega)only[ZZ,simprocAttr,rch,Ybd,newC.ca,Qer,Qar.c,Asm.c]
 simp(maxSteps:=9^9)(disch:=omega)only[ZZ,simprocAttr,rch,Ybd,newC.H1,sub];intro _;refine Qay.old ⟨{k:Nat×List (Qae×Int)×List (Qae×List Int)//k.1<=l.length/\inF s.Set (Qbw k.2.1)/\(k.2.1.map Prod.fst).Nodup/\k.2.1.length<=1000/\seqI s l=Qacn s k.2.1 (l.drop k.1) k.1},fun k=>⟨[(26,.im (.int .i64 k.1.1)),(25,.im (.int .i64 l.length)),(24,.im (.sl false 3 (l.map Opt.c))),(7,.ptr 6 0),(6,.im (.int .i64 0)),(5,.im (.int .i64 0)),(4,.ptr 1 0),(2,.ptr 0 0)],[(6,(true,.cells 175 [.im (.sl false 2 (s.Set.Glues.map Glue.c)),.im (.sl false 2 (s.Set.Tiles.map Tile.c)),.im (.sl false 3 (s.Seed.Tiles.map Qab.c)),.im (.int .i64 s.Temperature),.mp 4,.mp 5])),
  (4,(true,.map ⟨true,[.int .i64,.int .i64]⟩ (k.1.2.1.map Qbe))),(5,(true,.map ⟨true,[.int .i64,.int .i64]⟩ (k.1.2.2.map Qbc))),(1,(true,.cells 45 [.im (.sl true 0 [])])),(0,(true,.cells 47 ((Qar.c s).map .im)))],7⟩,fun k=>l.length - k.1.1,fun k=>⟨by simp[Qad.good,belT,belH,Qam,AV.bel,belL,Qar.c],by simp⟩,⟨⟨(0,(Qui s s.Seed).Tl,(Qui s s.Seed).Op),by simp only;exact⟨ZaZ _,hcp.2.1,hk0.1,Zbe hk0.2 (by omega),eR⟩⟩,by simp(maxSteps:=9^9)(disch:=omega)only[ZZ,simprocAttr,rch,Ybd,sub]⟩,fun k=> ?_⟩
 obtain⟨⟨k,tl,op⟩,hk1,hk2,hk3,hk4,hk5⟩:=k;simp only at hk1 hk2 hk3 hk4 hk5;simp(maxSteps:=9^9)(disch:=omega)only[ZZ,simprocAttr,rch,Ybd,sub,Qal];refine⟨fun hk=>⟨hk,fun x hx=> ?_⟩,fun hk=> ?_⟩
 .rw[Qac7 hx] at hk5;by_cases d1:Qau x.Tile 0 ((s.Set.Tiles.length:Int) - 1)=true
  case neg=>
   refine⟨fun h=>(d1 h).elim,fun _=> ?_⟩;rw[ZbP] at d1;rw[hk5,d1,Zbm,Zak rfl]
  refine⟨fun _=> ?_,fun h=>(h d1).elim⟩;have hti:Qcs s.Set x.Tile:=by
   simp only[Qau,Zaf,Zap] at d1;exact⟨d1.1,by omega⟩
  rw[d1,Zbk] at hk5;refine⟨⟨q1,hk2,hti⟩,fun d2=> ?_,fun d2=>⟨fun d3=> ?_,fun d3=> ?_⟩⟩
  .rw[hk5,Zak d2]
  .rw[hk5,Zag d2,Zak (by omega)]
  .rw[Zag d2,Zag (by omega)] at hk5;have hsm:Qdy x.At:=by
    rw[Zbc] at d2;simp only[Qpg,Zaf] at d2;exact Qkc d2.1
   have hcr:Qacu ⟨s,tl,op⟩:=⟨q1,hk2,by simp only;omega⟩;obtain⟨u1,_,u3⟩:=Qacl x.At x.Tile tl hk3;refine orow.os (⟨s,tl,op⟩,x.At,x.Tile) [6,4,5] ⟨hcr,hsm,hti⟩ (fun j=>Qack _ j) rfl rfl ?_ ?_
   .simp(maxSteps:=9^9)(disch:=omega)only[ZZ,simprocAttr,rch,Ybd,putC.ca,cryH,Qbk,ZaV,ZaC,ZaQ]
   .simp(maxSteps:=9^9)(disch:=omega)only[ZZ,simprocAttr,rch,Ybd,putC.H1,kl12,sub,putT,ZaC,ZaQ];exact⟨⟨(k+1,updP tl x.At x.Tile,Qrz s (Qbw (updP tl x.At x.Tile)) (delP op x.At) x.At 4),by simp only;exact⟨by omega,putT_in hk2 hti,u1,by omega,hk5⟩⟩,by simp only;omega,by rw[Qak (by omega) (by omega)];simp only;omega,rfl,rfl⟩
 .rw[Zat (by omega),Qacn] at hk5;refine orow.os ⟨s,tl,op⟩ [6,4,5] ⟨hk3,by simp only;omega⟩ (fun j=>Qack _ j) rfl rfl ?_ ?_
  .simp(maxSteps:=9^9)(disch:=omega)only[ZZ,simprocAttr,rch,Ybd,asmC.ca,cryH,Qbk,ZaV,ZaC,ZaQ]
  .simp(maxSteps:=9^9)(disch:=omega)only[ZZ,simprocAttr,rch,Ybd,asmC.H1,klA,sub,asmT,ZaC,ZaQ];rw[hk5]
end Go.Ae
namespace Go.Ae
end Go.Ae
namespace Go.Ae
open Go.Proofs
theorem seq_law(s:Qar)(l:List Opt):seqI s l=seqS s l:=by
 simp only[seqI,seqS,Qacv];by_cases c1:Qjc s=false
 .rw[Zak c1,Zak c1]
 rw[Zag c1,Zag c1];rw[Zbc] at c1;obtain⟨⟨q1,q2,q3,_⟩,_⟩:=Qacj c1;rw[Qac5 q3 l (tlUp s.Seed.Tiles) s.Seed s.Seed.Tiles.length 0 (RM.of q2.1 (fun x hx=>(q2.2 x hx).1)) q2]
def Qac9:Asm->List Opt->Asm
 |b,[]=>b
 |b,o::r=>Qac9 (putA b o.At o.Tile) r
theorem Qadp: ∀(l:List Opt) (b:Asm) (o:Opt),Qac9 b (l++[o])=putA (Qac9 b l) o.At o.Tile
 |[],_,_=>rfl
 |x::r,b,o=>by simp only[Zas,Qac9,Qadp r]
def Qaec(s:Qar)(b:Asm)(l:List Opt):Prop:= ∀k o,l[k]? =some o->canS s (Qac9 b (l.take k)) o=true/\(Qac9 b (l.take k)).Tiles.length<500
theorem Qaez{s:Qar}: ∀(l:List Opt) (b:Asm) (i:Nat),(Qacg s b l i).2.2=0->Qacg s b l i=(Qac9 b l,0,0)/\Qaec s b l
 |[],b,i,_=>⟨rfl,fun k o h=>by simp at h⟩
 |x::r,b,i,h=>by
  simp only[Qacg] at h⊢;by_cases c1:canS s b x=false
  .rw[Zak c1] at h;simp at h
  rw[Zag c1] at h⊢;by_cases c2:500<=b.Tiles.length
  .rw[Zak c2] at h;simp at h
  rw[Zag c2] at h⊢;obtain⟨h1,h2⟩:=Qaez r _ _ h;refine⟨h1,fun k o hk=> ?_⟩;cases k with
  |zero=>
   simp only[ZaP,Zab] at hk;subst hk;rw[Zbc] at c1;exact⟨by simpa[Qac9] using c1,by simp only[Zbr,Qac9];omega⟩
  |succ k=>
   rw[ZaX] at hk;simp only[ZbJ,Qac9];exact h2 k o hk
theorem Qafb{s:Qar}(hs:s.Set.Tiles.length<=160){b:Asm}(hb:Qn7 s.Set b){l:List Opt}(h:Qaec s b l): ∀k,k<=l.length->Qn7 s.Set (Qac9 b (l.take k))
 |0,_=>by simpa[Qac9] using hb
 |k+1,hk=>by
  obtain⟨o,ho⟩: ∃o,l[k]? =some o:=⟨_,Zad (by omega)⟩;rw[Qwe ho,Qadp];exact can_in hs (Qafb hs hb h k (by omega)) (h k o ho).1
theorem Qadk{s:Qar}{b:Asm}{o:Opt}(h:canS s b o=true):Qbi o.At=true/\Qdy o.At/\0<=o.Tile/\o.Tile<s.Set.Tiles.length/\Qcs s.Set o.Tile/\(∀x∈b.Tiles,x.At≠o.At):=by
 simp only[canS,Zaf,Zap] at h;obtain⟨d1,d2,d3,_⟩:=h;simp only[Qau,Zaf,Zap] at d2;exact⟨d1,Qkc d1,d2.1,by omega,⟨d2.1,by omega⟩,Qma d3⟩
def cntO(op:List (Qae×List Int)):Nat:=(op.map fun q=>q.2.length).sum
theorem lkP_of{β:Type}: ∀{l:List (Qae×β)} {q:Qae×β},(l.map Prod.fst).Nodup->q∈l->lkP l q.1=some q.2
 |x::r,q,hn,hq=>by
  obtain⟨p,v⟩:=x;rw[Zan,ZbQ] at hn;simp only[lkP];rcases Zaw.1 hq with rfl|hq
  .rw[Zak rfl]
  .have:q.1≠p:=fun e=>hn.1 (by rw[<-e];exact ZaJ.2 ⟨q,hq,rfl⟩)
   rw[Zag this];exact lkP_of hn.2 hq
theorem Qaky{g:Qae->List Int}: ∀(l:List Qae),(Qajs g l).length=(l.map fun p=>(g p).length).sum
 |[]=>rfl
 |p::r=>by
  have:=Qaky (g:=g) r
  simp only[Qajs] at this;simp only[Qajs,Zbi,ZaF,Zbv,Zan,ZcA,this]
theorem optsC_len{op:List (Qae×List Int)}(h:(op.map Prod.fst).Nodup):(Qalo op).length=cntO op:=by
 rw[Qalo,Qaky,((Qall h).map _).sum_nat,ZdJ];congr 1;refine Zcq fun q hq=> ?_
 simp only[Function.comp,lkP_of h hq,Zae]
theorem cnt_ge: ∀{l:List (Qae×List Int)},(∀q∈l,q.2≠[])->l.length<=cntO l
 |[],_=>ZaZ _
 |x::r,h=>by
  have h1:0<x.2.length:=ZcK.2 (h x (Zau ..));have h2:=cnt_ge fun q hq=>h q (Zar x hq)
  simp only[cntO,Zan,ZcA,ZaG] at h2⊢;omega
theorem Qal6(s:Qar){b:Asm}(h1:b.Tiles.length<=500)(h2:s.Set.Tiles.length<=160):(Qaj8 s b).length<=320000:=by
 have h7:=Qakc (g:=fun p=>atU s (atA b) p s.Set.Tiles.length) (m:=160) (fun p=>Zbe (Qakm s (atA b) p _) (by omega)) (Qajq b b.Tiles.length);have h8:=Qaj2 b b.Tiles.length;have h9:(Qajq b b.Tiles.length).length*160<=2000*160:=Zbf _ (by omega);exact Zbe h7 h9
theorem op_lim{s:Qar}{b:Asm}{op:List (Qae×List Int)}(hT:1<=s.Temperature)(h1:b.Tiles.length<=500)(h2:s.Set.Tiles.length<=160)(hop:OpOk s (atA b) op):
 Qalo op=Qaj8 s b/\((op.map Prod.fst).Nodup/\op.length<=1000000/\ ∀q∈op,q.2.length<=1000)/\(Qalo op).length<=320000:=by
 have hlaw:=opts_law hT hop;have hlen:=optsC_len hop.1;rw[hlaw] at hlen;have hv2: ∀q∈op,q.2=Qajt s (atA b) q.1/\q.2≠[]:=fun q hq=>by
  have h5:=lkP_of hop.1 hq;rw[hop.2,nonE] at h5;split at h5
  .cases h5
  .rename_i c;have h6:=Zaa h5;exact⟨h6.symm,by rw[<-h6];exact c⟩
 have h6:op.length<=cntO op:=cnt_ge fun q hq=>(hv2 q hq).2
 have h7:=Qal6 s h1 h2;refine⟨hlaw,⟨hop.1,by omega,fun q hq=> ?_⟩,by rw[hlaw];exact h7⟩;rw[(hv2 q hq).1];exact Zbe (Qus s _ _ _) (by omega)
theorem Qal8{s:Qar}{f:Qae->Int}{q:Qae}{x:Int}: ∀{n:Nat},x∈Qm0 s f q n↔ ∃k:Nat,k<n/\x=k/\Qpg s f q k=true
 |0=>by simp[Qm0]
 |n+1=>by
  simp only[Qm0,Zao,Qal8 (n:=n)];constructor
  .rintro (⟨k,h1,h2⟩|h)
   .exact⟨k,by omega,h2⟩
   .split at h
    .rename_i c;exact⟨n,by omega,by simpa using h,c⟩
    .cases h
  .rintro⟨k,h1,h2,h3⟩;by_cases hk:k=n
   .subst hk;right;rw[Zak h3,h2];exact Zaq.2 rfl
   .exact .inl ⟨k,by omega,h2,h3⟩
theorem can_opts{s:Qar}{b:Asm}(hT:1<=s.Temperature)(hb:Qn7 s.Set b){o:Opt}(h:canS s b o=true):o∈Qaj8 s b:=by
 obtain⟨p1,p2,p3,p4,p5,p6⟩:=Qadk h;simp only[canS,Zaf,Zap] at h;obtain⟨d1,d2,d3,d4⟩:=h;have h0:atA b o.At<0:=(Qala hb.2 o.At).1 d3;have hf:Qpg s (atA b) o.At o.Tile=true:=by
  simp only[Qpg,Zaf,Zap];exact⟨d1,h0,by rw[Qae8];exact d4⟩
 have hm:o.Tile∈Qajt s (atA b) o.At:=by
  rw[Qajt,Qal8];exact⟨o.Tile.toNat,by omega,by omega,by rw[Int.toNat_of_nonneg p3];exact hf⟩
 have hne:Qajt s (atA b) o.At≠[]:=fun e=>by rw[e] at hm;cases hm
 have hn:o.At∈Qajq b b.Tiles.length:=by
  rw[Qajz _ (Zam _),ZbB];refine⟨⟨d1,h0⟩,?_⟩;apply ZbT;intro c;refine hne (Qakp hT (fun d hd=> ?_) _);apply ZbT;intro c2;obtain⟨x,hx,e⟩:=atA_mem (a:=b) (q:=Qf7 o.At d) (by omega);exact c ⟨x,hx,Qake ⟨d,hd,e.symm⟩⟩
 rw[Qaj8,Qajs,ZdP];refine⟨o.At,hn,ZaJ.2 ⟨o.Tile,?_,rfl⟩⟩;rw[<-Qalg d1 h0];exact hm
theorem Qamg{s:Qar}{b:Asm}{o:Opt}(h:o∈Qaj8 s b):0<=o.Tile/\o.Tile<s.Set.Tiles.length:=by
 rw[Qaj8,Qajs,ZdP] at h;obtain⟨p,_,h⟩:=h;obtain⟨t,ht,rfl⟩:=ZaJ.1 h;have key: ∀n,t∈atU s (atA b) p n->0<=t/\t<n:=by
  intro n;induction n with
  |zero=>intro h;simp[atU] at h
  |succ n ih=>
   intro h;simp only[atU,Zao] at h;rcases h with h|h
   .have:=ih h;omega
   .split at h
    .simp only[Zaq] at h;omega
    .cases h
 exact key _ ht
theorem totK_ge(w:List Int)(l:List Opt)(h:w.any badW=false): ∀(n k:Nat) (o:Opt),k<n->l[k]? =some o->wAt w o.Tile<=totK w l n
 |n+1,k,o,hk,ho=>by
  have hb:=Qamd w l h n;have ha:=wAt_b h ((l[n]?.map Opt.Tile).getD 0);simp only[totK];by_cases c:k=n
  .subst c;simp only[ho,ZaR,Zae];omega
  .have:=totK_ge w l h n k o (by omega) ho
   omega
theorem wAt_pos{w:List Int}(h:w.any badW=false){t:Int}(ht:wtIn w t):1<=wAt w t/\wAt w t<=100:=by
 obtain⟨x,hx⟩: ∃x,w[t.toNat]? =some x:=⟨_,Zad (by have:=ht.1;have:=ht.2;omega)⟩;have h1:badW x=false:=by
  cases hb:badW x with
  |false=>rfl
  |true=>rw[ZdN.2 ⟨_,Zac hx,hb⟩] at h;cases h
 simp only[badW,Qau,Zei,Zaf,Zap] at h1;simp only[wAt,hx,Zae];omega
theorem tot_ok{s:Qar}{w:List Int}{b:Asm}(hT:1<=s.Temperature)(hb:Qn7 s.Set b)(h1:b.Tiles.length<=500)(h2:s.Set.Tiles.length<=160)(hw:w.any badW=false)(hl:w.length=s.Set.Tiles.length){o:Opt}(h:canS s b o=true):
 wtIn w o.Tile/\1<=wAt w o.Tile/\wAt w o.Tile<=100/\wAt w o.Tile<=totW w (Qaj8 s b)/\totW w (Qaj8 s b)<=32000000:=by
 have hm:=can_opts hT hb h;have hi:wtIn w o.Tile:=by
  have:=Qamg hm
  exact⟨this.1,by omega⟩
 obtain⟨k,hk⟩:=ZbO.1 hm;have h3:=totK_ge w (Qaj8 s b) hw _ k o (Zaj.1 hk).1 hk;have h4:=Qamd w (Qaj8 s b) hw (Qaj8 s b).length;have h5:=Qal6 s h1 h2;have h6:=wAt_pos hw hi;refine⟨hi,h6.1,h6.2,h3,?_⟩;simp only[totW];omega
def Qal0(op:Frac->Frac->Frac×Int):Prop:= ∀a b,okFr a->okFr b->((op a b).2=0/\okFr (op a b).1)\/op a b=(⟨0,0⟩,4)
theorem Qalr:Qal0 mulF:=by
 intro a b h1 h2;obtain⟨a1,a2,a3,a4⟩:=Qalz h1;obtain⟨b1,b2,b3,b4⟩:=Qalz h2;have hd:0<a.Den*b.Den:=Int.mul_pos (by omega) (by omega);by_cases c:(mulF a b).2=0
 .exact .inl ⟨c,Qamf (Zep a1 b1) (by omega) c⟩
 .exact .inr (mkF_bad c)
theorem Qamx:Qal0 addF:=by
 intro a b h1 h2;obtain⟨a1,a2,a3,a4⟩:=Qalz h1;obtain⟨b1,b2,b3,b4⟩:=Qalz h2;have hd:0<a.Den*b.Den:=Int.mul_pos (by omega) (by omega);have hn:0<=a.Num*b.Den+b.Num*a.Den:=Int.add_nonneg (Zep a1 (by omega)) (Zep b1 (by omega));by_cases c:(addF a b).2=0
 .exact .inl ⟨c,Qamf hn (by omega) c⟩
 .exact .inr (mkF_bad c)
def stIn(q:Frac×Int):Prop:=(q.2=0/\okFr q.1)\/q=(⟨0,0⟩,4)
theorem Qam1{q:Frac×Int}(h:stIn q):0<=q.1.Num:=by
 rcases h with h|h
 .exact h.2.1
 .rw[h];exact ZcS _
theorem keepC_0{c d:Int}(h:c=0):Qal4 c d=d:=Zak h
theorem orZ_1{a b:Frac}{q:Frac×Int}(h:okFb a=true/\okFb b=true):orZ a b q=q:=Zak h
theorem orZ_2{a b:Frac}{q:Frac×Int}(h: ¬(okFb a=true/\okFb b=true)):orZ a b q=(⟨0,0⟩,1):=Zag h
theorem okFb_0:okFb ⟨0,0⟩=false:=by decide
theorem st_ok{op:Frac->Frac->Frac×Int}(hop:Qal0 op){r t:Int}(h1:0<=r)(h2:r<=1000000000)(h3:1<=t)(h4:t<=1000000000){q:Frac×Int}(hq:stIn q):
 stIn (stF op r t q)/\(q.2=0->stF op r t q=op q.1 (mkF r t).1)/\(q.2≠0->stF op r t q=(⟨0,0⟩,4)):=by
 have hc:=Qalp h1 h2 h3 h4;have hp:=Qamf h1 h3 hc;rcases hq with ⟨h5,h6⟩|h5
 .have e:stF op r t q=op q.1 (mkF r t).1:=by
   simp only[stF];rw[keepC_0 (by rw[keepC_0 h5];exact hc),orZ_1 ⟨h6.2,hp.2⟩]
  exact⟨by rw[e];exact hop _ _ h6 hp,fun _=>e,fun h=>(h h5).elim⟩
 .have e:stF op r t q=(⟨0,0⟩,4):=by
   subst h5;simp only[stF];rw[orZ_2 (fun h=>by rw[okFb_0] at h;cases h.1),hc];rfl
  exact⟨by rw[e];exact .inr rfl,fun h=>by rw[h5] at h;simp at h,fun _=>e⟩
def wSeq(s:Qar)(w:List Int)(op:Frac->Frac->Frac×Int)(g:Int->Int):Asm->Frac×Int->List Opt->Frac×Int
 |_,q,[]=>q
 |b,q,o::l=>wSeq s w op g (putA b o.At o.Tile) (stF op (g (wAt w o.Tile)) (totW w (Qaj8 s b)) q) l
def Qalx(s:Qar)(w:List Int)(op:Frac->Frac->Frac×Int)(g:Int->Int):Asm->Frac->List Opt->Frac×Int
 |_,f,[]=>(f,0)
 |b,f,o::l=>if (op f (mkF (g (wAt w o.Tile)) (totW w (Qaj8 s b))).1).2≠0 then (⟨0,0⟩,(op f (mkF (g (wAt w o.Tile)) (totW w (Qaj8 s b))).1).2) else Qalx s w op g (putA b o.At o.Tile) (op f (mkF (g (wAt w o.Tile)) (totW w (Qaj8 s b))).1).1 l
theorem Qamb(s:Qar)(w:List Int)(op:Frac->Frac->Frac×Int)(g:Int->Int): ∀(l:List Opt) (b:Asm) (q:Frac×Int) (o:Opt),wSeq s w op g b q (l++[o])=stF op (g (wAt w o.Tile)) (totW w (Qaj8 s (Qac9 b l))) (wSeq s w op g b q l)
 |[],_,_,_=>rfl
 |x::r,b,q,o=>by simp only[Zas,wSeq,Qamb s w op g r,Qac9]
def resF(q:Frac×Int):Frac×Int:=if q.2≠0 then (⟨0,0⟩,q.2) else (q.1,0)
def wPre(s:Qar)(w:List Int)(g:Int->Int):Asm->List Opt->Prop
 |_,[]=>True
 |b,o::l=>(0<=g (wAt w o.Tile)/\g (wAt w o.Tile)<=1000000000/\1<=totW w (Qaj8 s b)/\totW w (Qaj8 s b)<=1000000000)/\wPre s w g (putA b o.At o.Tile) l
theorem Qamt{s:Qar}{w:List Int}{op:Frac->Frac->Frac×Int}(hop:Qal0 op){g:Int->Int}: ∀(l:List Opt) (b:Asm),wPre s w g b l->wSeq s w op g b (⟨0,0⟩,4) l=(⟨0,0⟩,4)
 |[],_,_=>rfl
 |o::l,b,h=>by
  obtain⟨⟨h1,h2,h3,h4⟩,h5⟩:=h;simp only[wSeq];rw[(st_ok hop h1 h2 h3 h4 (q:=(⟨0,0⟩,4)) (.inr rfl)).2.2 (by simp)];exact Qamt hop l _ h5
theorem w_law{s:Qar}{w:List Int}{op:Frac->Frac->Frac×Int}(hop:Qal0 op){g:Int->Int}: ∀(l:List Opt) (b:Asm) (f:Frac),okFr f->wPre s w g b l->resF (wSeq s w op g b (f,0) l)=Qalx s w op g b f l
 |[],_,f,_,_=>by simp[wSeq,Qalx,resF]
 |o::l,b,f,hf,h=>by
  obtain⟨⟨h1,h2,h3,h4⟩,h5⟩:=h;have h6:=st_ok hop h1 h2 h3 h4 (q:=(f,0)) (.inl ⟨rfl,hf⟩);have h7:=h6.2.1 rfl;have hp:=Qamf h1 h3 (Qalp h1 h2 h3 h4);simp only[wSeq,Qalx];rw[h7];simp only;rcases hop f _ hf hp with ⟨c1,c2⟩|c
  .rw[Zag (fun k=>k c1)];have e:op f (mkF (g (wAt w o.Tile)) (totW w (Qaj8 s b))).1=((op f (mkF (g (wAt w o.Tile)) (totW w (Qaj8 s b))).1).1,0):=by rw[<-c1]
   rw[e];exact w_law hop l _ _ c2 h5
  .rw[c,Zak (by simp),Qamt hop l _ h5];simp[resF]
theorem Qamk{s:Qar}{w:List Int}{g:Int->Int}(hg: ∀x,1<=x->x<=100->0<=g x/\g x<=1000000000)(hT:1<=s.Temperature)(h2:s.Set.Tiles.length<=160)(hw:w.any badW=false)(hl:w.length=s.Set.Tiles.length):
 ∀(l:List Opt) (b:Asm),Qn7 s.Set b->Qaec s b l->wPre s w g b l
 |[],_,_,_=>trivial
 |o::l,b,hb,h=>by
  have h0:=h 0 o rfl;simp only[Zbr,Qac9] at h0;obtain⟨t1,t2,t3,t4,t5⟩:=tot_ok hT hb (by omega) h2 hw hl h0.1;have hg1:=hg _ t2 t3;refine⟨⟨hg1.1,hg1.2,by omega,by omega⟩,Qamk hg hT h2 hw hl l _ (can_in h2 hb h0.1) fun k o' hk=> ?_⟩;exact h (k+1) o' hk
def seqP(s:Qar)(l:List Opt):Prop:=setP s.Set/\Qn7 s.Set s.Seed/\s.Set.Tiles.length<=160/\s.Seed.Tiles.length<=1000000/\Qaec s s.Seed l/\l.length<=500
def Qalq(s:Qar)(w:List Int):Asm->List Opt->List Int
 |_,[]=>[]
 |b,o::l=>totW w (Qaj8 s b)::Qalq s w (putA b o.At o.Tile) l
theorem Qalu(s:Qar)(w:List Int): ∀(l:List Opt) (b:Asm),(Qalq s w b l).length=l.length
 |[],_=>rfl
 |_::l,b=>by simp only[Qalq,ZaG,Qalu s w l]
theorem Qamh(s:Qar)(w:List Int): ∀(l:List Opt) (b:Asm) (k:Nat),k<l.length->(Qalq s w b l)[k]? =some (totW w (Qaj8 s (Qac9 b (l.take k))))
 |[],_,k,h=>by simp at h
 |o::l,b,0,_=>rfl
 |o::l,b,k+1,h=>by
  simp only[Qalq,ZaX,ZbJ,Qac9];exact Qamh s w l _ k (by simpa using h)
theorem Qal1(s:Qar)(w:List Int): ∀(l:List Opt) (b:Asm) (o:Opt),Qalq s w b (l++[o])=Qalq s w b l++[totW w (Qaj8 s (Qac9 b l))]
 |[],_,_=>rfl
 |x::l,b,o=>by simp only[Zas,Qalq,Qac9,Qal1 s w l]
def wgtP(s:Qar)(w:List Int)(l:List Opt):Prop:=seqP s l/\1<=s.Temperature/\w.any badW=false/\w.length=s.Set.Tiles.length
theorem Qal5{s:Qar}{w:List Int}{l:List Opt}(h:wgtP s w l){k:Nat}{o:Opt}(ho:l[k]? =some o):
 Qn7 s.Set (Qac9 s.Seed (l.take k))/\(Qac9 s.Seed (l.take k)).Tiles.length<500/\(∀y∈Qaj8 s (Qac9 s.Seed (l.take k)),wtIn w y.Tile)/\(Qaj8 s (Qac9 s.Seed (l.take k))).length<=1000000/\wtIn w o.Tile/\1<=wAt w o.Tile/\wAt w o.Tile<=100/\1<=totW w (Qaj8 s (Qac9 s.Seed (l.take k)))/\totW w (Qaj8 s (Qac9 s.Seed (l.take k)))<=1000000000:=by
 obtain⟨⟨q1,q2,q3,q4,q5,q6⟩,hT,hw,hl⟩:=h;have hk:k<l.length:=(Zaj.1 ho).1;have hb:=Qafb q3 q2 q5 k (by omega);obtain⟨h1,h2⟩:=q5 k o ho;obtain⟨t1,t2,t3,t4,t5⟩:=tot_ok hT hb (by omega) q3 hw hl h1;refine⟨hb,by omega,fun y hy=> ?_,?_,t1,t2,t3,by omega,by omega⟩
 .have:=Qamg hy
  exact⟨this.1,by omega⟩
 .have:=Qal6 s (b:=Qac9 s.Seed (l.take k)) (by omega) q3
  omega
def totsS_.ar:List PK->Option (Qar×(List Int)×(List Opt)):=a3 (kP Qar.d 4) (kS intD) (kS Opt.d)
def totsS_.ae(a:Qar×(List Int)×(List Opt)):List PK:=[.ptr (Qar.c a.1),.val (.sl false 1 (a.2.1.map intC)),.val (.sl false 3 (a.2.2.map Opt.c))]
def totsS_.fv(a:Qar×(List Int)×(List Opt)):List Int:=(fun s w l=>Qalq s w s.Seed l) (a.1) (a.2.1) (a.2.2)
def totsS_.row:Row:=vrow totsS_.ar (fun a=>wgtP a.1 a.2.1 a.2.2) (fun a=>(fun b=>D.sl false 1 (b.map intC)) (totsS_.fv a))
def totsS_.q:=vq totsS_.row rfl
def Ybe:=J @totsS_.ae.eq_1<|J @totsS_.fv.eq_1<|J @l03Own.q<|J @l03Own.ar.eq_1<|J @l03Own.fv.eq_1<|J @opsS_.q<|J @opsS_.ar.eq_1<|J @opsS_.fv.eq_1<|J @totS_.q<|J @totS_.ar.eq_1<|J @totS_.fv.eq_1<|J @l03Put.q<|J @l03Put.ar.eq_1 @l03Put.fv.eq_1
theorem totsS_.ok:Qas Tryz.prog 28 totsS_.row:=by
 refine Qaj Qaq (tC l03Own.ok (tC opsS_.ok (tC totS_.ok (tC l03Put.ok tN)))) Tryz.func28 rfl (by kernel_rfl) (by kernel_rfl) (ar:=totsS_.ar) (ae:=totsS_.ae) (Qace (Qacc 4 Qar.d_le) (Qacb 1 Qb3 (fun _=>rfl)) (Qacb 3 Opt.d_le (fun _=>rfl))) (n:=3) (fun _=>rfl) (by decide) (rc:=(vSl intD)) (re:=(fun b=>D.sl false 1 (b.map intC))) (Qe8 Qb3 (fun _=>rfl)) (f:=totsS_.fv) ?_;intro a hpre;simp only[Tryz.f28,Option.getD];simp(maxSteps:=9^9)(disch:=omega)only[ZZ,simprocAttr,rch,Ybe];obtain⟨s,w,l⟩:=a;simp only at hpre⊢;have hpre':=hpre;obtain⟨⟨q1,q2,q3,q4,q5,q6⟩,hT,hw,hl⟩:=hpre';refine⟨q4,?_⟩;refine Qay.ren ⟨{k:Nat//k<=l.length},fun k=>⟨[(9,.im (.int .i64 k.1)),(8,.own 4),(7,.ptr 2 0),(0,.ptr 0 0),(1,.im (.sl false 1 (w.map intC))),(2,.im (.sl false 3 (l.map Opt.c)))],[(4,(true,.arr 2 1 ((Qalq s w s.Seed (l.take k.1)).map intC))),(2,(true,.cells 45 [.im (.sl false 3 ((Qac9 s.Seed (l.take k.1)).Tiles.map Qab.c))])),(0,(false,.view (Qar.c s)))],5⟩,fun k=>l.length - k.1,fun k=>⟨by simp[Qad.good,belT,belH,Qam,AV.bel,belL],by simp⟩,⟨⟨0,by simp⟩,[(4,some 3)],?_⟩,fun k=> ?_⟩
 .simp only[subP];simp(maxSteps:=9^9)(disch:=omega)only[ZZ,simprocAttr,rch,Ybe,Zai,Zah,Zbr,Qalq,Qac9,Zbb]
  try simp
 obtain⟨k,hk1⟩:=k;simp(maxSteps:=9^9)(disch:=omega)only[ZZ,simprocAttr,rch,Ybe,sub,Qal];intro _;refine⟨fun hk=> ?_,fun hk=> ?_⟩
 .obtain⟨x,hx⟩: ∃x,l[k]? =some x:=⟨_,Zad hk⟩;obtain⟨g1,g2,g3,g4,g5,g6,g7,g8,g9⟩:=Qal5 hpre hx;obtain⟨b,hb⟩: ∃b,b=Qac9 s.Seed (l.take k):=⟨_,rfl⟩;rw[<-hb] at g1 g2 g3 g4 g8 g9⊢;refine⟨⟨q1,g1,by omega,by omega⟩,⟨g3,hw,g4⟩,by simp[OneR,allD,D.one],by rw[Qalu,Zav];omega,hk,fun y hy=>⟨hk,fun z hz=>⟨by omega,⟨k+1,by omega⟩,[(4,some 6)],by simp only;omega,?_⟩⟩⟩;obtain rfl:x=y:=Zaa (hx.symm.trans hy);obtain rfl:x=z:=Zaa (hx.symm.trans hz);simp only[subP,Qwe hx,Qal1,Qadp,<-hb];simp(maxSteps:=9^9)(disch:=omega)only[ZZ,simprocAttr,rch,Ybe,Zai,Zah];refine⟨by rw[Qak (by omega) (by omega)];omega,?_⟩;simp[intC]
 .rw[ZaE (by omega)]
  try trivial
theorem rm_free{s:Qar}{t:List (Qae×Int)}{a:Asm}{k:Nat}{o:Opt}(h:RM t a k)(ha:Qn7 s.Set a)(c1:canS s a o=true):lkP t o.At=none/\0<=o.Tile:=by
 simp only[canS,Zaf,Zap] at c1;obtain⟨d1,d2,d3,_⟩:=c1;have hv:0<=o.Tile:=by
  simp only[Qau,Zaf,Zap] at d2;exact d2.1
 refine⟨?_,hv⟩;have h1:Qbw t o.At=atA a o.At:=congrFun h.at o.At;have h2:=(Qala ha.2 o.At).1 d3;cases hq:lkP t o.At with
 |none=>rfl
 |some v=>
  exfalso;have h3:=h.pos _ (Qac0 hq);simp only[Qbw,hq,Zae] at h1;simp only at h3;omega
theorem seqS_ok{s:Qar}{l:List Opt}(h:(seqS s l).2.2=0):(seqS s l).1=Qac9 s.Seed l/\seqP s l/\Qjc s=true:=by
 obtain⟨h1,h2⟩:=seq_ok h;obtain⟨⟨q1,q2,q3,q4⟩,_⟩:=Qacj h1;have e:seqS s l=Qacg s s.Seed l 0:=by
  simp only[seqS];rw[Zag (by rw[h1];decide),Zag (by omega)]
 rw[e] at h⊢;obtain⟨p1,p2⟩:=Qaez l s.Seed 0 h;exact⟨by rw[p1],⟨q1,q2,q3,q4,p2,h2⟩,h1⟩
theorem Qal2: ∀(h:Qan) (j:Nat),domB h j=true↔j∈h.map Prod.fst
 |[],j=>by simp[domB,hget]
 |(m,e)::r,j=>by
  have ih:=Qal2 r j;simp only[domB] at ih;simp only[domB,hget,Zan,Zaw];by_cases c:m=j
  .subst c;simp
  .rw[show (m==j)=false by simpa using c];simp only[ZaW,ih];exact⟨.inr,fun h=>h.elim (fun h=>(c h.symm).elim) id⟩
theorem Qamy{s:Qar}{b:Asm}{l:List Opt}(h:Qaec s b l)(k:Nat):Qaec s b (l.take k):=by
 intro i o ho;have hi:i<k:=by
  have:=(Zaj.1 ho).1
  simp at this;omega
 rw[List.getElem?_take_of_lt hi] at ho
 have:=h i o ho
 rwa [List.take_take,ZdY (by omega)]
theorem Qamz{s:Qar}{w:List Int}{op:Frac->Frac->Frac×Int}(hop:Qal0 op){g:Int->Int}: ∀(l:List Opt) (b:Asm) (q:Frac×Int),stIn q->wPre s w g b l->stIn (wSeq s w op g b q l)
 |[],_,_,h,_=>h
 |o::l,b,q,h,hp=>by
  obtain⟨⟨h1,h2,h3,h4⟩,h5⟩:=hp;exact Qamz hop l _ _ (st_ok hop h1 h2 h3 h4 h).1 h5
def alC.ca(a:Qar×List Opt×List Int×Frac×Int):List AV:=[.im (.agg (Qar.c a.1)),.im (.sl false 3 (a.2.1.map Opt.c)),.clo 71 [] [.ptr 0 0,.ptr 1 0,.ptr 2 0,.ptr 3 0]]
def alC.H1(q:Frac×Int):Qan:=[(2,(true,.cells 36 ((Frac.c q.1).map .im))),(4,(true,.cells 119 [.im (.int .i64 q.2)]))]
def kl24(j:Nat):Bool:=j==2||j==4
def alC.pre(a:Qar×List Opt×List Int×Frac×Int):Prop:=wgtP a.1 a.2.2.1 a.2.1/\stIn (a.2.2.2.1,a.2.2.2.2)/\a.1.Seed.Tiles.length<=500
def alO.H0(a:Qar×List Opt×List Int×Frac×Int):Qan:=[(0,(true,.cells 84 [.im (.fn 37 [] [])])),(1,(true,.cells 81 [.ptr 4 0])),(2,(true,.cells 36 ((Frac.c a.2.2.2.1).map .im))),(3,(true,.cells 31 [.im (.sl false 1 (a.2.2.1.map intC))])),(4,(true,.cells 119 [.im (.int .i64 a.2.2.2.2)]))]
def alO.q0(a:Qar×List Opt×List Int×Frac×Int):Frac×Int:=wSeq a.1 a.2.2.1 mulF (fun x=>x) a.1.Seed (a.2.2.2.1,a.2.2.2.2) a.2.1
def alO.row:Row:=orow alC.ca alO.H0 5 alC.pre kl24 (fun _=> .im (.tup [])) (fun a=>alC.H1 (alO.q0 a)) 0
theorem alO.ok:Qas Tryz.prog 70 alO.row:=by
 refine Qf1 Qaq (tC newC.ok (tC wclO.ok (tC putC.ok tN))) Tryz.func70 rfl (by kernel_rfl) (by kernel_rfl) (exB:=fun _=>false) (R:=fun _ r=>r= .im (.tup [])) (n:=3) (fun _=>rfl) (by decide)
  (fun a=>by simp[alC.ca,alO.H0,alC.H1,kl24,Qar.c,Frac.c,belL,AV.bel]) (fun a=>by simp[alC.ca,alO.H0,alC.H1,kl24,Qar.c,Frac.c,belH,belL,AV.bel]) (fun a=>by simp[alC.ca,alO.H0,alC.H1,kl24,Qar.c,Frac.c,Qam])
  (fun a=>by simp[Qc2,alC.ca,alO.H0,alC.H1,kl24,Qar.c,Frac.c,AObj.nms,nmsL,AV.nms,domB,hget]) (fun a p hp=> ?_) (fun a r h=>by subst h;exact LeV.refl _) ?_
 rotate_left
 intro a hpre;simp only[Tryz.f70,Option.getD,alC.ca,alO.H0,alC.H1,kl24,Qar.c,Frac.c];simp(maxSteps:=9^9)(disch:=omega)only[ZZ,simprocAttr,rch,ORB,alC.ca,alO.H0,alC.H1,kl24,Qar.c,Frac.c];obtain⟨s,l,w,f,e⟩:=a;obtain⟨hq,hst,h500⟩:=hpre;simp only at hq hst h500⊢;have hq':=hq;obtain⟨⟨q1,q2,q3,q4,q5,q6⟩,hT,hw,hl⟩:=hq';have hnp:newC.pre (s,s.Seed):=⟨q1,by simp only;omega,fun y hy=>⟨q2.2 y hy,Qkc (Qh6 _ none q2.1 y hy).1⟩⟩;refine orow.os (s,s.Seed) [] hnp (fun j=>by simp[domB,hget]) rfl rfl ?_ ?_
 .simp(maxSteps:=9^9)(disch:=omega)only[ZZ,simprocAttr,rch,ORB,alC.ca,alO.H0,alC.H1,kl24,Qar.c,Frac.c,newC.ca,Qer,Qar.c,Asm.c]
 simp(maxSteps:=9^9)(disch:=omega)only[ZZ,simprocAttr,rch,ORB,alC.ca,alO.H0,alC.H1,kl24,Qar.c,Frac.c,newC.H1,sub,ZaC,ZaQ];intro _;refine Qay.old ⟨{k:Nat×List (Qae×Int)×List (Qae×List Int)//k.1<=l.length/\(∃n,RM k.2.1 (Qac9 s.Seed (l.take k.1)) n)/\OpOk s (Qbw k.2.1) k.2.2},fun k=>⟨[(15,.im (.int .i64 k.1.1)),(14,.im (.int .i64 l.length)),(13,.im (.sl false 3 (l.map Opt.c))),(6,.ptr 10 0),(2,.clo 71 [] [.ptr 0 0,.ptr 1 0,.ptr 2 0,.ptr 3 0])],[(10,(true,.cells 175 [.im (.sl false 2 (s.Set.Glues.map Glue.c)),.im (.sl false 2 (s.Set.Tiles.map Tile.c)),.im (.sl false 3 (s.Seed.Tiles.map Qab.c)),.im (.int .i64 s.Temperature),.mp 8,.mp 9])),(8,(true,.map ⟨true,[.int .i64,.int .i64]⟩ (k.1.2.1.map Qbe))),(9,(true,.map ⟨true,[.int .i64,.int .i64]⟩ (k.1.2.2.map Qbc))),
  (0,(true,.cells 84 [.im (.fn 37 [] [])])),(1,(true,.cells 81 [.ptr 4 0])),(2,(true,.cells 36 [.im (.int .i64 (wSeq s w mulF (fun x=>x) s.Seed (f,e) (l.take k.1.1)).1.Num),.im (.int .i64 (wSeq s w mulF (fun x=>x) s.Seed (f,e) (l.take k.1.1)).1.Den)])),(3,(true,.cells 31 [.im (.sl false 1 (w.map intC))])),(4,(true,.cells 119 [.im (.int .i64 (wSeq s w mulF (fun x=>x) s.Seed (f,e) (l.take k.1.1)).2)]))],11⟩,fun k=>l.length - k.1.1,fun k=>⟨by simp[Qad.good,belT,belH,Qam,AV.bel,belL],by simp⟩,⟨⟨(0,(Qui s s.Seed).Tl,(Qui s s.Seed).Op),by simp only;exact⟨ZaZ _,⟨_,RM.of q2.1 (fun x hx=>(q2.2 x hx).1)⟩,op_new hT⟩⟩,by simp(maxSteps:=9^9)(disch:=omega)only[ZZ,simprocAttr,rch,ORB,alC.ca,alO.H0,alC.H1,kl24,Qar.c,Frac.c,sub,Zbr,wSeq]⟩,fun k=> ?_⟩
 obtain⟨⟨k,tl,op⟩,hk1,⟨n,hrm⟩,hop⟩:=k;simp only at hk1 hrm hop;simp(maxSteps:=9^9)(disch:=omega)only[ZZ,simprocAttr,rch,ORB,alC.ca,alO.H0,alC.H1,kl24,Qar.c,Frac.c,sub,Qal];obtain⟨b,hb⟩: ∃b,b=Qac9 s.Seed (l.take k):=⟨_,rfl⟩;have hbi:Qn7 s.Set b:=by rw[hb];exact Qafb q3 q2 q5 k hk1
 rw[<-hb] at hrm;have hat:=hrm.at;refine⟨fun hk=>⟨hk,fun x hx=> ?_⟩,fun hk=> ?_⟩
 .obtain⟨g1,g2,g3,g4,g5,g6,g7,g8,g9⟩:=Qal5 hq hx;rw[<-hb] at g1 g2 g3 g4 g8 g9;have hop2:=hop;rw[hat] at hop2;obtain⟨l1,l2,l3⟩:=op_lim hT (by omega) q3 hop2;have hin:=Qamz Qalr (g:=(fun x=>x)) (l.take k) s.Seed (f,e) hst (Qamk (by intro y h1 h2;exact⟨by omega,by omega⟩) hT q3 hw hl _ _ q2 (Qamy q5 k));obtain⟨⟨f1,e1⟩,hfe⟩: ∃q,q=wSeq s w mulF (fun x=>x) s.Seed (f,e) (l.take k):=⟨_,rfl⟩;rw[<-hfe] at hin⊢;have hnum:=Qam1 hin;refine orow.os (⟨s,tl,op⟩,x,w,f1,e1) [10,8,9,0,1,2,3,4] ⟨l2,g5,by rw[l1];exact⟨g3,hw,g4⟩,hnum,by simp only;omega,by simp only;omega,by rw[l1];exact g8,by rw[l1];exact g9⟩ (fun j=>by rw[Qal2];simp[wclO.H0,cryH];omega) rfl rfl ?_ ?_
  .simp(maxSteps:=9^9)(disch:=omega)only[ZZ,simprocAttr,rch,ORB,alC.ca,alO.H0,alC.H1,kl24,Qar.c,Frac.c,wclC.ca,wclO.H0,cryH,Qbk,ZaV,ZaC,ZaQ]
  simp(maxSteps:=9^9)(disch:=omega)only[ZZ,simprocAttr,rch,ORB,alC.ca,alO.H0,alC.H1,kl24,Qar.c,Frac.c,wclC.H1,kl57,sub,ZaC,ZaQ];have hq0:wclO.q0 (⟨s,tl,op⟩,x,w,f1,e1)=wSeq s w mulF (fun x=>x) s.Seed (f,e) (l.take (k+1)):=by
   rw[Qwe hx,Qamb,<-hfe,<-hb,<-l1];rfl
  rw[hq0];have cS:=(q5 k x hx).1;rw[<-hb] at cS;obtain⟨z1,z2,z3,z4,z5,z6⟩:=Qadk cS;have hin2:inF s.Set (Qbw tl):=by rw[hat];exact fun p hp=>Qafx hbi p hp
  obtain⟨f3,f2⟩:=rm_free hrm hbi cS;refine orow.os (⟨s,tl,op⟩,x.At,x.Tile) [10,8,9] ⟨⟨q1,hin2,by simp only;omega⟩,z2,z5⟩ (fun j=>Qack _ j) rfl rfl ?_ ?_
  .simp(maxSteps:=9^9)(disch:=omega)only[ZZ,simprocAttr,rch,ORB,alC.ca,alO.H0,alC.H1,kl24,Qar.c,Frac.c,putC.ca,cryH,Qbk,ZaV,ZaC,ZaQ]
  simp(maxSteps:=9^9)(disch:=omega)only[ZZ,simprocAttr,rch,ORB,alC.ca,alO.H0,alC.H1,kl24,Qar.c,Frac.c,putC.H1,kl12,sub,putT,ZaC,ZaQ];refine⟨⟨(k+1,updP tl x.At x.Tile,Qrz s (Qbw (updP tl x.At x.Tile)) (delP op x.At) x.At 4),by simp only;exact⟨by omega,⟨_,by rw[Qwe hx,Qadp,<-hb];exact hrm.put f2 f3⟩,op_put hop z3⟩⟩,by simp only;omega,?_⟩;rw[Qak (by omega) (by omega)];exact⟨by simp only;omega,by trivial⟩
 .obtain rfl:k=l.length:=by omega
  rw[ZbB];exact⟨⟨rfl,rfl⟩,rfl⟩
 simp[alC.H1] at hp;rcases hp with rfl|rfl
 .exact .inl ⟨by omega,rfl,rfl⟩
 .exact .inl ⟨by omega,rfl,rfl⟩
def alT.H0(a:Qar×List Opt×List Int×Frac×Int):Qan:=[(0,(true,.cells 84 [.im (.fn 46 [] [])])),(1,(true,.cells 81 [.ptr 4 0])),(2,(true,.cells 36 ((Frac.c a.2.2.2.1).map .im))),(3,(true,.cells 31 [.im (.sl false 1 (a.2.2.1.map intC))])),(4,(true,.cells 119 [.im (.int .i64 a.2.2.2.2)]))]
def alT.q0(a:Qar×List Opt×List Int×Frac×Int):Frac×Int:=wSeq a.1 a.2.2.1 addF (fun _=>1) a.1.Seed (a.2.2.2.1,a.2.2.2.2) a.2.1
def alT.row:Row:=orow alC.ca alT.H0 5 alC.pre kl24 (fun _=> .im (.tup [])) (fun a=>alC.H1 (alT.q0 a)) 0
theorem alT.ok:Qas Tryz.prog 70 alT.row:=by
 refine Qf1 Qaq (tC newC.ok (tC wclT.ok (tC putC.ok tN))) Tryz.func70 rfl (by kernel_rfl) (by kernel_rfl) (exB:=fun _=>false) (R:=fun _ r=>r= .im (.tup [])) (n:=3) (fun _=>rfl) (by decide)
  (fun a=>by simp[alC.ca,alT.H0,alC.H1,kl24,Qar.c,Frac.c,belL,AV.bel]) (fun a=>by simp[alC.ca,alT.H0,alC.H1,kl24,Qar.c,Frac.c,belH,belL,AV.bel]) (fun a=>by simp[alC.ca,alT.H0,alC.H1,kl24,Qar.c,Frac.c,Qam])
  (fun a=>by simp[Qc2,alC.ca,alT.H0,alC.H1,kl24,Qar.c,Frac.c,AObj.nms,nmsL,AV.nms,domB,hget]) (fun a p hp=> ?_) (fun a r h=>by subst h;exact LeV.refl _) ?_
 rotate_left
 intro a hpre;simp only[Tryz.f70,Option.getD,alC.ca,alT.H0,alC.H1,kl24,Qar.c,Frac.c];simp(maxSteps:=9^9)(disch:=omega)only[ZZ,simprocAttr,rch,ORB,alC.ca,alT.H0,alC.H1,kl24,Qar.c,Frac.c];obtain⟨s,l,w,f,e⟩:=a;obtain⟨hq,hst,h500⟩:=hpre;simp only at hq hst h500⊢;have hq':=hq;obtain⟨⟨q1,q2,q3,q4,q5,q6⟩,hT,hw,hl⟩:=hq';have hnp:newC.pre (s,s.Seed):=⟨q1,by simp only;omega,fun y hy=>⟨q2.2 y hy,Qkc (Qh6 _ none q2.1 y hy).1⟩⟩;refine orow.os (s,s.Seed) [] hnp (fun j=>by simp[domB,hget]) rfl rfl ?_ ?_
 .simp(maxSteps:=9^9)(disch:=omega)only[ZZ,simprocAttr,rch,ORB,alC.ca,alT.H0,alC.H1,kl24,Qar.c,Frac.c,newC.ca,Qer,Qar.c,Asm.c]
 simp(maxSteps:=9^9)(disch:=omega)only[ZZ,simprocAttr,rch,ORB,alC.ca,alT.H0,alC.H1,kl24,Qar.c,Frac.c,newC.H1,sub,ZaC,ZaQ];intro _;refine Qay.old ⟨{k:Nat×List (Qae×Int)×List (Qae×List Int)//k.1<=l.length/\(∃n,RM k.2.1 (Qac9 s.Seed (l.take k.1)) n)/\OpOk s (Qbw k.2.1) k.2.2},fun k=>⟨[(15,.im (.int .i64 k.1.1)),(14,.im (.int .i64 l.length)),(13,.im (.sl false 3 (l.map Opt.c))),(6,.ptr 10 0),(2,.clo 71 [] [.ptr 0 0,.ptr 1 0,.ptr 2 0,.ptr 3 0])],[(10,(true,.cells 175 [.im (.sl false 2 (s.Set.Glues.map Glue.c)),.im (.sl false 2 (s.Set.Tiles.map Tile.c)),.im (.sl false 3 (s.Seed.Tiles.map Qab.c)),.im (.int .i64 s.Temperature),.mp 8,.mp 9])),(8,(true,.map ⟨true,[.int .i64,.int .i64]⟩ (k.1.2.1.map Qbe))),(9,(true,.map ⟨true,[.int .i64,.int .i64]⟩ (k.1.2.2.map Qbc))),
  (0,(true,.cells 84 [.im (.fn 46 [] [])])),(1,(true,.cells 81 [.ptr 4 0])),(2,(true,.cells 36 [.im (.int .i64 (wSeq s w addF (fun _=>1) s.Seed (f,e) (l.take k.1.1)).1.Num),.im (.int .i64 (wSeq s w addF (fun _=>1) s.Seed (f,e) (l.take k.1.1)).1.Den)])),(3,(true,.cells 31 [.im (.sl false 1 (w.map intC))])),(4,(true,.cells 119 [.im (.int .i64 (wSeq s w addF (fun _=>1) s.Seed (f,e) (l.take k.1.1)).2)]))],11⟩,fun k=>l.length - k.1.1,fun k=>⟨by simp[Qad.good,belT,belH,Qam,AV.bel,belL],by simp⟩,⟨⟨(0,(Qui s s.Seed).Tl,(Qui s s.Seed).Op),by simp only;exact⟨ZaZ _,⟨_,RM.of q2.1 (fun x hx=>(q2.2 x hx).1)⟩,op_new hT⟩⟩,by simp(maxSteps:=9^9)(disch:=omega)only[ZZ,simprocAttr,rch,ORB,alC.ca,alT.H0,alC.H1,kl24,Qar.c,Frac.c,sub,Zbr,wSeq]⟩,fun k=> ?_⟩
 obtain⟨⟨k,tl,op⟩,hk1,⟨n,hrm⟩,hop⟩:=k;simp only at hk1 hrm hop;simp(maxSteps:=9^9)(disch:=omega)only[ZZ,simprocAttr,rch,ORB,alC.ca,alT.H0,alC.H1,kl24,Qar.c,Frac.c,sub,Qal];obtain⟨b,hb⟩: ∃b,b=Qac9 s.Seed (l.take k):=⟨_,rfl⟩;have hbi:Qn7 s.Set b:=by rw[hb];exact Qafb q3 q2 q5 k hk1
 rw[<-hb] at hrm;have hat:=hrm.at;refine⟨fun hk=>⟨hk,fun x hx=> ?_⟩,fun hk=> ?_⟩
 .obtain⟨g1,g2,g3,g4,g5,g6,g7,g8,g9⟩:=Qal5 hq hx;rw[<-hb] at g1 g2 g3 g4 g8 g9;have hop2:=hop;rw[hat] at hop2;obtain⟨l1,l2,l3⟩:=op_lim hT (by omega) q3 hop2;have hin:=Qamz Qamx (g:=(fun _=>1)) (l.take k) s.Seed (f,e) hst (Qamk (by intro y h1 h2;exact⟨by omega,by omega⟩) hT q3 hw hl _ _ q2 (Qamy q5 k));obtain⟨⟨f1,e1⟩,hfe⟩: ∃q,q=wSeq s w addF (fun _=>1) s.Seed (f,e) (l.take k):=⟨_,rfl⟩;rw[<-hfe] at hin⊢;have hnum:=Qam1 hin;refine orow.os (⟨s,tl,op⟩,x,w,f1,e1) [10,8,9,0,1,2,3,4] ⟨l2,g5,by rw[l1];exact⟨g3,hw,g4⟩,hnum,by simp only;omega,by simp only;omega,by rw[l1];exact g8,by rw[l1];exact g9⟩ (fun j=>by rw[Qal2];simp[wclT.H0,cryH];omega) rfl rfl ?_ ?_
  .simp(maxSteps:=9^9)(disch:=omega)only[ZZ,simprocAttr,rch,ORB,alC.ca,alT.H0,alC.H1,kl24,Qar.c,Frac.c,wclC.ca,wclT.H0,cryH,Qbk,ZaV,ZaC,ZaQ]
  simp(maxSteps:=9^9)(disch:=omega)only[ZZ,simprocAttr,rch,ORB,alC.ca,alT.H0,alC.H1,kl24,Qar.c,Frac.c,wclC.H1,kl57,sub,ZaC,ZaQ];have hq0:wclT.q0 (⟨s,tl,op⟩,x,w,f1,e1)=wSeq s w addF (fun _=>1) s.Seed (f,e) (l.take (k+1)):=by
   rw[Qwe hx,Qamb,<-hfe,<-hb,<-l1];rfl
  rw[hq0];have cS:=(q5 k x hx).1;rw[<-hb] at cS;obtain⟨z1,z2,z3,z4,z5,z6⟩:=Qadk cS;have hin2:inF s.Set (Qbw tl):=by rw[hat];exact fun p hp=>Qafx hbi p hp
  obtain⟨f3,f2⟩:=rm_free hrm hbi cS;refine orow.os (⟨s,tl,op⟩,x.At,x.Tile) [10,8,9] ⟨⟨q1,hin2,by simp only;omega⟩,z2,z5⟩ (fun j=>Qack _ j) rfl rfl ?_ ?_
  .simp(maxSteps:=9^9)(disch:=omega)only[ZZ,simprocAttr,rch,ORB,alC.ca,alT.H0,alC.H1,kl24,Qar.c,Frac.c,putC.ca,cryH,Qbk,ZaV,ZaC,ZaQ]
  simp(maxSteps:=9^9)(disch:=omega)only[ZZ,simprocAttr,rch,ORB,alC.ca,alT.H0,alC.H1,kl24,Qar.c,Frac.c,putC.H1,kl12,sub,putT,ZaC,ZaQ];refine⟨⟨(k+1,updP tl x.At x.Tile,Qrz s (Qbw (updP tl x.At x.Tile)) (delP op x.At) x.At 4),by simp only;exact⟨by omega,⟨_,by rw[Qwe hx,Qadp,<-hb];exact hrm.put f2 f3⟩,op_put hop z3⟩⟩,by simp only;omega,?_⟩;rw[Qak (by omega) (by omega)];exact⟨by simp only;omega,by trivial⟩
 .obtain rfl:k=l.length:=by omega
  rw[ZbB];exact⟨⟨rfl,rfl⟩,rfl⟩
 simp[alC.H1] at hp;rcases hp with rfl|rfl
 .exact .inl ⟨by omega,rfl,rfl⟩
 .exact .inl ⟨by omega,rfl,rfl⟩
def wsF(op:Frac->Frac->Frac×Int)(g:Int->Int)(f:Frac)(s:Qar)(w:List Int)(l:List Opt):Frac×Int:=
 if askF s w s.Seed≠0 then (⟨0,0⟩,1) else if (seqS s l).2.2≠0 then (⟨0,0⟩,(seqS s l).2.2) else Qalx s w op g s.Seed f l
theorem ask_kin(s:Qar)(w:List Int):askF s w s.Seed=(if Qk1 s=true/\wtOk s.Set w=true then 0 else 1):=by
 simp only[askF,Qacv];by_cases c:Qjc s=true/\wtOk s.Set w=true
 .rw[Zak c,Zak ⟨c.1,c.2,(Qacj c.1).2.2⟩]
 .rw[Zag c,Zag (fun h=>c ⟨h.1,h.2.1⟩)]
theorem Qams(s:Qar)(w:List Int):askF s w s.Seed=0\/askF s w s.Seed=1:=by
 simp only[askF];split<;>simp
theorem Qam2{s:Qar}{w:List Int}{l:List Opt}(h1:askF s w s.Seed=0)(h2:(seqS s l).2.2=0):wgtP s w l/\s.Seed.Tiles.length<=500:=by
 simp only[askF] at h1;split at h1
 case isFalse=>cases h1
 rename_i c;obtain⟨c1,c2,c3⟩:=c;obtain⟨_,h4,_⟩:=seqS_ok h2;have h5:=Qdg c3;simp only[Qjc,Qau,Zaf,Zap] at c1;simp only[wtOk,Zaf,Zap,ZbZ] at c2;exact⟨⟨h4,c1.2.2.2.1.1,c2.2.2,c2.2.1⟩,h5.2⟩
theorem ws_law{s:Qar}{w:List Int}{l:List Opt}{op:Frac->Frac->Frac×Int}{g:Int->Int}{f:Frac}(hop:Qal0 op)(hg: ∀x,1<=x->x<=100->0<=g x/\g x<=1000000000)(hf:okFr f)(h:wgtP s w l):resF (wSeq s w op g s.Seed (f,0) l)=Qalx s w op g s.Seed f l:=by
 obtain⟨⟨q1,q2,q3,q4,q5,q6⟩,hT,hw,hl⟩:=h;exact w_law hop l s.Seed f hf (Qamk hg hT q3 hw hl l s.Seed q2 q5)
theorem okFr1:okFr ⟨1,1⟩:=⟨by decide,by decide⟩
theorem okFr0:okFr ⟨0,1⟩:=⟨by decide,by decide⟩
def wsqO.ar:List PK->Option (Qar×(List Int)×(List Opt)×Frac×Unit)
 |[.val (.agg x0),.val (.sl _ _ x1),.val (.sl _ _ x2),.val (.agg x3),.val (.fn 37 [] [])]=>(Qar.d x0).bind fun y0=>(decR intD x1).bind fun y1=>(decR Opt.d x2).bind fun y2=>(Frac.d x3).bind fun y3=>some (y0,y1,y2,y3,())
 |_=>none
def wsqO.ae(a:Qar×(List Int)×(List Opt)×Frac×Unit):List PK:=[.val (.agg (Qar.c a.1)),.val (.sl false 1 (a.2.1.map intC)),.val (.sl false 3 (a.2.2.1.map Opt.c)),.val (.agg (Frac.c a.2.2.2.1)),.val (.fn 37 [] [])]
theorem wsqO.le: ∀ps a,wsqO.ar ps=some a->LeKL ps (wsqO.ae a):=by
 intro ps a h;unfold wsqO.ar at h;split at h
 .simp only[ZaI,Zab] at h;obtain⟨y0,h0,y1,h1,y2,h2,y3,h3,rfl⟩:=h;exact⟨Qav (Qar.d_le _ _ h0),Qbf (Qa2 Qb3 _ _ h1) (by simp only[ZaJ];rintro r ⟨y,_,rfl⟩;rfl),Qbf (Qa2 Opt.d_le _ _ h2) (by simp only[ZaJ];rintro r ⟨y,_,rfl⟩;rfl),Qav (Frac.d_le _ _ h3),LeK.refl _,trivial⟩
 .cases h
def wsqO.fv(a:Qar×(List Int)×(List Opt)×Frac×Unit):Frac×Int:=(fun s w l f _=>wsF mulF (fun x=>x) f s w l) (a.1) (a.2.1) (a.2.2.1) (a.2.2.2.1) (a.2.2.2.2)
def wsqO.row:Row:=Qfi wsqO.ar (fun a=>Qf6 a.1.Set/\okFr a.2.2.2.1) (fun a=>(fun b=>D.tup [(fun b=>D.agg (Frac.c b)) (b.1),(D.int .i64) (b.2)]) (wsqO.fv a))
def wsqO.q:=vqF wsqO.row rfl
def Ybf:=J @wsqO.ae.eq_1<|J @wsqO.fv.eq_1<|J @kin_.q<|J @kin_.ar.eq_1<|J @kin_.fv.eq_1<|J @PlayI_.q<|J @PlayI_.ar.eq_1<|J @PlayI_.fv.eq_1<|J @resC.q<|J @resC.ar.eq_1 @resC.fv.eq_1
theorem wsqO.ok:Qas Tryz.prog 35 wsqO.row:=by
 refine Qbn Qaq (tC kin_.ok (tC PlayI_.ok (tC alO.ok (tC resC.ok tN)))) Tryz.func35 rfl (by kernel_rfl) (by kernel_rfl) (ar:=wsqO.ar) (ae:=wsqO.ae) wsqO.le (n:=5) (fun _=>rfl) (by decide) (rc:=(Qfa (vAgg Frac.d) (vInt))) (re:=(fun b=>D.tup [(fun b=>D.agg (Frac.c b)) (b.1),(D.int .i64) (b.2)])) (Qbz (Qb1 Frac.d_le) (Qa3)) (f:=wsqO.fv) ?_;intro a hpre;simp only[Tryz.f35,Option.getD];simp(maxSteps:=9^9)(disch:=omega)only[ZZ,simprocAttr,rch,Ybf,ORC,D.sc,D.scs,scL,decD];obtain⟨s,w,l,f,_⟩:=a;obtain⟨h0,hf⟩:=hpre;simp only at h0 hf⊢;refine⟨h0,?_⟩;simp only[<-ask_kin,seq_law];by_cases ha:askF s w s.Seed=0
 case neg=>
  rw[Zak ha];refine⟨rfl,?_⟩;simp only[wsF];rw[Zak ha,(Qams s w).resolve_left ha]
 rw[Zag (fun h=>h ha)];refine⟨h0,?_⟩;by_cases hc:(seqS s l).2.2=0
 case neg=>
  rw[Zak hc];refine⟨rfl,?_⟩;simp only[wsF];rw[Zag (fun h=>h ha),Zak hc]
 rw[Zag (fun h=>h hc)];obtain⟨hw,h5⟩:=Qam2 ha hc;refine orow.os (s,l,w,f,0) [3,7,8,1,6] ⟨hw,.inl ⟨rfl,hf⟩,h5⟩ (fun j=>by rw[Qal2];simp[alO.H0];omega) rfl rfl ?_ ?_
 .simp(maxSteps:=9^9)(disch:=omega)only[ZZ,simprocAttr,rch,Ybf,ORC,D.sc,D.scs,scL,decD,alC.ca,alO.H0,ZaV,ZaC,ZaQ,Qar.c]
 simp(maxSteps:=9^9)(disch:=omega)only[ZZ,simprocAttr,rch,Ybf,ORC,D.sc,D.scs,scL,decD,alC.H1,kl24,sub,ZaC,ZaQ,Frac.c];have hlaw:resF (alO.q0 (s,l,w,f,0))=wsF mulF (fun x=>x) f s w l:=by
  simp only[wsF];rw[Zag (fun h=>h ha),Zag (fun h=>h hc)];exact ws_law Qalr (fun x h1 h2=>⟨by omega,by omega⟩) hf hw
 refine⟨rfl,?_⟩;rw[<-hlaw];rfl
def topO.ar:List PK->Option (Qar×(List Int)×(List Opt)):=a3 (kR Qar.d) (kS intD) (kS Opt.d)
def topO.ae(a:Qar×(List Int)×(List Opt)):List PK:=[.val (.agg (Qar.c a.1)),.val (.sl false 1 (a.2.1.map intC)),.val (.sl false 3 (a.2.2.map Opt.c))]
def topO.fv(a:Qar×(List Int)×(List Opt)):Frac×Int:=(fun s w l=>wsF mulF (fun x=>x) ⟨1,1⟩ s w l) (a.1) (a.2.1) (a.2.2)
def topO.row:Row:=Qfi topO.ar (fun a=>Qf6 a.1.Set) (fun a=>(fun b=>D.tup [(fun b=>D.agg (Frac.c b)) (b.1),(D.int .i64) (b.2)]) (topO.fv a))
def topO.q:=vqF topO.row rfl
theorem topO.ok:Qas Tryz.prog 13 topO.row:=by
 refine Qbn Qaq (tC oneC.ok (tC wsqO.ok tN)) Tryz.func13 rfl (by kernel_rfl) (by kernel_rfl) (ar:=topO.ar) (ae:=topO.ae) (Qace (Qab8 Qar.d_le) (Qacb 1 Qb3 (fun _=>rfl)) (Qacb 3 Opt.d_le (fun _=>rfl))) (n:=3) (fun _=>rfl) (by decide) (rc:=(Qfa (vAgg Frac.d) (vInt))) (re:=(fun b=>D.tup [(fun b=>D.agg (Frac.c b)) (b.1),(D.int .i64) (b.2)])) (Qbz (Qb1 Frac.d_le) (Qa3)) (f:=topO.fv) ?_;intro a hpre;simp only[Tryz.f13,Option.getD];simp(maxSteps:=9^9)(disch:=omega)only[ZZ,simprocAttr,rch,topO.ae,topO.fv,wsqO.q,wsqO.ar,wsqO.fv,ORC,D.sc,D.scs,scL,decD];refine orow.os () [] trivial (fun j=>by simp[domB,hget]) rfl rfl ?_ ?_
 .simp(maxSteps:=9^9)(disch:=omega)only[ZZ,simprocAttr,rch,topO.ae,topO.fv,wsqO.q,wsqO.ar,wsqO.fv,ORC,D.sc,D.scs,scL,decD,oneC.ca,Qer]
 simp(maxSteps:=9^9)(disch:=omega)only[ZZ,simprocAttr,rch,topO.ae,topO.fv,wsqO.q,wsqO.ar,wsqO.fv,ORC,D.sc,D.scs,scL,decD,oneC.r0,sub,Frac.c];exact⟨⟨hpre,okFr1⟩,rfl⟩
def wsqT.ar:List PK->Option (Qar×(List Int)×(List Opt)×Frac×Unit)
 |[.val (.agg x0),.val (.sl _ _ x1),.val (.sl _ _ x2),.val (.agg x3),.val (.fn 46 [] [])]=>(Qar.d x0).bind fun y0=>(decR intD x1).bind fun y1=>(decR Opt.d x2).bind fun y2=>(Frac.d x3).bind fun y3=>some (y0,y1,y2,y3,())
 |_=>none
def wsqT.ae(a:Qar×(List Int)×(List Opt)×Frac×Unit):List PK:=[.val (.agg (Qar.c a.1)),.val (.sl false 1 (a.2.1.map intC)),.val (.sl false 3 (a.2.2.1.map Opt.c)),.val (.agg (Frac.c a.2.2.2.1)),.val (.fn 46 [] [])]
theorem wsqT.le: ∀ps a,wsqT.ar ps=some a->LeKL ps (wsqT.ae a):=by
 intro ps a h;unfold wsqT.ar at h;split at h
 .simp only[ZaI,Zab] at h;obtain⟨y0,h0,y1,h1,y2,h2,y3,h3,rfl⟩:=h;exact⟨Qav (Qar.d_le _ _ h0),Qbf (Qa2 Qb3 _ _ h1) (by simp only[ZaJ];rintro r ⟨y,_,rfl⟩;rfl),Qbf (Qa2 Opt.d_le _ _ h2) (by simp only[ZaJ];rintro r ⟨y,_,rfl⟩;rfl),Qav (Frac.d_le _ _ h3),LeK.refl _,trivial⟩
 .cases h
def wsqT.fv(a:Qar×(List Int)×(List Opt)×Frac×Unit):Frac×Int:=(fun s w l f _=>wsF addF (fun _=>1) f s w l) (a.1) (a.2.1) (a.2.2.1) (a.2.2.2.1) (a.2.2.2.2)
def wsqT.row:Row:=Qfi wsqT.ar (fun a=>Qf6 a.1.Set/\okFr a.2.2.2.1) (fun a=>(fun b=>D.tup [(fun b=>D.agg (Frac.c b)) (b.1),(D.int .i64) (b.2)]) (wsqT.fv a))
def wsqT.q:=vqF wsqT.row rfl
def Ybg:=J @wsqT.ae.eq_1<|J @wsqT.fv.eq_1<|J @kin_.q<|J @kin_.ar.eq_1<|J @kin_.fv.eq_1<|J @PlayI_.q<|J @PlayI_.ar.eq_1<|J @PlayI_.fv.eq_1<|J @resC.q<|J @resC.ar.eq_1 @resC.fv.eq_1
theorem wsqT.ok:Qas Tryz.prog 35 wsqT.row:=by
 refine Qbn Qaq (tC kin_.ok (tC PlayI_.ok (tC alT.ok (tC resC.ok tN)))) Tryz.func35 rfl (by kernel_rfl) (by kernel_rfl) (ar:=wsqT.ar) (ae:=wsqT.ae) wsqT.le (n:=5) (fun _=>rfl) (by decide) (rc:=(Qfa (vAgg Frac.d) (vInt))) (re:=(fun b=>D.tup [(fun b=>D.agg (Frac.c b)) (b.1),(D.int .i64) (b.2)])) (Qbz (Qb1 Frac.d_le) (Qa3)) (f:=wsqT.fv) ?_;intro a hpre;simp only[Tryz.f35,Option.getD];simp(maxSteps:=9^9)(disch:=omega)only[ZZ,simprocAttr,rch,Ybg,ORC,D.sc,D.scs,scL,decD];obtain⟨s,w,l,f,_⟩:=a;obtain⟨h0,hf⟩:=hpre;simp only at h0 hf⊢;refine⟨h0,?_⟩;simp only[<-ask_kin,seq_law];by_cases ha:askF s w s.Seed=0
 case neg=>
  rw[Zak ha];refine⟨rfl,?_⟩;simp only[wsF];rw[Zak ha,(Qams s w).resolve_left ha]
 rw[Zag (fun h=>h ha)];refine⟨h0,?_⟩;by_cases hc:(seqS s l).2.2=0
 case neg=>
  rw[Zak hc];refine⟨rfl,?_⟩;simp only[wsF];rw[Zag (fun h=>h ha),Zak hc]
 rw[Zag (fun h=>h hc)];obtain⟨hw,h5⟩:=Qam2 ha hc;refine orow.os (s,l,w,f,0) [3,7,8,1,6] ⟨hw,.inl ⟨rfl,hf⟩,h5⟩ (fun j=>by rw[Qal2];simp[alT.H0];omega) rfl rfl ?_ ?_
 .simp(maxSteps:=9^9)(disch:=omega)only[ZZ,simprocAttr,rch,Ybg,ORC,D.sc,D.scs,scL,decD,alC.ca,alT.H0,ZaV,ZaC,ZaQ,Qar.c]
 simp(maxSteps:=9^9)(disch:=omega)only[ZZ,simprocAttr,rch,Ybg,ORC,D.sc,D.scs,scL,decD,alC.H1,kl24,sub,ZaC,ZaQ,Frac.c];have hlaw:resF (alT.q0 (s,l,w,f,0))=wsF addF (fun _=>1) f s w l:=by
  simp only[wsF];rw[Zag (fun h=>h ha),Zag (fun h=>h hc)];exact ws_law Qamx (fun x h1 h2=>⟨by omega,by omega⟩) hf hw
 refine⟨rfl,?_⟩;rw[<-hlaw];rfl
def topT.ar:List PK->Option (Qar×(List Int)×(List Opt)):=a3 (kR Qar.d) (kS intD) (kS Opt.d)
def topT.ae(a:Qar×(List Int)×(List Opt)):List PK:=[.val (.agg (Qar.c a.1)),.val (.sl false 1 (a.2.1.map intC)),.val (.sl false 3 (a.2.2.map Opt.c))]
def topT.fv(a:Qar×(List Int)×(List Opt)):Frac×Int:=(fun s w l=>wsF addF (fun _=>1) ⟨0,1⟩ s w l) (a.1) (a.2.1) (a.2.2)
def topT.row:Row:=Qfi topT.ar (fun a=>Qf6 a.1.Set) (fun a=>(fun b=>D.tup [(fun b=>D.agg (Frac.c b)) (b.1),(D.int .i64) (b.2)]) (topT.fv a))
def topT.q:=vqF topT.row rfl
theorem topT.ok:Qas Tryz.prog 19 topT.row:=by
 refine Qbn Qaq (tC zerC.ok (tC wsqT.ok tN)) Tryz.func19 rfl (by kernel_rfl) (by kernel_rfl) (ar:=topT.ar) (ae:=topT.ae) (Qace (Qab8 Qar.d_le) (Qacb 1 Qb3 (fun _=>rfl)) (Qacb 3 Opt.d_le (fun _=>rfl))) (n:=3) (fun _=>rfl) (by decide) (rc:=(Qfa (vAgg Frac.d) (vInt))) (re:=(fun b=>D.tup [(fun b=>D.agg (Frac.c b)) (b.1),(D.int .i64) (b.2)])) (Qbz (Qb1 Frac.d_le) (Qa3)) (f:=topT.fv) ?_;intro a hpre;simp only[Tryz.f19,Option.getD];simp(maxSteps:=9^9)(disch:=omega)only[ZZ,simprocAttr,rch,topT.ae,topT.fv,wsqT.q,wsqT.ar,wsqT.fv,ORC,D.sc,D.scs,scL,decD];refine orow.os () [] trivial (fun j=>by simp[domB,hget]) rfl rfl ?_ ?_
 .simp(maxSteps:=9^9)(disch:=omega)only[ZZ,simprocAttr,rch,topT.ae,topT.fv,wsqT.q,wsqT.ar,wsqT.fv,ORC,D.sc,D.scs,scL,decD,oneC.ca,Qer]
 simp(maxSteps:=9^9)(disch:=omega)only[ZZ,simprocAttr,rch,topT.ae,topT.fv,wsqT.q,wsqT.ar,wsqT.fv,ORC,D.sc,D.scs,scL,decD,zerC.r0,sub,Frac.c];exact⟨⟨hpre,okFr0⟩,rfl⟩
theorem Qn3{n:Nat}{l:Int}(h:0<=szC n l):(n:Int)<=l/\szC n l<=l/\0<=l:=by
 simp only[szC] at h⊢;split at h
 .omega
 .rename_i c;rw[Zag c];omega
theorem Qu5: ∀(a:List Tile) (l:Int),0<=l->l<=1048576->0<=Qdz Qcn a l-> ∀x∈a,x.Sides.length<=1073741824
 |[],_,_,_,_=>by intro x hx;cases hx
 |y::r,l,h0,hl,h=>by
  simp only[Qdz] at h;split at h
  .omega
  .rename_i c;have hy:0<=Qcn y l:=by omega
   have h1:0<=szC y.Name.size l:=by
    simp only[Qcn] at hy;split at hy
    .omega
    .omega
   have e:Qcn y l=szC y.Sides.length (szC y.Name.size l):=by
    simp only[Qcn];rw[Zag (by omega)]
   rw[e] at hy h;obtain⟨a1,a2,a3⟩:=Qn3 hy;obtain⟨b1,b2,b3⟩:=Qn3 h1;intro x hx;rcases Zaw.1 hx with rfl|hx
   .omega
   .exact Qu5 r _ hy (by omega) h x hx
theorem szSet_sm{s:Qaa}{l:Int}(hl: -1<=l)(hl2:l<=1048576)(h:0<=Qqd s l):smSet s:=by
 have hg:=Qo1 s.Glues l hl;simp only[Qqd] at h;split at h
 .omega
 rename_i c;have hg0:0<=Qcj s.Glues l:=by omega
 have hgc:0<=szC s.Glues.length l:=by
  simp only[Qcj] at hg0;split at hg0
  .omega
  .omega
 have htc:0<=szC s.Tiles.length (Qcj s.Glues l):=by
  simp only[Qds] at h;split at h
  .omega
  .omega
 have e:Qds s.Tiles (Qcj s.Glues l)=Qdz Qcn s.Tiles (szC s.Tiles.length (Qcj s.Glues l)):=by
  simp only[Qds];rw[Zag (by omega)]
 rw[e] at h;obtain⟨a1,a2,a3⟩:=Qn3 hgc;obtain⟨b1,b2,b3⟩:=Qn3 htc;exact⟨by omega,by omega,Qu5 s.Tiles _ htc (by omega) h⟩
theorem Qz9{s:Qar}{l:Int}(hl: -1<=l)(hl2:l<=1048576)(h:0<=Qlr s l):smSys s:=by
 have hb:=Qxk s.Set l hl;simp only[Qlr] at h;split at h
 .omega
 rename_i c;obtain⟨a1,a2,a3⟩:=Qn3 h;exact⟨szSet_sm hl hl2 (by omega),by omega⟩
def plC(s:Qar)(w:List Int)(l:List Opt):Int:=if askF s w s.Seed≠0 then 1 else (seqS s l).2.2
def l14P_.ar:List PK->Option (Qar×(List Int)×(List Opt)):=a3 (kP Qar.d 4) (kS intD) (kS Opt.d)
def l14P_.ae(a:Qar×(List Int)×(List Opt)):List PK:=[.ptr (Qar.c a.1),.val (.sl false 1 (a.2.1.map intC)),.val (.sl false 3 (a.2.2.map Opt.c))]
def l14P_.fv(a:Qar×(List Int)×(List Opt)):Int:=(plC) (a.1) (a.2.1) (a.2.2)
def l14P_.row:Row:=vrow l14P_.ar (fun a=>True) (fun a=>(D.int .i64) (l14P_.fv a))
def l14P_.q:=vq l14P_.row rfl
theorem l14P_.ok:Qas Tryz.prog 27 l14P_.row:=by
 refine Qaj Qaq (tC l14A_.ok (tC PlayS_.ok tN)) Tryz.func27 rfl (by kernel_rfl) (by kernel_rfl) (ar:=l14P_.ar) (ae:=l14P_.ae) (Qace (Qacc 4 Qar.d_le) (Qacb 1 Qb3 (fun _=>rfl)) (Qacb 3 Opt.d_le (fun _=>rfl))) (n:=3) (fun _=>rfl) (by decide) (rc:=(vInt)) (re:=(D.int .i64)) (Qa3) (f:=l14P_.fv) ?_;intro a hpre;simp only[Tryz.f27,Option.getD];simp(maxSteps:=9^9)(disch:=omega)only[ZZ,simprocAttr,rch,l14P_.ae,l14P_.fv,l14A_.q,l14A_.ar,l14A_.fv,PlayS_.q,PlayS_.ar,PlayS_.fv];simp only[plC];by_cases ha:askF a.1 a.2.1 a.1.Seed=0
 .rw[Zag (fun h=>h ha),Zag (fun h=>h ha)]
 .rw[Zak ha,Zak ha,(Qams _ _).resolve_left ha]
theorem plC_0{s:Qar}{w:List Int}{l:List Opt}(h:plC s w l=0):askF s w s.Seed=0/\(seqS s l).2.2=0:=by
 simp only[plC] at h;split at h
 .cases h
 .rename_i c;exact⟨Zes.1 c,h⟩
theorem plC_ws{s:Qar}{w:List Int}{l:List Opt}(op:Frac->Frac->Frac×Int)(g:Int->Int)(f:Frac)(h:plC s w l≠0):wsF op g f s w l=(⟨0,0⟩,plC s w l):=by
 simp only[plC] at h⊢;simp only[wsF];split
 .rfl
 .rename_i c;rw[Zag c] at h;rw[Zak h]
theorem plC_ok{s:Qar}{w:List Int}{l:List Opt}(op:Frac->Frac->Frac×Int)(g:Int->Int)(f:Frac)(h:plC s w l=0):wsF op g f s w l=Qalx s w op g s.Seed f l:=by
 obtain⟨h1,h2⟩:=plC_0 h;simp only[wsF];rw[Zag (fun c=>c h1),Zag (fun c=>c h2)]
def eqFrac_.ar:List PK->Option (Frac×Frac):=a2 (kR Frac.d) (kR Frac.d)
def eqFrac_.ae(a:Frac×Frac):List PK:=[.val (.agg (Frac.c a.1)),.val (.agg (Frac.c a.2))]
def eqFrac_.fv(a:Frac×Frac):Bool:=(fun a b=>decide (a=b)) (a.1) (a.2)
def eqFrac_.row:Row:=vrow eqFrac_.ar (fun a=>True) (fun a=>(D.bool) (eqFrac_.fv a))
def eqFrac_.q:=vq eqFrac_.row rfl
theorem eqFrac_.ok:Qas Tryz.prog 14 eqFrac_.row:=by
 refine Qaj Qaq tN Tryz.func14 rfl (by kernel_rfl) (by kernel_rfl) (ar:=eqFrac_.ar) (ae:=eqFrac_.ae) (Qaca (Qab8 Frac.d_le) (Qab8 Frac.d_le)) (n:=2) (fun _=>rfl) (by decide) (rc:=(Qa8)) (re:=(D.bool)) (Qat) (f:=eqFrac_.fv) ?_;intro a hpre;simp only[Tryz.f14,Option.getD];simp(maxSteps:=9^9)(disch:=omega)only[ZZ,simprocAttr,rch,eqFrac_.ae,eqFrac_.fv];obtain⟨⟨x,y⟩,⟨z,w⟩⟩:=a;simp only[Frac.mk.injEq]
 grind
def refO.ar:List PK->Option (Qar×(List Int)×(List Opt)):=a3 (kR Qar.d) (kS intD) (kS Opt.d)
def refO.ae(a:Qar×(List Int)×(List Opt)):List PK:=[.val (.agg (Qar.c a.1)),.val (.sl false 1 (a.2.1.map intC)),.val (.sl false 3 (a.2.2.map Opt.c))]
def refO.fv(a:Qar×(List Int)×(List Opt)):Frac×Int:=(fun s w l=>wsF mulF (fun x=>x) ⟨1,1⟩ s w l) (a.1) (a.2.1) (a.2.2)
def refO.row:Row:=vrow refO.ar (fun a=>True) (fun a=>(fun b=>D.tup [(fun b=>D.agg (Frac.c b)) (b.1),(D.int .i64) (b.2)]) (refO.fv a))
def refO.q:=vq refO.row rfl
def Ybh:=J @refO.ae.eq_1<|J @refO.fv.eq_1<|J @l14P_.q<|J @l14P_.ar.eq_1<|J @l14P_.fv.eq_1<|J @totsS_.q<|J @totsS_.ar.eq_1<|J @totsS_.fv.eq_1<|J @mkS_.q<|J @mkS_.ar.eq_1<|J @mkS_.fv.eq_1<|J @mulS_.q<|J @mulS_.ar.eq_1 @mulS_.fv.eq_1
theorem refO.ok:Qas Tryz.prog 9 refO.row:=by
 refine Qaj Qaq (tC l14P_.ok (tC totsS_.ok (tC oneS.ok (tC mkS_.ok (tC mulS_.ok tN))))) Tryz.func9 rfl (by kernel_rfl) (by kernel_rfl) (ar:=refO.ar) (ae:=refO.ae) (Qace (Qab8 Qar.d_le) (Qacb 1 Qb3 (fun _=>rfl)) (Qacb 3 Opt.d_le (fun _=>rfl))) (n:=3) (fun _=>rfl) (by decide) (rc:=(Qfa (vAgg Frac.d) (vInt))) (re:=(fun b=>D.tup [(fun b=>D.agg (Frac.c b)) (b.1),(D.int .i64) (b.2)])) (Qbz (Qb1 Frac.d_le) (Qa3)) (f:=refO.fv) ?_;intro a hpre;simp only[Tryz.f9,Option.getD];simp(maxSteps:=9^9)(disch:=omega)only[ZZ,simprocAttr,rch,Ybh];obtain⟨s,w,l⟩:=a;simp only;by_cases hp:plC s w l=0
 case neg=>
  rw[Zak hp,plC_ws _ _ _ hp]
 rw[Zag (fun h=>h hp),plC_ok _ _ _ hp];obtain⟨ha,hc⟩:=plC_0 hp;obtain⟨hw,h5⟩:=Qam2 ha hc;refine⟨hw,?_⟩;refine orow.os () [] trivial (fun j=>by simp[domB,hget]) rfl rfl ?_ ?_
 .simp(maxSteps:=9^9)(disch:=omega)only[ZZ,simprocAttr,rch,Ybh,oneC.ca,Qer]
 simp(maxSteps:=9^9)(disch:=omega)only[ZZ,simprocAttr,rch,Ybh,oneC.r0,sub,Frac.c];refine Qay.old ⟨{q:Nat×Frac//q.1<=l.length/\okFr q.2/\Qalx s w mulF (fun x=>x) (Qac9 s.Seed (l.take q.1)) q.2 (l.drop q.1)=Qalx s w mulF (fun x=>x) s.Seed ⟨1,1⟩ l},fun q=>⟨[(11,.im (.int .i64 q.1.1)),(10,.ptr 2 0),(9,.im (.sl false 1 ((Qalq s w s.Seed l).map intC))),(7,.im (.int .i64 0)),(6,.ptr 1 0),(1,.im (.sl false 1 (w.map intC))),(2,.im (.sl false 3 (l.map Opt.c)))],[(2,(true,.cells 36 [.im (.int .i64 q.1.2.Num),.im (.int .i64 q.1.2.Den)])),(1,(true,.cells 36 [.im (.int .i64 0),.im (.int .i64 0)]))],3⟩,fun q=>l.length - q.1.1,fun q=>⟨by simp[Qad.good,belT,belH,Qam,AV.bel,belL],by simp⟩,⟨⟨(0,⟨1,1⟩),by simp only;exact⟨ZaZ _,okFr1,rfl⟩⟩,by simp(maxSteps:=9^9)(disch:=omega)only[ZZ,simprocAttr,rch,Ybh,sub]⟩,fun q=> ?_⟩;obtain⟨⟨k,fr⟩,hk1,hfr,hsp⟩:=q;simp only at hk1 hfr hsp;simp(maxSteps:=9^9)(disch:=omega)only[ZZ,simprocAttr,rch,Ybh,sub,Qal];intro _;refine⟨fun hk=> ?_,fun hk=> ?_⟩
 .obtain⟨x,hx⟩: ∃x,l[k]? =some x:=⟨_,Zad hk⟩;obtain⟨g1,g2,g3,g4,g5,g6,g7,g8,g9⟩:=Qal5 hw hx;rw[Qd3 hx] at hsp;simp only[Qalx] at hsp;have hfold:Qac9 s.Seed (l.take (k+1))=putA (Qac9 s.Seed (l.take k)) x.At x.Tile:=by rw[Qwe hx,Qadp]
  rw[<-hfold] at hsp;refine⟨hk,fun y hy=> ?_⟩;obtain rfl:x=y:=Zaa (hx.symm.trans hy);refine⟨g5.1,g5.2,fun v hv=>⟨by rw[Qalu];exact hk,fun z hz=> ?_⟩⟩;have hv2:wAt w x.Tile=v:=by simp only[wAt,hv,Zae]
  have hz2:totW w (Qaj8 s (Qac9 s.Seed (l.take k)))=z:=by rw[Qamh s w l s.Seed k hk] at hz;exact Zaa hz
  rw[hv2] at g6 g7 hsp;rw[hz2] at g8 g9 hsp;have hp:=Qamf (by omega:(0:Int)<=v) g8 (Qalp (by omega:(0:Int)<=v) (by omega) g8 g9);have hgd:=Qalr fr _ hfr hp;refine⟨⟨⟨by omega,by omega⟩,⟨by omega,by omega⟩,by omega⟩,⟨hfr,hp⟩,fun c=> ?_,fun c=> ?_⟩
  .rw[<-hsp,Zak c]
  .have c0:=Zes.1 c;rw[Zag c] at hsp;refine⟨⟨(k+1,_),by simp only;exact⟨by omega,hgd.elim (fun h=>h.2) (fun h=>by rw[h] at c0;simp at c0),hsp⟩⟩,by simp only;omega,by rw[Qak (by omega) (by omega)];simp only;omega,rfl,rfl⟩
 .rw[Zat (by omega)] at hsp;rw[<-hsp];rfl
def lawO.ar:List PK->Option (Qar×(List Int)×(List Opt)):=a3 (kR Qar.d) (kS intD) (kS Opt.d)
def lawO.ae(a:Qar×(List Int)×(List Opt)):List PK:=[.val (.agg (Qar.c a.1)),.val (.sl false 1 (a.2.1.map intC)),.val (.sl false 3 (a.2.2.map Opt.c))]
def lawO.rc:D->Option (Bool):=Qa8
def lawO.re:Bool->D:=D.bool
theorem lawO.rle: ∀d b,lawO.rc d=some b->Le d (lawO.re b):=Qat
def lawO.fv(a:Qar×(List Int)×(List Opt)):Bool:=(fun _ _ _=>true) (a.1) (a.2.1) (a.2.2)
def lawO.row:Row:=vrow lawO.ar (fun a=>nmOk a.1.Set) (fun a=>lawO.re (lawO.fv a))
def lawO.q:=vq lawO.row rfl
theorem lawO.ok:Qas Tryz.prog 3 lawO.row:=by
 refine Qaj Qaq (tC szSystem.ok (tC szOptionS.ok (tC toSystem.ok (tC toInt64S.ok (tC toOptionS.ok (tC refO.ok (tC topO.ok (tC eqFrac_.ok (tC eqSystem.ok (tC eqInt64S.ok (tC eqOptionS.ok tN))))))))))) Tryz.func3 rfl (by kernel_rfl) (by kernel_rfl) (ar:=lawO.ar) (ae:=lawO.ae) (Qace (Qab8 Qar.d_le) (Qacb 1 Qb3 (fun _=>rfl)) (Qacb 3 Opt.d_le (fun _=>rfl))) (n:=3) (fun _=>rfl) (by decide) (rc:=lawO.rc) (re:=lawO.re) lawO.rle (f:=lawO.fv) ?_;intro a hpre;simp only[Tryz.f3,Option.getD];simp(maxSteps:=9^9)(disch:=omega)only[ZZ,simprocAttr,rch,lawO.ae,lawO.fv,lawO.rc,szSystem.q,szSystem.ar,szSystem.fv,szOptionS.q,szOptionS.ar,szOptionS.fv,toSystem.q,toSystem.ar,toSystem.fv,toInt64S.q,toInt64S.ar,toInt64S.fv,toOptionS.q,toOptionS.ar,toOptionS.fv,refO.q,refO.ar,refO.fv,topO.q,topO.ar,topO.fv,eqFrac_.q,eqFrac_.ar,eqFrac_.fv,eqSystem.q,eqSystem.ar,eqSystem.fv,eqInt64S.q,eqInt64S.ar,eqInt64S.fv,eqOptionS.q,eqOptionS.ar,eqOptionS.fv];obtain⟨s,w,l⟩:=a;simp only at hpre⊢;intro _;split
 .trivial
 rename_i c9;refine⟨hpre,?_⟩;split
 .trivial
 rename_i c1;have h1:=Qz9 (s:=s) (l:=1048576) (by decide) (by decide) (by omega);have hb:=szSys_b s 1048576 (by decide);refine⟨⟨by omega,by omega⟩,?_⟩;split
 .trivial
 rename_i c2;obtain⟨b1,_,_⟩:=Qn3 (n:=l.length) (l:=Qlr s 1048576) (by omega);have h3:l.length<=1073741824:=by omega
 have h4:w.length<=1073741824:=by omega
 exact⟨h1,h4,h3,h1,h4,h3,hpre,h1,h4,h3⟩
def refT.ar:List PK->Option (Qar×(List Int)×(List Opt)):=a3 (kR Qar.d) (kS intD) (kS Opt.d)
def refT.ae(a:Qar×(List Int)×(List Opt)):List PK:=[.val (.agg (Qar.c a.1)),.val (.sl false 1 (a.2.1.map intC)),.val (.sl false 3 (a.2.2.map Opt.c))]
def refT.fv(a:Qar×(List Int)×(List Opt)):Frac×Int:=(fun s w l=>wsF addF (fun _=>1) ⟨0,1⟩ s w l) (a.1) (a.2.1) (a.2.2)
def refT.row:Row:=vrow refT.ar (fun a=>True) (fun a=>(fun b=>D.tup [(fun b=>D.agg (Frac.c b)) (b.1),(D.int .i64) (b.2)]) (refT.fv a))
def refT.q:=vq refT.row rfl
def Ybi:=J @refT.ae.eq_1<|J @refT.fv.eq_1<|J @l14P_.q<|J @l14P_.ar.eq_1<|J @l14P_.fv.eq_1<|J @totsS_.q<|J @totsS_.ar.eq_1<|J @totsS_.fv.eq_1<|J @addS_.q<|J @addS_.ar.eq_1 @addS_.fv.eq_1
theorem refT.ok:Qas Tryz.prog 18 refT.row:=by
 refine Qaj Qaq (tC l14P_.ok (tC totsS_.ok (tC zerS.ok (tC addS_.ok tN)))) Tryz.func18 rfl (by kernel_rfl) (by kernel_rfl) (ar:=refT.ar) (ae:=refT.ae) (Qace (Qab8 Qar.d_le) (Qacb 1 Qb3 (fun _=>rfl)) (Qacb 3 Opt.d_le (fun _=>rfl))) (n:=3) (fun _=>rfl) (by decide) (rc:=(Qfa (vAgg Frac.d) (vInt))) (re:=(fun b=>D.tup [(fun b=>D.agg (Frac.c b)) (b.1),(D.int .i64) (b.2)])) (Qbz (Qb1 Frac.d_le) (Qa3)) (f:=refT.fv) ?_;intro a hpre;simp only[Tryz.f18,Option.getD];simp(maxSteps:=9^9)(disch:=omega)only[ZZ,simprocAttr,rch,Ybi];obtain⟨s,w,l⟩:=a;simp only;by_cases hp:plC s w l=0
 case neg=>
  rw[Zak hp,plC_ws _ _ _ hp]
 rw[Zag (fun h=>h hp),plC_ok _ _ _ hp];obtain⟨ha,hc⟩:=plC_0 hp;obtain⟨hw,h5⟩:=Qam2 ha hc;refine⟨hw,?_⟩;refine orow.os () [] trivial (fun j=>by simp[domB,hget]) rfl rfl ?_ ?_
 .simp(maxSteps:=9^9)(disch:=omega)only[ZZ,simprocAttr,rch,Ybi,oneC.ca,Qer]
 simp(maxSteps:=9^9)(disch:=omega)only[ZZ,simprocAttr,rch,Ybi,zerC.r0,sub,Frac.c];refine Qay.old ⟨{q:Nat×Frac//q.1<=l.length/\okFr q.2/\Qalx s w addF (fun _=>1) (Qac9 s.Seed (l.take q.1)) q.2 (l.drop q.1)=Qalx s w addF (fun _=>1) s.Seed ⟨0,1⟩ l},fun q=>⟨[(11,.im (.int .i64 q.1.1)),(10,.ptr 2 0),(9,.im (.sl false 1 ((Qalq s w s.Seed l).map intC))),(7,.im (.int .i64 0)),(6,.ptr 1 0),(1,.im (.sl false 1 (w.map intC))),(2,.im (.sl false 3 (l.map Opt.c)))],[(2,(true,.cells 36 [.im (.int .i64 q.1.2.Num),.im (.int .i64 q.1.2.Den)])),(1,(true,.cells 36 [.im (.int .i64 0),.im (.int .i64 0)]))],3⟩,fun q=>l.length - q.1.1,fun q=>⟨by simp[Qad.good,belT,belH,Qam,AV.bel,belL],by simp⟩,⟨⟨(0,⟨0,1⟩),by simp only;exact⟨ZaZ _,okFr0,rfl⟩⟩,by simp(maxSteps:=9^9)(disch:=omega)only[ZZ,simprocAttr,rch,Ybi,sub]⟩,fun q=> ?_⟩;obtain⟨⟨k,fr⟩,hk1,hfr,hsp⟩:=q;simp only at hk1 hfr hsp;simp(maxSteps:=9^9)(disch:=omega)only[ZZ,simprocAttr,rch,Ybi,sub,Qal];intro _;refine⟨fun hk=> ?_,fun hk=> ?_⟩
 .obtain⟨x,hx⟩: ∃x,l[k]? =some x:=⟨_,Zad hk⟩;obtain⟨g1,g2,g3,g4,g5,g6,g7,g8,g9⟩:=Qal5 hw hx;rw[Qd3 hx] at hsp;simp only[Qalx] at hsp;have hfold:Qac9 s.Seed (l.take (k+1))=putA (Qac9 s.Seed (l.take k)) x.At x.Tile:=by rw[Qwe hx,Qadp]
  rw[<-hfold] at hsp;refine⟨by rw[Qalu];exact hk,fun z hz=> ?_⟩;have hz2:totW w (Qaj8 s (Qac9 s.Seed (l.take k)))=z:=by rw[Qamh s w l s.Seed k hk] at hz;exact Zaa hz
  rw[hz2] at g8 g9 hsp;have h1z:=mkF_one g8 g9;have hp:=Qamf (by omega:(0:Int)<=1) g8 (Qalp (by omega:(0:Int)<=1) (by omega) g8 g9);have hgd:=Qamx fr _ hfr hp;rw[h1z] at hp hgd;simp only at hp hgd;rw[h1z] at hsp;simp only at hsp;refine⟨⟨hfr,hp⟩,fun c=> ?_,fun c=> ?_⟩
  .rw[<-hsp,Zak c]
  .have c0:=Zes.1 c;rw[Zag c] at hsp;refine⟨⟨(k+1,_),by simp only;exact⟨by omega,hgd.elim (fun h=>h.2) (fun h=>by rw[h] at c0;simp at c0),hsp⟩⟩,by simp only;omega,by rw[Qak (by omega) (by omega)];simp only;omega,rfl,rfl⟩
 .rw[Zat (by omega)] at hsp;rw[<-hsp];rfl
def lawT.ar:List PK->Option (Qar×(List Int)×(List Opt)):=a3 (kR Qar.d) (kS intD) (kS Opt.d)
def lawT.ae(a:Qar×(List Int)×(List Opt)):List PK:=[.val (.agg (Qar.c a.1)),.val (.sl false 1 (a.2.1.map intC)),.val (.sl false 3 (a.2.2.map Opt.c))]
def lawT.rc:D->Option (Bool):=Qa8
def lawT.re:Bool->D:=D.bool
theorem lawT.rle: ∀d b,lawT.rc d=some b->Le d (lawT.re b):=Qat
def lawT.fv(a:Qar×(List Int)×(List Opt)):Bool:=(fun _ _ _=>true) (a.1) (a.2.1) (a.2.2)
def lawT.row:Row:=vrow lawT.ar (fun a=>nmOk a.1.Set) (fun a=>lawT.re (lawT.fv a))
def lawT.q:=vq lawT.row rfl
theorem lawT.ok:Qas Tryz.prog 4 lawT.row:=by
 refine Qaj Qaq (tC szSystem.ok (tC szOptionS.ok (tC toSystem.ok (tC toInt64S.ok (tC toOptionS.ok (tC refT.ok (tC topT.ok (tC eqFrac_.ok (tC eqSystem.ok (tC eqInt64S.ok (tC eqOptionS.ok tN))))))))))) Tryz.func4 rfl (by kernel_rfl) (by kernel_rfl) (ar:=lawT.ar) (ae:=lawT.ae) (Qace (Qab8 Qar.d_le) (Qacb 1 Qb3 (fun _=>rfl)) (Qacb 3 Opt.d_le (fun _=>rfl))) (n:=3) (fun _=>rfl) (by decide) (rc:=lawT.rc) (re:=lawT.re) lawT.rle (f:=lawT.fv) ?_;intro a hpre;simp only[Tryz.f4,Option.getD];simp(maxSteps:=9^9)(disch:=omega)only[ZZ,simprocAttr,rch,lawT.ae,lawT.fv,lawT.rc,szSystem.q,szSystem.ar,szSystem.fv,szOptionS.q,szOptionS.ar,szOptionS.fv,toSystem.q,toSystem.ar,toSystem.fv,toInt64S.q,toInt64S.ar,toInt64S.fv,toOptionS.q,toOptionS.ar,toOptionS.fv,refT.q,refT.ar,refT.fv,topT.q,topT.ar,topT.fv,eqFrac_.q,eqFrac_.ar,eqFrac_.fv,eqSystem.q,eqSystem.ar,eqSystem.fv,eqInt64S.q,eqInt64S.ar,eqInt64S.fv,eqOptionS.q,eqOptionS.ar,eqOptionS.fv];obtain⟨s,w,l⟩:=a;simp only at hpre⊢;intro _;split
 .trivial
 rename_i c9;refine⟨hpre,?_⟩;split
 .trivial
 rename_i c1;have h1:=Qz9 (s:=s) (l:=1048576) (by decide) (by decide) (by omega);have hb:=szSys_b s 1048576 (by decide);refine⟨⟨by omega,by omega⟩,?_⟩;split
 .trivial
 rename_i c2;obtain⟨b1,_,_⟩:=Qn3 (n:=l.length) (l:=Qlr s 1048576) (by omega);have h3:l.length<=1073741824:=by omega
 have h4:w.length<=1073741824:=by omega
 exact⟨h1,h4,h3,h1,h4,h3,hpre,h1,h4,h3⟩
end Go.Ae
