/- Lemmas. Conditions: none. -/
import Derived.Test.YtpbcpllkopnmkaaGreatDoorP12
import Derived.Shelf.SlSortCmp.WholeK
import Derived.Shelf.SlicesG.Cmp
import Derived.StillTailTactics
import Derived.Lib.Small
import Derived.Lib.Walk
import Derived.Shelf.SlSortCmp.NoneTotal
set_option linter.all false
set_option maxHeartbeats 8000000
set_option maxRecDepth 100000
namespace Go.Proofs
open Go.Shelf
def Tryz.sortPl_ren:Go.Shelf.Ren:=⟨fun|6=>129|15=>156|14=>155|28=>179|29=>180|20=>171|21=>172|22=>173|23=>174|24=>175|25=>176|26=>177|27=>178|46=>189|47=>190|48=>191|49=>192|50=>193|57=>203|n=>n,fun|22=>34|24=>105|25=>197|3=>3|39=>239|0=>0|53=>269|55=>271|4=>4|46=>263|45=>262|50=>251|5=>5|9=>9|66=>280|70=>284|76=>293|77=>294|n=>n,fun|n=>n⟩
theorem Tryz.sortPl:Go.Proofs.SlLaysF0.n6 Tryz.prog Tryz.sortPl_ren:={
 mixed:=by kernel_rfl
 f6:=⟨Tryz.f129.name,by decide,Tryz.func129.trans (ZbL some (by kernel_rfl))⟩
 f14:=⟨Tryz.f155.name,by decide,Tryz.func155.trans (ZbL some (by kernel_rfl))⟩
 f15:=Tryz.func156.trans (ZbL some (by kernel_rfl))
 f20:=⟨Tryz.f171.name,by decide,Tryz.func171.trans (ZbL some (by kernel_rfl))⟩
 f21:=⟨Tryz.f172.name,by decide,Tryz.func172.trans (ZbL some (by kernel_rfl))⟩
 f22:=⟨Tryz.f173.name,by decide,Tryz.func173.trans (ZbL some (by kernel_rfl))⟩
 f23:=⟨Tryz.f174.name,by decide,Tryz.func174.trans (ZbL some (by kernel_rfl))⟩
 f24:=⟨Tryz.f175.name,by decide,Tryz.func175.trans (ZbL some (by kernel_rfl))⟩
 f25:=⟨Tryz.f176.name,by decide,Tryz.func176.trans (ZbL some (by kernel_rfl))⟩
 f26:=⟨Tryz.f177.name,by decide,Tryz.func177.trans (ZbL some (by kernel_rfl))⟩
 f27:=⟨Tryz.f178.name,by decide,Tryz.func178.trans (ZbL some (by kernel_rfl))⟩
 f28:=Tryz.func179.trans (ZbL some (by kernel_rfl))
 f29:=Tryz.func180.trans (ZbL some (by kernel_rfl))
 f46:=⟨Tryz.f189.name,by decide,Tryz.func189.trans (ZbL some (by kernel_rfl))⟩
 f47:=Tryz.func190.trans (ZbL some (by kernel_rfl))
 f48:=Tryz.func191.trans (ZbL some (by kernel_rfl))
 f49:=⟨Tryz.f192.name,by decide,Tryz.func192.trans (ZbL some (by kernel_rfl))⟩
 f50:=⟨Tryz.f193.name,by decide,Tryz.func193.trans (ZbL some (by kernel_rfl))⟩
 f57:=⟨Tryz.f203.name,by decide,Tryz.func203.trans (ZbL some (by kernel_rfl))⟩
 t0:=Tryz.underlying0
 a0:=Tryz.isAgg0
 z0:=Tryz.sizeOf0
 v0:=Tryz.zeroValue0
 t3:=Tryz.underlying3
 a3:=Tryz.isAgg3
 z3:=Tryz.sizeOf3
 v3:=Tryz.zeroValue3
 t4:=Tryz.underlying4
 a4:=Tryz.isAgg4
 z4:=Tryz.sizeOf4
 v4:=Tryz.zeroValue4
 t5:=Tryz.underlying5
 a5:=Tryz.isAgg5
 z5:=Tryz.sizeOf5
 v5:=Tryz.zeroValue5
 t9:=Tryz.underlying9
 a9:=Tryz.isAgg9
 z9:=Tryz.sizeOf9
 v9:=Tryz.zeroValue9
 t22:=Tryz.underlying34
 a22:=Tryz.isAgg34
 z22:=Tryz.sizeOf34
 v22:=Tryz.zeroValue34
 t25:=Tryz.underlying197
 a25:=Tryz.isAgg197
 z25:=Tryz.sizeOf197
 v25:=Tryz.zeroValue197
 t39:=Tryz.underlying239
 a39:=Tryz.isAgg239
 z39:=Tryz.sizeOf239
 v39:=Tryz.zeroValue239
 t45:=Tryz.underlying262
 a45:=Tryz.isAgg262
 z45:=Tryz.sizeOf262
 v45:=Tryz.zeroValue262
 t46:=Tryz.underlying263
 a46:=Tryz.isAgg263
 z46:=Tryz.sizeOf263
 v46:=Tryz.zeroValue263
 t50:=Tryz.underlying251
 a50:=Tryz.isAgg251
 z50:=Tryz.sizeOf251
 v50:=Tryz.zeroValue251
 t53:=Tryz.underlying269
 a53:=Tryz.isAgg269
 z53:=Tryz.sizeOf269
 v53:=Tryz.zeroValue269
 t55:=Tryz.underlying271
 a55:=Tryz.isAgg271
 z55:=Tryz.sizeOf271
 v55:=Tryz.zeroValue271
 t66:=Tryz.underlying280
 a66:=Tryz.isAgg280
 z66:=Tryz.sizeOf280
 v66:=Tryz.zeroValue280
 t70:=Tryz.underlying284
 a70:=Tryz.isAgg284
 z70:=Tryz.sizeOf284
 v70:=Tryz.zeroValue284
 t76:=Tryz.underlying293
 a76:=Tryz.isAgg293
 z76:=Tryz.sizeOf293
 v76:=Tryz.zeroValue293
 t77:=Tryz.underlying294
 a77:=Tryz.isAgg294
 z77:=Tryz.sizeOf294
 v77:=Tryz.zeroValue294}
def Tryz.sortPt_ren:Go.Shelf.Ren:=⟨fun|6=>169|15=>156|14=>188|28=>179|29=>180|20=>195|21=>196|22=>197|23=>198|24=>199|25=>200|26=>201|27=>202|46=>206|47=>190|48=>191|49=>207|50=>208|57=>209|n=>n,fun|22=>128|24=>72|25=>196|3=>3|39=>239|0=>0|53=>269|55=>271|4=>4|46=>263|45=>262|50=>251|5=>5|9=>9|66=>280|70=>284|76=>293|77=>294|n=>n,fun|n=>n⟩
theorem Tryz.sortPt:Go.Proofs.SlLaysF0.n6 Tryz.prog Tryz.sortPt_ren:={
 mixed:=by kernel_rfl
 f6:=⟨Tryz.f169.name,by decide,Tryz.func169.trans (ZbL some (by kernel_rfl))⟩
 f14:=⟨Tryz.f188.name,by decide,Tryz.func188.trans (ZbL some (by kernel_rfl))⟩
 f15:=Tryz.func156.trans (ZbL some (by kernel_rfl))
 f20:=⟨Tryz.f195.name,by decide,Tryz.func195.trans (ZbL some (by kernel_rfl))⟩
 f21:=⟨Tryz.f196.name,by decide,Tryz.func196.trans (ZbL some (by kernel_rfl))⟩
 f22:=⟨Tryz.f197.name,by decide,Tryz.func197.trans (ZbL some (by kernel_rfl))⟩
 f23:=⟨Tryz.f198.name,by decide,Tryz.func198.trans (ZbL some (by kernel_rfl))⟩
 f24:=⟨Tryz.f199.name,by decide,Tryz.func199.trans (ZbL some (by kernel_rfl))⟩
 f25:=⟨Tryz.f200.name,by decide,Tryz.func200.trans (ZbL some (by kernel_rfl))⟩
 f26:=⟨Tryz.f201.name,by decide,Tryz.func201.trans (ZbL some (by kernel_rfl))⟩
 f27:=⟨Tryz.f202.name,by decide,Tryz.func202.trans (ZbL some (by kernel_rfl))⟩
 f28:=Tryz.func179.trans (ZbL some (by kernel_rfl))
 f29:=Tryz.func180.trans (ZbL some (by kernel_rfl))
 f46:=⟨Tryz.f206.name,by decide,Tryz.func206.trans (ZbL some (by kernel_rfl))⟩
 f47:=Tryz.func190.trans (ZbL some (by kernel_rfl))
 f48:=Tryz.func191.trans (ZbL some (by kernel_rfl))
 f49:=⟨Tryz.f207.name,by decide,Tryz.func207.trans (ZbL some (by kernel_rfl))⟩
 f50:=⟨Tryz.f208.name,by decide,Tryz.func208.trans (ZbL some (by kernel_rfl))⟩
 f57:=⟨Tryz.f209.name,by decide,Tryz.func209.trans (ZbL some (by kernel_rfl))⟩
 t0:=Tryz.underlying0
 a0:=Tryz.isAgg0
 z0:=Tryz.sizeOf0
 v0:=Tryz.zeroValue0
 t3:=Tryz.underlying3
 a3:=Tryz.isAgg3
 z3:=Tryz.sizeOf3
 v3:=Tryz.zeroValue3
 t4:=Tryz.underlying4
 a4:=Tryz.isAgg4
 z4:=Tryz.sizeOf4
 v4:=Tryz.zeroValue4
 t5:=Tryz.underlying5
 a5:=Tryz.isAgg5
 z5:=Tryz.sizeOf5
 v5:=Tryz.zeroValue5
 t9:=Tryz.underlying9
 a9:=Tryz.isAgg9
 z9:=Tryz.sizeOf9
 v9:=Tryz.zeroValue9
 t22:=Tryz.underlying128
 a22:=Tryz.isAgg128
 z22:=Tryz.sizeOf128
 v22:=Tryz.zeroValue128
 t25:=Tryz.underlying196
 a25:=Tryz.isAgg196
 z25:=Tryz.sizeOf196
 v25:=Tryz.zeroValue196
 t39:=Tryz.underlying239
 a39:=Tryz.isAgg239
 z39:=Tryz.sizeOf239
 v39:=Tryz.zeroValue239
 t45:=Tryz.underlying262
 a45:=Tryz.isAgg262
 z45:=Tryz.sizeOf262
 v45:=Tryz.zeroValue262
 t46:=Tryz.underlying263
 a46:=Tryz.isAgg263
 z46:=Tryz.sizeOf263
 v46:=Tryz.zeroValue263
 t50:=Tryz.underlying251
 a50:=Tryz.isAgg251
 z50:=Tryz.sizeOf251
 v50:=Tryz.zeroValue251
 t53:=Tryz.underlying269
 a53:=Tryz.isAgg269
 z53:=Tryz.sizeOf269
 v53:=Tryz.zeroValue269
 t55:=Tryz.underlying271
 a55:=Tryz.isAgg271
 z55:=Tryz.sizeOf271
 v55:=Tryz.zeroValue271
 t66:=Tryz.underlying280
 a66:=Tryz.isAgg280
 z66:=Tryz.sizeOf280
 v66:=Tryz.zeroValue280
 t70:=Tryz.underlying284
 a70:=Tryz.isAgg284
 z70:=Tryz.sizeOf284
 v70:=Tryz.zeroValue284
 t76:=Tryz.underlying293
 a76:=Tryz.isAgg293
 z76:=Tryz.sizeOf293
 v76:=Tryz.zeroValue293
 t77:=Tryz.underlying294
 a77:=Tryz.isAgg294
 z77:=Tryz.sizeOf294
 v77:=Tryz.zeroValue294}
def Tryz.cmpI64_ren:Go.Shelf.Ren:=⟨fun|5=>158|7=>181|n=>n,fun|22=>2|3=>3|4=>4|n=>n,fun|n=>n⟩
theorem Tryz.cmpI64:Go.Proofs.SlLaysC2.n5 Tryz.prog Tryz.cmpI64_ren:={
 mixed:=by kernel_rfl
 f5:=⟨Tryz.f158.name,by decide,Tryz.func158.trans (ZbL some (by kernel_rfl))⟩
 f7:=⟨Tryz.f181.name,by decide,Tryz.func181.trans (ZbL some (by kernel_rfl))⟩
 t3:=Tryz.underlying3
 a3:=Tryz.isAgg3
 z3:=Tryz.sizeOf3
 v3:=Tryz.zeroValue3
 t4:=Tryz.underlying4
 a4:=Tryz.isAgg4
 z4:=Tryz.sizeOf4
 v4:=Tryz.zeroValue4
 t22:=Tryz.underlying2
 a22:=Tryz.isAgg2
 z22:=Tryz.sizeOf2
 v22:=Tryz.zeroValue2}
end Go.Proofs
namespace Go.Proofs
open Go.Shelf Go.RowKit Go.Lib Go.Sort
theorem Tryz.cmp64(x y:Int)(W:World):Calls Tryz.prog 158 #[.int .i64 x,.int .i64 y] W fun e w'=>e= .returned (.int .i64 (Lib.compareInt x y))/\w'=W:=
 AnyG.cmp_Compare_int Tryz.cmpI64 x y W
theorem Tryz.orTwo(b:Nat)(x y:Int)(W:World)(h0:W.cell? ⟨b,0,none⟩=some (.int .i64 x))(h1:W.cell? ⟨b,1,none⟩=some (.int .i64 y)):
 Calls Tryz.prog 157 #[.slice (some ⟨b,0,none⟩) 2 2] W fun e w'=>e= .returned (.int .i64 (if x=0 then y else x))/\w'=W:=by
 go_enter Tryz.func157,Tryz.ntmps157
 go_wp2
 refine wp_loop_rounds 3 ?_;rw[rounds_succ]
 go_wp2
 all_goals (try rw[rounds_succ])
 all_goals (try go_wp2)
 all_goals (try rw[rounds_succ])
 all_goals (try go_wp2)
 all_goals (go_ret;refine⟨?_,rfl⟩;simp_all)
theorem two_cells(W:World)(a b a' b':Value)(T:TypeId):
 let w3:=((W.alloc (Obj.cells #[a,b] T)).alloc (Obj.cells #[a',b'] T)).drew
 w3.cell? ⟨W.heap.size,0,none⟩=some a/\w3.cell? ⟨W.heap.size,1,none⟩=some b/\w3.cell? ⟨W.heap.size+1,0,none⟩=some a'/\w3.cell? ⟨W.heap.size+1,1,none⟩=some b'/\
  ∃os0,w3=grow (W.drewN 1) os0:=by
 have e:((W.alloc (Obj.cells #[a,b] T)).alloc (Obj.cells #[a',b'] T)).drew=grow (W.drewN 1) #[Obj.cells #[a,b] T,Obj.cells #[a',b'] T]:=by
  rw[alloc_eq_grow,alloc_eq_grow,grow_grow];rfl
 have h0:(W.heap++ #[Obj.cells #[a,b] T,Obj.cells #[a',b'] T])[W.heap.size]? =some (Obj.cells #[a,b] T):=by
  rw[Zeb (Zal _),Zcc];rfl
 have h1:(W.heap++ #[Obj.cells #[a,b] T,Obj.cells #[a',b'] T])[W.heap.size+1]? =some (Obj.cells #[a',b'] T):=by
  rw[Zeb (Nat.le_succ _),show W.heap.size.succ - W.heap.size=1 by omega];rfl
 simp only[e];refine⟨?_,?_,?_,?_,_,rfl⟩<;>unfold World.cell? <;>simp only[grow,World.drewN,h0,h1]<;>rfl
theorem Qvb(w:World)(a b:Value)(T:TypeId):(w.alloc (Obj.cells #[a,b] T)).cell? ⟨w.heap.size,0,none⟩=some a/\(w.alloc (Obj.cells #[a,b] T)).cell? ⟨w.heap.size,1,none⟩=some b:=by
 have h0:(w.heap.push (Obj.cells #[a,b] T))[w.heap.size]? =some (Obj.cells #[a,b] T):=by simp
 constructor<;>unfold World.cell? <;>simp only[World.alloc,h0]<;>rfl
def Qabu(p q:Int×Int):Int:=if Lib.compareInt p.2 q.2=0 then Lib.compareInt p.1 q.1 else Lib.compareInt p.2 q.2
theorem Tryz.cmpPoints(x y x' y':Int)(W:World):Calls Tryz.prog 131 #[.agg #[.int .i64 x,.int .i64 y],.agg #[.int .i64 x',.int .i64 y']] W fun e w'=>
 e= .returned (.int .i64 (Qabu (x,y) (x',y')))/\ ∃q os',w'=grow (W.drewN q) os':=by
 have hc1:=fun W'=>Tryz.cmp64 y y' W'
 have hc2:=fun W'=>Tryz.cmp64 x x' W'
 unfold Qabu;simp only;generalize Lib.compareInt y y'=r1 at hc1⊢;generalize Lib.compareInt x x'=r2 at hc2⊢;have hor:=fun (b:Nat) W'=>Tryz.orTwo b r1 r2 W'
 generalize (if r1=0 then r2 else r1)=r at hor⊢
 go_enter Tryz.func131,Tryz.ntmps131
 go_wp2
 refine wp_region_still_tail 10 (by kernel_rfl) (by kernel_rfl) ?_;simp only[ZbZ,ZbP,ZbW,ZbK];obtain⟨d1,d2,d3,d4,hg⟩:=two_cells W (.int .i64 x) (.int .i64 y) (.int .i64 x') (.int .i64 y') 72;change wpStill _ _ ((W.alloc (Obj.cells #[Value.int IntKind.i64 x,Value.int IntKind.i64 y] 72)).alloc (Obj.cells #[Value.int IntKind.i64 x',Value.int IntKind.i64 y'] 72)).drew (fun a'=>wpList _ _ _ _ a' ((W.alloc (Obj.cells #[Value.int IntKind.i64 x,Value.int IntKind.i64 y] 72)).alloc (Obj.cells #[Value.int IntKind.i64 x',Value.int IntKind.i64 y'] 72)).drew) _ _;generalize ((W.alloc (Obj.cells #[Value.int IntKind.i64 x,Value.int IntKind.i64 y] 72)).alloc (Obj.cells #[Value.int IntKind.i64 x',Value.int IntKind.i64 y'] 72)).drew=w3 at d1 d2 d3 d4 hg⊢
 still_step
 still_step
 still_step
 still_step
 still_call (hc1 _)
 still_step
 still_step
 still_step
 still_step
 still_call (hc2 _)
 refine wpStill_nil ?_
 go_wp2_with (go_at_call 157;refine (hor _ _ (Qvb _ _ _ _).1 (Qvb _ _ _ _).2).mono ?_;rintro e w' ⟨rfl,rfl⟩)
 go_ret
 obtain⟨os0,rfl⟩:=hg;exact⟨rfl,1,_,by rw[alloc_eq_grow,grow_grow]⟩
theorem Tryz.cmpPlaced90(x y t x' y' t':Int)(W:World):Calls Tryz.prog 130 #[.agg #[.int .i64 x,.int .i64 y,.int .i64 t],.agg #[.int .i64 x',.int .i64 y',.int .i64 t']] W fun e w'=>
 e= .returned (.int .i64 (Qabu (x,y) (x',y')))/\ ∃q os',w'=grow (W.drewN q) os':=by
 have hcon:=fun W'=>Tryz.cmpPoints x y x' y' W'
 generalize Qabu (x,y) (x',y')=r at hcon⊢
 go_enter Tryz.func130,Tryz.ntmps130
 go_wp2_with (go_at_call 131;refine (hcon _).mono ?_;rintro e w' ⟨rfl,q,os',rfl⟩)
 go_ret
 exact⟨rfl,q,_,by rw[alloc_eq_grow,alloc_eq_grow,grow_grow];show grow (grow (W.drewN q) _) os'=_;rw[grow_grow]⟩
end Go.Proofs
namespace Go.Ae
open Go.Proofs Go.Sort Go.Shelf
instance:Inhabited Qab:=⟨⟨⟨0,0⟩,0⟩⟩
def encP(x:Qab):List Value:=[.int .i64 x.At.X,.int .i64 x.At.Y,.int .i64 x.Tile]
def cfP(x y:Qab):Int:=Qabu (x.At.X,x.At.Y) (y.At.X,y.At.Y)
theorem Qz0(x y:Qab):ltOf cfP x y=Qap x.At y.At:=by
 simp only[ltOf,cfP,Qabu,Lib.compareInt,Qap]
 grind
theorem swoP:SWO (ltOf cfP) where
 irrefl x:=by rw[Qz0];simp only[Qap];grind
 trans x y z h1 h2:=by rw[Qz0] at*;simp only[Qap] at*;grind
 ntrans x y z h1 h2:=by rw[Qz0] at*;simp only[Qap] at*;grind
def Qfh(l:List Qab):List Qab:=l.foldr (fun x r=>insT x.At x.Tile r) []
theorem Qn1(x:Qab): ∀(l:List Qab),(insT x.At x.Tile l).Perm (x::l)
 |[]=>Zdm _
 |y::r=>by
  simp only[insT];split
  .exact Zdm _
  .exact ((Qn1 x r).cons y).trans (List.Perm.swap x y r)
theorem Qd4: ∀(l:List Qab),(Qfh l).Perm l
 |[]=>Zdm _
 |x::r=>(Qn1 x (Qfh r)).trans ((Qd4 r).cons x)
theorem Quq{a b c:Qae}(h1:Qap a b=true)(h2:Qap c b=false):Qap c a=false:=by
 simp only[Qap] at*;grind
theorem Qx3(x:Qab): ∀(l:List Qab),l.Pairwise (fun a b=>Qap b.At a.At=false)->(insT x.At x.Tile l).Pairwise (fun a b=>Qap b.At a.At=false)
 |[],_=>by simp[insT]
 |y::r,h=>by
  rw[Zcj] at h;simp only[insT];split
  .rename_i hl;rw[Zcj,Zcj];refine⟨fun z hz=> ?_,h⟩;have hyx:Qap y.At x.At=false:=by simp only[Qap] at*;grind
   rcases Zas.1 hz with rfl|hz
   .exact hyx
   .have:=h.1 z hz
    exact Quq hl this
  .rename_i hl;rw[Zcj];refine⟨fun z hz=> ?_,Qx3 x r h.2⟩;rcases (Qlc _ _ _ _).1 hz with rfl|hz
   .simpa using hl
   .exact h.1 z hz
theorem Qnm: ∀(l:List Qab),(Qfh l).Pairwise (fun a b=>Qap b.At a.At=false)
 |[]=>List.Pairwise.nil
 |x::r=>Qx3 x _ (Qnm r)
theorem Qacy(l:List Qab):(Qfh l).length=l.length:=(Qd4 l).length_eq
theorem at_inj{l:List Qab}(h:(l.map Qab.At).Nodup){x y:Qab}(hx:x∈l)(hy:y∈l)(he:x.At=y.At):x=y:=by
 induction l with
 |nil=>cases hx
 |cons z r ih=>
  rw[Zap,Zch] at h;rcases Zas.1 hx with h1|h1<;>rcases Zas.1 hy with h2|h2
  .rw[h1,h2]
  .exact absurd (show z.At∈r.map Qab.At by rw[<-h1,he];exact Zdi h2) h.1
  .exact absurd (show z.At∈r.map Qab.At by rw[<-h2,<-he];exact Zdi h1) h.1
  .exact ih h.2 h1 h2
theorem Qlp{l l':List Qab}(hd:(l.map Qab.At).Nodup)(hp:l'.Perm l)(hs:l'.Pairwise (fun a b=>Qap b.At a.At=false)):l'=Qfh l:=by
 refine Zez (le:=fun a b=>Qap b.At a.At=false) (fun a b ha hb h1 h2=> ?_) hs (Qnm l) (hp.trans (Qd4 l).symm);refine at_inj hd (hp.mem_iff.1 ha) ((Qd4 l).mem_iff.1 hb) ?_;revert h1 h2;obtain⟨⟨ax,ay⟩,at'⟩:=a;obtain⟨⟨bx,by'⟩,bt⟩:=b;simp only[Qap,Qae.mk.injEq]
 grind
def flP(l:List Qab):List Value:=l.flatMap encP
theorem flP_len(l:List Qab):(flP l).length=l.length*3:=by
 induction l with
 |nil=>rfl
 |cons x r ih=>simp only[flP,Zbn,ZaF,ZaL] at ih⊢;rw[ih];simp[encP];omega
theorem Ql5{ok:Nat->Prop}{hp:Nat->Option Obj}: ∀(l:List Qab) (L:List Value),rdr ok hp 3 (l.map Qab.c) L↔ ∃r,L=flP l++r
 |[],L=>by simp[rdr,flP]
 |x::r,L=>by
  simp only[Zap,rdr,Ql5 r,Qab.c,rdp,rd,flP,Zbn];constructor
  .rintro⟨_,⟨v,L1,rfl,rfl,v2,L2,rfl,rfl,v3,L3,rfl,rfl,_⟩,q,hq⟩;exact⟨q,by simp only[ZbW,ZbK] at hq;rw[hq];rfl⟩
  .rintro⟨q,rfl⟩;exact⟨rfl,⟨_,_,rfl,rfl,_,_,rfl,rfl,_,_,rfl,rfl,trivial⟩,q,rfl⟩
theorem flP_get: ∀(l:List Qab) (t:Nat),t<l.length*3->(flP l)[t]? =some ((encP (l[t/3]?.getD default))[t % 3]!)
 |[],t,h=>by simp at h
 |x::r,t,h=>by
  by_cases ht:t<3
  .have:t=0\/t=1\/t=2:=by omega
   rcases this with rfl|rfl|rfl<;>simp[flP,encP]
  .obtain⟨u,rfl⟩: ∃u,t=u+3:=⟨t - 3,by omega⟩;have e1:(u+3)/3=u/3+1:=by omega
   have e2:(u+3) % 3=u % 3:=by omega
   have ih:=flP_get r u (by simp at h;omega);rw[e1,e2,Zbj,<-ih];simp[flP,encP]
theorem Qvu(l:List Qab):(flatK encP 3 l.toArray).toList=flP l:=by
 apply ZbO;intro t;by_cases ht:t<l.length*3
 .rw[flP_get l t ht];have hs:t<(flatK encP 3 l.toArray).size:=by simp only[size_flatK,ZbX];exact ht
  have h1:=get_flatK encP 3 l.toArray t (by simpa using ht);rw[ZaX,ZaZ hs,<-getElem!_pos (flatK encP 3 l.toArray) t hs,h1];congr 3;simp[getElem!_def];cases l[t/3]? <;>rfl
 .have a1:(flatK encP 3 l.toArray).toList.length<=t:=by rw[ZaQ,size_flatK,ZbX];omega
  have a2:(flP l).length<=t:=by rw[flP_len];omega
  rw[ZaT a1,ZaT a2]
def srt.ca(_:List Qab):List AV:=[.own 0,.im (.fn 130 [] [])]
def srt.H0(a:List Qab):Qan:=[(0,(true,.arr 105 3 (a.map Qab.c)))]
def srt.H1(a:List Qab):Qan:=[(0,(true,.arr 105 3 ((Qfh a).map Qab.c)))]
def srt.row:Row:=orow srt.ca srt.H0 1 (fun a=>(a.map Qab.At).Nodup) (fun _=>true) (fun _=> .im (.tup [])) srt.H1 0
theorem srt.ok:Qas Tryz.prog 129 srt.row:=by
 rintro args h nx K ⟨a,τ,U,KL,hpre,rfl,hheap,hN,hK⟩;refine⟨Qh7 (by kernel_rfl),_,_,?_,hK⟩;intro C S vs R hW huse hfresh hnames hargs hfin;have hs0:sgx τ 1 nx 0=τ 0:=Zao (by omega);simp only[srt.ca,renL,AV.ren,hs0,Qa0,conc,rd,rdl] at hargs;obtain⟨v0,r0,hv,⟨hone,hown⟩,v1,r1,hr1,⟨ac,cc,hv1,hac,hcc⟩,hr2⟩:=hargs;have hac:ac= #[]:=by apply ZcU;simpa using hac
 have hcc:cc= #[]:=by apply ZcU;simpa using hcc
 subst hac hcc hr2 hr1 hv1;have hvs:vs= #[v0,.func (fnV 130) #[] #[]]:=by apply ZcU;simpa using hv
 subst hvs;have hm:h (τ 0)=some (true,.arr 105 3 (a.map Qab.c)):=by
  have:=hheap.1
  rwa [hs0] at this
 have hd0:domB (srt.H0 a) 0=true:=rfl;have hSm:S.h (τ 0)=some (true,.arr 105 3 (a.map Qab.c)):=by
  rw[huse (τ 0) (Zbx _ (hN.u 0 hd0)),hm]
 have hk0: ∀n,n∈KL↔n=τ 0:=by
  intro n;constructor
  .intro hn;obtain⟨j,h1,_,h3⟩:=hN.k1 n hn
   have:j=0:=by
    simp only[domB,srt.H0,hget] at h1;by_cases hj:j=0
    .exact hj
    .have:(0==j)=false:=by simpa using fun h=>hj h.symm
     rw[this] at h1;cases h1
   rw[h3,this]
  .rintro rfl;exact hN.k2 0 hd0 rfl
 obtain⟨m,hmm⟩: ∃m,m=τ 0:=⟨_,rfl⟩;rw[<-hmm] at hSm hown hk0;have hsl:=Qacy a;have fin: ∀(w':World),Qjb S m (.arr 105 3 ((Qfh a).map Qab.c)) (S.ρ m) [m] w'->
  (Pres (fun n=>S.h m≠none\/n≠m) S (S.one m (.arr 105 3 ((Qfh a).map Qab.c)) (S.ρ m) [m] w')->objc (S.one m (.arr 105 3 ((Qfh a).map Qab.c)) (S.ρ m) [m] w') (S.ρ m) (.arr 105 3 ((Qfh a).map Qab.c)))->R (.returned (.tuple #[])) w':=by
  intro w' hone hob;have hp:=Qg2 hW hone;refine hfin (.tuple #[]) _ (Qqp hW hone (hob hp)) ?_ ⟨hp.ok,fun n _=>hp.nm n (.inl (by rw[hSm];simp))⟩ ⟨#[],rfl,rfl⟩;funext n;simp only[Env.one,Eff.appf,srt.H1,renH,hs0,hget,AObj.ren,<-hmm];by_cases hn:n=m
  .subst hn;simp
  .have h1:(m==n)=false:=by simpa using fun h=>hn h.symm
   have h2:KL.contains n=false:=by
    rw[<-ZcJ,Zbh,hk0];exact hn
   simp only[h1,ZaM,h2,hn,ZbA,Zan]
 have hown':=hown _ hSm;have hobj:=hW.obj _ _ hSm;have hloc:=fun lc=>hW.loc m _ lc hSm
 cases hρ:S.ρ m with
 |none=>
  rw[hρ] at hown' hobj;simp only[objc] at hobj;have ha:a=[]:=by simpa using hobj.2
  subst ha;simp only at hown';rw[hown',Qoi (by decide)];refine (AnyF.slices_SortFunc_none Tryz.sortPl none 0 (.func (.func 130) #[] #[]) S.w).mono ?_;rintro e w' ⟨rfl,rfl⟩;refine fin S.w (Qacz hSm (fun l hl=>by rw[hρ] at hl;cases hl) rfl rfl) (fun _=> ?_);rw[hρ];exact⟨Zbc _,rfl⟩
 |some lc=>
  rw[hρ] at hown' hobj;simp only[objc,AObj.len] at hobj hown';obtain⟨g1,g2,cv,g3,g4,g5⟩:=hobj;obtain⟨hlb,hlk⟩:=hloc lc hρ;rw[Ql5] at g5;obtain⟨rest,g5⟩:=g5;simp only[Zbp] at g1 g2 hown';have hheap:S.w.heap[lc.b]? =some (.cells cv 105 (0,0)):=g3;have hlen:lc.p+a.length*3<=cv.size:=by omega
  have hF:(flatK encP 3 a.toArray).size=a.length*3:=by simp
  have hget: ∀j,j<a.length*3->cv[lc.p+j]? =some ((flatK encP 3 a.toArray)[j]!):=by
   intro j hj;have h1:(cv.toList.drop lc.p)[j]? =(flP a++rest)[j]? :=by rw[g5]
   rw[Zbw,ZaX,ZaC (by rw[flP_len];exact hj),<-Qvu,ZaX] at h1;rw[h1,ZaZ (by rw[hF];exact hj),getElem!_pos _ _ (by rw[hF];exact hj)]
  have hH:HoldsK encP 3 S.w lc.b lc.p a.toArray:=by
   intro j hj;rw[hF] at hj;refine⟨?_,?_⟩
   .simp only[World.cell?,hheap,Zcx,ZaB,ZbA,id];exact hget j hj
   .simp only[World.frozen?,hheap];simp
  have hc:=AnyQ.slices_SortFunc Tryz.sortPl 3 Tryz.isAgg105 Tryz.sizeOf105 encP (fun _=>rfl) (fun x v hv=>by simp[encP] at hv;rcases hv with rfl|rfl|rfl<;>rfl) cfP swoP 130 #[] lc.b lc.p lc.cap a.toArray S.w
   (Qhx (Qh7 (by kernel_rfl))) (fun m os dk hs x y=>Tryz.cmpPlaced90 _ _ _ _ _ _ _) hH hlb (by simp only[ZbX,LIM] at g1⊢;omega)
  rw[hown',Qoi (by decide)];refine hc.mono ?_;rintro e w' ⟨rfl,d',n,os,hperm,hsort,rfl⟩;have hsz:d'.size=a.length:=hperm.1;have hd':d'.toList=Qfh a:=by
   refine Qlp hpre ?_ ?_
   .have:=hperm.2.2
    rwa [show d'.extract 0 a.toArray.size=d' by rw[ZbX,<-hsz];exact Zdn,show a.toArray.extract 0 a.toArray.size=a.toArray from Zdn] at this
   .rw[ZdD];intro i j hi hj hij
    have:=hsort i j (Zbc _) hij (by rw[ZbX,<-hsz];simpa using hj)
    rw[Qz0,getElem!_pos d' i (by simpa using hi),getElem!_pos d' j (by simpa using hj)] at this;simpa using this
  obtain rfl:d'=(Qfh a).toArray:=by apply ZcU;rw[hd']
  have hF':(flatK encP 3 (Qfh a).toArray).size=a.length*3:=by simp[hsl]
  have hl2:(flatK encP 3 (Qfh a).toArray).toList.length=a.length*3:=by rw[ZaQ,hF']
  have hsize:S.w.heap.size<=(sortWorldK encP 3 S.w lc.b lc.p n (Qfh a).toArray os).heap.size:=by
   simp[sortWorldK,grow,putRowK,Sort.ahead]
  have hb: ∀b,b<S.w.heap.size->(sortWorldK encP 3 S.w lc.b lc.p n (Qfh a).toArray os).heap[b]? =if lc.b=b then S.w.heap[b]?.map (onCells (putCells id lc.p (flatK encP 3 (Qfh a).toArray))) else S.w.heap[b]? :=by
   intro b hb;have e0:b<(putRowK encP 3 (Sort.ahead S.w n) lc.b lc.p (Qfh a).toArray).heap.size:=by simpa[putRowK,Sort.ahead] using hb
   simp only[sortWorldK,grow];rw[Zdz e0];simp only[putRowK,putRow,mapBlock,Sort.ahead,ZdU]
  refine fin _ ⟨rfl,rfl,rfl,hsize,?_,.inl (by simp),?_,?_,?_⟩ ?_
  .intro b hb1 hb2;rw[hb b hb1,Zai (hb2 m _ lc (by simp) hSm hρ)]
  .intro lo hlo;rw[hρ] at hlo;obtain rfl:=Zaa hlo;exact⟨Zbb hlb hsize,.inr ⟨m,_,lc,by simp,hSm,hρ,rfl⟩⟩
  .intro f hf;rw[hSm] at hf;obtain rfl:=Zaa hf;exact⟨rfl,rfl,by simp[AObj.len,hsl]⟩
  .intro n' f _ hnone;rw[hSm] at hnone;cases hnone
  .intro _;rw[hρ];simp only[objc,Zbp,hsl];refine⟨g1,g2,putCells id lc.p (flatK encP 3 (Qfh a).toArray) cv,?_,by simpa[putCells] using g4,?_⟩
   .simp only[Env.one,Env.hp];rw[hb lc.b hlb,Zao rfl,hheap];rfl
   .rw[Ql5];refine⟨(cv.toList.drop (lc.p+a.length*3)),?_⟩;apply ZbO;intro t;rw[Zbw,ZaX,putCells,ZeG,hF',<-Qvu];by_cases ht:t<a.length*3
    .rw[ZaC (by rw[hl2];exact ht),ZaX,ZaZ (show lc.p+t<cv.size by omega),ZaZ (by rw[hF'];exact ht)];simp only[ZaO,id];rw[Zao ⟨by omega,by omega⟩,ZcM,getElem!_pos _ _ (by rw[hF'];exact ht)]
    .rw[ZaG (by rw[hl2];omega),hl2,Zbw,ZaX,show lc.p+a.length*3+(t - a.length*3)=lc.p+t by omega];cases cv[lc.p+t]? with
     |none=>rfl
     |some x=>simp only[ZaO];rw[Zai (by omega)]
end Go.Ae
namespace Go.Ae
open Go.Proofs
def mkPl(q:Qae×Int):Qab:=⟨q.1,q.2⟩
def repM1(m:Sim)(t:List (Qae×Int))(x:Qab):Option (List (Qae×Int)):=
 if (m.Labels[x.Tile.toNat]?.getD 0)<0 then some t
 else if (lkP t (Qgu x.At m.Scale).1).getD (m.Labels[x.Tile.toNat]?.getD 0)≠(m.Labels[x.Tile.toNat]?.getD 0) then none
 else some (updP t (Qgu x.At m.Scale).1 (m.Labels[x.Tile.toNat]?.getD 0))
theorem find_perm{l l':List Qab}(hp:l.Perm l')(hd:(l'.map Qab.At).Nodup)(p:Qae):l.find? (fun x=>decide (x.At=p))=l'.find? (fun x=>decide (x.At=p)):=by
 cases h1:l.find? (fun x=>decide (x.At=p)) with
 |none=>
  symm;rw[Zdo] at h1⊢;exact fun x hx=>h1 x (hp.mem_iff.2 hx)
 |some x=>
  have hx:=hp.mem_iff.1 (Zda h1);have hxp:=Zdp h1;cases h2:l'.find? (fun x=>decide (x.At=p)) with
  |none=>
   rw[Zdo] at h2;exact absurd hxp (h2 x hx)
  |some y=>
   have hy:=Zda h2;have hyp:=Zdp h2;rw[at_inj hd hx hy];rw[Zay] at hxp hyp;rw[hxp,hyp]
theorem lk_find(p:Qae): ∀(t:List (Qae×Int)),(((t.map mkPl).find? (fun x=>decide (x.At=p))).map Qab.Tile)=lkP t p
 |[]=>rfl
 |(k,w)::r=>by
  simp only[Zap,Zef,mkPl,lkP];by_cases h:k=p
  .subst h;simp
  .have h1:decide (k=p)=false:=by simpa using h
   have h2: ¬p=k:=fun h3=>h h3.symm
   rw[h1,Zai h2];exact lk_find p r
theorem Qac3(t:List (Qae×Int)):(t.map mkPl).map Qab.At=t.map Prod.fst:=by simp[mkPl]
theorem lk_at{t:List (Qae×Int)}(hd:(t.map Prod.fst).Nodup)(p:Qae):atA ⟨Qfh (t.map mkPl)⟩ p=(lkP t p).getD (-1):=by
 have hd':((t.map mkPl).map Qab.At).Nodup:=by rw[Qac3];exact hd
 simp only[atA];rw[find_perm (Qd4 _) hd',lk_find]
theorem Qm3{t:List (Qae×Int)}{p:Qae}(v:Int)(h:lkP t p=none):updP t p v=t++[(p,v)]:=by
 induction t with
 |nil=>rfl
 |cons q r ih=>
  obtain⟨k,w⟩:=q;simp only[lkP] at h;split at h
  .cases h
  .rename_i hn;simp only[updP,Zai hn,ZaH];rw[ih h]
theorem updP_same{t:List (Qae×Int)}{p:Qae}{v:Int}(h:lkP t p=some v):updP t p v=t:=by
 induction t with
 |nil=>cases h
 |cons q r ih=>
  obtain⟨k,w⟩:=q;simp only[lkP] at h;simp only[updP];split at h
  .rename_i he;obtain rfl:=Zaa h;rw[Zao he,he]
  .rename_i hn;rw[Zai hn,ih h]
theorem Qyz{t:List (Qae×Int)}{p:Qae}(h:lkP t p=none):p∉t.map Prod.fst:=by
 induction t with
 |nil=>simp
 |cons q r ih=>
  obtain⟨k,w⟩:=q;simp only[lkP] at h;split at h
  .cases h
  .rename_i hn;simp only[Zap,Zas,Zff];exact⟨hn,ih h⟩
theorem Qac0{t:List (Qae×Int)}{p:Qae}{v:Int}(h:lkP t p=some v):(p,v)∈t:=by
 induction t with
 |nil=>cases h
 |cons q r ih=>
  obtain⟨k,w⟩:=q;simp only[lkP] at h;split at h
  .rename_i he;obtain rfl:=Zaa h;rw[he];exact Zar ..
  .exact Zam _ (ih h)
structure RM(t:List (Qae×Int))(o:Asm)(k:Nat):Prop where
 nd:(t.map Prod.fst).Nodup
 pos: ∀q∈t,0<=q.2
 eq:o=⟨Qfh (t.map mkPl)⟩
 len:t.length<=k
theorem RM.step{m:Sim}{t:List (Qae×Int)}{o:Asm}{k:Nat}(h:RM t o k)(x:Qab):(∃t' o',repM1 m t x=some t'/\repS1 m o x=some o'/\RM t' o' (k+1))\/(repM1 m t x=none/\repS1 m o x=none):=by
 obtain⟨nd,pos,rfl,len⟩:=h;simp only[repM1,repS1];generalize m.Labels[x.Tile.toNat]?.getD 0=n;generalize (Qgu x.At m.Scale).1=p;by_cases c1:n<0
 .rw[Zao c1,Zao c1];exact .inl ⟨_,_,rfl,rfl,nd,pos,rfl,by omega⟩
 rw[Zai c1,Zai c1,lk_at nd];cases hq:lkP t p with
 |none=>
  simp only[Option.getD_none];rw[Zai (by simp),Zai (by omega),Zao (by omega)];refine .inl ⟨_,_,rfl,rfl,?_,?_,?_,?_⟩
  .rw[Qm3 n hq,Zbv,Zcu];refine⟨nd,by simp,?_⟩;intro a ha b hb hab;simp only[Zap,ZaS,Zan] at hb;exact Qyz hq (by rw[<-hb,<-hab];exact ha)
  .intro q hm;rw[Qm3 n hq] at hm;rcases Zaq.1 hm with hm|hm
   .exact pos q hm
   .simp only[Zan] at hm;subst hm;simp only;omega
  .rw[Qi8,Qm3 n hq];congr 1;have hd':(((t++[(p,n)]).map mkPl).map Qab.At).Nodup:=by
    rw[Qac3,Zbv,Zcu];refine⟨nd,by simp,?_⟩;intro a ha b hb hab;simp only[Zap,ZaS,Zan] at hb;exact Qyz hq (by rw[<-hb,<-hab];exact ha)
   refine Qlp hd' ?_ (Qx3 ⟨p,n⟩ _ (Qnm _));refine (Qn1 ⟨p,n⟩ _).trans ?_;rw[Zbv];refine ((Qd4 _).cons _).trans ?_;exact (Zem _ _).symm
  .rw[Qm3 n hq];simp;omega
 |some v=>
  simp only[Zag];have hv:=pos _ (Qac0 hq);simp only at hv;by_cases c2:v=n
  .subst c2;rw[Zai (by simp),Zai (by simp),Zai (by omega),updP_same hq];exact .inl ⟨_,_,rfl,rfl,nd,pos,rfl,by omega⟩
  .rw[Zao c2,Zao ⟨hv,c2⟩];exact .inr ⟨rfl,rfl⟩
theorem Qala{s:Qaa}{a:Asm}(h: ∀x∈a.Tiles,Qcs s x.Tile)(p:Qae):Qaw (fun x=>decide (x.At=p)) 0 a.Tiles<0↔atA a p<0:=by
 simp only[atA];rcases Qep (fun x=>decide (x.At=p)) a.Tiles 0 with ⟨h1,h2⟩|⟨i,x,h1,h2,h3⟩
 .rw[h1,h2];simp
 .rw[h1,h2]
  have:=(h x (Zac h3)).1
  simp only[ZaO,Zag];omega
theorem RM.put{t:List (Qae×Int)}{o:Asm}{k:Nat}(h:RM t o k){p:Qae}{v:Int}(hv:0<=v)(hn:lkP t p=none):RM (updP t p v) (putA o p v) (k+1):=by
 obtain⟨nd,pos,rfl,len⟩:=h;have hnd:((t++[(p,v)]).map Prod.fst).Nodup:=by
  rw[Zbv,Zcu];refine⟨nd,by simp,?_⟩;intro a ha b hb hab;simp only[Zap,ZaS,Zan] at hb;exact Qyz hn (by rw[<-hb,<-hab];exact ha)
 rw[Qm3 v hn];refine⟨hnd,?_,?_,by simp;omega⟩
 .intro q hm;rcases Zaq.1 hm with hm|hm
  .exact pos q hm
  .simp only[Zan] at hm;subst hm;exact hv
 .rw[Qi8];congr 1;have hd':(((t++[(p,v)]).map mkPl).map Qab.At).Nodup:=by rw[Qac3];exact hnd
  refine Qlp hd' ?_ (Qx3 ⟨p,v⟩ _ (Qnm _));refine (Qn1 ⟨p,v⟩ _).trans ?_;rw[Zbv];refine ((Qd4 _).cons _).trans ?_;exact (Zem _ _).symm
theorem RM.at{t:List (Qae×Int)}{o:Asm}{k:Nat}(h:RM t o k):Qbw t=atA o:=by
 funext p;rw[h.eq,lk_at h.nd];rfl
theorem RM.size{t:List (Qae×Int)}{o:Asm}{k:Nat}(h:RM t o k):o.Tiles.length=t.length:=by
 rw[h.eq];simp only[Qacy,Zbp]
theorem Qac4: ∀(l t:List Qab),((t++l).map Qab.At).Nodup->l.foldl (fun u x=>updP u x.At x.Tile) (t.map fun x=>(x.At,x.Tile))=(t++l).map fun x=>(x.At,x.Tile)
 |[],t,_=>by simp
 |x::r,t,h=>by
  have hx:lkP (t.map fun x=>(x.At,x.Tile)) x.At=none:=by
   cases hq:lkP (t.map fun x=>(x.At,x.Tile)) x.At with
   |none=>rfl
   |some v=>
    exfalso;obtain⟨y,hy,he⟩:=Zaw.1 (Qac0 hq);have e1:y.At=x.At:=ZbL Prod.fst he;rw[Zbv,Zcu] at h;exact h.2.2 _ (Zdi hy) _ (Zdi (Zar ..)) e1
  rw[Zdq,Qm3 _ hx]
  have:=Qac4 r (t++[x]) (by simpa using h)
  simpa using this
theorem RM.of{a:Asm}(hf:Qaz none a.Tiles=true)(hp: ∀x∈a.Tiles,0<=x.Tile):RM (tlUp a.Tiles) a a.Tiles.length:=by
 have hn:=Qix hf;have e:tlUp a.Tiles=a.Tiles.map fun x=>(x.At,x.Tile):=by
  have:=Qac4 a.Tiles [] (by simpa using hn)
  simpa[tlUp] using this
 have em:(a.Tiles.map fun x=>(x.At,x.Tile)).map mkPl=a.Tiles:=by
  rw[ZcO];exact List.map_id' _
 rw[e];refine⟨by rw[ZcO];exact hn,?_,?_,by simp⟩
 .intro q hq;obtain⟨x,hx,rfl⟩:=Zaw.1 hq;exact hp x hx
 .rw[em];have hs:=(Qe4 _ _ hf).2;have hw:a.Tiles.Pairwise (fun x y=>Qap y.At x.At=false):=by
   rw[ZdD];intro i j hi hj hij
   have:=hs i j a.Tiles[i] a.Tiles[j] hij (Zad hi) (Zad hj)
   simp only[Qap] at this⊢
   grind
  rw[<-Qlp hn (Zdm _) hw]
def eqOption.fv(a:Opt×Opt):Bool:=(fun a b=>decide (a=b)) (a.1) (a.2)
def eqOption.row:Row:=vK (b2 (qR Opt.d_le) (qR Opt.d_le)) rB (fun a=>True) eqOption.fv
def eqOption.q:=vKq (R:=eqOption.row) rfl
theorem eqOption.ok:Qas Tryz.prog 32 eqOption.row:=by
 refine vw (tC eqPoint.ok tN) Tryz.func32 rfl (by kernel_rfl) ?_;intro a hpre;simp only[Tryz.f32,Option.getD];simp(maxSteps:=9^9)(disch:=omega)only[ZZ,simprocAttr,rch,eqOption.fv,eqPoint.q,eqPoint.fv];obtain⟨⟨⟨x,y⟩,u⟩,⟨⟨z,w⟩,v⟩⟩:=a;simp only[Opt.mk.injEq,Qae.mk.injEq]
 grind
def l03Own.fv(a:Asm):Asm:=(fun a=>a) a
def l03Own.row:Row:=vK (b1 (qP 1 Asm.d_le)) (rA Asm.d_le) (fun a=>a.Tiles.length<=1000000) l03Own.fv
def l03Own.q:=vKq (R:=l03Own.row) rfl
theorem l03Own.ok:Qas Tryz.prog 47 l03Own.row:=by
 refine vw tN Tryz.func47 rfl (by kernel_rfl) ?_;intro a hpre;simp only[Tryz.f47,Option.getD];simp(maxSteps:=9^9)(disch:=omega)only[ZZ,simprocAttr,rch,l03Own.fv];exact⟨by simp[OneR,allD,D.one,Qab.c],by omega⟩
theorem can_in{s:Qar}{b:Asm}(hs:s.Set.Tiles.length<=160)(ha:Qn7 s.Set b){o:Opt}(h:canS s b o=true):Qn7 s.Set (putA b o.At o.Tile):=by
 simp only[canS,Zah,Zay] at h;obtain⟨d1,d2,d3,_⟩:=h;have hno:=Qma d3;have hw:Qau o.Tile 0 159=true:=by
  simp only[Qau,Zah,Zay] at d2⊢;omega
 refine⟨?_,?_⟩
 .rw[Qi8];exact Qki d1 hw _ none ha.1 (fun q hq=>by cases hq) hno
 .intro x hx;rw[Qi8] at hx;rcases (Qlc _ _ _ _).1 hx with rfl|hx
  .simp only[Qau,Zah,Zay] at d2;exact⟨by simp only;omega,by simp only;omega⟩
  .exact ha.2 x hx
theorem Qacj{s:Qar}(h:Qjc s=true):(setP s.Set/\Qn7 s.Set s.Seed/\s.Set.Tiles.length<=160/\s.Seed.Tiles.length<=1000000)/\Qcl s.Set=true/\Qcp s.Set s.Seed=true:=by
 simp only[Qjc,Zah] at h;obtain⟨h1,h2,_⟩:=h;have h3:=Qdg h2;have h4:=Qge h1;have h5:=h1;simp only[Qcl,Qau,Zah,Zay] at h5;exact⟨⟨h4,h3.1,by omega,by omega⟩,h1,h2⟩
theorem Qwf{A B:Type}(f:A->B): ∀(l:List A) (i:Nat),(l.map f).eraseIdx i=(l.eraseIdx i).map f
 |[],_=>rfl
 |_::_,0=>rfl
 |x::r,i+1=>by simp only[Zap,ZcK,Qwf f r i]
theorem Qqq{A:Type}: ∀(l:List A) (i:Nat) (x:A),l[i]? =some x->(x::l.eraseIdx i).Perm l
 |[],i,x,h=>by simp at h
 |y::r,0,x,h=>by
  simp only[ZaU,Zab] at h;subst h;exact Zdm _
 |y::r,i+1,x,h=>by
  rw[Zbj] at h;rw[ZcK];exact (List.Perm.swap y x _).trans ((Qqq r i x h).cons y)
def putT(c:Cry)(p:Qae)(t:Int):Cry:=⟨c.Sys,updP c.Tl p t,Qrz c.Sys (Qbw (updP c.Tl p t)) (delP c.Op p) p 4⟩
theorem putT_in{s:Qaa}{t:List (Qae×Int)}{p:Qae}{v:Int}(h:inF s (Qbw t))(hv:Qcs s v):inF s (Qbw (updP t p v)):=by
 intro q hq;simp only[Qbw,Qyq] at hq⊢;by_cases c:q=p
 .rw[Zao c];exact hv
 .rw[Zai c] at hq⊢;exact h q hq
def putC.ca(a:Cry×Qae×Int):List AV:=[.ptr 0 0,.im (.agg [.int .i64 a.2.1.X,.int .i64 a.2.1.Y]),.im (.int .i64 a.2.2)]
def putC.H1(a:Cry×Qae×Int):Qan:=[(1,(true,.map ⟨true,[.int .i64,.int .i64]⟩ ((putT a.1 a.2.1 a.2.2).Tl.map Qbe))),(2,(true,.map ⟨true,[.int .i64,.int .i64]⟩ ((putT a.1 a.2.1 a.2.2).Op.map Qbc)))]
def kl12(j:Nat):Bool:=j==1||j==2
def putC.row:Row:=orow putC.ca (fun a=>cryH a.1) 3 (fun a=>cryPre a.1/\Qdy a.2.1/\Qcs a.1.Sys.Set a.2.2) kl12 (fun _=> .im (.tup [])) putC.H1 0
theorem putC.ok:Qas Tryz.prog 125 putC.row:=by
 refine ow (tC lookC.ok tN) Tryz.func125 rfl (by kernel_rfl) (exB:=fun _=>false) (R:=fun _ r=>r= .im (.tup [])) (fun _=>rfl)
  (fun a=>by simp[putC.ca,cryH,Qbk,putC.H1,kl12,belL,AV.bel,belH,Qam,Qc2,AObj.nms,nmsL,AV.nms,domB,hget]) (fun a p hp=> ?_) (fun a r h=>by subst h;exact LeV.refl _) ?_
 rotate_left
 intro a hpre;simp only[Tryz.f125,Option.getD,putC.ca,cryH,Qbk,putC.H1,kl12];simp(maxSteps:=9^9)(disch:=omega)only[ZZ,simprocAttr,rch,ORB,putC.ca,cryH,Qbk,putC.H1,kl12];obtain⟨hp1,hp2,hp3⟩:=hpre;rw[upd_pi,del_ps];have hq:cryPre ⟨a.1.Sys,updP a.1.Tl a.2.1 a.2.2,delP a.1.Op a.2.1⟩:=⟨hp1.1,putT_in hp1.2.1 hp3,hp1.2.2⟩;refine orow.os (⟨a.1.Sys,updP a.1.Tl a.2.1 a.2.2,delP a.1.Op a.2.1⟩,a.2.1) [0,1,2] ⟨hq,hp2⟩ (fun j=>Qack _ j) rfl rfl ?_ ?_
 .simp(maxSteps:=9^9)(disch:=omega)only[ZZ,simprocAttr,rch,ORB,putC.ca,cryH,Qbk,putC.H1,kl12,lookC.ca,cryH,Qbk,Zbd]
 .simp(maxSteps:=9^9)(disch:=omega)only[ZZ,simprocAttr,rch,ORB,putC.ca,cryH,Qbk,putC.H1,kl12,lookC.H1,kl2,sub,putT]
 simp[putC.H1] at hp;rcases hp with rfl|rfl
 .exact .inl ⟨by omega,rfl,rfl⟩
 .exact .inl ⟨by omega,rfl,rfl⟩
def asmC.ca(_:Cry):List AV:=[.ptr 0 0]
def klA(j:Nat):Bool:=j==1
theorem asmT_perm{t:List (Qae×Int)}{l:List Qab}(hd:(t.map Prod.fst).Nodup)(h:l.Perm (t.map mkPl)):Qfh l=Qfh (t.map mkPl)/\(l.map Qab.At).Nodup/\l.length=t.length:=by
 have hd':((t.map mkPl).map Qab.At).Nodup:=by rw[Qac3];exact hd
 refine⟨Qlp hd' ((Qd4 l).trans h) (Qnm l),(h.map Qab.At).nodup_iff.2 hd',by rw[h.length_eq,Zbp]⟩
def asmT(t:List (Qae×Int)):Asm:=⟨Qfh (t.map mkPl)⟩
end Go.Ae
namespace Go.Ae
end Go.Ae
namespace Go.Ae
open Go.Proofs
theorem Qadk{s:Qar}{b:Asm}{o:Opt}(h:canS s b o=true):Qbi o.At=true/\Qdy o.At/\0<=o.Tile/\o.Tile<s.Set.Tiles.length/\Qcs s.Set o.Tile/\(∀x∈b.Tiles,x.At≠o.At):=by
 simp only[canS,Zah,Zay] at h;obtain⟨d1,d2,d3,_⟩:=h;simp only[Qau,Zah,Zay] at d2;exact⟨d1,Qkc d1,d2.1,by omega,⟨d2.1,by omega⟩,Qma d3⟩
def nonE{A:Type}(l:List A):Option (List A):=if l=[] then none else some l
abbrev Qajt(s:Qar)(f:Qae->Int)(q:Qae):List Int:=Qm0 s f q s.Set.Tiles.length
def OpOk(s:Qar)(f:Qae->Int)(op:List (Qae×List Int)):Prop:=(op.map Prod.fst).Nodup/\ ∀q,lkP op q=nonE (Qajt s f q)
theorem Qaj1{s:Qar}{f:Qae->Int}{q:Qae}(h: ∀k:Int,Qpg s f q k=false): ∀n,Qm0 s f q n=[]
 |0=>rfl
 |n+1=>by simp only[Qm0,Qaj1 h n,h,ZbB];rfl
theorem Qamc{s:Qar}{f:Qae->Int}{q:Qae}(h:0<=f q)(n:Nat):Qm0 s f q n=[]:=
 Qaj1 (fun k=>by simp only[Qpg];rw[Zdv (show ¬f q<0 by omega)];simp) n
theorem Qakr{s:Qaa}{f:Qae->Int}{q:Qae}{t:Int}(h: ∀d:Nat,d<4->f (Qf7 q d)<0): ∀k,k<=4->Qhs s f q t k=0
 |0,_=>rfl
 |k+1,hk=>by
  have:=h k (by omega)
  simp only[Qhs,Qakr h k (by omega),Quh];rw[Zai (by omega)];rfl
theorem Qakp{s:Qar}{f:Qae->Int}{q:Qae}(hT:1<=s.Temperature)(h: ∀d:Nat,d<4->f (Qf7 q d)<0)(n:Nat):Qm0 s f q n=[]:=
 Qaj1 (fun k=>by simp only[Qpg,Qakr h 4 (Zal _)];rw[Zdv (show ¬s.Temperature<=0 by omega)];simp) n
theorem Qalw{s:Qaa}{f g:Qae->Int}{q:Qae}{t:Int}(h: ∀d:Nat,d<4->f (Qf7 q d)=g (Qf7 q d)): ∀k,k<=4->Qhs s f q t k=Qhs s g q t k
 |0,_=>rfl
 |k+1,hk=>by simp only[Qhs,Qalw h k (by omega),Quh,h k (by omega)]
theorem Qalv{s:Qar}{f g:Qae->Int}{q:Qae}(h0:f q=g q)(h: ∀d:Nat,d<4->f (Qf7 q d)=g (Qf7 q d)): ∀n,Qm0 s f q n=Qm0 s g q n
 |0=>rfl
 |n+1=>by
  have e:Qpg s f q n=Qpg s g q n:=by simp only[Qpg,h0,Qalw h 4 (Zal _)]
  simp only[Qm0,Qalv h0 h n,e]
theorem lkP_no{β:Type}{p:Qae}: ∀{l:List (Qae×β)},p∉l.map Prod.fst->lkP l p=none
 |[],_=>rfl
 |(k,v)::r,h=>by
  simp only[Zap,Zas,Zff] at h;simp only[lkP];rw[Zai h.1,lkP_no h.2]
theorem Qakn{β:Type}{p:Qae}: ∀{l:List (Qae×β)},p∈l.map Prod.fst-> ∃v,lkP l p=some v/\(p,v)∈l
 |[],h=>by simp at h
 |(k,v)::r,h=>by
  simp only[lkP];by_cases c:p=k
  .rw[Zao c,c];exact⟨v,rfl,Zar ..⟩
  .rw[Zai c];obtain⟨w,h1,h2⟩:=Qakn (l:=r) (by simpa[c] using h);exact⟨w,h1,Zam _ h2⟩
theorem lkP_in{β:Type}{p:Qae}{l:List (Qae×β)}:p∈l.map Prod.fst↔lkP l p≠none:=by
 constructor
 .intro h;obtain⟨v,h1,_⟩:=Qakn h;rw[h1];simp
 .intro h;apply Zci;intro h2;exact h (lkP_no h2)
theorem Qak7{β:Type}{p q:Qae}: ∀{l:List (Qae×β)},q∈(delP l p).map Prod.fst->q∈l.map Prod.fst
 |[],h=>by simp[delP] at h
 |(k,v)::r,h=>by
  simp only[delP] at h;split at h
  .exact Zam _ h
  .simp only[Zap,Zas] at h⊢;rcases h with h|h
   .exact .inl h
   .exact .inr (Qak7 h)
theorem Qamm{β:Type}{p:Qae}: ∀{l:List (Qae×β)},(l.map Prod.fst).Nodup->((delP l p).map Prod.fst).Nodup
 |[],h=>h
 |(k,v)::r,h=>by
  simp only[Zap,Zch] at h;simp only[delP];split
  .exact h.2
  .simp only[Zap,Zch];exact⟨fun h2=>h.1 (Qak7 h2),Qamm h.2⟩
theorem Qamj{β:Type}{p:Qae}(q:Qae): ∀{l:List (Qae×β)},(l.map Prod.fst).Nodup->lkP (delP l p) q=if q=p then none else lkP l q
 |[],_=>by simp[delP,lkP]
 |(k,v)::r,h=>by
  simp only[Zap,Zch] at h;simp only[delP];by_cases c:p=k
  .rw[Zao c];by_cases e:q=p
   .rw[Zao e,e,c];exact lkP_no h.1
   .rw[Zai e];simp only[lkP];rw[Zai (fun h2=>e (h2.trans c.symm))]
  .rw[Zai c];simp only[lkP];by_cases e:q=k
   .rw[Zao e,Zao e,Zai (fun h2=>c (h2.symm.trans e))]
   .rw[Zai e,Zai e,Qamj q h.2]
theorem updP_ky{β:Type}{p q:Qae}{v:β}: ∀{l:List (Qae×β)},q∈(updP l p v).map Prod.fst↔q=p\/q∈l.map Prod.fst
 |[]=>by simp[updP]
 |(k,w)::r=>by
  simp only[updP];split
  .rename_i c;subst c;simp
  .simp only[Zap,Zas,updP_ky (l:=r)];constructor
   .rintro (h|h|h)
    .exact .inr (.inl h)
    .exact .inl h
    .exact .inr (.inr h)
   .rintro (h|h|h)
    .exact .inr (.inl h)
    .exact .inl h
    .exact .inr (.inr h)
theorem Qak9{β:Type}{p:Qae}{v:β}: ∀{l:List (Qae×β)},(l.map Prod.fst).Nodup->((updP l p v).map Prod.fst).Nodup
 |[],_=>by simp[updP]
 |(k,w)::r,h=>by
  simp only[Zap,Zch] at h;simp only[updP];split
  .rename_i c;subst c;simp only[Zap,Zch];exact h
  .rename_i c;simp only[Zap,Zch];refine⟨fun h2=> ?_,Qak9 h.2⟩;rcases updP_ky.1 h2 with e|e
   .exact c e.symm
   .exact h.1 e
theorem lookS_nd{s:Qar}{f:Qae->Int}{op:List (Qae×List Int)}{q:Qae}(h:(op.map Prod.fst).Nodup):((Qak2 s f op q).map Prod.fst).Nodup:=by
 simp only[Qak2];split
 .exact Qamm h
 .exact Qak9 h
theorem lookS_lk{s:Qar}{f:Qae->Int}{op:List (Qae×List Int)}{p:Qae}(h:(op.map Prod.fst).Nodup)(q:Qae):lkP (Qak2 s f op p) q=if q=p then nonE (Qajt s f q) else lkP op q:=by
 simp only[Qak2];by_cases c:Qm0 s f p s.Set.Tiles.length=[]
 .rw[Zao c,Qamj q h];by_cases e:q=p
  .subst e;rw[Zao rfl,Zao rfl,nonE,Zao c]
  .rw[Zai e,Zai e]
 .rw[Zai c,Qyq];by_cases e:q=p
  .subst e;rw[Zao rfl,Zao rfl,nonE,Zai c]
  .rw[Zai e,Zai e]
theorem Qakk{s:Qar}{f:Qae->Int}{op:List (Qae×List Int)}{p:Qae}(h:(op.map Prod.fst).Nodup): ∀k,((Qrz s f op p k).map Prod.fst).Nodup
 |0=>h
 |k+1=>lookS_nd (Qakk h k)
def Qaj9(p q:Qae):Prop:= ∃d:Nat,d<4/\Qf7 p d=q
theorem Qalc{s:Qar}{f:Qae->Int}{op:List (Qae×List Int)}{p:Qae}(h:(op.map Prod.fst).Nodup)(q:Qae): ∀k,(∀d:Nat,d<k->Qf7 p d≠q)/\lkP (Qrz s f op p k) q=lkP op q\/(∃d:Nat,d<k/\Qf7 p d=q)/\lkP (Qrz s f op p k) q=nonE (Qajt s f q)
 |0=> .inl ⟨fun d hd=>absurd hd (by omega),rfl⟩
 |k+1=>by
  have ih:=Qalc (s:=s) (f:=f) (p:=p) h q k;simp only[Qrz,lookS_lk (Qakk h k)];by_cases c:q=Qf7 p k
  .rw[Zao c];exact .inr ⟨⟨k,by omega,c.symm⟩,rfl⟩
  .rw[Zai c];rcases ih with ⟨h1,h2⟩|⟨⟨d,h1,h2⟩,h3⟩
   .refine .inl ⟨fun d hd=> ?_,h2⟩;by_cases e:d=k
    .subst e;exact fun h=>c h.symm
    .exact h1 d (by omega)
   .exact .inr ⟨⟨d,by omega,h2⟩,h3⟩
theorem look4{s:Qar}{f:Qae->Int}{op:List (Qae×List Int)}{p:Qae}(h:(op.map Prod.fst).Nodup)(q:Qae):(¬Qaj9 p q/\lkP (Qrz s f op p 4) q=lkP op q)\/(Qaj9 p q/\lkP (Qrz s f op p 4) q=nonE (Qajt s f q)):=by
 rcases Qalc (s:=s) (f:=f) h q 4 with ⟨h1,h2⟩|h
 .exact .inl ⟨fun ⟨d,hd,e⟩=>h1 d hd e,h2⟩
 .exact .inr h
theorem step_back(p:Qae){d:Nat}(h:d<4):Qf7 (Qf7 p d) ((d+2) % 4:Nat)=p:=by
 rcases (by omega:d=0\/d=1\/d=2\/d=3) with rfl|rfl|rfl|rfl<;>simp[Qf7]<;>omega
theorem Qake{p q:Qae}(h:Qaj9 p q):Qaj9 q p:=by
 obtain⟨d,hd,rfl⟩:=h;exact⟨(d+2) % 4,by omega,step_back p hd⟩
theorem Qak1{s:Qar}{f:Qae->Int}(q:Qae): ∀(l:List Qab) (op:List (Qae×List Int)),(op.map Prod.fst).Nodup->
 ((l.foldl (fun o x=>Qrz s f o x.At 4) op).map Prod.fst).Nodup/\((∀x∈l,¬Qaj9 x.At q)/\lkP (l.foldl (fun o x=>Qrz s f o x.At 4) op) q=lkP op q\/(∃x∈l,Qaj9 x.At q)/\lkP (l.foldl (fun o x=>Qrz s f o x.At 4) op) q=nonE (Qajt s f q))
 |[],op,h=>⟨h,.inl ⟨by simp,rfl⟩⟩
 |x::r,op,h=>by
  simp only[Zdq];obtain⟨h1,h2⟩:=Qak1 (s:=s) (f:=f) q r (Qrz s f op x.At 4) (Qakk h 4);refine⟨h1,?_⟩;rcases h2 with ⟨a,b⟩|⟨⟨y,hy,a⟩,b⟩
  .rcases look4 (s:=s) (f:=f) (p:=x.At) h q with ⟨c,e⟩|⟨c,e⟩
   .refine .inl ⟨fun y hy=> ?_,b.trans e⟩;rcases Zas.1 hy with rfl|hy
    .exact c
    .exact a y hy
   .exact .inr ⟨⟨x,Zar ..,c⟩,b.trans e⟩
  .exact .inr ⟨⟨y,Zam _ hy,a⟩,b⟩
theorem tlUp_at{l:List Qab}: ∀{q:Qae},0<=Qbw (tlUp l) q-> ∃x∈l,x.At=q:=by
 have key: ∀(l:List Qab) (t:List (Qae×Int)) (q:Qae),lkP (l.foldl (fun t x=>updP t x.At x.Tile) t) q≠none->(∃x∈l,x.At=q)\/lkP t q≠none:=by
  intro l;induction l with
  |nil=>intro t q h;exact .inr h
  |cons x r ih=>
   intro t q h;rcases ih _ q h with ⟨y,hy,e⟩|h2
   .exact .inl ⟨y,Zam _ hy,e⟩
   .rw[Qyq] at h2;split at h2
    .rename_i e;exact .inl ⟨x,Zar ..,e.symm⟩
    .exact .inr h2
 intro q h;rcases key l [] q (fun e=>by
  simp only[Qbw,tlUp,e,Option.getD_none] at h;omega) with h2|h2
 .exact h2
 .simp[lkP] at h2
theorem op_new{s:Qar}{l:List Qab}(hT:1<=s.Temperature):OpOk s (Qbw (tlUp l)) (opUp s (Qbw (tlUp l)) l):=by
 have hn:(([]:List (Qae×List Int)).map Prod.fst).Nodup:=by simp
 refine⟨(Qak1 ⟨0,0⟩ l [] hn).1,fun q=> ?_⟩;rcases (Qak1 (s:=s) (f:=Qbw (tlUp l)) q l [] hn).2 with ⟨h1,h2⟩|⟨_,h2⟩
 .rw[opUp,h2]
  have:Qajt s (Qbw (tlUp l)) q=[]:=by
   refine Qakp hT (fun d hd=> ?_) _;apply Zci;intro h;obtain⟨x,hx,e⟩:=tlUp_at (l:=l) (q:=Qf7 q d) (by omega);exact h1 x hx (Qake (e▸⟨d,hd,rfl⟩))
  rw[nonE,Zao this];rfl
 .exact h2
theorem op_put{s:Qar}{tl:List (Qae×Int)}{op:List (Qae×List Int)}{p:Qae}{t:Int}(h:OpOk s (Qbw tl) op)(ht:0<=t):
 OpOk s (Qbw (updP tl p t)) (Qrz s (Qbw (updP tl p t)) (delP op p) p 4):=by
 have hn:=Qamm (p:=p) h.1;have hup: ∀q,Qbw (updP tl p t) q=if q=p then t else Qbw tl q:=fun q=>by
  simp only[Qbw,Qyq];split<;>rfl
 refine⟨Qakk hn 4,fun q=> ?_⟩;rcases look4 (s:=s) (f:=Qbw (updP tl p t)) (p:=p) hn q with ⟨h1,h2⟩|⟨_,h2⟩
 .rw[h2,Qamj q h.1];by_cases e:q=p
  .rw[Zao e,nonE,Zao (Qamc (by rw[hup,Zao e];exact ht) _)]
  .rw[Zai e,h.2 q]
   have:Qajt s (Qbw (updP tl p t)) q=Qajt s (Qbw tl) q:=by
    refine Qalv (by rw[hup,Zai e]) (fun d hd=> ?_) _;rw[hup,Zai];intro e2;exact h1 (Qake ⟨d,hd,e2⟩)
   rw[this]
 .exact h2
def insQ(p:Qae):List Qae->List Qae
 |[]=>[p]
 |y::r=>if Qap y p=true then y::insQ p r else if y=p then y::r else p::y::r
def Qakz(l:List Qae):List Qae:=l.foldr insQ []
abbrev ltQ(l:List Qae):Prop:=l.Pairwise fun a b=>Qap a b=true
theorem Qajr{a b c:Qae}(h1:Qap a b=true)(h2:Qap b c=true):Qap a c=true:=by simp only[Qap] at*;grind
theorem Qaj3(a:Qae):Qap a a=false:=by simp[Qap]
theorem Qako{a b:Qae}(h1:Qap a b=false)(h2:a≠b):Qap b a=true:=by
 obtain⟨ax,ay⟩:=a;obtain⟨bx,by'⟩:=b;simp only[Qap,ne_eq,Qae.mk.injEq] at*
 grind
theorem Qaj7{p q:Qae}: ∀{l:List Qae},q∈insQ p l↔q=p\/q∈l
 |[]=>by simp[insQ]
 |y::r=>by
  simp only[insQ];split
  .simp only[Zas,Qaj7 (l:=r)];constructor
   .rintro (h|h|h)
    .exact .inr (.inl h)
    .exact .inl h
    .exact .inr (.inr h)
   .rintro (h|h|h)
    .exact .inr (.inl h)
    .exact .inl h
    .exact .inr (.inr h)
  .split
   .rename_i c;subst c;simp
   .simp
theorem Qak4{p:Qae}: ∀{l:List Qae},ltQ l->ltQ (insQ p l)
 |[],_=>by simp[insQ]
 |y::r,h=>by
  rw[ltQ,Zcj] at h;simp only[insQ];split
  .rename_i c;rw[ltQ,Zcj];refine⟨fun z hz=> ?_,Qak4 h.2⟩;rcases Qaj7.1 hz with rfl|hz
   .exact c
   .exact h.1 z hz
  .rename_i c;split
   .rw[ltQ,Zcj];exact h
   .rename_i e;have hpy:=Qako (by simpa using c) e;rw[ltQ,Zcj,Zcj];refine⟨fun z hz=> ?_,h⟩;rcases Zas.1 hz with rfl|hz
    .exact hpy
    .exact Qajr hpy (h.1 z hz)
theorem Qakg: ∀(l:List Qae),ltQ (Qakz l)
 |[]=>List.Pairwise.nil
 |_::r=>Qak4 (Qakg r)
theorem Qaka{q:Qae}: ∀{l:List Qae},q∈Qakz l↔q∈l
 |[]=>by simp[Qakz]
 |x::r=>by
  have:Qakz (x::r)=insQ x (Qakz r):=rfl
  rw[this,Qaj7,Qaka (l:=r),Zas]
theorem ltQ_nd{l:List Qae}(h:ltQ l):l.Nodup:=by
 refine Zey (fun {a b} hab e=> ?_) h;rw[e,Qaj3] at hab;cases hab
theorem Qal3{l m:List Qae}(h1:ltQ l)(h2:ltQ m)(h: ∀q,q∈l↔q∈m):l=m:=by
 have hp:l.Perm m:=(Zen (ltQ_nd h1) (ltQ_nd h2)).2 h;refine Zez (le:=fun a b=>Qap a b=true) (fun a b _ _ g1 g2=> ?_) h1 h2 hp
 have:=Qajr g1 g2
 rw[Qaj3] at this;cases this
def Qajv(a:Asm)(p:Qae)(l:List Qae):Nat->List Qae
 |0=>l
 |k+1=>if Qbi (Qf7 p k)=true/\atA a (Qf7 p k)<0 then insQ (Qf7 p k) (Qajv a p l k) else Qajv a p l k
def Qajq(a:Asm):Nat->List Qae
 |0=>[]
 |i+1=>Qajv a ((a.Tiles[i]?.map Qab.At).getD ⟨0,0⟩) (Qajq a i) 4
theorem Qaj6{a:Asm}{p:Qae}{l:List Qae}(h:ltQ l): ∀k,ltQ (Qajv a p l k)
 |0=>h
 |k+1=>by
  simp only[Qajv];split
  .exact Qak4 (Qaj6 h k)
  .exact Qaj6 h k
theorem Qaki(a:Asm): ∀i,ltQ (Qajq a i)
 |0=>List.Pairwise.nil
 |i+1=>Qaj6 (Qaki a i) 4
theorem Qakw{a:Asm}{p q:Qae}{l:List Qae}: ∀k,q∈Qajv a p l k↔q∈l\/(Qbi q=true/\atA a q<0)/\ ∃d:Nat,d<k/\Qf7 p d=q
 |0=>by simp[Qajv]
 |k+1=>by
  simp only[Qajv];have ih:=Qakw (a:=a) (p:=p) (q:=q) (l:=l) k;split
  .rename_i c;rw[Qaj7,ih];constructor
   .rintro (rfl|h|⟨h,d,h1,h2⟩)
    .exact .inr ⟨c,k,by omega,rfl⟩
    .exact .inl h
    .exact .inr ⟨h,d,by omega,h2⟩
   .rintro (h|⟨h,d,h1,h2⟩)
    .exact .inr (.inl h)
    .by_cases e:d=k
     .subst e;exact .inl h2.symm
     .exact .inr (.inr ⟨h,d,by omega,h2⟩)
  .rename_i c;rw[ih];constructor
   .rintro (h|⟨h,d,h1,h2⟩)
    .exact .inl h
    .exact .inr ⟨h,d,by omega,h2⟩
   .rintro (h|⟨h,d,h1,h2⟩)
    .exact .inl h
    .by_cases e:d=k
     .subst e;subst h2;exact absurd h c
     .exact .inr ⟨h,d,by omega,h2⟩
theorem Qajz{a:Asm}{q:Qae}: ∀i,i<=a.Tiles.length->(q∈Qajq a i↔(Qbi q=true/\atA a q<0)/\ ∃x∈a.Tiles.take i,Qaj9 x.At q)
 |0,_=>by simp[Qajq]
 |i+1,hi=>by
  have hx:a.Tiles[i]? =some (a.Tiles[i]'(by omega)):=Zad (by omega);simp only[Qajq];rw[Qakw,Qajz i (by omega),Qwe hx,hx,ZaO,Zag];constructor
  .rintro (⟨h,x,h1,h2⟩|⟨h,h2⟩)
   .exact⟨h,x,Zbx _ h1,h2⟩
   .exact⟨h,_,ZbU _ (Zar ..),h2⟩
  .rintro⟨h,x,h1,h2⟩;rcases Zaq.1 h1 with h1|h1
   .exact .inl ⟨h,x,h1,h2⟩
   .rw[Zan] at h1;subst h1;exact .inr ⟨h,h2⟩
def atU(s:Qar)(f:Qae->Int)(q:Qae):Nat->List Int
 |0=>[]
 |k+1=>atU s f q k++(if s.Temperature<=Qhs s.Set f q k 4 then [(k:Int)] else [])
theorem Qakm(s:Qar)(f:Qae->Int)(q:Qae): ∀k,(atU s f q k).length<=k
 |0=>by simp[atU]
 |k+1=>by
  have:=Qakm s f q k
  simp only[atU,ZaF]
  split<;>simp<;>omega
theorem Qalg{s:Qar}{f:Qae->Int}{q:Qae}(h1:Qbi q=true)(h2:f q<0): ∀n,Qm0 s f q n=atU s f q n
 |0=>rfl
 |n+1=>by
  simp only[Qm0,atU,Qalg h1 h2 n,Qpg,h1,ZdT h2,Zbf,Zay]
def mkO2(p:Qae)(k:Int):Opt:=⟨p,k⟩
def Qajs(g:Qae->List Int)(l:List Qae):List Opt:=l.flatMap fun p=>(g p).map (mkO2 p)
def Qaj8(s:Qar)(a:Asm):List Opt:=Qajs (fun p=>atU s (atA a) p s.Set.Tiles.length) (Qajq a a.Tiles.length)
def Qalo(op:List (Qae×List Int)):List Opt:=Qajs (fun p=>(lkP op p).getD []) (Qakz (op.map Prod.fst))
theorem Qaj5{g:Qae->List Int}: ∀(l:List Qae),Qajs g (l.filter fun p=> !(g p).isEmpty)=Qajs g l
 |[]=>rfl
 |p::r=>by
  have ih:=Qaj5 (g:=g) r;simp only[Qajs] at ih;simp only[Qajs,ZdY];split
  .simp only[Zbn,ih]
  .rename_i c
   have:g p=[]:=by simpa using c
   simp only[Zbn,ih,this,ZaS,ZbB]
theorem Qajx{g h:Qae->List Int}: ∀(l:List Qae),(∀p∈l,g p=h p)->Qajs g l=Qajs h l
 |[],_=>rfl
 |p::r,hg=>by
  simp only[Qajs,Zbn];rw[hg p (Zar ..)]
  have:=Qajx r fun q hq=>hg q (Zam _ hq)
  simp only[Qajs] at this;rw[this]
theorem atA_mem{a:Asm}{q:Qae}(h:0<=atA a q): ∃x∈a.Tiles,x.At=q:=by
 simp only[atA] at h;cases e:a.Tiles.find? (fun x=>decide (x.At=q)) with
 |none=>rw[e] at h;simp at h
 |some x=>exact⟨x,Zda e,by simpa using Zdp e⟩
theorem opts_law{s:Qar}{a:Asm}{op:List (Qae×List Int)}(hT:1<=s.Temperature)(h:OpOk s (atA a) op):Qalo op=Qaj8 s a:=by
 have hin: ∀q,Qajt s (atA a) q≠[]->q∈Qajq a a.Tiles.length:=fun q hq=>by
  rw[Qajz _ (Zal _),ZbI];have h0:atA a q<0:=by
   apply Zci;intro c;exact hq (Qamc (by omega) _)
  have hp:Qbi q=true:=by
   apply Zci;intro c;exact hq (Qaj1 (fun k=>by simp only[Qpg];rw[ZcJ] at c;rw[c];rfl) _)
  refine⟨⟨hp,h0⟩,?_⟩;apply Zci;intro c;refine hq (Qakp hT (fun d hd=> ?_) _);apply Zci;intro c2;obtain⟨x,hx,e⟩:=atA_mem (a:=a) (q:=Qf7 q d) (by omega);exact c ⟨x,hx,Qake ⟨d,hd,e.symm⟩⟩
 have hon: ∀q∈Qajq a a.Tiles.length,atU s (atA a) q s.Set.Tiles.length=Qajt s (atA a) q:=fun q hq=>by
  rw[Qajz _ (Zal _)] at hq;exact (Qalg hq.1.1 hq.1.2 _).symm
 have hlk: ∀q,(lkP op q).getD []=Qajt s (atA a) q:=fun q=>by
  rw[h.2 q,nonE];split
  .rename_i e;rw[e];rfl
  .rfl
 have e1:Qaj8 s a=Qajs (Qajt s (atA a)) (Qajq a a.Tiles.length):=Qajx _ hon;have e2:Qalo op=Qajs (Qajt s (atA a)) (Qakz (op.map Prod.fst)):=Qajx _ fun q _=>hlk q
 rw[e1,e2,<-Qaj5 (Qajq a a.Tiles.length)];congr 1;refine Qal3 (Qakg _) ((Qaki a _).filter _) (fun q=> ?_);rw[Qaka,lkP_in,h.2 q,nonE,Zdf];constructor
 .intro hq;have hne:Qajt s (atA a) q≠[]:=fun e=>hq (Zao e)
  exact⟨hin q hne,by simpa using hne⟩
 .rintro⟨_,hq⟩;have hne:Qajt s (atA a) q≠[]:=by simpa using hq
  rw[Zai hne];simp
def posQ(p:Qae)(l:List Qae):Nat:=(l.takeWhile fun y=>Qap y p).length
theorem Qald(p:Qae): ∀(l:List Qae),insQ p l=if l[posQ p l]? =some p then l else l.take (posQ p l)++p::l.drop (posQ p l)
 |[]=>by simp[insQ,posQ]
 |y::r=>by
  have ih:=Qald p r;simp only[insQ];by_cases c:Qap y p=true
  .have e:posQ p (y::r)=posQ p r+1:=by simp[posQ,ZcT,c]
   rw[Zao c,ih,e,Zbj];split
   .rfl
   .simp
  .have e:posQ p (y::r)=0:=by simp[posQ,ZcT,c]
   rw[Zai c,e];simp
theorem posQ_eq{p:Qae}: ∀{l:List Qae} {k:Nat},ltQ l->k<=l.length->(∀(i:Nat) (y:Qae),k<=i->l[i]? =some y->Qap y p=false)->(∀y,k≠0->l[k - 1]? =some y->Qap y p=true)->posQ p l=k
 |[],k,_,hk,_,_=>by simp at hk;simp[posQ,hk]
 |y::r,0,_,_,h1,_=>by
  have:=h1 0 y (Zal _) rfl
  simp[posQ,ZcT,this]
 |y::r,k+1,hl,hk,h1,h2=>by
  rw[ltQ,Zcj] at hl;have hy:Qap y p=true:=by
   cases k with
   |zero=>exact h2 y (by omega) rfl
   |succ k=>
    have hlt:k+1<(y::r).length:=by simp at hk⊢;omega
    have h3:=h2 _ (by omega) (Zad (l:=y::r) (i:=k+1) hlt);refine Qajr (hl.1 _ ?_) h3;simp
  have ih:=posQ_eq (p:=p) (l:=r) (k:=k) hl.2 (by simpa using hk) (fun i z hi hz=>h1 (i+1) z (by omega) (by simpa using hz)) (fun z hk0 hz=>h2 z (by omega) (by
   obtain⟨m,rfl⟩: ∃m,k=m+1:=⟨k - 1,by omega⟩;simpa using hz))
  simp only[posQ] at ih;simp[posQ,ZcT,hy,ih]
def shQ(p:Qae)(l:List Qae)(i:Nat):List Qae:=(l++[p]).take (i+1)++l.drop i
theorem Qak6{p:Qae}{l:List Qae}{i:Nat}(h:i<=l.length):(shQ p l i).length=l.length+1:=by simp[shQ];omega
theorem shQ_all(p:Qae)(l:List Qae):shQ p l l.length=l++[p]:=by simp[shQ,ZaE]
theorem shQ_step{p x:Qae}{l:List Qae}{i:Nat}(h:i+1<=l.length)(hx:(shQ p l (i+1))[i]? =some x):(shQ p l (i+1)).set (i+1) x=shQ p l i:=by
 have hx2:l[i]? =some x:=by
  rw[<-hx,shQ,ZaC (by simp;omega),Zcv,Zao (by omega),ZaC (by omega)]
 apply ZbO;intro j;have e1:((l++[p]).take (i+1+1)).length=i+2:=by simp;omega
 have e2:((l++[p]).take (i+1)).length=i+1:=by simp;omega
 by_cases c:j=i+1
 .subst c;rw[Zau (by rw[Qak6 h];omega),shQ,ZaG (by omega),e2,Zcc,Zbw,ZcE,hx2]
 .rw[ZaA (ZcA c)];simp only[shQ];by_cases c2:j<i+1
  .rw[ZaC (by omega),ZaC (by omega),Zcv,Zcv,Zao (by omega),Zao c2]
  .rw[ZaG (by omega),ZaG (by omega),e1,e2,Zbw,Zbw];congr 1;omega
theorem shQ_end{p:Qae}{l:List Qae}{k:Nat}(h:k<=l.length):(shQ p l k).set k p=l.take k++p::l.drop k:=by
 apply ZbO;intro j;have e2:((l++[p]).take (k+1)).length=k+1:=by simp;omega
 have e3:(l.take k).length=k:=by simp;omega
 by_cases c:j=k
 .subst c;rw[Zau (by rw[Qak6 h];omega),ZaG (by omega),e3,Zcc];simp
 .rw[ZaA (ZcA c)];simp only[shQ];by_cases c2:j<k
  .rw[ZaC (by omega),ZaC (by omega),Zcv,Zcv,Zao (by omega),Zao c2,ZaC (by omega)]
  .obtain⟨m,rfl⟩: ∃m,j=k+1+m:=⟨j - (k+1),by omega⟩;rw[ZaG (by omega),ZaG (by omega),e2,e3,Zbw,show k+1+m - k=m+1 by omega,Zbj,Zbw];congr 1;omega
theorem pt_eq3{p q:Qae}:((p.X==q.X)=true/\(p.Y==q.Y)=true)↔p=q:=by
 obtain⟨px,py⟩:=p;obtain⟨qx,qy⟩:=q;simp
def putQ.ca(a:List Qae×Qae):List AV:=[.own 0,.im (.agg [.int .i64 a.2.X,.int .i64 a.2.Y])]
def putQ.H0(a:List Qae×Qae):Qan:=[(0,(true,.arr 72 2 (a.1.map Qae.c)))]
def putQ.H1(a:List Qae×Qae):Qan:=[(1,(true,.arr 72 2 ((insQ a.2 a.1).map Qae.c)))]
def kl0(j:Nat):Bool:=j==0
def putQ.row:Row:=orow putQ.ca putQ.H0 1 (fun a=>ltQ a.1/\a.1.length<=1000000) kl0 (fun _=> .own 1) putQ.H1 1
def YaE:=J @l_LessPoint.q @l_LessPoint.fv.eq_1
theorem putQ.ok:Qas Tryz.prog 108 putQ.row:=by
 refine owN (tC l_LessPoint.ok tN) Tryz.func108 rfl (by kernel_rfl) (exB:=fun j=>j==1) (R:=fun _ r=>r= .own 1) (fun _=>rfl)
  (fun a=>by simp[putQ.ca,putQ.H0,putQ.H1,kl0,belL,AV.bel,belH,Qam,Qc2,AObj.nms,nmsL,AV.nms,domB,hget]) (fun a p hp=> ?_) (fun a r h=>by subst h;exact LeV.refl _) ?_
 rotate_left
 intro a hpre;simp only[Tryz.f108,Option.getD,putQ.ca,putQ.H0,putQ.H1,kl0];simp(maxSteps:=9^9)(disch:=omega)only[ZZ,simprocAttr,rch,YaE,Qc7,ORB,putQ.ca,putQ.H0,putQ.H1,kl0];rotate_left
 .simp[putQ.H1] at hp;subst hp;exact .inr ⟨by omega,by omega,rfl,rfl⟩
 obtain⟨l,p⟩:=a;obtain⟨hl,hn⟩:=hpre;simp only at hl hn⊢;intro _;refine Qay.old ⟨{k:Nat//k<=l.length/\ ∀(i:Nat) (y:Qae),k<=i->l[i]? =some y->Qap y p=false},fun k=>⟨[(5,.im (.int .i64 k.1)),(3,.ptr 1 0),(0,.own 0)],[(1,(true,.cells 72 [.im (.int .i64 p.X),.im (.int .i64 p.Y)])),(0,(true,.arr 72 2 (l.map Qae.c)))],3⟩,fun k=>k.1,fun k=>⟨by simp[Qad.good,belT,belH,Qam,AV.bel,belL],by simp⟩,⟨⟨l.length,Zal _,fun i y hi hy=>by rw[ZaT hi] at hy;cases hy⟩,by simp(maxSteps:=9^9)(disch:=omega)only[ZZ,simprocAttr,rch,YaE,Qc7,ORB,putQ.ca,putQ.H0,putQ.H1,kl0,sub]⟩,fun k=> ?_⟩;obtain⟨k,hk,hkn⟩:=k;simp(maxSteps:=9^9)(disch:=omega)only[ZZ,simprocAttr,rch,YaE,Qc7,ORB,putQ.ca,putQ.H0,putQ.H1,kl0,sub,Qal,Zbp];have hkw:0<k->IntKind.i64.wrap ((k:Int) - 1)=((k - 1:Nat):Int):=fun h=>by rw[Qak (by omega) (by omega)];omega
 refine⟨fun hk0=>⟨by rw[hkw (by omega)];omega,by rw[hkw (by omega)];omega,by rw[hkw (by omega)];omega,fun x hx=>⟨fun hlt=> ?r,fun hlt=>⟨fun hkl=>⟨hkl,hkl,fun y hy=>⟨fun e=> ?a1,fun e=> ?b1⟩⟩,fun hkl=> ?b2⟩⟩⟩,fun hk0=>⟨fun hkl=>⟨hkl,hkl,fun y hy=>⟨fun e=> ?a2,fun e=> ?b3⟩⟩,fun hkl=> ?b4⟩⟩
 case r=>
  rw[hkw (by omega),Zak] at hx;refine⟨⟨k - 1,by omega,fun i y hi hy=> ?_⟩,by simp only;omega,by rw[hkw (by omega)]⟩;by_cases c:i=k - 1
  .subst c;obtain rfl:=Zaa (hx.symm.trans hy);exact hlt
  .exact hkn i y (by omega) hy
 all_goals
  have hpos:posQ p l=k:=posQ_eq hl hk hkn (fun y hk0' hy=>by
   first
    |(rw[hkw (by omega),Zak] at hx;obtain rfl:=Zaa (hx.symm.trans hy);simpa using hlt)
    |(exact absurd (by omega) hk0))
  have hins:=Qald p l;rw[hpos] at hins
 case a1=>
  have ey:y=p:=pt_eq3.1 e;rw[hy,ey,Zao rfl] at hins;refine⟨[],[(1,some 0)],⟨[(4,.own 1)],putQ.H1 (l,p),2⟩,?_,by simp[putQ.H1,Qad.good,belT,belH,Qam,AV.bel],by simp,?_⟩
  .simp only[subP,putQ.H1,hins];simp(maxSteps:=9^9)(disch:=omega)only[ZZ,simprocAttr,rch,YaE,Qc7,ORB,putQ.ca,putQ.H0,putQ.H1,kl0,Zaf,Zae]
  .simp(maxSteps:=9^9)(disch:=omega)only[ZZ,simprocAttr,rch,YaE,Qc7,ORB,putQ.ca,putQ.H0,putQ.H1,kl0,putQ.H1]
 case a2=>
  have ey:y=p:=pt_eq3.1 e;rw[hy,ey,Zao rfl] at hins;refine⟨[],[(1,some 0)],⟨[(4,.own 1)],putQ.H1 (l,p),2⟩,?_,by simp[putQ.H1,Qad.good,belT,belH,Qam,AV.bel],by simp,?_⟩
  .simp only[subP,putQ.H1,hins];simp(maxSteps:=9^9)(disch:=omega)only[ZZ,simprocAttr,rch,YaE,Qc7,ORB,putQ.ca,putQ.H0,putQ.H1,kl0,Zaf,Zae]
  .simp(maxSteps:=9^9)(disch:=omega)only[ZZ,simprocAttr,rch,YaE,Qc7,ORB,putQ.ca,putQ.H0,putQ.H1,kl0,putQ.H1]
 all_goals
  have hne:l[k]? ≠some p:=fun h=>by
   first
    |(obtain rfl:=Zaa (hy.symm.trans h);exact e (pt_eq3.2 rfl))
    |(rw[ZaT (by omega)] at h;cases h)
  rw[Zai hne] at hins;have hap:l.map Qae.c++[[D.int .i64 p.X,D.int .i64 p.Y]]=(l++[p]).map Qae.c:=by rw[Zbv];rfl
  rw[hap];refine⟨by omega,fun _=> ?_⟩;refine Qay.old ⟨{i:Nat//k<=i/\i<=l.length},fun i=>⟨[(6,.im (.int .i64 i.1)),(5,.im (.int .i64 k)),(0,.own 4),(3,.ptr 1 0)],[(4,(true,.arr 72 2 ((shQ p l i.1).map Qae.c))),(1,(true,.cells 72 [.im (.int .i64 p.X),.im (.int .i64 p.Y)]))],5⟩,fun i=>i.1,fun i=>⟨by simp[Qad.good,belT,belH,Qam,AV.bel,belL],by simp⟩,⟨⟨l.length,hk,Zal _⟩,?_⟩,fun i=> ?_⟩
  .simp(maxSteps:=9^9)(disch:=omega)only[ZZ,simprocAttr,rch,YaE,Qc7,ORB,putQ.ca,putQ.H0,putQ.H1,kl0,sub,shQ_all];rw[ZaF,ZdX,Qak (by omega) (by omega)];omega
  obtain⟨i,hi1,hi2⟩:=i;have hsl:=Qak6 (p:=p) hi2;simp(maxSteps:=9^9)(disch:=omega)only[ZZ,simprocAttr,rch,YaE,Qc7,ORB,putQ.ca,putQ.H0,putQ.H1,kl0,sub,Qal,Zbp,hsl];refine⟨fun hki=> ?_,fun hki=>⟨by omega,by omega,fun x hx=> ?_⟩⟩
  .have hiw:IntKind.i64.wrap ((i:Int) - 1)=((i - 1:Nat):Int):=by rw[Qak (by omega) (by omega)];omega
   rw[hiw,Zak];refine⟨by omega,by omega,by omega,fun x hx=>⟨by omega,by omega,fun z hz=>⟨⟨i - 1,by omega,by omega⟩,by simp only;omega,rfl,?_⟩⟩⟩;have hst:=shQ_step (p:=p) (x:=x) (l:=l) (i:=i - 1) (by omega) (by rwa [show i - 1+1=i by omega]);rw[show i - 1+1=i by omega] at hst;rw[<-hst,Zcz];rfl
  .obtain rfl:i=k:=by omega
   have hse:((shQ p l i).map Qae.c).set i [D.int .i64 p.X,D.int .i64 p.Y]=(insQ p l).map Qae.c:=by
    rw[hins,<-shQ_end hk,Zcz];rfl
   refine⟨[],[(1,some 4)],⟨[(4,.own 1)],putQ.H1 (l,p),2⟩,?_,by simp[putQ.H1,Qad.good,belT,belH,Qam,AV.bel],by simp,?_⟩
   .simp only[subP,putQ.H1,hse];simp(maxSteps:=9^9)(disch:=omega)only[ZZ,simprocAttr,rch,YaE,Qc7,ORB,putQ.ca,putQ.H0,putQ.H1,kl0,Zaf,Zae]
   .simp(maxSteps:=9^9)(disch:=omega)only[ZZ,simprocAttr,rch,YaE,Qc7,ORB,putQ.ca,putQ.H0,putQ.H1,kl0,putQ.H1]
theorem putQ_dom(a:List Qae×Qae)(j:Nat):domB (putQ.H0 a) j=true↔j<1:=by
 simp only[domB,putQ.H0,hget];by_cases hj:j=0
 .subst hj;simp
 .have:(0==j)=false:=by simpa using fun h=>hj h.symm
  rw[this];simp;omega
theorem Qalj(p:Qae): ∀(l:List Qae),(insQ p l).length<=l.length+1
 |[]=>by simp[insQ]
 |y::r=>by
  have:=Qalj p r
  simp only[insQ];split
  .simp only[ZaL];omega
  .split<;>simp
theorem Qakd(a:Asm)(p:Qae)(l:List Qae): ∀k,(Qajv a p l k).length<=l.length+k
 |0=>by simp[Qajv]
 |k+1=>by
  have:=Qakd a p l k
  simp only[Qajv];split
  .have:=Qalj (Qf7 p k) (Qajv a p l k);omega
  .omega
theorem Qaj2(a:Asm): ∀i,(Qajq a i).length<=4*i
 |0=>by simp[Qajq]
 |i+1=>by
  have:=Qaj2 a i
  have:=Qakd a ((a.Tiles[i]?.map Qab.At).getD ⟨0,0⟩) (Qajq a i) 4
  simp only[Qajq];omega
def nearS_.fv(a:Asm):List Qae:=(fun a=>Qajq a a.Tiles.length) a
def nearS_.row:Row:=vK (b1 (qP 1 Asm.d_le)) (rS Qae.d_le Qae.c_n) (fun a=>Qaz none a.Tiles=true/\a.Tiles.length<=1000/\ ∃s,∀x∈a.Tiles,Qcs s x.Tile) nearS_.fv
def nearS_.q:=vKq (R:=nearS_.row) rfl
def YaF:=J @nearS_.fv.eq_1<|J @l01Step.q<|J @l01Step.fv.eq_1<|J @l01Point.q<|J @l01Point.fv.eq_1<|J @l03Index.q @l03Index.fv.eq_1
theorem nearS_.ok:Qas Tryz.prog 75 nearS_.row:=by
 refine vw (tC l01Step.ok (tC l01Point.ok (tC l03Index.ok (tC putQ.ok tN)))) Tryz.func75 rfl (by kernel_rfl) ?_;intro a hpre;simp only[Tryz.f75,Option.getD];simp(maxSteps:=9^9)(disch:=omega)only[ZZ,simprocAttr,rch,YaF];obtain⟨h1,h2,s0,h3⟩:=hpre;refine Qay.ren ⟨{i:Nat//i<=a.Tiles.length},fun i=>⟨[(4,.im (.int .i64 i.1)),(3,.own 3),(0,.ptr 0 0)],[(3,(true,.arr 72 2 ((Qajq a i.1).map Qae.c))),(0,(false,.view (Asm.c a)))],4⟩,fun i=>a.Tiles.length - i.1,fun i=>⟨by simp[Qad.good,belT,belH,Qam,AV.bel,belL],by simp⟩,⟨⟨0,Zbc _⟩,[(3,some 2)],?_⟩,fun i=> ?_⟩
 .simp only[subP];simp(maxSteps:=9^9)(disch:=omega)only[ZZ,simprocAttr,rch,YaF,Zaf,Zae,Qajq,ZaS]
  try simp
 obtain⟨i,hi⟩:=i;simp(maxSteps:=9^9)(disch:=omega)only[ZZ,simprocAttr,rch,YaF,sub,Qal];intro _;refine⟨fun hi2=> ?_,fun hi2=> ?_⟩;rotate_left
 .obtain rfl:i=a.Tiles.length:=by omega
  rfl
 obtain⟨x,hx⟩: ∃x,a.Tiles[i]? =some x:=⟨_,Zad hi2⟩;have hxo:=(Qh6 _ _ h1 x (Zac hx)).1;have e1:Qajq a (i+1)=Qajv a x.At (Qajq a i) 4:=by simp only[Qajq,hx];rfl
 have hnl:=Qaj2 a i;have hlt:=Qaki a i;refine Qay.ren ⟨{d:Nat//d<=4},fun d=>⟨[(5,.im (.int .i64 d.1)),(4,.im (.int .i64 i)),(3,.own 4),(0,.ptr 0 0)],[(4,(true,.arr 72 2 ((Qajv a x.At (Qajq a i) d.1).map Qae.c))),(0,(false,.view (Asm.c a)))],5⟩,fun d=>4 - d.1,fun d=>⟨by simp[Qad.good,belT,belH,Qam,AV.bel,belL],by simp⟩,⟨⟨0,Zbc _⟩,[(4,some 3)],?_⟩,fun d=> ?_⟩
 .simp only[subP];simp(maxSteps:=9^9)(disch:=omega)only[ZZ,simprocAttr,rch,YaF,Zaf,Zae,Qajv]
  try simp
 obtain⟨d,hd⟩:=d;have htl:=Qakd a x.At (Qajq a i) d;have htt:=Qaj6 (a:=a) (p:=x.At) hlt d;simp(maxSteps:=9^9)(disch:=omega)only[ZZ,simprocAttr,rch,YaF,sub,Qal];have hdw:IntKind.i64.wrap ((d:Int)+1)=((d+1:Nat):Int):=by rw[Qak (by omega) (by omega)];omega
 refine⟨fun hd4=>⟨hi2,fun y hy=> ?_⟩,fun hd4=> ?_⟩;rotate_left
 .obtain rfl:d=4:=by omega
  refine⟨⟨i+1,by omega⟩,[(3,some 4)],by simp only;omega,?_⟩;simp only[subP];simp(maxSteps:=9^9)(disch:=omega)only[ZZ,simprocAttr,rch,YaF,Zaf,Zae,e1];rw[Qak (by omega) (by omega)];rfl
 obtain rfl:=Zaa (hx.symm.trans hy);refine⟨⟨Qkc hxo,by omega⟩,fun hok=>⟨h1,fun hix=> ?_,fun hix=> ?_⟩,fun hok=> ?_⟩
 .have hat:=(Qala h3 (Qf7 x.At d)).1 hix;refine orow.os (Qajv a x.At (Qajq a i) d,Qf7 x.At d) [4] ⟨htt,by simp only;omega⟩ (putQ_dom _) rfl rfl ?_ ?_
  .simp(maxSteps:=9^9)(disch:=omega)only[ZZ,simprocAttr,rch,YaF,putQ.ca,putQ.H0,Qer,ZaI]
  simp(maxSteps:=9^9)(disch:=omega)only[ZZ,simprocAttr,rch,YaF,putQ.H1,sub,kl0,ZaI,ZaV];refine⟨⟨d+1,by omega⟩,[(4,some 6)],by simp only;omega,?_⟩;simp only[subP];simp(maxSteps:=9^9)(disch:=omega)only[ZZ,simprocAttr,rch,YaF,Zaf,Zae,Qajv];rw[Zao ⟨hok,hat⟩];exact⟨hdw,rfl⟩
 all_goals
  refine⟨⟨d+1,by omega⟩,[(4,some 4)],by simp only;omega,?_⟩;simp only[subP];simp(maxSteps:=9^9)(disch:=omega)only[ZZ,simprocAttr,rch,YaF,Zaf,Zae,Qajv];refine⟨hdw,?_⟩;rw[Zai];rintro⟨g1,g2⟩
  first
   |exact hix ((Qala h3 _).2 g2)
   |exact hok g1
def glQ(s:Qaa)(a:Asm)(p:Qae):Nat->List Int
 |0=>[]
 |k+1=>glQ s a p k++[if atA a (Qf7 p k)<0 then 0 else Qqu s (atA a (Qf7 p k)) (((k:Int)+2) % 4)]
theorem Qaj4(s:Qaa)(a:Asm)(p:Qae): ∀k,(glQ s a p k).length=k
 |0=>rfl
 |k+1=>by simp[glQ,Qaj4 s a p k]
theorem Qak3{s:Qaa}{a:Asm}{p:Qae}: ∀{n k:Nat},k<n->(glQ s a p n)[k]? =some (if atA a (Qf7 p k)<0 then 0 else Qqu s (atA a (Qf7 p k)) (((k:Int)+2) % 4))
 |0,k,h=>by omega
 |n+1,k,h=>by
  simp only[glQ];by_cases c:k<n
  .rw[ZaC (by rw[Qaj4];exact c),Qak3 c]
  .obtain rfl:k=n:=by omega
   rw[ZaG (by rw[Qaj4];omega),Qaj4,Zcc];rfl
theorem term_gl{s:Qaa}{a:Asm}{p:Qae}{i:Int}{k:Nat}{g:Int}(hg:g=if atA a (Qf7 p k)<0 then 0 else Qqu s (atA a (Qf7 p k)) (((k:Int)+2) % 4)):(if Qqu s i k=g then Qe1 s g else 0)=Quh s (atA a) p i k:=by
 simp only[Quh,Qfn];by_cases c:atA a (Qf7 p k)<0
 .rw[Zao c] at hg;subst hg;rw[Zai (show ¬0<=atA a (Qf7 p k) by omega),glue_no (by omega)]
  split<;>rfl
 .rw[Zai c] at hg;rw[Zao (show 0<=atA a (Qf7 p k) by omega),<-hg];split
  .rename_i e;rw[e]
  .rfl
theorem side_b{s:Qaa}(h:setP s){t:Int}{d:Int}:0<=Qqu s t d/\Qqu s t d<=s.Glues.length:=by
 simp only[Qqu];cases e:s.Tiles[t.toNat]? with
 |none=>simp
 |some x=>
  simp only[ZaO,Zag];cases e2:x.Sides[d.toNat]? with
  |none=>simp
  |some g=>
   simp only[Zag];exact (h.2.1 x (Zac e)).2 g (Zac e2)
def atQ_.fv(a:Qaa×Asm×Qae×Int):List Int:=(fun s a p t=>atU ⟨s,a,t⟩ (atA a) p s.Tiles.length) (a.1) (a.2.1) (a.2.2.1) (a.2.2.2)
def atQ_.row:Row:=vK (b4 (qP 2 Qaa.d_le) (qP 1 Asm.d_le) (qR Qae.d_le) qI) (rS Qb3 Qant) (fun a=>setP a.1/\Qn7 a.1 a.2.1/\Qdy a.2.2.1/\a.1.Tiles.length<=1000000) atQ_.fv
def atQ_.q:=vKq (R:=atQ_.row) rfl
def YaG:=J @atQ_.fv.eq_1<|J @l01Step.q<|J @l01Step.fv.eq_1<|J @l03At.q<|J @l03At.fv.eq_1<|J @Opposite_.q<|J @Opposite_.fv.eq_1<|J @l02Strength.q @l02Strength.fv.eq_1
theorem atQ_.ok:Qas Tryz.prog 76 atQ_.row:=by
 refine vw (tC l01Step.ok (tC l03At.ok (tC Opposite_.ok (tC l02Strength.ok tN)))) Tryz.func76 rfl (by kernel_rfl) ?_;intro a hpre;simp only[Tryz.f76,Option.getD];simp(maxSteps:=9^9)(disch:=omega)only[ZZ,simprocAttr,rch,YaG];obtain⟨s,a,p,t⟩:=a;obtain⟨h1,h2,h3,h4⟩:=hpre;simp only at h1 h2 h3 h4⊢;refine Qay.ren ⟨{d:Nat//d<=4},fun d=>⟨[(10,.im (.int .i64 d.1)),(9,.own 5),(6,.ptr 2 0),(0,.ptr 0 0),(1,.ptr 1 0),(3,.im (.int .i64 t))],[(5,(true,.arr 2 1 ((glQ s a p d.1).map intC))),(2,(true,.cells 72 [.im (.int .i64 p.X),.im (.int .i64 p.Y)])),(0,(false,.view (Qaa.c s))),(1,(false,.view (Asm.c a)))],6⟩,fun d=>4 - d.1,fun d=>⟨by simp[Qad.good,belT,belH,Qam,AV.bel,belL],by simp⟩,⟨⟨0,Zbc _⟩,[(5,some 4)],?_⟩,fun d=> ?_⟩
 .simp only[subP];simp(maxSteps:=9^9)(disch:=omega)only[ZZ,simprocAttr,rch,YaG,Zaf,Zae,glQ,ZaS]
  try simp
 obtain⟨d,hd⟩:=d;have hgl:=Qaj4 s a p d;simp(maxSteps:=9^9)(disch:=omega)only[ZZ,simprocAttr,rch,YaG,sub,Qal,Qag,Qac,Qaf,allD,D.one,ZaW,Zcg,Zdc];have hdw:IntKind.i64.wrap ((d:Int)+1)=((d+1:Nat):Int):=by rw[Qak (by omega) (by omega)];omega
 refine⟨fun hd4=>⟨⟨h3,by omega⟩,h2.1,fun hn=>⟨by omega,⟨d+1,by omega⟩,[(5,some 7)],by simp only;omega,?_⟩,fun hn=> ?_⟩,fun hd4=> ?_⟩
 .simp only[subP];simp(maxSteps:=9^9)(disch:=omega)only[ZZ,simprocAttr,rch,YaG,Zaf,Zae,glQ];rw[Zao hn];refine⟨hdw,by simp[intC]⟩
 .obtain⟨b1,b2⟩:=atA_in h2 (Qf7 p d) (by omega);refine⟨b1,b2,fun x hx=>⟨by omega,by omega,by rw[(h1.2.1 x (Zac hx)).1];omega,fun g hg=>⟨by omega,⟨d+1,by omega⟩,[(5,some 7)],by simp only;omega,?_⟩⟩⟩;have hse:Qqu s (atA a (Qf7 p d)) (((d:Int)+2) % 4)=g:=Qpn hx hg;simp only[subP];simp(maxSteps:=9^9)(disch:=omega)only[ZZ,simprocAttr,rch,YaG,Zaf,Zae,glQ];rw[Zai hn,hse];refine⟨hdw,by simp[intC]⟩
 obtain rfl:d=4:=by omega
 clear hdw hd4 hd;obtain⟨S,hS⟩: ∃S:Qar,S=⟨s,a,t⟩:=⟨_,rfl⟩;rw[<-hS];refine Qay.ren ⟨{i:Nat//i<=s.Tiles.length},fun i=>⟨[(13,.im (.int .i64 i.1)),(12,.own 7),(9,.own 5),(0,.ptr 0 0),(3,.im (.int .i64 t))],[(7,(true,.arr 2 1 ((atU S (atA a) p i.1).map intC))),(5,(true,.arr 2 1 ((glQ s a p 4).map intC))),(0,(false,.view (Qaa.c s))),(1,(false,.view (Asm.c a)))],8⟩,fun i=>s.Tiles.length - i.1,fun i=>⟨by simp[Qad.good,belT,belH,Qam,AV.bel,belL],by simp⟩,⟨⟨0,Zbc _⟩,[(7,some 6)],?_⟩,fun i=> ?_⟩
 .simp only[subP];simp(maxSteps:=9^9)(disch:=omega)only[ZZ,simprocAttr,rch,YaG,Zaf,Zae,atU,ZaS]
  try simp
 obtain⟨i,hi⟩:=i;have hul:=Qakm S (atA a) p i;simp(maxSteps:=9^9)(disch:=omega)only[ZZ,simprocAttr,rch,YaG,sub,Qal];intro _;refine⟨fun hi2=> ?_,fun hi2=> ?_⟩;rotate_left
 .obtain rfl:i=s.Tiles.length:=by omega
  rfl
 refine Qay.old ⟨{k:Nat//k<=4},fun k=>⟨[(15,.im (.int .i64 k.1)),(14,.im (.int .i64 (Qhs s (atA a) p i k.1))),(13,.im (.int .i64 i)),(12,.own 7),(9,.own 5),(0,.ptr 0 0),(3,.im (.int .i64 t))],[(7,(true,.arr 2 1 ((atU S (atA a) p i).map intC))),(5,(true,.arr 2 1 ((glQ s a p 4).map intC))),(0,(false,.view (Qaa.c s))),(1,(false,.view (Asm.c a)))],8⟩,fun k=>4 - k.1,fun k=>⟨by simp[Qad.good,belT,belH,Qam,AV.bel,belL],by simp⟩,⟨⟨0,Zbc _⟩,?_⟩,fun k=> ?_⟩
 .simp(maxSteps:=9^9)(disch:=omega)only[ZZ,simprocAttr,rch,YaG,sub,Qhs]
 obtain⟨k,hk⟩:=k;simp(maxSteps:=9^9)(disch:=omega)only[ZZ,simprocAttr,rch,YaG,sub,Qal,Qag,Qac,Qaf,allD,D.one,ZaW,Zcg,Zdc];have hkw:IntKind.i64.wrap ((k:Int)+1)=((k+1:Nat):Int):=by rw[Qak (by omega) (by omega)];omega
 have hbb:=Qwy h1 (atA a) p i k;have htb:=Qxd h1 (atA a) p i k;have h4l:=Qaj4 s a p 4;rw[h4l];refine⟨fun hk4=>⟨hi2,fun x hx=>⟨by rw[(h1.2.1 x (Zac hx)).1];omega,fun g hg=>⟨by omega,by omega,fun y hy=> ?_⟩⟩⟩,fun hk4=> ?_⟩
 .have hse:Qqu s i k=g:=Qpn (by simpa using hx) (by simpa using hg);rw[Qak3 (by omega),Zab] at hy;have htl:=term_gl (i:=i) hy.symm;rw[hse] at htl;refine⟨fun e=>⟨by omega,by omega,fun z hz=> ?_⟩,fun e=>⟨⟨k+1,by omega⟩,by simp only;omega,hkw,?_⟩⟩
  .rw[Qak3 (by omega),Zab] at hz;obtain rfl:y=z:=hy.symm.trans hz;rw[Zao e] at htl;have hyb:0<=y/\y<=s.Glues.length:=by
    have:=side_b h1 (t:=i) (d:=k)
    rw[hse,e] at this;exact this
   refine⟨⟨hyb.1,hyb.2,h1.1⟩,⟨k+1,by omega⟩,by simp only;omega,hkw,?_⟩;rw[htl,Qak (by omega) (by omega)];rfl
  .rw[Zai e] at htl;simp only[Qhs,<-htl];omega
 .obtain rfl:k=4:=by omega
  have hiw:IntKind.i64.wrap ((i:Int)+1)=((i+1:Nat):Int):=by rw[Qak (by omega) (by omega)];omega
  have e1:S.Temperature=t:=by rw[hS]
  have e2:S.Set=s:=by rw[hS]
  refine⟨fun e=>⟨by omega,⟨i+1,by omega⟩,[(7,some 9)],by simp only;omega,?_⟩,fun e=>⟨⟨i+1,by omega⟩,[(7,some 7)],by simp only;omega,?_⟩⟩
  .simp only[subP];simp(maxSteps:=9^9)(disch:=omega)only[ZZ,simprocAttr,rch,YaG,Zaf,Zae,atU,e1,e2];rw[Zao e];exact⟨hiw,by simp[intC]⟩
  .simp only[subP];simp(maxSteps:=9^9)(disch:=omega)only[ZZ,simprocAttr,rch,YaG,Zaf,Zae,atU,e1,e2];rw[Zai e,ZaP];exact⟨hiw,rfl⟩
theorem atU_S(s:Qar)(a b:Asm)(f:Qae->Int)(p:Qae): ∀n,atU ⟨s.Set,a,s.Temperature⟩ f p n=atU s f p n
 |0=>rfl
 |n+1=>by simp only[atU,atU_S s a b f p n]
def Qakh(g:Qae->List Int)(l:List Qae)(i:Nat):List Opt:=Qajs g (l.take i)
theorem Qalm{g:Qae->List Int}{l:List Qae}{i:Nat}{p:Qae}(h:l[i]? =some p):Qakh g l (i+1)=Qakh g l i++(g p).map (mkO2 p):=by
 simp only[Qakh,Qajs,Qwe h,ZdG,Zbn,Zdk,ZaP]
theorem Qakc{g:Qae->List Int}{m:Nat}(hg: ∀p,(g p).length<=m): ∀(l:List Qae),(Qajs g l).length<=l.length*m
 |[]=>by simp[Qajs]
 |p::r=>by
  have ih:=Qakc hg r
  have:=hg p
  simp only[Qajs] at ih;simp only[Qajs,Zbn,ZaF,Zbp,ZaL,ZeQ];omega
def opsS_.fv(a:Qar×Asm):List Opt:=(Qaj8) (a.1) (a.2)
def opsS_.row:Row:=vK (b2 (qP 4 Qar.d_le) (qP 1 Asm.d_le)) (rS Opt.d_le Opt.c_n) (fun a=>setP a.1.Set/\Qn7 a.1.Set a.2/\a.2.Tiles.length<=500/\a.1.Set.Tiles.length<=1000) opsS_.fv
def opsS_.q:=vKq (R:=opsS_.row) rfl
def YaH:=J @opsS_.fv.eq_1<|J @nearS_.q<|J @nearS_.fv.eq_1<|J @atQ_.q @atQ_.fv.eq_1
theorem opsS_.ok:Qas Tryz.prog 48 opsS_.row:=by
 refine vw (tC nearS_.ok (tC atQ_.ok tN)) Tryz.func48 rfl (by kernel_rfl) ?_;intro a hpre;simp only[Tryz.f48,Option.getD];simp(maxSteps:=9^9)(disch:=omega)only[ZZ,simprocAttr,rch,YaH];obtain⟨s,a⟩:=a;obtain⟨h1,h2,h3,h4⟩:=hpre;simp only at h1 h2 h3 h4⊢;refine⟨⟨h2.1,by omega,s.Set,h2.2⟩,?_⟩;obtain⟨L,hL⟩: ∃L,L=Qajq a a.Tiles.length:=⟨_,rfl⟩;obtain⟨g,hg⟩: ∃g,g=fun p=>atU s (atA a) p s.Set.Tiles.length:=⟨_,rfl⟩
 have hop:Qaj8 s a=Qajs g L:=by rw[hg,hL];rfl
 rw[hop];have hLl:L.length<=2000:=by have:=Qaj2 a a.Tiles.length;rw[hL];omega
 have hgl: ∀p,(g p).length<=1000:=fun p=>by have:=Qakm s (atA a) p s.Set.Tiles.length;rw[hg];simp only;omega
 have hLo: ∀p∈L,Qbi p=true:=fun p hp=>by
  rw[hL,Qajz _ (Zal _)] at hp;exact hp.1.1
 simp only[<-hL];refine Qay.ren ⟨{i:Nat//i<=L.length},fun i=>⟨[(7,.im (.int .i64 i.1)),(6,.im (.sl false 2 (L.map Qae.c))),(5,.own 4),(0,.ptr 0 0),(1,.ptr 1 0)],[(4,(true,.arr 74 3 ((Qakh g L i.1).map Opt.c))),(0,(false,.view (Qar.c s))),(1,(false,.view (Asm.c a)))],5⟩,fun i=>L.length - i.1,fun i=>⟨by simp[Qad.good,belT,belH,Qam,AV.bel,belL],by simp⟩,⟨⟨0,Zbc _⟩,[(4,some 3)],?_⟩,fun i=> ?_⟩
 .simp only[subP];simp(maxSteps:=9^9)(disch:=omega)only[ZZ,simprocAttr,rch,YaH,Zaf,Zae,Qakh,ZbP,Qajs,Zdk,ZaS]
  try simp
 obtain⟨i,hi⟩:=i;simp(maxSteps:=9^9)(disch:=omega)only[ZZ,simprocAttr,rch,YaH,sub,Qal];intro _;refine⟨fun hi2=> ?_,fun hi2=> ?_⟩;rotate_left
 .obtain rfl:i=L.length:=by omega
  rw[Qakh,ZbI]
 have hol:(Qakh g L i).length<=2000*1000:=by
  have:=Qakc hgl (L.take i)
  have h9:(L.take i).length*1000<=2000*1000:=Zbi _ (by simp;omega);simp only[Qakh];omega
 refine⟨hi2,fun p hp=> ?_⟩;have hpo:=hLo p (Zac hp);refine⟨⟨h1,h2,Qkc hpo,by omega⟩,?_⟩;have hga:atU ⟨s.Set,a,s.Temperature⟩ (atA a) p s.Set.Tiles.length=g p:=by rw[atU_S _ _ a,hg]
 rw[hga];have hgp:=hgl p;refine Qay.ren ⟨{k:Nat//k<=(g p).length},fun k=>⟨[(9,.im (.int .i64 k.1)),(8,.im (.sl false 1 ((g p).map intC))),(7,.im (.int .i64 i)),(6,.im (.sl false 2 (L.map Qae.c))),(5,.own 5),(0,.ptr 0 0),(1,.ptr 1 0)],[(5,(true,.arr 74 3 ((Qakh g L i++((g p).take k.1).map (mkO2 p)).map Opt.c))),(0,(false,.view (Qar.c s))),(1,(false,.view (Asm.c a)))],6⟩,fun k=>(g p).length - k.1,fun k=>⟨by simp[Qad.good,belT,belH,Qam,AV.bel,belL],by simp⟩,⟨⟨0,Zbc _⟩,[(5,some 4)],?_⟩,fun k=> ?_⟩
 .simp only[subP];simp(maxSteps:=9^9)(disch:=omega)only[ZZ,simprocAttr,rch,YaH,Zaf,Zae,ZbP,ZaS,ZaP]
  try simp
 obtain⟨k,hk⟩:=k;simp(maxSteps:=9^9)(disch:=omega)only[ZZ,simprocAttr,rch,YaH,sub,Qal,Qag,Qac,Qaf,allD,D.one,ZaW,Zcg,Zdc,ZaF];intro _;refine⟨fun hk2=>⟨hi2,fun q hq=>⟨hk2,fun x hx=>⟨?_,⟨k+1,by omega⟩,[(5,some 7)],by simp only;omega,?_⟩⟩⟩,fun hk2=>⟨⟨i+1,by omega⟩,[(4,some 5)],by simp only;omega,?_⟩⟩
 .have:((g p).take k).length<=1000:=by simp;omega
  omega
 .obtain rfl:=Zaa (hp.symm.trans hq);simp only[subP];simp(maxSteps:=9^9)(disch:=omega)only[ZZ,simprocAttr,rch,YaH,Zaf,Zae];refine⟨by rw[Qak (by omega) (by omega)];rfl,?_⟩;rw[Qwe hx];simp[mkO2,Opt.c,Qae.c]
 .obtain rfl:k=(g p).length:=by omega
  simp only[subP];simp(maxSteps:=9^9)(disch:=omega)only[ZZ,simprocAttr,rch,YaH,Zaf,Zae];refine⟨by rw[Qak (by omega) (by omega)];rfl,?_⟩;rw[Qalm hp,ZbI]
end Go.Ae
namespace Go.Ae
open Go.Proofs Go.Sort Go.Shelf
instance:Inhabited Qae:=⟨⟨0,0⟩⟩
def encQ(x:Qae):List Value:=[.int .i64 x.X,.int .i64 x.Y]
def cfQ(x y:Qae):Int:=Qabu (x.X,x.Y) (y.X,y.Y)
theorem Qamn(x y:Qae):ltOf cfQ x y=Qap x y:=by
 simp only[ltOf,cfQ,Qabu,Lib.compareInt,Qap]
 grind
theorem swoQ:SWO (ltOf cfQ) where
 irrefl x:=by rw[Qamn];simp only[Qap];grind
 trans x y z h1 h2:=by rw[Qamn] at*;simp only[Qap] at*;grind
 ntrans x y z h1 h2:=by rw[Qamn] at*;simp only[Qap] at*;grind
theorem Qall{l:List Qae}(hd:l.Nodup):(Qakz l).Perm l:=(Zen (ltQ_nd (Qakg l)) hd).2 fun _=>Qaka
theorem Qamw{l l':List Qae}(hd:l.Nodup)(hp:l'.Perm l)(hs:l'.Pairwise (fun a b=>Qap b a=false)):l'=Qakz l:=by
 refine Qal3 ?_ (Qakg l) (fun q=>by rw[Qaka,hp.mem_iff]);have hn:l'.Nodup:=hp.nodup_iff.2 hd;refine Zey (fun {a b} h=> ?_) (List.pairwise_and_iff.2 ⟨hs,hn⟩);exact Qako h.1 fun e=>h.2 e.symm
theorem sortQ_len{l:List Qae}(hd:l.Nodup):(Qakz l).length=l.length:=(Qall hd).length_eq
def flQ(l:List Qae):List Value:=l.flatMap encQ
theorem flQ_len(l:List Qae):(flQ l).length=l.length*2:=by
 induction l with
 |nil=>rfl
 |cons x r ih=>simp only[flQ,Zbn,ZaF,ZaL] at ih⊢;rw[ih];simp[encQ];omega
theorem Qaml{ok:Nat->Prop}{hp:Nat->Option Obj}: ∀(l:List Qae) (L:List Value),rdr ok hp 2 (l.map Qae.c) L↔ ∃r,L=flQ l++r
 |[],L=>by simp[rdr,flQ]
 |x::r,L=>by
  simp only[Zap,rdr,Qaml r,Qae.c,rdp,rd,flQ,Zbn];constructor
  .rintro⟨_,⟨v,L1,rfl,rfl,v2,L2,rfl,rfl,_⟩,q,hq⟩;exact⟨q,by simp only[ZbW,ZbK] at hq;rw[hq];rfl⟩
  .rintro⟨q,rfl⟩;exact⟨rfl,⟨_,_,rfl,rfl,_,_,rfl,rfl,trivial⟩,q,rfl⟩
theorem flQ_get: ∀(l:List Qae) (t:Nat),t<l.length*2->(flQ l)[t]? =some ((encQ (l[t/2]?.getD default))[t % 2]!)
 |[],t,h=>by simp at h
 |x::r,t,h=>by
  by_cases ht:t<2
  .have:t=0\/t=1:=by omega
   rcases this with rfl|rfl<;>simp[flQ,encQ]
  .obtain⟨u,rfl⟩: ∃u,t=u+2:=⟨t - 2,by omega⟩;have e1:(u+2)/2=u/2+1:=by omega
   have e2:(u+2) % 2=u % 2:=by omega
   have ih:=flQ_get r u (by simp at h;omega);rw[e1,e2,Zbj,<-ih];simp[flQ,encQ]
theorem Qama(l:List Qae):(flatK encQ 2 l.toArray).toList=flQ l:=by
 apply ZbO;intro t;by_cases ht:t<l.length*2
 .rw[flQ_get l t ht];have hs:t<(flatK encQ 2 l.toArray).size:=by simp only[size_flatK,ZbX];exact ht
  have h1:=get_flatK encQ 2 l.toArray t (by simpa using ht);rw[ZaX,ZaZ hs,<-getElem!_pos (flatK encQ 2 l.toArray) t hs,h1];congr 3;simp[getElem!_def];cases l[t/2]? <;>rfl
 .have a1:(flatK encQ 2 l.toArray).toList.length<=t:=by rw[ZaQ,size_flatK,ZbX];omega
  have a2:(flQ l).length<=t:=by rw[flQ_len];omega
  rw[ZaT a1,ZaT a2]
def srtQ.ca(_:List Qae):List AV:=[.own 0,.im (.fn 131 [] [])]
def srtQ.H0(a:List Qae):Qan:=[(0,(true,.arr 72 2 (a.map Qae.c)))]
def srtQ.H1(a:List Qae):Qan:=[(0,(true,.arr 72 2 ((Qakz a).map Qae.c)))]
def srtQ.row:Row:=orow srtQ.ca srtQ.H0 1 (fun a=>a.Nodup) (fun _=>true) (fun _=> .im (.tup [])) srtQ.H1 0
theorem srtQ.ok:Qas Tryz.prog 169 srtQ.row:=by
 rintro args h nx K ⟨a,τ,U,KL,hpre,rfl,hheap,hN,hK⟩;refine⟨Qh7 (by kernel_rfl),_,_,?_,hK⟩;intro C S vs R hW huse hfresh hnames hargs hfin;have hs0:sgx τ 1 nx 0=τ 0:=Zao (by omega);simp only[srtQ.ca,renL,AV.ren,hs0,Qa0,conc,rd,rdl] at hargs;obtain⟨v0,r0,hv,⟨hone,hown⟩,v1,r1,hr1,⟨ac,cc,hv1,hac,hcc⟩,hr2⟩:=hargs;have hac:ac= #[]:=by apply ZcU;simpa using hac
 have hcc:cc= #[]:=by apply ZcU;simpa using hcc
 subst hac hcc hr2 hr1 hv1;have hvs:vs= #[v0,.func (fnV 131) #[] #[]]:=by apply ZcU;simpa using hv
 subst hvs;have hm:h (τ 0)=some (true,.arr 72 2 (a.map Qae.c)):=by
  have:=hheap.1
  rwa [hs0] at this
 have hd0:domB (srtQ.H0 a) 0=true:=rfl;have hSm:S.h (τ 0)=some (true,.arr 72 2 (a.map Qae.c)):=by
  rw[huse (τ 0) (Zbx _ (hN.u 0 hd0)),hm]
 have hk0: ∀n,n∈KL↔n=τ 0:=by
  intro n;constructor
  .intro hn;obtain⟨j,h1,_,h3⟩:=hN.k1 n hn
   have:j=0:=by
    simp only[domB,srtQ.H0,hget] at h1;by_cases hj:j=0
    .exact hj
    .have:(0==j)=false:=by simpa using fun h=>hj h.symm
     rw[this] at h1;cases h1
   rw[h3,this]
  .rintro rfl;exact hN.k2 0 hd0 rfl
 obtain⟨m,hmm⟩: ∃m,m=τ 0:=⟨_,rfl⟩;rw[<-hmm] at hSm hown hk0;have hsl:=sortQ_len hpre;have fin: ∀(w':World),Qjb S m (.arr 72 2 ((Qakz a).map Qae.c)) (S.ρ m) [m] w'->
  (Pres (fun n=>S.h m≠none\/n≠m) S (S.one m (.arr 72 2 ((Qakz a).map Qae.c)) (S.ρ m) [m] w')->objc (S.one m (.arr 72 2 ((Qakz a).map Qae.c)) (S.ρ m) [m] w') (S.ρ m) (.arr 72 2 ((Qakz a).map Qae.c)))->R (.returned (.tuple #[])) w':=by
  intro w' hone hob;have hp:=Qg2 hW hone;refine hfin (.tuple #[]) _ (Qqp hW hone (hob hp)) ?_ ⟨hp.ok,fun n _=>hp.nm n (.inl (by rw[hSm];simp))⟩ ⟨#[],rfl,rfl⟩;funext n;simp only[Env.one,Eff.appf,srtQ.H1,renH,hs0,hget,AObj.ren,<-hmm];by_cases hn:n=m
  .subst hn;simp
  .have h1:(m==n)=false:=by simpa using fun h=>hn h.symm
   have h2:KL.contains n=false:=by
    rw[<-ZcJ,Zbh,hk0];exact hn
   simp only[h1,ZaM,h2,hn,ZbA,Zan]
 have hown':=hown _ hSm;have hobj:=hW.obj _ _ hSm;have hloc:=fun lc=>hW.loc m _ lc hSm
 cases hρ:S.ρ m with
 |none=>
  rw[hρ] at hown' hobj;simp only[objc] at hobj;have ha:a=[]:=by simpa using hobj.2
  subst ha;simp only at hown';rw[hown',Qoi (by decide)];refine (AnyF.slices_SortFunc_none Tryz.sortPt none 0 (.func (.func 131) #[] #[]) S.w).mono ?_;rintro e w' ⟨rfl,rfl⟩;refine fin S.w (Qacz hSm (fun l hl=>by rw[hρ] at hl;cases hl) rfl rfl) (fun _=> ?_);rw[hρ];exact⟨Zbc _,rfl⟩
 |some lc=>
  rw[hρ] at hown' hobj;simp only[objc,AObj.len] at hobj hown';obtain⟨g1,g2,cv,g3,g4,g5⟩:=hobj;obtain⟨hlb,hlk⟩:=hloc lc hρ;rw[Qaml] at g5;obtain⟨rest,g5⟩:=g5;simp only[Zbp] at g1 g2 hown';have hheap:S.w.heap[lc.b]? =some (.cells cv 72 (0,0)):=g3;have hlen:lc.p+a.length*2<=cv.size:=by omega
  have hF:(flatK encQ 2 a.toArray).size=a.length*2:=by simp
  have hget: ∀j,j<a.length*2->cv[lc.p+j]? =some ((flatK encQ 2 a.toArray)[j]!):=by
   intro j hj;have h1:(cv.toList.drop lc.p)[j]? =(flQ a++rest)[j]? :=by rw[g5]
   rw[Zbw,ZaX,ZaC (by rw[flQ_len];exact hj),<-Qama,ZaX] at h1;rw[h1,ZaZ (by rw[hF];exact hj),getElem!_pos _ _ (by rw[hF];exact hj)]
  have hH:HoldsK encQ 2 S.w lc.b lc.p a.toArray:=by
   intro j hj;rw[hF] at hj;refine⟨?_,?_⟩
   .simp only[World.cell?,hheap,Zcx,ZaB,ZbA,id];exact hget j hj
   .simp only[World.frozen?,hheap];simp
  have hc:=AnyQ.slices_SortFunc Tryz.sortPt 2 Tryz.isAgg72 Tryz.sizeOf72 encQ (fun _=>rfl) (fun x v hv=>by simp[encQ] at hv;rcases hv with rfl|rfl<;>rfl) cfQ swoQ 131 #[] lc.b lc.p lc.cap a.toArray S.w
   (Qhx (Qh7 (by kernel_rfl))) (fun m os dk hs x y=>Tryz.cmpPoints _ _ _ _ _) hH hlb (by simp only[ZbX,LIM] at g1⊢;omega)
  rw[hown',Qoi (by decide)];refine hc.mono ?_;rintro e w' ⟨rfl,d',n,os,hperm,hsort,rfl⟩;have hsz:d'.size=a.length:=hperm.1;have hd':d'.toList=Qakz a:=by
   refine Qamw hpre ?_ ?_
   .have:=hperm.2.2
    rwa [show d'.extract 0 a.toArray.size=d' by rw[ZbX,<-hsz];exact Zdn,show a.toArray.extract 0 a.toArray.size=a.toArray from Zdn] at this
   .rw[ZdD];intro i j hi hj hij
    have:=hsort i j (Zbc _) hij (by rw[ZbX,<-hsz];simpa using hj)
    rw[Qamn,getElem!_pos d' i (by simpa using hi),getElem!_pos d' j (by simpa using hj)] at this;simpa using this
  obtain rfl:d'=(Qakz a).toArray:=by apply ZcU;rw[hd']
  have hF':(flatK encQ 2 (Qakz a).toArray).size=a.length*2:=by simp[hsl]
  have hl2:(flatK encQ 2 (Qakz a).toArray).toList.length=a.length*2:=by rw[ZaQ,hF']
  have hsize:S.w.heap.size<=(sortWorldK encQ 2 S.w lc.b lc.p n (Qakz a).toArray os).heap.size:=by
   simp[sortWorldK,grow,putRowK,Sort.ahead]
  have hb: ∀b,b<S.w.heap.size->(sortWorldK encQ 2 S.w lc.b lc.p n (Qakz a).toArray os).heap[b]? =if lc.b=b then S.w.heap[b]?.map (onCells (putCells id lc.p (flatK encQ 2 (Qakz a).toArray))) else S.w.heap[b]? :=by
   intro b hb;have e0:b<(putRowK encQ 2 (Sort.ahead S.w n) lc.b lc.p (Qakz a).toArray).heap.size:=by simpa[putRowK,Sort.ahead] using hb
   simp only[sortWorldK,grow];rw[Zdz e0];simp only[putRowK,putRow,mapBlock,Sort.ahead,ZdU]
  refine fin _ ⟨rfl,rfl,rfl,hsize,?_,.inl (by simp),?_,?_,?_⟩ ?_
  .intro b hb1 hb2;rw[hb b hb1,Zai (hb2 m _ lc (by simp) hSm hρ)]
  .intro lo hlo;rw[hρ] at hlo;obtain rfl:=Zaa hlo;exact⟨Zbb hlb hsize,.inr ⟨m,_,lc,by simp,hSm,hρ,rfl⟩⟩
  .intro f hf;rw[hSm] at hf;obtain rfl:=Zaa hf;exact⟨rfl,rfl,by simp[AObj.len,hsl]⟩
  .intro n' f _ hnone;rw[hSm] at hnone;cases hnone
  .intro _;rw[hρ];simp only[objc,Zbp,hsl];refine⟨g1,g2,putCells id lc.p (flatK encQ 2 (Qakz a).toArray) cv,?_,by simpa[putCells] using g4,?_⟩
   .simp only[Env.one,Env.hp];rw[hb lc.b hlb,Zao rfl,hheap];rfl
   .rw[Qaml];refine⟨(cv.toList.drop (lc.p+a.length*2)),?_⟩;apply ZbO;intro t;rw[Zbw,ZaX,putCells,ZeG,hF',<-Qama];by_cases ht:t<a.length*2
    .rw[ZaC (by rw[hl2];exact ht),ZaX,ZaZ (show lc.p+t<cv.size by omega),ZaZ (by rw[hF'];exact ht)];simp only[ZaO,id];rw[Zao ⟨by omega,by omega⟩,ZcM,getElem!_pos _ _ (by rw[hF'];exact ht)]
    .rw[ZaG (by rw[hl2];omega),hl2,Zbw,ZaX,show lc.p+a.length*2+(t - a.length*2)=lc.p+t by omega];cases cv[lc.p+t]? with
     |none=>rfl
     |some x=>simp only[ZaO];rw[Zai (by omega)]
end Go.Ae
namespace Go.Ae
open Go.Proofs
def cntO(op:List (Qae×List Int)):Nat:=(op.map fun q=>q.2.length).sum
theorem lkP_of{β:Type}: ∀{l:List (Qae×β)} {q:Qae×β},(l.map Prod.fst).Nodup->q∈l->lkP l q.1=some q.2
 |x::r,q,hn,hq=>by
  obtain⟨p,v⟩:=x;rw[Zap,Zch] at hn;simp only[lkP];rcases Zas.1 hq with rfl|hq
  .rw[Zao rfl]
  .have:q.1≠p:=fun e=>hn.1 (by rw[<-e];exact Zaw.2 ⟨q,hq,rfl⟩)
   rw[Zai this];exact lkP_of hn.2 hq
theorem Qaky{g:Qae->List Int}: ∀(l:List Qae),(Qajs g l).length=(l.map fun p=>(g p).length).sum
 |[]=>rfl
 |p::r=>by
  have:=Qaky (g:=g) r
  simp only[Qajs] at this;simp only[Qajs,Zbn,ZaF,Zbp,Zap,Zcn,this]
theorem optsC_len{op:List (Qae×List Int)}(h:(op.map Prod.fst).Nodup):(Qalo op).length=cntO op:=by
 rw[Qalo,Qaky,((Qall h).map _).sum_nat,ZcO];congr 1;refine ZbQ fun q hq=> ?_
 simp only[Function.comp,lkP_of h hq,Zag]
theorem cnt_ge: ∀{l:List (Qae×List Int)},(∀q∈l,q.2≠[])->l.length<=cntO l
 |[],_=>Zbc _
 |x::r,h=>by
  have h1:0<x.2.length:=ZcR.2 (h x (Zar ..));have h2:=cnt_ge fun q hq=>h q (Zam x hq)
  simp only[cntO,Zap,Zcn,ZaL] at h2⊢;omega
theorem Qal6(s:Qar){b:Asm}(h1:b.Tiles.length<=500)(h2:s.Set.Tiles.length<=160):(Qaj8 s b).length<=320000:=by
 have h7:=Qakc (g:=fun p=>atU s (atA b) p s.Set.Tiles.length) (m:=160) (fun p=>Zbe (Qakm s (atA b) p _) (by omega)) (Qajq b b.Tiles.length);have h8:=Qaj2 b b.Tiles.length;have h9:(Qajq b b.Tiles.length).length*160<=2000*160:=Zbi _ (by omega);exact Zbe h7 h9
theorem op_lim{s:Qar}{b:Asm}{op:List (Qae×List Int)}(hT:1<=s.Temperature)(h1:b.Tiles.length<=500)(h2:s.Set.Tiles.length<=160)(hop:OpOk s (atA b) op):
 Qalo op=Qaj8 s b/\((op.map Prod.fst).Nodup/\op.length<=1000000/\ ∀q∈op,q.2.length<=1000)/\(Qalo op).length<=320000:=by
 have hlaw:=opts_law hT hop;have hlen:=optsC_len hop.1;rw[hlaw] at hlen;have hv2: ∀q∈op,q.2=Qajt s (atA b) q.1/\q.2≠[]:=fun q hq=>by
  have h5:=lkP_of hop.1 hq;rw[hop.2,nonE] at h5;split at h5
  .cases h5
  .rename_i c;have h6:=Zaa h5;exact⟨h6.symm,by rw[<-h6];exact c⟩
 have h6:op.length<=cntO op:=cnt_ge fun q hq=>(hv2 q hq).2
 have h7:=Qal6 s h1 h2;refine⟨hlaw,⟨hop.1,by omega,fun q hq=> ?_⟩,by rw[hlaw];exact h7⟩;rw[(hv2 q hq).1];exact Zbe (Qus s _ _ _) (by omega)
def badS(n:Int):Bool:= !Qau n 0 1000
def Qanv(l:List Int):Bool:=decide (l.length<=200) && !l.any badS
def schN(l:List Int)(n k:Nat):Nat:=if l.length=0 then 0 else (((l[k % l.length]?).getD 0) % (n:Int)).toNat
theorem Qaoc{l:List Int}(h:Qanv l=true){x:Int}(hx:x∈l):0<=x/\x<=1000:=by
 simp only[Qanv,Zah,Zce] at h;have h1:badS x=false:=by
  cases hb:badS x with
  |false=>rfl
  |true=>rw[ZeE.2 ⟨x,hx,hb⟩] at h;cases h.2
 simpa[badS,Qau] using h1
theorem schN_lt{l:List Int}{n k:Nat}(hn:0<n):schN l n k<n:=by
 simp only[schN];split
 .exact hn
 .have h1:=Int.emod_nonneg ((l[k % l.length]?).getD 0) (b:=(n:Int)) (by omega);have h2:=Int.emod_lt_of_pos ((l[k % l.length]?).getD 0) (b:=(n:Int)) (by omega);omega
def nxO(s:Qar)(l:List Int)(b:Asm)(k:Nat):Option Opt:=(Qaj8 s b)[schN l (Qaj8 s b).length k]?
theorem Qanx{s:Qar}{l:List Int}{b:Asm}{k:Nat}:nxO s l b k=none↔Qaj8 s b=[]:=by
 simp only[nxO,Zew];constructor
 .intro h;cases he:Qaj8 s b with
  |nil=>rfl
  |cons x r=>
   have:=schN_lt (l:=l) (k:=k) (n:=(Qaj8 s b).length) (by rw[he];simp)
   omega
 .intro h;rw[h];simp
def grw(s:Qar)(l:List Int):Nat->Asm->List Opt->List Opt×Asm×Int
 |0,b,d=>(d,b,0)
 |n+1,b,d=>match nxO s l b d.length with
  |none=>(d,b,0)
  |some o=>if 500<=b.Tiles.length then ([],⟨[]⟩,4) else grw s l n (putA b o.At o.Tile) (d++[o])
theorem Qanu(b:Asm)(p:Qae)(t:Int):(putA b p t).Tiles.length=b.Tiles.length+1:=by
 rw[Qi8];rw[(Qn1 ⟨p,t⟩ b.Tiles).length_eq,ZaL]
def gwN(s:Qar)(l:List Int)(n:Int):List Opt×Asm×Int:=if Qjc s=false then ([],⟨[]⟩,1) else if Qanv l=false\/Qau n 0 500=false then ([],⟨[]⟩,2) else grw s l n.toNat s.Seed []
theorem opt_can{s:Qar}{b:Asm}(hb:Qn7 s.Set b){o:Opt}(h:o∈Qaj8 s b):canS s b o=true:=by
 rw[Qaj8,Qajs,ZeF] at h;obtain⟨p,hp,h⟩:=h;obtain⟨t,ht,rfl⟩:=Zaw.1 h;rw[Qajz _ (Zal _)] at hp;obtain⟨⟨h1,h2⟩,_⟩:=hp;have key: ∀n,t∈atU s (atA b) p n->0<=t/\t<n/\s.Temperature<=Qhs s.Set (atA b) p t 4:=by
  intro n;induction n with
  |zero=>intro h;simp[atU] at h
  |succ n ih=>
   intro h;simp only[atU,Zaq] at h;rcases h with h|h
   .have:=ih h;exact⟨this.1,by omega,this.2.2⟩
   .split at h
    .rename_i c;simp only[Zan] at h;subst h;exact⟨by omega,by omega,c⟩
    .cases h
 obtain⟨k1,k2,k3⟩:=key _ ht;show canS s b ⟨p,t⟩=true;simp only[canS,Qau,Zah,Zay];exact⟨h1,⟨k1,by omega⟩,(Qala hb.2 p).2 h2,by rw[<-bindF_A];exact k3⟩
theorem Qan2{s:Qar}{l:List Int}{b:Asm}{k:Nat}(hb:Qn7 s.Set b){o:Opt}(h:nxO s l b k=some o):canS s b o=true:=opt_can hb (Zac h)
def grwX(s:Qar)(l:List Int):Nat->Asm->List Opt->List Opt×Asm×Bool×Int
 |0,b,d=>(d,b,(nxO s l b d.length).isNone,0)
 |n+1,b,d=>match nxO s l b d.length with
  |none=>(d,b,true,0)
  |some o=>if 500<=b.Tiles.length then ([],⟨[]⟩,false,4) else grwX s l n (putA b o.At o.Tile) (d++[o])
theorem grwX_eq{s:Qar}{l:List Int}: ∀(n:Nat) (b:Asm) (d:List Opt),((grwX s l n b d).1,(grwX s l n b d).2.1,(grwX s l n b d).2.2.2)=grw s l n b d
 |0,b,d=>rfl
 |n+1,b,d=>by
  rw[grwX,grw];split
  .rfl
  .split
   .rfl
   .exact grwX_eq n _ _
theorem it_regU{ι:Type}{P:Program}{V:Qbh}{N:Nat}{J:ι->(Nat->Prop)->World->Prop}{base:Nat}{ok0:Nat->Prop}{i j:ι}(HV:Qd1 P V)(hA:Qoh base J){stp:ι->List D->ι->Prop}{l:Nat}(hY: ∀i x j args Pr W,stp i x j->(∀ok hp,rdl ok hp x args.toList)->J i Pr W->YieldAt Fence.wide 0 P l args W fun e W'=>e= .returned (.bool true)/\ ∃Pr',J j Pr' W'/\Move ok0 Pr W Pr' W')
 {id:Nat}{ops:Array Oper}(k1:Nat)(hsz:List.range ops.size=List.range' 0 (ops.toList.take k1).length++(k1::(List.range' (k1+1) (ops.toList.drop (k1+1)).length++[])))(hd1:Qkq N (ops.toList.take k1)=true)(hd2:Qkq N (ops.toList.drop (k1+1))=true)(hcalm:Qhw ops=true)
 {o:Oper}{c:Call}{f:Operand}{x:List D}(s1:Qad){s s2:Qad}{a:Act}{w:World}{Q:Exit->Act->World->Prop}(ho:ops[k1]? =some o)(hop:o.op= .call c)(hcal:c.callee= .value f)(hgd:o.guard=none)
 (hf:evO s1.tm f= .im (.fn (1000000000+l) [] []))(hargs:evL s1.tm c.args.toList=x.map .im)(hsc:x.all D.scs=true)(hx:stp i x j)(hnv: ∀n e,hget s1.h n=some e->e.2.isView=false)(hd: ∀d,o.dst=some d->d<N)(hg1:s1.good=true)(hg2:s2.good=true)
 (h:It J base ok0 N i s a w)(hk1:rgS P V (Qgy ops (ops.toList.take k1)) (fun s=>sub s s1) s)(hk2:rgS P V (Qgy ops (ops.toList.drop (k1+1))) (fun s=>sub s s2) (s1.put o.dst (.im (.bool true))))
 (hend: ∀a w,It J base ok0 N j s2 a w->Q .normal a w):(Code.region id ops false).wpIn Fence.wide 0 P Q a w:=by
 refine wpIn_region ?_;rw[hsz];refine Qamq HV hA (seg:=ops.toList.take k1) (more:=ops.toList.drop k1) (by rw[ZbK,ZbN]) hd1 hcalm hk1 h (fun s a w h1 h2=> ?_);have h3:=Qdd h2 h1 hg1 hA;have hw:Region.wanted o (yielded ops a.tmps)=true:=by simp[Region.wanted,hgd]
 refine Qamp hA hY ho hw hop hcal hf hargs hsc hx hnv hd h3 (fun a w h4=> ?_);refine Qamq HV hA (seg:=ops.toList.drop (k1+1)) (more:=[]) (by rw[ZaP]) hd2 hcalm hk2 h4 (fun s a w h5 h6=> ?_);exact hend a w (Qdd h6 h5 hg2 hA)
abbrev OpM:=List (Qae×List Int)
def givK(op:OpM):Giv:=⟨OpM×List Qae,(op,[]),fun i x j=> ∃(k:Nat) (p:Qae×List Int),i.1[k]? =some p/\x=[.agg (Qae.c p.1)]/\j=(i.1.eraseIdx k,i.2++[p.1]),fun i=>i.1=[]⟩
def kyS(l:Nat)(left:OpM)(last:Option (D×D)):Qad:=⟨[(5,.it 0),(0,.im (.fn (1000000000+l) [] []))],[(0,(true,.iter last (left.map Qbc)))],1⟩
def kyB(l:Nat)(left:OpM)(p:Qae×List Int):Qad:=⟨[(3,.ptr 1 0),(5,.it 0),(0,.im (.fn (1000000000+l) [] []))],[(0,(true,.iter (some (Qbc p)) (left.map Qbc))),(1,(true,.cells 72 [.im (.int .i64 p.1.X),.im (.int .i64 p.1.Y)]))],2⟩
theorem Qal7(l:Nat)(left:OpM)(last:Option (D×D)):(kyS l left last).good=true:=by simp[kyS,Qad.good,belT,belH,Qam,AV.bel]
theorem kyB_good(l:Nat)(left:OpM)(p:Qae×List Int):(kyB l left p).good=true:=by simp[kyB,Qad.good,belT,belH,belL,Qam,AV.bel]
theorem Qamv:Qkj Tryz.prog (tab []):=Qaaq [] (by simp)
theorem keys_iter(op:OpM):IterG Tryz.prog 170 [.ref [.mp ktP (op.map Qbc)]] (givK op):=by
 refine it_fnG Tryz.func170 rfl rfl (by simp) ?_;intro l J base ok0 hAb hY a w hIt;have HV:=Qvp Qamv;obtain⟨R,hR⟩: ∃R,R=(fun (e:Exit) (a:Act) (w:World)=> ∃i,(givK op).fin i/\itQ J base ok0 Tryz.f170.ntmps i (fun e _=>e= .normal\/e= .ret) e a w):=⟨_,rfl⟩;rw[<-hR];simp only[Tryz.f170,Option.getD] at hIt⊢;refine Qkw Qaq HV hAb (by decide) (by decide) hIt (Qx:=endS (kyS l op none)) ?_ (fun s a w h1 h2=> ?_) (fun _ _ _ _ h=>h.elim) (fun _ _ _ h=>h.elim)
 .simp(maxSteps:=9^9)(disch:=omega)only[ZZ,simprocAttr,rch,endS,kyS,entry,sub,ktP]
 have h3:=Qdd h2 h1 (Qal7 _ _ _) hAb;clear h1 h2 hIt;refine wpIn_block (wpIn_loop_ghost (fun m a w=> ∃(i:OpM×List Qae) (last:Option (D×D)),m=i.1.length/\It J base ok0 14 i (kyS l i.1 last) a w) op.length ⟨(op,[]),none,rfl,h3⟩ ?_);clear h3;rintro m a w ⟨⟨left,giv⟩,last,hm,h⟩;simp only at hm h;refine Qkw Qaq HV hAb (by decide) (by decide) h (Qx:=fun e s=>match e with
  | .normal=>(left=[]/\sub s ⟨(7,.im (.bool false))::(kyS l left last).tm,(kyS l left last).h,1⟩)\/ ∃(k:Nat) (p:Qae×List Int),left[k]? =some p/\sub s ⟨(7,.im (.bool true))::(kyS l left last).tm,(kyS l (left.eraseIdx k) (some (Qbc p))).h,1⟩
  |_=>False) ?_ (fun s a w h1 h2=> ?_) (fun _ _ _ _ h=>h.elim) (fun _ _ _ h=>h.elim)
 .simp(maxSteps:=9^9)(disch:=omega)only[ZZ,simprocAttr,rch,kyS,sub,Qwf];refine⟨fun h=> .inl (by simpa using h),fun i p hp=> ?_⟩;rw[ZaN] at hp;obtain⟨q,hq,rfl⟩:=Zav.1 hp;exact .inr ⟨i,q,hq,rfl⟩
 simp only at h1;rcases h1 with ⟨hl,hs⟩|⟨k,p,hk,hs⟩
 .have h3:=Qdd h2 hs (by simp[kyS,Qad.good,belT,belH,Qam,AV.bel]) hAb;refine Qkw Qaq HV hAb (by decide) (by decide) h3 (Qx:=endC (kyS l left last) False True 0) ?_ (fun s a w h1 h2=>h1.1.elim) (fun id s a w h1 h2=> ?_) (fun _ _ _ h=>h.elim)
  .simp(maxSteps:=9^9)(disch:=omega)only[ZZ,simprocAttr,rch,endC,kyS,sub]
  .obtain⟨rfl,_,h1⟩:=h1;simp only[Exit.then,Exit.inBlock,Zbd,hR,itQ];exact⟨(left,giv),hl,s,.inl trivial,h2⟩
 have h3:=Qdd h2 hs (by simp[kyS,Qad.good,belT,belH,Qam,AV.bel]) hAb;clear h2 h hs;refine Qkw Qaq HV hAb (by decide) (by decide) h3 (Qx:=endC (kyS l (left.eraseIdx k) (some (Qbc p))) True False 0) ?_ (fun s a w h1 h2=> ?_) (fun id s a w h1 h2=>h1.2.1.elim) (fun _ _ _ h=>h.elim)
 .simp(maxSteps:=9^9)(disch:=omega)only[ZZ,simprocAttr,rch,endC,kyS,sub]
 have h:=Qdd h2 h1.2 (Qal7 _ _ _) hAb;clear h1 h2 h3;refine wpIn_block ?_;refine Qkw Qaq HV hAb (by decide) (by decide) h (Qx:=endS (kyB l (left.eraseIdx k) p)) ?_ (fun s a w h1 h2=> ?_) (fun _ _ _ _ h=>h.elim) (fun _ _ _ h=>h.elim)
 .simp(maxSteps:=9^9)(disch:=omega)only[ZZ,simprocAttr,rch,endS,kyS,kyB,sub,Qbc,Qae.c]
  trace_state
 have h3:=Qdd h2 h1 (kyB_good _ _ _) hAb;clear h1 h2 h;have hkl:=(Zaj.1 hk).1;obtain⟨F,hF⟩: ∃F:AV,F= .im (.fn (1000000000+l) [] []):=⟨_,rfl⟩;obtain⟨E,hE⟩: ∃E:Ent,E=(true,.iter (some (Qbc p)) ((left.eraseIdx k).map Qbc)):=⟨_,rfl⟩;refine wpIn_seq (it_regU HV hAb hY (i:=(left,giv)) (j:=(left.eraseIdx k,giv++[p.1])) (x:=[.agg (Qae.c p.1)]) 2 (by decide) (by decide) (by decide) (by decide)
  (⟨[(11,.im (.agg (Qae.c p.1))),(10,F),(5,.it 0),(0,F)],[(0,E)],2⟩:Qad) (s2:=⟨[(13,.im (.bool false)),(5,.it 0),(0,F)],[(0,E)],2⟩) rfl rfl rfl rfl (by rw[hF];rfl) rfl (by rfl) ⟨k,p,hk,rfl,rfl⟩ ?_ (by decide) (by rw[hE,hF];simp[Qad.good,belT,belH,Qam,AV.bel]) (by rw[hE,hF];simp[Qad.good,belT,belH,Qam,AV.bel]) h3 ?_ ?_ (fun a w h4=> ?_))
 .exact fun n e he=>Qaa1 _ (by rw[hE];rfl) n e he
 .simp(maxSteps:=9^9)(disch:=omega)only[ZZ,simprocAttr,rch,kyB,sub,hE,hF,Qae.c,Qgy,Qx6,List.take]
 .simp(maxSteps:=9^9)(disch:=omega)only[ZZ,simprocAttr,rch,kyB,sub,hE,hF,Qae.c,Qgy,Qx6,List.drop]
 simp only[Exit.then];refine Qs5 Qaq HV hAb (by decide) (by decide) h4 (Qx:=endS (kyS l (left.eraseIdx k) (some (Qbc p)))) ?_ (fun s a w h1 h2=> ?_) (fun _ _ _ _ h=>h.elim) (fun _ _ _ h=>h.elim)
 .simp(maxSteps:=9^9)(disch:=omega)only[ZZ,simprocAttr,rch,endS,kyS,sub,hE,hF]
 simp only[Exit.inBlock,Exit.then];exact⟨(left.eraseIdx k).length,by rw[ZeV,Zao hkl];omega,(left.eraseIdx k,giv++[p.1]),_,rfl,Qdd h2 h1 (Qal7 _ _ _) hAb⟩
end Go.Ae
namespace Go.Ae
open Go.Proofs Go.RowKit Go.Lib Go.Sort
theorem Qaly{A:Type}: ∀(l:List A) (k:Nat) (x:A),l[k]? =some x->l.Perm (x::l.eraseIdx k)
 |[],k,x,h=>by simp at h
 |y::r,0,x,h=>by
  simp only[ZaU,Zab] at h;subst h;exact Zdm _
 |y::r,k+1,x,h=>by
  rw[Zbj] at h;rw[ZcK];exact ((Qaly r k x h).cons y).trans (List.Perm.swap x y _)
def appQ(op:OpM)(s:Qad)(xs:List AV):Prop:= ∃l:List Qae,l.Perm (op.map Prod.fst)/\ ∃m,xs=[.own m]/\hget s.h m=some (true,.arr 72 2 (l.map Qae.c))
def kyF(op:OpM):D:= .fn 170 [] [.ref [.mp ktP (op.map Qbc)]]
theorem appSeq{op:OpM}(hb:op.length<=1000000){C:Ctx}{S:Env}{vs:Array Value}{RR:Ending->World->Prop}(hW:Wf C S)(hps:PKL S [.val (.sl true 0 []),.val (kyF op)] vs.toList)
 (hfin: ∀(v:Value) (C0:Ctx) (S1:Env) (l:List Qae) (m:Nat),C0.w=S.w->C0.ok=S.ok->(∀b,¬C0.M b)->Wf C0 S1->l.Perm (op.map Prod.fst)->S1.h m=some (true,.arr 72 2 (l.map Qae.c))->conc S1 (.own m) v->RR (.returned v) S1.w):
 Calls Tryz.prog 187 vs S.w RR:=by
 have HV:=Qvp Qamv;refine Qal9 Tryz.func187 rfl (ps:=[.val (.sl true 0 []),.val (kyF op)]) (show 2<=13 by decide) (Q:=appQ op) ?_ hW hps ?_;rotate_left
 .rintro v C0 S1 s xs g1 g2 g3 g4 g5 ⟨l,hl,m,rfl,hm⟩ g7;exact hfin v C0 S1 l m g1 g2 g3 g4 hl ((g5 m).trans hm) g7
 intro C0 a w hw hn0 hc hdf;have hds:C0.ds=[]:=by obtain⟨S0,_,h⟩:=hc;rw[<-h.defers];exact hdf
 simp only[Tryz.f187,Option.getD] at hc⊢;refine Qxh Qaq HV (by decide) (by decide) (s':=⟨[(2,.ptr 0 0),(1,.im (kyF op))],[(0,(true,.cells 128 [.im (.sl true 0 [])]))],2⟩) hc ?_ ?_ (by rw[hn0];exact Zbc _) (fun a w hc=> ?_)
 .simp(maxSteps:=9^9)(disch:=omega)only[ZZ,simprocAttr,rch,endS,sub,Qcq,Qc5,cnum,entry]
 .simp[Qad.good,belT,belH,belL,Qam,AV.bel]
 refine wpIn_seq ?_;refine Qxh Qaq HV (by decide) (by decide) (s':=⟨[(6,.im (kyF op)),(2,.ptr 0 0)],[(0,(true,.cells 128 [.im (.sl true 0 [])]))],2⟩) hc ?_ ?_ (by rw[hn0];exact Zbc _) (fun a w hc=> ?_)
 .simp(maxSteps:=9^9)(disch:=omega)only[ZZ,simprocAttr,rch,endS,sub]
 .simp[Qad.good,belT,belH,belL,Qam,AV.bel]
 refine wpIn_block (wpIn_mono (Qame Qaq HV hc (gf:=170) (capt:=[.ref [.mp ktP (op.map Qbc)]]) (X:=givK op) (Qh7 (by kernel_rfl)) (keys_iter op)
  (fun (i:OpM×List Qae)=>(i.2++i.1.map Prod.fst).Perm (op.map Prod.fst)) (Zdm _) ?_ (by decide) (by decide) (by decide) (by decide) ?_ (by decide)
  (tm0:=[(6,.im (kyF op)),(2,.ptr 0 0)]) (hs:=fun (i:OpM×List Qae)=>[(0,(true,.cells 128 [.own 2])),(2,(true,.arr 72 2 (i.2.map Qae.c)))]) (nx:=3) ⟨[(2,none)],?_⟩ rfl (by simp) ?_ ?_ ?_ ?_) ?_)
 .rintro⟨left,giv⟩ x j hok ⟨k,p,hk,rfl,rfl⟩;simp only at hk hok⊢;have h1:(left.map Prod.fst).Perm (p.1::(left.eraseIdx k).map Prod.fst):=by
   exact (Qaly left k p hk).map Prod.fst
  refine List.Perm.trans ?_ hok;rw[ZbH];exact (h1.append_left giv).symm
 .rintro⟨left,giv⟩ x j hok ⟨k,p,hk,rfl,rfl⟩;rfl
 .simp only[subP];simp(maxSteps:=9^9)(disch:=omega)only[ZZ,simprocAttr,rch,Zaf,Zae,ZaS];exact (trivial:nilE true (.arr 0 0 []))
 .simp[belT,AV.bel]
 .rintro⟨left,giv⟩ hok;simp[Qad.good,belT,belH,belL,Qam,AV.bel]
 .intro i o e he hv;rw[Qaa1 _ (by rfl) o e he] at hv;cases hv
 .rintro⟨left,giv⟩ x j hok ⟨k,p,hk,rfl,rfl⟩;have hgl:giv.length<=op.length:=by
   have:=hok.length_eq
   simp at this;omega
  simp(maxSteps:=9^9)(disch:=omega)only[ZZ,simprocAttr,rch,asgQ,rndQ,parT,sub,Qal];refine⟨fun row hrow=>by rw[Zan] at hrow;subst hrow;rfl,by omega,[(2,some 5)],?_⟩;simp only[subP];simp(maxSteps:=9^9)(disch:=omega)only[ZZ,simprocAttr,rch,Zaf,Zae,Zbv]
 .rintro e a' w' ⟨⟨left,giv⟩,hok,hfi,hq⟩;simp only[givK] at hfi;subst hfi;simp only[ZaS,ZaP] at hok;cases e<;>simp only[rngQ] at hq;obtain⟨C2,S2,Dk,rfl,hE,hback,ht,hd,hD1,hD2,hD3,hD4,hD5⟩:=hq;simp only[Exit.inBlock,Exit.then];have hd0:a.defers=[]:=by obtain⟨S0,_,h⟩:=hc;rw[h.defers];exact hds
  rw[hd0] at hd;have hm: ∀a'':Act,a''.defers=C2.ds->Qrj C0 C2 a''.defers:=fun a'' h=> .inr ⟨Dk,by rw[h,<-hE.defers,hd],hD1,hD2,hD3,hD4,hD5⟩
  refine wpIn_mono (Qgd (ro:=none) Qaq HV _ (by decide) (by decide) (retXQ Tryz.prog [ResultVar.tmp 4] (appQ op)) _ a' S2.w ?_ ⟨S2,rfl,hE⟩) ?_
  .simp(maxSteps:=9^9)(disch:=omega)only[ZZ,simprocAttr,rch,retXQ,retX,appQ];exact⟨_,rfl,giv,hok,2,rfl,rfl⟩
  .intro e a'' w'' hq;cases e<;>simp only[toQ] at hq<;>simp only[rngP]
   .obtain⟨s',hs',hcon⟩:=hq;exact⟨s',C2,hs',hcon,hback,hm a'' (by obtain⟨S0,_,h⟩:=hcon;exact h.defers)⟩
   .obtain⟨s',hs',hcon⟩:=hq;exact hs'.elim
   .obtain⟨s',hs',hcon⟩:=hq;exact⟨s',C2,hs',hcon,hback,hm a'' (by obtain⟨S0,_,h⟩:=hcon;exact h.defers)⟩
theorem srtQ_dom(a:List Qae)(j:Nat):domB (srtQ.H0 a) j=true↔j<1:=by
 simp only[domB,srtQ.H0,hget];by_cases hj:j=0
 .subst hj;simp
 .have:(0==j)=false:=by simpa using fun h=>hj h.symm
  rw[this];simp;omega
def ColQ(op:OpM)(S:Env)(v:Value)(w:World):Prop:= ∃(C0:Ctx) (S1:Env) (l:List Qae) (m:Nat),S1.w=w/\C0.w=S.w/\C0.ok=S.ok/\(∀b,¬C0.M b)/\Wf C0 S1/\l.Perm (op.map Prod.fst)/\S1.h m=some (true,.arr 72 2 (l.map Qae.c))/\conc S1 (.own m) v
theorem collect{op:OpM}(hb:op.length<=1000000){C:Ctx}{S:Env}{v1:Value}(hW:Wf C S)(hv:PKL S [.val (kyF op)] [v1]):
 Calls Tryz.prog 168 #[v1] S.w (fun e w=> ∃v,e= .returned v/\ColQ op S v w):=by
 have hap:Calls Tryz.prog 187 #[.slice none 0 0,v1] S.w (fun e w=> ∃v,e= .returned v/\ColQ op S v w):=by
  refine appSeq hb hW ⟨_,_,rfl,?_,hv⟩ (fun v C0 S1 l m g1 g2 g3 g4 g5 g6 g7=>⟨v,rfl,C0,S1,l,m,rfl,g1,g2,g3,g4,g5,g6,g7⟩);exact Qami S (.slice none 0 0)
 go_enter Tryz.func168,Tryz.ntmps168
 go_wp2_with (go_at_call 187;refine hap.mono ?_;rintro e w' ⟨v,rfl,h⟩)
 go_ret
 exact⟨v,rfl,h⟩
theorem sort_call{C0:Ctx}{S1:Env}{l:List Qae}{m:Nat}{v v2:Value}{R:Ending->World->Prop}(hW:Wf C0 S1)(hd:l.Nodup)(hm:S1.h m=some (true,.arr 72 2 (l.map Qae.c)))(hv:conc S1 (.own m) v)(hv2:conc S1 (.im (.fn 131 [] [])) v2)
 (hfin: ∀u S',Wf C0 S'->S'.h m=some (true,.arr 72 2 ((Qakz l).map Qae.c))->conc S' (.own m) v->R (.returned u) S'.w):
 Calls Tryz.prog 169 #[v,v2] S1.w R:=by
 have hrow:srtQ.row [.own m,.im (.fn 131 [] [])] S1.h (m+1) (fun r E=>E={use:=[m],kill:=[m],new:=[(m,(true,.arr 72 2 ((Qakz l).map Qae.c)))],cnt:=0}):=by
  refine orow.os l [m] hd (srtQ_dom l) rfl (by simp[Qxw]) ⟨rfl,?_⟩ ?_
  .simp only[srtQ.H0,Qer,sgx,osn];exact⟨hm,trivial⟩
  .rfl
 obtain⟨_,r,E,hT,rfl⟩:=srtQ.ok _ _ _ _ hrow;have hnf: ∀n,¬Fr (m+1) 0 n:=fun n h=>by have:=h.1;have:=h.2;omega
 refine hT C0 S1 #[v,v2] R hW (fun n _=>rfl) (fun n hn=>(hnf n hn).elim) (fun n e _ k _ hk=>hnf k hk) ⟨v,[v2],rfl,hv,v2,[],rfl,hv2,rfl⟩ ?_;intro u S' hW' hh hp _;refine hfin u S' hW' ?_ (Qbt hp _ _ (fun o _ hf=>hnf o hf) hv);rw[hh];simp[Eff.appf,hget]
def sorF.ar:List PK->Option OpM
 |[.val (.fn 170 [] [.ref [.mp ⟨true,[.int .i64,.int .i64]⟩ es]]),.val (.fn 131 [] [])]=>decM (vAgg Qae.d) (vSl intD) es
 |_=>none
def sorF.ae(op:OpM):List PK:=[.val (kyF op),.val (.fn 131 [] [])]
theorem sorF.le: ∀ps a,sorF.ar ps=some a->LeKL ps (sorF.ae a):=by
 intro ps a h;unfold sorF.ar at h;split at h
 .exact⟨Qos ⟨Qil (LeS.leP ⟨le_mp (Qxb Qwu (Qe8 Qb3 (fun _=>rfl)) _ _ h),trivial⟩),trivial⟩,LeK.refl _,trivial⟩
 .cases h
def sorF.fv(op:OpM):List Qae:=Qakz (op.map Prod.fst)
def sorF.row:Row:=Qfi sorF.ar (fun op=>(op.map Prod.fst).Nodup/\op.length<=1000000) (fun op=> .sl false 2 ((sorF.fv op).map Qae.c))
def sorF.q:=vqF sorF.row rfl
theorem sorF.ok:Qas Tryz.prog 153 sorF.row:=by
 refine Quy (by kernel_rfl) sorF.le (rc:=vSl Qae.d) (re:=fun b=> .sl false 2 (b.map Qae.c)) (Qe8 Qae.d_le (fun _=>rfl)) (f:=sorF.fv) (fun op hpre C S vs RR hW hps hfin=> ?_);obtain⟨hnd,hb⟩:=hpre;simp only[sorF.ae,PKL] at hps;obtain⟨v1,r1,hvs,hv1,v2,r2,rfl,hv2,rfl⟩:=hps;have hvs':vs= #[v1,v2]:=by apply ZcU;simpa using hvs
 subst hvs';have hcol:=collect hb hW (v1:=v1) ⟨v1,[],rfl,hv1,rfl⟩
 go_enter Tryz.func153,Tryz.ntmps153
 have hv2': ∀S1:Env,conc S1 (.im (.fn 131 [] [])) v2:=fun S1=>by simpa only[PKc,conc,rd,rdl] using hv2
 have hso: ∀(C0:Ctx) (S1:Env) (l:List Qae) (m:Nat) (v:Value),Wf C0 S1->l.Perm (op.map Prod.fst)->S1.h m=some (true,.arr 72 2 (l.map Qae.c))->conc S1 (.own m) v->
  Calls Tryz.prog 169 #[v,v2] S1.w (fun e w=> ∃u S',e= .returned u/\S'.w=w/\Wf C0 S'/\S'.h m=some (true,.arr 72 2 ((sorF.fv op).map Qae.c))/\conc S' (.own m) v):=by
  intro C0 S1 l m v g4 g5 g6 g7;refine sort_call g4 (g5.nodup_iff.2 hnd) g6 g7 (hv2' S1) (fun u S' h1 h2 h3=>⟨u,S',rfl,rfl,h1,?_,h3⟩)
  have:Qakz l=Qakz (op.map Prod.fst):=Qal3 (Qakg _) (Qakg _) (fun q=>by rw[Qaka,Qaka];exact g5.mem_iff)
  rw[h2,this];rfl
 go_wp2_with (first
  |(go_at_call 168;refine hcol.mono ?_;rintro e w' ⟨v,rfl,C0,S1,l,m,rfl,g1,g2,g3,g4,g5,g6,g7⟩)
  |(go_at_call 169;refine (hso C0 S1 l m v g4 g5 g6 g7).mono ?_;rintro e w' ⟨u,S',rfl,rfl,h1,h2,h3⟩))
 show RR (.returned v) S'.w;obtain⟨d,rfl,hd2⟩:=Qzf (K:=fun d=>d= .sl false 2 ((sorF.fv op).map Qae.c)) g3 h1 (x:= .own m) (by
  simp only[frP,h2,frO,frA];exact⟨by intro row hr;obtain⟨p,_,rfl⟩:=Zaw.1 hr;rfl,trivial⟩) h3
 exact hfin v C0 S' _ g1 g2 g3 h1 (by simp only[decD,vSl,Qae.d_R]) hd2
def keyC.ca(_:OpM):List AV:=[.mp 0]
def keyC.H0(a:OpM):Qan:=[(0,(true,.map ktP (a.map Qbc)))]
def keyC.H1(_:OpM):Qan:=[(1,(true,.cells 143 [.mp 0]))]
def keyC.r0(_:OpM):AV:= .clo 170 [] [.ptr 1 0]
def keyC.row:Row:=orow keyC.ca keyC.H0 1 (fun _=>True) (fun _=>false) keyC.r0 keyC.H1 1
theorem keyC.ok:Qas Tryz.prog 154 keyC.row:=by
 refine ow tN Tryz.func154 rfl (by kernel_rfl) (exB:=fun j=>j==1) (R:=fun a r=>r=keyC.r0 a) (fun _=>rfl)
  (fun a=>by simp[keyC.ca,keyC.H0,keyC.H1,keyC.r0,belL,AV.bel,belH,Qam,Qc2,AObj.nms,nmsL,AV.nms,domB,hget]) (fun a p hp=> ?_) (fun a r h=>by subst h;exact LeV.refl _) ?_
 rotate_left
 intro a hpre;simp only[Tryz.f154,Option.getD,keyC.ca,keyC.H0,keyC.H1,keyC.r0];simp(maxSteps:=9^9)(disch:=omega)only[ZZ,simprocAttr,rch,ORB,keyC.ca,keyC.H0,keyC.H1,keyC.r0];simp[keyC.H1] at hp;subst hp;exact .inr ⟨by omega,by omega,rfl,rfl⟩
end Go.Ae
namespace Go.Ae
open Go.Proofs
theorem lkG_mem{β:Type}{v:β}{p:Qae}: ∀{t:List (Qae×β)},lkP t p=some v->(p,v)∈t
 |(q,w)::r,h=>by
  simp only[lkP] at h;split at h
  .rename_i e;obtain rfl:=Zaa h;rw[e];exact Zar ..
  .exact Zam _ (lkG_mem h)
theorem Qamo{β:Type}{p:Qae}: ∀{t:List (Qae×β)},lkP t p=none->p∉t.map Prod.fst
 |[],_=>by simp
 |(q,w)::r,h=>by
  simp only[lkP] at h;split at h
  .cases h
  .rename_i e;simp only[Zap,Zas,Zff];exact⟨e,Qamo h⟩
theorem keyC_dom(a:OpM)(j:Nat):domB (keyC.H0 a) j=true↔j<1:=by
 simp only[domB,keyC.H0,hget];by_cases h0:j=0
 .subst h0;simp
 .have e0:(0==j)=false:=by simp;omega
  simp[e0];omega
def lisC.r0(a:Cry):AV:= .im (.sl false 3 ((Qalo a.Op).map Opt.c))
def lisC.row:Row:=orow asmC.ca cryH 3 (fun a=>(a.Op.map Prod.fst).Nodup/\a.Op.length<=1000000/\ ∀q∈a.Op,q.2.length<=1000) (fun _=>false) lisC.r0 (fun _=>[]) 20
def YaI:=J @sorF.q @sorF.fv.eq_1
theorem lisC.ok:Qas Tryz.prog 124 lisC.row:=by
 refine owN (tC keyC.ok (tC sorF.ok tN)) Tryz.func124 rfl (by kernel_rfl) (exB:=fun _=>false) (R:=fun a r=>r=lisC.r0 a) (fun _=>rfl)
  (fun a=>by simp[asmC.ca,cryH,Qbk,belL,AV.bel,belH,Qam,Qc2,AObj.nms,nmsL,AV.nms,domB,hget]) (fun a p hp=> ?_) (fun a r h=>by subst h;exact LeV.refl _) ?_
 rotate_left
 intro a hpre;simp only[Tryz.f124,Option.getD,asmC.ca,cryH,Qbk];simp(maxSteps:=9^9)(disch:=omega)only[ZZ,simprocAttr,rch,YaI,sorF.ar,Qc7,ORB,asmC.ca,cryH,Qbk];obtain⟨hp1,hp2,hp3⟩:=hpre;refine orow.os a.Op [2] trivial (fun j=>keyC_dom _ j) rfl rfl ?_ ?_
 .simp(maxSteps:=9^9)(disch:=omega)only[ZZ,simprocAttr,rch,YaI,sorF.ar,Qc7,ORB,asmC.ca,cryH,Qbk,keyC.ca,keyC.H0,Zbd,ZaI];rfl
 simp(maxSteps:=9^9)(disch:=omega)only[ZZ,simprocAttr,rch,YaI,sorF.ar,Qc7,ORB,asmC.ca,cryH,Qbk,keyC.H1,keyC.r0,sub];obtain⟨L,hL⟩: ∃L,L=Qakz (a.Op.map Prod.fst):=⟨_,rfl⟩;obtain⟨g,hg⟩: ∃g:Qae->List Int,g=fun p=>(lkP a.Op p).getD []:=⟨_,rfl⟩
 have hop:Qalo a.Op=Qajs g L:=by rw[hg,hL];rfl
 refine⟨⟨hp1,hp2⟩,?_⟩;simp only[<-hL];intro hLl;refine Qay.ren ⟨{i:Nat//i<=L.length},fun i=>⟨[(15,.im (.int .i64 i.1)),(14,.im (.int .i64 L.length)),(13,.im (.sl false 2 (L.map Qae.c))),(3,.own 6),(0,.ptr 0 0)],[(6,(true,.arr 74 3 ((Qakh g L i.1).map Opt.c))),(0,(true,.cells 145 (Qbk a.Sys))),(1,(true,.map ⟨true,[.int .i64,.int .i64]⟩ (a.Tl.map Qbe))),(2,(true,.map ⟨true,[.int .i64,.int .i64]⟩ (a.Op.map Qbc)))],7⟩,fun i=>L.length - i.1,fun i=>⟨by simp[Qad.good,belT,belH,Qam,AV.bel,belL,Qbk],by simp⟩,⟨⟨0,Zbc _⟩,[(6,some 4)],?_⟩,fun i=> ?_⟩
 .simp only[subP,Qbk];simp(maxSteps:=9^9)(disch:=omega)only[ZZ,simprocAttr,rch,YaI,sorF.ar,Qc7,ORB,asmC.ca,cryH,Qbk,Zaf,Zae,Qakh,ZbP,Qajs,Zdk,ZaS]
  try simp
 obtain⟨i,hi⟩:=i;simp only[Qbk];simp(maxSteps:=9^9)(disch:=omega)only[ZZ,simprocAttr,rch,YaI,sorF.ar,Qc7,ORB,asmC.ca,cryH,Qbk,sub,Qal,lkVC_ps];have hgl: ∀p,(g p).length<=1000:=fun p=>by
  rw[hg];simp only;cases hq:lkP a.Op p with
  |none=>simp
  |some v=>exact hp3 _ (lkG_mem hq)
 have hLn:L.length<=1000000:=by rw[hL,(Qall hp1).length_eq,Zbp];exact hp2
 have hol:(Qakh g L i).length<=1000000*1000:=by
  have:=Qakc hgl (L.take i)
  have h9:(L.take i).length*1000<=1000000*1000:=Zbi _ (by simp;omega);simp only[Qakh];omega
 refine⟨fun hi2=>⟨hi2,fun p hp=>⟨fun v hv=> ?_,fun hv=> ?_⟩⟩,fun hi2=> ?_⟩
 .have hgv:g p=v:=by rw[hg];simp only[hv,Zag]
  have hgp:=hgl p;rw[hgv] at hgp;refine Qay.ren ⟨{k:Nat//k<=v.length},fun k=>⟨[(26,.im (.int .i64 k.1)),(25,.im (.int .i64 v.length)),(24,.im (.sl false 1 (v.map intC))),(5,.ptr 7 0),(15,.im (.int .i64 i)),(14,.im (.int .i64 L.length)),(13,.im (.sl false 2 (L.map Qae.c))),(3,.own 8),(0,.ptr 0 0)],[(8,(true,.arr 74 3 ((Qakh g L i++(v.take k.1).map (mkO2 p)).map Opt.c))),(7,(true,.cells 72 ((Qae.c p).map .im))),(0,(true,.cells 145 (Qbk a.Sys))),(1,(true,.map ⟨true,[.int .i64,.int .i64]⟩ (a.Tl.map Qbe))),(2,(true,.map ⟨true,[.int .i64,.int .i64]⟩ (a.Op.map Qbc)))],9⟩,fun k=>v.length - k.1,fun k=>⟨by simp[Qad.good,belT,belH,Qam,AV.bel,belL,Qbk,Qae.c],by simp⟩,⟨⟨0,Zbc _⟩,[(8,some 6)],?_⟩,fun k=> ?_⟩
  .simp only[subP,Qbk];simp(maxSteps:=9^9)(disch:=omega)only[ZZ,simprocAttr,rch,YaI,sorF.ar,Qc7,ORB,asmC.ca,cryH,Qbk,Zaf,Zae,ZbP,ZaS,ZaP]
   try simp
  obtain⟨k,hk⟩:=k;simp only[Qbk];simp(maxSteps:=9^9)(disch:=omega)only[ZZ,simprocAttr,rch,YaI,sorF.ar,Qc7,ORB,asmC.ca,cryH,Qbk,sub,Qal,Qag,Qac,Qaf,allD,D.one,ZaW,Zcg,Zdc,ZaF];refine⟨fun hk2=>⟨hk2,fun x hx=>⟨?_,⟨k+1,by omega⟩,[(8,some 10)],by simp only;omega,?_⟩⟩,fun hk2=>⟨⟨i+1,by omega⟩,[(6,some 8)],by simp only;omega,?_⟩⟩
  .have:(v.take k).length<=1000:=by simp;omega
   omega
  .simp only[subP];simp(maxSteps:=9^9)(disch:=omega)only[ZZ,simprocAttr,rch,YaI,sorF.ar,Qc7,ORB,asmC.ca,cryH,Qbk,Zaf,Zae];refine⟨by rw[Qak (by omega) (by omega)];rfl,?_⟩;rw[Qwe hx];simp[mkO2,Opt.c,Qae.c]
  .obtain rfl:k=v.length:=by omega
   simp only[subP];simp(maxSteps:=9^9)(disch:=omega)only[ZZ,simprocAttr,rch,YaI,sorF.ar,Qc7,ORB,asmC.ca,cryH,Qbk,Zaf,Zae];refine⟨by rw[Qak (by omega) (by omega)];rfl,?_⟩;rw[Qalm hp,ZbI,hgv]
 .exfalso
  have:p∈L:=Zac hp
  rw[hL,Qaka] at this;exact Qamo hv this
 .obtain rfl:i=L.length:=by omega
  have hA:Qakh g L L.length=Qalo a.Op:=by rw[Qakh,ZbI,hop]
  rw[hA];refine⟨[6],[],⟨[(2,.im (.sl false 3 ((Qalo a.Op).map Opt.c)))],[(0,(true,.cells 145 (Qbk a.Sys))),(1,(true,.map ⟨true,[.int .i64,.int .i64]⟩ (a.Tl.map Qbe))),(2,(true,.map ⟨true,[.int .i64,.int .i64]⟩ (a.Op.map Qbc)))],3⟩,?_,by simp[Qad.good,belT,belH,Qam,AV.bel,belL,Qbk],by simp,?_⟩
  .simp only[subP,Qbk];simp(maxSteps:=9^9)(disch:=omega)only[ZZ,simprocAttr,rch,YaI,sorF.ar,Qc7,ORB,asmC.ca,cryH,Qbk,Zaf,Zae]
  .simp only[Qbk];simp(maxSteps:=9^9)(disch:=omega)only[ZZ,simprocAttr,rch,YaI,sorF.ar,Qc7,ORB,asmC.ca,cryH,Qbk,lisC.r0]
 simp at hp
def schB1.fv(a:Int):Bool:=(badS) a
def schB1.row:Row:=vK (b1 qI) rB (fun a=>True) schB1.fv
def schB1.q:=vKq (R:=schB1.row) rfl
theorem schB1.ok:Qas Tryz.prog 55 schB1.row:=by
 refine vw (tC within_.ok tN) Tryz.func55 rfl (by kernel_rfl) ?_;intro a hpre;simp only[Tryz.f55,Option.getD];simp(maxSteps:=9^9)(disch:=omega)only[ZZ,simprocAttr,rch,schB1.fv,within_.q,within_.fv];rfl
def IdxSc.ar:List PK->Option ((List Int)×Unit)
 |[.val (.sl _ _ x0),.val (.fn 55 [] [])]=>(decR intD x0).bind fun y0=>some (y0,())
 |_=>none
def IdxSc.ae(a:(List Int)×Unit):List PK:=[.val (.sl false 1 (a.1.map intC)),.val (.fn 55 [] [])]
theorem IdxSc.le: ∀ps a,IdxSc.ar ps=some a->LeKL ps (IdxSc.ae a):=by
 intro ps a h;unfold IdxSc.ar at h;split at h
 .simp only[ZaJ,Zab] at h;obtain⟨y0,h0,rfl⟩:=h;exact⟨Qbf (Qa2 Qb3 _ _ h0) (by simp only[Zaw];rintro r ⟨y,_,rfl⟩;rfl),LeK.refl _,trivial⟩
 .cases h
def IdxSc.fv(a:(List Int)×Unit):Int:=(fun l _=>Qaw badS 0 l) (a.1) (a.2)
def IdxSc.row:Row:=vrow IdxSc.ar (fun a=>True) (fun a=>(D.int .i64) (IdxSc.fv a))
def IdxSc.q:=vq IdxSc.row rfl
def YaJ:=J @IdxSc.ae.eq_1<|J @IdxSc.fv.eq_1<|J @schB1.q @schB1.fv.eq_1
theorem IdxSc.ok:Qas Tryz.prog 84 IdxSc.row:=by
 refine Qaj Qaq (tC schB1.ok tN) Tryz.func84 rfl (by kernel_rfl) (by kernel_rfl) (ar:=IdxSc.ar) (ae:=IdxSc.ae) IdxSc.le (n:=2) (fun _=>rfl) (by decide) (rc:=(vInt)) (re:=(D.int .i64)) (Qa3) (f:=IdxSc.fv) ?_;intro a hpre;simp only[Tryz.f84,Option.getD];simp(maxSteps:=9^9)(disch:=omega)only[ZZ,simprocAttr,rch,YaJ];intro hn;refine Qay.old ⟨{k:Nat//k<=a.1.length/\Qaw badS k (a.1.drop k)=Qaw badS 0 a.1},fun k=>⟨[(8,.im (.int .i64 k.1)),(7,.im (.int .i64 a.1.length)),(6,.im (.sl false 1 (a.1.map intC))),(4,.im (.int .i64 0)),(0,.im (.sl false 1 (a.1.map intC))),(1,.im (.fn 55 [] []))],[],0⟩,fun k=>a.1.length - k.1,fun k=>⟨by simp[Qad.good,belT,belH,Qam,AV.bel,belL],Zal _⟩,⟨⟨0,by simp⟩,by simp(maxSteps:=9^9)(disch:=omega)only[ZZ,simprocAttr,rch,YaJ,sub]⟩,fun k=> ?_⟩;obtain⟨k,hk1,hk2⟩:=k;simp(maxSteps:=9^9)(disch:=omega)only[ZZ,simprocAttr,rch,YaJ,sub,Qal];refine⟨fun hk=>⟨hk,fun x hx=> ?_⟩,fun hk=> ?_⟩
 .rw[Qd3 hx,Qaw] at hk2;refine⟨fun h=> ?_,fun h=>Qb6 hk hn ⟨by omega,by rw[<-hk2,Zai (by simpa using h)]⟩⟩;rw[Zao (by simpa using h)] at hk2;exact hk2
 .rw[Zaz (by omega),Qaw] at hk2;exact hk2
def ContSc.ar:List PK->Option ((List Int)×Unit)
 |[.val (.sl _ _ x0),.val (.fn 55 [] [])]=>(decR intD x0).bind fun y0=>some (y0,())
 |_=>none
def ContSc.ae(a:(List Int)×Unit):List PK:=[.val (.sl false 1 (a.1.map intC)),.val (.fn 55 [] [])]
theorem ContSc.le: ∀ps a,ContSc.ar ps=some a->LeKL ps (ContSc.ae a):=by
 intro ps a h;unfold ContSc.ar at h;split at h
 .simp only[ZaJ,Zab] at h;obtain⟨y0,h0,rfl⟩:=h;exact⟨Qbf (Qa2 Qb3 _ _ h0) (by simp only[Zaw];rintro r ⟨y,_,rfl⟩;rfl),LeK.refl _,trivial⟩
 .cases h
def ContSc.fv(a:(List Int)×Unit):Bool:=(fun l _=>l.any badS) (a.1) (a.2)
def ContSc.row:Row:=vrow ContSc.ar (fun a=>True) (fun a=>(D.bool) (ContSc.fv a))
def ContSc.q:=vq ContSc.row rfl
theorem ContSc.ok:Qas Tryz.prog 54 ContSc.row:=by
 refine Qaj Qaq (tC IdxSc.ok tN) Tryz.func54 rfl (by kernel_rfl) (by kernel_rfl) (ar:=ContSc.ar) (ae:=ContSc.ae) ContSc.le (n:=2) (fun _=>rfl) (by decide) (rc:=(Qa8)) (re:=(D.bool)) (Qat) (f:=ContSc.fv) ?_;intro a hpre;simp only[Tryz.f54,Option.getD];simp(maxSteps:=9^9)(disch:=omega)only[ZZ,simprocAttr,rch,ContSc.ae,ContSc.fv,IdxSc.q,IdxSc.ar,IdxSc.fv];exact Qsr _ _
def vSch_.fv(a:(List Int)):Bool:=(Qanv) a
def vSch_.row:Row:=vK (b1 (qS Qb3 Qant)) rB (fun a=>True) vSch_.fv
def vSch_.q:=vKq (R:=vSch_.row) rfl
theorem vSch_.ok:Qas Tryz.prog 30 vSch_.row:=by
 refine vw (tC ContSc.ok tN) Tryz.func30 rfl (by kernel_rfl) ?_;intro a hpre;simp only[Tryz.f30,Option.getD];simp(maxSteps:=9^9)(disch:=omega)only[ZZ,simprocAttr,rch,vSch_.fv,ContSc.q,ContSc.ar,ContSc.fv];intro _;simp only[Qanv];by_cases c:a.length<=200
 .rw[Zao (by omega),ZdT c,Zbf]
 .rw[Zai (by omega),Zdv c,Zbu]
def sel1_.fv(a:Int×Int×(List Int)):Int:=(fun n k l=>(schN l n.toNat k.toNat:Int)) (a.1) (a.2.1) (a.2.2)
def sel1_.row:Row:=vK (b3 qI qI (qP 1 Qj4)) rI (fun a=>1<=a.1/\a.1<=1000000/\0<=a.2.1/\a.2.1<=1000/\Qanv a.2.2=true) sel1_.fv
def sel1_.q:=vKq (R:=sel1_.row) rfl
theorem sel1_.ok:Qas Tryz.prog 123 sel1_.row:=by
 refine vw tN Tryz.func123 rfl (by kernel_rfl) ?_;intro a hpre;simp only[Tryz.f123,Option.getD];simp(maxSteps:=9^9)(disch:=omega)only[ZZ,simprocAttr,rch,sel1_.fv];obtain⟨n,k,l⟩:=a;obtain⟨h1,h2,h3,h4,h5⟩:=hpre;simp only at h1 h2 h3 h4 h5⊢;obtain⟨n,rfl⟩: ∃m:Nat,n=m:=⟨n.toNat,by omega⟩;obtain⟨k,rfl⟩: ∃m:Nat,k=m:=⟨k.toNat,by omega⟩;intro _;by_cases c:(l.length:Int)=0
 .rw[Zao c];simp only[schN];rw[Zao (by omega)];rfl
 rw[Zai c];refine⟨c,Zee _ h3,ZdM _ (by omega),fun x hx=>⟨by omega,?_⟩⟩;have hx0:=Qaoc h5 (Zac hx);rw[Zcf (by omega),<-Int.natCast_emod,Zak] at hx;simp only[schN,Zak];rw[Zai (by omega),hx,Zag,Zcf hx0.1,Int.toNat_of_nonneg (Int.emod_nonneg _ (by omega))]
def slD:D->Option (List Int)
 | .fn g [] [.ref ds]=>if g=123 then Qpb ds else none
 |_=>none
theorem slD_le: ∀d b,slD d=some b->Le d (.fn 123 [] [.ref (Qcd b)]):=by
 intro d b h;unfold slD at h;split at h
 .rename_i g ds;split at h
  .rename_i hg;subst hg;refine Qos ?_;exact⟨Qil (Qj4 _ _ h).leP,trivial⟩
  .cases h
 .cases h
def sel_.fv(a:(List Int)):List Int:=(fun l=>l) a
def sel_.row:Row:=vK (b1 (qS Qb3 Qant)) (RK.mk (slD) (fun a=>D.fn 123 [] [.ref (Qcd a)]) (slD_le)) (fun a=>True) sel_.fv
def sel_.q:=vKq (R:=sel_.row) rfl
theorem sel_.ok:Qas Tryz.prog 86 sel_.row:=by
 refine vw tN Tryz.func86 rfl (by kernel_rfl) ?_;intro a hpre;simp only[Tryz.f86,Option.getD];simp(maxSteps:=9^9)(disch:=omega)only[ZZ,simprocAttr,rch,sel_.fv];refine .inl ?_;show (if 123=123 then Qpb (Qcd a) else none)=some a;rw[Zao rfl,sintD_c]
def asmX.ca(l:List Qab):List AV:=[.im (.sl false 3 (l.map Qab.c))]
def asmX.H1(l:List Qab):Qan:=[(0,(true,.arr 105 3 ((Qfh l).map Qab.c)))]
def asmX.r0(_:List Qab):AV:= .agg [.own 0]
def asmX.row:Row:=orow asmX.ca (fun _=>[]) 0 (fun l=>(l.map Qab.At).Nodup/\l.length<=1000000) (fun _=>false) asmX.r0 asmX.H1 20
theorem asmX.ok:Qas Tryz.prog 89 asmX.row:=by
 refine owN (tC clonC.ok (tC srt.ok tN)) Tryz.func89 rfl (by kernel_rfl) (exB:=fun j=>j==0) (R:=fun a r=>r=asmX.r0 a) (fun _=>rfl)
  (fun a=>by simp[asmX.ca,asmX.H1,belL,AV.bel,belH,Qam,Qc2,AObj.nms,nmsL,AV.nms,domB,hget]) (fun a p hp=> ?_) (fun a r h=>by subst h;exact LeV.refl _) ?_
 rotate_left
 intro a hpre;simp only[Tryz.f89,Option.getD,asmX.ca,asmX.H1];simp(maxSteps:=9^9)(disch:=omega)only[ZZ,simprocAttr,rch,Qc7,ORB,asmX.ca,asmX.H1];refine orow.os a [] hpre.2 (fun j=>by simp[domB,hget]) rfl rfl ?_ ?_
 .simp(maxSteps:=9^9)(disch:=omega)only[ZZ,simprocAttr,rch,Qc7,ORB,asmX.ca,asmX.H1,clonC.ca,Qer,Qb4]
 simp(maxSteps:=9^9)(disch:=omega)only[ZZ,simprocAttr,rch,Qc7,ORB,asmX.ca,asmX.H1,clonC.H1,sub];refine orow.os a [1] hpre.1 (fun j=> ?_) rfl rfl ?_ ?_
 .simp only[domB,srt.H0,hget];by_cases hj:j=0
  .subst hj;simp
  .have:(0==j)=false:=by simpa using fun h=>hj h.symm
   rw[this];simp;omega
 .simp(maxSteps:=9^9)(disch:=omega)only[ZZ,simprocAttr,rch,Qc7,ORB,asmX.ca,asmX.H1,srt.ca,srt.H0,Qer]
  try exact⟨rfl,rfl⟩
 simp(maxSteps:=9^9)(disch:=omega)only[ZZ,simprocAttr,rch,Qc7,ORB,asmX.ca,asmX.H1,srt.H1,sub,ZaI,ZaV];refine⟨[],[(1,some 0),(0,some 1)],⟨[(2,.ptr 1 0)],[(1,(true,.cells 36 [.own 0])),(0,(true,.arr 105 3 ((Qfh a).map Qab.c)))],2⟩,?_,by simp[Qad.good,belT,belH,Qam,AV.bel,belL],by simp,?_⟩
 .simp only[subP];simp(maxSteps:=9^9)(disch:=omega)only[ZZ,simprocAttr,rch,Qc7,ORB,asmX.ca,asmX.H1,Zaf,Zae]
  try simp
 .simp(maxSteps:=9^9)(disch:=omega)only[ZZ,simprocAttr,rch,Qc7,ORB,asmX.ca,asmX.H1,asmX.r0]
 simp[asmX.H1] at hp;subst hp;exact .inr ⟨by omega,by omega,rfl,rfl⟩
def asmXV.ar:List PK->Option (List Qab):=a1 (kS Qab.d)
def asmXV.row:Row:=Qaex asmXV.ar (fun l=>(l.map Qab.At).Nodup/\l.length<=1000000) asmX.r0 asmX.H1 20
theorem asmXV.ok:Qas Tryz.prog 89 asmXV.row:=
 Qagv (A:=List Qab) (ca:=fun (a:List Qab)=>[D.sl false 3 (a.map Qab.c)]) (by kernel_rfl) asmX.ok (fun _=>rfl) (a1_le (kS_le 3 Qab.d_le (fun _=>rfl)))
  (fun a=>by simp[asmX.r0,scV,scVL,D.sc,AV.nms,nmsL])
  (fun a p hp=>by
   simp only[asmX.H1,Zan] at hp;subst hp;exact⟨by omega,rfl,by simp[scO,Qab.c,D.sc],by simp[AObj.nms]⟩)
theorem Qaex.os{A:Type}{ar:List PK->Option A}{pre:A->Prop}{r0:A->AV}{H1:A->Qan}{cnt:Nat}{args:List AV}{h:Nat->Option Ent}{nx:Nat}{K:Kont}(ps:List PK)(hps:pkFL h args=some ps)(a:A)(ha:ar ps=some a)(hpre:pre a)
 (hK:K ((r0 a).ren (sgx (fun j=>j) 0 nx)) {use:=rchL h args,new:=renH (sgx (fun j=>j) 0 nx) (H1 a),cnt:=cnt}):Qaex ar pre r0 H1 cnt args h nx K:=by
 unfold Qaex;rw[hps];simp only[Qalb,ha,decK];exact⟨hpre,hK⟩
theorem pkOne{h:Nat->Option Ent}{o T k:Nat}{mu:Bool}{rows:List (List D)}(g:h o=some (mu,.arr T k rows)):pkFL h [.own o]=some [.val (.sl false k rows)]:=by
 simp only[pkFL,pkF,bk,g,Qwz,pkFV,Qabo,ZaO]
def asmCX.H1(a:Cry):Qan:=[(1,(false,.map ⟨true,[.int .i64,.int .i64]⟩ (a.Tl.map Qbe))),(3,(true,.arr 105 3 ((asmT a.Tl).Tiles.map Qab.c)))]
def asmCX.row:Row:=orow asmC.ca cryH 3 (fun a=>(a.Tl.map Prod.fst).Nodup/\a.Tl.length<=100000) klA (fun _=> .agg [.own 3]) asmCX.H1 20
theorem asmCX.ok:Qas Tryz.prog 58 asmCX.row:=by
 refine owN (tC asmXV.ok tN) Tryz.func58 rfl (by kernel_rfl) (exB:=fun j=>j==3) (R:=fun _ r=>r= .agg [.own 3]) (fun _=>rfl)
  (fun a=>by simp[asmC.ca,cryH,Qbk,asmCX.H1,klA,belL,AV.bel,belH,Qam,Qc2,AObj.nms,nmsL,AV.nms,domB,hget]) (fun a p hp=> ?_) (fun a r h=>by subst h;exact LeV.refl _) ?_
 rotate_left
 intro a hpre;simp only[Tryz.f58,Option.getD,asmC.ca,cryH,Qbk,asmCX.H1,klA];simp(maxSteps:=9^9)(disch:=omega)only[ZZ,simprocAttr,rch,Qc7,ORB,asmC.ca,cryH,Qbk,asmCX.H1,klA];obtain⟨hp1,hp2⟩:=hpre;refine Qay.ren ⟨{s:Option (D×D)×List (Qae×Int)×List Qab//(s.2.2++s.2.1.map mkPl).Perm (a.Tl.map mkPl)},fun s=>⟨[(10,.it 5),(3,.own 6),(2,.ptr 3 0),(0,.ptr 0 0)],[(6,(true,.arr 105 3 (s.1.2.2.map Qab.c))),(5,(true,.iter s.1.1 (s.1.2.1.map Qbe))),(3,(true,.cells 36 [.im (.sl true 0 [])])),(0,(true,.cells 145 (Qbk a.Sys))),(1,(false,.map ⟨true,[.int .i64,.int .i64]⟩ (a.Tl.map Qbe))),(2,(true,.map ⟨true,[.int .i64,.int .i64]⟩ (a.Op.map Qbc)))],7⟩,fun s=>s.1.2.1.length,fun s=>⟨by simp[Qad.good,belT,belH,Qam,AV.bel,belL,Qbk],by simp⟩,⟨⟨(none,a.Tl,[]),by simp⟩,[(6,some 4)],?_⟩,fun s=> ?_⟩
 .simp only[subP,Qbk];simp(maxSteps:=9^9)(disch:=omega)only[ZZ,simprocAttr,rch,Qc7,ORB,asmC.ca,cryH,Qbk,asmCX.H1,klA,ZaS]
  try simp
 obtain⟨⟨last,left,col⟩,hs⟩:=s;simp only at hs;simp only[Qbk];simp(maxSteps:=9^9)(disch:=omega)only[ZZ,simprocAttr,rch,Qc7,ORB,asmC.ca,cryH,Qbk,asmCX.H1,klA,sub,Qal];refine⟨fun hl=> ?_,fun i p hp=> ?_⟩
 .have hl':left=[]:=by simpa using hl
  subst hl';rw[ZaS,ZaP] at hs;obtain⟨r1,r2,r3⟩:=asmT_perm hp1 hs;refine Qaex.os [.val (.sl false 3 (col.map Qab.c))] (pkOne rfl) col (by simp only[asmXV.ar,a1,kS,Qab.d_R,Zbl]) ⟨r2,by omega⟩ ?_;simp(maxSteps:=9^9)(disch:=omega)only[ZZ,simprocAttr,rch,Qc7,ORB,asmC.ca,cryH,Qbk,asmCX.H1,klA,asmX.r0,asmX.H1,sub,r1];refine⟨[],[(3,some 7),(4,some 3)],⟨[(2,.ptr 4 0)],[(4,(true,.cells 36 [.own 3])),(3,(true,.arr 105 3 ((asmT a.Tl).Tiles.map Qab.c))),(0,(true,.cells 145 (Qbk a.Sys))),(1,(false,.map ⟨true,[.int .i64,.int .i64]⟩ (a.Tl.map Qbe))),(2,(true,.map ⟨true,[.int .i64,.int .i64]⟩ (a.Op.map Qbc)))],5⟩,?_,by simp[Qad.good,belT,belH,Qam,AV.bel,belL,Qbk],by simp,?_⟩
  .simp only[subP,Qbk];simp(maxSteps:=9^9)(disch:=omega)only[ZZ,simprocAttr,rch,Qc7,ORB,asmC.ca,cryH,Qbk,asmCX.H1,klA,Zaf,Zae]
   try simp[asmT]
  .simp only[Qbk];simp(maxSteps:=9^9)(disch:=omega)only[ZZ,simprocAttr,rch,Qc7,ORB,asmC.ca,cryH,Qbk,asmCX.H1,klA,Zaf,Zae]
   try simp
 .rw[ZaN] at hp;cases hq:left[i]? with
  |none=>rw[hq] at hp;cases hp
  |some q=>
   rw[hq] at hp;obtain rfl:=Zaa hp;obtain⟨⟨qx,qy⟩,qn⟩:=q;simp only[Qbe,Qae.c];simp(maxSteps:=9^9)(disch:=omega)only[ZZ,simprocAttr,rch,Qc7,ORB,asmC.ca,cryH,Qbk,asmCX.H1,klA,sub,Qal];have hi:i<left.length:=by
    rcases ZbE i left.length with h|h
    .exact h
    .rw[ZaT h] at hq;cases hq
   have hpm:((⟨qx,qy⟩,qn)::left.eraseIdx i).Perm left:=Qqq _ _ _ hq;have hP:((col++[(⟨⟨qx,qy⟩,qn⟩:Qab)])++(left.eraseIdx i).map mkPl).Perm (a.Tl.map mkPl):=by
    rw[ZbH];refine (List.Perm.append_left col ?_).trans hs;exact hpm.map mkPl
   have hcl:col.length<=a.Tl.length:=by
    have r3:=hs.length_eq;simp at r3;omega
   refine⟨by omega,⟨⟨(some (D.agg [.int .i64 qx,.int .i64 qy],D.int .i64 qn),left.eraseIdx i,col++[(⟨⟨qx,qy⟩,qn⟩:Qab)]),hP⟩,[(6,some 9)],?_,?_⟩⟩
   .simp only[ZeV];rw[Zao hi];omega
   .simp only[subP];simp(maxSteps:=9^9)(disch:=omega)only[ZZ,simprocAttr,rch,Qc7,ORB,asmC.ca,cryH,Qbk,asmCX.H1,klA];simp[Qab.c,Qwf]
 simp[asmCX.H1] at hp;rcases hp with rfl|rfl
 .exact .inl ⟨by omega,rfl,rfl⟩
 .exact .inr ⟨by omega,by omega,rfl,rfl⟩
theorem rm_free{s:Qar}{t:List (Qae×Int)}{a:Asm}{k:Nat}{o:Opt}(h:RM t a k)(ha:Qn7 s.Set a)(c1:canS s a o=true):lkP t o.At=none/\0<=o.Tile:=by
 simp only[canS,Zah,Zay] at c1;obtain⟨d1,d2,d3,_⟩:=c1;have hv:0<=o.Tile:=by
  simp only[Qau,Zah,Zay] at d2;exact d2.1
 refine⟨?_,hv⟩;have h1:Qbw t o.At=atA a o.At:=congrFun h.at o.At;have h2:=(Qala ha.2 o.At).1 d3;cases hq:lkP t o.At with
 |none=>rfl
 |some v=>
  exfalso;have h3:=h.pos _ (Qac0 hq);simp only[Qbw,hq,Zag] at h1;simp only at h3;omega
def cryG(s:Qar)(b:Asm)(c:Cry):Prop:=c.Sys=s/\(∃n,RM c.Tl b n)/\OpOk s (Qbw c.Tl) c.Op/\Qn7 s.Set b/\b.Tiles.length<=500/\setP s.Set/\1<=s.Temperature/\s.Set.Tiles.length<=160
theorem cryG.put{s:Qar}{b:Asm}{c:Cry}(h:cryG s b c){o:Opt}(ho:canS s b o=true)(hl:b.Tiles.length<500):cryG s (putA b o.At o.Tile) (putT c o.At o.Tile):=by
 obtain⟨rfl,⟨n,hrm⟩,hop,hb,h5,h1,hT,h2⟩:=h;obtain⟨f1,f2⟩:=rm_free hrm hb ho;obtain⟨z1,z2,z3,z4,z5,z6⟩:=Qadk ho;exact⟨rfl,⟨_,hrm.put f2 f1⟩,op_put hop z3,can_in h2 hb ho,by rw[Qanu];omega,h1,hT,h2⟩
def grC(l:List Int):Nat->Cry->Asm->List Opt->Cry×Asm×List Opt×Bool
 |0,c,b,d=>(c,b,d,true)
 |n+1,c,b,d=>match nxO c.Sys l b d.length with
  |none=>(c,b,d,true)
  |some o=>if 500<=b.Tiles.length then (c,b,[],false) else grC l n (putT c o.At o.Tile) (putA b o.At o.Tile) (d++[o])
theorem grC_law{s:Qar}{l:List Int}: ∀(n:Nat) (c:Cry) (b:Asm) (d:List Opt),cryG s b c->((grC l n c b d).2.2.2=true/\grw s l n b d=((grC l n c b d).2.2.1,(grC l n c b d).2.1,0)/\cryG s (grC l n c b d).2.1 (grC l n c b d).1)\/((grC l n c b d).2.2.2=false/\(grC l n c b d).2.2.1=[]/\grw s l n b d=([],⟨[]⟩,4))
 |0,c,b,d,h=> .inl ⟨rfl,rfl,h⟩
 |n+1,c,b,d,h=>by
  have hs:c.Sys=s:=h.1;rw[grC,grw,hs];cases ho:nxO s l b d.length with
  |none=>exact .inl ⟨rfl,rfl,h⟩
  |some o=>
   simp only;by_cases c5:500<=b.Tiles.length
   .rw[Zao c5,Zao c5];exact .inr ⟨rfl,rfl,rfl⟩
   .rw[Zai c5,Zai c5];exact grC_law n _ _ _ (h.put (Qan2 h.2.2.2.1 ho) (by omega))
theorem grw_len(s:Qar)(l:List Int): ∀(n:Nat) (b:Asm) (d:List Opt),b.Tiles.length<=500->(grw s l n b d).1.length<=d.length+n/\(grw s l n b d).2.1.Tiles.length<=500
 |0,b,d,h=>by simp[grw,h]
 |n+1,b,d,h=>by
  rw[grw];split
  .exact⟨by simp only;omega,h⟩
  .split
   .simp
   .have:=grw_len s l n (putA b ‹Opt›.At ‹Opt›.Tile) (d++[‹Opt›]) (by rw[Qanu];omega)
    simp only[ZaF,ZdX] at this;exact⟨by omega,this.2⟩
def nxGC(l:List Int)(c:Cry)(b:Asm)(k:Nat):Cry:=
 match nxO c.Sys l b k with
 |none=>c
 |some o=>if 500<=b.Tiles.length then c else putT c o.At o.Tile
def nxGR(l:List Int)(c:Cry)(b:Asm)(k:Nat):D:=
 match nxO c.Sys l b k with
 |none=> .tup [.agg [.int .i64 0,.int .i64 0,.int .i64 0],.tok 0]
 |some o=>if 500<=b.Tiles.length then .tup [.agg [.int .i64 0,.int .i64 0,.int .i64 0],.tok 1] else .tup [.agg (Opt.c o),.nili]
def nxtC.ca(a:Cry×Asm×List Int×Nat):List AV:=[.ptr 0 0,.im (.fn 123 [] [.ref [.sl false 1 (a.2.2.1.map intC)]]),.im (.int .i64 a.2.2.2)]
def nxtC.H1(a:Cry×Asm×List Int×Nat):Qan:=[(1,(true,.map ⟨true,[.int .i64,.int .i64]⟩ ((nxGC a.2.2.1 a.1 a.2.1 a.2.2.2).Tl.map Qbe))),(2,(true,.map ⟨true,[.int .i64,.int .i64]⟩ ((nxGC a.2.2.1 a.1 a.2.1 a.2.2.2).Op.map Qbc)))]
def nxtC.r0(a:Cry×Asm×List Int×Nat):AV:= .im (nxGR a.2.2.1 a.1 a.2.1 a.2.2.2)
def nxtC.row:Row:=orow nxtC.ca (fun a=>cryH a.1) 3 (fun a=>cryG a.1.Sys a.2.1 a.1/\Qanv a.2.2.1=true/\a.2.2.2<=1000) kl12 nxtC.r0 nxtC.H1 0
def YaK:=J @sel1_.q @sel1_.fv.eq_1
theorem nxtC.ok:Qas Tryz.prog 87 nxtC.row:=by
 refine ow (tC lisC.ok (tC sel1_.ok (tC putC.ok tN))) Tryz.func87 rfl (by kernel_rfl) (exB:=fun _=>false) (R:=fun a r=>r=nxtC.r0 a) (fun _=>rfl)
  (fun a=>by simp[nxtC.ca,cryH,Qbk,nxtC.H1,kl12,belL,AV.bel,belH,Qam,Qc2,AObj.nms,nmsL,AV.nms,domB,hget]) (fun a p hp=> ?_) (fun a r h=>by subst h;exact LeV.refl _) ?_
 rotate_left
 intro a hpre;simp only[Tryz.f87,Option.getD,nxtC.ca,cryH,Qbk,nxtC.H1,kl12];simp(maxSteps:=9^9)(disch:=omega)only[ZZ,simprocAttr,rch,YaK,ORB,nxtC.ca,cryH,Qbk,nxtC.H1,kl12];obtain⟨c,b,l,k⟩:=a;obtain⟨hg,hl,hk⟩:=hpre;simp only at hg hl hk⊢;obtain⟨_,⟨n,hrm⟩,hop,hb,h5,h1,hT,h2⟩:=hg;have hop2:=hop;rw[hrm.at] at hop2;obtain⟨l1,l2,l3⟩:=op_lim hT h5 h2 hop2;refine orow.os c [0,1,2] l2 (fun j=>Qack _ j) rfl rfl ?_ ?_
 .simp(maxSteps:=9^9)(disch:=omega)only[ZZ,simprocAttr,rch,YaK,ORB,nxtC.ca,cryH,Qbk,nxtC.H1,kl12,asmC.ca,cryH,Qbk,Zbd,ZaI,ZaV]
 simp(maxSteps:=9^9)(disch:=omega)only[ZZ,simprocAttr,rch,YaK,ORB,nxtC.ca,cryH,Qbk,nxtC.H1,kl12,sub,lisC.r0,l1];intro _;have hsz:=hrm.size;rw[l1] at l3;split
 .rename_i c1;have hno:=(Qanx (s:=c.Sys) (l:=l) (b:=b) (k:=k)).2 (ZbT.1 (by omega));simp only[nxtC.r0,nxGR,nxGC,hno];trivial
 rename_i c1;obtain⟨o,ho⟩: ∃o,nxO c.Sys l b k=some o:=by
  cases hq:nxO c.Sys l b k with
  |none=>exact absurd (by rw[Qanx.1 hq];rfl) c1
  |some o=>exact⟨o,rfl⟩
 split
 .rename_i c2;simp only[nxtC.r0,nxGR,nxGC,ho];rw[Zao (by omega),Zao (by omega)];exact⟨rfl,rfl,rfl⟩
 rename_i c2;intro _;refine⟨⟨by omega,by omega,by omega,hl⟩,schN_lt (by omega),fun x hx=> ?_⟩;obtain rfl:o=x:=Zaa (ho.symm.trans hx);have cS:=Qan2 hb ho;obtain⟨z1,z2,z3,z4,z5,z6⟩:=Qadk cS;have hin2:inF c.Sys.Set (Qbw c.Tl):=by rw[hrm.at];exact fun p hp=>atA_in hb p hp
 have hnc:nxGC l c b k=putT c o.At o.Tile:=by simp only[nxGC,ho];rw[Zai (by omega)]
 have hnr:nxGR l c b k= .tup [.agg (Opt.c o),.nili]:=by simp only[nxGR,ho];rw[Zai (by omega)]
 refine orow.os (c,o.At,o.Tile) [0,1,2] ⟨⟨h1,hin2,by simp only;omega⟩,z2,z5⟩ (fun j=>Qack _ j) rfl rfl ?_ ?_
 .simp(maxSteps:=9^9)(disch:=omega)only[ZZ,simprocAttr,rch,YaK,ORB,nxtC.ca,cryH,Qbk,nxtC.H1,kl12,putC.ca,cryH,Qbk,Zbd,ZaI,ZaV]
 simp(maxSteps:=9^9)(disch:=omega)only[ZZ,simprocAttr,rch,YaK,ORB,nxtC.ca,cryH,Qbk,nxtC.H1,kl12,putC.H1,kl12,sub,ZaI,ZaV,hnc,nxtC.r0,hnr];simp[nxtC.H1] at hp;rcases hp with rfl|rfl
 .exact .inl ⟨by omega,rfl,rfl⟩
 .exact .inl ⟨by omega,rfl,rfl⟩
def growI.ca(a:Cry×Asm×List Int×Nat):List AV:=[.ptr 0 0,.im (.sl false 1 (a.2.2.1.map intC)),.im (.int .i64 a.2.2.2)]
def growI.H1(a:Cry×Asm×List Int×Nat):Qan:=[(1,(true,.map ⟨true,[.int .i64,.int .i64]⟩ ((grC a.2.2.1 a.2.2.2 a.1 a.2.1 []).1.Tl.map Qbe))),(2,(true,.map ⟨true,[.int .i64,.int .i64]⟩ ((grC a.2.2.1 a.2.2.2 a.1 a.2.1 []).1.Op.map Qbc))),(3,(true,.arr 74 3 ((grC a.2.2.1 a.2.2.2 a.1 a.2.1 []).2.2.1.map Opt.c)))]
def growI.r0(a:Cry×Asm×List Int×Nat):AV:= .tup [.own 3,.im (.bool (grC a.2.2.1 a.2.2.2 a.1 a.2.1 []).2.2.2)]
def growI.row:Row:=orow growI.ca (fun a=>cryH a.1) 3 (fun a=>cryG a.1.Sys a.2.1 a.1/\Qanv a.2.2.1=true/\a.2.2.2<=501) kl12 growI.r0 growI.H1 20
def YaL:=J @sel_.q @sel_.fv.eq_1
theorem growI.ok:Qas Tryz.prog 57 growI.row:=by
 refine owN (tC sel_.ok (tC nxtC.ok (tC errIs.ok tN))) Tryz.func57 rfl (by kernel_rfl) (exB:=fun j=>j==3) (R:=fun a r=>r=growI.r0 a) (fun _=>rfl)
  (fun a=>by simp[growI.ca,cryH,Qbk,growI.H1,kl12,belL,AV.bel,belH,Qam,Qc2,AObj.nms,nmsL,AV.nms,domB,hget]) (fun a p hp=> ?_) (fun a r h=>by subst h;exact LeV.refl _) ?_
 rotate_left
 intro a hpre;simp only[Tryz.f57,Option.getD,growI.ca,cryH,Qbk,growI.H1,kl12];simp(maxSteps:=9^9)(disch:=omega)only[ZZ,simprocAttr,rch,YaL,Qc7,ORB,growI.ca,cryH,Qbk,growI.H1,kl12];obtain⟨c,b,l,n⟩:=a;obtain⟨hg,hl,hn⟩:=hpre;simp only at hg hl hn⊢;refine Qay.ren ⟨{q:Cry×Asm×List Opt//q.2.2.length<=n/\cryG c.Sys q.2.1 q.1/\grC l (n - q.2.2.length) q.1 q.2.1 q.2.2=grC l n c b []},fun q=>⟨[(9,.own 5),(8,.im (.fn 123 [] [.ref [.sl false 1 (l.map intC)]])),(7,.im (.bool false)),(6,.own 3),(0,.ptr 0 0),(2,.im (.int .i64 n))],[(5,(true,.arr 74 3 (q.1.2.2.map Opt.c))),(3,(true,.arr 74 3 [])),(0,(true,.cells 145 [.im (.sl false 2 (c.Sys.Set.Glues.map Glue.c)),.im (.sl false 2 (c.Sys.Set.Tiles.map Tile.c)),.im (.sl false 3 (c.Sys.Seed.Tiles.map Qab.c)),.im (.int .i64 c.Sys.Temperature),.mp 1,.mp 2])),(1,(true,.map ⟨true,[.int .i64,.int .i64]⟩ (q.1.1.Tl.map Qbe))),(2,(true,.map ⟨true,[.int .i64,.int .i64]⟩ (q.1.1.Op.map Qbc)))],6⟩,fun q=>n - q.1.2.2.length,fun q=>⟨by simp[Qad.good,belT,belH,Qam,AV.bel,belL],by simp⟩,⟨⟨(c,b,[]),by simp only;exact⟨Zbc _,hg,by rw[Zbz,Zdu]⟩⟩,[(5,some 4)],?_⟩,fun q=> ?_⟩
 .simp only[subP];simp(maxSteps:=9^9)(disch:=omega)only[ZZ,simprocAttr,rch,YaL,Qc7,ORB,growI.ca,cryH,Qbk,growI.H1,kl12,Zaf,Zae,ZaS]
  try simp
 obtain⟨⟨c1,b1,d⟩,e1,e2,e3⟩:=q;simp only at e1 e2 e3;simp(maxSteps:=9^9)(disch:=omega)only[ZZ,simprocAttr,rch,YaL,Qc7,ORB,growI.ca,cryH,Qbk,growI.H1,kl12,sub,Qal];have hS:c1.Sys=c.Sys:=e2.1;have hnS: ∀k,nxO c1.Sys l b1 k=nxO c.Sys l b1 k:=fun k=>by rw[hS]
 refine fun _=>⟨fun h1 _=> ?_,fun h1=> ?_⟩
 .refine orow.os (c1,b1,l,d.length) [0,1,2] ⟨by rw[hS];exact e2,hl,by simp only;omega⟩ (fun j=>Qack _ j) rfl rfl ?_ ?_
  .simp(maxSteps:=9^9)(disch:=omega)only[ZZ,simprocAttr,rch,YaL,Qc7,ORB,growI.ca,cryH,Qbk,growI.H1,kl12,nxtC.ca,cryH,Qbk,Zbd,ZaI,ZaV,hS]
  obtain⟨m,hm⟩: ∃m,n - d.length=m+1:=⟨n - d.length - 1,by omega⟩;cases ho:nxO c.Sys l b1 d.length with
  |none=>
   have hnr:nxGR l c1 b1 d.length= .tup [.agg [.int .i64 0,.int .i64 0,.int .i64 0],.tok 0]:=by simp only[nxGR,hnS,ho]
   have hnc:nxGC l c1 b1 d.length=c1:=by simp only[nxGC,hnS,ho]
   have hG:grC l n c b []=(c1,b1,d,true):=by rw[<-e3,hm,grC,hnS,ho]
   simp(maxSteps:=9^9)(disch:=omega)only[ZZ,simprocAttr,rch,YaL,Qc7,ORB,growI.ca,cryH,Qbk,growI.H1,kl12,nxtC.H1,kl12,sub,ZaI,ZaV,nxtC.r0,hnr,hnc,errIs.q,Qan0,isG];refine⟨[],[(3,some 5)],⟨[(6,.own 3),(7,.im (.bool true))],[(3,(true,.arr 74 3 (d.map Opt.c))),(0,(true,.cells 145 [.im (.sl false 2 (c.Sys.Set.Glues.map Glue.c)),.im (.sl false 2 (c.Sys.Set.Tiles.map Tile.c)),.im (.sl false 3 (c.Sys.Seed.Tiles.map Qab.c)),.im (.int .i64 c.Sys.Temperature),.mp 1,.mp 2])),(1,(true,.map ⟨true,[.int .i64,.int .i64]⟩ (c1.Tl.map Qbe))),(2,(true,.map ⟨true,[.int .i64,.int .i64]⟩ (c1.Op.map Qbc)))],4⟩,?_,by simp[Qad.good,belT,belH,Qam,AV.bel,belL],by simp,?_⟩
   .simp only[subP];simp(maxSteps:=9^9)(disch:=omega)only[ZZ,simprocAttr,rch,YaL,Qc7,ORB,growI.ca,cryH,Qbk,growI.H1,kl12,Zaf,Zae,ZaS]
    try simp
   .simp(maxSteps:=9^9)(disch:=omega)only[ZZ,simprocAttr,rch,YaL,Qc7,ORB,growI.ca,cryH,Qbk,growI.H1,kl12,growI.r0,hG,ZaS]
  |some o=>
   by_cases c5:500<=b1.Tiles.length
   .have hnr:nxGR l c1 b1 d.length= .tup [.agg [.int .i64 0,.int .i64 0,.int .i64 0],.tok 1]:=by simp only[nxGR,hnS,ho];rw[Zao c5]
    have hnc:nxGC l c1 b1 d.length=c1:=by simp only[nxGC,hnS,ho];rw[Zao c5]
    have hG:grC l n c b []=(c1,b1,[],false):=by rw[<-e3,hm,grC,hnS,ho];simp only;rw[Zao c5]
    simp(maxSteps:=9^9)(disch:=omega)only[ZZ,simprocAttr,rch,YaL,Qc7,ORB,growI.ca,cryH,Qbk,growI.H1,kl12,nxtC.H1,kl12,sub,ZaI,ZaV,nxtC.r0,hnr,hnc,errIs.q,Qan0,isG];refine⟨[],[(3,some 7)],⟨[(6,.own 3),(7,.im (.bool false))],[(3,(true,.arr 74 3 (([]:List Opt).map Opt.c))),(0,(true,.cells 145 [.im (.sl false 2 (c.Sys.Set.Glues.map Glue.c)),.im (.sl false 2 (c.Sys.Set.Tiles.map Tile.c)),.im (.sl false 3 (c.Sys.Seed.Tiles.map Qab.c)),.im (.int .i64 c.Sys.Temperature),.mp 1,.mp 2])),(1,(true,.map ⟨true,[.int .i64,.int .i64]⟩ (c1.Tl.map Qbe))),(2,(true,.map ⟨true,[.int .i64,.int .i64]⟩ (c1.Op.map Qbc)))],4⟩,?_,by simp[Qad.good,belT,belH,Qam,AV.bel,belL],by simp,?_⟩
    .simp only[subP];simp(maxSteps:=9^9)(disch:=omega)only[ZZ,simprocAttr,rch,YaL,Qc7,ORB,growI.ca,cryH,Qbk,growI.H1,kl12,Zaf,Zae,ZaS]
     try simp
    .simp(maxSteps:=9^9)(disch:=omega)only[ZZ,simprocAttr,rch,YaL,Qc7,ORB,growI.ca,cryH,Qbk,growI.H1,kl12,growI.r0,hG,ZaS]
   .have hnr:nxGR l c1 b1 d.length= .tup [.agg (Opt.c o),.nili]:=by simp only[nxGR,hnS,ho];rw[Zai c5]
    have hnc:nxGC l c1 b1 d.length=putT c1 o.At o.Tile:=by simp only[nxGC,hnS,ho];rw[Zai c5]
    have hG:grC l n c b []=grC l m (putT c1 o.At o.Tile) (putA b1 o.At o.Tile) (d++[o]):=by rw[<-e3,hm,grC,hnS,ho];simp only;rw[Zai c5]
    have hcG:=e2.put (Qan2 e2.2.2.2.1 ho) (by omega);simp(maxSteps:=9^9)(disch:=omega)only[ZZ,simprocAttr,rch,YaL,Qc7,ORB,growI.ca,cryH,Qbk,growI.H1,kl12,nxtC.H1,kl12,sub,ZaI,ZaV,nxtC.r0,hnr,hnc,errIs.q,Qan0,isG];refine⟨by omega,⟨(putT c1 o.At o.Tile,putA b1 o.At o.Tile,d++[o]),by simp only;exact⟨by simp;omega,hcG,by rw[hG,show n - (d++[o]).length=m by simp;omega]⟩⟩,[(5,some 8)],by simp;omega,?_⟩;simp only[subP];simp(maxSteps:=9^9)(disch:=omega)only[ZZ,simprocAttr,rch,YaL,Qc7,ORB,growI.ca,cryH,Qbk,growI.H1,kl12,Zaf,Zae];simp[Opt.c]
 .have hG:grC l n c b []=(c1,b1,d,true):=by rw[<-e3,show n - d.length=0 by omega,grC]
  refine⟨[],[(3,some 5)],⟨[(6,.own 3),(7,.im (.bool true))],[(3,(true,.arr 74 3 (d.map Opt.c))),(0,(true,.cells 145 [.im (.sl false 2 (c.Sys.Set.Glues.map Glue.c)),.im (.sl false 2 (c.Sys.Set.Tiles.map Tile.c)),.im (.sl false 3 (c.Sys.Seed.Tiles.map Qab.c)),.im (.int .i64 c.Sys.Temperature),.mp 1,.mp 2])),(1,(true,.map ⟨true,[.int .i64,.int .i64]⟩ (c1.Tl.map Qbe))),(2,(true,.map ⟨true,[.int .i64,.int .i64]⟩ (c1.Op.map Qbc)))],4⟩,?_,by simp[Qad.good,belT,belH,Qam,AV.bel,belL],by simp,?_⟩
  .simp only[subP];simp(maxSteps:=9^9)(disch:=omega)only[ZZ,simprocAttr,rch,YaL,Qc7,ORB,growI.ca,cryH,Qbk,growI.H1,kl12,Zaf,Zae,ZaS]
   try simp
  .simp(maxSteps:=9^9)(disch:=omega)only[ZZ,simprocAttr,rch,YaL,Qc7,ORB,growI.ca,cryH,Qbk,growI.H1,kl12,growI.r0,hG,ZaS]
 simp[growI.H1] at hp;rcases hp with rfl|rfl|rfl
 .exact .inl ⟨by omega,rfl,rfl⟩
 .exact .inl ⟨by omega,rfl,rfl⟩
 .exact .inr ⟨by omega,by omega,rfl,rfl⟩
theorem cry_new{s:Qar}{a:Asm}(c1:Qjc s=true)(c2:Qcp s.Set a=true):newC.pre (s,a)/\cryG s a (Qui s a):=by
 obtain⟨⟨q1,q2,q3,_⟩,q5,_⟩:=Qacj c1;obtain⟨h3,h4⟩:=Qdg c2;have hbp:=Qof (s:=s.Set) (a:=a) (by rw[q5,c2];rfl);have hT:1<=s.Temperature:=by
  simp only[Qjc,Qau,Zah,Zay] at c1;exact c1.2.2.2.1.1
 exact⟨⟨q1,by simp only;omega,fun y hy=>⟨h3.2 y hy,hbp.1.2.2.2 y hy⟩⟩,rfl,⟨_,RM.of h3.1 fun x hx=>(h3.2 x hx).1⟩,op_new hT,h3,h4,q1,hT,q3⟩
def grX(w:List Opt×Asm×Int):Qan:=[(0,(true,.arr 74 3 (w.1.map Opt.c))),(1,(true,.arr 105 3 (w.2.1.Tiles.map Qab.c)))]
def grR(w:List Opt×Asm×Int):AV:= .tup [.own 0,.agg [.own 1],.im (.int .i64 w.2.2)]
def grnF(a:Qar×List Int×Nat):List Opt×Asm×Int:=grw a.1 a.2.1 a.2.2 a.1.Seed []
def grnI.ca(a:Qar×List Int×Nat):List AV:=[.im (.agg (Qar.c a.1)),.im (.sl false 1 (a.2.1.map intC)),.im (.int .i64 a.2.2)]
def grnI.H1(a:Qar×List Int×Nat):Qan:=grX (grnF a)
def grB(j:Nat):Bool:=j==0||j==1
def grnI.row:Row:=orow grnI.ca (fun _=>[]) 0 (fun a=>Qjc a.1=true/\Qanv a.2.1=true/\a.2.2<=501) (fun _=>false) (fun a=>grR (grnF a)) grnI.H1 20
theorem grnI.ok:Qas Tryz.prog 31 grnI.row:=by
 refine owN (tC newC.ok (tC growI.ok (tC asmCX.ok tN))) Tryz.func31 rfl (by kernel_rfl) (exB:=grB) (R:=fun a r=>r=grR (grnF a)) (fun _=>rfl)
  (fun a=>by simp[grnI.ca,grB,Qar.c,belL,AV.bel,belH,Qam,Qc2,AObj.nms,nmsL,AV.nms,domB,hget]) (fun a p hp=> ?_) (fun a r h=>by subst h;exact LeV.refl _) ?_
 rotate_left
 intro a hpre;simp only[Tryz.f31,Option.getD,grnI.ca,grB,Qar.c];simp(maxSteps:=9^9)(disch:=omega)only[ZZ,simprocAttr,rch,Qc7,ORB,grnI.ca,grB,Qar.c];obtain⟨s,l,n⟩:=a;obtain⟨c1,hl,hn⟩:=hpre;simp only at c1 hl hn⊢;have c2:=(Qacj c1).2.2;obtain⟨hnp,hcg⟩:=cry_new c1 c2;refine orow.os (s,s.Seed) [] hnp (fun j=>by simp[domB,hget]) rfl rfl ?_ ?_
 .simp(maxSteps:=9^9)(disch:=omega)only[ZZ,simprocAttr,rch,Qc7,ORB,grnI.ca,grB,Qar.c,newC.ca,Qer,Qar.c,Asm.c]
 simp(maxSteps:=9^9)(disch:=omega)only[ZZ,simprocAttr,rch,Qc7,ORB,grnI.ca,grB,Qar.c,newC.H1,sub];obtain⟨w,hw⟩: ∃w,w=grC l n (Qui s s.Seed) s.Seed []:=⟨_,rfl⟩;have hlaw:=grC_law (l:=l) n (Qui s s.Seed) s.Seed [] hcg;rw[<-hw] at hlaw;refine orow.os (Qui s s.Seed,s.Seed,l,n) [7,5,6] ⟨hcg,hl,hn⟩ (fun j=>Qack _ j) rfl rfl ?_ ?_
 .simp(maxSteps:=9^9)(disch:=omega)only[ZZ,simprocAttr,rch,Qc7,ORB,grnI.ca,grB,Qar.c,growI.ca,cryH,Qbk,Zbd,ZaI,ZaV];exact⟨rfl,rfl,rfl,rfl⟩
 have hS:(Qui s s.Seed).Sys=s:=rfl;rcases hlaw with ⟨g1,g2,g3⟩|⟨g1,g2,g3⟩
 .have hF:grnF (s,l,n)=(w.2.2.1,w.2.1,0):=g2;obtain⟨e1,⟨kk,e2⟩,_,e4,e5,_⟩:=g3;simp(maxSteps:=9^9)(disch:=omega)only[ZZ,simprocAttr,rch,Qc7,ORB,grnI.ca,grB,Qar.c,growI.H1,kl12,sub,ZaI,ZaV,growI.r0,<-hw,g1];refine orow.os w.1 [7,5,6] ⟨e2.nd,by have:=e2.size;omega⟩ (fun j=>Qack _ j) rfl rfl ?_ ?_
  .simp(maxSteps:=9^9)(disch:=omega)only[ZZ,simprocAttr,rch,Qc7,ORB,grnI.ca,grB,Qar.c,asmC.ca,cryH,Qbk,Zbd,ZaI,ZaV,e1]
   try exact⟨rfl,rfl,rfl⟩
  simp(maxSteps:=9^9)(disch:=omega)only[ZZ,simprocAttr,rch,Qc7,ORB,grnI.ca,grB,Qar.c,asmCX.H1,klA,sub,ZaI,ZaV];have eT:(asmT w.1.Tl).Tiles=w.2.1.Tiles:=(ZbL Asm.Tiles e2.eq).symm;simp only[eT];refine⟨[],[(0,some 8),(1,some 28),(2,some 2)],⟨[(6,.own 0),(7,.ptr 2 0),(8,.im (.int .i64 0))],[(2,(true,.cells 36 [.own 1])),(0,(true,.arr 74 3 (w.2.2.1.map Opt.c))),(1,(true,.arr 105 3 (w.2.1.Tiles.map Qab.c)))],3⟩,?_,by simp[Qad.good,belT,belH,Qam,AV.bel,belL],by simp,?_⟩
  .simp only[subP];simp(maxSteps:=9^9)(disch:=omega)only[ZZ,simprocAttr,rch,Qc7,ORB,grnI.ca,grB,Qar.c,Zaf,Zae]
   try simp
  .simp(maxSteps:=9^9)(disch:=omega)only[ZZ,simprocAttr,rch,Qc7,ORB,grnI.ca,grB,Qar.c,grR,grnI.H1,grX,hF,Zaf,Zae]
   try simp
 .have hF:grnF (s,l,n)=([],⟨[]⟩,4):=g3;simp(maxSteps:=9^9)(disch:=omega)only[ZZ,simprocAttr,rch,Qc7,ORB,grnI.ca,grB,Qar.c,growI.H1,kl12,sub,ZaI,ZaV,growI.r0,<-hw,g1,g2,ZaS];refine⟨[],[(0,some 28),(1,none),(2,some 2)],⟨[(6,.own 0),(7,.ptr 2 0),(8,.im (.int .i64 4))],[(2,(true,.cells 36 [.own 1])),(0,(true,.arr 74 3 ([]))),(1,(true,.arr 105 3 ([])))],3⟩,?_,by simp[Qad.good,belT,belH,Qam,AV.bel,belL],by simp,?_⟩
  .simp only[subP];simp(maxSteps:=9^9)(disch:=omega)only[ZZ,simprocAttr,rch,Qc7,ORB,grnI.ca,grB,Qar.c,Zaf,Zae]
   try simp
  .simp(maxSteps:=9^9)(disch:=omega)only[ZZ,simprocAttr,rch,Qc7,ORB,grnI.ca,grB,Qar.c,grR,grnI.H1,grX,hF,Zaf,Zae]
   try simp
 simp[grnI.H1,grX] at hp;rcases hp with rfl|rfl
 .exact .inr ⟨by omega,by omega,rfl,rfl⟩
 .exact .inr ⟨by omega,by omega,rfl,rfl⟩
theorem sch_le{s:Qar}(c1:Qjc s=true):s.Seed.Tiles.length<=500:=(Qdg (Qacj c1).2.2).2
def grsI.ca(a:Qar×List Int×Int):List AV:=[.im (.agg (Qar.c a.1)),.im (.sl false 1 (a.2.1.map intC)),.im (.int .i64 a.2.2)]
def grsI.H1(a:Qar×List Int×Int):Qan:=grX (gwN a.1 a.2.1 a.2.2)
def grsI.row:Row:=orow grsI.ca (fun _=>[]) 0 (fun a=>Qf6 a.1.Set) (fun _=>false) (fun a=>grR (gwN a.1 a.2.1 a.2.2)) grsI.H1 20
def YaM:=J @validI_.q<|J @validI_.fv.eq_1<|J @vSch_.q<|J @vSch_.fv.eq_1<|J @within_.q @within_.fv.eq_1
theorem grsI.ok:Qas Tryz.prog 21 grsI.row:=by
 refine owN (tC validI_.ok (tC vSch_.ok (tC within_.ok (tC grnI.ok tN)))) Tryz.func21 rfl (by kernel_rfl) (exB:=grB) (R:=fun a r=>r=grR (gwN a.1 a.2.1 a.2.2)) (fun _=>rfl)
  (fun a=>by simp[grsI.ca,grB,Qar.c,belL,AV.bel,belH,Qam,Qc2,AObj.nms,nmsL,AV.nms,domB,hget]) (fun a p hp=> ?_) (fun a r h=>by subst h;exact LeV.refl _) ?_
 rotate_left
 intro a hpre;simp only[Tryz.f21,Option.getD,grsI.ca,grB,Qar.c];simp(maxSteps:=9^9)(disch:=omega)only[ZZ,simprocAttr,rch,YaM,Qc7,ORB,grsI.ca,grB,Qar.c];obtain⟨s,l,n⟩:=a;simp only at hpre⊢;refine⟨hpre,?_⟩;simp only[valid_law];by_cases c1:Qjc s=true
 case neg=>
  rw[Zao (by simpa using c1)];have hF:gwN s l n=([],⟨[]⟩,1):=by simp only[gwN];rw[Zao (by simpa using c1)]
  refine⟨[],[(0,some 3),(1,none),(2,some 2)],⟨[(6,.own 0),(7,.ptr 2 0),(8,.im (.int .i64 1))],[(2,(true,.cells 36 [.own 1])),(0,(true,.arr 74 3 ([]))),(1,(true,.arr 105 3 ([])))],3⟩,?_,by simp[Qad.good,belT,belH,Qam,AV.bel,belL],by simp,?_⟩
  .simp only[subP];simp(maxSteps:=9^9)(disch:=omega)only[ZZ,simprocAttr,rch,YaM,Qc7,ORB,grsI.ca,grB,Qar.c,Zaf,Zae]
   try simp
  .simp(maxSteps:=9^9)(disch:=omega)only[ZZ,simprocAttr,rch,YaM,Qc7,ORB,grsI.ca,grB,Qar.c,grR,grsI.H1,hF,grX,Zaf,Zae]
   try simp
 rw[Zai (by simpa using c1)];by_cases c2:Qanv l=true
 case neg=>
  rw[Zai c2];have hF:gwN s l n=([],⟨[]⟩,2):=by simp only[gwN];rw[Zai (by simp[c1]),Zao (.inl (by simpa using c2))]
  refine⟨[],[(0,some 3),(1,none),(2,some 2)],⟨[(6,.own 0),(7,.ptr 2 0),(8,.im (.int .i64 2))],[(2,(true,.cells 36 [.own 1])),(0,(true,.arr 74 3 ([]))),(1,(true,.arr 105 3 ([])))],3⟩,?_,by simp[Qad.good,belT,belH,Qam,AV.bel,belL],by simp,?_⟩
  .simp only[subP];simp(maxSteps:=9^9)(disch:=omega)only[ZZ,simprocAttr,rch,YaM,Qc7,ORB,grsI.ca,grB,Qar.c,Zaf,Zae]
   try simp
  .simp(maxSteps:=9^9)(disch:=omega)only[ZZ,simprocAttr,rch,YaM,Qc7,ORB,grsI.ca,grB,Qar.c,grR,grsI.H1,hF,grX,Zaf,Zae]
   try simp
 rw[Zao c2];by_cases c3:Qau n 0 500=false
 .rw[Zao c3];have hF:gwN s l n=([],⟨[]⟩,2):=by simp only[gwN];rw[Zai (by simp[c1]),Zao (.inr c3)]
  refine⟨[],[(0,some 3),(1,none),(2,some 2)],⟨[(6,.own 0),(7,.ptr 2 0),(8,.im (.int .i64 2))],[(2,(true,.cells 36 [.own 1])),(0,(true,.arr 74 3 ([]))),(1,(true,.arr 105 3 ([])))],3⟩,?_,by simp[Qad.good,belT,belH,Qam,AV.bel,belL],by simp,?_⟩
  .simp only[subP];simp(maxSteps:=9^9)(disch:=omega)only[ZZ,simprocAttr,rch,YaM,Qc7,ORB,grsI.ca,grB,Qar.c,Zaf,Zae]
   try simp
  .simp(maxSteps:=9^9)(disch:=omega)only[ZZ,simprocAttr,rch,YaM,Qc7,ORB,grsI.ca,grB,Qar.c,grR,grsI.H1,hF,grX,Zaf,Zae]
   try simp
 rw[Zai c3];have c4:0<=n/\n<=500:=by simpa[Qau] using c3
 obtain⟨m,rfl⟩: ∃m:Nat,n=m:=⟨n.toNat,by omega⟩;obtain⟨w,hw⟩: ∃w,w=gwN s l m:=⟨_,rfl⟩;have hF:grnF (s,l,m)=w:=by
  rw[hw];simp only[grnF,gwN];rw[Zai (by simp[c1]),Zai (fun h=>h.elim (fun h=>by rw[c2] at h;cases h) c3),Zak]
 refine orow.os (s,l,m) [] ⟨c1,c2,by simp only;omega⟩ (fun j=>by simp[domB,hget]) rfl rfl ?_ ?_
 .simp(maxSteps:=9^9)(disch:=omega)only[ZZ,simprocAttr,rch,YaM,Qc7,ORB,grsI.ca,grB,Qar.c,grnI.ca,Qer,Qar.c]
  try exact⟨rfl,rfl,rfl⟩
 simp(maxSteps:=9^9)(disch:=omega)only[ZZ,simprocAttr,rch,YaM,Qc7,ORB,grsI.ca,grB,Qar.c,grnI.H1,grX,grR,sub,ZaI,ZaV,hF,<-hw];refine⟨[],[(0,some 3),(1,some 4),(2,some 2)],⟨[(6,.own 0),(7,.ptr 2 0),(8,.im (.int .i64 w.2.2))],[(2,(true,.cells 36 [.own 1])),(0,(true,.arr 74 3 (w.1.map Opt.c))),(1,(true,.arr 105 3 (w.2.1.Tiles.map Qab.c)))],3⟩,?_,by simp[Qad.good,belT,belH,Qam,AV.bel,belL],by simp,?_⟩
 .simp only[subP];simp(maxSteps:=9^9)(disch:=omega)only[ZZ,simprocAttr,rch,YaM,Qc7,ORB,grsI.ca,grB,Qar.c,Zaf,Zae]
  try simp
 .simp(maxSteps:=9^9)(disch:=omega)only[ZZ,simprocAttr,rch,YaM,Qc7,ORB,grsI.ca,grB,Qar.c,grR,grsI.H1,<-hw,grX,Zaf,Zae]
  try simp
 simp[grsI.H1,grX] at hp;rcases hp with rfl|rfl
 .exact .inr ⟨by omega,by omega,rfl,rfl⟩
 .exact .inr ⟨by omega,by omega,rfl,rfl⟩
def schS_.fv(a:(List Int)):Bool:=(Qanv) a
def schS_.row:Row:=vK (b1 (qS Qb3 Qant)) rB (fun a=>True) schS_.fv
def schS_.q:=vKq (R:=schS_.row) rfl
theorem schS_.ok:Qas Tryz.prog 25 schS_.row:=by
 refine vw (tC l00In.ok tN) Tryz.func25 rfl (by kernel_rfl) ?_;intro a hpre;simp only[Tryz.f25,Option.getD];simp(maxSteps:=9^9)(disch:=omega)only[ZZ,simprocAttr,rch,schS_.fv,l00In.q,l00In.fv];intro _;by_cases c:a.length<=200
 case neg=>
  rw[Zao (by omega)];simp only[Qanv,Zdv c,Zbu]
 rw[Zai (by omega)];have hw:Qanv a= !a.any badS:=by simp only[Qanv,ZdT c,Zbf]
 rw[hw];refine Qay.old ⟨{k:Nat//k<=a.length/\(a.drop k).any badS=a.any badS},fun k=>⟨[(3,.im (.int .i64 k.1)),(2,.im (.bool false)),(0,.im (.sl false 1 (a.map intC)))],[],0⟩,fun k=>a.length - k.1,fun k=>⟨by simp[Qad.good,belT,belH,Qam,AV.bel,belL],by simp⟩,⟨⟨0,by simp⟩,by simp(maxSteps:=9^9)(disch:=omega)only[ZZ,simprocAttr,rch,schS_.fv,l00In.q,l00In.fv,sub]⟩,fun k=> ?_⟩;obtain⟨k,hk1,hk2⟩:=k;simp(maxSteps:=9^9)(disch:=omega)only[ZZ,simprocAttr,rch,schS_.fv,l00In.q,l00In.fv,sub,Qal];intro _;refine⟨fun hk=>⟨hk,fun x hx=> ?_⟩,fun hk=> ?_⟩
 .rw[Qd3 hx,List.any_cons] at hk2;refine⟨fun h=> ?_,fun h=>⟨⟨k+1,by omega,?_⟩,by simp only;omega,by rw[Qak (by omega) (by omega)];simp only;omega⟩⟩
  .have:badS x=true:=by simp only[badS,h];rfl
   rw[this,ZdI] at hk2;rw[<-hk2];rfl
  .have:badS x=false:=by simp only[badS];simpa using h
   rw[this,ZdK] at hk2;exact hk2
 .rw[Zaz (by omega)] at hk2;rw[<-hk2];rfl
def grwS_.fv(a:Qar×Asm×(List Int)×Int):(List Opt)×Asm×Bool×Int:=(fun s b l n=>grwX s l n.toNat b []) (a.1) (a.2.1) (a.2.2.1) (a.2.2.2)
def grwS_.row:Row:=vK (b4 (qP 4 Qar.d_le) (qP 1 Asm.d_le) (qS Qb3 Qant) qI) (r4 (rS Opt.d_le Opt.c_n) (rA Asm.d_le) rB rI) (fun a=>setP a.1.Set/\Qn7 a.1.Set a.2.1/\a.2.1.Tiles.length<=500/\a.1.Set.Tiles.length<=160/\Qanv a.2.2.1=true/\0<=a.2.2.2/\a.2.2.2<=500) grwS_.fv
def grwS_.q:=vKq (R:=grwS_.row) rfl
def YaN:=J @grwS_.fv.eq_1<|J @l03Own.q<|J @l03Own.fv.eq_1<|J @opsS_.q<|J @opsS_.fv.eq_1<|J @l08Attach.q @l08Attach.fv.eq_1
theorem grwS_.ok:Qas Tryz.prog 26 grwS_.row:=by
 refine vw (tC l03Own.ok (tC opsS_.ok (tC l08Attach.ok tN))) Tryz.func26 rfl (by kernel_rfl) ?_;intro a hpre;simp only[Tryz.f26,Option.getD];simp(maxSteps:=9^9)(disch:=omega)only[ZZ,simprocAttr,rch,YaN];obtain⟨s,b,l,n⟩:=a;obtain⟨h1,h2,h3,h4,h5,h6,h7⟩:=hpre;simp only at h1 h2 h3 h4 h5 h6 h7⊢;refine⟨by omega,?_⟩;refine Qay.ren ⟨{q:Asm×List Opt//q.2.length<=n.toNat/\Qn7 s.Set q.1/\q.1.Tiles.length<=500/\grwX s l (n.toNat - q.2.length) q.1 q.2=grwX s l n.toNat b []},fun q=>⟨[(13,.own 6),(12,.ptr 4 0),(11,.im (.int .i64 0)),(10,.im (.bool false)),(9,.ptr 3 0),(8,.own 2),(0,.ptr 0 0),(2,.im (.sl false 1 (l.map intC))),(3,.im (.int .i64 n))],[(6,(true,.arr 74 3 (q.1.2.map Opt.c))),(4,(true,.cells 36 [.im (.sl false 3 (q.1.1.Tiles.map Qab.c))])),(3,(true,.cells 36 [.im (.sl true 0 [])])),(2,(true,.arr 74 3 [])),(0,(false,.view (Qar.c s))),(1,(false,.view (Asm.c b)))],7⟩,fun q=>n.toNat - q.1.2.length,fun q=>⟨by simp[Qad.good,belT,belH,Qam,AV.bel,belL],by simp⟩,⟨⟨(b,[]),by simp only;exact⟨Zbc _,h2,h3,by rw[Zbz,Zdu]⟩⟩,[(6,some 5)],?_⟩,fun q=> ?_⟩
 .simp only[subP];simp(maxSteps:=9^9)(disch:=omega)only[ZZ,simprocAttr,rch,YaN,Zaf,Zae,ZaS]
  try simp
 obtain⟨⟨b1,d⟩,e1,e2,e3,e4⟩:=q;simp only at e1 e2 e3 e4;simp(maxSteps:=9^9)(disch:=omega)only[ZZ,simprocAttr,rch,YaN,sub,Qal];have hol:=Qal6 s e3 h4;have hX: ∀m,n.toNat - d.length=m+1-> ∀o,nxO s l b1 d.length=some o->grwX s l n.toNat b []=if 500<=b1.Tiles.length then ([],⟨[]⟩,false,4) else grwX s l m (putA b1 o.At o.Tile) (d++[o]):=by
  intro m hm o ho;rw[<-e4,hm,grwX,ho]
 refine⟨⟨h1,e2,e3,by omega⟩,fun _=>⟨fun c1=> ?_,fun c1 _=>⟨fun c2=> ?_,fun c2 _=> ?_⟩⟩⟩
 .have hno:=Qanx (s:=s) (l:=l) (b:=b1) (k:=d.length)|>.2 (ZbT.1 (by omega))
  rw[<-e4];cases hm:n.toNat - d.length with
  |zero=>rw[grwX,hno];rfl
  |succ m=>rw[grwX,hno]
 .have hsm:(nxO s l b1 d.length).isNone=false:=by
   cases hq:nxO s l b1 d.length with
   |none=>exact absurd (by rw[Qanx.1 hq];rfl) c1
   |some o=>rfl
  rw[<-e4,show n.toNat - d.length=0 by omega,grwX,hsm]
 have hn:(0:Int)<(Qaj8 s b1).length:=by omega
 obtain⟨m,hm⟩: ∃m,n.toNat - d.length=m+1:=⟨n.toNat - d.length - 1,by omega⟩;have fin1: ∀o,nxO s l b1 d.length=some o-> ¬(attA b1 o).2=0->([],(⟨[]⟩:Asm),false,(attA b1 o).2)=grwX s l n.toNat b []:=fun o ho h=>by
  rw[hX m hm o ho];simp only[attA] at h⊢;split at h
  .rename_i c;rw[Zao c,Zao c]
  .simp at h
 have fin2: ∀o,nxO s l b1 d.length=some o->(attA b1 o).2=0->b1.Tiles.length<500/\(attA b1 o).1=putA b1 o.At o.Tile/\Qn7 s.Set (putA b1 o.At o.Tile)/\grwX s l (n.toNat - (d++[o]).length) (putA b1 o.At o.Tile) (d++[o])=grwX s l n.toNat b []:=fun o ho h=>by
  rw[hX m hm o ho];simp only[attA] at h⊢;split at h
  .simp at h
  .rename_i c;rw[Zai c,Zai c,show n.toNat - (d++[o]).length=m by simp;omega];exact⟨by omega,rfl,can_in h4 e2 (Qan2 e2 ho),rfl⟩
 have key: ∀i:Nat,i=schN l (Qaj8 s b1).length d.length->nxO s l b1 d.length=(Qaj8 s b1)[i]? :=fun i hi=>by rw[hi];rfl
 refine⟨fun c3 _ _=>⟨by omega,Zee _ (by omega),ZdM _ (by omega),fun x hx _=> ?_⟩,fun c3=> ?_⟩
 .have hx0:=Qaoc h5 (Zac hx);have e5:(x.tmod (Qaj8 s b1).length).toNat=schN l (Qaj8 s b1).length d.length:=by
   rw[Zcf (by omega),<-Int.natCast_emod,Zak] at hx;simp only[schN];rw[Zai (by omega),hx,Zag,Zcf hx0.1]
  refine⟨c1,Zee _ hx0.1,ZdM _ hn,fun o ho=> ?_⟩;have hnx:=(key _ e5).trans ho;refine⟨fin1 o hnx,fun c4=>⟨Zee _ hx0.1,ZdM _ hn,fun o2 ho2=> ?_⟩⟩;obtain rfl:o=o2:=Zaa (ho.symm.trans ho2);obtain⟨f1,f2,f3,f4⟩:=fin2 o hnx (Decidable.not_not.1 c4);refine⟨by simp[OneR,allD,D.one],by omega,⟨(putA b1 o.At o.Tile,d++[o]),by simp only;exact⟨by simp;omega,f3,by rw[Qanu];omega,f4⟩⟩,[(6,some 9)],by simp;omega,?_⟩;simp only[subP,f2];simp(maxSteps:=9^9)(disch:=omega)only[ZZ,simprocAttr,rch,YaN,Zaf,Zae];simp[Opt.c]
 .have e5:0=schN l (Qaj8 s b1).length d.length:=by
   simp only[schN];rw[Zao (by omega)]
  refine⟨hn,fun o ho=> ?_⟩;have hnx:=(key _ e5).trans ho;refine⟨fin1 o hnx,fun c4=>⟨hn,fun o2 ho2=> ?_⟩⟩;obtain rfl:o=o2:=Zaa (ho.symm.trans ho2);obtain⟨f1,f2,f3,f4⟩:=fin2 o hnx (Decidable.not_not.1 c4);refine⟨by simp[OneR,allD,D.one],by omega,⟨(putA b1 o.At o.Tile,d++[o]),by simp only;exact⟨by simp;omega,f3,by rw[Qanu];omega,f4⟩⟩,[(6,some 9)],by simp;omega,?_⟩;simp only[subP,f2];simp(maxSteps:=9^9)(disch:=omega)only[ZZ,simprocAttr,rch,YaN,Zaf,Zae];simp[Opt.c]
theorem sch_pre{s:Qar}(c1: ¬Qjc s=false):setP s.Set/\Qn7 s.Set s.Seed/\s.Seed.Tiles.length<=500/\s.Set.Tiles.length<=160:=by
 rw[ZbG] at c1;obtain⟨⟨q1,q2,q3,_⟩,_,q6⟩:=Qacj c1;exact⟨q1,q2,(Qdg q6).2,q3⟩
def GrwNS_.fv(a:Qar×(List Int)×Int):(List Opt)×Asm×Int:=(gwN) (a.1) (a.2.1) (a.2.2)
def GrwNS_.row:Row:=vK (b3 (qR Qar.d_le) (qS Qb3 Qant) qI) (r3 (rS Opt.d_le Opt.c_n) (rA Asm.d_le) rI) (fun a=>True) GrwNS_.fv
def GrwNS_.q:=vKq (R:=GrwNS_.row) rfl
theorem GrwNS_.ok:Qas Tryz.prog 20 GrwNS_.row:=by
 refine vw (tC l08Ok.ok (tC schS_.ok (tC l00In.ok (tC grwS_.ok tN)))) Tryz.func20 rfl (by kernel_rfl) ?_;intro a hpre;simp only[Tryz.f20,Option.getD];simp(maxSteps:=9^9)(disch:=omega)only[ZZ,simprocAttr,rch,GrwNS_.fv,l08Ok.q,l08Ok.fv,schS_.q,schS_.fv,l00In.q,l00In.fv,grwS_.q,grwS_.fv];obtain⟨s,l,n⟩:=a;simp only[gwN];by_cases c1:Qjc s=false
 .rw[Zao c1,Zao c1]
 rw[Zai c1,Zai c1];by_cases c2:Qanv l=true
 case neg=>
  rw[Zai c2,Zao (.inl (by simpa using c2))]
 rw[Zao c2];by_cases c3:Qau n 0 500=false
 .rw[Zao c3,Zao (.inr c3)]
 rw[Zai c3,Zai (fun h=>h.elim (fun h=>by rw[c2] at h;cases h) c3)];obtain⟨q1,q2,q3,q4⟩:=sch_pre c1;have c4:0<=n/\n<=500:=by simpa[Qau] using c3
 exact⟨⟨q1,q2,q3,q4,c2,c4⟩,grwX_eq n.toNat s.Seed []⟩
theorem Qado(l:List Int)(i:Nat)(x:Int):(l.map intC).set i [.int .i64 x]=(l.set i x).map intC:=by rw[Zcz];rfl
def mkI(k:Int)(n:Nat):List Int:=(List.range n).map fun (i:Nat)=>k+(i:Int)
theorem Qad6(k:Int)(n:Nat):(mkI k n).length=n:=by simp[mkI]
theorem mkI_succ(k:Int)(n:Nat):mkI k (n+1)=mkI k n++[k+(n:Int)]:=by simp[mkI,Zds]
def mkTo(k:Int)(l:List Int)(i:Nat):List Int:=mkI k i++l.drop i
theorem mkTo_len{k:Int}{l:List Int}{i:Nat}(h:i<=l.length):(mkTo k l i).length=l.length:=by simp[mkTo,Qad6];omega
theorem mkTo_set{k:Int}{l:List Int}{i:Nat}(h:i<l.length):(mkTo k l i).set i (k+(i:Int))=mkTo k l (i+1):=by
 have hd:l.drop i=l[i]::l.drop (i+1):=by rw[ZbJ h]
 rw[mkTo,ZcX _ _ (by rw[Qad6];omega),Qad6,hd,Zcc,ZcH,mkTo,mkI_succ];simp
theorem mkTo_end{k:Int}{l:List Int}{i:Nat}(h:i=l.length):mkTo k l i=mkI k l.length:=by
 subst h;simp[mkTo]
def mkIC.ca(a:List Int×Int):List AV:=[.own 0,.im (.int .i64 a.2)]
def mkIC.H0(a:List Int×Int):Qan:=[(0,(true,.arr 2 1 (a.1.map intC)))]
def mkIC.H1(a:List Int×Int):Qan:=[(0,(true,.arr 2 1 ((mkI a.2 a.1.length).map intC)))]
def mkIC.row:Row:=orow mkIC.ca mkIC.H0 1 (fun a=>0<=a.2/\a.2+a.1.length<=1099511627776) (fun j=>j==0) (fun a=> .im (.int .i64 (a.2+a.1.length))) mkIC.H1 0
theorem mkIC.ok:Qas Tryz.prog 15 mkIC.row:=by
 refine ow tN Tryz.func15 rfl (by kernel_rfl) (exB:=fun _=>false) (R:=fun a r=>r= .im (.int .i64 (a.2+a.1.length))) (fun _=>rfl)
  (fun a=>by simp[mkIC.ca,mkIC.H0,mkIC.H1,belL,AV.bel,belH,Qam,Qc2,AObj.nms,nmsL,AV.nms,domB,hget]) (fun a p hp=> ?_) (fun a r h=>by subst h;exact LeV.refl _) ?_
 rotate_left
 intro a hpre;simp only[Tryz.f15,Option.getD,mkIC.ca,mkIC.H0,mkIC.H1];simp(maxSteps:=9^9)(disch:=omega)only[ZZ,simprocAttr,rch,ORB,mkIC.ca,mkIC.H0,mkIC.H1];obtain⟨l,k⟩:=a;simp only at hpre⊢;obtain⟨h1,h2⟩:=hpre;refine Qay.old ⟨{i:Nat//i<=l.length},fun i=>⟨[(5,.im (.int .i64 i.1)),(4,.im (.int .i64 0)),(1,.im (.int .i64 (k+i.1))),(0,.own 0)],[(0,(true,.arr 2 1 ((mkTo k l i.1).map intC)))],1⟩,fun i=>l.length - i.1,fun i=>⟨by simp[Qad.good,belT,belH,Qam,AV.bel,belL],by simp⟩,⟨⟨0,by simp⟩,by simp(maxSteps:=9^9)(disch:=omega)only[ZZ,simprocAttr,rch,ORB,mkIC.ca,mkIC.H0,mkIC.H1,sub];simp[mkTo,mkI]⟩,fun i=> ?_⟩;obtain⟨i,hi1⟩:=i;have hml:=mkTo_len (k:=k) hi1;simp(maxSteps:=9^9)(disch:=omega)only[ZZ,simprocAttr,rch,ORB,mkIC.ca,mkIC.H0,mkIC.H1,sub,Qal,hml];intro _;refine⟨fun hi=>⟨hi,hi,fun x _=>⟨⟨i+1,by omega⟩,by simp only;omega,⟨?_,?_⟩,?_⟩⟩,fun hi=>⟨by omega,by rw[mkTo_end (by omega)]⟩⟩
 .rw[Qak (by omega) (by omega)];simp only;omega
 .rw[Qak (by omega) (by omega)];simp only;omega
 .rw[Qado,mkTo_set hi]
 simp[mkIC.H1] at hp;subst hp;exact .inl ⟨by omega,rfl,rfl⟩
def digK(n:Nat):ByteArray:=if h:n=0 then ByteArray.empty else digK (n/10)++strI [IntKind.u8.wrap (48+((n % 10:Nat):Int))] termination_by n
def mkTx(k:Int):ByteArray:=if k<=0 then "m0".toUTF8 else "m".toUTF8++digK k.toNat
def mkText.fv(a:Int):ByteArray:=(mkTx) a
def mkText.row:Row:=vK (b1 qI) rT (fun a=>a<=1099511627776) mkText.fv
def mkText.q:=vKq (R:=mkText.row) rfl
theorem mkText.ok:Qas Tryz.prog 92 mkText.row:=by
 refine vw tN Tryz.func92 rfl (by kernel_rfl) ?_;intro a hpre;simp only[Tryz.f92,Option.getD];simp(maxSteps:=9^9)(disch:=omega)only[ZZ,simprocAttr,rch,mkText.fv];by_cases c0:a<=0
 .rw[Zao c0];simp only[mkTx];rw[Zao c0];rfl
 rw[Zai c0];have eR:mkTx a= "m".toUTF8++digK a.toNat:=by simp only[mkTx];rw[Zai c0]
 refine Qay.old ⟨{q:Nat×ByteArray//(q.1:Int)<=a/\digK a.toNat=digK q.1++q.2/\q.2.size+q.1<=a.toNat},fun q=>⟨[(3,.im (.str q.1.2)),(0,.im (.int .i64 q.1.1))],[],0⟩,fun q=>q.1.1,fun q=>⟨by simp[Qad.good,belT,belH,Qam,AV.bel,belL],by simp⟩,⟨⟨(a.toNat,ByteArray.empty),by simp only;exact⟨by omega,by simp,by simp⟩⟩,by simp(maxSteps:=9^9)(disch:=omega)only[ZZ,simprocAttr,rch,mkText.fv,sub];exact⟨rfl,by omega⟩⟩,fun q=> ?_⟩;obtain⟨⟨q,out⟩,hq1,hq2,hq3⟩:=q;simp only at hq1 hq2 hq3;simp(maxSteps:=9^9)(disch:=omega)only[ZZ,simprocAttr,rch,mkText.fv,sub,Qal];refine⟨fun c1=> ?_,fun c1=> ?_⟩
 .have hq:q≠0:=by omega
  have e1:(q:Int).tmod 10=((q % 10:Nat):Int):=by rw[Zcf (by omega)];omega
  have e2:(q:Int).tdiv 10=((q/10:Nat):Int):=by rw[Zej (by omega)];omega
  have e3:IntKind.i64.wrap (48+(q:Int).tmod 10)=48+((q % 10:Nat):Int):=by rw[e1];exact Qak (by omega) (by omega)
  rw[e3,e2];have hs:({data:= #[UInt8.ofNat (IntKind.u8.wrap (48+((q % 10:Nat):Int))).toNat]}:ByteArray)=strI [IntKind.u8.wrap (48+((q % 10:Nat):Int))]:=rfl;have hz:(strI [IntKind.u8.wrap (48+((q % 10:Nat):Int))]).size=1:=rfl;rw[hs];refine⟨by omega,⟨(q/10,strI [IntKind.u8.wrap (48+((q % 10:Nat):Int))]++out),by simp only;omega,?_,?_⟩,by simp only;omega,rfl,by exact Qak (by omega) (by omega)⟩
  .simp only;rw[hq2,digK,dif_neg hq,ByteArray.append_assoc]
  .simp only[ByteArray.size_append,hz];omega
 .have hq:q=0:=by omega
  subst hq;refine⟨by show 1+out.size<=_;omega,?_⟩;rw[eR,hq2,digK,dif_pos rfl,ByteArray.empty_append];rfl
def wrL{A:Type}(f:Nat->A)(l:List A)(i:Nat):List A:=(List.range i).map f++l.drop i
theorem Qafc{A:Type}{f:Nat->A}{l:List A}{i:Nat}(h:i<=l.length):(wrL f l i).length=l.length:=by simp[wrL];omega
theorem Qaef{A:Type}(f:Nat->A)(l:List A):wrL f l 0=l:=by simp[wrL]
theorem Qaff{A:Type}{f:Nat->A}{l:List A}{i:Nat}(h:i<l.length):(wrL f l i).set i (f i)=wrL f l (i+1):=by
 have hd:l.drop i=l[i]::l.drop (i+1):=by rw[ZbJ h]
 have hl:((List.range i).map f).length=i:=by simp
 rw[wrL,ZcX _ _ (by rw[hl];omega),hl,hd,Zcc,ZcH,wrL,Zds];simp
def wrE{A:Type}(f:Nat->A)(n:Nat):List A:=(List.range n).map f
theorem Qafk{A:Type}{f:Nat->A}{l:List A}{i:Nat}(h:i=l.length):wrL f l i=wrE f l.length:=by
 subst h;simp[wrL,wrE]
def gF(k:Int)(i:Nat):Glue:=⟨mkTx (k+2*i),k+2*i+1⟩
def mkGC.ca(a:List Glue×Int):List AV:=[.own 0,.im (.int .i64 a.2)]
def mkGC.H0(a:List Glue×Int):Qan:=[(0,(true,.arr 116 2 (a.1.map Glue.c)))]
def mkGC.H1(a:List Glue×Int):Qan:=[(0,(true,.arr 116 2 ((wrE (gF a.2) a.1.length).map Glue.c)))]
def mkGC.row:Row:=orow mkGC.ca mkGC.H0 1 (fun a=>0<=a.2/\a.2+2*a.1.length<=1099511627776) (fun j=>j==0) (fun a=> .im (.int .i64 (a.2+2*a.1.length))) mkGC.H1 0
def YaO:=J @mkText.q @mkText.fv.eq_1
theorem mkGC.ok:Qas Tryz.prog 63 mkGC.row:=by
 refine ow (tC mkText.ok tN) Tryz.func63 rfl (by kernel_rfl) (exB:=fun _=>false) (R:=fun a r=>r= .im (.int .i64 (a.2+2*a.1.length))) (fun _=>rfl)
  (fun a=>by simp[mkGC.ca,mkGC.H0,mkGC.H1,belL,AV.bel,belH,Qam,Qc2,AObj.nms,nmsL,AV.nms,domB,hget]) (fun a p hp=> ?_) (fun a r h=>by subst h;exact LeV.refl _) ?_
 rotate_left
 intro a hpre;simp only[Tryz.f63,Option.getD,mkGC.ca,mkGC.H0,mkGC.H1];simp(maxSteps:=9^9)(disch:=omega)only[ZZ,simprocAttr,rch,YaO,ORB,mkGC.ca,mkGC.H0,mkGC.H1];obtain⟨l,k⟩:=a;simp only at hpre⊢;obtain⟨h1,h2⟩:=hpre;refine Qay.old ⟨{i:Nat//i<=l.length},fun i=>⟨[(5,.im (.int .i64 i.1)),(4,.im (.int .i64 0)),(1,.im (.int .i64 (k+2*i.1))),(0,.own 0)],[(0,(true,.arr 116 2 ((wrL (gF k) l i.1).map Glue.c)))],1⟩,fun i=>l.length - i.1,fun i=>⟨by simp[Qad.good,belT,belH,Qam,AV.bel,belL],by simp⟩,⟨⟨0,by simp⟩,by simp(maxSteps:=9^9)(disch:=omega)only[ZZ,simprocAttr,rch,YaO,ORB,mkGC.ca,mkGC.H0,mkGC.H1,sub,Qaef];simp⟩,fun i=> ?_⟩;obtain⟨i,hi1⟩:=i;have hml:=Qafc (f:=gF k) hi1;simp(maxSteps:=9^9)(disch:=omega)only[ZZ,simprocAttr,rch,YaO,ORB,mkGC.ca,mkGC.H0,mkGC.H1,sub,Qal,hml];intro _;refine⟨fun hi=>⟨by omega,hi,hi,fun x hx=> ?_⟩,fun hi=> ?_⟩
 .have w1:IntKind.i64.wrap (k+2*(i:Int)+1)=k+2*(i:Int)+1:=Qak (by omega) (by omega);have hl2:i<(List.map Glue.c (wrL (gF k) l i)).length:=by rw[Zbp,hml];exact hi
  refine⟨by rw[ZaY];exact hl2,by rw[ZaY];exact hl2,Qi3 (Zau hl2) ?_⟩;simp(maxSteps:=9^9)(disch:=omega)only[ZZ,simprocAttr,rch,YaO,ORB,mkGC.ca,mkGC.H0,mkGC.H1,sub,w1,Zer];refine⟨⟨i+1,by omega⟩,by simp only;omega,⟨?_,?_⟩,?_⟩
  .rw[Qak (by omega) (by omega)];simp only;omega
  .rw[Qak (by omega) (by omega)];simp only;omega
  .simp only;rw[<-Qaff hi,Zcz];rfl
 .exact⟨by omega,by rw[Qafk (by omega)]⟩
 simp[mkGC.H1] at hp;subst hp;exact .inl ⟨by omega,rfl,rfl⟩
def pF(k:Int)(i:Nat):Qab:=⟨⟨k+3*i,k+3*i+1⟩,k+3*i+2⟩
def mkPC.ca(a:List Qab×Int):List AV:=[.own 0,.im (.int .i64 a.2)]
def mkPC.H0(a:List Qab×Int):Qan:=[(0,(true,.arr 105 3 (a.1.map Qab.c)))]
def mkPC.H1(a:List Qab×Int):Qan:=[(0,(true,.arr 105 3 ((wrE (pF a.2) a.1.length).map Qab.c)))]
def mkPC.row:Row:=orow mkPC.ca mkPC.H0 1 (fun a=>0<=a.2/\a.2+3*a.1.length<=1099511627776) (fun j=>j==0) (fun a=> .im (.int .i64 (a.2+3*a.1.length))) mkPC.H1 0
theorem mkPC.ok:Qas Tryz.prog 36 mkPC.row:=by
 refine ow tN Tryz.func36 rfl (by kernel_rfl) (exB:=fun _=>false) (R:=fun a r=>r= .im (.int .i64 (a.2+3*a.1.length))) (fun _=>rfl)
  (fun a=>by simp[mkPC.ca,mkPC.H0,mkPC.H1,belL,AV.bel,belH,Qam,Qc2,AObj.nms,nmsL,AV.nms,domB,hget]) (fun a p hp=> ?_) (fun a r h=>by subst h;exact LeV.refl _) ?_
 rotate_left
 intro a hpre;simp only[Tryz.f36,Option.getD,mkPC.ca,mkPC.H0,mkPC.H1];simp(maxSteps:=9^9)(disch:=omega)only[ZZ,simprocAttr,rch,ORB,mkPC.ca,mkPC.H0,mkPC.H1];obtain⟨l,k⟩:=a;simp only at hpre⊢;obtain⟨h1,h2⟩:=hpre;refine Qay.old ⟨{i:Nat//i<=l.length},fun i=>⟨[(5,.im (.int .i64 i.1)),(4,.im (.int .i64 0)),(1,.im (.int .i64 (k+3*i.1))),(0,.own 0)],[(0,(true,.arr 105 3 ((wrL (pF k) l i.1).map Qab.c)))],1⟩,fun i=>l.length - i.1,fun i=>⟨by simp[Qad.good,belT,belH,Qam,AV.bel,belL],by simp⟩,⟨⟨0,by simp⟩,by simp(maxSteps:=9^9)(disch:=omega)only[ZZ,simprocAttr,rch,ORB,mkPC.ca,mkPC.H0,mkPC.H1,sub,Qaef];simp⟩,fun i=> ?_⟩;obtain⟨i,hi1⟩:=i;have hml:=Qafc (f:=pF k) hi1;simp(maxSteps:=9^9)(disch:=omega)only[ZZ,simprocAttr,rch,ORB,mkPC.ca,mkPC.H0,mkPC.H1,sub,Qal,hml];intro _;refine⟨fun hi=>⟨hi,hi,fun x hx=> ?_⟩,fun hi=> ?_⟩
 .have w1:IntKind.i64.wrap (k+3*(i:Int)+1)=k+3*(i:Int)+1:=Qak (by omega) (by omega);have w2:IntKind.i64.wrap (k+3*(i:Int)+1+1)=k+3*(i:Int)+2:=(Qak (by omega) (by omega)).trans (by omega);have hl2:i<(List.map Qab.c (wrL (pF k) l i)).length:=by rw[Zbp,hml];exact hi
  simp only[w1,w2];refine⟨by rw[ZaY];exact hl2,by rw[ZaY];exact hl2,Qi3 (Zau hl2) ?_⟩;simp(maxSteps:=9^9)(disch:=omega)only[ZZ,simprocAttr,rch,ORB,mkPC.ca,mkPC.H0,mkPC.H1,sub,w1,w2,Zer];refine⟨by rw[ZaY];exact hl2,by rw[ZaY];exact hl2,Qi3 (Zau hl2) ?_⟩;simp(maxSteps:=9^9)(disch:=omega)only[ZZ,simprocAttr,rch,ORB,mkPC.ca,mkPC.H0,mkPC.H1,sub,w1,w2,Zer];refine⟨⟨i+1,by omega⟩,by simp only;omega,⟨?_,?_⟩,?_⟩
  .rw[Qak (by omega) (by omega)];simp only;omega
  .rw[Qak (by omega) (by omega)];simp only;omega
  .simp only;rw[<-Qaff hi,Zcz];rfl
 .exact⟨by omega,by rw[Qafk (by omega)]⟩
 simp[mkPC.H1] at hp;subst hp;exact .inl ⟨by omega,rfl,rfl⟩
def oF(k:Int)(i:Nat):Opt:=⟨⟨k+3*i,k+3*i+1⟩,k+3*i+2⟩
def mkOC.ca(a:List Opt×Int):List AV:=[.own 0,.im (.int .i64 a.2)]
def mkOC.H0(a:List Opt×Int):Qan:=[(0,(true,.arr 74 3 (a.1.map Opt.c)))]
def mkOC.H1(a:List Opt×Int):Qan:=[(0,(true,.arr 74 3 ((wrE (oF a.2) a.1.length).map Opt.c)))]
def mkOC.row:Row:=orow mkOC.ca mkOC.H0 1 (fun a=>0<=a.2/\a.2+3*a.1.length<=1099511627776) (fun j=>j==0) (fun a=> .im (.int .i64 (a.2+3*a.1.length))) mkOC.H1 0
theorem mkOC.ok:Qas Tryz.prog 16 mkOC.row:=by
 refine ow tN Tryz.func16 rfl (by kernel_rfl) (exB:=fun _=>false) (R:=fun a r=>r= .im (.int .i64 (a.2+3*a.1.length))) (fun _=>rfl)
  (fun a=>by simp[mkOC.ca,mkOC.H0,mkOC.H1,belL,AV.bel,belH,Qam,Qc2,AObj.nms,nmsL,AV.nms,domB,hget]) (fun a p hp=> ?_) (fun a r h=>by subst h;exact LeV.refl _) ?_
 rotate_left
 intro a hpre;simp only[Tryz.f16,Option.getD,mkOC.ca,mkOC.H0,mkOC.H1];simp(maxSteps:=9^9)(disch:=omega)only[ZZ,simprocAttr,rch,ORB,mkOC.ca,mkOC.H0,mkOC.H1];obtain⟨l,k⟩:=a;simp only at hpre⊢;obtain⟨h1,h2⟩:=hpre;refine Qay.old ⟨{i:Nat//i<=l.length},fun i=>⟨[(5,.im (.int .i64 i.1)),(4,.im (.int .i64 0)),(1,.im (.int .i64 (k+3*i.1))),(0,.own 0)],[(0,(true,.arr 74 3 ((wrL (oF k) l i.1).map Opt.c)))],1⟩,fun i=>l.length - i.1,fun i=>⟨by simp[Qad.good,belT,belH,Qam,AV.bel,belL],by simp⟩,⟨⟨0,by simp⟩,by simp(maxSteps:=9^9)(disch:=omega)only[ZZ,simprocAttr,rch,ORB,mkOC.ca,mkOC.H0,mkOC.H1,sub,Qaef];simp⟩,fun i=> ?_⟩;obtain⟨i,hi1⟩:=i;have hml:=Qafc (f:=oF k) hi1;simp(maxSteps:=9^9)(disch:=omega)only[ZZ,simprocAttr,rch,ORB,mkOC.ca,mkOC.H0,mkOC.H1,sub,Qal,hml];intro _;refine⟨fun hi=>⟨hi,hi,fun x hx=> ?_⟩,fun hi=> ?_⟩
 .have w1:IntKind.i64.wrap (k+3*(i:Int)+1)=k+3*(i:Int)+1:=Qak (by omega) (by omega);have w2:IntKind.i64.wrap (k+3*(i:Int)+1+1)=k+3*(i:Int)+2:=(Qak (by omega) (by omega)).trans (by omega);have hl2:i<(List.map Opt.c (wrL (oF k) l i)).length:=by rw[Zbp,hml];exact hi
  simp only[w1,w2];refine⟨by rw[ZaY];exact hl2,by rw[ZaY];exact hl2,Qi3 (Zau hl2) ?_⟩;simp(maxSteps:=9^9)(disch:=omega)only[ZZ,simprocAttr,rch,ORB,mkOC.ca,mkOC.H0,mkOC.H1,sub,w1,w2,Zer];refine⟨by rw[ZaY];exact hl2,by rw[ZaY];exact hl2,Qi3 (Zau hl2) ?_⟩;simp(maxSteps:=9^9)(disch:=omega)only[ZZ,simprocAttr,rch,ORB,mkOC.ca,mkOC.H0,mkOC.H1,sub,w1,w2,Zer];refine⟨⟨i+1,by omega⟩,by simp only;omega,⟨?_,?_⟩,?_⟩
  .rw[Qak (by omega) (by omega)];simp only;omega
  .rw[Qak (by omega) (by omega)];simp only;omega
  .simp only;rw[<-Qaff hi,Zcz];rfl
 .exact⟨by omega,by rw[Qafk (by omega)]⟩
 simp[mkOC.H1] at hp;subst hp;exact .inl ⟨by omega,rfl,rfl⟩
def toIX.ca(a:List Int):List AV:=[.im (.sl false 1 (a.map intC))]
def toIX.H1(a:List Int):Qan:=[(1,(true,.arr 2 1 (a.map intC)))]
def toIX.row:Row:=orow toIX.ca (fun _=>[]) 0 (fun a=>a.length<=1073741824) (fun _=>false) (fun _=> .own 1) toIX.H1 2
theorem toIX.ok:Qas Tryz.prog 8 toIX.row:=by
 refine ow tN Tryz.func8 rfl (by kernel_rfl) (exB:=fun j=>j==1) (R:=fun _ r=>r= .own 1) (fun _=>rfl)
  (fun a=>by simp[toIX.ca,toIX.H1,belL,AV.bel,belH,Qam,Qc2,AObj.nms,nmsL,AV.nms,domB,hget]) (fun a p hp=> ?_) (fun a r h=>by subst h;exact LeV.refl _) ?_
 rotate_left
 intro a hpre;simp only[Tryz.f8,Option.getD,toIX.ca,toIX.H1];simp(maxSteps:=9^9)(disch:=omega)only[ZZ,simprocAttr,rch,ORB,toIX.ca,toIX.H1];intro hlen;have hpl:a.length<=1073741824:=hpre;refine⟨by omega,?_⟩;refine Qay.old ⟨{k:Nat//k<=a.length},fun k=>⟨[(4,.im (.int .i64 k.1)),(3,.own 1),(0,.im (.sl false 1 (a.map intC)))],[(1,(true,.arr 2 1 ((a.take k.1).map intC++List.replicate (a.length - k.1) [.int .i64 0])))],2⟩,fun k=>a.length - k.1,fun k=>⟨by simp[Qad.good,belT,belH,Qam,AV.bel,belL],Zal _⟩,⟨⟨0,by omega⟩,by simp(maxSteps:=9^9)(disch:=omega)only[ZZ,simprocAttr,rch,ORB,toIX.ca,toIX.H1,sub];simp⟩,fun k=> ?_⟩;obtain⟨k,hk1⟩:=k;simp(maxSteps:=9^9)(disch:=omega)only[ZZ,simprocAttr,rch,ORB,toIX.ca,toIX.H1,sub,Qal,Qk2 _ _ a k hk1];intro _;refine⟨fun hk=> ?_,fun hk=> ?_⟩
 .refine⟨hk,fun x hx=>⟨hk,hk,Qi3 (Qj5 intC _ a k x hx) ?_⟩⟩;simp(maxSteps:=9^9)(disch:=omega)only[ZZ,simprocAttr,rch,ORB,toIX.ca,toIX.H1,sub];refine⟨⟨k+1,by omega⟩,by simp only;omega,?_,?_⟩
  .rw[Qak (by omega) (by omega)];simp only;omega
  .exact Qli intC _ a k x hx
 .rw[Qkp intC _ a k (by omega)]
  try trivial
 simp[toIX.H1] at hp;subst hp;exact .inr ⟨by omega,by omega,rfl,rfl⟩
def toGX.ca(a:List Glue):List AV:=[.im (.sl false 2 (a.map Glue.c))]
def toGX.H1(a:List Glue):Qan:=[(1,(true,.arr 116 2 (a.map Glue.c)))]
def toGX.row:Row:=orow toGX.ca (fun _=>[]) 0 (fun a=>a.length<=1073741824) (fun _=>false) (fun _=> .own 1) toGX.H1 2
def YaP:=J @toGlue.q @toGlue.fv.eq_1
theorem toGX.ok:Qas Tryz.prog 50 toGX.row:=by
 refine ow (tC toGlue.ok tN) Tryz.func50 rfl (by kernel_rfl) (exB:=fun j=>j==1) (R:=fun _ r=>r= .own 1) (fun _=>rfl)
  (fun a=>by simp[toGX.ca,toGX.H1,belL,AV.bel,belH,Qam,Qc2,AObj.nms,nmsL,AV.nms,domB,hget]) (fun a p hp=> ?_) (fun a r h=>by subst h;exact LeV.refl _) ?_
 rotate_left
 intro a hpre;simp only[Tryz.f50,Option.getD,toGX.ca,toGX.H1];simp(maxSteps:=9^9)(disch:=omega)only[ZZ,simprocAttr,rch,YaP,ORB,toGX.ca,toGX.H1];intro hlen;have hpl:a.length<=1073741824:=hpre;refine⟨by omega,?_⟩;refine Qay.old ⟨{k:Nat//k<=a.length},fun k=>⟨[(4,.im (.int .i64 k.1)),(3,.own 1),(0,.im (.sl false 2 (a.map Glue.c)))],[(1,(true,.arr 116 2 ((a.take k.1).map Glue.c++List.replicate (a.length - k.1) [.str ByteArray.empty,.int .i64 0])))],2⟩,fun k=>a.length - k.1,fun k=>⟨by simp[Qad.good,belT,belH,Qam,AV.bel,belL],Zal _⟩,⟨⟨0,by omega⟩,by simp(maxSteps:=9^9)(disch:=omega)only[ZZ,simprocAttr,rch,YaP,ORB,toGX.ca,toGX.H1,sub];simp⟩,fun k=> ?_⟩;obtain⟨k,hk1⟩:=k;simp(maxSteps:=9^9)(disch:=omega)only[ZZ,simprocAttr,rch,YaP,ORB,toGX.ca,toGX.H1,sub,Qal,Qk2 _ _ a k hk1];intro _;refine⟨fun hk=> ?_,fun hk=> ?_⟩
 .refine⟨hk,fun x hx=>⟨hk,hk,Qi3 (Qj5 Glue.c _ a k x hx) ?_⟩⟩;simp(maxSteps:=9^9)(disch:=omega)only[ZZ,simprocAttr,rch,YaP,ORB,toGX.ca,toGX.H1,sub];refine⟨⟨k+1,by omega⟩,by simp only;omega,?_,?_⟩
  .rw[Qak (by omega) (by omega)];simp only;omega
  .exact Qli Glue.c _ a k x hx
 .rw[Qkp Glue.c _ a k (by omega)]
  try trivial
 simp[toGX.H1] at hp;subst hp;exact .inr ⟨by omega,by omega,rfl,rfl⟩
def toPX.ca(a:List Qab):List AV:=[.im (.sl false 3 (a.map Qab.c))]
def toPX.H1(a:List Qab):Qan:=[(1,(true,.arr 105 3 (a.map Qab.c)))]
def toPX.row:Row:=orow toPX.ca (fun _=>[]) 0 (fun a=>a.length<=1073741824) (fun _=>false) (fun _=> .own 1) toPX.H1 2
def YaQ:=J @toPlaced.q @toPlaced.fv.eq_1
theorem toPX.ok:Qas Tryz.prog 52 toPX.row:=by
 refine ow (tC toPlaced.ok tN) Tryz.func52 rfl (by kernel_rfl) (exB:=fun j=>j==1) (R:=fun _ r=>r= .own 1) (fun _=>rfl)
  (fun a=>by simp[toPX.ca,toPX.H1,belL,AV.bel,belH,Qam,Qc2,AObj.nms,nmsL,AV.nms,domB,hget]) (fun a p hp=> ?_) (fun a r h=>by subst h;exact LeV.refl _) ?_
 rotate_left
 intro a hpre;simp only[Tryz.f52,Option.getD,toPX.ca,toPX.H1];simp(maxSteps:=9^9)(disch:=omega)only[ZZ,simprocAttr,rch,YaQ,ORB,toPX.ca,toPX.H1];intro hlen;have hpl:a.length<=1073741824:=hpre;refine⟨by omega,?_⟩;refine Qay.old ⟨{k:Nat//k<=a.length},fun k=>⟨[(4,.im (.int .i64 k.1)),(3,.own 1),(0,.im (.sl false 3 (a.map Qab.c)))],[(1,(true,.arr 105 3 ((a.take k.1).map Qab.c++List.replicate (a.length - k.1) [.int .i64 0,.int .i64 0,.int .i64 0])))],2⟩,fun k=>a.length - k.1,fun k=>⟨by simp[Qad.good,belT,belH,Qam,AV.bel,belL],Zal _⟩,⟨⟨0,by omega⟩,by simp(maxSteps:=9^9)(disch:=omega)only[ZZ,simprocAttr,rch,YaQ,ORB,toPX.ca,toPX.H1,sub];simp⟩,fun k=> ?_⟩;obtain⟨k,hk1⟩:=k;simp(maxSteps:=9^9)(disch:=omega)only[ZZ,simprocAttr,rch,YaQ,ORB,toPX.ca,toPX.H1,sub,Qal,Qk2 _ _ a k hk1];intro _;refine⟨fun hk=> ?_,fun hk=> ?_⟩
 .refine⟨hk,fun x hx=>⟨hk,hk,Qi3 (Qj5 Qab.c _ a k x hx) ?_⟩⟩;simp(maxSteps:=9^9)(disch:=omega)only[ZZ,simprocAttr,rch,YaQ,ORB,toPX.ca,toPX.H1,sub];refine⟨⟨k+1,by omega⟩,by simp only;omega,?_,?_⟩
  .rw[Qak (by omega) (by omega)];simp only;omega
  .exact Qli Qab.c _ a k x hx
 .rw[Qkp Qab.c _ a k (by omega)]
  try trivial
 simp[toPX.H1] at hp;subst hp;exact .inr ⟨by omega,by omega,rfl,rfl⟩
def toTX.ca(a:Tile):List AV:=[.im (.agg (Tile.c a))]
def toTX.r0(a:Tile):AV:= .agg [.im (.str a.Name),.own 4]
def toTX.H1(a:Tile):Qan:=[(4,(true,.arr 2 1 (a.Sides.map intC)))]
def toTX.row:Row:=orow toTX.ca (fun _=>[]) 0 (fun a=>a.Sides.length<=1073741824) (fun _=>false) toTX.r0 toTX.H1 5
theorem toTX.ok:Qas Tryz.prog 79 toTX.row:=by
 refine ow (tC toIX.ok tN) Tryz.func79 rfl (by kernel_rfl) (exB:=fun j=>j==4) (R:=fun a r=>r=toTX.r0 a) (fun _=>rfl)
  (fun a=>by simp[toTX.ca,toTX.H1,Tile.c,belL,AV.bel,belH,Qam,Qc2,AObj.nms,nmsL,AV.nms,domB,hget]) (fun a p hp=> ?_) (fun a r h=>by subst h;exact LeV.refl _) ?_
 rotate_left
 intro a hpre;simp only[Tryz.f79,Option.getD,toTX.ca,toTX.H1,Tile.c];simp(maxSteps:=9^9)(disch:=omega)only[ZZ,simprocAttr,rch,ORB,toTX.ca,toTX.H1,Tile.c];refine orow.os a.Sides [] hpre (fun j=>by simp[domB,hget]) rfl rfl ?_ ?_
 .simp(maxSteps:=9^9)(disch:=omega)only[ZZ,simprocAttr,rch,ORB,toTX.ca,toTX.H1,Tile.c,toIX.ca,Qer]
 simp(maxSteps:=9^9)(disch:=omega)only[ZZ,simprocAttr,rch,ORB,toTX.ca,toTX.H1,Tile.c,toIX.H1,sub,toTX.r0,ZaI,ZaV]
 skip
 simp[toTX.H1] at hp;subst hp;exact .inr ⟨by omega,by omega,rfl,rfl⟩
def tlF(a:List Tile)(i:Nat):Ent:=(true,.arr 2 1 (((a[i]?.map Tile.Sides).getD []).map intC))
def tlA(a:List Tile)(i:Nat):List AV:=[.im (.str ((a[i]?.map Tile.Name).getD ByteArray.empty)),.own (2+i)]
def tlZ:List AV:=[.im (.str ByteArray.empty),.im (.sl true 0 [])]
def tlR(a:List Tile)(k:Nat):List (List AV):=(List.range k).map (tlA a)++List.replicate (a.length - k) tlZ
theorem Qae9{a:List Tile}{k:Nat}(h:k<=a.length):(tlR a k).length=a.length:=by simp[tlR];omega
theorem tlR_lo{a:List Tile}{k i:Nat}(h:i<k):(tlR a k)[i]? =some (tlA a i):=by
 rw[tlR,ZaC (by simpa using h),ZaN,Zbo h];rfl
theorem tlR_hi{a:List Tile}{k i:Nat}(h:k<=i)(h2:i<a.length):(tlR a k)[i]? =some tlZ:=by
 rw[tlR,ZaG (by simpa using h),Zbr,Zao (by simp;omega)]
theorem tlR_bel(a:List Tile)(k N:Nat)(h:2+k<=N):(tlR a k).all (belL N)=true:=by
 rw[ZaK];intro r hr;rcases Zaq.1 hr with hr|hr
 .obtain⟨i,hi,rfl⟩:=Zaw.1 hr
  have:=Zat.1 hi
  simp[tlA,belL,AV.bel];omega
 .obtain rfl:=Zbt hr;simp[tlZ,belL,AV.bel]
theorem tlR_zero(a:List Tile):tlR a 0=imR (List.replicate a.length [.str ByteArray.empty,.sl true 0 []]):=by
 simp[tlR,imR,tlZ]
theorem Qadj(h:Nat->Option Ent)(F:AV->Option AV)(b:Nat)(f:Nat->Ent)(n:Nat)(H: ∀i,i<n->h (b+i)=some (f i))(hc: ∀i,i<n->cvtE F (f i).2=some (f i).2):Qhk h F (famH b n f):=by
 have: ∀(l:List Nat),(∀i∈l,i<n)->Qhk h F (l.map fun i=>(b+i,f i)):=by
  intro l;induction l with
  |nil=>intro _;simp[Qhk]
  |cons i r ih=>
   intro hl;simp only[Zap,Qhk];refine⟨?_,ih (fun j hj=>hl j (Zam _ hj))⟩;rw[H i (hl i (Zar ..))];exact⟨rfl,hc i (hl i (Zar ..))⟩
 exact this _ (fun i hi=>Zat.1 hi)
theorem tlR_cvt{h:Nat->Option Ent}{kx:Nat->Option Nat}{m:Nat}{a:List Tile}(hk: ∀i,i<a.length->kx (2+i)=some (2+i)):mapO (mapO (cvt h kx (m+1))) (tlR a a.length)=some (tlR a a.length):=by
 have e:tlR a a.length=(List.range a.length).map (tlA a):=by simp[tlR]
 rw[e];refine Qnl (g:=tlA a) (k:=tlA a) _ fun i hi=> ?_
 simp only[tlA,mapO,cvt,hk i (Zat.1 hi),kp]
def toLX.ca(a:List Tile):List AV:=[.im (.sl false 2 (a.map Tile.c))]
def toLX.H1(a:List Tile):Qan:=(1,(true,.arrA 119 2 (tlR a a.length)))::famH 2 (min a.length 1048576) (tlF a)
def toLX.pre(a:List Tile):Prop:=a.length<=1048576/\ ∀x∈a,x.Sides.length<=1073741824
def toLX.row:Row:=orow toLX.ca (fun _=>[]) 0 toLX.pre (fun _=>false) (fun _=> .own 1) toLX.H1 2000000
theorem toLX.ok:Qas Tryz.prog 51 toLX.row:=by
 refine ow (tC toTX.ok tN) Tryz.func51 rfl (by kernel_rfl) (exB:=fun j=>Nat.ble 1 j) (R:=fun _ r=>r= .own 1) (fun _=>rfl)
  (fun a=>by simp[toLX.ca,belL,AV.bel,belH,Qam,Qc2,AObj.nms,nmsL,AV.nms,domB,hget]) (fun a p hp=> ?_) (fun a r h=>by subst h;exact LeV.refl _) ?_
 rotate_left
 intro a hpre;simp only[Tryz.f51,Option.getD,toLX.ca];simp(maxSteps:=9^9)(disch:=omega)only[ZZ,simprocAttr,rch,ORB,toLX.ca];obtain⟨h1,h2⟩:=hpre;intro _;refine⟨by omega,?_⟩;refine Qay.ren ⟨{k:Nat//k<=a.length},fun k=>⟨[(4,.im (.int .i64 k.1)),(3,.own 1),(0,.im (.sl false 2 (a.map Tile.c)))],(1,(true,.arrA 119 2 (tlR a k.1)))::famH 2 k.1 (tlF a),2+a.length⟩,fun k=>a.length - k.1,fun k=>⟨?_,by simp⟩,⟨⟨0,by simp⟩,[],?_⟩,fun k=> ?_⟩
 .simp only[Qad.good,belT,belH,Qam,AV.bel,belL,ZaW,Zbf];rw[Qi1 _ _ _ (fun i=>by simp[belH,tlF]),Qd8 _ _ _ _ (by omega),tlR_bel _ _ _ (by omega)];simp
  try omega
 .simp only[subP,famH,ZeN,ZaS,tlR_zero];simp(maxSteps:=9^9)(disch:=omega)only[ZZ,simprocAttr,rch,ORB,toLX.ca,Zaf,Zae,Qsg]
  try simp
 .obtain⟨k,hk1⟩:=k;have hrl:=Qae9 (a:=a) hk1;simp(maxSteps:=9^9)(disch:=omega)only[ZZ,simprocAttr,rch,ORB,toLX.ca,sub,Qal,hrl,Qba];intro _;refine⟨fun hk=>⟨by omega,hk,fun x hx=> ?_⟩,fun hk=> ?_⟩
  .refine orow.os x [] (h2 x (Zac hx)) (fun j=>by simp[domB,hget]) rfl rfl ?_ ?_
   .simp(maxSteps:=9^9)(disch:=omega)only[ZZ,simprocAttr,rch,ORB,toLX.ca,toTX.ca,Qer,Tile.c]
   simp(maxSteps:=9^9)(disch:=omega)only[ZZ,simprocAttr,rch,ORB,toLX.ca,toTX.H1,toTX.r0,sub,Qal,hrl,Qba,Qjf,Qao,ZaI,ZaV];refine⟨⟨by omega,by omega,by omega⟩,hk,by omega,hk,Qi3 (tlR_hi (Zal _) hk) ?_⟩;simp only[tlZ];simp(maxSteps:=9^9)(disch:=omega)only[ZZ,simprocAttr,rch,ORB,toLX.ca,sub,Qal,hrl,Qba,Qjf,Qao,Qce];rw[Qadi 2 k (tlF a) [1] (by simp)];refine⟨⟨?_,by omega⟩,⟨k+1,by omega⟩,[(2+k,some (2+a.length+4))],by simp only;omega,?_⟩
   .rw[ZaK];intro r hr;rcases ZbV hr with hr|hr
    .exact ZaK.1 (tlR_bel a k _ (by omega)) r hr
    .subst hr;simp[belL,AV.bel]
   obtain⟨g,hg⟩: ∃g,g=pm [(2+k,some (2+a.length+4))]:=⟨_,rfl⟩;have qx:g (2+k)=some (2+a.length+4):=by rw[hg];simp[pm]
   have qo: ∀u,u≠2+k->g u=some u:=by intro u h;rw[hg];simp only[pm];rw[Zai (by omega)]
   have q1:pm [(2+k,some (2+a.length+4))] 1=some 1:=by rw[<-hg];exact qo 1 (by omega)
   have px_x:=qx;have px_o:=qo;rw[hg] at px_x px_o;refine⟨⟨by omega,trivial⟩,?_,?_,?_⟩
   .rw[Qi7,<-hg];simp only[Qg1,Qe0];refine Ql1 _ _ (Qet [1] 2 (k+1) (by simp) (by simp)) ?_;have hlt: ∀u∈[1]++(List.range (k+1)).map (2+ ·),u<2+a.length+1:=by
     intro u hu;rcases Zaq.1 hu with hu|hu
     .simp at hu;omega
     .obtain⟨i,hi,rfl⟩:=Zaw.1 hu
      have:=Zat.1 hi
      show 2+i<2+a.length+1;omega
    intro u hu v hv m hm1 hm2;have hu2:=hlt u hu;have hv2:=hlt v hv;by_cases e1:u=2+k<;>by_cases e2:v=2+k
    .omega
    .rw[e1,qx] at hm1;rw[qo v e2] at hm2;simp only[Zab] at hm1 hm2;omega
    .rw[qo u e1] at hm1;rw[e2,qx] at hm2;simp only[Zab] at hm1 hm2;omega
    .rw[qo u e1] at hm1;rw[qo v e2] at hm2;simp only[Zab] at hm1 hm2;omega
   .simp only[Qpt,tget];simp(maxSteps:=9^9)(disch:=omega)only[ZZ,simprocAttr,rch,ORB,toLX.ca,q1];rw[Qak (by omega) (by omega)];simp
   .simp only[Qgb,Qgn];refine⟨?_,fun i hi=> ?_⟩
    .simp(maxSteps:=9^9)(disch:=omega)only[ZZ,simprocAttr,rch,ORB,toLX.ca,q1];rw[Ql2];refine⟨by rw[ZaY,hrl,Qae9 (by omega)],fun i r1 r2 e1 e2=> ?_⟩;have hil:i<a.length:=by
      have:=(Zaj.1 e1).1
      rw[Qae9 (by omega)] at this;exact this
     by_cases hik:i=k
     .subst hik;rw[tlR_lo (by omega)] at e1;rw[Zau (by rw[hrl];exact hil)] at e2;obtain rfl:=Zaa e1;obtain rfl:=Zaa e2;simp only[tlA,hx,ZaO,Zag,mtL,mt,px_x,ownM,Zcg]
     .rw[ZaA (by omega)] at e2;by_cases hlt:i<k
      .rw[tlR_lo (by omega)] at e1 e2;obtain rfl:=Zaa e1;obtain rfl:=Zaa e2;simp only[tlA,mtL,mt,px_o (2+i) (by omega),ownM,Zcg]
      .rw[tlR_hi (by omega) hil] at e1 e2;obtain rfl:=Zaa e1;obtain rfl:=Zaa e2;simp only[tlZ,mtL,mt,Zcg]
    .show entN _ _ true (.arr 2 1 (((a[i]?.map Tile.Sides).getD []).map intC)) _;by_cases hik:i=k
     .subst hik;rw[px_x];simp(maxSteps:=9^9)(disch:=omega)only[ZZ,simprocAttr,rch,ORB,toLX.ca,hx,ZaO,Zag,Qao]
      try simp
     .rw[px_o (2+i) (by omega)];simp(maxSteps:=9^9)(disch:=omega)only[ZZ,simprocAttr,rch,ORB,toLX.ca,Qcy,Qao,Qjf,tlF]
      try simp
  .have hkl:k=a.length:=by omega
   subst hkl;refine⟨by omega,by omega,?_⟩;have hmin:min a.length 1048576=a.length:=by omega
   obtain⟨H,hH⟩: ∃H,H=hget ((1,(true,AObj.arrA 119 2 (tlR a a.length)))::famH 2 a.length (tlF a)):=⟨_,rfl⟩;rw[<-hH];have kx: ∀i,i<a.length->(kxB [] 0 2000000 fun j=>decide (1<=j)) (2+i)=some (2+i):=by
    intro i hi;have hb:(decide (1<=2+i) && (Nat.ble 0 (2+i) && Nat.blt (2+i) (0+2000000)))=true:=by
     simp only[Zah,Zay,Zco,ZbM];omega
    simp only[kxB,domB,hget,Zcx,ZdK,hb,Zba]
   have g1:H 1=some (true,.arrA 119 2 (tlR a a.length)):=by rw[hH];rfl
   simp only[toLX.H1,Qhk,hmin];refine⟨?_,Qadj _ _ _ _ _ (fun i hi=> ?_) (fun i hi=>rfl)⟩
   .rw[g1];exact⟨rfl,by simp only[cvtE];rw[tlR_cvt kx];rfl⟩
   .rw[hH];simp only[hget,Qao _ _ (show 1≠2+i by omega),ZaM];exact Qcy _ _ _ _ hi
 simp only[toLX.H1,Zas,famH,Zaw,Zat] at hp;rcases hp with rfl|⟨i,hi,rfl⟩
 .exact .inr ⟨by omega,by omega,rfl,rfl⟩
 .exact .inr ⟨by simp only;omega,by simp only;omega,by simp only[Zco];omega,rfl⟩
def tlB(b:Nat)(a:List Tile):List (List AV):=(List.range a.length).map fun i=>[.im (.str ((a[i]?.map Tile.Name).getD ByteArray.empty)),.own (b+i)]
theorem tlR_ren(σ:Nat->Nat)(b:Nat)(a:List Tile)(h: ∀i,i<a.length->σ (2+i)=b+i):(tlR a a.length).map (renL σ)=tlB b a:=by
 have e:tlR a a.length=(List.range a.length).map (tlA a):=by simp[tlR]
 rw[e,ZcO];refine ZbQ fun i hi=> ?_
 simp only[Function.comp,tlA,renL,AV.ren,h i (Zat.1 hi)]
theorem tlF_ren(σ:Nat->Nat)(b n:Nat)(a:List Tile)(h: ∀i,i<n->σ (2+i)=b+i):renH σ (famH 2 n (tlF a))=famH b n (tlF a):=by
 simp only[famH]
 have: ∀(l:List Nat),(∀i∈l,i<n)->renH σ (l.map fun i=>(2+i,tlF a i))=l.map fun i=>(b+i,tlF a i):=by
  intro l;induction l with
  |nil=>intro _;rfl
  |cons i r ih=>
   intro hl;have e:=ih (fun j hj=>hl j (Zam _ hj));simp only[Zap,renH,h i (hl i (Zar ..)),tlF,AObj.ren] at e⊢;rw[e]
 exact this _ (fun i hi=>Zat.1 hi)
theorem Qad3(k:List Nat)(nx cnt:Nat): ∀(H:Qan),(∀p∈H,nx<=p.1/\p.1<nx+cnt)->Qpx k nx cnt H=true
 |[],_=>rfl
 |(i,e)::r,h=>by
  have h1:=h (i,e) (Zar ..);simp only at h1;simp only[Qpx,Qafj,Qad3 k nx cnt r (fun p hp=>h p (Zam _ hp)),ZaW,ZbF,Zah,Zco,ZbM];exact .inl h1
theorem tlB_bel(b:Nat)(a:List Tile)(N:Nat)(h:b+a.length<=N):(tlB b a).all (belL N)=true:=by
 rw[ZaK];intro r hr;obtain⟨i,hi,rfl⟩:=Zaw.1 hr
 have:=Zat.1 hi
 simp[belL,AV.bel];omega
theorem toLX_ren{σ:Nat->Nat}{nx:Nat}(a:List Tile)(h: ∀j,σ j=nx+j):renH σ (toLX.H1 a)=(nx+1,(true,.arrA 119 2 (tlB (nx+2) a)))::famH (nx+2) (min a.length 1048576) (tlF a):=by
 simp only[toLX.H1,renH,AObj.ren];rw[tlR_ren σ (nx+2) a (fun i _=>by rw[h];omega),tlF_ren σ (nx+2) _ a (fun i _=>by rw[h];omega),h]
theorem Qads{b n:Nat}{f:Nat->Ent}{r:Qan}{m:Nat}(h:m<b):hget (famH b n f++r) m=hget r m:=by
 rw[Qol,Qmh _ _ _ _ (.inl h)];rfl
theorem Qaf5(ks:List Nat): ∀(a b:Qan),hdel (a++b) ks=hdel a ks++hdel b ks
 |[],b=>by simp[hdel]
 |(i,e)::r,b=>by
  simp only[ZaH,hdel,Qaf5 ks r b];cases ks.contains i<;>rfl
theorem Qad5{b n:Nat}{f:Nat->Ent}{r:Qan}{k:Nat}(h:k<b):hdel (famH b n f++r) [k]=famH b n f++hdel r [k]:=by
 rw[Qaf5,Qadi _ _ _ _ (fun x hx=>by rw[Zan] at hx;subst hx;exact .inl h)]
theorem tlB_cvt{h:Nat->Option Ent}{kx:Nat->Option Nat}{m b:Nat}{a:List Tile}(hk: ∀i,i<a.length->kx (b+i)=some (b+i)):mapO (mapO (cvt h kx (m+1))) (tlB b a)=some (tlB b a):=by
 refine Qnl (g:=fun i=>[AV.im (.str ((a[i]?.map Tile.Name).getD ByteArray.empty)),AV.own (b+i)]) (k:=fun i=>[AV.im (.str ((a[i]?.map Tile.Name).getD ByteArray.empty)),AV.own (b+i)]) _ fun i hi=> ?_
 simp only[mapO,cvt,hk i (Zat.1 hi),kp]
theorem kxB_ge{lo cnt m:Nat}(h1:lo<=m)(h2:m<cnt):(kxB [] 0 cnt fun j=>decide (lo<=j)) m=some m:=by
 have hb:(decide (lo<=m) && (Nat.ble 0 m && Nat.blt m (0+cnt)))=true:=by
  simp only[Zah,Zay,Zco,ZbM];omega
 simp only[kxB,domB,hget,Zcx,ZdK,hb,Zba]
def toSX.ca(a:Qaa):List AV:=[.im (.agg (Qaa.c a))]
def toSX.r0:AV:= .agg [.own 4,.own 6]
def toSX.H1(a:Qaa):Qan:=(4,(true,.arr 116 2 (a.Glues.map Glue.c)))::(6,(true,.arrA 119 2 (tlB 7 a.Tiles)))::famH 7 (min a.Tiles.length 1048576) (tlF a.Tiles)
def toSX.pre(a:Qaa):Prop:=a.Glues.length<=1073741824/\toLX.pre a.Tiles
def toSX.row:Row:=orow toSX.ca (fun _=>[]) 0 toSX.pre (fun _=>false) (fun _=>toSX.r0) toSX.H1 2000005
theorem toSX.ok:Qas Tryz.prog 27 toSX.row:=by
 refine ow (tC toGX.ok (tC toLX.ok tN)) Tryz.func27 rfl (by kernel_rfl) (exB:=fun j=>Nat.ble 4 j) (R:=fun _ r=>r=toSX.r0) (fun _=>rfl)
  (fun a=>by simp[toSX.ca,Qaa.c,belL,AV.bel,belH,Qam,Qc2,AObj.nms,nmsL,AV.nms,domB,hget]) (fun a p hp=> ?_) (fun a r h=>by subst h;exact LeV.refl _) ?_
 rotate_left
 intro a hpre;simp only[Tryz.f27,Option.getD,toSX.ca,Qaa.c];simp(maxSteps:=9^9)(disch:=omega)only[ZZ,simprocAttr,rch,ORB,toSX.ca,Qaa.c];obtain⟨h1,h2⟩:=hpre;refine orow.os a.Glues [] h1 (fun j=>by simp[domB,hget]) rfl rfl ?_ ?_
 .simp(maxSteps:=9^9)(disch:=omega)only[ZZ,simprocAttr,rch,ORB,toSX.ca,Qaa.c,toGX.ca,Qer]
 simp(maxSteps:=9^9)(disch:=omega)only[ZZ,simprocAttr,rch,ORB,toSX.ca,Qaa.c,toGX.H1,sub,ZaI,ZaV];refine orow.os a.Tiles [] h2 (fun j=>by simp[domB,hget]) rfl rfl ?_ ?_
 .simp(maxSteps:=9^9)(disch:=omega)only[ZZ,simprocAttr,rch,ORB,toSX.ca,Qaa.c,toLX.ca,Qer]
 have hσ: ∀j,sgx (osn []) 0 5 j=5+j:=fun j=>by simp[sgx]
 rw[toLX_ren a.Tiles hσ];obtain⟨h3,h4⟩:=h2;have hmin:min a.Tiles.length 1048576=a.Tiles.length:=by omega
 rw[hmin];simp only[kont,AV.ren,hσ];refine⟨?_,?_⟩
 .rw[Eff.ok_nr,Qad3 _ _ _ _ (fun p hp=> ?_)]
  .simp only[AV.bel,belH];rw[Qi1 _ _ _ (fun i=>by simp[belH,tlF]),tlB_bel _ _ _ (by omega)];simp
  .rcases Zas.1 hp with rfl|hp
   .exact⟨by simp only;omega,by simp only;omega⟩
   .obtain⟨i,hi,rfl⟩:=Zaw.1 hp
    have:=Zat.1 hi
    exact⟨by simp only;omega,by simp only;omega⟩
 simp(maxSteps:=9^9)(disch:=omega)only[ZZ,simprocAttr,rch,ORB,toSX.ca,Qaa.c,sub,Qba,toSX.r0,Qads,Qad5];obtain⟨H,hH⟩: ∃H,H=hget ((1,(true,AObj.cells 42 [AV.own 4,AV.own 6]))::(2,(true,AObj.cells 42 [AV.own 4,AV.own 6]))::(6,(true,AObj.arrA 119 2 (tlB 7 a.Tiles)))::
  (famH 7 a.Tiles.length (tlF a.Tiles)++[(4,(true,AObj.arr 116 2 (List.map Glue.c a.Glues))),(0,(true,AObj.cells 25 [AV.im (D.sl false 2 (List.map Glue.c a.Glues)),AV.im (D.sl false 2 (List.map Tile.c a.Tiles))]))])):=⟨_,rfl⟩
 rw[<-hH];have g4:H 4=some (true,.arr 116 2 (a.Glues.map Glue.c)):=by rw[hH];simp[hget,Qads]
 have g6:H 6=some (true,.arrA 119 2 (tlB 7 a.Tiles)):=by rw[hH];rfl
 have gf: ∀i,i<a.Tiles.length->H (7+i)=some (tlF a.Tiles i):=by
  intro i hi;rw[hH];simp only[hget,Qao _ _ (show 1≠7+i by omega),Qao _ _ (show 2≠7+i by omega),Qao _ _ (show 6≠7+i by omega),ZaM];rw[Qol,Qcy _ _ _ _ hi];rfl
 simp only[toSX.H1,Qhk,hmin];refine⟨?_,?_,Qadj _ _ _ _ _ gf (fun i hi=>rfl)⟩
 .rw[g4];exact⟨rfl,rfl⟩
 .rw[g6];exact⟨rfl,by simp only[cvtE];rw[tlB_cvt (fun i hi=>kxB_ge (by omega) (by omega))];rfl⟩
 simp only[toSX.H1,Zas,famH,Zaw,Zat] at hp;rcases hp with rfl|rfl|⟨i,hi,rfl⟩
 .exact .inr ⟨by omega,by simp only;omega,rfl,rfl⟩
 .exact .inr ⟨by omega,by simp only;omega,rfl,rfl⟩
 .exact .inr ⟨by simp only;omega,by simp only;omega,by simp only[Zco];omega,rfl⟩
def toAX.ca(a:Asm):List AV:=[.im (.agg (Asm.c a))]
def toAX.H1(a:Asm):Qan:=[(4,(true,.arr 105 3 (a.Tiles.map Qab.c)))]
def toAX.row:Row:=orow toAX.ca (fun _=>[]) 0 (fun a=>a.Tiles.length<=1073741824) (fun _=>false) (fun _=> .agg [.own 4]) toAX.H1 5
theorem toAX.ok:Qas Tryz.prog 28 toAX.row:=by
 refine ow (tC toPX.ok tN) Tryz.func28 rfl (by kernel_rfl) (exB:=fun j=>j==4) (R:=fun _ r=>r= .agg [.own 4]) (fun _=>rfl)
  (fun a=>by simp[toAX.ca,toAX.H1,Asm.c,belL,AV.bel,belH,Qam,Qc2,AObj.nms,nmsL,AV.nms,domB,hget]) (fun a p hp=> ?_) (fun a r h=>by subst h;exact LeV.refl _) ?_
 rotate_left
 intro a hpre;simp only[Tryz.f28,Option.getD,toAX.ca,toAX.H1,Asm.c];simp(maxSteps:=9^9)(disch:=omega)only[ZZ,simprocAttr,rch,ORB,toAX.ca,toAX.H1,Asm.c];refine orow.os a.Tiles [] hpre (fun j=>by simp[domB,hget]) rfl rfl ?_ ?_
 .simp(maxSteps:=9^9)(disch:=omega)only[ZZ,simprocAttr,rch,ORB,toAX.ca,toAX.H1,Asm.c,toPX.ca,Qer]
 simp(maxSteps:=9^9)(disch:=omega)only[ZZ,simprocAttr,rch,ORB,toAX.ca,toAX.H1,Asm.c,toPX.H1,sub,ZaI,ZaV]
 skip
 simp[toAX.H1] at hp;subst hp;exact .inr ⟨by omega,by omega,rfl,rfl⟩
theorem toSX_ren{σ:Nat->Nat}{nx:Nat}(a:Qaa)(h: ∀j,σ j=nx+j):renH σ (toSX.H1 a)=(nx+4,(true,.arr 116 2 (a.Glues.map Glue.c)))::(nx+6,(true,.arrA 119 2 (tlB (nx+7) a.Tiles)))::famH (nx+7) (min a.Tiles.length 1048576) (tlF a.Tiles):=by
 have e1:(tlB 7 a.Tiles).map (renL σ)=tlB (nx+7) a.Tiles:=by
  simp only[tlB,ZcO];refine ZbQ fun i hi=> ?_
  simp only[Function.comp,renL,AV.ren,h];rw[show nx+(7+i)=nx+7+i by omega]
 have e2: ∀n,renH σ (famH 7 n (tlF a.Tiles))=famH (nx+7) n (tlF a.Tiles):=by
  intro n;simp only[famH]
  have: ∀(l:List Nat),renH σ (l.map fun i=>(7+i,tlF a.Tiles i))=l.map fun i=>(nx+7+i,tlF a.Tiles i):=by
   intro l;induction l with
   |nil=>rfl
   |cons i r ih=>
    simp only[Zap,renH,h,tlF,AObj.ren] at ih⊢;rw[ih,show nx+(7+i)=nx+7+i by omega]
  exact this _
 simp only[toSX.H1,renH,AObj.ren,e1,e2,h]
def toYX.ca(a:Qar):List AV:=[.im (.agg (Qar.c a))]
def toYX.r0(a:Qar):AV:= .agg [.own 7,.own 9,.own 2000012,.im (.int .i64 a.Temperature)]
def toYX.H1(a:Qar):Qan:=(7,(true,.arr 116 2 (a.Set.Glues.map Glue.c)))::(9,(true,.arrA 119 2 (tlB 10 a.Set.Tiles)))::(2000012,(true,.arr 105 3 (a.Seed.Tiles.map Qab.c)))::famH 10 (min a.Set.Tiles.length 1048576) (tlF a.Set.Tiles)
def toYX.pre(a:Qar):Prop:=toSX.pre a.Set/\a.Seed.Tiles.length<=1073741824
def toYX.row:Row:=orow toYX.ca (fun _=>[]) 0 toYX.pre (fun _=>false) toYX.r0 toYX.H1 2000013
theorem toYX.ok:Qas Tryz.prog 7 toYX.row:=by
 refine ow (tC toSX.ok (tC toAX.ok tN)) Tryz.func7 rfl (by kernel_rfl) (exB:=fun j=>Nat.ble 7 j) (R:=fun a r=>r=toYX.r0 a) (fun _=>rfl)
  (fun a=>by simp[toYX.ca,Qar.c,belL,AV.bel,belH,Qam,Qc2,AObj.nms,nmsL,AV.nms,domB,hget]) (fun a p hp=> ?_) (fun a r h=>by subst h;exact LeV.refl _) ?_
 rotate_left
 intro a hpre;simp only[Tryz.f7,Option.getD,toYX.ca,Qar.c];simp(maxSteps:=9^9)(disch:=omega)only[ZZ,simprocAttr,rch,ORB,toYX.ca,Qar.c];obtain⟨h1,h2⟩:=hpre;refine orow.os a.Set [] h1 (fun j=>by simp[domB,hget]) rfl rfl ?_ ?_
 .simp(maxSteps:=9^9)(disch:=omega)only[ZZ,simprocAttr,rch,ORB,toYX.ca,Qar.c,toSX.ca,Qaa.c,Qer]
 have hσ: ∀j,sgx (osn []) 0 3 j=3+j:=fun j=>by simp[sgx]
 rw[toSX_ren a.Set hσ];obtain⟨h0,h3,h4⟩:=h1;have hmin:min a.Set.Tiles.length 1048576=a.Set.Tiles.length:=by omega
 rw[hmin];simp only[kont,toSX.r0,AV.ren,renL,hσ];refine⟨?_,?_⟩
 .rw[Eff.ok_nr,Qad3 _ _ _ _ (fun p hp=> ?_)]
  .simp only[AV.bel,belL,belH];rw[Qi1 _ _ _ (fun i=>by simp[belH,tlF]),tlB_bel _ _ _ (by omega)];simp
  .rcases Zas.1 hp with rfl|hp
   .exact⟨by simp only;omega,by simp only;omega⟩
   rcases Zas.1 hp with rfl|hp
   .exact⟨by simp only;omega,by simp only;omega⟩
   .obtain⟨i,hi,rfl⟩:=Zaw.1 hp
    have:=Zat.1 hi
    exact⟨by simp only;omega,by simp only;omega⟩
 simp(maxSteps:=9^9)(disch:=omega)only[ZZ,simprocAttr,rch,ORB,toYX.ca,Qar.c,sub,Qba,Qads,Qad5];refine orow.os a.Seed [] h2 (fun j=>by simp[domB,hget]) rfl rfl ?_ ?_
 .simp(maxSteps:=9^9)(disch:=omega)only[ZZ,simprocAttr,rch,ORB,toYX.ca,Qar.c,toAX.ca,Asm.c,Qer]
 simp(maxSteps:=9^9)(disch:=omega)only[ZZ,simprocAttr,rch,ORB,toYX.ca,Qar.c,toAX.H1,sub,Qba,Qads,Qad5,toYX.r0,ZaI,ZaV];obtain⟨H,hH⟩: ∃H,H=hget ((1,(true,AObj.cells 44 [AV.own 7,AV.own 9,AV.own 2000012,AV.im (D.int IntKind.i64 a.Temperature)]))::(2,(true,AObj.cells 44 [AV.own 7,AV.own 9,AV.own 2000012,AV.im (D.int IntKind.i64 a.Temperature)]))::
  (2000012,(true,AObj.arr 105 3 (List.map Qab.c a.Seed.Tiles)))::(7,(true,AObj.arr 116 2 (List.map Glue.c a.Set.Glues)))::(9,(true,AObj.arrA 119 2 (tlB 10 a.Set.Tiles)))::
  (famH 10 a.Set.Tiles.length (tlF a.Set.Tiles)++[(0,(true,AObj.cells 30 [AV.im (D.sl false 2 (List.map Glue.c a.Set.Glues)),AV.im (D.sl false 2 (List.map Tile.c a.Set.Tiles)),AV.im (D.sl false 3 (List.map Qab.c a.Seed.Tiles)),AV.im (D.int IntKind.i64 a.Temperature)]))])):=⟨_,rfl⟩
 rw[<-hH];have g7:H 7=some (true,.arr 116 2 (a.Set.Glues.map Glue.c)):=by rw[hH];rfl
 have g9:H 9=some (true,.arrA 119 2 (tlB 10 a.Set.Tiles)):=by rw[hH];rfl
 have gs:H 2000012=some (true,.arr 105 3 (a.Seed.Tiles.map Qab.c)):=by rw[hH];simp[hget]
 have gf: ∀i,i<a.Set.Tiles.length->H (10+i)=some (tlF a.Set.Tiles i):=by
  intro i hi;rw[hH];simp only[hget,Qao _ _ (show 1≠10+i by omega),Qao _ _ (show 2≠10+i by omega),Qao _ _ (show 2000012≠10+i by omega),Qao _ _ (show 7≠10+i by omega),Qao _ _ (show 9≠10+i by omega),ZaM];rw[Qol,Qcy _ _ _ _ hi];rfl
 simp only[toYX.H1,Qhk,hmin];refine⟨?_,?_,?_,Qadj _ _ _ _ _ gf (fun i hi=>rfl)⟩
 .rw[g7];exact⟨rfl,rfl⟩
 .rw[g9];exact⟨rfl,by simp only[cvtE];rw[tlB_cvt (fun i hi=>kxB_ge (by omega) (by omega))];rfl⟩
 .rw[gs];exact⟨rfl,rfl⟩
 simp only[toYX.H1,Zas,famH,Zaw,Zat] at hp;rcases hp with rfl|rfl|rfl|⟨i,hi,rfl⟩
 .exact .inr ⟨by omega,by simp only;omega,rfl,rfl⟩
 .exact .inr ⟨by omega,by simp only;omega,rfl,rfl⟩
 .exact .inr ⟨by omega,by simp only;omega,by simp only[Zco];omega,rfl⟩
 .exact .inr ⟨by simp only;omega,by simp only;omega,by simp only[Zco];omega,rfl⟩
def eqInt64SF.fv(a:(List Int)×(List Int)):Bool:=(fun a b=>decide (a=b)) (a.1) (a.2)
def eqInt64SF.row:Row:=vKF (b2 (qS Qb3 Qant) (qS Qb3 Qant)) rB (fun a=>True) eqInt64SF.fv
theorem eqInt64SF.ok:Qas Tryz.prog 13 eqInt64SF.row:=by
 refine vwF tN Tryz.func13 rfl (by kernel_rfl) ?_;intro a hpre;simp only[Tryz.f13,Option.getD];simp(maxSteps:=9^9)(disch:=omega)only[ZZ,simprocAttr,rch,eqInt64SF.fv,ORC,D.sc,D.scs,scL,decD];intro h1 h2;simp only[Qal];refine⟨fun hl=> ?_,fun hl=> ?_⟩
 .have:a.1≠a.2:=fun h=>hl (by rw[h])
  simp[this]
 have hl:a.1.length=a.2.length:=by omega
 refine Qay.old ⟨{k:Nat//k<=a.1.length/\a.1.take k=a.2.take k},fun k=>⟨[(5,.im (.int .i64 k.1)),(4,.im (.bool false)),(0,.im (.sl false 1 (a.1.map intC))),(1,.im (.sl false 1 (a.2.map intC)))],[],0⟩,fun k=>a.1.length - k.1,fun k=>⟨by simp[Qad.good,belT,belH,Qam,AV.bel,belL],Zal _⟩,⟨⟨0,by simp⟩,by simp(maxSteps:=9^9)(disch:=omega)only[ZZ,simprocAttr,rch,eqInt64SF.fv,ORC,D.sc,D.scs,scL,decD,sub]⟩,fun k=> ?_⟩;obtain⟨k,hk1,hk2⟩:=k;simp(maxSteps:=9^9)(disch:=omega)only[ZZ,simprocAttr,rch,eqInt64SF.fv,ORC,D.sc,D.scs,scL,decD,sub,Qal];intro _;refine⟨fun hk=>⟨hk,fun x hx=>⟨by omega,fun y hy=> ?_⟩⟩,fun hk=> ?_⟩
 .obtain⟨g1,g2⟩:=Qew hl hk1 hk2 hx hy;exact⟨fun h=>by simp[g2 h],fun h=>Qb6 hk h1 ⟨by omega,g1 (by simpa using h)⟩⟩
 .rw[ZaE (by omega),ZaE (by omega)] at hk2;simp[hk2]
def eqOptionSF.fv(a:(List Opt)×(List Opt)):Bool:=(fun a b=>decide (a=b)) (a.1) (a.2)
def eqOptionSF.row:Row:=vKF (b2 (qS Opt.d_le Opt.c_n) (qS Opt.d_le Opt.c_n)) rB (fun a=>True) eqOptionSF.fv
def YaR:=J @eqOptionSF.fv.eq_1 (J @eqOption.q @eqOption.fv.eq_1)
theorem eqOptionSF.ok:Qas Tryz.prog 10 eqOptionSF.row:=by
 refine vwF (tC eqOption.ok tN) Tryz.func10 rfl (by kernel_rfl) ?_;intro a hpre;simp only[Tryz.f10,Option.getD];simp(maxSteps:=9^9)(disch:=omega)only[ZZ,simprocAttr,rch,YaR,ORC,D.sc,D.scs,scL,decD];intro h1 h2;simp only[Qal];refine⟨fun hl=> ?_,fun hl=> ?_⟩
 .have:a.1≠a.2:=fun h=>hl (by rw[h])
  simp[this]
 have hl:a.1.length=a.2.length:=by omega
 refine Qay.old ⟨{k:Nat//k<=a.1.length/\a.1.take k=a.2.take k},fun k=>⟨[(5,.im (.int .i64 k.1)),(4,.im (.bool false)),(0,.im (.sl false 3 (a.1.map Opt.c))),(1,.im (.sl false 3 (a.2.map Opt.c)))],[],0⟩,fun k=>a.1.length - k.1,fun k=>⟨by simp[Qad.good,belT,belH,Qam,AV.bel,belL],Zal _⟩,⟨⟨0,by simp⟩,by simp(maxSteps:=9^9)(disch:=omega)only[ZZ,simprocAttr,rch,YaR,ORC,D.sc,D.scs,scL,decD,sub]⟩,fun k=> ?_⟩;obtain⟨k,hk1,hk2⟩:=k;simp(maxSteps:=9^9)(disch:=omega)only[ZZ,simprocAttr,rch,YaR,ORC,D.sc,D.scs,scL,decD,sub,Qal];intro _;refine⟨fun hk=>⟨hk,fun x hx=>⟨by omega,fun y hy=> ?_⟩⟩,fun hk=> ?_⟩
 .obtain⟨g1,g2⟩:=Qew hl hk1 hk2 hx hy;exact⟨fun h=>by simp[g2 (show x≠y from h)],fun h=>Qb6 hk h1 ⟨by omega,g1 (show x=y from Zbm.1 h)⟩⟩
 .rw[ZaE (by omega),ZaE (by omega)] at hk2;simp[hk2]
def eqSystemF.fv(a:Qar×Qar):Bool:=(fun a b=>decide (a=b)) (a.1) (a.2)
def eqSystemF.row:Row:=vKF (b2 (qR Qar.d_le) (qR Qar.d_le)) rB (fun a=>True) eqSystemF.fv
theorem eqSystemF.ok:Qas Tryz.prog 12 eqSystemF.row:=by
 refine vwF (tC eqTileSet.ok (tC eqAssembly.ok tN)) Tryz.func12 rfl (by kernel_rfl) ?_;intro a hpre;simp only[Tryz.f12,Option.getD];simp(maxSteps:=9^9)(disch:=omega)only[ZZ,simprocAttr,rch,eqSystemF.fv,eqTileSet.q,eqTileSet.fv,eqAssembly.q,eqAssembly.fv,ORC,D.sc,D.scs,scL,decD];obtain⟨⟨⟨x,x1⟩,⟨y⟩,u⟩,⟨⟨z,z1⟩,⟨w⟩,v⟩⟩:=a;simp only[Qar.mk.injEq,Qaa.mk.injEq,Asm.mk.injEq]
 grind
def mkAC.ca(a:Asm×Int):List AV:=[.agg [.own 0],.im (.int .i64 a.2)]
def mkAC.H0(a:Asm×Int):Qan:=[(0,(true,.arr 105 3 (a.1.Tiles.map Qab.c)))]
def mkAC.H1(a:Asm×Int):Qan:=[(0,(true,.arr 105 3 ((wrE (pF a.2) a.1.Tiles.length).map Qab.c)))]
def mkAC.row:Row:=orow mkAC.ca mkAC.H0 1 (fun a=>0<=a.2/\a.2+3*a.1.Tiles.length<=1099511627776) (fun j=>j==0) (fun a=> .im (.int .i64 (a.2+3*a.1.Tiles.length))) mkAC.H1 0
theorem mkAC.ok:Qas Tryz.prog 17 mkAC.row:=by
 refine ow (tC mkPC.ok tN) Tryz.func17 rfl (by kernel_rfl) (exB:=fun _=>false) (R:=fun a r=>r= .im (.int .i64 (a.2+3*a.1.Tiles.length))) (fun _=>rfl)
  (fun a=>by simp[mkAC.ca,mkAC.H0,mkAC.H1,belL,AV.bel,belH,Qam,Qc2,AObj.nms,nmsL,AV.nms,domB,hget]) (fun a p hp=> ?_) (fun a r h=>by subst h;exact LeV.refl _) ?_
 rotate_left
 intro a hpre;simp only[Tryz.f17,Option.getD,mkAC.ca,mkAC.H0,mkAC.H1];simp(maxSteps:=9^9)(disch:=omega)only[ZZ,simprocAttr,rch,ORB,mkAC.ca,mkAC.H0,mkAC.H1];refine orow.os (a.1.Tiles,a.2) [0] hpre (fun j=> ?_) rfl rfl ?_ ?_
 .simp only[domB,mkPC.H0,hget];by_cases hj:j=0
  .subst hj;simp
  .have:(0==j)=false:=by simpa using fun h=>hj h.symm
   rw[this];simp;omega
 .simp(maxSteps:=9^9)(disch:=omega)only[ZZ,simprocAttr,rch,ORB,mkAC.ca,mkAC.H0,mkAC.H1,mkPC.ca,mkPC.H0,Qer,ZaI]
  try exact⟨rfl,rfl⟩
 simp(maxSteps:=9^9)(disch:=omega)only[ZZ,simprocAttr,rch,ORB,mkAC.ca,mkAC.H0,mkAC.H1,mkPC.H1,sub,ZaI,ZaV]
 skip
 simp[mkAC.H1] at hp;subst hp;exact .inl ⟨by omega,rfl,rfl⟩
def nT(a:List Tile):Nat:=min a.length 1048576
def sdL(a:List Tile)(i:Nat):List Int:=(a[i]?.map Tile.Sides).getD []
def tlK(a:List Tile)(k:Int):Nat->Int
 |0=>k
 |i+1=>tlK a k i+1+(sdL a i).length
def tlM(a:List Tile)(k:Int)(i j:Nat):List AV:=if j<i then [.im (.str (mkTx (tlK a k j))),.own (2+j)] else tlA a j
def tlN(a:List Tile)(k:Int)(i j:Nat):Ent:=(true,.arr 2 1 ((if j<i then mkI (tlK a k j+1) (sdL a j).length else sdL a j).map intC))
def mkLH(a:List Tile)(k:Int)(i:Nat):Qan:=(0,(true,.arrA 119 2 ((List.range (nT a)).map (tlM a k i))))::famH 2 (nT a) (tlN a k i)
def mkLC.ca(a:List Tile×Int):List AV:=[.own 0,.im (.int .i64 a.2)]
def mkLC.H0(a:List Tile×Int):Qan:=mkLH a.1 a.2 0
def mkLC.H1(a:List Tile×Int):Qan:=mkLH a.1 a.2 (nT a.1)
def mkLC.r0(a:List Tile×Int):AV:= .im (.int .i64 (tlK a.1 a.2 a.1.length))
def mkLC.pre(a:List Tile×Int):Prop:=a.1.length<=1048576/\0<=a.2/\tlK a.1 a.2 a.1.length<=1099511627776
def mkLC.row:Row:=orow mkLC.ca mkLC.H0 2000000 mkLC.pre (fun _=>true) mkLC.r0 mkLC.H1 0
theorem Qad0(a:List Tile):nT a<=1048576:=ZcV _ _
theorem Qafd(a:List Tile)(k:Int)(i j N:Nat)(h:2+j<N):belL N (tlM a k i j)=true:=by
 simp only[tlM]
 split<;>simp[tlA,belL,AV.bel,h]
theorem Qae7(a:List Tile)(k:Int)(i j:Nat):nmsL (tlM a k i j)=[2+j]:=by
 simp only[tlM]
 split<;>simp[tlA,nmsL,AV.nms]
theorem Qafz(a:List Tile)(k:Int)(i N:Nat)(h:2+nT a<N):belH N (mkLH a k i)=true:=by
 simp only[mkLH,belH];rw[Qi1 _ _ _ (fun j=>by simp[belH,tlN]),ZaW,ZaK];intro r hr;obtain⟨j,hj,rfl⟩:=Zaw.1 hr;exact Qafd _ _ _ _ _ (by have:=Zat.1 hj;omega)
theorem mkLC.hbel(a:List Tile×Int):belL 2000000 (mkLC.ca a)=true:=by simp[mkLC.ca,belL,AV.bel]
theorem mkLC.hbH(a:List Tile×Int):belH 2000000 (mkLC.H0 a)=true:=Qafz _ _ _ _ (by have:=Qad0 a.1;omega)
theorem mkLC.hkH(a:List Tile×Int):Qam 2000000 (mkLC.H0 a)=true:=by
 simp only[mkLC.H0,mkLH,Qam];rw[Qd8 _ _ _ _ (by have:=Qad0 a.1;omega)];simp
theorem Qadg(a:List Tile)(k:Int)(i j:Nat):domB (mkLH a k i) j=true↔j=0\/(2<=j/\j<2+nT a):=by
 simp only[domB,mkLH,hget,Qm4];by_cases h0:j=0
 .subst h0;simp
 .have:(0==j)=false:=by simpa using fun h=>h0 h.symm
  rw[this];simp only[ZaM];split
  .rename_i h;simp[h]
  .rename_i h;simp[h0];omega
theorem mkLC.hnm(a:List Tile×Int):Qc2 (mkLC.H0 a) (mkLC.H0 a):=by
 simp only[mkLC.H0];have key: ∀m,(∃j,j<nT a.1/\m=2+j)->domB (mkLH a.1 a.2 0) m=true:=by
  rintro m ⟨j,hj,rfl⟩;exact (Qadg _ _ _ _).2 (.inr ⟨by omega,by omega⟩)
 conv=>arg 2;unfold mkLH
 simp only[Qc2];refine⟨fun m hm=> ?_,Qae1 fun i hi m hm=>by simp[tlN,AObj.nms] at hm⟩;simp only[AObj.nms] at hm;obtain⟨r,hr,hm⟩:=Qadc.1 hm;obtain⟨j,hj,rfl⟩:=Zaw.1 hr;rw[Qae7,Zan] at hm;exact key m ⟨j,Zat.1 hj,hm⟩
theorem tlK_b(a:List Tile)(k:Int)(h:0<=k): ∀i j,i<=j->0<=tlK a k i/\tlK a k i<=tlK a k j:=by
 have pos: ∀i,0<=tlK a k i:=by
  intro i;induction i with
  |zero=>exact h
  |succ i ih=>simp only[tlK];omega
 intro i j hij;refine⟨pos i,?_⟩;induction j with
 |zero=>have:i=0:=by omega
        subst this;exact ZcQ _
 |succ j ih=>
  by_cases c:i=j+1
  .subst c;exact ZcQ _
  .have:=ih (by omega)
   simp only[tlK];omega
theorem Qafp(s:Qad)(b n:Nat)(f:Nat->Ent):subH s (famH b n f)= ∀i,i<n->hget s.h (b+i)=some (f i):=by
 have: ∀(l:List Nat),subH s (l.map fun i=>(b+i,f i))↔ ∀i∈l,hget s.h (b+i)=some (f i):=by
  intro l;induction l with
  |nil=>simp[subH]
  |cons i r ih=>simp only[Zap,subH,ih,Zas,ZdZ]
 apply propext;rw[famH,this];simp only[Zat]
theorem Qaej(a:List Tile)(k:Int)(i j:Nat)(h:j<nT a):hget (mkLH a k i) (2+j)=some (tlN a k i j):=by
 simp only[mkLH,hget,Qao _ _ (show 0≠2+j by omega),ZaM];exact Qcy _ _ _ _ h
def YaS:=J @mkText.q @mkText.fv.eq_1
theorem mkLC.ok:Qas Tryz.prog 64 mkLC.row:=by
 refine ow (tC mkText.ok (tC mkIC.ok tN)) Tryz.func64 rfl (by kernel_rfl) (exB:=fun _=>false) (R:=fun a r=>r=mkLC.r0 a) (fun _=>rfl)
  (fun a=>⟨mkLC.hbel a,mkLC.hbH a,mkLC.hkH a,mkLC.hnm a⟩) (fun a p hp=> ?_) (fun a r h=>by subst h;exact LeV.refl _) ?_
 rotate_left
 intro a hpre;simp only[Tryz.f64,Option.getD,mkLC.ca];simp(maxSteps:=9^9)(disch:=omega)only[ZZ,simprocAttr,rch,YaS,ORB,mkLC.ca];obtain⟨l,k⟩:=a;obtain⟨h1,h2,h3⟩:=hpre;simp only at h1 h2 h3;have hn:nT l=l.length:=by simp only[nT];omega
 simp only[Qba,mkLC.H0,mkLC.H1];refine Qay.old ⟨{i:Nat//i<=l.length},fun i=>⟨[(5,.im (.int .i64 i.1)),(4,.im (.int .i64 0)),(0,.own 0),(1,.im (.int .i64 (tlK l k i.1)))],mkLH l k i.1,2000000⟩,fun i=>l.length - i.1,fun i=>⟨?_,by simp⟩,⟨⟨0,by simp⟩,?_⟩,fun i=> ?_⟩
 .simp only[Qad.good,belT,AV.bel,ZaW,Zbf];rw[Qafz _ _ _ _ (by omega)];simp only[mkLH,Qam];rw[Qd8 _ _ _ _ (by omega)];simp
 .simp only[sub];simp(maxSteps:=9^9)(disch:=omega)only[ZZ,simprocAttr,rch,YaS,ORB,mkLC.ca,sub,tlK]
  conv=>arg 2;unfold mkLH
  simp only[subH,Qafp];exact⟨rfl,fun j hj=>Qaej _ _ _ _ hj⟩
 .obtain⟨i,hi1⟩:=i;have hb:=tlK_b l k h2 i l.length hi1;have hrl:((List.range (nT l)).map (tlM l k i)).length=l.length:=by simp[hn]
  simp only[mkLH];simp(maxSteps:=9^9)(disch:=omega)only[ZZ,simprocAttr,rch,YaS,ORB,mkLC.ca,sub,Qal,hrl,Qba];intro _;refine⟨fun hi=>⟨by omega,hi,hi,fun x hx=> ?_⟩,fun hi=> ?_⟩
  .obtain rfl:i=x:=by
    rw[Zbo (by omega)] at hx;exact Zaa hx
   have em:tlM l k i i=[.im (.str ((l[i]?.map Tile.Name).getD ByteArray.empty)),.own (2+i)]:=by simp[tlM,tlA]
   have hset:((List.range (nT l)).map (tlM l k i)).set i [.im (.str (mkTx (tlK l k i))),.own (2+i)]=(List.range (nT l)).map (tlM l k (i+1)):=by
    apply ZbO;intro j;by_cases hj:i=j
    .subst hj;rw[Zau (by rw[hrl];exact hi),ZaN,Zbo (by omega)];simp[tlM]
    .rw[ZaA hj,ZaN,ZaN];cases hr:(List.range (nT l))[j]? with
     |none=>rfl
     |some y=>
      have hy:j=y:=by
       have hl:=(Zaj.1 hr).1;simp at hl;rw[Zbo hl] at hr;exact Zaa hr
      subst hy;simp only[ZaO,tlM];by_cases c:j<i
      .rw[Zao c,Zao (by omega)]
      .rw[Zai c,Zai (by omega)]
   rw[em];simp only[ZbW,ZbK];have hl2:i<((List.range (nT l)).map (tlM l k i)).length:=by rw[hrl];exact hi
   have hw:IntKind.i64.wrap (tlK l k i+1)=tlK l k i+1:=Qak (by omega) (by omega);refine⟨by simp,?_,by rw[ZaY];exact hl2,by rw[ZaY];exact hl2,Qi3 (Zau hl2) ?_⟩
   .rw[hset,ZaK];intro r hr;obtain⟨j,hj,rfl⟩:=Zaw.1 hr;exact Qafd _ _ _ _ _ (by have:=Zat.1 hj;omega)
   simp(maxSteps:=9^9)(disch:=omega)only[ZZ,simprocAttr,rch,YaS,ORB,mkLC.ca,sub,hset,hw];have hb2:=(tlK_b l k h2 (i+1) l.length hi).2;simp only[tlK] at hb2;refine⟨by omega,?_⟩;simp only[Qba];rw[Qadi 2 (nT l) (tlN l k i) [0] (by simp)];refine orow.os (sdL l i,tlK l k i+1) [2+i] ⟨by simp only;omega,by simp only;omega⟩ (fun j=> ?_) rfl ?_ ?_ ?_
   .simp only[domB,mkIC.H0,hget];by_cases hj:j=0
    .subst hj;simp
    .have:(0==j)=false:=by simpa using fun h=>hj h.symm
     rw[this];simp;omega
   .simp only[Qxw,ZaW,ZbM];omega
   .refine⟨by simp[mkIC.ca,renL,AV.ren,sgx,osn],?_,trivial⟩;have e:sgx (osn [2+i]) 1 2000000 0=2+i:=by simp[sgx,osn]
    rw[e]
    have:=Qaej l k i i (by omega)
    simp only[mkLH,tlN,hget,Qao _ _ (show 0≠2+i by omega),ZaM] at this;simp only[hget,Qao _ _ (show 0≠2+i by omega),ZaM];rw[Qcy _ _ _ _ (by omega)];simp[tlN,AObj.ren]
   simp(maxSteps:=9^9)(disch:=omega)only[ZZ,simprocAttr,rch,YaS,ORB,mkLC.ca,mkIC.H1,sub,Qba,Qao,Qjf,ZaI,tlK];refine⟨.inr (by omega),⟨i+1,by omega⟩,by simp only;omega,⟨by rw[Qak (by omega) (by omega)];simp only;omega,rfl⟩,rfl,?_⟩;rw[Qafp];intro j hj;by_cases hji:j=i
   .subst hji;simp[hget,tlN]
   .simp only[hget,Qao _ _ (show 2+i≠2+j by omega),Qao _ _ (show 0≠2+j by omega),ZaM];rw[Qce _ _ _ (by omega),Qcy _ _ _ _ hj];simp only[tlN];by_cases c:j<i
    .rw[Zao c,Zao (by omega)]
    .rw[Zai c,Zai (by omega)]
  .have hil:i=l.length:=by omega
   subst hil;have kx: ∀j,j<nT l->kxB ((0,(true,AObj.arrA 119 2 (List.map (tlM l k 0) (List.range (nT l)))))::famH 2 (nT l) (tlN l k 0)) 2000000 0 (fun _=>false) (2+j)=some (2+j):=by
    intro j hj
    have:=(Qadg l k 0 (2+j)).2 (.inr ⟨by omega,by omega⟩)
    simp only[mkLH] at this;simp only[kxB,this,ZdI,Zba]
   refine⟨?_,rfl,?_,?_⟩
   .have: ∀(h:Nat->Option Ent) (H:Qan),roB h (fun _=>true) H:=by
     intro h H;induction H with
     |nil=>trivial
     |cons x r ih=>obtain⟨j,e⟩:=x;exact⟨trivial,ih⟩
    exact this _ _
   .rw[show tlM l k (nT l)=tlM l k l.length by rw[hn]];rw[Qnl (g:=tlM l k l.length) (k:=tlM l k l.length) _ (fun j hj=> ?_)]
    .rfl
    .have hj':=Zat.1 hj;simp only[tlM,Zao (show j<l.length by omega),mapO,cvt,kx j hj',kp]
   .refine Qadj _ _ _ _ _ (fun j hj=> ?_) (fun j hj=>rfl);simp only[hget,Qao _ _ (show 0≠2+j by omega),ZaM];rw[Qcy _ _ _ _ hj,hn]
 refine .inl ?_;have hp2:p.1=0\/(2<=p.1/\p.1<2+nT a.1):=by
  simp only[mkLC.H1,mkLH,Zas,famH,Zaw,Zat] at hp;rcases hp with rfl|⟨j,hj,rfl⟩
  .exact .inl rfl
  .exact .inr ⟨by simp only;omega,by simp only;omega⟩
 have:=Qad0 a.1
 exact⟨by omega,rfl,(Qadg _ _ _ _).2 hp2⟩
theorem keysH_dom{H:Qan}{j:Nat}:j∈Qg1 H↔domB H j=true:=by
 induction H with
 |nil=>simp[Qg1,domB,hget]
 |cons e r ih=>
  obtain⟨i,e⟩:=e;simp only[Qg1,Zas,domB,hget];by_cases hij:i=j
  .subst hij;simp
  .have:(i==j)=false:=by simpa using hij
   rw[this];simp only[ZaM];exact⟨fun h=>ih.1 (h.resolve_left fun h=>hij h.symm),fun h=> .inr (ih.2 h)⟩
mutual
theorem Qadz{n:Nat}: ∀x:AV,(∀m∈x.nms,m<n)->x.bel n=true
 | .any,_=>rfl
 | .im _,_=>rfl
 | .agg cs,h=>by simp only[AV.nms] at h;simp only[AV.bel];exact Qada cs h
 | .tup cs,h=>by simp only[AV.nms] at h;simp only[AV.bel];exact Qada cs h
 | .ptr o _,h=>by simp only[AV.bel,ZbM];exact h o (by simp[AV.nms])
 | .eptr o _ _,h=>by simp only[AV.bel,ZbM];exact h o (by simp[AV.nms])
 | .own o,h=>by simp only[AV.bel,ZbM];exact h o (by simp[AV.nms])
 | .mp o,h=>by simp only[AV.bel,ZbM];exact h o (by simp[AV.nms])
 | .ch o,h=>by simp only[AV.bel,ZbM];exact h o (by simp[AV.nms])
 | .it o,h=>by simp only[AV.bel,ZbM];exact h o (by simp[AV.nms])
 | .osl o _ _,h=>by simp only[AV.bel,ZbM];exact h o (by simp[AV.nms])
 | .clo _ a c,h=>by
   simp only[AV.nms,Zaq] at h;simp only[AV.bel,Qada a fun m hm=>h m (.inl hm),Qada c fun m hm=>h m (.inr hm),Zdw]
theorem Qada{n:Nat}: ∀xs:List AV,(∀m∈nmsL xs,m<n)->belL n xs=true
 |[],_=>rfl
 |x::r,h=>by
  simp only[nmsL,Zaq] at h;simp only[belL,Qadz x fun m hm=>h m (.inl hm),Qada r fun m hm=>h m (.inr hm),Zdw]
end
theorem Qad4{n:Nat}: ∀H:Qan,(∀p∈H,∀m∈p.2.2.nms,m<n)->belH n H=true
 |[],_=>rfl
 |(i,(mu,e))::r,h=>by
  have h1:=h _ (Zar ..);have ih:=Qad4 r fun p hp=>h p (Zam _ hp)
  cases e with
  |cells T cs=>simp only[belH,ih,ZaW];exact Qada cs (by simpa[AObj.nms] using h1)
  |arrA T k rows=>
   simp only[belH,ih,ZaW,ZaK];refine fun q hq=>Qada q fun m hm=>h1 m ?_
   simp only[AObj.nms];exact Qadc.2 ⟨q,hq,hm⟩
  |_=>simp only[belH,ih]
mutual
theorem Qafi(σ:Nat->Nat): ∀x:AV,(x.ren σ).nms=x.nms.map σ
 | .any=>rfl
 | .im _=>rfl
 | .agg cs=>by simp only[AV.ren,AV.nms];exact Qadl σ cs
 | .tup cs=>by simp only[AV.ren,AV.nms];exact Qadl σ cs
 | .ptr o _=>rfl
 | .eptr o _ _=>rfl
 | .own o=>rfl
 | .mp o=>rfl
 | .ch o=>rfl
 | .it o=>rfl
 | .osl o _ _=>rfl
 | .clo _ a c=>by simp only[AV.ren,AV.nms,Qadl σ a,Qadl σ c,Zbv]
theorem Qadl(σ:Nat->Nat): ∀xs:List AV,nmsL (renL σ xs)=(nmsL xs).map σ
 |[]=>rfl
 |x::r=>by simp only[renL,nmsL,Qafi σ x,Qadl σ r,Zbv]
end
theorem Qafh(σ:Nat->Nat)(e:AObj): ∀m∈(e.ren σ).nms,∃j∈e.nms,m=σ j:=by
 intro m hm;cases e with
 |cells T cs=>
  simp only[AObj.ren,AObj.nms,Qadl,Zaw] at hm⊢;obtain⟨j,hj,rfl⟩:=hm;exact⟨j,hj,rfl⟩
 |arrA T k rows=>
  simp only[AObj.ren,AObj.nms] at hm⊢;obtain⟨r,hr,hm⟩:=Qadc.1 hm;obtain⟨q,hq,rfl⟩:=Zaw.1 hr;rw[Qadl,Zaw] at hm;obtain⟨j,hj,rfl⟩:=hm;exact⟨j,Qadc.2 ⟨q,hq,hj⟩,rfl⟩
 |_=>simp[AObj.ren,AObj.nms] at hm
theorem Qaf4{σ:Nat->Nat}{N:Nat}(H:Qan)(h: ∀p∈H,∀m∈p.2.2.nms,σ m<N):belH N (renH σ H)=true:=by
 refine Qad4 _ ?_;induction H with
 |nil=>intro p hp;cases hp
 |cons x r ih=>
  obtain⟨i,mu,e⟩:=x;intro p hp m hm;rcases Zas.1 hp with rfl|hp
  .obtain⟨j,hj,rfl⟩:=Qafh σ e m hm;exact h _ (Zar ..) j hj
  .exact ih (fun p hp=>h p (Zam _ hp)) p hp m hm
theorem orow.tau{A:Type}{ca:A->List AV}{H0:A->Qan}{k:Nat}{pre:A->Prop}{klB:Nat->Bool}{r0:A->AV}{H1:A->Qan}{args:List AV}{tm:List (Nat×AV)}{h:Qan}{nx:Nat}{dst:Option Nat}{go:Qad->Prop}(a:A)(τ:Nat->Nat)(hpre:pre a)(hkl: ∀j,domB (H0 a) j=true->klB j=true)
 (hd: ∀j,domB (H0 a) j=true->j<k/\τ j<nx)(hinj: ∀i j,domB (H0 a) i=true->domB (H0 a) j=true->τ i=τ j->i=j)
 (hcl: ∀p∈H1 a,domB (H0 a) p.1=true/\ ∀m∈p.2.2.nms,domB (H0 a) m=true)
 (hx:args=renL (sgx τ k nx) (ca a)/\Qer (hget h) (sgx τ k nx) (H0 a))
 (hb: ∀m∈(r0 a).nms,domB (H0 a) m=true)
 (hgo: ∀HH:Qan,(∀j e,hget (H1 a) j=some e->hget HH (τ j)=some (e.1,e.2.ren (sgx τ k nx)))->(∀m,(∀j,domB (H0 a) j=true->τ j≠m)->hget HH m=hget h m)->go ((⟨tm,HH,nx⟩:Qad).put dst ((r0 a).ren (sgx τ k nx)))):
 orow ca H0 k pre klB r0 H1 0 args (hget h) nx (kont go ⟨tm,h,nx⟩ dst):=by
 have hσ: ∀j,domB (H0 a) j=true->sgx τ k nx j=τ j:=fun j hj=>Zao (hd j hj).1
 have hi': ∀i j,domB (H0 a) i=true->domB (H0 a) j=true->sgx τ k nx i=sgx τ k nx j->i=j:=fun i j hi hj h=>hinj i j hi hj (by rwa [hσ i hi,hσ j hj] at h)
 have hmem: ∀m,m∈(Qg1 (H0 a)).map τ↔ ∃j,domB (H0 a) j=true/\τ j=m:=fun m=>by simp only[Zaw,keysH_dom]
 have hk1: ∀p∈H1 a,domB (H0 a) p.1=true:=fun p hp=>(hcl p hp).1
 refine⟨a,τ,(Qg1 (H0 a)).map τ,(Qg1 (H0 a)).map τ,hpre,hx.1,hx.2,⟨hinj,fun j hj=>(hd j hj).2,fun j hj=>(hmem _).2 ⟨j,hj,rfl⟩,fun m hm=> ?_,fun j hj _=>(hmem _).2 ⟨j,hj,rfl⟩⟩,?_⟩
 .obtain⟨j,hj,rfl⟩:=(hmem m).1 hm;exact⟨j,hj,hkl j hj,rfl⟩
 refine⟨?_,?_⟩
 .have hb2:((r0 a).ren (sgx τ k nx)).bel nx=true:=by
   refine Qadz _ fun m hm=> ?_
   rw[Qafi,Zaw] at hm;obtain⟨j,hj,rfl⟩:=hm;rw[hσ j (hb j hj)];exact (hd j (hb j hj)).2
  have hbE:belH nx (renH (sgx τ k nx) (H1 a))=true:=Qaf4 _ fun p hp m hm=>by
   have:=(hcl p hp).2 m hm
   rw[hσ m this];exact (hd m this).2
  rw[Eff.ok_nr,ZcE,hb2,hbE,Zbf,Zbf]
  have: ∀H:Qan,(∀p∈H,domB (H0 a) p.1=true)->Qpx ((Qg1 (H0 a)).map τ) nx 0 (renH (sgx τ k nx) H)=true:=by
   intro H;induction H with
   |nil=>intro _;rfl
   |cons e r ih=>
    obtain⟨i,mu,e⟩:=e;intro hp;have h1:=hp _ (Zar ..);simp only at h1;simp only[renH,Qpx,Qafj,Zah,ZbF,Zco,ZbM];refine⟨.inr ⟨?_,?_⟩,ih fun p h=>hp p (Zam _ h)⟩
    .rw[Zbh,hσ i h1];exact (hmem _).2 ⟨i,h1,rfl⟩
    .rw[hσ i h1];exact (hd i h1).2
  exact this _ hk1
 rw[Qad.app_nr,ZcE];refine hgo _ (fun j e he=> ?_) (fun m hm=> ?_)
 .have hj:domB (H0 a) j=true:=by
   have: ∀H:Qan,hget H j=some e-> ∃p∈H,p.1=j:=by
    intro H;induction H with
    |nil=>intro h;cases h
    |cons x r ih=>
     obtain⟨i,x⟩:=x;intro h;by_cases hij:i=j
     .exact⟨_,Zar ..,hij⟩
     .have hb:(i==j)=false:=by simpa using hij
      simp only[hget,hb,ZaM] at h;obtain⟨p,h1,h2⟩:=ih h;exact⟨p,Zam _ h1,h2⟩
   obtain⟨p,h1,rfl⟩:=this _ he;exact hk1 p h1
  rw[Qol,<-hσ j hj,Qv5 (D:=fun j=>domB (H0 a) j=true) hi' (H1 a) hk1 j hj,he];rfl
 .rw[Qol];cases hq:hget (renH (sgx τ k nx) (H1 a)) m with
  |some e=>
   obtain⟨j,e0,h1,h2,_⟩:=Qzm hq;have hj:=hk1 _ h1;rw[hσ j hj] at h2;exact absurd h2 (hm j hj)
  |none=>
   rw[Qeg,Zai]
   .rfl
   .rw[Zbh];intro h;obtain⟨j,hj,h2⟩:=(hmem m).1 h;exact hm j hj h2
theorem Qafy{go:Qad->Prop}{tm:List (Nat×AV)}{h:Qan}{nx:Nat}{dst:Option Nat}{σ:Nat->Nat}(hσ: ∀j,σ j=nx+j){r0:AV}{H1:Qan}{cnt:Nat}{u kl:List Nat}(hkl:kl=[])
 (hcl: ∀p∈H1,p.1<cnt/\ ∀m∈p.2.2.nms,m<cnt)(hb: ∀m∈r0.nms,m<cnt)
 (hgo: ∀HH:Qan,(∀j e,hget H1 j=some e->hget HH (nx+j)=some (e.1,e.2.ren σ))->(∀m,m<nx->hget HH m=hget h m)->go ((⟨tm,HH,nx+cnt⟩:Qad).put dst (r0.ren σ))):
 kont go ⟨tm,h,nx⟩ dst (r0.ren σ) {use:=u,kill:=kl,new:=renH σ H1,cnt:=cnt}:=by
 subst hkl;refine⟨?_,?_⟩
 .have hb2:(r0.ren σ).bel (nx+cnt)=true:=by
   refine Qadz _ fun m hm=> ?_
   rw[Qafi,Zaw] at hm;obtain⟨j,hj,rfl⟩:=hm
   have:=hb j hj
   rw[hσ];omega
  have hbE:belH (nx+cnt) (renH σ H1)=true:=Qaf4 _ fun p hp m hm=>by
   have:=(hcl p hp).2 m hm
   rw[hσ];omega
  rw[Eff.ok_nr,hb2,hbE,Zbf,Zbf];refine Qad3 _ _ _ _ fun p hp=> ?_
  have: ∀H:Qan,(∀p∈H,p.1<cnt)-> ∀p∈renH σ H,nx<=p.1/\p.1<nx+cnt:=by
   intro H;induction H with
   |nil=>intro _ p hp;cases hp
   |cons x r ih=>
    obtain⟨i,mu,e⟩:=x;intro hx p hp;have h1:=hx _ (Zar ..);simp only at h1;simp only[renH,Zas] at hp;rcases hp with rfl|hp
    .simp only;rw[hσ];omega
    .exact ih (fun p h=>hx p (Zam _ h)) p hp
  exact this _ (fun p hp=>(hcl p hp).1) p hp
 rw[Qad.app_nr,Qba];refine hgo _ (fun j e he=> ?_) (fun m hm=> ?_)
 .rw[Qol,<-hσ j,Qafs (fun i j h=>by rw[hσ,hσ] at h;omega),he];rfl
 .rw[Qol];cases hq:hget (renH σ H1) m with
  |some e=>
   obtain⟨j,e0,_,h2,_⟩:=Qzm hq;rw[hσ] at h2;omega
  |none=>rfl
theorem orow.nw{A:Type}{ca:A->List AV}{H0:A->Qan}{pre:A->Prop}{klB:Nat->Bool}{r0:A->AV}{H1:A->Qan}{cnt:Nat}{args:List AV}{tm:List (Nat×AV)}{h:Qan}{nx:Nat}{dst:Option Nat}{go:Qad->Prop}(a:A)(hpre:pre a)(h0:H0 a=[])
 (hx:args=renL (fun j=>nx+j) (ca a))(hcl: ∀p∈H1 a,p.1<cnt/\ ∀m∈p.2.2.nms,m<cnt)(hb: ∀m∈(r0 a).nms,m<cnt)
 (hgo: ∀HH:Qan,(∀j e,hget (H1 a) j=some e->hget HH (nx+j)=some (e.1,e.2.ren fun j=>nx+j))->(∀m,m<nx->hget HH m=hget h m)->go ((⟨tm,HH,nx+cnt⟩:Qad).put dst ((r0 a).ren fun j=>nx+j))):
 orow ca H0 0 pre klB r0 H1 cnt args (hget h) nx (kont go ⟨tm,h,nx⟩ dst):=by
 have e:sgx (osn []) 0 nx=fun j=>nx+j:=funext fun j=>by simp[sgx]
 refine orow.os a [] hpre (fun j=>by rw[h0];simp[domB,hget]) rfl rfl ⟨by rw[e];exact hx,by rw[h0];trivial⟩ ?_;rw[e];exact Qafy (fun _=>rfl) rfl hcl hb hgo
theorem Qaex.nw{A:Type}{ar:List PK->Option A}{pre:A->Prop}{r0:A->AV}{H1:A->Qan}{cnt:Nat}{args:List AV}{tm:List (Nat×AV)}{h:Qan}{nx:Nat}{dst:Option Nat}{go:Qad->Prop}(ps:List PK)(hps:pkFL (hget h) args=some ps)(a:A)(ha:ar ps=some a)(hpre:pre a)
 (hcl: ∀p∈H1 a,p.1<cnt/\ ∀m∈p.2.2.nms,m<cnt)(hb: ∀m∈(r0 a).nms,m<cnt)
 (hgo: ∀HH:Qan,(∀j e,hget (H1 a) j=some e->hget HH (nx+j)=some (e.1,e.2.ren fun j=>nx+j))->(∀m,m<nx->hget HH m=hget h m)->go ((⟨tm,HH,nx+cnt⟩:Qad).put dst ((r0 a).ren fun j=>nx+j))):
 Qaex ar pre r0 H1 cnt args (hget h) nx (kont go ⟨tm,h,nx⟩ dst):=by
 have e:sgx (fun j=>j) 0 nx=fun j=>nx+j:=funext fun j=>by simp[sgx]
 unfold Qaex;rw[hps];simp only[Qalb,ha,decK];rw[e];exact⟨hpre,Qafy (fun _=>rfl) rfl hcl hb hgo⟩
theorem vF.call{A:Type}{ar:List PK->Option A}{pre:A->Prop}{re:A->D}{args:List AV}{tm:List (Nat×AV)}{h:Qan}{nx:Nat}{dst:Option Nat}{go:Qad->Prop}(ps:List PK)(hps:pkFL (hget h) args=some ps)(a:A)(ha:ar ps=some a)(hpre:pre a)
 (hgo:go ((⟨tm,h,nx⟩:Qad).put dst (.im (re a)))):Qfi ar pre re args (hget h) nx (kont go ⟨tm,h,nx⟩ dst):=by
 unfold Qfi;rw[hps];simp only[Qct,ha,decK];refine⟨hpre,?_,?_⟩
 .rw[Eff.ok_nr];simp[AV.bel,belH,Qpx]
 .rw[Qad.app_nr,Qba,ZcE];exact hgo
def syH(G:List Glue)(rows:List (List AV))(n:Nat)(f:Nat->Ent):Qan:=(0,(true,.arr 116 2 (G.map Glue.c)))::(1,(true,.arrA 119 2 rows))::famH 2 n f
theorem Qadn(G:List Glue)(rows:List (List AV))(n:Nat)(f:Nat->Ent)(j:Nat):domB (syH G rows n f) j=true↔j<2+n:=by
 simp only[domB,syH,hget,Qm4];by_cases h0:j=0
 .subst h0;simp;omega
 by_cases h1:j=1
 .subst h1;simp;omega
 rw[Qao _ _ (fun h=>h0 h.symm),Qao _ _ (fun h=>h1 h.symm)];simp only[ZaM];split
 .rename_i h;simp;omega
 .rename_i h;simp;omega
theorem syH_lt{G:List Glue}{rows:List (List AV)}{n:Nat}{f:Nat->Ent}{p:Nat×Ent}(hp:p∈syH G rows n f):p.1<2+n:=by
 simp only[syH,Zas,famH,Zaw,Zat] at hp;rcases hp with rfl|rfl|⟨j,hj,rfl⟩<;>simp only<;>omega
def tlMR(a:List Tile)(k:Int)(i:Nat):List (List AV):=(List.range (nT a)).map (tlM a k i)
theorem tlMR_bel(a:List Tile)(k:Int)(i N:Nat)(h:2+nT a<=N):(tlMR a k i).all (belL N)=true:=by
 rw[ZaK];intro r hr;obtain⟨j,hj,rfl⟩:=Zaw.1 hr;exact Qafd _ _ _ _ _ (by have:=Zat.1 hj;omega)
theorem tlM_ren(a:List Tile)(k:Int)(i j:Nat)(σ:Nat->Nat)(h:σ (2+j)=2+j):renL σ (tlM a k i j)=tlM a k i j:=by
 simp only[tlM]
 split<;>simp[tlA,renL,AV.ren,h]
theorem Qad2(a:List Tile)(k:Int)(i:Nat)(σ:Nat->Nat)(h: ∀j,j<nT a->σ (2+j)=2+j):(tlMR a k i).map (renL σ)=tlMR a k i:=by
 rw[tlMR,ZcO];exact ZbQ fun j hj=>tlM_ren _ _ _ _ _ (h j (Zat.1 hj))
theorem syH_bel{G:List Glue}{a:List Tile}{k:Int}{i N:Nat}{f:Nat->Ent}(h:2+nT a<=N)(hf: ∀i,belH N [(2+i,f i)]=true):belH N (syH G (tlMR a k i) (nT a) f)=true:=by
 simp only[syH,belH];rw[Qi1 _ _ _ hf,tlMR_bel _ _ _ _ h];rfl
theorem Qafv{G:List Glue}{a:List Tile}{k:Int}{i N:Nat}{f:Nat->Ent}(h:2+nT a<=N):Qam N (syH G (tlMR a k i) (nT a) f)=true:=by
 simp only[syH,Qam];rw[Qd8 _ _ _ _ (by omega)];simp;omega
theorem Qafl{G:List Glue}{a:List Tile}{k:Int}{i:Nat}{f:Nat->Ent}(hf: ∀j,(f j).2.nms=[]){p:Nat×Ent}(hp:p∈syH G (tlMR a k i) (nT a) f){m:Nat}(hm:m∈p.2.2.nms):m<2+nT a:=by
 simp only[syH,Zas,famH,Zaw,Zat] at hp;rcases hp with rfl|rfl|⟨j,hj,rfl⟩
 .simp[AObj.nms] at hm
 .simp only[AObj.nms] at hm;obtain⟨r,hr,hm⟩:=Qadc.1 hm;obtain⟨j,hj,rfl⟩:=Zaw.1 hr;rw[Qae7,Zan] at hm
  have:=Zat.1 hj
  omega
 .rw[hf] at hm;cases hm
theorem Qaeo{H0:Qan}: ∀{H:Qan},(∀p∈H,∀m∈p.2.2.nms,domB H0 m=true)->Qc2 H0 H
 |[],_=>trivial
 |(_,(_,_))::r,h=>⟨h _ (Zar ..),Qaeo fun p hp=>h p (Zam _ hp)⟩
def tsK(a:Qaa×Int):Int:=a.2+2*a.1.Glues.length
def mkTS.ca(a:Qaa×Int):List AV:=[.agg [.own 0,.own 1],.im (.int .i64 a.2)]
def mkTS.H0(a:Qaa×Int):Qan:=syH a.1.Glues (tlMR a.1.Tiles (tsK a) 0) (nT a.1.Tiles) (tlN a.1.Tiles (tsK a) 0)
def mkTS.H1(a:Qaa×Int):Qan:=syH (wrE (gF a.2) a.1.Glues.length) (tlMR a.1.Tiles (tsK a) (nT a.1.Tiles)) (nT a.1.Tiles) (tlN a.1.Tiles (tsK a) (nT a.1.Tiles))
def mkTS.r0(a:Qaa×Int):AV:= .im (.int .i64 (tlK a.1.Tiles (tsK a) a.1.Tiles.length))
def mkTS.pre(a:Qaa×Int):Prop:=0<=a.2/\a.1.Tiles.length<=1048576/\tlK a.1.Tiles (tsK a) a.1.Tiles.length<=1099511627776
def mkTS.row:Row:=orow mkTS.ca mkTS.H0 2000000 mkTS.pre (fun _=>true) mkTS.r0 mkTS.H1 0
theorem mkTS.hbel(a:Qaa×Int):belL 2000000 (mkTS.ca a)=true:=by simp[mkTS.ca,belL,AV.bel]
theorem mkTS.hbH(a:Qaa×Int):belH 2000000 (mkTS.H0 a)=true:=syH_bel (by have:=Qad0 a.1.Tiles;omega) (fun i=>by simp[belH,tlN])
theorem mkTS.hkH(a:Qaa×Int):Qam 2000000 (mkTS.H0 a)=true:=Qafv (by have:=Qad0 a.1.Tiles;omega)
theorem mkTS.hnm(a:Qaa×Int):Qc2 (mkTS.H0 a) (mkTS.H0 a):=
 Qaeo fun p hp m hm=>(Qadn _ _ _ _ _).2 (Qafl (fun j=>by simp[tlN,AObj.nms]) hp hm)
theorem Qaeg(h:Nat->Option Ent): ∀(H:Qan),roB h (fun _=>true) H
 |[]=>trivial
 |(j,e)::r=>⟨trivial,Qaeg h r⟩
theorem kxB_dom{H0:Qan}{k cnt:Nat}{exB:Nat->Bool}{j:Nat}(h:domB H0 j=true):kxB H0 k cnt exB j=some j:=by
 simp only[kxB,h,ZdI,Zba]
theorem tlM_cvt{h:Nat->Option Ent}{kx:Nat->Option Nat}{m:Nat}{a:List Tile}{k:Int}{i j:Nat}(hk:kx (2+j)=some (2+j)):mapO (cvt h kx (m+1)) (tlM a k i j)=some (tlM a k i j):=by
 simp only[tlM]
 split<;>simp only[tlA,mapO,cvt,hk,kp]
theorem Qaft{h:Nat->Option Ent}{kx:Nat->Option Nat}{m:Nat}{a:List Tile}{k:Int}{i:Nat}(hk: ∀j,j<nT a->kx (2+j)=some (2+j)):mapO (mapO (cvt h kx (m+1))) (tlMR a k i)=some (tlMR a k i):=
 Qnl _ fun j hj=>tlM_cvt (hk j (Zat.1 hj))
theorem mkLC.hcl(a:List Tile×Int): ∀p∈mkLC.H1 a,domB (mkLC.H0 a) p.1=true/\ ∀m∈p.2.2.nms,domB (mkLC.H0 a) m=true:=by
 intro p hp;simp only[mkLC.H0,Qadg];simp only[mkLC.H1,mkLH,Zas,famH,Zaw,Zat] at hp;rcases hp with rfl|⟨j,hj,rfl⟩
 .refine⟨.inl rfl,fun m hm=> ?_⟩;simp only[AObj.nms] at hm;obtain⟨r,hr,hm⟩:=Qadc.1 hm;obtain⟨j,hj,rfl⟩:=Zaw.1 hr;rw[Qae7,Zan] at hm
  have:=Zat.1 hj
  exact .inr ⟨by omega,by omega⟩
 .exact⟨.inr ⟨by simp only;omega,by simp only;omega⟩,fun m hm=>by simp[tlN,AObj.nms] at hm⟩
theorem mkTS.hcl(a:Qaa×Int): ∀p∈mkTS.H1 a,domB (mkTS.H0 a) p.1=true/\ ∀m∈p.2.2.nms,domB (mkTS.H0 a) m=true:=
 fun p hp=>⟨(Qadn _ _ _ _ _).2 (syH_lt hp),fun m hm=>(Qadn _ _ _ _ _).2 (Qafl (fun j=>by simp[tlN,AObj.nms]) hp hm)⟩
theorem mkTS.ok:Qas Tryz.prog 35 mkTS.row:=by
 refine ow (tC mkGC.ok (tC mkLC.ok tN)) Tryz.func35 rfl (by kernel_rfl) (exB:=fun _=>false) (R:=fun a r=>r=mkTS.r0 a) (fun _=>rfl)
  (fun a=>⟨mkTS.hbel a,mkTS.hbH a,mkTS.hkH a,mkTS.hnm a⟩) (fun a p hp=> ?_) (fun a r h=>by subst h;exact LeV.refl _) ?_
 rotate_left
 intro a hpre;simp only[Tryz.f35,Option.getD,mkTS.ca];simp(maxSteps:=9^9)(disch:=omega)only[ZZ,simprocAttr,rch,ORB,mkTS.ca];obtain⟨S,k⟩:=a;obtain⟨h1,h2,h3⟩:=hpre;simp only at h1 h2 h3;have hk:=tlK_b S.Tiles (tsK (S,k)) (by simp only[tsK];omega) 0 S.Tiles.length (by omega);have hk2:tsK (S,k)<=1099511627776:=by simp only[tlK] at hk;omega
 simp only[tsK] at hk2;have hn:=Qad0 S.Tiles;simp only[Qba,mkTS.H0,syH];refine orow.os (S.Glues,k) [0] ⟨h1,hk2⟩ (fun j=> ?_) rfl rfl ?_ ?_
 .simp only[domB,mkGC.H0,hget];by_cases hj:j=0
  .subst hj;simp
  .have:(0==j)=false:=by simpa using fun h=>hj h.symm
   rw[this];simp;omega
 .simp(maxSteps:=9^9)(disch:=omega)only[ZZ,simprocAttr,rch,ORB,mkTS.ca,mkGC.ca,mkGC.H0,Qer,ZaI]
  try exact⟨rfl,rfl⟩
 simp(maxSteps:=9^9)(disch:=omega)only[ZZ,simprocAttr,rch,ORB,mkTS.ca,mkGC.H1,sub,Qba,ZaI,ZaV];rw[Qadi 2 (nT S.Tiles) (tlN S.Tiles (tsK (S,k)) 0) [0] (by simp)];have hσ: ∀j,j<nT S.Tiles->sgx (fun j=>if j=0 then 1 else j) 2000000 2000001 (2+j)=2+j:=fun j hj=>by
  simp only[sgx];rw[Zao (by omega),Zai (by omega)]
 have hσ0:sgx (fun j=>if j=0 then 1 else j) 2000000 2000001 0=1:=rfl;refine orow.tau (S.Tiles,tsK (S,k)) (fun j=>if j=0 then 1 else j) ⟨h2,by simp only[tsK];omega,h3⟩ (fun _ _=>rfl) (fun j hj=> ?_) (fun i j hi hj h=> ?_) (mkLC.hcl _) ⟨?_,?_⟩ (by simp[mkLC.r0,AV.nms]) (fun HH hH1 hH2=> ?_)
 .have hj:=(Qadg _ _ _ _).1 hj;simp only at hj⊢
  split<;>omega
 .have hi:=(Qadg _ _ _ _).1 hi;have hj:=(Qadg _ _ _ _).1 hj;simp only at hi hj h;split at h<;>split at h<;>omega
 .simp only[mkLC.ca,renL,AV.ren,hσ0,tsK]
 .simp only[mkLC.H0,mkLH,Qer,hσ0,AObj.ren];refine⟨?_,Qadx fun i hi=> ?_⟩
  .simp only[hget,Qao _ _ (show 0≠1 by omega),Qao _ _ (show 2000000≠1 by omega),ZaM,ZdE,Zba];rw[<-tlMR,Qad2 _ _ _ _ hσ]
  .rw[hσ i hi];simp only[hget,Qao _ _ (show 0≠2+i by omega),Qao _ _ (show 2000000≠2+i by omega),Qao _ _ (show 1≠2+i by omega),ZaM];rw[Qcy _ _ _ _ hi];rfl
 have g0:hget HH 0=some (true,.arr 116 2 ((wrE (gF k) S.Glues.length).map Glue.c)):=by
  rw[hH2 0 (fun j hj=>by
   have hj:=(Qadg _ _ _ _).1 hj;simp only at hj⊢
   split<;>omega)]
  rfl
 have g1:hget HH 1=some (true,.arrA 119 2 (tlMR S.Tiles (tsK (S,k)) (nT S.Tiles))):=by
  have g:=hH1 0 _ rfl;rw[Zao rfl] at g;rw[g];simp only[AObj.ren];rw[<-tlMR,Qad2 _ _ _ _ hσ]
 have g2: ∀j,j<nT S.Tiles->hget HH (2+j)=some (tlN S.Tiles (tsK (S,k)) (nT S.Tiles) j):=fun j hj=>by
  have:=hH1 (2+j) _ (Qaej _ _ _ j hj)
  simp only[Zai (show 2+j≠0 by omega)] at this;rw[this];rfl
 simp only[mkLC.r0,AV.ren];simp(maxSteps:=9^9)(disch:=omega)only[ZZ,simprocAttr,rch,ORB,mkTS.ca,sub,mkTS.r0,tsK,Qba,mkTS.H1,syH];have hdm: ∀j,j<nT S.Tiles->domB ((0,(true,AObj.arr 116 2 (List.map Glue.c S.Glues)))::(1,(true,AObj.arrA 119 2 (tlMR S.Tiles (k+2*S.Glues.length) 0)))::famH 2 (nT S.Tiles) (tlN S.Tiles (k+2*S.Glues.length) 0)) (2+j)=true:=fun j hj=>(Qadn _ _ _ _ _).2 (by omega)
 refine⟨Qaeg _ _,?_,?_,?_⟩
 .rw[g0];exact⟨rfl,rfl⟩
 .rw[g1];refine⟨rfl,?_⟩;simp only[cvtE];rw[Qaft (fun j hj=>kxB_dom (hdm j hj))];rfl
 .exact Qadj _ _ _ _ _ (fun j hj=>g2 j hj) (fun j hj=>rfl)
 obtain⟨q1,_⟩:=mkTS.hcl _ p hp
 have:=(Qadn _ _ _ _ _).1 q1
 have:=Qad0 a.1.Tiles
 exact .inl ⟨by omega,rfl,q1⟩
theorem Qn3{n:Nat}{l:Int}(h:0<=szC n l):(n:Int)<=l/\szC n l<=l/\0<=l:=by
 simp only[szC] at h⊢;split at h
 .omega
 .rename_i c;rw[Zai c];omega
theorem Qu5: ∀(a:List Tile) (l:Int),0<=l->l<=1048576->0<=Qdz Qcn a l-> ∀x∈a,x.Sides.length<=1073741824
 |[],_,_,_,_=>by intro x hx;cases hx
 |y::r,l,h0,hl,h=>by
  simp only[Qdz] at h;split at h
  .omega
  .rename_i c;have hy:0<=Qcn y l:=by omega
   have h1:0<=szC y.Name.size l:=by
    simp only[Qcn] at hy;split at hy
    .omega
    .omega
   have e:Qcn y l=szC y.Sides.length (szC y.Name.size l):=by
    simp only[Qcn];rw[Zai (by omega)]
   rw[e] at hy h;obtain⟨a1,a2,a3⟩:=Qn3 hy;obtain⟨b1,b2,b3⟩:=Qn3 h1;intro x hx;rcases Zas.1 hx with rfl|hx
   .omega
   .exact Qu5 r _ hy (by omega) h x hx
theorem szSet_sm{s:Qaa}{l:Int}(hl: -1<=l)(hl2:l<=1048576)(h:0<=Qqd s l):smSet s:=by
 have hg:=Qo1 s.Glues l hl;simp only[Qqd] at h;split at h
 .omega
 rename_i c;have hg0:0<=Qcj s.Glues l:=by omega
 have hgc:0<=szC s.Glues.length l:=by
  simp only[Qcj] at hg0;split at hg0
  .omega
  .omega
 have htc:0<=szC s.Tiles.length (Qcj s.Glues l):=by
  simp only[Qds] at h;split at h
  .omega
  .omega
 have e:Qds s.Tiles (Qcj s.Glues l)=Qdz Qcn s.Tiles (szC s.Tiles.length (Qcj s.Glues l)):=by
  simp only[Qds];rw[Zai (by omega)]
 rw[e] at h;obtain⟨a1,a2,a3⟩:=Qn3 hgc;obtain⟨b1,b2,b3⟩:=Qn3 htc;exact⟨by omega,by omega,Qu5 s.Tiles _ htc (by omega) h⟩
theorem szSys_sm{s:Qar}{l:Int}(hl: -1<=l)(hl2:l<=1048576)(h:0<=Qlr s l):smSys s:=by
 have hb:=Qxk s.Set l hl;simp only[Qlr] at h;split at h
 .omega
 rename_i c;obtain⟨a1,a2,a3⟩:=Qn3 h;exact⟨szSet_sm hl hl2 (by omega),by omega⟩
def syK(a:Qar×Int):Int:=tlK a.1.Set.Tiles (tsK (a.1.Set,a.2)) a.1.Set.Tiles.length
def mkSy.ca(a:Qar×Int):List AV:=[.agg [.own 0,.own 1,.own 2000000,.im (.int .i64 a.1.Temperature)],.im (.int .i64 a.2)]
def mkSy.H0(a:Qar×Int):Qan:=(2000000,(true,.arr 105 3 (a.1.Seed.Tiles.map Qab.c)))::mkTS.H0 (a.1.Set,a.2)
def mkSy.H1(a:Qar×Int):Qan:=(2000000,(true,.arr 105 3 ((wrE (pF (syK a)) a.1.Seed.Tiles.length).map Qab.c)))::mkTS.H1 (a.1.Set,a.2)
def mkSy.r0(a:Qar×Int):AV:= .im (.int .i64 (syK a+3*a.1.Seed.Tiles.length))
def mkSy.pre(a:Qar×Int):Prop:=0<=a.2/\a.1.Set.Tiles.length<=1048576/\syK a+3*a.1.Seed.Tiles.length<=1099511627776
def mkSy.row:Row:=orow mkSy.ca mkSy.H0 2000001 mkSy.pre (fun _=>true) mkSy.r0 mkSy.H1 0
theorem mkSy.dom0(a:Qar×Int)(j:Nat):domB (mkSy.H0 a) j=true↔j=2000000\/j<2+nT a.1.Set.Tiles:=by
 by_cases h:j=2000000
 .subst h;simp[domB,mkSy.H0,hget]
 .have h2:(2000000==j)=false:=by simpa using fun q=>h q.symm
  have:domB (mkSy.H0 a) j=domB (mkTS.H0 (a.1.Set,a.2)) j:=by simp only[domB,mkSy.H0,hget,h2,ZaM]
  rw[this];simp only[mkTS.H0,Qadn,h,false_or]
theorem mkSy.hcl(a:Qar×Int): ∀p∈mkSy.H1 a,domB (mkSy.H0 a) p.1=true/\ ∀m∈p.2.2.nms,domB (mkSy.H0 a) m=true:=by
 intro p hp;simp only[mkSy.dom0];rcases Zas.1 hp with rfl|hp
 .exact⟨.inl rfl,fun m hm=>by simp[AObj.nms] at hm⟩
 .have:=mkTS.hcl _ p hp
  simp only[mkTS.H0,Qadn] at this;exact⟨.inr this.1,fun m hm=> .inr (this.2 m hm)⟩
theorem mkSy.hbel(a:Qar×Int):belL 2000001 (mkSy.ca a)=true:=by simp[mkSy.ca,belL,AV.bel]
theorem mkSy.hbH(a:Qar×Int):belH 2000001 (mkSy.H0 a)=true:=by
 simp only[mkSy.H0,belH];exact syH_bel (by have:=Qad0 a.1.Set.Tiles;simp only;omega) (fun i=>by simp[belH,tlN])
theorem mkSy.hkH(a:Qar×Int):Qam 2000001 (mkSy.H0 a)=true:=by
 simp only[mkSy.H0,Qam]
 have:=Qafv (G:=a.1.Set.Glues) (a:=a.1.Set.Tiles) (k:=tsK (a.1.Set,a.2)) (i:=0) (N:=2000001) (f:=tlN a.1.Set.Tiles (tsK (a.1.Set,a.2)) 0) (by have:=Qad0 a.1.Set.Tiles;omega)
 simp only[mkTS.H0,this,ZaW];simp
theorem mkSy.hnm(a:Qar×Int):Qc2 (mkSy.H0 a) (mkSy.H0 a):=by
 refine Qaeo fun p hp m hm=>(mkSy.dom0 _ _).2 ?_
 rcases Zas.1 hp with rfl|hp
 .simp[AObj.nms] at hm
 .exact .inr (Qafl (fun j=>by simp[tlN,AObj.nms]) hp hm)
theorem syH_get2{G:List Glue}{rows:List (List AV)}{n:Nat}{f:Nat->Ent}(i:Nat)(h:i<n):hget (syH G rows n f) (2+i)=some (f i):=by
 simp only[syH,hget,Qao _ _ (show 0≠2+i by omega),Qao _ _ (show 1≠2+i by omega),ZaM];exact Qcy _ _ _ _ h
theorem outOk_sy{h:Nat->Option Ent}{kx:Nat->Option Nat}{m:Nat}{G:List Glue}{a:List Tile}{k:Int}{i:Nat}{f:Nat->Ent}(h0:h 0=some (true,.arr 116 2 (G.map Glue.c)))(h1:h 1=some (true,.arrA 119 2 (tlMR a k i)))(h2: ∀j,j<nT a->h (2+j)=some (f j))
 (hf: ∀j,cvtE (cvt h kx (m+1)) (f j).2=some (f j).2)(hk: ∀j,j<nT a->kx (2+j)=some (2+j)):Qhk h (cvt h kx (m+1)) (syH G (tlMR a k i) (nT a) f):=by
 simp only[syH,Qhk];refine⟨?_,?_,Qadj _ _ _ _ _ h2 (fun j _=>hf j)⟩
 .rw[h0];exact⟨rfl,rfl⟩
 .rw[h1];refine⟨rfl,?_⟩;simp only[cvtE];rw[Qaft hk];rfl
theorem mkSy.ok:Qas Tryz.prog 14 mkSy.row:=by
 refine ow (tC mkTS.ok (tC mkAC.ok tN)) Tryz.func14 rfl (by kernel_rfl) (exB:=fun _=>false) (R:=fun a r=>r=mkSy.r0 a) (fun _=>rfl)
  (fun a=>⟨mkSy.hbel a,mkSy.hbH a,mkSy.hkH a,mkSy.hnm a⟩) (fun a p hp=> ?_) (fun a r h=>by subst h;exact LeV.refl _) ?_
 rotate_left
 intro a hpre;simp only[Tryz.f14,Option.getD,mkSy.ca];simp(maxSteps:=9^9)(disch:=omega)only[ZZ,simprocAttr,rch,ORB,mkSy.ca];obtain⟨S,k⟩:=a;obtain⟨h1,h2,h3⟩:=hpre;simp only at h1 h2 h3;simp only[Qba,mkSy.H0];have hn:=Qad0 S.Set.Tiles;have hk:=tlK_b S.Set.Tiles (tsK (S.Set,k)) (by simp only[tsK];omega) 0 S.Set.Tiles.length (by omega);have hk0:0<=syK (S,k):=by simp only[syK];omega
 have hσ: ∀j,j<2+nT S.Set.Tiles->sgx (fun j=>j) 2000000 2000002 j=j:=fun j hj=>Zao (by omega)
 have dmT:=fun j=>(Qadn S.Set.Glues (tlMR S.Set.Tiles (tsK (S.Set,k)) 0) (nT S.Set.Tiles) (tlN S.Set.Tiles (tsK (S.Set,k)) 0) j)
 refine orow.tau (S.Set,k) (fun j=>j) ⟨h1,h2,by simp only[syK] at h3;simp only;omega⟩ (fun _ _=>rfl) (fun j hj=> ?_) (fun i j _ _ h=>h) (mkTS.hcl _) ⟨?_,?_⟩ (by simp[mkTS.r0,AV.nms]) (fun HH hH1 hH2=> ?_)
 .have hj:=(dmT j).1 hj;omega
 .simp only[mkTS.ca,renL,AV.ren,hσ 0 (by omega),hσ 1 (by omega)]
 .simp only[mkTS.H0,syH,Qer,hσ 0 (by omega),hσ 1 (by omega),AObj.ren];rw[Qad2 _ _ _ _ (fun j hj=>hσ _ (by omega))];refine⟨rfl,rfl,Qadx fun i hi=> ?_⟩;rw[hσ _ (by omega)];simp only[hget,Qao _ _ (show 2000001≠2+i by omega),Qao _ _ (show 2000000≠2+i by omega),Qao _ _ (show 0≠2+i by omega),Qao _ _ (show 1≠2+i by omega),ZaM];rw[Qcy _ _ _ _ hi];rfl
 have hu: ∀m,m=2000000\/m=2000001-> ∀j,domB (mkTS.H0 (S.Set,k)) j=true->j≠m:=fun m hm j hj=>by
  have hj:=(dmT j).1 hj;omega
 have gs:hget HH 2000000=some (true,.arr 105 3 (S.Seed.Tiles.map Qab.c)):=by rw[hH2 _ (hu _ (.inl rfl))];rfl
 have gp:hget HH 2000001=some (true,.cells 44 [.own 0,.own 1,.own 2000000,.im (.int .i64 S.Temperature)]):=by rw[hH2 _ (hu _ (.inr rfl))];rfl
 have g0:hget HH 0=some (true,.arr 116 2 ((wrE (gF k) S.Set.Glues.length).map Glue.c)):=hH1 0 _ rfl;have g1:hget HH 1=some (true,.arrA 119 2 (tlMR S.Set.Tiles (tsK (S.Set,k)) (nT S.Set.Tiles))):=by
  rw[hH1 1 _ rfl];simp only[AObj.ren];rw[Qad2 _ _ _ _ (fun j hj=>hσ _ (by omega))]
 have g2: ∀j,j<nT S.Set.Tiles->hget HH (2+j)=some (tlN S.Set.Tiles (tsK (S.Set,k)) (nT S.Set.Tiles) j):=fun j hj=>by
  have e:hget (mkTS.H1 (S.Set,k)) (2+j)=some (tlN S.Set.Tiles (tsK (S.Set,k)) (nT S.Set.Tiles) j):=syH_get2 j hj;rw[hH1 (2+j) _ e];rfl
 have eK:tlK S.Set.Tiles (tsK (S.Set,k)) S.Set.Tiles.length=syK (S,k):=rfl;simp only[mkTS.r0,AV.ren,eK];simp(maxSteps:=9^9)(disch:=omega)only[ZZ,simprocAttr,rch,ORB,mkSy.ca,sub,Qba,gp]
 skip
 refine orow.os (S.Seed,syK (S,k)) [2000000] ⟨hk0,h3⟩ (fun j=> ?_) rfl rfl ?_ ?_
 .simp only[domB,mkAC.H0,hget];by_cases hj:j=0
  .subst hj;simp
  .have:(0==j)=false:=by simpa using fun h=>hj h.symm
   rw[this];simp;omega
 .simp(maxSteps:=9^9)(disch:=omega)only[ZZ,simprocAttr,rch,ORB,mkSy.ca,mkAC.ca,mkAC.H0,Qer,ZaI,gs]
  try exact⟨rfl,rfl⟩
 simp(maxSteps:=9^9)(disch:=omega)only[ZZ,simprocAttr,rch,ORB,mkSy.ca,mkAC.H1,sub,Qba,ZaI,ZaV,mkSy.r0,mkSy.H1];obtain⟨HX,hHX⟩: ∃HX,HX=hget ((2000000,(true,AObj.arr 105 3 (List.map Qab.c (wrE (pF (syK (S,k))) S.Seed.Tiles.length))))::hdel HH [2000000]):=⟨_,rfl⟩;rw[<-hHX];have gx: ∀m,m≠2000000->HX m=hget HH m:=fun m hm=>by
  rw[hHX];simp only[hget,Qao _ _ (fun h=>hm h.symm:2000000≠m),ZaM];exact Qce _ _ _ (fun h=>hm h.symm)
 refine⟨Qaeg _ _,outOk_sy (by rw[gx 0 (by omega)];exact g0) (by rw[gx 1 (by omega)];exact g1) (fun j hj=>by simp only at hj;rw[gx _ (by omega)];exact g2 j hj) (fun j=>rfl) (fun j hj=>kxB_dom ?_)⟩;simp only at hj
 have:=(mkSy.dom0 (S,k) (2+j)).2 (.inr (by simp only;omega))
 simpa only[mkSy.H0] using this
 obtain⟨q1,_⟩:=mkSy.hcl _ p hp
 have:=(mkSy.dom0 _ _).1 q1
 have:=Qad0 a.1.Set.Tiles
 exact .inl ⟨by omega,rfl,q1⟩
end Go.Ae
