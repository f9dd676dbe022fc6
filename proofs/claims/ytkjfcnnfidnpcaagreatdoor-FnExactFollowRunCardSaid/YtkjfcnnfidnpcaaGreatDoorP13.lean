/- Lemmas. Conditions: none. -/
import Derived.Test.YtkjfcnnfidnpcaaGreatDoorP12
import Derived.Shelf.SlSortCmp.WholeK
import Derived.Shelf.SlicesG.Cmp
import Derived.StillTailTactics
import Derived.Lib.Small
import Derived.Lib.Walk
import Derived.Shelf.SlSortCmp.NoneTotal
set_option linter.all false
set_option maxHeartbeats 8000000
set_option maxRecDepth 100000
namespace Go.Proofs
open Go.Shelf
def Tryz.sortPl_ren:Go.Shelf.Ren:=⟨λ|6=>137|15=>175|14=>174|28=>206|29=>207|20=>198|21=>199|22=>200|23=>201|24=>202|25=>203|26=>204|27=>205|46=>218|47=>219|48=>220|49=>221|50=>222|57=>228|n=>n,λ|22=>36|24=>97|25=>202|3=>3|39=>146|0=>0|53=>285|55=>287|4=>4|46=>279|45=>278|50=>107|5=>5|9=>9|66=>302|70=>306|76=>314|77=>315|n=>n,λ|n=>n⟩
def Tryz.sortPl:Go.Proofs.SlLaysF0.n6 Tryz.prog Tryz.sortPl_ren:={
 mixed:=by kernel_rfl
 f6:=⟨Tryz.f137.name,by decide,Tryz.func137.trans (CZ some (by kernel_rfl))⟩
 f14:=⟨Tryz.f174.name,by decide,Tryz.func174.trans (CZ some (by kernel_rfl))⟩
 f15:=Tryz.func175.trans (CZ some (by kernel_rfl))
 f20:=⟨Tryz.f198.name,by decide,Tryz.func198.trans (CZ some (by kernel_rfl))⟩
 f21:=⟨Tryz.f199.name,by decide,Tryz.func199.trans (CZ some (by kernel_rfl))⟩
 f22:=⟨Tryz.f200.name,by decide,Tryz.func200.trans (CZ some (by kernel_rfl))⟩
 f23:=⟨Tryz.f201.name,by decide,Tryz.func201.trans (CZ some (by kernel_rfl))⟩
 f24:=⟨Tryz.f202.name,by decide,Tryz.func202.trans (CZ some (by kernel_rfl))⟩
 f25:=⟨Tryz.f203.name,by decide,Tryz.func203.trans (CZ some (by kernel_rfl))⟩
 f26:=⟨Tryz.f204.name,by decide,Tryz.func204.trans (CZ some (by kernel_rfl))⟩
 f27:=⟨Tryz.f205.name,by decide,Tryz.func205.trans (CZ some (by kernel_rfl))⟩
 f28:=Tryz.func206.trans (CZ some (by kernel_rfl))
 f29:=Tryz.func207.trans (CZ some (by kernel_rfl))
 f46:=⟨Tryz.f218.name,by decide,Tryz.func218.trans (CZ some (by kernel_rfl))⟩
 f47:=Tryz.func219.trans (CZ some (by kernel_rfl))
 f48:=Tryz.func220.trans (CZ some (by kernel_rfl))
 f49:=⟨Tryz.f221.name,by decide,Tryz.func221.trans (CZ some (by kernel_rfl))⟩
 f50:=⟨Tryz.f222.name,by decide,Tryz.func222.trans (CZ some (by kernel_rfl))⟩
 f57:=⟨Tryz.f228.name,by decide,Tryz.func228.trans (CZ some (by kernel_rfl))⟩
 t0:=Tryz.underlying0
 a0:=Tryz.isAgg0
 z0:=Tryz.sizeOf0
 v0:=Tryz.zeroValue0
 t3:=Tryz.underlying3
 a3:=Tryz.isAgg3
 z3:=Tryz.sizeOf3
 v3:=Tryz.zeroValue3
 t4:=Tryz.underlying4
 a4:=Tryz.isAgg4
 z4:=Tryz.sizeOf4
 v4:=Tryz.zeroValue4
 t5:=Tryz.underlying5
 a5:=Tryz.isAgg5
 z5:=Tryz.sizeOf5
 v5:=Tryz.zeroValue5
 t9:=Tryz.underlying9
 a9:=Tryz.isAgg9
 z9:=Tryz.sizeOf9
 v9:=Tryz.zeroValue9
 t22:=Tryz.underlying36
 a22:=Tryz.isAgg36
 z22:=Tryz.sizeOf36
 v22:=Tryz.zeroValue36
 t25:=Tryz.underlying202
 a25:=Tryz.isAgg202
 z25:=Tryz.sizeOf202
 v25:=Tryz.zeroValue202
 t39:=Tryz.underlying146
 a39:=Tryz.isAgg146
 z39:=Tryz.sizeOf146
 v39:=Tryz.zeroValue146
 t45:=Tryz.underlying278
 a45:=Tryz.isAgg278
 z45:=Tryz.sizeOf278
 v45:=Tryz.zeroValue278
 t46:=Tryz.underlying279
 a46:=Tryz.isAgg279
 z46:=Tryz.sizeOf279
 v46:=Tryz.zeroValue279
 t50:=Tryz.underlying107
 a50:=Tryz.isAgg107
 z50:=Tryz.sizeOf107
 v50:=Tryz.zeroValue107
 t53:=Tryz.underlying285
 a53:=Tryz.isAgg285
 z53:=Tryz.sizeOf285
 v53:=Tryz.zeroValue285
 t55:=Tryz.underlying287
 a55:=Tryz.isAgg287
 z55:=Tryz.sizeOf287
 v55:=Tryz.zeroValue287
 t66:=Tryz.underlying302
 a66:=Tryz.isAgg302
 z66:=Tryz.sizeOf302
 v66:=Tryz.zeroValue302
 t70:=Tryz.underlying306
 a70:=Tryz.isAgg306
 z70:=Tryz.sizeOf306
 v70:=Tryz.zeroValue306
 t76:=Tryz.underlying314
 a76:=Tryz.isAgg314
 z76:=Tryz.sizeOf314
 v76:=Tryz.zeroValue314
 t77:=Tryz.underlying315
 a77:=Tryz.isAgg315
 z77:=Tryz.sizeOf315
 v77:=Tryz.zeroValue315}
def Tryz.sortPt_ren:Go.Shelf.Ren:=⟨λ|6=>216|15=>175|14=>227|28=>206|29=>207|20=>230|21=>231|22=>232|23=>233|24=>234|25=>235|26=>236|27=>237|46=>240|47=>219|48=>220|49=>241|50=>242|57=>243|n=>n,λ|22=>178|24=>70|25=>147|3=>3|39=>146|0=>0|53=>285|55=>287|4=>4|46=>279|45=>278|50=>107|5=>5|9=>9|66=>302|70=>306|76=>314|77=>315|n=>n,λ|n=>n⟩
def Tryz.sortPt:Go.Proofs.SlLaysF0.n6 Tryz.prog Tryz.sortPt_ren:={
 mixed:=by kernel_rfl
 f6:=⟨Tryz.f216.name,by decide,Tryz.func216.trans (CZ some (by kernel_rfl))⟩
 f14:=⟨Tryz.f227.name,by decide,Tryz.func227.trans (CZ some (by kernel_rfl))⟩
 f15:=Tryz.func175.trans (CZ some (by kernel_rfl))
 f20:=⟨Tryz.f230.name,by decide,Tryz.func230.trans (CZ some (by kernel_rfl))⟩
 f21:=⟨Tryz.f231.name,by decide,Tryz.func231.trans (CZ some (by kernel_rfl))⟩
 f22:=⟨Tryz.f232.name,by decide,Tryz.func232.trans (CZ some (by kernel_rfl))⟩
 f23:=⟨Tryz.f233.name,by decide,Tryz.func233.trans (CZ some (by kernel_rfl))⟩
 f24:=⟨Tryz.f234.name,by decide,Tryz.func234.trans (CZ some (by kernel_rfl))⟩
 f25:=⟨Tryz.f235.name,by decide,Tryz.func235.trans (CZ some (by kernel_rfl))⟩
 f26:=⟨Tryz.f236.name,by decide,Tryz.func236.trans (CZ some (by kernel_rfl))⟩
 f27:=⟨Tryz.f237.name,by decide,Tryz.func237.trans (CZ some (by kernel_rfl))⟩
 f28:=Tryz.func206.trans (CZ some (by kernel_rfl))
 f29:=Tryz.func207.trans (CZ some (by kernel_rfl))
 f46:=⟨Tryz.f240.name,by decide,Tryz.func240.trans (CZ some (by kernel_rfl))⟩
 f47:=Tryz.func219.trans (CZ some (by kernel_rfl))
 f48:=Tryz.func220.trans (CZ some (by kernel_rfl))
 f49:=⟨Tryz.f241.name,by decide,Tryz.func241.trans (CZ some (by kernel_rfl))⟩
 f50:=⟨Tryz.f242.name,by decide,Tryz.func242.trans (CZ some (by kernel_rfl))⟩
 f57:=⟨Tryz.f243.name,by decide,Tryz.func243.trans (CZ some (by kernel_rfl))⟩
 t0:=Tryz.underlying0
 a0:=Tryz.isAgg0
 z0:=Tryz.sizeOf0
 v0:=Tryz.zeroValue0
 t3:=Tryz.underlying3
 a3:=Tryz.isAgg3
 z3:=Tryz.sizeOf3
 v3:=Tryz.zeroValue3
 t4:=Tryz.underlying4
 a4:=Tryz.isAgg4
 z4:=Tryz.sizeOf4
 v4:=Tryz.zeroValue4
 t5:=Tryz.underlying5
 a5:=Tryz.isAgg5
 z5:=Tryz.sizeOf5
 v5:=Tryz.zeroValue5
 t9:=Tryz.underlying9
 a9:=Tryz.isAgg9
 z9:=Tryz.sizeOf9
 v9:=Tryz.zeroValue9
 t22:=Tryz.underlying178
 a22:=Tryz.isAgg178
 z22:=Tryz.sizeOf178
 v22:=Tryz.zeroValue178
 t25:=Tryz.underlying147
 a25:=Tryz.isAgg147
 z25:=Tryz.sizeOf147
 v25:=Tryz.zeroValue147
 t39:=Tryz.underlying146
 a39:=Tryz.isAgg146
 z39:=Tryz.sizeOf146
 v39:=Tryz.zeroValue146
 t45:=Tryz.underlying278
 a45:=Tryz.isAgg278
 z45:=Tryz.sizeOf278
 v45:=Tryz.zeroValue278
 t46:=Tryz.underlying279
 a46:=Tryz.isAgg279
 z46:=Tryz.sizeOf279
 v46:=Tryz.zeroValue279
 t50:=Tryz.underlying107
 a50:=Tryz.isAgg107
 z50:=Tryz.sizeOf107
 v50:=Tryz.zeroValue107
 t53:=Tryz.underlying285
 a53:=Tryz.isAgg285
 z53:=Tryz.sizeOf285
 v53:=Tryz.zeroValue285
 t55:=Tryz.underlying287
 a55:=Tryz.isAgg287
 z55:=Tryz.sizeOf287
 v55:=Tryz.zeroValue287
 t66:=Tryz.underlying302
 a66:=Tryz.isAgg302
 z66:=Tryz.sizeOf302
 v66:=Tryz.zeroValue302
 t70:=Tryz.underlying306
 a70:=Tryz.isAgg306
 z70:=Tryz.sizeOf306
 v70:=Tryz.zeroValue306
 t76:=Tryz.underlying314
 a76:=Tryz.isAgg314
 z76:=Tryz.sizeOf314
 v76:=Tryz.zeroValue314
 t77:=Tryz.underlying315
 a77:=Tryz.isAgg315
 z77:=Tryz.sizeOf315
 v77:=Tryz.zeroValue315}
def Tryz.cmpI64_ren:Go.Shelf.Ren:=⟨λ|5=>140|7=>176|n=>n,λ|22=>2|3=>3|4=>4|n=>n,λ|n=>n⟩
def Tryz.cmpI64:Go.Proofs.SlLaysC2.n5 Tryz.prog Tryz.cmpI64_ren:={
 mixed:=by kernel_rfl
 f5:=⟨Tryz.f140.name,by decide,Tryz.func140.trans (CZ some (by kernel_rfl))⟩
 f7:=⟨Tryz.f176.name,by decide,Tryz.func176.trans (CZ some (by kernel_rfl))⟩
 t3:=Tryz.underlying3
 a3:=Tryz.isAgg3
 z3:=Tryz.sizeOf3
 v3:=Tryz.zeroValue3
 t4:=Tryz.underlying4
 a4:=Tryz.isAgg4
 z4:=Tryz.sizeOf4
 v4:=Tryz.zeroValue4
 t22:=Tryz.underlying2
 a22:=Tryz.isAgg2
 z22:=Tryz.sizeOf2
 v22:=Tryz.zeroValue2}
end Go.Proofs
namespace Go.Proofs
open Go.Shelf Go.RowKit Go.Lib Go.Sort
def Tryz.cmp64(x y:Int)(W:World):Calls Tryz.prog 140 #[.int .i64 x,.int .i64 y] W λe w'=>e= .returned (.int .i64 (Lib.compareInt x y))/\w'=W:=
 AnyG.cmp_Compare_int Tryz.cmpI64 x y W
def Tryz.orTwo(b:Nat)(x y:Int)(W:World)(h0:W.cell? ⟨b,0,none⟩=some (.int .i64 x))(z:W.cell? ⟨b,1,none⟩=some (.int .i64 y)):
 Calls Tryz.prog 139 #[.slice (some ⟨b,0,none⟩) 2 2] W λe w'=>e= .returned (.int .i64 (if x=0 then y else x))/\w'=W:=by
 go_enter Tryz.func139,Tryz.ntmps139
 go_wp2
 refine wp_loop_rounds 3 ?_;rw[rounds_succ]
 go_wp2
 all_goals (try rw[rounds_succ])
 all_goals (try go_wp2)
 all_goals (try rw[rounds_succ])
 all_goals (try go_wp2)
 all_goals (go_ret;refine⟨?_,rfl⟩;simp_all)
def PF(W:World)(a b a' b':Value)(T:TypeId):
 let z:=((W.alloc (Obj.cells #[a,b] T)).alloc (Obj.cells #[a',b'] T)).drew
 z.cell? ⟨W.heap.size,0,none⟩=some a/\z.cell? ⟨W.heap.size,1,none⟩=some b/\z.cell? ⟨W.heap.size+1,0,none⟩=some a'/\z.cell? ⟨W.heap.size+1,1,none⟩=some b'/\
  ∃O,z=grow (W.drewN 1) O:=by
 have e:((W.alloc (Obj.cells #[a,b] T)).alloc (Obj.cells #[a',b'] T)).drew=grow (W.drewN 1) #[Obj.cells #[a,b] T,Obj.cells #[a',b'] T]:=by
  rw[alloc_eq_grow,alloc_eq_grow,grow_grow];rfl
 have h0:(W.heap++ #[Obj.cells #[a,b] T,Obj.cells #[a',b'] T])[W.heap.size]? =some (Obj.cells #[a,b] T):=by
  rw[Zek (AN _),HA];rfl
 have Q:(W.heap++ #[Obj.cells #[a,b] T,Obj.cells #[a',b'] T])[W.heap.size+1]? =some (Obj.cells #[a',b'] T):=by
  rw[Zek (Nat.le_succ _),show W.heap.size.succ - W.heap.size=1 by omega];rfl
 simp only[e];refine⟨?_,?_,?_,?_,_,rfl⟩<;>unfold World.cell? <;>simp only[grow,World.drewN,h0,Q]<;>rfl
def Qvb(w:World)(a b:Value)(T:TypeId):(w.alloc (Obj.cells #[a,b] T)).cell? ⟨w.heap.size,0,none⟩=some a/\(w.alloc (Obj.cells #[a,b] T)).cell? ⟨w.heap.size,1,none⟩=some b:=by
 have h0:(w.heap.push (Obj.cells #[a,b] T))[w.heap.size]? =some (Obj.cells #[a,b] T):=by simp
 constructor<;>unfold World.cell? <;>simp only[World.alloc,h0]<;>rfl
def Iq(p q:Int×Int):Int:=if Lib.compareInt p.2 q.2=0 then Lib.compareInt p.1 q.1 else Lib.compareInt p.2 q.2
def Tryz.cmpPoints(x y x' y':Int)(W:World):Calls Tryz.prog 98 #[.agg #[.int .i64 x,.int .i64 y],.agg #[.int .i64 x',.int .i64 y']] W λe w'=>
 e= .returned (.int .i64 (Iq (x,y) (x',y')))/\ ∃q Z,w'=grow (W.drewN q) Z:=by
 have z:=λW'=>Tryz.cmp64 y y' W'
 have O:=λW'=>Tryz.cmp64 x x' W'
 unfold Iq;simp only;generalize Lib.compareInt y y'=r1 at z⊢;generalize Lib.compareInt x x'=r2 at O⊢;have Q:=λ(b:Nat) W'=>Tryz.orTwo b r1 r2 W'
 generalize (if r1=0 then r2 else r1)=r at Q⊢
 go_enter Tryz.func98,Tryz.ntmps98
 go_wp2
 refine wp_region_still_tail 10 (by kernel_rfl) (by kernel_rfl) ?_;simp only[Qj,ZV,Oc,Gd];obtain⟨d1,d2,d3,d4,hg⟩:=PF W (.int .i64 x) (.int .i64 y) (.int .i64 x') (.int .i64 y') 70;change wpStill _ _ ((W.alloc (Obj.cells #[Value.int IntKind.i64 x,Value.int IntKind.i64 y] 70)).alloc (Obj.cells #[Value.int IntKind.i64 x',Value.int IntKind.i64 y'] 70)).drew (λa'=>wpList _ _ _ _ a' ((W.alloc (Obj.cells #[Value.int IntKind.i64 x,Value.int IntKind.i64 y] 70)).alloc (Obj.cells #[Value.int IntKind.i64 x',Value.int IntKind.i64 y'] 70)).drew) _ _;generalize ((W.alloc (Obj.cells #[Value.int IntKind.i64 x,Value.int IntKind.i64 y] 70)).alloc (Obj.cells #[Value.int IntKind.i64 x',Value.int IntKind.i64 y'] 70)).drew=w3 at d1 d2 d3 d4 hg⊢
 still_step
 still_step
 still_step
 still_step
 still_call (z _)
 still_step
 still_step
 still_step
 still_step
 still_call (O _)
 refine wpStill_nil ?_
 go_wp2_with (go_at_call 139;refine (Q _ _ (Qvb _ _ _ _).1 (Qvb _ _ _ _).2).mono ?_;rintro e w' ⟨rfl,rfl⟩)
 go_ret
 obtain⟨aa,rfl⟩:=hg;exact⟨rfl,1,_,by rw[alloc_eq_grow,grow_grow]⟩
def Tryz.cmpPlaced90(x y t x' y' t':Int)(W:World):Calls Tryz.prog 138 #[.agg #[.int .i64 x,.int .i64 y,.int .i64 t],.agg #[.int .i64 x',.int .i64 y',.int .i64 t']] W λe w'=>
 e= .returned (.int .i64 (Iq (x,y) (x',y')))/\ ∃q O,w'=grow (W.drewN q) O:=by
 have z:=λW'=>Tryz.cmpPoints x y x' y' W'
 generalize Iq (x,y) (x',y')=r at z⊢
 go_enter Tryz.func138,Tryz.ntmps138
 go_wp2_with (go_at_call 98;refine (z _).mono ?_;rintro e w' ⟨rfl,q,O,rfl⟩)
 go_ret
 exact⟨rfl,q,_,by rw[alloc_eq_grow,alloc_eq_grow,grow_grow];show grow (grow (W.drewN q) _) O=_;rw[grow_grow]⟩
end Go.Proofs
namespace Go.Ae
open Go.Proofs Go.Sort Go.Shelf
instance:Inhabited Ah:=⟨⟨⟨0,0⟩,0⟩⟩
def BV(x:Ah):List Value:=[.int .i64 x.At.X,.int .i64 x.At.Y,.int .i64 x.Tile]
def cfP(x y:Ah):Int:=Iq (x.At.X,x.At.Y) (y.At.X,y.At.Y)
def Qz0(x y:Ah):ltOf cfP x y=Bl x.At y.At:=by
 simp only[ltOf,cfP,Iq,Lib.compareInt,Bl]
 grind
def swoP:SWO (ltOf cfP) where
 irrefl x:=by rw[Qz0];simp only[Bl];grind
 trans x y z h1 h2:=by rw[Qz0] at*;simp only[Bl] at*;grind
 ntrans x y z h1 h2:=by rw[Qz0] at*;simp only[Bl] at*;grind
def EZ(l:List Ah):List Ah:=l.foldr (λx r=>C8 x.At x.Tile r) []
def tH(x:Ah): ∀(l:List Ah),(C8 x.At x.Tile l).Perm (x::l)
 |[]=>gH _
 |y::r=>by
  simp only[C8];split
  .exact gH _
  .exact ((tH x r).cons y).trans (List.Perm.swap x y r)
def Wx: ∀(l:List Ah),(EZ l).Perm l
 |[]=>gH _
 |x::r=>(tH x (EZ r)).trans ((Wx r).cons x)
def Quq{a b c:Ab}(z:Bl a b=true)(O:Bl c b=false):Bl c a=false:=by
 simp only[Bl] at*;grind
def Qx3(x:Ah): ∀(l:List Ah),l.Pairwise (λa b=>Bl b.At a.At=false)->(C8 x.At x.Tile l).Pairwise (λa b=>Bl b.At a.At=false)
 |[],_=>by simp[C8]
 |y::r,h=>by
  rw[V5] at h;simp only[C8];split
  .rename_i Q;rw[V5,V5];refine⟨λz O=> ?_,h⟩;have Z:Bl y.At x.At=false:=by simp only[Bl] at*;grind
   rcases Be.1 O with rfl|O
   .exact Z
   .have:=h.1 z O
    exact Quq Q this
  .rename_i Q;rw[V5];refine⟨λz O=> ?_,Qx3 x r h.2⟩;rcases (lP _ _ _ _).1 O with rfl|O
   .simpa using Q
   .exact h.1 z O
def lY: ∀(l:List Ah),(EZ l).Pairwise (λa b=>Bl b.At a.At=false)
 |[]=>List.Pairwise.nil
 |x::r=>Qx3 x _ (lY r)
def oU(l:List Ah):(EZ l).length=l.length:=(Wx l).length_eq
def Rv{l:List Ah}(h:(l.map Ah.At).Nodup){x y:Ah}(hx:x∈l)(hy:y∈l)(Z:x.At=y.At):x=y:=by
 induction l with
 |nil=>cases hx
 |cons z r ih=>
  rw[Bg,IH] at h;rcases Be.1 hx with O|O<;>rcases Be.1 hy with Q|Q
  .rw[O,Q]
  .exact absurd (show z.At∈r.map Ah.At by rw[<-O,Z];exact WZ Q) h.1
  .exact absurd (show z.At∈r.map Ah.At by rw[<-Q,<-Z];exact WZ O) h.1
  .exact ih h.2 O Q
def lR{l l':List Ah}(hd:(l.map Ah.At).Nodup)(hp:l'.Perm l)(hs:l'.Pairwise (λa b=>Bl b.At a.At=false)):l'=EZ l:=by
 refine ZdR (le:=λa b=>Bl b.At a.At=false) (λa b ha hb Q Z=> ?_) hs (lY l) (hp.trans (Wx l).symm);refine Rv hd (hp.mem_iff.1 ha) ((Wx l).mem_iff.1 hb) ?_;revert Q Z;obtain⟨⟨ax,ay⟩,z⟩:=a;obtain⟨⟨bx,O⟩,bt⟩:=b;simp only[Bl,Ab.mk.injEq]
 grind
def Dp(l:List Ah):List Value:=l.flatMap BV
def lS(l:List Ah):(Dp l).length=l.length*3:=by
 induction l with
 |nil=>rfl
 |cons x r ih=>simp only[Dp,G7,CD,CQ] at ih⊢;rw[ih];simp[BV];omega
def lO{ok:Nat->Prop}{hp:Nat->Option Obj}: ∀(l:List Ah) (L:List Value),rdr ok hp 3 (l.map Ah.c) L↔ ∃r,L=Dp l++r
 |[],L=>by simp[rdr,Dp]
 |x::r,L=>by
  simp only[Bg,rdr,lO r,Ah.c,rdp,rd,Dp,G7];constructor
  .rintro⟨_,⟨v,z,rfl,rfl,Z,O,rfl,rfl,v3,Q,rfl,rfl,_⟩,q,hq⟩;exact⟨q,by simp only[Oc,Gd] at hq;rw[hq];rfl⟩
  .rintro⟨q,rfl⟩;exact⟨rfl,⟨_,_,rfl,rfl,_,_,rfl,rfl,_,_,rfl,rfl,trivial⟩,q,rfl⟩
def LI: ∀(l:List Ah) (t:Nat),t<l.length*3->(Dp l)[t]? =some ((BV (l[t/3]?.getD default))[t % 3]!)
 |[],t,h=>by simp at h
 |x::r,t,h=>by
  by_cases Q:t<3
  .have:t=0\/t=1\/t=2:=by omega
   rcases this with rfl|rfl|rfl<;>simp[Dp,BV]
  .obtain⟨u,rfl⟩: ∃u,t=u+3:=⟨t - 3,by omega⟩;have z:(u+3)/3=u/3+1:=by omega
   have O:(u+3) % 3=u % 3:=by omega
   have ih:=LI r u (by simp at h;omega);rw[z,O,J7,<-ih];simp[Dp,BV]
def Qvu(l:List Ah):(flatK BV 3 l.toArray).toList=Dp l:=by
 apply Kt;intro t;by_cases z:t<l.length*3
 .rw[LI l t z];have O:t<(flatK BV 3 l.toArray).size:=by simp only[size_flatK,Ku];exact z
  have Q:=get_flatK BV 3 l.toArray t (by simpa using z);rw[Gc,Hn O,<-getElem!_pos (flatK BV 3 l.toArray) t O,Q];congr 3;simp[getElem!_def];cases l[t/3]? <;>rfl
 .have a1:(flatK BV 3 l.toArray).toList.length<=t:=by rw[Dn,size_flatK,Ku];omega
  have a2:(Dp l).length<=t:=by rw[lS];omega
  rw[Fm a1,Fm a2]
def srt.ca(_:List Ah):List AV:=[.own 0,.im (.fn 138 [] [])]
def srt.H0(a:List Ah):Ao:=[(0,(true,.arr 97 3 (a.map Ah.c)))]
def srt.H1(a:List Ah):Ao:=[(0,(true,.arr 97 3 ((EZ a).map Ah.c)))]
def srt.row:Ay:=AA srt.ca srt.H0 1 (λa=>(a.map Ah.At).Nodup) (λ_=>true) (λ_=> .im (.tup [])) srt.H1 0
def srt.ok:A9 137 srt.row:=by
 rintro args h nx K ⟨a,τ,U,KL,a8,rfl,Q,hN,hK⟩;refine⟨Lq (by kernel_rfl),_,_,?_,hK⟩;intro C S vs R hW ba bc bd ab ax;have aq:BW τ 1 nx 0=τ 0:=Ak (by omega);simp only[srt.ca,AJ,AV.ren,aq,AM,Aa,rd,rdl] at ab;obtain⟨v0,r0,hv,⟨af,aj⟩,v1,r1,bj,⟨ac,cc,bm,ak,am⟩,bl⟩:=ab;have ak:ac= #[]:=by apply Ly;simpa using ak
 have am:cc= #[]:=by apply Ly;simpa using am
 subst ak am bl bj bm;have hvs:vs= #[v0,.func (V8 138) #[] #[]]:=by apply Ly;simpa using hv
 subst hvs;have hm:h (τ 0)=some (true,.arr 97 3 (a.map Ah.c)):=by
  have:=Q.1
  rwa [aq] at this
 have aw:Al (srt.H0 a) 0=true:=rfl;have Z:S.h (τ 0)=some (true,.arr 97 3 (a.map Ah.c)):=by
  rw[ba (τ 0) (II _ (hN.u 0 aw)),hm]
 have ay: ∀n,n∈KL↔n=τ 0:=by
  intro n;constructor
  .intro hn;obtain⟨j,h1,_,h3⟩:=hN.k1 n hn
   have:j=0:=by
    simp only[Al,srt.H0,hget] at h1;by_cases hj:j=0
    .exact hj
    .have:(0==j)=false:=by simpa using λh=>hj h.symm
     rw[this] at h1;cases h1
   rw[h3,this]
  .rintro rfl;exact hN.k2 0 aw rfl
 obtain⟨m,hmm⟩: ∃m,m=τ 0:=⟨_,rfl⟩;rw[<-hmm] at Z aj ay;have au:=oU a;have fin: ∀(w':World),IA S m (.arr 97 3 ((EZ a).map Ah.c)) (S.ρ m) [m] w'->
  (B4 (λn=>S.h m≠none\/n≠m) S (S.one m (.arr 97 3 ((EZ a).map Ah.c)) (S.ρ m) [m] w')->Ap (S.one m (.arr 97 3 ((EZ a).map Ah.c)) (S.ρ m) [m] w') (S.ρ m) (.arr 97 3 ((EZ a).map Ah.c)))->R (.returned (.tuple #[])) w':=by
  intro w' af bi;have hp:=Zt hW af;refine ax (.tuple #[]) _ (fE hW af (bi hp)) ?_ ⟨hp.ok,λn _=>hp.nm n (.inl (by rw[Z];simp))⟩ ⟨#[],rfl,rfl⟩;funext n;simp only[Ax.one,Bo.appf,srt.H1,AZ,aq,hget,Ac.ren,<-hmm];by_cases hn:n=m
  .subst hn;simp
  .have h1:(m==n)=false:=by simpa using λh=>hn h.symm
   have h2:KL.contains n=false:=by
    rw[<-IF,Hp,ay];exact hn
   simp only[h1,Bq,h2,hn,CB,BS]
 have z:=aj _ Z;have aa:=hW.obj _ _ Z;have a0:=λO=>hW.loc m _ O Z
 cases hρ:S.ρ m with
 |none=>
  rw[hρ] at z aa;simp only[Ap] at aa;have ha:a=[]:=by simpa using aa.2
  subst ha;simp only at z;rw[z,WK (by decide)];refine (AnyF.slices_SortFunc_none Tryz.sortPl none 0 (.func (.func 138) #[] #[]) S.w).mono ?_;rintro e w' ⟨rfl,rfl⟩;refine fin S.w (bR Z (λl hl=>by rw[hρ] at hl;cases hl) rfl rfl) (λ_=> ?_);rw[hρ];exact⟨CR _,rfl⟩
 |some O=>
  rw[hρ] at z aa;simp only[Ap,Ac.len] at aa z;obtain⟨g1,g2,cv,g3,g4,g5⟩:=aa;obtain⟨ao,bo⟩:=a0 O hρ;rw[lO] at g5;obtain⟨bb,g5⟩:=g5;simp only[F7] at g1 g2 z;have Q:S.w.heap[O.b]? =some (.cells cv 97 (0,0)):=g3;have bn:O.p+a.length*3<=cv.size:=by omega
  have hF:(flatK BV 3 a.toArray).size=a.length*3:=by simp
  have hget: ∀j,j<a.length*3->cv[O.p+j]? =some ((flatK BV 3 a.toArray)[j]!):=by
   intro j hj;have h1:(cv.toList.drop O.p)[j]? =(Dp a++bb)[j]? :=by rw[g5]
   rw[GW,Gc,EA (by rw[lS];exact hj),<-Qvu,Gc] at h1;rw[h1,Hn (by rw[hF];exact hj),getElem!_pos _ _ (by rw[hF];exact hj)]
  have hH:HoldsK BV 3 S.w O.b O.p a.toArray:=by
   intro j hj;rw[hF] at hj;refine⟨?_,?_⟩
   .simp only[World.cell?,Q,Rm,CP,CB,id];exact hget j hj
   .simp only[World.frozen?,Q];simp
  have hc:=AnyQ.slices_SortFunc Tryz.sortPl 3 Tryz.isAgg97 Tryz.sizeOf97 BV (λ_=>rfl) (λx v hv=>by simp[BV] at hv;rcases hv with rfl|rfl|rfl<;>rfl) cfP swoP 138 #[] O.b O.p O.cap a.toArray S.w
   (sF (Lq (by kernel_rfl))) (λm os dk hs x y=>Tryz.cmpPlaced90 _ _ _ _ _ _ _) hH ao (by simp only[Ku,JL] at g1⊢;omega)
  rw[z,WK (by decide)];refine hc.mono ?_;rintro e w' ⟨rfl,d',n,os,ag,av,rfl⟩;have a9:d'.size=a.length:=ag.1;have bg:d'.toList=EZ a:=by
   refine lR a8 ?_ ?_
   .have:=ag.2.2
    rwa [show d'.extract 0 a.toArray.size=d' by rw[Ku,<-a9];exact vS,show a.toArray.extract 0 a.toArray.size=a.toArray from vS] at this
   .rw[Zdo];intro i j hi hj bh
    have:=av i j (CR _) bh (by rw[Ku,<-a9];simpa using hj)
    rw[Qz0,getElem!_pos d' i (by simpa using hi),getElem!_pos d' j (by simpa using hj)] at this;simpa using this
  obtain rfl:d'=(EZ a).toArray:=by apply Ly;rw[bg]
  have ai:(flatK BV 3 (EZ a).toArray).size=a.length*3:=by simp[au]
  have an:(flatK BV 3 (EZ a).toArray).toList.length=a.length*3:=by rw[Dn,ai]
  have ah:S.w.heap.size<=(sortWorldK BV 3 S.w O.b O.p n (EZ a).toArray os).heap.size:=by
   simp[sortWorldK,grow,putRowK,Sort.ahead]
  have hb: ∀b,b<S.w.heap.size->(sortWorldK BV 3 S.w O.b O.p n (EZ a).toArray os).heap[b]? =if O.b=b then S.w.heap[b]?.map (onCells (putCells id O.p (flatK BV 3 (EZ a).toArray))) else S.w.heap[b]? :=by
   intro b hb;have e0:b<(putRowK BV 3 (Sort.ahead S.w n) O.b O.p (EZ a).toArray).heap.size:=by simpa[putRowK,Sort.ahead] using hb
   simp only[sortWorldK,grow];rw[ZdH e0];simp only[putRowK,putRow,mapBlock,Sort.ahead,vQ]
  refine fin _ ⟨rfl,rfl,rfl,ah,?_,.inl (by simp),?_,?_,?_⟩ ?_
  .intro b be bf;rw[hb b be,Ad (bf m _ O (by simp) Z hρ)]
  .intro lo az;rw[hρ] at az;obtain rfl:=A7 az;exact⟨Gh ao ah,.inr ⟨m,_,O,by simp,Z,hρ,rfl⟩⟩
  .intro f hf;rw[Z] at hf;obtain rfl:=A7 hf;exact⟨rfl,rfl,by simp[Ac.len,au]⟩
  .intro n' f _ ad;rw[Z] at ad;cases ad
  .intro _;rw[hρ];simp only[Ap,F7,au];refine⟨g1,g2,putCells id O.p (flatK BV 3 (EZ a).toArray) cv,?_,by simpa[putCells] using g4,?_⟩
   .simp only[Ax.one,Ax.hp];rw[hb O.b ao,Ak rfl,Q];rfl
   .rw[lO];refine⟨(cv.toList.drop (O.p+a.length*3)),?_⟩;apply Kt;intro t;rw[GW,Gc,putCells,ZeT,ai,<-Qvu];by_cases ht:t<a.length*3
    .rw[EA (by rw[an];exact ht),Gc,Hn (show O.p+t<cv.size by omega),Hn (by rw[ai];exact ht)];simp only[CY,id];rw[Ak ⟨by omega,by omega⟩,vG,getElem!_pos _ _ (by rw[ai];exact ht)]
    .rw[FQ (by rw[an];omega),an,GW,Gc,show O.p+a.length*3+(t - a.length*3)=O.p+t by omega];cases cv[O.p+t]? with
     |none=>rfl
     |some x=>simp only[CY];rw[Ad (by omega)]
end Go.Ae
namespace Go.Ae
open Go.Proofs
def asmOf.fv(a:(List Ah)):Af:=(λl=>⟨EZ l⟩) a
def asmOf.row:Ay:=vK (b1 (qS Ah.d_le Ah.c_n)) (rA Af.d_le) (λa=>(a.map Ah.At).Nodup/\a.length<=1000000) asmOf.fv
def asmOf.q:=AT (R:=asmOf.row) rfl
def asmOf.ok:A9 96 asmOf.row:=by
 refine vw (tC clonC.ok (tC srt.ok tN)) Tryz.func96 ?_;intro a z;simp only[Tryz.f96];simp only[ZA,simprocAttr,asmOf.fv];refine AA.os a [] z.2 (λj=>by simp[Al,hget]) rfl rfl ?_ ?_
 .simp only[ZA,simprocAttr,clonC.ca,CO]
 simp only[ZA,simprocAttr,clonC.H1];refine AA.os a [1] z.1 (λj=> ?_) rfl rfl ?_ ?_
 .simp only[Al,srt.H0,hget];by_cases O:j=0
  .subst O;simp
  .have:(0==j)=false:=by simpa using λh=>O h.symm
   rw[this];simp;omega
 .simp only[ZA,simprocAttr,srt.ca,srt.H0,CO];exact⟨rfl,rfl⟩
 simp only[ZA,simprocAttr,Af.d,srt.H1,Eo]
def C9(q:Ab×Int):Ah:=⟨q.1,q.2⟩
def N8(m:AF)(t:List (Ab×Int))(x:Ah):Option (List (Ab×Int)):=
 if (m.Labels[x.Tile.toNat]?.getD 0)<0 then some t
 else if (Bz t (NS x.At m.Scale).1).getD (m.Labels[x.Tile.toNat]?.getD 0)≠(m.Labels[x.Tile.toNat]?.getD 0) then none
 else some (Bt t (NS x.At m.Scale).1 (m.Labels[x.Tile.toNat]?.getD 0))
def EF(m:AF)(a:Af):Nat->Option (List (Ab×Int))
 |0=>some []
 |k+1=>match a.Tiles[k]?,EF m a k with
  |some x,some t=>N8 m t x
  |_,r=>r
def Qwg(m:AF)(a:Af)(k:Nat)(h:EF m a k=none): ∀j,EF m a (k+j)=none
 |0=>h
 |j+1=>by
  have ih:=Qwg m a k h j;rw[show k+(j+1)=k+j+1 by omega,EF,ih];split
  .rename_i z;cases z
  .rfl
def O7{l l':List Ah}(hp:l.Perm l')(hd:(l'.map Ah.At).Nodup)(p:Ab):l.find? (λx=>decide (x.At=p))=l'.find? (λx=>decide (x.At=p)):=by
 cases h1:l.find? (λx=>decide (x.At=p)) with
 |none=>
  symm;rw[ZO] at h1⊢;exact λx Q=>h1 x (hp.mem_iff.2 Q)
 |some x=>
  have Q:=hp.mem_iff.1 (Qg h1);have z:=Ql h1;cases h2:l'.find? (λx=>decide (x.At=p)) with
  |none=>
   rw[ZO] at h2;exact absurd z (h2 x Q)
  |some y=>
   have Z:=Qg h2;have O:=Ql h2;rw[Rv hd Q Z];rw[B3] at z O;rw[z,O]
def Mo(p:Ab): ∀(t:List (Ab×Int)),(((t.map C9).find? (λx=>decide (x.At=p))).map Ah.Tile)=Bz t p
 |[]=>rfl
 |(k,w)::r=>by
  simp only[Bg,Zen,C9,Bz];by_cases h:k=p
  .subst h;simp
  .have z:decide (k=p)=false:=by simpa using h
   have O: ¬p=k:=λQ=>h Q.symm
   rw[z,Ad O];exact Mo p r
def QA(t:List (Ab×Int)):(t.map C9).map Ah.At=t.map Prod.fst:=by simp[C9]
def aQ{t:List (Ab×Int)}(hd:(t.map Prod.fst).Nodup)(p:Ab):Bj ⟨EZ (t.map C9)⟩ p=(Bz t p).getD (-1):=by
 have z:((t.map C9).map Ah.At).Nodup:=by rw[QA];exact hd
 simp only[Bj];rw[O7 (Wx _) z,Mo]
def lV{t:List (Ab×Int)}{p:Ab}(v:Int)(h:Bz t p=none):Bt t p v=t++[(p,v)]:=by
 induction t with
 |nil=>rfl
 |cons q r ih=>
  obtain⟨k,w⟩:=q;simp only[Bz] at h;split at h
  .cases h
  .rename_i hn;simp only[Bt,Ad hn,De];rw[ih h]
def PG{t:List (Ab×Int)}{p:Ab}{v:Int}(h:Bz t p=some v):Bt t p v=t:=by
 induction t with
 |nil=>cases h
 |cons q r ih=>
  obtain⟨k,w⟩:=q;simp only[Bz] at h;simp only[Bt];split at h
  .rename_i z;obtain rfl:=A7 h;rw[Ak z,z]
  .rename_i hn;rw[Ad hn,ih h]
def Qyz{t:List (Ab×Int)}{p:Ab}(h:Bz t p=none):p∉t.map Prod.fst:=by
 induction t with
 |nil=>simp
 |cons q r ih=>
  obtain⟨k,w⟩:=q;simp only[Bz] at h;split at h
  .cases h
  .rename_i hn;simp only[Bg,Be,ZX];exact⟨hn,ih h⟩
def bQ{t:List (Ab×Int)}{p:Ab}{v:Int}(h:Bz t p=some v):(p,v)∈t:=by
 induction t with
 |nil=>cases h
 |cons q r ih=>
  obtain⟨k,w⟩:=q;simp only[Bz] at h;split at h
  .rename_i z;obtain rfl:=A7 h;rw[z];exact BR ..
  .exact BQ _ (ih h)
structure RM(t:List (Ab×Int))(o:Af)(k:Nat):Prop where
 nd:(t.map Prod.fst).Nodup
 pos: ∀q∈t,0<=q.2
 eq:o=⟨EZ (t.map C9)⟩
 len:t.length<=k
def RM.step{m:AF}{t:List (Ab×Int)}{o:Af}{k:Nat}(h:RM t o k)(x:Ah):(∃t' o',N8 m t x=some t'/\ZI m o x=some o'/\RM t' o' (k+1))\/(N8 m t x=none/\ZI m o x=none):=by
 obtain⟨nd,pos,rfl,len⟩:=h;simp only[N8,ZI];generalize m.Labels[x.Tile.toNat]?.getD 0=n;generalize (NS x.At m.Scale).1=p;by_cases c1:n<0
 .rw[Ak c1,Ak c1];exact .inl ⟨_,_,rfl,rfl,nd,pos,rfl,by omega⟩
 rw[Ad c1,Ad c1,aQ nd];cases hq:Bz t p with
 |none=>
  simp only[Zeh];rw[Ad (by simp),Ad (by omega),Ak (by omega)];refine .inl ⟨_,_,rfl,rfl,?_,?_,?_,?_⟩
  .rw[lV n hq,FT,WV];refine⟨nd,by simp,?_⟩;intro a ha b Q z;simp only[Bg,GX,BS] at Q;exact Qyz hq (by rw[<-Q,<-z];exact ha)
  .intro q O;rw[lV n hq] at O;rcases Bs.1 O with O|O
   .exact pos q O
   .simp only[BS] at O;subst O;simp only;omega
  .rw[QX,lV n hq];congr 1;have aa:(((t++[(p,n)]).map C9).map Ah.At).Nodup:=by
    rw[QA,FT,WV];refine⟨nd,by simp,?_⟩;intro a ha b Q z;simp only[Bg,GX,BS] at Q;exact Qyz hq (by rw[<-Q,<-z];exact ha)
   refine lR aa ?_ (Qx3 ⟨p,n⟩ _ (lY _));refine (tH ⟨p,n⟩ _).trans ?_;rw[FT];refine ((Wx _).cons _).trans ?_;exact (Zet _ _).symm
  .rw[lV n hq];simp;omega
 |some v=>
  simp only[AO];have hv:=pos _ (bQ hq);simp only at hv;by_cases Z:v=n
  .subst Z;rw[Ad (by simp),Ad (by simp),Ad (by omega),PG hq];exact .inl ⟨_,_,rfl,rfl,nd,pos,rfl,by omega⟩
  .rw[Ak Z,Ak ⟨hv,Z⟩];exact .inr ⟨rfl,rfl⟩
def Qys(m:AF)(a:Af): ∀k,(∃t o,EF m a k=some t/\GL m a k=some o/\RM t o k)\/(EF m a k=none/\GL m a k=none)
 |0=> .inl ⟨_,_,rfl,rfl,by simp,by simp,rfl,AN _⟩
 |k+1=>by
  simp only[EF,GL];rcases Qys m a k with ⟨t,o,O,Q,z⟩|⟨O,Q⟩
  .rw[O,Q];cases a.Tiles[k]? with
   |none=>exact .inl ⟨_,_,rfl,rfl,z.nd,z.pos,z.eq,by have:=z.len;omega⟩
   |some x=>exact z.step x
  .rw[O,Q];cases a.Tiles[k]? <;>exact .inr ⟨rfl,rfl⟩
def MH{m:AF}{a:Af}{t:List (Ab×Int)}(h:EF m a a.Tiles.length=some t){l:List Ah}(Z:l.Perm (t.map C9)):AP m a=(⟨EZ l⟩,true)/\(l.map Ah.At).Nodup/\l.length<=a.Tiles.length:=by
 rcases Qys m a a.Tiles.length with ⟨t',o,z,h2,Q⟩|⟨z,h2⟩
 .rw[h] at z;obtain rfl:=A7 z;have O:((t.map C9).map Ah.At).Nodup:=by rw[QA];exact Q.nd
  refine⟨?_,?_,?_⟩
  .simp only[AP,h2,Q.eq];congr 2;exact (lR O ((Wx _).trans Z) (lY _)).symm
  .exact (Z.map Ah.At).nodup_iff.2 O
  .rw[Z.length_eq,F7];exact Q.len
 .rw[h] at z;cases z
def Qzg{m:AF}{a:Af}{k:Nat}(Z:k<=a.Tiles.length)(h:EF m a k=none):AP m a=(⟨[]⟩,false):=by
 have hn:=Qwg m a k h (a.Tiles.length - k);rw[show k+(a.Tiles.length - k)=a.Tiles.length by omega] at hn;rcases Qys m a a.Tiles.length with ⟨t',o,z,O,Q⟩|⟨z,O⟩
 .rw[hn] at z;cases z
 .simp only[AP,O]
def bO{l:List Ah}(h:(l.map Ah.At).Nodup): ∀x∈l,∀y∈l,x.At=y.At->x=y:=by
 induction l with
 |nil=>intro x Z;cases Z
 |cons z r ih=>
  simp only[Bg,IH] at h;intro x Z y hy e;rcases Be.1 Z with ex|O<;>rcases Be.1 hy with ey|Q
  .rw[ex,ey]
  .exact absurd (Bh.2 ⟨y,Q,by rw[<-e,ex]⟩) h.1
  .exact absurd (Bh.2 ⟨x,O,by rw[e,ey]⟩) h.1
  .exact ih h.2 x O y Q e
def Iy{s:Az}{a:Af}(h: ∀x∈a.Tiles,Fi s x.Tile)(p:Ab):Bm (λx=>decide (x.At=p)) 0 a.Tiles<0↔Bj a p<0:=by
 simp only[Bj];rcases W4 (λx=>decide (x.At=p)) a.Tiles 0 with ⟨z,O⟩|⟨i,x,z,O,Q⟩
 .rw[z,O];simp
 .rw[z,O]
  have:=(h x (Ba Q)).1
  simp only[CY,AO];omega
def RM.put{t:List (Ab×Int)}{o:Af}{k:Nat}(h:RM t o k){p:Ab}{v:Int}(hv:0<=v)(hn:Bz t p=none):RM (Bt t p v) (BJ o p v) (k+1):=by
 obtain⟨nd,pos,rfl,len⟩:=h;have O:((t++[(p,v)]).map Prod.fst).Nodup:=by
  rw[FT,WV];refine⟨nd,by simp,?_⟩;intro a ha b hb Q;simp only[Bg,GX,BS] at hb;exact Qyz hn (by rw[<-hb,<-Q];exact ha)
 rw[lV v hn];refine⟨O,?_,?_,by simp;omega⟩
 .intro q z;rcases Bs.1 z with z|z
  .exact pos q z
  .simp only[BS] at z;subst z;exact hv
 .rw[QX];congr 1;have Z:(((t++[(p,v)]).map C9).map Ah.At).Nodup:=by rw[QA];exact O
  refine lR Z ?_ (Qx3 ⟨p,v⟩ _ (lY _));refine (tH ⟨p,v⟩ _).trans ?_;rw[FT];refine ((Wx _).cons _).trans ?_;exact (Zet _ _).symm
def RM.at{t:List (Ab×Int)}{o:Af}{k:Nat}(h:RM t o k):C5 t=Bj o:=by
 funext p;rw[h.eq,aQ h.nd];rfl
def RM.size{t:List (Ab×Int)}{o:Af}{k:Nat}(h:RM t o k):o.Tiles.length=t.length:=by
 rw[h.eq];simp only[oU,F7]
def oS: ∀(l t:List Ah),((t++l).map Ah.At).Nodup->l.foldl (λu x=>Bt u x.At x.Tile) (t.map λx=>(x.At,x.Tile))=(t++l).map λx=>(x.At,x.Tile)
 |[],t,_=>by simp
 |x::r,t,h=>by
  have Q:Bz (t.map λx=>(x.At,x.Tile)) x.At=none:=by
   cases hq:Bz (t.map λx=>(x.At,x.Tile)) x.At with
   |none=>rfl
   |some v=>
    exfalso;obtain⟨y,Z,O⟩:=Bh.1 (bQ hq);have z:y.At=x.At:=CZ Prod.fst O;rw[FT,WV] at h;exact h.2.2 _ (WZ Z) _ (WZ (BR ..)) z
  rw[gD,lV _ Q]
  have:=oS r (t++[x]) (by simpa using h)
  simpa using this
def RM.of{a:Af}(hf:Cd none a.Tiles=true)(hp: ∀x∈a.Tiles,0<=x.Tile):RM (CC a.Tiles) a a.Tiles.length:=by
 have hn:=eG hf;have e:CC a.Tiles=a.Tiles.map λx=>(x.At,x.Tile):=by
  have:=oS a.Tiles [] (by simpa using hn)
  simpa[CC] using this
 have O:(a.Tiles.map λx=>(x.At,x.Tile)).map C9=a.Tiles:=by
  rw[Oe];exact List.map_id' _
 rw[e];refine⟨by rw[Oe];exact hn,?_,?_,by simp⟩
 .intro q hq;obtain⟨x,hx,rfl⟩:=Bh.1 hq;exact hp x hx
 .rw[O];have hs:=(dN _ _ hf).2;have hw:a.Tiles.Pairwise (λx y=>Bl y.At x.At=false):=by
   rw[Zdo];intro i j Q Z z
   have:=hs i j a.Tiles[i] a.Tiles[j] z (Bk Q) (Bk Z)
   simp only[Bl] at this⊢
   grind
  rw[<-lR hn (gH _) hw]
def eqOption.fv(a:AD×AD):Bool:=(λa b=>decide (a=b)) (a.1) (a.2)
def eqOption.row:Ay:=vK (b2 (qR AD.d_le) (qR AD.d_le)) rB (λa=>True) eqOption.fv
def eqOption.q:=AT (R:=eqOption.row) rfl
def eqOption.ok:A9 33 eqOption.row:=by
 refine vw (tC eqPoint.ok tN) Tryz.func33 ?_;intro a O;simp only[Tryz.f33];simp only[ZA,simprocAttr,eqOption.fv,eqPoint.q,eqPoint.fv];obtain⟨⟨⟨x,y⟩,u⟩,⟨⟨z,w⟩,v⟩⟩:=a;simp only[AD.mk.injEq,Ab.mk.injEq]
 grind
def l03Own.fv(a:Af):Af:=(λa=>a) a
def l03Own.row:Ay:=vK (b1 (qP 1 Af.d_le)) (rA Af.d_le) (λa=>a.Tiles.length<=1000000) l03Own.fv
def l03Own.q:=AT (R:=l03Own.row) rfl
def l03Own.ok:A9 24 l03Own.row:=by
 refine vw tN Tryz.func24 ?_;intro a z;simp only[Tryz.f24];simp only[ZA,simprocAttr,Af.d,l03Own.fv];exact⟨by simp[BY,BK,D.one,Ah.c],by omega⟩
def Kz{s:AG}{b:Af}(hs:s.Set.Tiles.length<=160)(Z:FB s.Set b){o:AD}(h:C7 s b o=true):FB s.Set (BJ b o.At o.Tile):=by
 simp only[C7,AL,B3] at h;obtain⟨d1,Q,d3,_⟩:=h;have O:=eV d3;have hw:AW o.Tile 0 159=true:=by
  simp only[AW,AL,B3] at Q⊢;omega
 refine⟨?_,?_⟩
 .rw[QX];exact sS d1 hw _ none Z.1 (λq hq=>by cases hq) O
 .intro x z;rw[QX] at z;rcases (lP _ _ _ _).1 z with rfl|z
  .simp only[AW,AL,B3] at Q;exact⟨by simp only;omega,by simp only;omega⟩
  .exact Z.2 x z
def QB{s:AG}(h:EP s=true):(BO s.Set/\FB s.Set s.Seed/\s.Set.Tiles.length<=160/\s.Seed.Tiles.length<=1000000)/\Eg s.Set=true/\E8 s.Set s.Seed=true:=by
 simp only[EP,AL] at h;obtain⟨z,O,_⟩:=h;have Q:=HU O;have Z:=rV z;have h5:=z;simp only[Eg,AW,AL,B3] at h5;exact⟨⟨Z,Q.1,by omega,by omega⟩,z,O⟩
def Qwf{A B:Type}(f:A->B): ∀(l:List A) (i:Nat),(l.map f).eraseIdx i=(l.eraseIdx i).map f
 |[],_=>rfl
 |_::_,0=>rfl
 |x::r,i+1=>by simp only[Bg,vC,Qwf f r i]
def Qqq{A:Type}: ∀(l:List A) (i:Nat) (x:A),l[i]? =some x->(x::l.eraseIdx i).Perm l
 |[],i,x,h=>by simp at h
 |y::r,0,x,h=>by
  simp only[Ho,AI] at h;subst h;exact gH _
 |y::r,i+1,x,h=>by
  rw[J7] at h;rw[vC];exact (List.Perm.swap y x _).trans ((Qqq r i x h).cons y)
def zW(m:AF):List AV:=[.im (.sl false 2 (m.Big.Set.Glues.map Am.c)),.im (.sl false 2 (m.Big.Set.Tiles.map Tile.c)),.im (.sl false 3 (m.Big.Seed.Tiles.map Ah.c)),.im (.int .i64 m.Big.Temperature),.im (.sl false 2 (m.Small.Set.Glues.map Am.c)),.im (.sl false 2 (m.Small.Set.Tiles.map Tile.c)),.im (.sl false 3 (m.Small.Seed.Tiles.map Ah.c)),.im (.int .i64 m.Small.Temperature),.im (.int .i64 m.Scale),.im (.sl false 1 (m.Labels.map Aj))]
def rep_.fv(a:AF×Af):Af×Bool:=(AP) (a.1) (a.2)
def rep_.row:Ay:=vK (b2 (qR AF.d_le) (qR Af.d_le)) (r2 (rA Af.d_le) rB) (λa=>uL a.1 a.2) rep_.fv
def rep_.q:=AT (R:=rep_.row) rfl
def rep_.ok:A9 60 rep_.row:=by
 refine vw (tC blockOf.ok (tC asmOf.ok tN)) Tryz.func60 ?_;intro a Z;simp only[Tryz.f60];simp only[ZA,simprocAttr,rep_.fv];obtain⟨m,a⟩:=a;simp only at Z⊢;obtain⟨h1,h2,h3,h4,h5⟩:=Z;have ac:=HU h4;have aa:=ac.1.1;intro an;refine AU.old ⟨{k:Nat×List (Ab×Int)//k.1<=a.Tiles.length/\EF m a k.1=some k.2},λk=>⟨[(21,.im (.int .i64 k.1.1)),(20,.im (.int .i64 a.Tiles.length)),(19,.im (.sl false 3 (a.Tiles.map Ah.c))),(6,.mp 3),(4,.ptr 2 0),(2,.ptr 0 0)],[(3,(true,.map ⟨true,[.int .i64,.int .i64]⟩ (k.1.2.map Em))),(2,(true,.cells 38 [.im (.sl true 0 [])])),(0,(true,.cells 48 (zW m)))],4⟩,λk=>a.Tiles.length - k.1.1,λk=>⟨by simp[ZG,zW],by simp⟩,⟨⟨(0,[]),by simp[EF]⟩,by simp only[ZA,simprocAttr,sub,zW]⟩,λk=> ?_⟩;obtain⟨⟨k,t⟩,ah,Q⟩:=k;simp only at ah Q;simp only[ZA,simprocAttr,blockOf.q,blockOf.fv,sub,AR,zW];refine⟨λhk=>⟨hk,λx hx=> ?_⟩,λhk=> ?_⟩
 .have ag:=Ba hx;have af:=ac.1.2 x ag;have ad:=h2;simp only[AW,AL,B3] at ad;refine⟨af.1,by rw[h5];exact af.2,λlb ak=>⟨⟨Z1 (Vw _ _ aa x ag).1,ad.1,by omega⟩,?_⟩⟩;have z:EF m a (k+1)=N8 m t x:=by simp only[EF,hx,Q]
  simp only[N8,ak,AO] at z;have aq: ∀t',EF m a (k+1)=some t'-> ∃k':{k:Nat×List (Ab×Int)//k.1<=a.Tiles.length/\EF m a k.1=some k.2},k'.1=(k+1,t'):=λt' h=>⟨⟨(k+1,t'),by simp only;omega,h⟩,rfl⟩
  rw[Ml];obtain⟨bp,hbp⟩: ∃bp,bp=NS x.At m.Scale:=⟨_,rfl⟩;simp only[<-hbp] at z⊢;refine⟨λv hv=> ?_,λhv=> ?_⟩
  .simp only[ZA,simprocAttr,Af.d,sub,AR,Wt];have ab:Bz t bp.1=some v:=hv;rw[ab,AO] at z;refine⟨λc1=> ?_,λc1=>⟨λc2=> ?_,λc2=> ?_⟩⟩
   .rw[Ak c1] at z;exact⟨⟨(k+1,t),by simp only;omega,z⟩,by simp only;omega,by rw[AC (by omega) (by omega)];simp only;omega,rfl⟩
   .first
     |(rw[Ad c1,Ak c2] at z
       exact (Qzg (by omega) z).symm)
     |(rw[Ad c1,Ad (λh=>h c2)] at z
       exact⟨⟨(k+1,_),by simp only;omega,z⟩,by simp only;omega,by rw[AC (by omega) (by omega)];simp only;omega,rfl⟩)
   .first
     |(rw[Ad c1,Ak c2] at z
       exact (Qzg (by omega) z).symm)
     |(rw[Ad c1,Ad c2] at z
       exact⟨⟨(k+1,_),by simp only;omega,z⟩,by simp only;omega,by rw[AC (by omega) (by omega)];simp only;omega,rfl⟩)
  .simp only[ZA,simprocAttr,Wt];have ab:Bz t bp.1=none:=hv;rw[ab,Zeh] at z;refine⟨λc1=> ?_,λc1=> ?_⟩
   .rw[Ak c1] at z;exact⟨⟨(k+1,t),by simp only;omega,z⟩,by simp only;omega,by rw[AC (by omega) (by omega)];simp only;omega,rfl⟩
   .rw[Ad c1,Ad (by simp)] at z;exact⟨⟨(k+1,_),by simp only;omega,z⟩,by simp only;omega,by rw[AC (by omega) (by omega)];simp only;omega,rfl⟩
 .have ai:k=a.Tiles.length:=by omega
  subst ai;refine AU.ren ⟨{s:Option (D×D)×List (Ab×Int)×List Ah//(s.2.2++s.2.1.map C9).Perm (t.map C9)},λs=>⟨[(61,.it 5),(14,.own 6),(4,.ptr 2 0)],[(6,(true,.arr 97 3 (s.1.2.2.map Ah.c))),(5,(true,.iter s.1.1 (s.1.2.1.map Em))),(2,(true,.cells 38 [.im (.sl true 0 [])]))],7⟩,λs=>s.1.2.1.length,λs=>⟨by simp[ZG],by simp⟩,⟨⟨(none,t,[]),by simp⟩,[(6,some 4)],?_⟩,λs=> ?_⟩
  .simp only[Aw];simp only[ZA,simprocAttr]
   try simp
  obtain⟨⟨ao,left,O⟩,hs⟩:=s;simp only at hs;simp only[ZA,simprocAttr,Af.d,asmOf.q,asmOf.fv];refine⟨λhl=> ?_,λi p hp=> ?_⟩
  .have aj:left=[]:=by simpa using hl
   subst aj;rw[GX,DA] at hs;obtain⟨r1,r2,r3⟩:=MH Q hs;exact⟨⟨r2,by omega⟩,r1.symm⟩
  .rw[Du] at hp;cases hq:left[i]? with
   |none=>rw[hq] at hp;cases hp
   |some q=>
    rw[hq] at hp;obtain rfl:=A7 hp;obtain⟨⟨qx,qy⟩,qn⟩:=q;simp only[Em,Ab.c];simp only[ZA,simprocAttr];have hi:i<left.length:=by
     rcases EI i left.length with h|h
     .exact h
     .rw[Fm h] at hq;cases hq
    have am:((⟨qx,qy⟩,qn)::left.eraseIdx i).Perm left:=Qqq _ _ _ hq;have hP:((O++[(⟨⟨qx,qy⟩,qn⟩:Ah)])++(left.eraseIdx i).map C9).Perm (t.map C9):=by
     rw[Fb];refine (ZeW O ?_).trans hs;exact am.map C9
    have hcl:O.length<=a.Tiles.length:=by
     have r3:=(MH Q hs).2.2;simp at r3;omega
    refine⟨by simp[BY,BK,D.one],by omega,⟨⟨(some (D.agg [.int .i64 qx,.int .i64 qy],D.int .i64 qn),left.eraseIdx i,O++[(⟨⟨qx,qy⟩,qn⟩:Ah)]),hP⟩,[(6,some 9)],?_,?_⟩⟩
    .simp only[Zei];rw[Ak hi];omega
    .simp only[Aw];simp only[ZA,simprocAttr];simp[Ah.c,Qwf]
def Hf(c:Cp)(p:Ab)(t:Int):Cp:=⟨c.Sys,Bt c.Tl p t,GV c.Sys (C5 (Bt c.Tl p t)) (Ed c.Op p) p 4⟩
def Yq{s:Az}{t:List (Ab×Int)}{p:Ab}{v:Int}(h:aK s (C5 t))(z:Fi s v):aK s (C5 (Bt t p v)):=by
 intro q hq;simp only[C5,fN] at hq⊢;by_cases c:q=p
 .rw[Ak c];exact z
 .rw[Ad c] at hq⊢;exact h q hq
def putC.ca(a:Cp×Ab×Int):List AV:=[.ptr 0 0,.im (.agg [.int .i64 a.2.1.X,.int .i64 a.2.1.Y]),.im (.int .i64 a.2.2)]
def putC.H1(a:Cp×Ab×Int):Ao:=[(1,(true,.map ⟨true,[.int .i64,.int .i64]⟩ ((Hf a.1 a.2.1 a.2.2).Tl.map Em))),(2,(true,.map ⟨true,[.int .i64,.int .i64]⟩ ((Hf a.1 a.2.1 a.2.2).Op.map Dd)))]
def DT(j:Nat):Bool:=j==1||j==2
def putC.row:Ay:=AA putC.ca (λa=>BZ a.1) 3 (λa=>VL a.1/\G4 a.2.1/\Fi a.1.Sys.Set a.2.2) DT (λ_=> .im (.tup [])) putC.H1 0
def putC.ok:A9 171 putC.row:=by
 refine ow (tC lookC.ok tN) Tryz.func171 (exB:=λ_=>false) (R:=λ_ r=>r= .im (.tup [])) (λ_=>rfl)
  (λa=>by simp[putC.ca,BZ,C4,AE,AV.bel,Au,BB,BU,Ac.nms,AB,AV.nms,Al,hget]) (λa p hp=> ?_) (λa r h=>by subst h;exact CN.refl _) ?_
 rotate_left
 intro a O;simp only[Tryz.f171,putC.ca,BZ,C4,putC.H1];simp only[ZA,simprocAttr];obtain⟨z,Q,Z⟩:=O;rw[Wt,RP];have hq:VL ⟨a.1.Sys,Bt a.1.Tl a.2.1 a.2.2,Ed a.1.Op a.2.1⟩:=⟨z.1,Yq z.2.1 Z,z.2.2⟩;refine AA.os (⟨a.1.Sys,Bt a.1.Tl a.2.1 a.2.2,Ed a.1.Op a.2.1⟩,a.2.1) [0,1,2] ⟨hq,Q⟩ (λj=>JR _ j) rfl rfl ?_ ?_
 .simp only[ZA,simprocAttr,DL,BZ,C4,lookC.ca,BZ,C4]
 .simp only[ZA,simprocAttr,DL,DT,lookC.H1,wU,Hf]
 simp[putC.H1] at hp;rcases hp with rfl|rfl
 .exact .inl ⟨by omega,rfl,rfl⟩
 .exact .inl ⟨by omega,rfl,rfl⟩
def asmC.ca(_:Cp):List AV:=[.ptr 0 0]
def klA(j:Nat):Bool:=j==1
def Ot{t:List (Ab×Int)}{l:List Ah}(hd:(t.map Prod.fst).Nodup)(h:l.Perm (t.map C9)):EZ l=EZ (t.map C9)/\(l.map Ah.At).Nodup/\l.length=t.length:=by
 have z:((t.map C9).map Ah.At).Nodup:=by rw[QA];exact hd
 refine⟨lR z ((Wx l).trans h) (lY l),(h.map Ah.At).nodup_iff.2 z,by rw[h.length_eq,F7]⟩
def Xf(t:List (Ab×Int)):Af:=⟨EZ (t.map C9)⟩
end Go.Ae
namespace Go.Ae
end Go.Ae
namespace Go.Ae
open Go.Proofs
def oW{s:AG}{b:Af}{o:AD}(h:C7 s b o=true):DY o.At=true/\G4 o.At/\0<=o.Tile/\o.Tile<s.Set.Tiles.length/\Fi s.Set o.Tile/\(∀x∈b.Tiles,x.At≠o.At):=by
 simp only[C7,AL,B3] at h;obtain⟨O,z,Q,_⟩:=h;simp only[AW,AL,B3] at z;exact⟨O,Z1 O,z.1,by omega,⟨z.1,by omega⟩,eV Q⟩
def Yv{s:AG}{t:List (Ab×Int)}{a:Af}{k:Nat}{o:AD}(h:RM t a k)(ha:FB s.Set a)(c1:C7 s a o=true):Bz t o.At=none/\0<=o.Tile:=by
 simp only[C7,AL,B3] at c1;obtain⟨d1,z,O,_⟩:=c1;have hv:0<=o.Tile:=by
  simp only[AW,AL,B3] at z;exact z.1
 refine⟨?_,hv⟩;have Q:C5 t o.At=Bj a o.At:=congrFun h.at o.At;have h2:=(Iy ha.2 o.At).1 O;cases hq:Bz t o.At with
 |none=>rfl
 |some v=>
  exfalso;have Z:=h.pos _ (bQ hq);simp only[C5,hq,AO] at Q;simp only at Z;omega
def Qado(l:List Int)(i:Nat)(x:Int):(l.map Aj).set i [.int .i64 x]=(l.set i x).map Aj:=by rw[Of];rfl
def OK(k:Int)(n:Nat):List Int:=(List.range n).map λ(i:Nat)=>k+(i:Int)
def bU(k:Int)(n:Nat):(OK k n).length=n:=by simp[OK]
def Tg(k:Int)(n:Nat):OK k (n+1)=OK k n++[k+(n:Int)]:=by simp[OK,mL]
def Hb(k:Int)(l:List Int)(i:Nat):List Int:=OK k i++l.drop i
def Tj{k:Int}{l:List Int}{i:Nat}(h:i<=l.length):(Hb k l i).length=l.length:=by simp[Hb,bU];omega
def Tk{k:Int}{l:List Int}{i:Nat}(h:i<l.length):(Hb k l i).set i (k+(i:Int))=Hb k l (i+1):=by
 have hd:l.drop i=l[i]::l.drop (i+1):=by rw[V3 h]
 rw[Hb,mI _ _ (by rw[bU];omega),bU,hd,HA,fQ,Hb,Tg];simp
def Ti{k:Int}{l:List Int}{i:Nat}(h:i=l.length):Hb k l i=OK k l.length:=by
 subst h;simp[Hb]
def mkIC.ca(a:List Int×Int):List AV:=[.own 0,.im (.int .i64 a.2)]
def mkIC.H0(a:List Int×Int):Ao:=[(0,(true,.arr 2 1 (a.1.map Aj)))]
def mkIC.H1(a:List Int×Int):Ao:=[(0,(true,.arr 2 1 ((OK a.2 a.1.length).map Aj)))]
def mkIC.row:Ay:=AA mkIC.ca mkIC.H0 1 (λa=>0<=a.2/\a.2+a.1.length<=1099511627776) (λj=>j==0) (λa=> .im (.int .i64 (a.2+a.1.length))) mkIC.H1 0
def mkIC.ok:A9 14 mkIC.row:=by
 refine ow tN Tryz.func14 (exB:=λ_=>false) (R:=λa r=>r= .im (.int .i64 (a.2+a.1.length))) (λ_=>rfl)
  (λa=>by simp[mkIC.ca,mkIC.H0,AE,AV.bel,Au,BB,BU,Ac.nms,Al,hget]) (λa p hp=> ?_) (λa r h=>by subst h;exact CN.refl _) ?_
 rotate_left
 intro a z;simp only[Tryz.f14,mkIC.ca,mkIC.H0,mkIC.H1];simp only[ZA,simprocAttr];obtain⟨l,k⟩:=a;simp only at z⊢;obtain⟨h1,h2⟩:=z;refine AU.old ⟨{i:Nat//i<=l.length},λi=>⟨[(5,.im (.int .i64 i.1)),(4,.im (.int .i64 0)),(1,.im (.int .i64 (k+i.1))),(0,.own 0)],[(0,(true,.arr 2 1 ((Hb k l i.1).map Aj)))],1⟩,λi=>l.length - i.1,λi=>⟨by simp[ZG],by simp⟩,⟨⟨0,by simp⟩,by simp only[ZA,simprocAttr,sub];simp[Hb,OK]⟩,λi=> ?_⟩;obtain⟨i,Q⟩:=i;have Z:=Tj (k:=k) Q;simp only[ZA,simprocAttr,sub,AR,Z];intro _;refine⟨λO=>⟨O,O,λx _=>⟨⟨i+1,by omega⟩,by simp only;omega,⟨?_,?_⟩,?_⟩⟩,λO=>⟨by omega,by rw[Ti (by omega)]⟩⟩
 .rw[AC (by omega) (by omega)];simp only;omega
 .rw[AC (by omega) (by omega)];simp only;omega
 .rw[Qado,Tk O]
 simp[mkIC.H1] at hp;subst hp;exact .inl ⟨by omega,rfl,rfl⟩
def K0(n:Nat):ByteArray:=if h:n=0 then ByteArray.empty else K0 (n/10)++Hg [IntKind.u8.wrap (48+((n % 10:Nat):Int))] termination_by n
def Hc(k:Int):ByteArray:=if k<=0 then "m0".toUTF8 else "m".toUTF8++K0 k.toNat
def mkText.fv(a:Int):ByteArray:=(Hc) a
def mkText.row:Ay:=vK (b1 qI) rT (λa=>a<=1099511627776) mkText.fv
def mkText.q:=AT (R:=mkText.row) rfl
def mkText.ok:A9 149 mkText.row:=by
 refine vw tN Tryz.func149 ?_;intro a Z;simp only[Tryz.f149];simp only[ZA,simprocAttr,mkText.fv];by_cases c0:a<=0
 .rw[Ak c0];simp only[Hc];rw[Ak c0];rfl
 rw[Ad c0];have eR:Hc a= "m".toUTF8++K0 a.toNat:=by simp only[Hc];rw[Ad c0]
 refine AU.old ⟨{q:Nat×ByteArray//(q.1:Int)<=a/\K0 a.toNat=K0 q.1++q.2/\q.2.size+q.1<=a.toNat},λq=>⟨[(3,.im (.str q.1.2)),(0,.im (.int .i64 q.1.1))],[],0⟩,λq=>q.1.1,λq=>⟨by simp[ZG],by simp⟩,⟨⟨(a.toNat,ByteArray.empty),by simp only;exact⟨by omega,by simp,by simp⟩⟩,by simp only[ZA,simprocAttr,sub];exact⟨rfl,by omega⟩⟩,λq=> ?_⟩;obtain⟨⟨q,out⟩,O,z,Q⟩:=q;simp only at O z Q;simp only[ZA,simprocAttr,sub,AR];refine⟨λc1=> ?_,λc1=> ?_⟩
 .have hq:q≠0:=by omega
  have e1:(q:Int).tmod 10=((q % 10:Nat):Int):=by rw[fS (by omega)];omega
  have e2:(q:Int).tdiv 10=((q/10:Nat):Int):=by rw[Zdg (by omega)];omega
  have e3:IntKind.i64.wrap (48+(q:Int).tmod 10)=48+((q % 10:Nat):Int):=by rw[e1];exact AC (by omega) (by omega)
  rw[e3,e2];have hs:({data:= #[UInt8.ofNat (IntKind.u8.wrap (48+((q % 10:Nat):Int))).toNat]}:ByteArray)=Hg [IntKind.u8.wrap (48+((q % 10:Nat):Int))]:=rfl;have hz:(Hg [IntKind.u8.wrap (48+((q % 10:Nat):Int))]).size=1:=rfl;rw[hs];refine⟨by omega,⟨(q/10,Hg [IntKind.u8.wrap (48+((q % 10:Nat):Int))]++out),by simp only;omega,?_,?_⟩,by simp only;omega,rfl,by exact AC (by omega) (by omega)⟩
  .simp only;rw[z,K0,dif_neg hq,ByteArray.append_assoc]
  .simp only[ByteArray.size_append,hz];omega
 .have hq:q=0:=by omega
  subst hq;refine⟨by show 1+out.size<=_;omega,?_⟩;rw[eR,z,K0,dif_pos rfl,ByteArray.empty_append];rfl
def JG{A:Type}(f:Nat->A)(l:List A)(i:Nat):List A:=(List.range i).map f++l.drop i
def cD{A:Type}{f:Nat->A}{l:List A}{i:Nat}(h:i<=l.length):(JG f l i).length=l.length:=by simp[JG];omega
def cA{A:Type}(f:Nat->A)(l:List A):JG f l 0=l:=by simp[JG]
def cF{A:Type}{f:Nat->A}{l:List A}{i:Nat}(h:i<l.length):(JG f l i).set i (f i)=JG f l (i+1):=by
 have hd:l.drop i=l[i]::l.drop (i+1):=by rw[V3 h]
 have z:((List.range i).map f).length=i:=by simp
 rw[JG,mI _ _ (by rw[z];omega),z,hd,HA,fQ,JG,mL];simp
def Dq{A:Type}(f:Nat->A)(n:Nat):List A:=(List.range n).map f
def cH{A:Type}{f:Nat->A}{l:List A}{i:Nat}(h:i=l.length):JG f l i=Dq f l.length:=by
 subst h;simp[JG,Dq]
def gF(k:Int)(i:Nat):Am:=⟨Hc (k+2*i),k+2*i+1⟩
def mkGC.ca(a:List Am×Int):List AV:=[.own 0,.im (.int .i64 a.2)]
def mkGC.H0(a:List Am×Int):Ao:=[(0,(true,.arr 167 2 (a.1.map Am.c)))]
def mkGC.H1(a:List Am×Int):Ao:=[(0,(true,.arr 167 2 ((Dq (gF a.2) a.1.length).map Am.c)))]
def mkGC.row:Ay:=AA mkGC.ca mkGC.H0 1 (λa=>0<=a.2/\a.2+2*a.1.length<=1099511627776) (λj=>j==0) (λa=> .im (.int .i64 (a.2+2*a.1.length))) mkGC.H1 0
def mkGC.ok:A9 111 mkGC.row:=by
 refine ow (tC mkText.ok tN) Tryz.func111 (exB:=λ_=>false) (R:=λa r=>r= .im (.int .i64 (a.2+2*a.1.length))) (λ_=>rfl)
  (λa=>by simp[mkGC.ca,mkGC.H0,AE,AV.bel,Au,BB,BU,Ac.nms,Al,hget]) (λa p hp=> ?_) (λa r h=>by subst h;exact CN.refl _) ?_
 rotate_left
 intro a z;simp only[Tryz.f111,mkGC.ca,mkGC.H0,mkGC.H1];simp only[ZA,simprocAttr];obtain⟨l,k⟩:=a;simp only at z⊢;obtain⟨h1,h2⟩:=z;refine AU.old ⟨{i:Nat//i<=l.length},λi=>⟨[(5,.im (.int .i64 i.1)),(4,.im (.int .i64 0)),(1,.im (.int .i64 (k+2*i.1))),(0,.own 0)],[(0,(true,.arr 167 2 ((JG (gF k) l i.1).map Am.c)))],1⟩,λi=>l.length - i.1,λi=>⟨by simp[ZG],by simp⟩,⟨⟨0,by simp⟩,by simp only[ZA,simprocAttr,sub,cA];simp⟩,λi=> ?_⟩;obtain⟨i,aa⟩:=i;have Z:=cD (f:=gF k) aa;simp only[ZA,simprocAttr,mkText.q,mkText.fv,AR,Z];intro _;refine⟨λQ=>⟨by omega,Q,Q,λx hx=> ?_⟩,λQ=> ?_⟩
 .have w1:IntKind.i64.wrap (k+2*(i:Int)+1)=k+2*(i:Int)+1:=AC (by omega) (by omega);have O:i<(List.map Am.c (JG (gF k) l i)).length:=by rw[F7,Z];exact Q
  refine⟨by rw[Fc];exact O,by rw[Fc];exact O,J0 (Dv O) ?_⟩;simp only[ZA,simprocAttr,sub,w1,vT];refine⟨⟨i+1,by omega⟩,by simp only;omega,⟨?_,?_⟩,?_⟩
  .rw[AC (by omega) (by omega)];simp only;omega
  .rw[AC (by omega) (by omega)];simp only;omega
  .simp only;rw[<-cF Q,Of];rfl
 .exact⟨by omega,by rw[cH (by omega)]⟩
 simp[mkGC.H1] at hp;subst hp;exact .inl ⟨by omega,rfl,rfl⟩
def pF(k:Int)(i:Nat):Ah:=⟨⟨k+3*i,k+3*i+1⟩,k+3*i+2⟩
def mkPC.ca(a:List Ah×Int):List AV:=[.own 0,.im (.int .i64 a.2)]
def mkPC.H0(a:List Ah×Int):Ao:=[(0,(true,.arr 97 3 (a.1.map Ah.c)))]
def mkPC.H1(a:List Ah×Int):Ao:=[(0,(true,.arr 97 3 ((Dq (pF a.2) a.1.length).map Ah.c)))]
def mkPC.row:Ay:=AA mkPC.ca mkPC.H0 1 (λa=>0<=a.2/\a.2+3*a.1.length<=1099511627776) (λj=>j==0) (λa=> .im (.int .i64 (a.2+3*a.1.length))) mkPC.H1 0
def mkPC.ok:A9 37 mkPC.row:=by
 refine ow tN Tryz.func37 (exB:=λ_=>false) (R:=λa r=>r= .im (.int .i64 (a.2+3*a.1.length))) (λ_=>rfl)
  (λa=>by simp[mkPC.ca,mkPC.H0,AE,AV.bel,Au,BB,BU,Ac.nms,Al,hget]) (λa p hp=> ?_) (λa r h=>by subst h;exact CN.refl _) ?_
 rotate_left
 intro a O;simp only[Tryz.f37,mkPC.ca,mkPC.H0,mkPC.H1];simp only[ZA,simprocAttr];obtain⟨l,k⟩:=a;simp only at O⊢;obtain⟨h1,h2⟩:=O;refine AU.old ⟨{i:Nat//i<=l.length},λi=>⟨[(5,.im (.int .i64 i.1)),(4,.im (.int .i64 0)),(1,.im (.int .i64 (k+3*i.1))),(0,.own 0)],[(0,(true,.arr 97 3 ((JG (pF k) l i.1).map Ah.c)))],1⟩,λi=>l.length - i.1,λi=>⟨by simp[ZG],by simp⟩,⟨⟨0,by simp⟩,by simp only[ZA,simprocAttr,sub,cA];simp⟩,λi=> ?_⟩;obtain⟨i,aa⟩:=i;have Z:=cD (f:=pF k) aa;simp only[ZA,simprocAttr,AR,Z];intro _;refine⟨λQ=>⟨Q,Q,λx hx=> ?_⟩,λQ=> ?_⟩
 .have w1:IntKind.i64.wrap (k+3*(i:Int)+1)=k+3*(i:Int)+1:=AC (by omega) (by omega);have w2:IntKind.i64.wrap (k+3*(i:Int)+1+1)=k+3*(i:Int)+2:=(AC (by omega) (by omega)).trans (by omega);have z:i<(List.map Ah.c (JG (pF k) l i)).length:=by rw[F7,Z];exact Q
  simp only[w1];refine⟨by rw[Fc];exact z,by rw[Fc];exact z,J0 (Dv z) ?_⟩;simp only[ZA,simprocAttr,w2,vT];refine⟨by rw[Fc];exact z,by rw[Fc];exact z,J0 (Dv z) ?_⟩;simp only[ZA,simprocAttr,sub,vT];refine⟨⟨i+1,by omega⟩,by simp only;omega,⟨?_,?_⟩,?_⟩
  .rw[AC (by omega) (by omega)];simp only;omega
  .rw[AC (by omega) (by omega)];simp only;omega
  .simp only;rw[<-cF Q,Of];rfl
 .exact⟨by omega,by rw[cH (by omega)]⟩
 simp[mkPC.H1] at hp;subst hp;exact .inl ⟨by omega,rfl,rfl⟩
def oF(k:Int)(i:Nat):AD:=⟨⟨k+3*i,k+3*i+1⟩,k+3*i+2⟩
def mkOC.ca(a:List AD×Int):List AV:=[.own 0,.im (.int .i64 a.2)]
def mkOC.H0(a:List AD×Int):Ao:=[(0,(true,.arr 72 3 (a.1.map AD.c)))]
def mkOC.H1(a:List AD×Int):Ao:=[(0,(true,.arr 72 3 ((Dq (oF a.2) a.1.length).map AD.c)))]
def mkOC.row:Ay:=AA mkOC.ca mkOC.H0 1 (λa=>0<=a.2/\a.2+3*a.1.length<=1099511627776) (λj=>j==0) (λa=> .im (.int .i64 (a.2+3*a.1.length))) mkOC.H1 0
def mkOC.ok:A9 15 mkOC.row:=by
 refine ow tN Tryz.func15 (exB:=λ_=>false) (R:=λa r=>r= .im (.int .i64 (a.2+3*a.1.length))) (λ_=>rfl)
  (λa=>by simp[mkOC.ca,mkOC.H0,AE,AV.bel,Au,BB,BU,Ac.nms,Al,hget]) (λa p hp=> ?_) (λa r h=>by subst h;exact CN.refl _) ?_
 rotate_left
 intro a O;simp only[Tryz.f15,mkOC.ca,mkOC.H0,mkOC.H1];simp only[ZA,simprocAttr];obtain⟨l,k⟩:=a;simp only at O⊢;obtain⟨h1,h2⟩:=O;refine AU.old ⟨{i:Nat//i<=l.length},λi=>⟨[(5,.im (.int .i64 i.1)),(4,.im (.int .i64 0)),(1,.im (.int .i64 (k+3*i.1))),(0,.own 0)],[(0,(true,.arr 72 3 ((JG (oF k) l i.1).map AD.c)))],1⟩,λi=>l.length - i.1,λi=>⟨by simp[ZG],by simp⟩,⟨⟨0,by simp⟩,by simp only[ZA,simprocAttr,sub,cA];simp⟩,λi=> ?_⟩;obtain⟨i,aa⟩:=i;have Z:=cD (f:=oF k) aa;simp only[ZA,simprocAttr,AR,Z];intro _;refine⟨λQ=>⟨Q,Q,λx hx=> ?_⟩,λQ=> ?_⟩
 .have w1:IntKind.i64.wrap (k+3*(i:Int)+1)=k+3*(i:Int)+1:=AC (by omega) (by omega);have w2:IntKind.i64.wrap (k+3*(i:Int)+1+1)=k+3*(i:Int)+2:=(AC (by omega) (by omega)).trans (by omega);have z:i<(List.map AD.c (JG (oF k) l i)).length:=by rw[F7,Z];exact Q
  simp only[w1];refine⟨by rw[Fc];exact z,by rw[Fc];exact z,J0 (Dv z) ?_⟩;simp only[ZA,simprocAttr,w2,vT];refine⟨by rw[Fc];exact z,by rw[Fc];exact z,J0 (Dv z) ?_⟩;simp only[ZA,simprocAttr,sub,vT];refine⟨⟨i+1,by omega⟩,by simp only;omega,⟨?_,?_⟩,?_⟩
  .rw[AC (by omega) (by omega)];simp only;omega
  .rw[AC (by omega) (by omega)];simp only;omega
  .simp only;rw[<-cF Q,Of];rfl
 .exact⟨by omega,by rw[cH (by omega)]⟩
 simp[mkOC.H1] at hp;subst hp;exact .inl ⟨by omega,rfl,rfl⟩
def toIX.ca(a:List Int):List AV:=[.im (.sl false 1 (a.map Aj))]
def toIX.H1(a:List Int):Ao:=[(1,(true,.arr 2 1 (a.map Aj)))]
def toIX.row:Ay:=AA toIX.ca (λ_=>[]) 0 (λa=>a.length<=1073741824) (λ_=>false) (λ_=> .own 1) toIX.H1 2
def toIX.ok:A9 7 toIX.row:=by
 refine ow tN Tryz.func7 (exB:=λj=>j==1) (R:=λ_ r=>r= .own 1) (λ_=>rfl)
  (λa=>by simp[toIX.ca,AE,AV.bel,Au,BB,BU]) (λa p hp=> ?_) (λa r h=>by subst h;exact CN.refl _) ?_
 rotate_left
 intro a z;simp only[Tryz.f7,toIX.ca,toIX.H1];simp only[ZA,simprocAttr];intro Z;have aa:a.length<=1073741824:=z;refine⟨by omega,?_⟩;refine AU.old ⟨{k:Nat//k<=a.length},λk=>⟨[(4,.im (.int .i64 k.1)),(3,.own 1),(0,.im (.sl false 1 (a.map Aj)))],[(1,(true,.arr 2 1 ((a.take k.1).map Aj++List.replicate (a.length - k.1) [.int .i64 0])))],2⟩,λk=>a.length - k.1,λk=>⟨by simp[ZG],AN _⟩,⟨⟨0,by omega⟩,by simp only[ZA,simprocAttr,sub];simp⟩,λk=> ?_⟩;obtain⟨k,Q⟩:=k;simp only[ZA,simprocAttr,AR,eN _ _ a k Q];intro _;refine⟨λO=> ?_,λO=> ?_⟩
 .refine⟨O,λx hx=>⟨O,O,J0 (eI Aj _ a k x hx) ?_⟩⟩;simp only[ZA,simprocAttr,sub];refine⟨⟨k+1,by omega⟩,by simp only;omega,?_,?_⟩
  .rw[AC (by omega) (by omega)];simp only;omega
  .exact eS Aj _ a k x hx
 .rw[eO Aj _ a k (by omega)]
  try trivial
 simp[toIX.H1] at hp;subst hp;exact .inr ⟨by omega,by omega,rfl,rfl⟩
def toGX.ca(a:List Am):List AV:=[.im (.sl false 2 (a.map Am.c))]
def toGX.H1(a:List Am):Ao:=[(1,(true,.arr 167 2 (a.map Am.c)))]
def toGX.row:Ay:=AA toGX.ca (λ_=>[]) 0 (λa=>a.length<=1073741824) (λ_=>false) (λ_=> .own 1) toGX.H1 2
def toGX.ok:A9 87 toGX.row:=by
 refine ow (tC toGlue.ok tN) Tryz.func87 (exB:=λj=>j==1) (R:=λ_ r=>r= .own 1) (λ_=>rfl)
  (λa=>by simp[toGX.ca,AE,AV.bel,Au,BB,BU]) (λa p hp=> ?_) (λa r h=>by subst h;exact CN.refl _) ?_
 rotate_left
 intro a z;simp only[Tryz.f87,toGX.ca,toGX.H1];simp only[ZA,simprocAttr];intro Z;have aa:a.length<=1073741824:=z;refine⟨by omega,?_⟩;refine AU.old ⟨{k:Nat//k<=a.length},λk=>⟨[(4,.im (.int .i64 k.1)),(3,.own 1),(0,.im (.sl false 2 (a.map Am.c)))],[(1,(true,.arr 167 2 ((a.take k.1).map Am.c++List.replicate (a.length - k.1) [.str ByteArray.empty,.int .i64 0])))],2⟩,λk=>a.length - k.1,λk=>⟨by simp[ZG],AN _⟩,⟨⟨0,by omega⟩,by simp only[ZA,simprocAttr,sub];simp⟩,λk=> ?_⟩;obtain⟨k,Q⟩:=k;simp only[ZA,simprocAttr,toGlue.q,toGlue.fv,AR,eN _ _ a k Q];intro _;refine⟨λO=> ?_,λO=> ?_⟩
 .refine⟨O,λx hx=>⟨O,O,J0 (eI Am.c _ a k x hx) ?_⟩⟩;simp only[ZA,simprocAttr,sub];refine⟨⟨k+1,by omega⟩,by simp only;omega,?_,?_⟩
  .rw[AC (by omega) (by omega)];simp only;omega
  .exact eS Am.c _ a k x hx
 .rw[eO Am.c _ a k (by omega)]
  try trivial
 simp[toGX.H1] at hp;subst hp;exact .inr ⟨by omega,by omega,rfl,rfl⟩
def toPX.ca(a:List Ah):List AV:=[.im (.sl false 3 (a.map Ah.c))]
def toPX.H1(a:List Ah):Ao:=[(1,(true,.arr 97 3 (a.map Ah.c)))]
def toPX.row:Ay:=AA toPX.ca (λ_=>[]) 0 (λa=>a.length<=1073741824) (λ_=>false) (λ_=> .own 1) toPX.H1 2
def toPX.ok:A9 89 toPX.row:=by
 refine ow (tC toPlaced.ok tN) Tryz.func89 (exB:=λj=>j==1) (R:=λ_ r=>r= .own 1) (λ_=>rfl)
  (λa=>by simp[toPX.ca,AE,AV.bel,Au,BB,BU]) (λa p hp=> ?_) (λa r h=>by subst h;exact CN.refl _) ?_
 rotate_left
 intro a z;simp only[Tryz.f89,toPX.ca,toPX.H1];simp only[ZA,simprocAttr];intro Z;have aa:a.length<=1073741824:=z;refine⟨by omega,?_⟩;refine AU.old ⟨{k:Nat//k<=a.length},λk=>⟨[(4,.im (.int .i64 k.1)),(3,.own 1),(0,.im (.sl false 3 (a.map Ah.c)))],[(1,(true,.arr 97 3 ((a.take k.1).map Ah.c++List.replicate (a.length - k.1) [.int .i64 0,.int .i64 0,.int .i64 0])))],2⟩,λk=>a.length - k.1,λk=>⟨by simp[ZG],AN _⟩,⟨⟨0,by omega⟩,by simp only[ZA,simprocAttr,sub];simp⟩,λk=> ?_⟩;obtain⟨k,Q⟩:=k;simp only[ZA,simprocAttr,toPlaced.q,toPlaced.fv,AR,eN _ _ a k Q];intro _;refine⟨λO=> ?_,λO=> ?_⟩
 .refine⟨O,λx hx=>⟨O,O,J0 (eI Ah.c _ a k x hx) ?_⟩⟩;simp only[ZA,simprocAttr,sub];refine⟨⟨k+1,by omega⟩,by simp only;omega,?_,?_⟩
  .rw[AC (by omega) (by omega)];simp only;omega
  .exact eS Ah.c _ a k x hx
 .rw[eO Ah.c _ a k (by omega)]
  try trivial
 simp[toPX.H1] at hp;subst hp;exact .inr ⟨by omega,by omega,rfl,rfl⟩
def toTX.ca(a:Tile):List AV:=[.im (.agg (Tile.c a))]
def toTX.r0(a:Tile):AV:= .agg [.im (.str a.Name),.own 4]
def toTX.H1(a:Tile):Ao:=[(4,(true,.arr 2 1 (a.Sides.map Aj)))]
def toTX.row:Ay:=AA toTX.ca (λ_=>[]) 0 (λa=>a.Sides.length<=1073741824) (λ_=>false) toTX.r0 toTX.H1 5
def toTX.ok:A9 128 toTX.row:=by
 refine ow (tC toIX.ok tN) Tryz.func128 (exB:=λj=>j==4) (R:=λa r=>r=toTX.r0 a) (λ_=>rfl)
  (λa=>by simp[toTX.ca,Tile.c,AE,AV.bel,Au,BB,BU]) (λa p hp=> ?_) (λa r h=>by subst h;exact CN.refl _) ?_
 rotate_left
 intro a z;simp only[Tryz.f128,toTX.ca,toTX.H1,Tile.c];simp only[ZA,simprocAttr];refine AA.os a.Sides [] z (λj=>by simp[Al,hget]) rfl rfl ?_ ?_
 .simp only[ZA,simprocAttr,toIX.ca,CO]
 simp only[ZA,simprocAttr,toIX.H1,toTX.r0]
 skip
 simp[toTX.H1] at hp;subst hp;exact .inr ⟨by omega,by omega,rfl,rfl⟩
def Dz(a:List Tile)(i:Nat):An:=(true,.arr 2 1 (((a[i]?.map Tile.Sides).getD []).map Aj))
def Jt(a:List Tile)(i:Nat):List AV:=[.im (.str ((a[i]?.map Tile.Name).getD ByteArray.empty)),.own (2+i)]
def nI:List AV:=[.im (.str ByteArray.empty),.im (.sl true 0 [])]
def Hu(a:List Tile)(k:Nat):List (List AV):=(List.range k).map (Jt a)++List.replicate (a.length - k) nI
def bZ{a:List Tile}{k:Nat}(h:k<=a.length):(Hu a k).length=a.length:=by simp[Hu];omega
def UZ{a:List Tile}{k i:Nat}(h:i<k):(Hu a k)[i]? =some (Jt a i):=by
 rw[Hu,EA (by simpa using h),Du,Ic h];rfl
def UY{a:List Tile}{k i:Nat}(h:k<=i)(z:i<a.length):(Hu a k)[i]? =some nI:=by
 rw[Hu,FQ (by simpa using h),Lv,Ak (by simp;omega)]
def Np(a:List Tile)(k N:Nat)(h:2+k<=N):(Hu a k).all (AE N)=true:=by
 rw[C6];intro r z;rcases Bs.1 z with z|z
 .obtain⟨i,O,rfl⟩:=Bh.1 z
  have:=Bv.1 O
  simp[Jt,AE,AV.bel];omega
 .obtain rfl:=Od z;simp[nI,AE,AV.bel]
def Va(a:List Tile):Hu a 0=Bp (List.replicate a.length [.str ByteArray.empty,.sl true 0 []]):=by
 simp[Hu,Bp,nI]
def Iv(h:Nat->Option An)(F:AV->Option AV)(b:Nat)(f:Nat->An)(n:Nat)(H: ∀i,i<n->h (b+i)=some (f i))(O: ∀i,i<n->Ck F (f i).2=some (f i).2):Eh h F (AS b n f):=by
 have: ∀(l:List Nat),(∀i∈l,i<n)->Eh h F (l.map λi=>(b+i,f i)):=by
  intro l;induction l with
  |nil=>intro _;simp[Eh]
  |cons i r ih=>
   intro z;simp only[Bg,Eh];refine⟨?_,ih (λj Z=>z j (BQ _ Z))⟩;rw[H i (z i (BR ..))];exact⟨rfl,O i (z i (BR ..))⟩
 exact this _ (λi Q=>Bv.1 Q)
def YU{h:Nat->Option An}{kx:Nat->Option Nat}{m:Nat}{a:List Tile}(O: ∀i,i<a.length->kx (2+i)=some (2+i)):Ar (Ar (Bb h kx (m+1))) (Hu a a.length)=some (Hu a a.length):=by
 have e:Hu a a.length=(List.range a.length).map (Jt a):=by simp[Hu]
 rw[e];refine Rb (g:=Jt a) (k:=Jt a) _ λi z=> ?_
 simp only[Jt,Ar,Bb,O i (Bv.1 z),kp]
def toLX.ca(a:List Tile):List AV:=[.im (.sl false 2 (a.map Tile.c))]
def toLX.H1(a:List Tile):Ao:=(1,(true,.arrA 170 2 (Hu a a.length)))::AS 2 (min a.length 1048576) (Dz a)
def toLX.pre(a:List Tile):Prop:=a.length<=1048576/\ ∀x∈a,x.Sides.length<=1073741824
def toLX.row:Ay:=AA toLX.ca (λ_=>[]) 0 toLX.pre (λ_=>false) (λ_=> .own 1) toLX.H1 2000000
def toLX.ok:A9 88 toLX.row:=by
 refine ow (tC toTX.ok tN) Tryz.func88 (exB:=λj=>Nat.ble 1 j) (R:=λ_ r=>r= .own 1) (λ_=>rfl)
  (λa=>by simp[toLX.ca,AE,AV.bel,Au,BB,BU]) (λa p hp=> ?_) (λa r h=>by subst h;exact CN.refl _) ?_
 rotate_left
 intro a ai;simp only[Tryz.f88,toLX.ca];simp(disch:=omega)only[ZA,simprocAttr];obtain⟨h1,h2⟩:=ai;intro _;refine⟨by omega,?_⟩;refine AU.ren ⟨{k:Nat//k<=a.length},λk=>⟨[(4,.im (.int .i64 k.1)),(3,.own 1),(0,.im (.sl false 2 (a.map Tile.c)))],(1,(true,.arrA 170 2 (Hu a k.1)))::AS 2 k.1 (Dz a),2+a.length⟩,λk=>a.length - k.1,λk=>⟨?_,by simp⟩,⟨⟨0,by simp⟩,[],?_⟩,λk=> ?_⟩
 .simp only[ZG,F5,DB];rw[QW _ _ _ (λi=>by simp[Au,Dz]),QJ _ _ _ _ (by omega),Np _ _ _ (by omega)];simp
  try omega
 .simp only[Aw,AS,Zfb,GX,Va];simp(disch:=omega)only[ZA,simprocAttr,uJ]
  try simp
 .obtain⟨k,aj⟩:=k;have af:=bZ (a:=a) aj;simp(disch:=omega)only[ZA,simprocAttr,AR,Bu];intro _;refine⟨λhk=>⟨by omega,hk,λx hx=> ?_⟩,λhk=> ?_⟩
  .refine AA.os x [] (h2 x (Ba hx)) (λj=>by simp[Al,hget]) rfl rfl ?_ ?_
   .simp(disch:=omega)only[ZA,simprocAttr,toTX.ca,CO,Tile.c]
   simp(disch:=omega)only[ZA,simprocAttr,toTX.H1,toTX.r0,af,Bu];refine⟨⟨by omega,by omega,by omega⟩,hk,by omega,hk,J0 (UY (AN _) hk) ?_⟩;simp only[nI];simp(disch:=omega)only[ZA,simprocAttr,Bu,AX];rw[VO 2 k (Dz a) [1] (by simp)];refine⟨⟨?_,by omega⟩,⟨k+1,by omega⟩,[(2+k,some (2+a.length+4))],by simp only;omega,?_⟩
   .rw[C6];intro r hr;rcases WU hr with hr|hr
    .exact C6.1 (Np a k _ (by omega)) r hr
    .subst hr;simp[AE,AV.bel]
   obtain⟨g,hg⟩: ∃g,g=pm [(2+k,some (2+a.length+4))]:=⟨_,rfl⟩;have qx:g (2+k)=some (2+a.length+4):=by rw[hg];simp[pm]
   have qo: ∀u,u≠2+k->g u=some u:=by intro u h;rw[hg];simp only[pm];rw[Ad (by omega)]
   have q1:pm [(2+k,some (2+a.length+4))] 1=some 1:=by rw[<-hg];exact qo 1 (by omega)
   have ab:=qx;have aa:=qo;rw[hg] at ab aa;refine⟨⟨by omega,trivial⟩,?_,?_,?_⟩
   .rw[eF,<-hg];simp only[Fk,Zk];refine eP _ _ (dQ [1] 2 (k+1) (by simp) (by simp)) ?_;have ad: ∀u∈[1]++(List.range (k+1)).map (2+ ·),u<2+a.length+1:=by
     intro u hu;rcases Bs.1 hu with hu|hu
     .simp at hu;omega
     .obtain⟨i,hi,rfl⟩:=Bh.1 hu
      have:=Bv.1 hi
      show 2+i<2+a.length+1;omega
    intro u hu v hv m z O;have am:=ad u hu;have an:=ad v hv;by_cases Q:u=2+k<;>by_cases Z:v=2+k
    .omega
    .rw[Q,qx] at z;rw[qo v Z] at O;simp only[AI] at z O;omega
    .rw[qo u Q] at z;rw[Z,qx] at O;simp only[AI] at z O;omega
    .rw[qo u Q] at z;rw[qo v Z] at O;simp only[AI] at z O;omega
   .simp only[Qb,A8];simp(disch:=omega)only[ZA,simprocAttr,q1];rw[AC (by omega) (by omega)];simp
   .simp only[GU,dZ];refine⟨?_,λi hi=> ?_⟩
    .simp(disch:=omega)only[ZA,simprocAttr,q1];rw[eQ];refine⟨by rw[Fc,af,bZ (by omega)],λi r1 r2 Q Z=> ?_⟩;have ag:i<a.length:=by
      have:=(Cx.1 Q).1
      rw[bZ (by omega)] at this;exact this
     by_cases ac:i=k
     .subst ac;rw[UZ (by omega)] at Q;rw[Dv (by rw[af];exact ag)] at Z;obtain rfl:=A7 Q;obtain rfl:=A7 Z;simp only[Jt,hx,CY,AO,DI,mt,ab,FK,Hr]
     .rw[DM (by omega)] at Z;by_cases ad:i<k
      .rw[UZ (by omega)] at Q Z;obtain rfl:=A7 Q;obtain rfl:=A7 Z;simp only[Jt,DI,mt,aa (2+i) (by omega),FK,Hr]
      .rw[UY (by omega) ag] at Q Z;obtain rfl:=A7 Q;obtain rfl:=A7 Z;simp only[nI,DI,mt,Hr]
    .show Eu _ _ true (.arr 2 1 (((a[i]?.map Tile.Sides).getD []).map Aj)) _;by_cases ac:i=k
     .subst ac;rw[ab];simp(disch:=omega)only[ZA,simprocAttr,hx,AO]
      try simp
     .rw[aa (2+i) (by omega)];simp(disch:=omega)only[ZA,simprocAttr,GK,WC,Dz]
      try simp
  .have ak:k=a.length:=by omega
   subst ak;refine⟨by omega,by omega,?_⟩;have ah:min a.length 1048576=a.length:=by omega
   obtain⟨H,hH⟩: ∃H,H=hget ((1,(true,Ac.arrA 170 2 (Hu a a.length)))::AS 2 a.length (Dz a)):=⟨_,rfl⟩;rw[<-hH];have kx: ∀i,i<a.length->(Ii [] 0 2000000 λj=>decide (1<=j)) (2+i)=some (2+i):=by
    intro i hi;have hb:(decide (1<=2+i) && (Nat.ble 0 (2+i) && Nat.blt (2+i) (0+2000000)))=true:=by
     simp only[AL,B3,G8,E4];omega
    simp only[Ii,Al,hget,Rm,mN,hb,Cg]
   have g1:H 1=some (true,.arrA 170 2 (Hu a a.length)):=by rw[hH];rfl
   simp only[toLX.H1,Eh,ah];refine⟨?_,Iv _ _ _ _ _ (λi hi=> ?_) (λi hi=>rfl)⟩
   .rw[g1];exact⟨rfl,by simp only[Ck];rw[YU kx];rfl⟩
   .rw[hH];simp only[hget,AX _ _ (show 1≠2+i by omega),Bq];exact GK _ _ _ _ hi
 simp only[toLX.H1,Be,AS,Bh,Bv] at hp;rcases hp with rfl|⟨i,hi,rfl⟩
 .exact .inr ⟨by omega,by omega,rfl,rfl⟩
 .exact .inr ⟨by simp only;omega,by simp only;omega,by simp only[G8];omega,rfl⟩
def GD(b:Nat)(a:List Tile):List (List AV):=(List.range a.length).map λi=>[.im (.str ((a[i]?.map Tile.Name).getD ByteArray.empty)),.own (b+i)]
def YV(σ:Nat->Nat)(b:Nat)(a:List Tile)(h: ∀i,i<a.length->σ (2+i)=b+i):(Hu a a.length).map (AJ σ)=GD b a:=by
 have e:Hu a a.length=(List.range a.length).map (Jt a):=by simp[Hu]
 rw[e,Oe];refine Kr λi z=> ?_
 simp only[Function.comp,Jt,AJ,AV.ren,h i (Bv.1 z)]
def YR(σ:Nat->Nat)(b n:Nat)(a:List Tile)(h: ∀i,i<n->σ (2+i)=b+i):AZ σ (AS 2 n (Dz a))=AS b n (Dz a):=by
 simp only[AS]
 have: ∀(l:List Nat),(∀i∈l,i<n)->AZ σ (l.map λi=>(2+i,Dz a i))=l.map λi=>(b+i,Dz a i):=by
  intro l;induction l with
  |nil=>intro _;rfl
  |cons i r ih=>
   intro z;have e:=ih (λj Q=>z j (BQ _ Q));simp only[Bg,AZ,h i (z i (BR ..)),Dz,Ac.ren] at e⊢;rw[e]
 exact this _ (λi O=>Bv.1 O)
def VN(k:List Nat)(nx cnt:Nat): ∀(H:Ao),(∀p∈H,nx<=p.1/\p.1<nx+cnt)->Hm k nx cnt H=true
 |[],_=>rfl
 |(i,e)::r,h=>by
  have z:=h (i,e) (BR ..);simp only at z;simp only[Hm,JW,VN k nx cnt r (λp hp=>h p (BQ _ hp)),F5,H8,AL,G8,E4];exact .inl z
def Nl(b:Nat)(a:List Tile)(N:Nat)(h:b+a.length<=N):(GD b a).all (AE N)=true:=by
 rw[C6];intro r O;obtain⟨i,z,rfl⟩:=Bh.1 O
 have:=Bv.1 z
 simp[AE,AV.bel];omega
def Vb{σ:Nat->Nat}{nx:Nat}(a:List Tile)(h: ∀j,σ j=nx+j):AZ σ (toLX.H1 a)=(nx+1,(true,.arrA 170 2 (GD (nx+2) a)))::AS (nx+2) (min a.length 1048576) (Dz a):=by
 simp only[toLX.H1,AZ,Ac.ren];rw[YV σ (nx+2) a (λi _=>by rw[h];omega),YR σ (nx+2) _ a (λi _=>by rw[h];omega),h]
def VP{b n:Nat}{f:Nat->An}{r:Ao}{m:Nat}(h:m<b):hget (AS b n f++r) m=hget r m:=by
 rw[IB,Qmh _ _ _ _ (.inl h)];rfl
def pE(ks:List Nat): ∀(a b:Ao),Bi (a++b) ks=Bi a ks++Bi b ks
 |[],b=>by simp[Bi]
 |(i,e)::r,b=>by
  simp only[De,Bi,pE ks r b];cases ks.contains i<;>rfl
def bT{b n:Nat}{f:Nat->An}{r:Ao}{k:Nat}(h:k<b):Bi (AS b n f++r) [k]=AS b n f++Bi r [k]:=by
 rw[pE,VO _ _ _ _ (λx z=>by rw[BS] at z;subst z;exact .inl h)]
def dJ{h:Nat->Option An}{kx:Nat->Option Nat}{m b:Nat}{a:List Tile}(O: ∀i,i<a.length->kx (b+i)=some (b+i)):Ar (Ar (Bb h kx (m+1))) (GD b a)=some (GD b a):=by
 refine Rb (g:=λi=>[AV.im (.str ((a[i]?.map Tile.Name).getD ByteArray.empty)),AV.own (b+i)]) (k:=λi=>[AV.im (.str ((a[i]?.map Tile.Name).getD ByteArray.empty)),AV.own (b+i)]) _ λi z=> ?_
 simp only[Ar,Bb,O i (Bv.1 z),kp]
def KB{lo cnt m:Nat}(O:lo<=m)(Q:m<cnt):(Ii [] 0 cnt λj=>decide (lo<=j)) m=some m:=by
 have z:(decide (lo<=m) && (Nat.ble 0 m && Nat.blt m (0+cnt)))=true:=by
  simp only[AL,B3,G8,E4];omega
 simp only[Ii,Al,hget,Rm,mN,z,Cg]
def toSX.ca(a:Az):List AV:=[.im (.agg (Az.c a))]
def toSX.r0:AV:= .agg [.own 4,.own 6]
def toSX.H1(a:Az):Ao:=(4,(true,.arr 167 2 (a.Glues.map Am.c)))::(6,(true,.arrA 170 2 (GD 7 a.Tiles)))::AS 7 (min a.Tiles.length 1048576) (Dz a.Tiles)
def toSX.pre(a:Az):Prop:=a.Glues.length<=1073741824/\toLX.pre a.Tiles
def toSX.row:Ay:=AA toSX.ca (λ_=>[]) 0 toSX.pre (λ_=>false) (λ_=>toSX.r0) toSX.H1 2000005
def toSX.ok:A9 51 toSX.row:=by
 refine ow (tC toGX.ok (tC toLX.ok tN)) Tryz.func51 (exB:=λj=>Nat.ble 4 j) (R:=λ_ r=>r=toSX.r0) (λ_=>rfl)
  (λa=>by simp[toSX.ca,Az.c,AE,AV.bel,Au,BB,BU]) (λa p hp=> ?_) (λa r h=>by subst h;exact CN.refl _) ?_
 rotate_left
 intro a Q;simp only[Tryz.f51,toSX.ca,Az.c];simp only[ZA,simprocAttr];obtain⟨h1,Z⟩:=Q;refine AA.os a.Glues [] h1 (λj=>by simp[Al,hget]) rfl rfl ?_ ?_
 .simp only[ZA,simprocAttr,toGX.ca,CO]
 simp only[ZA,simprocAttr,toGX.H1];refine AA.os a.Tiles [] Z (λj=>by simp[Al,hget]) rfl rfl ?_ ?_
 .simp only[ZA,simprocAttr,toLX.ca,CO]
 have hσ: ∀j,BW (Ik []) 0 5 j=5+j:=λj=>by simp[BW]
 rw[Vb a.Tiles hσ];obtain⟨h3,h4⟩:=Z;have z:min a.Tiles.length 1048576=a.Tiles.length:=by omega
 rw[z];simp only[DH,AV.ren,hσ];refine⟨?_,?_⟩
 .rw[Bo.ok_nr,VN _ _ _ _ (λp hp=> ?_)]
  .simp only[AV.bel,Au];rw[QW _ _ _ (λi=>by simp[Au,Dz]),Nl _ _ _ (by omega)];simp
  .rcases Be.1 hp with rfl|hp
   .exact⟨by simp only;omega,by simp only;omega⟩
   .obtain⟨i,O,rfl⟩:=Bh.1 hp
    have:=Bv.1 O
    exact⟨by simp only;omega,by simp only;omega⟩
 simp only[ZA,simprocAttr,Bu,toSX.r0,VP,bT];obtain⟨H,hH⟩: ∃H,H=hget ((1,(true,Ac.cells 44 [AV.own 4,AV.own 6]))::(2,(true,Ac.cells 44 [AV.own 4,AV.own 6]))::(6,(true,Ac.arrA 170 2 (GD 7 a.Tiles)))::
  (AS 7 a.Tiles.length (Dz a.Tiles)++[(4,(true,Ac.arr 167 2 (List.map Am.c a.Glues))),(0,(true,Ac.cells 25 [AV.im (D.sl false 2 (List.map Am.c a.Glues)),AV.im (D.sl false 2 (List.map Tile.c a.Tiles))]))])):=⟨_,rfl⟩
 rw[<-hH];have g4:H 4=some (true,.arr 167 2 (a.Glues.map Am.c)):=by rw[hH];simp[hget,VP]
 have g6:H 6=some (true,.arrA 170 2 (GD 7 a.Tiles)):=by rw[hH];rfl
 have gf: ∀i,i<a.Tiles.length->H (7+i)=some (Dz a.Tiles i):=by
  intro i O;rw[hH];simp only[hget,AX _ _ (show 1≠7+i by omega),AX _ _ (show 2≠7+i by omega),AX _ _ (show 6≠7+i by omega),Bq];rw[IB,GK _ _ _ _ O];rfl
 simp only[toSX.H1,Eh,z];refine⟨?_,?_,Iv _ _ _ _ _ gf (λi O=>rfl)⟩
 .rw[g4];exact⟨rfl,rfl⟩
 .rw[g6];exact⟨rfl,by simp only[Ck];rw[dJ (λi O=>KB (by omega) (by omega))];rfl⟩
 simp only[toSX.H1,Be,AS,Bh,Bv] at hp;rcases hp with rfl|rfl|⟨i,O,rfl⟩
 .exact .inr ⟨by omega,by simp only;omega,rfl,rfl⟩
 .exact .inr ⟨by omega,by simp only;omega,rfl,rfl⟩
 .exact .inr ⟨by simp only;omega,by simp only;omega,by simp only[G8];omega,rfl⟩
def toAX.ca(a:Af):List AV:=[.im (.agg (Af.c a))]
def toAX.H1(a:Af):Ao:=[(4,(true,.arr 97 3 (a.Tiles.map Ah.c)))]
def toAX.row:Ay:=AA toAX.ca (λ_=>[]) 0 (λa=>a.Tiles.length<=1073741824) (λ_=>false) (λ_=> .agg [.own 4]) toAX.H1 5
def toAX.ok:A9 52 toAX.row:=by
 refine ow (tC toPX.ok tN) Tryz.func52 (exB:=λj=>j==4) (R:=λ_ r=>r= .agg [.own 4]) (λ_=>rfl)
  (λa=>by simp[toAX.ca,Af.c,AE,AV.bel,Au,BB,BU]) (λa p hp=> ?_) (λa r h=>by subst h;exact CN.refl _) ?_
 rotate_left
 intro a z;simp only[Tryz.f52,toAX.ca,toAX.H1,Af.c];simp only[ZA,simprocAttr];refine AA.os a.Tiles [] z (λj=>by simp[Al,hget]) rfl rfl ?_ ?_
 .simp only[ZA,simprocAttr,toPX.ca,CO]
 simp only[ZA,simprocAttr,toPX.H1]
 skip
 simp[toAX.H1] at hp;subst hp;exact .inr ⟨by omega,by omega,rfl,rfl⟩
def Vc{σ:Nat->Nat}{nx:Nat}(a:Az)(h: ∀j,σ j=nx+j):AZ σ (toSX.H1 a)=(nx+4,(true,.arr 167 2 (a.Glues.map Am.c)))::(nx+6,(true,.arrA 170 2 (GD (nx+7) a.Tiles)))::AS (nx+7) (min a.Tiles.length 1048576) (Dz a.Tiles):=by
 have z:(GD 7 a.Tiles).map (AJ σ)=GD (nx+7) a.Tiles:=by
  simp only[GD,Oe];refine Kr λi Q=> ?_
  simp only[Function.comp,AJ,AV.ren,h];rw[show nx+(7+i)=nx+7+i by omega]
 have O: ∀n,AZ σ (AS 7 n (Dz a.Tiles))=AS (nx+7) n (Dz a.Tiles):=by
  intro n;simp only[AS]
  have: ∀(l:List Nat),AZ σ (l.map λi=>(7+i,Dz a.Tiles i))=l.map λi=>(nx+7+i,Dz a.Tiles i):=by
   intro l;induction l with
   |nil=>rfl
   |cons i r ih=>
    simp only[Bg,AZ,h,Dz,Ac.ren] at ih⊢;rw[ih,show nx+(7+i)=nx+7+i by omega]
  exact this _
 simp only[toSX.H1,AZ,Ac.ren,z,O,h]
def toYX.ca(a:AG):List AV:=[.im (.agg (AG.c a))]
def toYX.r0(a:AG):AV:= .agg [.own 7,.own 9,.own 2000012,.im (.int .i64 a.Temperature)]
def toYX.H1(a:AG):Ao:=(7,(true,.arr 167 2 (a.Set.Glues.map Am.c)))::(9,(true,.arrA 170 2 (GD 10 a.Set.Tiles)))::(2000012,(true,.arr 97 3 (a.Seed.Tiles.map Ah.c)))::AS 10 (min a.Set.Tiles.length 1048576) (Dz a.Set.Tiles)
def toYX.pre(a:AG):Prop:=toSX.pre a.Set/\a.Seed.Tiles.length<=1073741824
def toYX.row:Ay:=AA toYX.ca (λ_=>[]) 0 toYX.pre (λ_=>false) toYX.r0 toYX.H1 2000013
def toYX.ok:A9 27 toYX.row:=by
 refine ow (tC toSX.ok (tC toAX.ok tN)) Tryz.func27 (exB:=λj=>Nat.ble 7 j) (R:=λa r=>r=toYX.r0 a) (λ_=>rfl)
  (λa=>by simp[toYX.ca,AG.c,AE,AV.bel,Au,BB,BU]) (λa p hp=> ?_) (λa r h=>by subst h;exact CN.refl _) ?_
 rotate_left
 intro a Q;simp only[Tryz.f27,toYX.ca,AG.c];simp only[ZA,simprocAttr];obtain⟨Z,h2⟩:=Q;refine AA.os a.Set [] Z (λj=>by simp[Al,hget]) rfl rfl ?_ ?_
 .simp only[ZA,simprocAttr,toSX.ca,Az.c,CO]
 have hσ: ∀j,BW (Ik []) 0 3 j=3+j:=λj=>by simp[BW]
 rw[Vc a.Set hσ];obtain⟨h0,h3,h4⟩:=Z;have z:min a.Set.Tiles.length 1048576=a.Set.Tiles.length:=by omega
 rw[z];simp only[DH,toSX.r0,AV.ren,AJ,hσ];refine⟨?_,?_⟩
 .rw[Bo.ok_nr,VN _ _ _ _ (λp hp=> ?_)]
  .simp only[AV.bel,AE,Au];rw[QW _ _ _ (λi=>by simp[Au,Dz]),Nl _ _ _ (by omega)];simp
  .rcases Be.1 hp with rfl|hp
   .exact⟨by simp only;omega,by simp only;omega⟩
   rcases Be.1 hp with rfl|hp
   .exact⟨by simp only;omega,by simp only;omega⟩
   .obtain⟨i,O,rfl⟩:=Bh.1 hp
    have:=Bv.1 O
    exact⟨by simp only;omega,by simp only;omega⟩
 simp only[ZA,simprocAttr,Bu,VP,bT];refine AA.os a.Seed [] h2 (λj=>by simp[Al,hget]) rfl rfl ?_ ?_
 .simp only[ZA,simprocAttr,toAX.ca,Af.c,CO]
 simp only[ZA,simprocAttr,toAX.H1,Bu,VP,bT,toYX.r0];obtain⟨H,hH⟩: ∃H,H=hget ((1,(true,Ac.cells 46 [AV.own 7,AV.own 9,AV.own 2000012,AV.im (D.int IntKind.i64 a.Temperature)]))::(2,(true,Ac.cells 46 [AV.own 7,AV.own 9,AV.own 2000012,AV.im (D.int IntKind.i64 a.Temperature)]))::
  (2000012,(true,Ac.arr 97 3 (List.map Ah.c a.Seed.Tiles)))::(7,(true,Ac.arr 167 2 (List.map Am.c a.Set.Glues)))::(9,(true,Ac.arrA 170 2 (GD 10 a.Set.Tiles)))::
  (AS 10 a.Set.Tiles.length (Dz a.Set.Tiles)++[(0,(true,Ac.cells 30 [AV.im (D.sl false 2 (List.map Am.c a.Set.Glues)),AV.im (D.sl false 2 (List.map Tile.c a.Set.Tiles)),AV.im (D.sl false 3 (List.map Ah.c a.Seed.Tiles)),AV.im (D.int IntKind.i64 a.Temperature)]))])):=⟨_,rfl⟩
 rw[<-hH];have g7:H 7=some (true,.arr 167 2 (a.Set.Glues.map Am.c)):=by rw[hH];rfl
 have g9:H 9=some (true,.arrA 170 2 (GD 10 a.Set.Tiles)):=by rw[hH];rfl
 have gs:H 2000012=some (true,.arr 97 3 (a.Seed.Tiles.map Ah.c)):=by rw[hH];simp[hget]
 have gf: ∀i,i<a.Set.Tiles.length->H (10+i)=some (Dz a.Set.Tiles i):=by
  intro i O;rw[hH];simp only[hget,AX _ _ (show 1≠10+i by omega),AX _ _ (show 2≠10+i by omega),AX _ _ (show 2000012≠10+i by omega),AX _ _ (show 7≠10+i by omega),AX _ _ (show 9≠10+i by omega),Bq];rw[IB,GK _ _ _ _ O];rfl
 simp only[toYX.H1,Eh,z];refine⟨?_,?_,?_,Iv _ _ _ _ _ gf (λi O=>rfl)⟩
 .rw[g7];exact⟨rfl,rfl⟩
 .rw[g9];exact⟨rfl,by simp only[Ck];rw[dJ (λi O=>KB (by omega) (by omega))];rfl⟩
 .rw[gs];exact⟨rfl,rfl⟩
 simp only[toYX.H1,Be,AS,Bh,Bv] at hp;rcases hp with rfl|rfl|rfl|⟨i,O,rfl⟩
 .exact .inr ⟨by omega,by simp only;omega,rfl,rfl⟩
 .exact .inr ⟨by omega,by simp only;omega,rfl,rfl⟩
 .exact .inr ⟨by omega,by simp only;omega,by simp only[G8];omega,rfl⟩
 .exact .inr ⟨by simp only;omega,by simp only;omega,by simp only[G8];omega,rfl⟩
def eqInt64SF.fv(a:(List Int)×(List Int)):Bool:=(λa b=>decide (a=b)) (a.1) (a.2)
def eqInt64SF.row:Ay:=D1 (b2 (qS DO Dc) (qS DO Dc)) rB (λa=>True) eqInt64SF.fv
def eqInt64SF.q:=DX (R:=eqInt64SF.row) rfl
def eqInt64SF.ok:A9 12 eqInt64SF.row:=by
 refine GF tN Tryz.func12 ?_;intro a aa;simp only[Tryz.f12];simp only[ZA,simprocAttr,eqInt64SF.fv,D.sc,D.scs,BC];intro h1 h2;simp only[AR];refine⟨λO=> ?_,λO=> ?_⟩
 .have:a.1≠a.2:=λh=>O (by rw[h])
  simp[this]
 have O:a.1.length=a.2.length:=by omega
 refine AU.old ⟨{k:Nat//k<=a.1.length/\a.1.take k=a.2.take k},λk=>⟨[(5,.im (.int .i64 k.1)),(4,.im (.bool false)),(0,.im (.sl false 1 (a.1.map Aj))),(1,.im (.sl false 1 (a.2.map Aj)))],[],0⟩,λk=>a.1.length - k.1,λk=>⟨by simp[ZG],AN _⟩,⟨⟨0,by simp⟩,by simp only[ZA,simprocAttr,sub]⟩,λk=> ?_⟩;obtain⟨k,Z,z⟩:=k;simp only[ZA,simprocAttr,D.sc,D.scs,BC,sub,AR];intro _;refine⟨λQ=>⟨Q,λx hx=>⟨by omega,λy hy=> ?_⟩⟩,λQ=> ?_⟩
 .obtain⟨g1,g2⟩:=Zn O Z z hx hy;exact⟨λh=>by simp[g2 h],λh=>F8 Q h1 ⟨by omega,g1 (by simpa using h)⟩⟩
 .rw[D8 (by omega),D8 (by omega)] at z;simp[z]
def eqOptionSF.fv(a:(List AD)×(List AD)):Bool:=(λa b=>decide (a=b)) (a.1) (a.2)
def eqOptionSF.row:Ay:=D1 (b2 (qS AD.d_le AD.c_n) (qS AD.d_le AD.c_n)) rB (λa=>True) eqOptionSF.fv
def eqOptionSF.ok:A9 9 eqOptionSF.row:=by
 refine GF (tC eqOption.ok tN) Tryz.func9 ?_;intro a aa;simp only[Tryz.f9];simp only[ZA,simprocAttr,eqOptionSF.fv,D.sc,D.scs,BC];intro h1 h2;simp only[AR];refine⟨λO=> ?_,λO=> ?_⟩
 .have:a.1≠a.2:=λh=>O (by rw[h])
  simp[this]
 have O:a.1.length=a.2.length:=by omega
 refine AU.old ⟨{k:Nat//k<=a.1.length/\a.1.take k=a.2.take k},λk=>⟨[(5,.im (.int .i64 k.1)),(4,.im (.bool false)),(0,.im (.sl false 3 (a.1.map AD.c))),(1,.im (.sl false 3 (a.2.map AD.c)))],[],0⟩,λk=>a.1.length - k.1,λk=>⟨by simp[ZG],AN _⟩,⟨⟨0,by simp⟩,by simp only[ZA,simprocAttr,sub]⟩,λk=> ?_⟩;obtain⟨k,Z,z⟩:=k;simp only[ZA,simprocAttr,eqOption.q,eqOption.fv,D.sc,D.scs,BC,sub,AR];intro _;refine⟨λQ=>⟨Q,λx hx=>⟨by omega,λy hy=> ?_⟩⟩,λQ=> ?_⟩
 .obtain⟨g1,g2⟩:=Zn O Z z hx hy;exact⟨λh=>by simp[g2 (show x≠y from h)],λh=>F8 Q h1 ⟨by omega,g1 (show x=y from Gi.1 h)⟩⟩
 .rw[D8 (by omega),D8 (by omega)] at z;simp[z]
def eqSystemF.fv(a:AG×AG):Bool:=(λa b=>decide (a=b)) (a.1) (a.2)
def eqSystemF.row:Ay:=D1 (b2 (qR AG.d_le) (qR AG.d_le)) rB (λa=>True) eqSystemF.fv
def eqSystemF.q:=DX (R:=eqSystemF.row) rfl
def eqSystemF.ok:A9 35 eqSystemF.row:=by
 refine GF (tC eqTileSet.ok (tC eqAssembly.ok tN)) Tryz.func35 ?_;intro a O;simp only[Tryz.f35];simp only[ZA,simprocAttr,Af.d,eqSystemF.fv,eqTileSet.q,eqTileSet.fv,eqAssembly.q,eqAssembly.fv,D.sc,D.scs,BC];obtain⟨⟨⟨x,Q⟩,⟨y⟩,u⟩,⟨⟨z,Z⟩,⟨w⟩,v⟩⟩:=a;simp only[AG.mk.injEq,Az.mk.injEq,Af.mk.injEq]
 grind
def mkAC.ca(a:Af×Int):List AV:=[.agg [.own 0],.im (.int .i64 a.2)]
def mkAC.H0(a:Af×Int):Ao:=[(0,(true,.arr 97 3 (a.1.Tiles.map Ah.c)))]
def mkAC.H1(a:Af×Int):Ao:=[(0,(true,.arr 97 3 ((Dq (pF a.2) a.1.Tiles.length).map Ah.c)))]
def mkAC.row:Ay:=AA mkAC.ca mkAC.H0 1 (λa=>0<=a.2/\a.2+3*a.1.Tiles.length<=1099511627776) (λj=>j==0) (λa=> .im (.int .i64 (a.2+3*a.1.Tiles.length))) mkAC.H1 0
def mkAC.ok:A9 16 mkAC.row:=by
 refine ow (tC mkPC.ok tN) Tryz.func16 (exB:=λ_=>false) (R:=λa r=>r= .im (.int .i64 (a.2+3*a.1.Tiles.length))) (λ_=>rfl)
  (λa=>by simp[mkAC.ca,mkAC.H0,AE,AV.bel,Au,BB,BU,Ac.nms,Al,hget]) (λa p hp=> ?_) (λa r h=>by subst h;exact CN.refl _) ?_
 rotate_left
 intro a z;simp only[Tryz.f16,mkAC.ca,mkAC.H0,mkAC.H1];simp only[ZA,simprocAttr];refine AA.os (a.1.Tiles,a.2) [0] z (λj=> ?_) rfl rfl ?_ ?_
 .simp only[Al,mkPC.H0,hget];by_cases O:j=0
  .subst O;simp
  .have:(0==j)=false:=by simpa using λh=>O h.symm
   rw[this];simp;omega
 .simp only[ZA,simprocAttr,DL,mkPC.ca,mkPC.H0,CO,Eo]
  try exact⟨rfl,rfl⟩
 simp only[ZA,simprocAttr,DL,mkPC.H1,Eo,G6]
 skip
 simp[mkAC.H1] at hp;subst hp;exact .inl ⟨by omega,rfl,rfl⟩
def nT(a:List Tile):Nat:=min a.length 1048576
def sdL(a:List Tile)(i:Nat):List Int:=(a[i]?.map Tile.Sides).getD []
def E7(a:List Tile)(k:Int):Nat->Int
 |0=>k
 |i+1=>E7 a k i+1+(sdL a i).length
def Fz(a:List Tile)(k:Int)(i j:Nat):List AV:=if j<i then [.im (.str (Hc (E7 a k j))),.own (2+j)] else Jt a j
def Fe(a:List Tile)(k:Int)(i j:Nat):An:=(true,.arr 2 1 ((if j<i then OK (E7 a k j+1) (sdL a j).length else sdL a j).map Aj))
def Dy(a:List Tile)(k:Int)(i:Nat):Ao:=(0,(true,.arrA 170 2 ((List.range (nT a)).map (Fz a k i))))::AS 2 (nT a) (Fe a k i)
def mkLC.ca(a:List Tile×Int):List AV:=[.own 0,.im (.int .i64 a.2)]
def mkLC.H0(a:List Tile×Int):Ao:=Dy a.1 a.2 0
def mkLC.H1(a:List Tile×Int):Ao:=Dy a.1 a.2 (nT a.1)
def mkLC.r0(a:List Tile×Int):AV:= .im (.int .i64 (E7 a.1 a.2 a.1.length))
def mkLC.pre(a:List Tile×Int):Prop:=a.1.length<=1048576/\0<=a.2/\E7 a.1 a.2 a.1.length<=1099511627776
def mkLC.row:Ay:=AA mkLC.ca mkLC.H0 2000000 mkLC.pre (λ_=>true) mkLC.r0 mkLC.H1 0
def CT(a:List Tile):nT a<=1048576:=gA _ _
def cE(a:List Tile)(k:Int)(i j N:Nat)(h:2+j<N):AE N (Fz a k i j)=true:=by
 simp only[Fz]
 split<;>simp[Jt,AE,AV.bel,h]
def bX(a:List Tile)(k:Int)(i j:Nat):AB (Fz a k i j)=[2+j]:=by
 simp only[Fz]
 split<;>simp[Jt,AB,AV.nms]
def pM(a:List Tile)(k:Int)(i N:Nat)(h:2+nT a<N):Au N (Dy a k i)=true:=by
 simp only[Dy,Au];rw[QW _ _ _ (λj=>by simp[Au,Fe]),F5,C6];intro r O;obtain⟨j,z,rfl⟩:=Bh.1 O;exact cE _ _ _ _ _ (by have:=Bv.1 z;omega)
def mkLC.hbel(a:List Tile×Int):AE 2000000 (mkLC.ca a)=true:=by simp[mkLC.ca,AE,AV.bel]
def mkLC.hbH(a:List Tile×Int):Au 2000000 (mkLC.H0 a)=true:=pM _ _ _ _ (by have:=CT a.1;omega)
def mkLC.hkH(a:List Tile×Int):BB 2000000 (mkLC.H0 a)=true:=by
 simp only[mkLC.H0,Dy,BB];rw[QJ _ _ _ _ (by have:=CT a.1;omega)];simp
def Iu(a:List Tile)(k:Int)(i j:Nat):Al (Dy a k i) j=true↔j=0\/(2<=j/\j<2+nT a):=by
 simp only[Al,Dy,hget,eU];by_cases h0:j=0
 .subst h0;simp
 .have:(0==j)=false:=by simpa using λh=>h0 h.symm
  rw[this];simp only[Bq];split
  .rename_i h;simp[h]
  .rename_i h;simp[h0];omega
def mkLC.hnm(a:List Tile×Int):BU (mkLC.H0 a) (mkLC.H0 a):=by
 simp only[mkLC.H0];have O: ∀m,(∃j,j<nT a.1/\m=2+j)->Al (Dy a.1 a.2 0) m=true:=by
  rintro m ⟨j,Q,rfl⟩;exact (Iu _ _ _ _).2 (.inr ⟨by omega,by omega⟩)
 conv=>arg 2;unfold Dy
 simp only[BU];refine⟨λm z=> ?_,oX λi hi m z=>by simp[Fe,Ac.nms] at z⟩;simp only[Ac.nms] at z;obtain⟨r,Z,z⟩:=Ff.1 z;obtain⟨j,Q,rfl⟩:=Bh.1 Z;rw[bX,BS] at z;exact O m ⟨j,Bv.1 Q,z⟩
def Nm(a:List Tile)(k:Int)(h:0<=k): ∀i j,i<=j->0<=E7 a k i/\E7 a k i<=E7 a k j:=by
 have pos: ∀i,0<=E7 a k i:=by
  intro i;induction i with
  |zero=>exact h
  |succ i ih=>simp only[E7];omega
 intro i j z;refine⟨pos i,?_⟩;induction j with
 |zero=>have:i=0:=by omega
        subst this;exact Og _
 |succ j ih=>
  by_cases c:i=j+1
  .subst c;exact Og _
  .have:=ih (by omega)
   simp only[E7];omega
def pH(s:Av)(b n:Nat)(f:Nat->An):Ci s (AS b n f)= ∀i,i<n->hget s.h (b+i)=some (f i):=by
 have: ∀(l:List Nat),Ci s (l.map λi=>(b+i,f i))↔ ∀i∈l,hget s.h (b+i)=some (f i):=by
  intro l;induction l with
  |nil=>simp[Ci]
  |cons i r ih=>simp only[Bg,Ci,ih,Be,vL]
 apply propext;rw[AS,this];simp only[Bv]
def cB(a:List Tile)(k:Int)(i j:Nat)(h:j<nT a):hget (Dy a k i) (2+j)=some (Fe a k i j):=by
 simp only[Dy,hget,AX _ _ (show 0≠2+j by omega),Bq];exact GK _ _ _ _ h
def mkLC.ok:A9 112 mkLC.row:=by
 refine ow (tC mkText.ok (tC mkIC.ok tN)) Tryz.func112 (exB:=λ_=>false) (R:=λa r=>r=mkLC.r0 a) (λ_=>rfl)
  (λa=>⟨mkLC.hbel a,mkLC.hbH a,mkLC.hkH a,mkLC.hnm a⟩) (λa p hp=> ?_) (λa r h=>by subst h;exact CN.refl _) ?_
 rotate_left
 intro a aa;simp only[Tryz.f112,mkLC.ca];simp(disch:=omega)only[ZA,simprocAttr];obtain⟨l,k⟩:=a;obtain⟨h1,h2,h3⟩:=aa;simp only at h1 h2 h3;have hn:nT l=l.length:=by simp only[nT];omega
 simp only[Bu,mkLC.H0,mkLC.H1];refine AU.old ⟨{i:Nat//i<=l.length},λi=>⟨[(5,.im (.int .i64 i.1)),(4,.im (.int .i64 0)),(0,.own 0),(1,.im (.int .i64 (E7 l k i.1)))],Dy l k i.1,2000000⟩,λi=>l.length - i.1,λi=>⟨?_,by simp⟩,⟨⟨0,by simp⟩,?_⟩,λi=> ?_⟩
 .simp only[Av.good,CH,AV.bel,F5,DB];rw[pM _ _ _ _ (by omega)];simp only[Dy,BB];rw[QJ _ _ _ _ (by omega)];simp
 .simp only[sub];simp(disch:=omega)only[ZA,simprocAttr,E7]
  conv=>arg 2;unfold Dy
  simp only[Ci,pH];exact⟨rfl,λj z=>cB _ _ _ _ z⟩
 .obtain⟨i,ac⟩:=i;have hb:=Nm l k h2 i l.length ac;have Z:((List.range (nT l)).map (Fz l k i)).length=l.length:=by simp[hn]
  simp only[Dy];simp(disch:=omega)only[ZA,simprocAttr,mkText.q,mkText.fv,AR,Z,Bu];intro _;refine⟨λhi=>⟨by omega,hi,hi,λx hx=> ?_⟩,λhi=> ?_⟩
  .obtain rfl:i=x:=by
    rw[Ic (by omega)] at hx;exact A7 hx
   have em:Fz l k i i=[.im (.str ((l[i]?.map Tile.Name).getD ByteArray.empty)),.own (2+i)]:=by simp[Fz,Jt]
   have O:((List.range (nT l)).map (Fz l k i)).set i [.im (.str (Hc (E7 l k i))),.own (2+i)]=(List.range (nT l)).map (Fz l k (i+1)):=by
    apply Kt;intro j;by_cases z:i=j
    .subst z;rw[Dv (by rw[Z];exact hi),Du,Ic (by omega)];simp[Fz]
    .rw[DM z,Du,Du];cases hr:(List.range (nT l))[j]? with
     |none=>rfl
     |some y=>
      have hy:j=y:=by
       have hl:=(Cx.1 hr).1;simp at hl;rw[Ic hl] at hr;exact A7 hr
      subst hy;simp only[CY,Fz];by_cases c:j<i
      .rw[Ak c,Ak (by omega)]
      .rw[Ad c,Ad (by omega)]
   rw[em];simp only[Oc,Gd];have Q:i<((List.range (nT l)).map (Fz l k i)).length:=by rw[Z];exact hi
   have hw:IntKind.i64.wrap (E7 l k i+1)=E7 l k i+1:=AC (by omega) (by omega);refine⟨by simp,?_,by rw[Fc];exact Q,by rw[Fc];exact Q,J0 (Dv Q) ?_⟩
   .rw[O,C6];intro r hr;obtain⟨j,z,rfl⟩:=Bh.1 hr;exact cE _ _ _ _ _ (by have:=Bv.1 z;omega)
   simp(disch:=omega)only[ZA,simprocAttr,O,hw];have ab:=(Nm l k h2 (i+1) l.length hi).2;simp only[E7] at ab;refine⟨by omega,?_⟩;simp only[Bu];rw[VO 2 (nT l) (Fe l k i) [0] (by simp)];refine AA.os (sdL l i,E7 l k i+1) [2+i] ⟨by simp only;omega,by simp only;omega⟩ (λj=> ?_) rfl ?_ ?_ ?_
   .simp only[Al,mkIC.H0,hget];by_cases z:j=0
    .subst z;simp
    .have:(0==j)=false:=by simpa using λh=>z h.symm
     rw[this];simp;omega
   .simp only[WQ,F5,E4];omega
   .refine⟨by simp[mkIC.ca,AJ,AV.ren,BW,Ik],?_,trivial⟩;have e:BW (Ik [2+i]) 1 2000000 0=2+i:=by simp[BW,Ik]
    rw[e]
    have:=cB l k i i (by omega)
    simp only[Dy,Fe,hget,AX _ _ (show 0≠2+i by omega),Bq] at this;simp only[hget,AX _ _ (show 0≠2+i by omega),Bq];rw[GK _ _ _ _ (by omega)];simp[Fe,Ac.ren]
   simp(disch:=omega)only[ZA,simprocAttr,DL,mkIC.H1,sub,Bu,AX,WC,Eo];refine⟨.inr (by omega),⟨i+1,by omega⟩,by simp only;omega,⟨by rw[AC (by omega) (by omega)];simp only;omega,rfl⟩,rfl,?_⟩;rw[pH];intro j z;by_cases ag:j=i
   .subst ag;simp[hget,Fe]
   .simp only[hget,AX _ _ (show 2+i≠2+j by omega),AX _ _ (show 0≠2+j by omega),Bq];rw[Lj _ _ _ (by omega),GK _ _ _ _ z];simp only[Fe];by_cases c:j<i
    .rw[Ak c,Ak (by omega)]
    .rw[Ad c,Ad (by omega)]
  .have ad:i=l.length:=by omega
   subst ad;have kx: ∀j,j<nT l->Ii ((0,(true,Ac.arrA 170 2 (List.map (Fz l k 0) (List.range (nT l)))))::AS 2 (nT l) (Fe l k 0)) 2000000 0 (λ_=>false) (2+j)=some (2+j):=by
    intro j z
    have:=(Iu l k 0 (2+j)).2 (.inr ⟨by omega,by omega⟩)
    simp only[Dy] at this;simp only[Ii,this,fX,Cg]
   refine⟨?_,rfl,?_,?_⟩
   .have: ∀(h:Nat->Option An) (H:Ao),HO h (λ_=>true) H:=by
     intro h H;induction H with
     |nil=>trivial
     |cons x r ih=>obtain⟨j,e⟩:=x;exact⟨trivial,ih⟩
    exact this _ _
   .rw[show Fz l k (nT l)=Fz l k l.length by rw[hn]];rw[Rb (g:=Fz l k l.length) (k:=Fz l k l.length) _ (λj z=> ?_)]
    .rfl
    .have af:=Bv.1 z;simp only[Fz,Ak (show j<l.length by omega),Ar,Bb,kx j af,kp]
   .refine Iv _ _ _ _ _ (λj z=> ?_) (λj z=>rfl);simp only[hget,AX _ _ (show 0≠2+j by omega),Bq];rw[GK _ _ _ _ z,hn]
 refine .inl ?_;have ah:p.1=0\/(2<=p.1/\p.1<2+nT a.1):=by
  simp only[mkLC.H1,Dy,Be,AS,Bh,Bv] at hp;rcases hp with rfl|⟨j,z,rfl⟩
  .exact .inl rfl
  .exact .inr ⟨by simp only;omega,by simp only;omega⟩
 have:=CT a.1
 exact⟨by omega,rfl,(Iu _ _ _ _).2 ah⟩
def OH{H:Ao}{j:Nat}:j∈Fk H↔Al H j=true:=by
 induction H with
 |nil=>simp[Fk,Al,hget]
 |cons e r ih=>
  obtain⟨i,e⟩:=e;simp only[Fk,Be,Al,hget];by_cases z:i=j
  .subst z;simp
  .have:(i==j)=false:=by simpa using z
   rw[this];simp only[Bq];exact⟨λh=>ih.1 (h.resolve_left λh=>z h.symm),λh=> .inr (ih.2 h)⟩
mutual
def bW{n:Nat}: ∀x:AV,(∀m∈x.nms,m<n)->x.bel n=true
 | .any,_=>rfl
 | .im _,_=>rfl
 | .agg cs,h=>by simp only[AV.nms] at h;simp only[AV.bel];exact JS cs h
 | .tup cs,h=>by simp only[AV.nms] at h;simp only[AV.bel];exact JS cs h
 | .ptr o _,h=>by simp only[AV.bel,E4];exact h o (by simp[AV.nms])
 | .eptr o _ _,h=>by simp only[AV.bel,E4];exact h o (by simp[AV.nms])
 | .own o,h=>by simp only[AV.bel,E4];exact h o (by simp[AV.nms])
 | .mp o,h=>by simp only[AV.bel,E4];exact h o (by simp[AV.nms])
 | .ch o,h=>by simp only[AV.bel,E4];exact h o (by simp[AV.nms])
 | .it o,h=>by simp only[AV.bel,E4];exact h o (by simp[AV.nms])
 | .osl o _ _,h=>by simp only[AV.bel,E4];exact h o (by simp[AV.nms])
 | .clo _ a c,h=>by
   simp only[AV.nms,Bs] at h;simp only[AV.bel,JS a λm z=>h m (.inl z),JS c λm z=>h m (.inr z),fW]
def JS{n:Nat}: ∀xs:List AV,(∀m∈AB xs,m<n)->AE n xs=true
 |[],_=>rfl
 |x::r,h=>by
  simp only[AB,Bs] at h;simp only[AE,bW x λm z=>h m (.inl z),JS r λm z=>h m (.inr z),fW]
end
def bS{n:Nat}: ∀H:Ao,(∀p∈H,∀m∈p.2.2.nms,m<n)->Au n H=true
 |[],_=>rfl
 |(i,(Q,e))::r,h=>by
  have z:=h _ (BR ..);have ih:=bS r λp hp=>h p (BQ _ hp)
  cases e with
  |cells T cs=>simp only[Au,ih,F5];exact JS cs (by simpa[Ac.nms] using z)
  |arrA T k rows=>
   simp only[Au,ih,F5,C6];refine λq hq=>JS q λm O=>z m ?_
   simp only[Ac.nms];exact Ff.2 ⟨q,hq,O⟩
  |_=>simp only[Au,ih]
mutual
def cG(σ:Nat->Nat): ∀x:AV,(x.ren σ).nms=x.nms.map σ
 | .any=>rfl
 | .im _=>rfl
 | .agg cs=>by simp only[AV.ren,AV.nms];exact JT σ cs
 | .tup cs=>by simp only[AV.ren,AV.nms];exact JT σ cs
 | .ptr o _=>rfl
 | .eptr o _ _=>rfl
 | .own o=>rfl
 | .mp o=>rfl
 | .ch o=>rfl
 | .it o=>rfl
 | .osl o _ _=>rfl
 | .clo _ a c=>by simp only[AV.ren,AV.nms,JT σ a,JT σ c,FT]
def JT(σ:Nat->Nat): ∀xs:List AV,AB (AJ σ xs)=(AB xs).map σ
 |[]=>rfl
 |x::r=>by simp only[AJ,AB,cG σ x,JT σ r,FT]
end
def Qafh(σ:Nat->Nat)(e:Ac): ∀m∈(e.ren σ).nms,∃j∈e.nms,m=σ j:=by
 intro m z;cases e with
 |cells T cs=>
  simp only[Ac.ren,Ac.nms,JT,Bh] at z⊢;obtain⟨j,O,rfl⟩:=z;exact⟨j,O,rfl⟩
 |arrA T k rows=>
  simp only[Ac.ren,Ac.nms] at z⊢;obtain⟨r,Q,z⟩:=Ff.1 z;obtain⟨q,hq,rfl⟩:=Bh.1 Q;rw[JT,Bh] at z;obtain⟨j,O,rfl⟩:=z;exact⟨j,Ff.2 ⟨q,hq,O⟩,rfl⟩
 |_=>simp[Ac.ren,Ac.nms] at z
def pD{σ:Nat->Nat}{N:Nat}(H:Ao)(h: ∀p∈H,∀m∈p.2.2.nms,σ m<N):Au N (AZ σ H)=true:=by
 refine bS _ ?_;induction H with
 |nil=>intro p hp;cases hp
 |cons x r ih=>
  obtain⟨i,Q,e⟩:=x;intro p hp m z;rcases Be.1 hp with rfl|hp
  .obtain⟨j,O,rfl⟩:=Qafh σ e m z;exact h _ (BR ..) j O
  .exact ih (λp hp=>h p (BQ _ hp)) p hp m z
def AA.tau{A:Type}{ca:A->List AV}{H0:A->Ao}{k:Nat}{pre:A->Prop}{klB:Nat->Bool}{r0:A->AV}{H1:A->Ao}{args:List AV}{tm:List (Nat×AV)}{h:Ao}{nx:Nat}{dst:Option Nat}{go:Av->Prop}(a:A)(τ:Nat->Nat)(ac:pre a)(ai: ∀j,Al (H0 a) j=true->klB j=true)
 (hd: ∀j,Al (H0 a) j=true->j<k/\τ j<nx)(aa: ∀i j,Al (H0 a) i=true->Al (H0 a) j=true->τ i=τ j->i=j)
 (hcl: ∀p∈H1 a,Al (H0 a) p.1=true/\ ∀m∈p.2.2.nms,Al (H0 a) m=true)
 (hx:args=AJ (BW τ k nx) (ca a)/\CO (hget h) (BW τ k nx) (H0 a))
 (hb: ∀m∈(r0 a).nms,Al (H0 a) m=true)
 (ag: ∀HH:Ao,(∀j e,hget (H1 a) j=some e->hget HH (τ j)=some (e.1,e.2.ren (BW τ k nx)))->(∀m,(∀j,Al (H0 a) j=true->τ j≠m)->hget HH m=hget h m)->go ((⟨tm,HH,nx⟩:Av).put dst ((r0 a).ren (BW τ k nx)))):
 AA ca H0 k pre klB r0 H1 0 args (hget h) nx (DH go ⟨tm,h,nx⟩ dst):=by
 have hσ: ∀j,Al (H0 a) j=true->BW τ k nx j=τ j:=λj z=>Ak (hd j z).1
 have ah: ∀i j,Al (H0 a) i=true->Al (H0 a) j=true->BW τ k nx i=BW τ k nx j->i=j:=λi j hi z h=>aa i j hi z (by rwa [hσ i hi,hσ j z] at h)
 have O: ∀m,m∈(Fk (H0 a)).map τ↔ ∃j,Al (H0 a) j=true/\τ j=m:=λm=>by simp only[Bh,OH]
 have Z: ∀p∈H1 a,Al (H0 a) p.1=true:=λp hp=>(hcl p hp).1
 refine⟨a,τ,(Fk (H0 a)).map τ,(Fk (H0 a)).map τ,ac,hx.1,hx.2,⟨aa,λj z=>(hd j z).2,λj z=>(O _).2 ⟨j,z,rfl⟩,λm hm=> ?_,λj z _=>(O _).2 ⟨j,z,rfl⟩⟩,?_⟩
 .obtain⟨j,z,rfl⟩:=(O m).1 hm;exact⟨j,z,ai j z,rfl⟩
 refine⟨?_,?_⟩
 .have ad:((r0 a).ren (BW τ k nx)).bel nx=true:=by
   refine bW _ λm hm=> ?_
   rw[cG,Bh] at hm;obtain⟨j,z,rfl⟩:=hm;rw[hσ j (hb j z)];exact (hd j (hb j z)).2
  have af:Au nx (AZ (BW τ k nx) (H1 a))=true:=pD _ λp hp m hm=>by
   have:=(hcl p hp).2 m hm
   rw[hσ m this];exact (hd m this).2
  rw[Bo.ok_nr,Qi,ad,af,DB,DB]
  have: ∀H:Ao,(∀p∈H,Al (H0 a) p.1=true)->Hm ((Fk (H0 a)).map τ) nx 0 (AZ (BW τ k nx) H)=true:=by
   intro H;induction H with
   |nil=>intro _;rfl
   |cons e r ih=>
    obtain⟨i,mu,e⟩:=e;intro hp;have Q:=hp _ (BR ..);simp only at Q;simp only[AZ,Hm,JW,AL,H8,G8,E4];refine⟨.inr ⟨?_,?_⟩,ih λp h=>hp p (BQ _ h)⟩
    .rw[Hp,hσ i Q];exact (O _).2 ⟨i,Q,rfl⟩
    .rw[hσ i Q];exact (hd i Q).2
  exact this _ Z
 rw[Av.app_nr,Qi];refine ag _ (λj e he=> ?_) (λm hm=> ?_)
 .have z:Al (H0 a) j=true:=by
   have: ∀H:Ao,hget H j=some e-> ∃p∈H,p.1=j:=by
    intro H;induction H with
    |nil=>intro h;cases h
    |cons x r ih=>
     obtain⟨i,x⟩:=x;intro h;by_cases ab:i=j
     .exact⟨_,BR ..,ab⟩
     .have hb:(i==j)=false:=by simpa using ab
      simp only[hget,hb,Bq] at h;obtain⟨p,Q,h2⟩:=ih h;exact⟨p,BQ _ Q,h2⟩
   obtain⟨p,Q,rfl⟩:=this _ he;exact Z p Q
  rw[IB,<-hσ j z,Qv5 (D:=λj=>Al (H0 a) j=true) ah (H1 a) Z j z,he];rfl
 .rw[IB];cases hq:hget (AZ (BW τ k nx) (H1 a)) m with
  |some e=>
   obtain⟨j,e0,Q,h2,_⟩:=uZ hq;have z:=Z _ Q;rw[hσ j z] at h2;exact absurd h2 (hm j z)
  |none=>
   rw[W0,Ad]
   .rfl
   .rw[Hp];intro h;obtain⟨j,z,h2⟩:=(O m).1 h;exact hm j z h2
def pL{go:Av->Prop}{tm:List (Nat×AV)}{h:Ao}{nx:Nat}{dst:Option Nat}{σ:Nat->Nat}(hσ: ∀j,σ j=nx+j){r0:AV}{H1:Ao}{cnt:Nat}{u kl:List Nat}(ab:kl=[])
 (hcl: ∀p∈H1,p.1<cnt/\ ∀m∈p.2.2.nms,m<cnt)(hb: ∀m∈r0.nms,m<cnt)
 (aa: ∀O:Ao,(∀j e,hget H1 j=some e->hget O (nx+j)=some (e.1,e.2.ren σ))->(∀m,m<nx->hget O m=hget h m)->go ((⟨tm,O,nx+cnt⟩:Av).put dst (r0.ren σ))):
 DH go ⟨tm,h,nx⟩ dst (r0.ren σ) {use:=u,kill:=kl,new:=AZ σ H1,cnt:=cnt}:=by
 subst ab;refine⟨?_,?_⟩
 .have Q:(r0.ren σ).bel (nx+cnt)=true:=by
   refine bW _ λm z=> ?_
   rw[cG,Bh] at z;obtain⟨j,hj,rfl⟩:=z
   have:=hb j hj
   rw[hσ];omega
  have Z:Au (nx+cnt) (AZ σ H1)=true:=pD _ λp hp m z=>by
   have:=(hcl p hp).2 m z
   rw[hσ];omega
  rw[Bo.ok_nr,Q,Z,DB,DB];refine VN _ _ _ _ λp hp=> ?_
  have: ∀H:Ao,(∀p∈H,p.1<cnt)-> ∀p∈AZ σ H,nx<=p.1/\p.1<nx+cnt:=by
   intro H;induction H with
   |nil=>intro _ p hp;cases hp
   |cons x r ih=>
    obtain⟨i,mu,e⟩:=x;intro hx p hp;have h1:=hx _ (BR ..);simp only at h1;simp only[AZ,Be] at hp;rcases hp with rfl|hp
    .simp only;rw[hσ];omega
    .exact ih (λp h=>hx p (BQ _ h)) p hp
  exact this _ (λp hp=>(hcl p hp).1) p hp
 rw[Av.app_nr,Bu];refine aa _ (λj e he=> ?_) (λm z=> ?_)
 .rw[IB,<-hσ j,pI (λi j h=>by rw[hσ,hσ] at h;omega),he];rfl
 .rw[IB];cases hq:hget (AZ σ H1) m with
  |some e=>
   obtain⟨j,e0,_,h2,_⟩:=uZ hq;rw[hσ] at h2;omega
  |none=>rfl
def AA.nw{A:Type}{ca:A->List AV}{H0:A->Ao}{pre:A->Prop}{klB:Nat->Bool}{r0:A->AV}{H1:A->Ao}{cnt:Nat}{args:List AV}{tm:List (Nat×AV)}{h:Ao}{nx:Nat}{dst:Option Nat}{Z:Av->Prop}(a:A)(z:pre a)(h0:H0 a=[])
 (hx:args=AJ (λj=>nx+j) (ca a))(hcl: ∀p∈H1 a,p.1<cnt/\ ∀m∈p.2.2.nms,m<cnt)(hb: ∀m∈(r0 a).nms,m<cnt)
 (Q: ∀O:Ao,(∀j e,hget (H1 a) j=some e->hget O (nx+j)=some (e.1,e.2.ren λj=>nx+j))->(∀m,m<nx->hget O m=hget h m)->Z ((⟨tm,O,nx+cnt⟩:Av).put dst ((r0 a).ren λj=>nx+j))):
 AA ca H0 0 pre klB r0 H1 cnt args (hget h) nx (DH Z ⟨tm,h,nx⟩ dst):=by
 have e:BW (Ik []) 0 nx=λj=>nx+j:=funext λj=>by simp[BW]
 refine AA.os a [] z (λj=>by rw[h0];simp[Al,hget]) rfl rfl ⟨by rw[e];exact hx,by rw[h0];trivial⟩ ?_;rw[e];exact pL (λ_=>rfl) rfl hcl hb Q
def Fg.nw{A:Type}{ar:List PK->Option A}{pre:A->Prop}{r0:A->AV}{H1:A->Ao}{cnt:Nat}{args:List AV}{tm:List (Nat×AV)}{h:Ao}{nx:Nat}{dst:Option Nat}{go:Av->Prop}(ps:List PK)(Z:Ct (hget h) args=some ps)(a:A)(ha:ar ps=some a)(z:pre a)
 (hcl: ∀p∈H1 a,p.1<cnt/\ ∀m∈p.2.2.nms,m<cnt)(hb: ∀m∈(r0 a).nms,m<cnt)
 (Q: ∀O:Ao,(∀j e,hget (H1 a) j=some e->hget O (nx+j)=some (e.1,e.2.ren λj=>nx+j))->(∀m,m<nx->hget O m=hget h m)->go ((⟨tm,O,nx+cnt⟩:Av).put dst ((r0 a).ren λj=>nx+j))):
 Fg ar pre r0 H1 cnt args (hget h) nx (DH go ⟨tm,h,nx⟩ dst):=by
 have e:BW (λj=>j) 0 nx=λj=>nx+j:=funext λj=>by simp[BW]
 unfold Fg;rw[Z];simp only[Wh,ha,EB];rw[e];exact⟨z,pL (λ_=>rfl) rfl hcl hb Q⟩
def vF.call{A:Type}{ar:List PK->Option A}{pre:A->Prop}{re:A->D}{args:List AV}{tm:List (Nat×AV)}{h:Ao}{nx:Nat}{dst:Option Nat}{Z:Av->Prop}(ps:List PK)(Q:Ct (hget h) args=some ps)(a:A)(ha:ar ps=some a)(z:pre a)
 (O:Z ((⟨tm,h,nx⟩:Av).put dst (.im (re a)))):NR ar pre re args (hget h) nx (DH Z ⟨tm,h,nx⟩ dst):=by
 unfold NR;rw[Q];simp only[Ww,ha,EB];refine⟨z,?_,?_⟩
 .rw[Bo.ok_nr];simp[AV.bel,Au,Hm]
 .rw[Av.app_nr,Bu,Qi];exact O
def Ht(G:List Am)(rows:List (List AV))(n:Nat)(f:Nat->An):Ao:=(0,(true,.arr 167 2 (G.map Am.c)))::(1,(true,.arrA 170 2 rows))::AS 2 n f
def Iw(G:List Am)(rows:List (List AV))(n:Nat)(f:Nat->An)(j:Nat):Al (Ht G rows n f) j=true↔j<2+n:=by
 simp only[Al,Ht,hget,eU];by_cases h0:j=0
 .subst h0;simp;omega
 by_cases z:j=1
 .subst z;simp;omega
 rw[AX _ _ (λh=>h0 h.symm),AX _ _ (λh=>z h.symm)];simp only[Bq];split
 .rename_i h;simp;omega
 .rename_i h;simp;omega
def kC{G:List Am}{rows:List (List AV)}{n:Nat}{f:Nat->An}{p:Nat×An}(hp:p∈Ht G rows n f):p.1<2+n:=by
 simp only[Ht,Be,AS,Bh,Bv] at hp;rcases hp with rfl|rfl|⟨j,z,rfl⟩<;>simp only<;>omega
def Di(a:List Tile)(k:Int)(i:Nat):List (List AV):=(List.range (nT a)).map (Fz a k i)
def UX(a:List Tile)(k:Int)(i N:Nat)(h:2+nT a<=N):(Di a k i).all (AE N)=true:=by
 rw[C6];intro r O;obtain⟨j,z,rfl⟩:=Bh.1 O;exact cE _ _ _ _ _ (by have:=Bv.1 z;omega)
def YT(a:List Tile)(k:Int)(i j:Nat)(σ:Nat->Nat)(h:σ (2+j)=2+j):AJ σ (Fz a k i j)=Fz a k i j:=by
 simp only[Fz]
 split<;>simp[Jt,AJ,AV.ren,h]
def VM(a:List Tile)(k:Int)(i:Nat)(σ:Nat->Nat)(h: ∀j,j<nT a->σ (2+j)=2+j):(Di a k i).map (AJ σ)=Di a k i:=by
 rw[Di,Oe];exact Kr λj z=>YT _ _ _ _ _ (h j (Bv.1 z))
def Nf{G:List Am}{a:List Tile}{k:Int}{i N:Nat}{f:Nat->An}(h:2+nT a<=N)(hf: ∀i,Au N [(2+i,f i)]=true):Au N (Ht G (Di a k i) (nT a) f)=true:=by
 simp only[Ht,Au];rw[QW _ _ _ hf,UX _ _ _ _ h];rfl
def pK{G:List Am}{a:List Tile}{k:Int}{i N:Nat}{f:Nat->An}(h:2+nT a<=N):BB N (Ht G (Di a k i) (nT a) f)=true:=by
 simp only[Ht,BB];rw[QJ _ _ _ _ (by omega)];simp;omega
def cI{G:List Am}{a:List Tile}{k:Int}{i:Nat}{f:Nat->An}(hf: ∀j,(f j).2.nms=[]){p:Nat×An}(hp:p∈Ht G (Di a k i) (nT a) f){m:Nat}(z:m∈p.2.2.nms):m<2+nT a:=by
 simp only[Ht,Be,AS,Bh,Bv] at hp;rcases hp with rfl|rfl|⟨j,O,rfl⟩
 .simp[Ac.nms] at z
 .simp only[Ac.nms] at z;obtain⟨r,Q,z⟩:=Ff.1 z;obtain⟨j,O,rfl⟩:=Bh.1 Q;rw[bX,BS] at z
  have:=Bv.1 O
  omega
 .rw[hf] at z;cases z
def VT{H0:Ao}: ∀{H:Ao},(∀p∈H,∀m∈p.2.2.nms,Al H0 m=true)->BU H0 H
 |[],_=>trivial
 |(_,(_,_))::r,h=>⟨h _ (BR ..),VT λp hp=>h p (BQ _ hp)⟩
def DW(a:Az×Int):Int:=a.2+2*a.1.Glues.length
def mkTS.ca(a:Az×Int):List AV:=[.agg [.own 0,.own 1],.im (.int .i64 a.2)]
def mkTS.H0(a:Az×Int):Ao:=Ht a.1.Glues (Di a.1.Tiles (DW a) 0) (nT a.1.Tiles) (Fe a.1.Tiles (DW a) 0)
def mkTS.H1(a:Az×Int):Ao:=Ht (Dq (gF a.2) a.1.Glues.length) (Di a.1.Tiles (DW a) (nT a.1.Tiles)) (nT a.1.Tiles) (Fe a.1.Tiles (DW a) (nT a.1.Tiles))
def mkTS.r0(a:Az×Int):AV:= .im (.int .i64 (E7 a.1.Tiles (DW a) a.1.Tiles.length))
def mkTS.pre(a:Az×Int):Prop:=0<=a.2/\a.1.Tiles.length<=1048576/\E7 a.1.Tiles (DW a) a.1.Tiles.length<=1099511627776
def mkTS.row:Ay:=AA mkTS.ca mkTS.H0 2000000 mkTS.pre (λ_=>true) mkTS.r0 mkTS.H1 0
def mkTS.hbel(a:Az×Int):AE 2000000 (mkTS.ca a)=true:=by simp[mkTS.ca,AE,AV.bel]
def mkTS.hbH(a:Az×Int):Au 2000000 (mkTS.H0 a)=true:=Nf (by have:=CT a.1.Tiles;omega) (λi=>by simp[Au,Fe])
def mkTS.hkH(a:Az×Int):BB 2000000 (mkTS.H0 a)=true:=pK (by have:=CT a.1.Tiles;omega)
def mkTS.hnm(a:Az×Int):BU (mkTS.H0 a) (mkTS.H0 a):=
 VT λp hp m z=>(Iw _ _ _ _ _).2 (cI (λj=>by simp[Fe,Ac.nms]) hp z)
def VR(h:Nat->Option An): ∀(H:Ao),HO h (λ_=>true) H
 |[]=>trivial
 |(j,e)::r=>⟨trivial,VR h r⟩
def VW{H0:Ao}{k cnt:Nat}{exB:Nat->Bool}{j:Nat}(h:Al H0 j=true):Ii H0 k cnt exB j=some j:=by
 simp only[Ii,h,fX,Cg]
def YS{h:Nat->Option An}{kx:Nat->Option Nat}{m:Nat}{a:List Tile}{k:Int}{i j:Nat}(z:kx (2+j)=some (2+j)):Ar (Bb h kx (m+1)) (Fz a k i j)=some (Fz a k i j):=by
 simp only[Fz]
 split<;>simp only[Jt,Ar,Bb,z,kp]
def pJ{h:Nat->Option An}{kx:Nat->Option Nat}{m:Nat}{a:List Tile}{k:Int}{i:Nat}(O: ∀j,j<nT a->kx (2+j)=some (2+j)):Ar (Ar (Bb h kx (m+1))) (Di a k i)=some (Di a k i):=
 Rb _ λj z=>YS (O j (Bv.1 z))
def mkLC.hcl(a:List Tile×Int): ∀p∈mkLC.H1 a,Al (mkLC.H0 a) p.1=true/\ ∀m∈p.2.2.nms,Al (mkLC.H0 a) m=true:=by
 intro p hp;simp only[mkLC.H0,Iu];simp only[mkLC.H1,Dy,Be,AS,Bh,Bv] at hp;rcases hp with rfl|⟨j,O,rfl⟩
 .refine⟨.inl rfl,λm z=> ?_⟩;simp only[Ac.nms] at z;obtain⟨r,Q,z⟩:=Ff.1 z;obtain⟨j,O,rfl⟩:=Bh.1 Q;rw[bX,BS] at z
  have:=Bv.1 O
  exact .inr ⟨by omega,by omega⟩
 .exact⟨.inr ⟨by simp only;omega,by simp only;omega⟩,λm z=>by simp[Fe,Ac.nms] at z⟩
def mkTS.hcl(a:Az×Int): ∀p∈mkTS.H1 a,Al (mkTS.H0 a) p.1=true/\ ∀m∈p.2.2.nms,Al (mkTS.H0 a) m=true:=
 λp hp=>⟨(Iw _ _ _ _ _).2 (kC hp),λm z=>(Iw _ _ _ _ _).2 (cI (λj=>by simp[Fe,Ac.nms]) hp z)⟩
def mkTS.ok:A9 72 mkTS.row:=by
 refine ow (tC mkGC.ok (tC mkLC.ok tN)) Tryz.func72 (exB:=λ_=>false) (R:=λa r=>r=mkTS.r0 a) (λ_=>rfl)
  (λa=>⟨mkTS.hbel a,mkTS.hbH a,mkTS.hkH a,mkTS.hnm a⟩) (λa p hp=> ?_) (λa r h=>by subst h;exact CN.refl _) ?_
 rotate_left
 intro a Z;simp only[Tryz.f72,mkTS.ca];simp only[ZA,simprocAttr];obtain⟨S,k⟩:=a;obtain⟨h1,h2,h3⟩:=Z;simp only at h1 h2 h3;have hk:=Nm S.Tiles (DW (S,k)) (by simp only[DW];omega) 0 S.Tiles.length (by omega);have Q:DW (S,k)<=1099511627776:=by simp only[E7] at hk;omega
 simp only[DW] at Q;have hn:=CT S.Tiles;simp only[Bu,mkTS.H0,Ht];refine AA.os (S.Glues,k) [0] ⟨h1,Q⟩ (λj=> ?_) rfl rfl ?_ ?_
 .simp only[Al,mkGC.H0,hget];by_cases z:j=0
  .subst z;simp
  .have:(0==j)=false:=by simpa using λh=>z h.symm
   rw[this];simp;omega
 .simp only[ZA,simprocAttr,DL,mkGC.ca,mkGC.H0,CO,Eo]
  try exact⟨rfl,rfl⟩
 simp only[ZA,simprocAttr,DL,mkGC.H1,Bu,Eo,G6];rw[VO 2 (nT S.Tiles) (Fe S.Tiles (DW (S,k)) 0) [0] (by simp)];have hσ: ∀j,j<nT S.Tiles->BW (λj=>if j=0 then 1 else j) 2000000 2000001 (2+j)=2+j:=λj z=>by
  simp only[BW];rw[Ak (by omega),Ad (by omega)]
 have hσ0:BW (λj=>if j=0 then 1 else j) 2000000 2000001 0=1:=rfl;refine AA.tau (S.Tiles,DW (S,k)) (λj=>if j=0 then 1 else j) ⟨h2,by simp only[DW];omega,h3⟩ (λ_ _=>rfl) (λj z=> ?_) (λi j O z h=> ?_) (mkLC.hcl _) ⟨?_,?_⟩ (by simp[mkLC.r0,AV.nms]) (λHH hH1 aa=> ?_)
 .have z:=(Iu _ _ _ _).1 z;simp only at z⊢
  split<;>omega
 .have O:=(Iu _ _ _ _).1 O;have z:=(Iu _ _ _ _).1 z;simp only at O z h;split at h<;>split at h<;>omega
 .simp only[mkLC.ca,AJ,AV.ren,hσ0,DW]
 .simp only[mkLC.H0,Dy,CO,hσ0,Ac.ren];refine⟨?_,QC λi O=> ?_⟩
  .simp only[hget,AX _ _ (show 0≠1 by omega),AX _ _ (show 2000000≠1 by omega),Bq,ZS,Cg];rw[<-Di,VM _ _ _ _ hσ]
  .rw[hσ i O];simp only[hget,AX _ _ (show 0≠2+i by omega),AX _ _ (show 2000000≠2+i by omega),AX _ _ (show 1≠2+i by omega),Bq];rw[GK _ _ _ _ O];rfl
 have g0:hget HH 0=some (true,.arr 167 2 ((Dq (gF k) S.Glues.length).map Am.c)):=by
  rw[aa 0 (λj z=>by
   have z:=(Iu _ _ _ _).1 z;simp only at z⊢
   split<;>omega)]
  rfl
 have g1:hget HH 1=some (true,.arrA 170 2 (Di S.Tiles (DW (S,k)) (nT S.Tiles))):=by
  have g:=hH1 0 _ rfl;rw[Ak rfl] at g;rw[g];simp only[Ac.ren];rw[<-Di,VM _ _ _ _ hσ]
 have g2: ∀j,j<nT S.Tiles->hget HH (2+j)=some (Fe S.Tiles (DW (S,k)) (nT S.Tiles) j):=λj z=>by
  have:=hH1 (2+j) _ (cB _ _ _ j z)
  simp only[Ad (show 2+j≠0 by omega)] at this;rw[this];rfl
 simp only[mkLC.r0,AV.ren];simp only[ZA,simprocAttr,mkTS.r0,DW,Bu,mkTS.H1,Ht];have ab: ∀j,j<nT S.Tiles->Al ((0,(true,Ac.arr 167 2 (List.map Am.c S.Glues)))::(1,(true,Ac.arrA 170 2 (Di S.Tiles (k+2*S.Glues.length) 0)))::AS 2 (nT S.Tiles) (Fe S.Tiles (k+2*S.Glues.length) 0)) (2+j)=true:=λj z=>(Iw _ _ _ _ _).2 (by omega)
 refine⟨VR _ _,?_,?_,?_⟩
 .rw[g0];exact⟨rfl,rfl⟩
 .rw[g1];refine⟨rfl,?_⟩;simp only[Ck];rw[pJ (λj z=>VW (ab j z))];rfl
 .exact Iv _ _ _ _ _ (λj z=>g2 j z) (λj z=>rfl)
 obtain⟨q1,_⟩:=mkTS.hcl _ p hp
 have:=(Iw _ _ _ _ _).1 q1
 have:=CT a.1.Tiles
 exact .inl ⟨by omega,rfl,q1⟩
def Ra{n:Nat}{l:Int}(h:0<=Cy n l):(n:Int)<=l/\Cy n l<=l/\0<=l:=by
 simp only[Cy] at h⊢;split at h
 .omega
 .rename_i c;rw[Ad c];omega
def Qu5: ∀(a:List Tile) (l:Int),0<=l->l<=1048576->0<=FZ F4 a l-> ∀x∈a,x.Sides.length<=1073741824
 |[],_,_,_,_=>by intro x z;cases z
 |y::r,l,h0,Z,h=>by
  simp only[FZ] at h;split at h
  .omega
  .rename_i c;have O:0<=F4 y l:=by omega
   have Q:0<=Cy y.Name.size l:=by
    simp only[F4] at O;split at O
    .omega
    .omega
   have e:F4 y l=Cy y.Sides.length (Cy y.Name.size l):=by
    simp only[F4];rw[Ad (by omega)]
   rw[e] at O h;obtain⟨a1,a2,a3⟩:=Ra O;obtain⟨b1,b2,b3⟩:=Ra Q;intro x z;rcases Be.1 z with rfl|z
   .omega
   .exact Qu5 r _ O (by omega) h x z
def UU{s:Az}{l:Int}(Z: -1<=l)(aa:l<=1048576)(h:0<=Qc s l):U9 s:=by
 have hg:=Qo1 s.Glues l Z;simp only[Qc] at h;split at h
 .omega
 rename_i c;have z:0<=Hi s.Glues l:=by omega
 have Q:0<=Cy s.Glues.length l:=by
  simp only[Hi] at z;split at z
  .omega
  .omega
 have O:0<=Cy s.Tiles.length (Hi s.Glues l):=by
  simp only[Ln] at h;split at h
  .omega
  .omega
 have e:Ln s.Tiles (Hi s.Glues l)=FZ F4 s.Tiles (Cy s.Tiles.length (Hi s.Glues l)):=by
  simp only[Ln];rw[Ad (by omega)]
 rw[e] at h;obtain⟨a1,a2,a3⟩:=Ra Q;obtain⟨b1,b2,b3⟩:=Ra O;exact⟨by omega,by omega,Qu5 s.Tiles _ O (by omega) h⟩
def Qz9{s:AG}{l:Int}(O: -1<=l)(z:l<=1048576)(h:0<=J6 s l):MY s:=by
 have Q:=Qxk s.Set l O;simp only[J6] at h;split at h
 .omega
 rename_i c;obtain⟨a1,a2,a3⟩:=Ra h;exact⟨UU O z (by omega),by omega⟩
def UV{s:AF}{l:Int}(Q: -1<=l)(z:l<=1048576)(h:0<=JQ s l):bE s/\JQ s l<=1048576:=by
 have O:=mG s.Big l Q;have hc:=mG s.Small (J6 s.Big l) O.1;simp only[JQ] at h⊢;split at h
 .omega
 rename_i c1;rw[Ad c1];split at h
 .omega
 rename_i Z;rw[Ad Z];obtain⟨a1,a2,a3⟩:=Ra h;exact⟨⟨Qz9 Q z (by omega),Qz9 O.1 (by omega) (by omega),by omega⟩,by omega⟩
def syK(a:AG×Int):Int:=E7 a.1.Set.Tiles (DW (a.1.Set,a.2)) a.1.Set.Tiles.length
def mkSy.ca(a:AG×Int):List AV:=[.agg [.own 0,.own 1,.own 2000000,.im (.int .i64 a.1.Temperature)],.im (.int .i64 a.2)]
def mkSy.H0(a:AG×Int):Ao:=(2000000,(true,.arr 97 3 (a.1.Seed.Tiles.map Ah.c)))::mkTS.H0 (a.1.Set,a.2)
def mkSy.H1(a:AG×Int):Ao:=(2000000,(true,.arr 97 3 ((Dq (pF (syK a)) a.1.Seed.Tiles.length).map Ah.c)))::mkTS.H1 (a.1.Set,a.2)
def mkSy.r0(a:AG×Int):AV:= .im (.int .i64 (syK a+3*a.1.Seed.Tiles.length))
def mkSy.pre(a:AG×Int):Prop:=0<=a.2/\a.1.Set.Tiles.length<=1048576/\syK a+3*a.1.Seed.Tiles.length<=1099511627776
def mkSy.row:Ay:=AA mkSy.ca mkSy.H0 2000001 mkSy.pre (λ_=>true) mkSy.r0 mkSy.H1 0
def mkSy.dom0(a:AG×Int)(j:Nat):Al (mkSy.H0 a) j=true↔j=2000000\/j<2+nT a.1.Set.Tiles:=by
 by_cases h:j=2000000
 .subst h;simp[Al,mkSy.H0,hget]
 .have z:(2000000==j)=false:=by simpa using λq=>h q.symm
  have:Al (mkSy.H0 a) j=Al (mkTS.H0 (a.1.Set,a.2)) j:=by simp only[Al,mkSy.H0,hget,z,Bq]
  rw[this];simp only[mkTS.H0,Iw,h,false_or]
def mkSy.hcl(a:AG×Int): ∀p∈mkSy.H1 a,Al (mkSy.H0 a) p.1=true/\ ∀m∈p.2.2.nms,Al (mkSy.H0 a) m=true:=by
 intro p hp;simp only[mkSy.dom0];rcases Be.1 hp with rfl|hp
 .exact⟨.inl rfl,λm z=>by simp[Ac.nms] at z⟩
 .have:=mkTS.hcl _ p hp
  simp only[mkTS.H0,Iw] at this;exact⟨.inr this.1,λm z=> .inr (this.2 m z)⟩
def mkSy.hbel(a:AG×Int):AE 2000001 (mkSy.ca a)=true:=by simp[mkSy.ca,AE,AV.bel]
def mkSy.hbH(a:AG×Int):Au 2000001 (mkSy.H0 a)=true:=by
 simp only[mkSy.H0,Au];exact Nf (by have:=CT a.1.Set.Tiles;simp only;omega) (λi=>by simp[Au,Fe])
def mkSy.hkH(a:AG×Int):BB 2000001 (mkSy.H0 a)=true:=by
 simp only[mkSy.H0,BB]
 have:=pK (G:=a.1.Set.Glues) (a:=a.1.Set.Tiles) (k:=DW (a.1.Set,a.2)) (i:=0) (N:=2000001) (f:=Fe a.1.Set.Tiles (DW (a.1.Set,a.2)) 0) (by have:=CT a.1.Set.Tiles;omega)
 simp only[mkTS.H0,this,F5];simp
def mkSy.hnm(a:AG×Int):BU (mkSy.H0 a) (mkSy.H0 a):=by
 refine VT λp hp m z=>(mkSy.dom0 _ _).2 ?_
 rcases Be.1 hp with rfl|hp
 .simp[Ac.nms] at z
 .exact .inr (cI (λj=>by simp[Fe,Ac.nms]) hp z)
def rK{G:List Am}{rows:List (List AV)}{n:Nat}{f:Nat->An}(i:Nat)(h:i<n):hget (Ht G rows n f) (2+i)=some (f i):=by
 simp only[Ht,hget,AX _ _ (show 0≠2+i by omega),AX _ _ (show 1≠2+i by omega),Bq];exact GK _ _ _ _ h
def TG{h:Nat->Option An}{kx:Nat->Option Nat}{m:Nat}{G:List Am}{a:List Tile}{k:Int}{i:Nat}{f:Nat->An}(h0:h 0=some (true,.arr 167 2 (G.map Am.c)))(z:h 1=some (true,.arrA 170 2 (Di a k i)))(O: ∀j,j<nT a->h (2+j)=some (f j))
 (hf: ∀j,Ck (Bb h kx (m+1)) (f j).2=some (f j).2)(Q: ∀j,j<nT a->kx (2+j)=some (2+j)):Eh h (Bb h kx (m+1)) (Ht G (Di a k i) (nT a) f):=by
 simp only[Ht,Eh];refine⟨?_,?_,Iv _ _ _ _ _ O (λj _=>hf j)⟩
 .rw[h0];exact⟨rfl,rfl⟩
 .rw[z];refine⟨rfl,?_⟩;simp only[Ck];rw[pJ Q];rfl
def mkSy.ok:A9 36 mkSy.row:=by
 refine ow (tC mkTS.ok (tC mkAC.ok tN)) Tryz.func36 (exB:=λ_=>false) (R:=λa r=>r=mkSy.r0 a) (λ_=>rfl)
  (λa=>⟨mkSy.hbel a,mkSy.hbH a,mkSy.hkH a,mkSy.hnm a⟩) (λa p hp=> ?_) (λa r h=>by subst h;exact CN.refl _) ?_
 rotate_left
 intro a aa;simp only[Tryz.f36,mkSy.ca];simp only[ZA,simprocAttr];obtain⟨S,k⟩:=a;obtain⟨h1,h2,h3⟩:=aa;simp only at h1 h2 h3;simp only[Bu,mkSy.H0];have hn:=CT S.Set.Tiles;have hk:=Nm S.Set.Tiles (DW (S.Set,k)) (by simp only[DW];omega) 0 S.Set.Tiles.length (by omega);have ab:0<=syK (S,k):=by simp only[syK];omega
 have hσ: ∀j,j<2+nT S.Set.Tiles->BW (λj=>j) 2000000 2000002 j=j:=λj z=>Ak (by omega)
 have Q:=λj=>(Iw S.Set.Glues (Di S.Set.Tiles (DW (S.Set,k)) 0) (nT S.Set.Tiles) (Fe S.Set.Tiles (DW (S.Set,k)) 0) j)
 refine AA.tau (S.Set,k) (λj=>j) ⟨h1,h2,by simp only[syK] at h3;simp only;omega⟩ (λ_ _=>rfl) (λj z=> ?_) (λi j _ _ h=>h) (mkTS.hcl _) ⟨?_,?_⟩ (by simp[mkTS.r0,AV.nms]) (λO hH1 Z=> ?_)
 .have z:=(Q j).1 z;omega
 .simp only[mkTS.ca,AJ,AV.ren,hσ 0 (by omega),hσ 1 (by omega)]
 .simp only[mkTS.H0,Ht,CO,hσ 0 (by omega),hσ 1 (by omega),Ac.ren];rw[VM _ _ _ _ (λj z=>hσ _ (by omega))];refine⟨rfl,rfl,QC λi hi=> ?_⟩;rw[hσ _ (by omega)];simp only[hget,AX _ _ (show 2000001≠2+i by omega),AX _ _ (show 2000000≠2+i by omega),AX _ _ (show 0≠2+i by omega),AX _ _ (show 1≠2+i by omega),Bq];rw[GK _ _ _ _ hi];rfl
 have hu: ∀m,m=2000000\/m=2000001-> ∀j,Al (mkTS.H0 (S.Set,k)) j=true->j≠m:=λm hm j z=>by
  have z:=(Q j).1 z;omega
 have gs:hget O 2000000=some (true,.arr 97 3 (S.Seed.Tiles.map Ah.c)):=by rw[Z _ (hu _ (.inl rfl))];rfl
 have gp:hget O 2000001=some (true,.cells 46 [.own 0,.own 1,.own 2000000,.im (.int .i64 S.Temperature)]):=by rw[Z _ (hu _ (.inr rfl))];rfl
 have g0:hget O 0=some (true,.arr 167 2 ((Dq (gF k) S.Set.Glues.length).map Am.c)):=hH1 0 _ rfl;have g1:hget O 1=some (true,.arrA 170 2 (Di S.Set.Tiles (DW (S.Set,k)) (nT S.Set.Tiles))):=by
  rw[hH1 1 _ rfl];simp only[Ac.ren];rw[VM _ _ _ _ (λj z=>hσ _ (by omega))]
 have g2: ∀j,j<nT S.Set.Tiles->hget O (2+j)=some (Fe S.Set.Tiles (DW (S.Set,k)) (nT S.Set.Tiles) j):=λj z=>by
  have e:hget (mkTS.H1 (S.Set,k)) (2+j)=some (Fe S.Set.Tiles (DW (S.Set,k)) (nT S.Set.Tiles) j):=rK j z;rw[hH1 (2+j) _ e];rfl
 have eK:E7 S.Set.Tiles (DW (S.Set,k)) S.Set.Tiles.length=syK (S,k):=rfl;simp only[mkTS.r0,AV.ren,eK];simp only[ZA,simprocAttr,Bu,gp]
 skip
 refine AA.os (S.Seed,syK (S,k)) [2000000] ⟨ab,h3⟩ (λj=> ?_) rfl rfl ?_ ?_
 .simp only[Al,mkAC.H0,hget];by_cases z:j=0
  .subst z;simp
  .have:(0==j)=false:=by simpa using λh=>z h.symm
   rw[this];simp;omega
 .simp only[ZA,simprocAttr,DL,mkAC.ca,mkAC.H0,CO,Eo,gs]
  try exact⟨rfl,rfl⟩
 simp only[ZA,simprocAttr,DL,mkAC.H1,Bu,Eo,G6,mkSy.r0,mkSy.H1];obtain⟨HX,hHX⟩: ∃HX,HX=hget ((2000000,(true,Ac.arr 97 3 (List.map Ah.c (Dq (pF (syK (S,k))) S.Seed.Tiles.length))))::Bi O [2000000]):=⟨_,rfl⟩;rw[<-hHX];have gx: ∀m,m≠2000000->HX m=hget O m:=λm hm=>by
  rw[hHX];simp only[hget,AX _ _ (λh=>hm h.symm:2000000≠m),Bq];exact Lj _ _ _ (λh=>hm h.symm)
 refine⟨VR _ _,TG (by rw[gx 0 (by omega)];exact g0) (by rw[gx 1 (by omega)];exact g1) (λj z=>by simp only at z;rw[gx _ (by omega)];exact g2 j z) (λj=>rfl) (λj z=>VW ?_)⟩;simp only at z
 have:=(mkSy.dom0 (S,k) (2+j)).2 (.inr (by simp only;omega))
 simpa only[mkSy.H0] using this
 obtain⟨q1,_⟩:=mkSy.hcl _ p hp
 have:=(mkSy.dom0 _ _).1 q1
 have:=CT a.1.Set.Tiles
 exact .inl ⟨by omega,rfl,q1⟩
def GG(a:List Tile):Nat:=(a.map λx=>x.Sides.length).sum
def pC(y:Tile)(r:List Tile)(k:Int): ∀i,E7 (y::r) k (i+1)=E7 r (k+1+y.Sides.length) i
 |0=>rfl
 |i+1=>by
  rw[E7,pC y r k i,E7];rfl
def Nn: ∀(a:List Tile) (k:Int),E7 a k a.length=k+a.length+GG a
 |[],k=>by simp[E7,GG]
 |y::r,k=>by
  rw[CQ,pC,Nn r];simp only[GG,Bg,Lx];omega
def kE{n:Nat}{l:Int}(h:0<=Cy n l):Cy n l=l - n:=by
 simp only[Cy] at h⊢;split at h
 .omega
 .rename_i c;rw[Ad c]
def oY: ∀(a:List Tile) (l:Int),0<=l->0<=FZ F4 a l->(GG a:Int)+FZ F4 a l<=l
 |[],l,h0,_=>by simp[GG,FZ]
 |y::r,l,h0,h=>by
  simp only[FZ] at h⊢;by_cases c:F4 y l<0
  .rw[Ak c] at h;omega
  .rw[Ad c] at h⊢;have z:0<=F4 y l:=by omega
   have O:0<=Cy y.Name.size l:=by
    simp only[F4] at z;split at z<;>omega
   have e:F4 y l=Cy y.Sides.length (Cy y.Name.size l):=by
    simp only[F4];rw[Ad (by omega)]
   rw[e] at z h⊢;have q1:=Ra O;have Q:=kE z;have ih:=oY r _ z h;simp only[GG,Bg,Lx] at ih⊢;omega
structure Fl(s:AG):Prop where
 g:s.Set.Glues.length<=1048576
 t:s.Set.Tiles.length<=1048576
 d:GG s.Set.Tiles<=1048576
 p:s.Seed.Tiles.length<=1048576
def Ni{s:AG}{l:Int}(hl: -1<=l)(aa:l<=1048576)(h:0<=J6 s l):Fl s:=by
 have hb:=Qxk s.Set l hl;simp only[J6] at h;split at h
 .omega
 rename_i c;obtain⟨a1,_,_⟩:=Ra h;have z:0<=Qc s.Set l:=by omega
 have hg:=Qo1 s.Set.Glues l hl;simp only[Qc] at z;split at z
 .omega
 have O:0<=Hi s.Set.Glues l:=by omega
 have Z:0<=Cy s.Set.Glues.length l:=by
  simp only[Hi] at O;split at O<;>omega
 have Q:0<=Cy s.Set.Tiles.length (Hi s.Set.Glues l):=by
  simp only[Ln] at z;split at z<;>omega
 have e:Ln s.Set.Tiles (Hi s.Set.Glues l)=FZ F4 s.Set.Tiles (Cy s.Set.Tiles.length (Hi s.Set.Glues l)):=by
  simp only[Ln];rw[Ad (by omega)]
 rw[e] at z;obtain⟨b1,_,_⟩:=Ra Z;obtain⟨d1,d2,_⟩:=Ra Q
 have:=oY s.Set.Tiles _ Q z
 exact⟨by omega,by omega,by omega,by omega⟩
def jQ{a:List Tile}{x:Tile}(h:x∈a):x.Sides.length<=GG a:=by
 induction a with
 |nil=>cases h
 |cons y r ih=>
  simp only[GG,Bg,Lx] at ih⊢;rcases Be.1 h with rfl|h
  .omega
  .have:=ih h;omega
def Fl.yx{s:AG}(h:Fl s):toYX.pre s:=⟨⟨by have:=h.g;omega,⟨h.t,λx z=>by have:=jQ z;have:=h.d;omega⟩⟩,by have:=h.p;omega⟩
structure Db(h:Nat->Option An)(g t p f:Nat)(s:AG):Prop where
 g:h g=some (true,.arr 167 2 (s.Set.Glues.map Am.c))
 t:h t=some (true,.arrA 170 2 (GD f s.Set.Tiles))
 p:h p=some (true,.arr 97 3 (s.Seed.Tiles.map Ah.c))
 f: ∀i,i<s.Set.Tiles.length->h (f+i)=some (Dz s.Set.Tiles i)
def dF{h:Nat->Option An}{n f:Nat}{a:List Tile}(hf: ∀i,i<a.length->h (f+i)=some (Dz a i)):Ar (Ar (bk h (n+1))) (GD f a)=some (a.map Tile.c):=by
 have e:a.map Tile.c=(List.range a.length).map λi=>((a[i]?.map Tile.c).getD []):=by
  apply Kt;intro i;rw[Du,Du];by_cases z:i<a.length
  .rw[Ic z,Bk z];simp[z]
  .rw[Fm (by omega),Fm (by simp;omega)];rfl
 rw[e];refine Rb _ λi z=> ?_
 have z:=Bv.1 z;have O:a[i]? =some a[i]:=Bk z;simp only[Ar,bk,hf i z,Dz,Ko,O,CY,AO,Tile.c]
def Db.bk{h:Nat->Option An}{g t p f n:Nat}{s:AG}(hs:Db h g t p f s):Go.Ae.bk h (n+3) (.agg [.own g,.own t,.own p,.im (.int .i64 s.Temperature)])=some (.agg (AG.c s)):=by
 simp only[Go.Ae.bk,Ar,hs.g,hs.t,hs.p,Ko,dF hs.f,CY,AG.c]
def Db.pk{h:Nat->Option An}{g t p f:Nat}{s:AG}(hs:Db h g t p f s):Ej h (.agg [.own g,.own t,.own p,.im (.int .i64 s.Temperature)])=some (.val (.agg (AG.c s))):=by
 simp only[Ej,hs.bk (n:=6),EX,CY]
def vN.call{A:Type}{ar:List PK->Option A}{pre:A->Prop}{re:A->D}{args:List AV}{tm:List (Nat×AV)}{h:Ao}{nx:Nat}{dst:Option Nat}{Z:Av->Prop}(ps:List PK)(Q:KO (hget h) args=some (ps,[]))(a:A)(ha:ar ps=some a)(z:pre a)
 (O:Z ((⟨tm,h,nx⟩:Av).put dst (.im (re a)))):Dj ar pre re args (hget h) nx (DH Z ⟨tm,h,nx⟩ dst):=by
 unfold Dj;rw[Q];simp only[Zd,ha,EB,Sl];refine⟨z,?_,?_⟩
 .rw[Bo.ok_nr];simp[AV.bel,Au,Hm]
 .rw[Av.app_nr,Bu,Qi];exact O
def TA(l m:List AD):a2 (kS AD.d) (kS AD.d) [.val (.sl false 3 (l.map AD.c)),.val (.sl false 3 (m.map AD.c))]=some (l,m):=by simp only[a2,kS,AD.d_R,FR]
def wK(l m:List Int):a2 (kS Cl) (kS Cl) [.val (.sl false 1 (l.map Aj)),.val (.sl false 1 (m.map Aj))]=some (l,m):=by simp only[a2,kS,NO VV,FR]
def bJ{s:AG}(hs:Fl s): ∀p∈toYX.H1 s,p.1<2000013/\ ∀m∈p.2.2.nms,m<2000013:=by
 have z:min s.Set.Tiles.length 1048576<=1048576:=gA _ _;have ht:=hs.t;intro p hp;simp only[toYX.H1,Be,AS,Bh,Bv] at hp;rcases hp with rfl|rfl|rfl|⟨i,Z,rfl⟩
 .exact⟨by omega,by simp[Ac.nms]⟩
 .refine⟨by omega,λm z=> ?_⟩;simp only[Ac.nms] at z;obtain⟨r,Q,z⟩:=Ff.1 z;obtain⟨j,O,rfl⟩:=Bh.1 Q
  have:=Bv.1 O
  simp[AB,AV.nms] at z;omega
 .exact⟨by omega,by simp[Ac.nms]⟩
 .exact⟨by simp only;omega,by simp[Dz,Ac.nms]⟩
def Db.mono{h h':Nat->Option An}{g t p f:Nat}{s:AG}(hs:Db h g t p f s)(z: ∀m,(m=g\/m=t\/m=p\/(f<=m/\m<f+s.Set.Tiles.length))->h' m=h m):Db h' g t p f s:=
 ⟨by rw[z g (.inl rfl)];exact hs.g,by rw[z t (.inr (.inl rfl))];exact hs.t,by rw[z p (.inr (.inr (.inl rfl)))];exact hs.p,λi O=>by rw[z _ (.inr (.inr (.inr ⟨by omega,by omega⟩)))];exact hs.f i O⟩
def bI{s:AG}(hs:Fl s){nx:Nat}{z:Ao}(h: ∀j e,hget (toYX.H1 s) j=some e->hget z (nx+j)=some (e.1,e.2.ren λj=>nx+j)):Db (hget z) (nx+7) (nx+9) (nx+2000012) (nx+10) s:=by
 have Z:=hs.t;have Q:min s.Set.Tiles.length 1048576=s.Set.Tiles.length:=by omega
 refine⟨h 7 _ rfl,?_,h 2000012 _ rfl,λi O=> ?_⟩
 .rw[h 9 _ rfl];simp only[Ac.ren];congr 3;simp only[GD,Oe];refine Kr λi O=> ?_
  simp only[Function.comp,AJ,AV.ren];rw[Gf]
 .have e:hget (toYX.H1 s) (10+i)=some (Dz s.Set.Tiles i):=by
   simp only[toYX.H1,hget,AX _ _ (show 7≠10+i by omega),AX _ _ (show 9≠10+i by omega),AX _ _ (show 2000012≠10+i by omega),Bq];rw[Q];exact GK _ _ _ _ O
  rw[Gf,h _ _ e];rfl
def Ix{H:Ao}(e:An)(k m:Nat)(h:k≠m):hget ((k,e)::Bi H [k]) m=hget H m:=by
 simp only[hget,AX _ _ h,Bq];exact Lj _ _ _ h
def Qs{h:Nat->Option An}{x y:AV}{p q:PK}(z:Ej h x=some p)(O:Ej h y=some q):Ct h [x,y]=some [p,q]:=by simp only[Ct,z,O,Hv]
def JU{h:Nat->Option An}{o T k:Nat}{z:Bool}{rows:List (List D)}(g:h o=some (z,.arr T k rows)):Ej h (.own o)=some (.val (.sl false k rows)):=by simp only[Ej,bk,g,Ko,EX,CY]
def oZ: ∀l:List Nat,J5 l []=true
 |[]=>rfl
 |x::r=>by simp[J5,oZ r]
def JV:List Fp->Bool
 |[]=>true
 |f::r=>f.touch.isEmpty && JV r
def bV(cl:List (List Nat))(i:Nat)(use:List Nat): ∀acc:List Fp,JV acc=true->Ir cl i use [] [] acc=true
 |[],_=>rfl
 |f::r,h=>by
  simp only[JV,AL,List.isEmpty_iff] at h;simp only[Ir,mZ,h.1,DA,oZ,J5,Gs,fW,Cg,bV cl i use r h.2]
def vN.callA{A:Type}{ar:List PK->Option A}{pre:A->Prop}{re:A->D}{args:List AV}{tm:List (Nat×AV)}{h:Ao}{nx:Nat}{dst:Option Nat}{Z:Vn}{cl:List (List Nat)}{i:Nat}{acc:List Fp}(ps:List PK)(Q:KO (hget h) args=some (ps,[]))(a:A)(ha:ar ps=some a)(z:pre a)(hq:JV acc=true)
 (O: ∀u,Z (⟨i,u,[],nx,0⟩::acc) ((⟨tm,h,nx⟩:Av).put dst (.im (re a)))):Dj ar pre re args (hget h) nx (NL cl i acc Z ⟨tm,h,nx⟩ dst):=by
 unfold Dj;rw[Q];simp only[Zd,ha,EB,Sl];refine⟨z,?_,?_,?_⟩
 .rw[Bo.ok_nr];simp[AV.bel,Au,Hm]
 .exact bV _ _ _ _ hq
 .rw[Av.app_nr,Bu,Qi];exact O _
def vF.callA{A:Type}{ar:List PK->Option A}{pre:A->Prop}{re:A->D}{args:List AV}{tm:List (Nat×AV)}{h:Ao}{nx:Nat}{dst:Option Nat}{Z:Vn}{cl:List (List Nat)}{i:Nat}{acc:List Fp}(ps:List PK)(Q:Ct (hget h) args=some ps)(a:A)(ha:ar ps=some a)(z:pre a)(hq:JV acc=true)
 (O: ∀u,Z (⟨i,u,[],nx,0⟩::acc) ((⟨tm,h,nx⟩:Av).put dst (.im (re a)))):NR ar pre re args (hget h) nx (NL cl i acc Z ⟨tm,h,nx⟩ dst):=by
 unfold NR;rw[Q];simp only[Ww,ha,EB];refine⟨z,?_,?_,?_⟩
 .rw[Bo.ok_nr];simp[AV.bel,Au,Hm]
 .exact bV _ _ _ _ hq
 .rw[Av.app_nr,Bu,Qi];exact O _
def mkOC.d0(a:List AD×Int)(j:Nat)(z:Al (mkOC.H0 a) j=true):j=0:=by
 simp only[Al,mkOC.H0,hget] at z;by_cases h:j=0
 .exact h
 .rw[AX _ _ (λq=>h q.symm)] at z;cases z
def OM{nx o:Nat}{tm:List (Nat×AV)}{h:Ao}{dst:Option Nat}{go:Av->Prop}{l:List AD}{k:Int}(hk:0<=k)(aa:k+3*l.length<=1099511627776)(hS:hget h o=some (true,.arr 72 3 (l.map AD.c)))(ab:o<nx)
 (Z: ∀O:Ao,(∀j e,hget (mkOC.H1 (l,k)) j=some e->hget O o=some (e.1,e.2.ren (BW (λ_=>o) 1 nx)))->(∀m,m≠o->hget O m=hget h m)->go ((⟨tm,O,nx⟩:Av).put dst (.im (.int .i64 (k+3*l.length))))):
 mkOC.row [.own o,.im (.int .i64 k)] (hget h) nx (DH go ⟨tm,h,nx⟩ dst):=by
 refine AA.tau (l,k) (λ_=>o) ⟨hk,aa⟩ (λj z=>by rw[mkOC.d0 _ j z];rfl) (λj z=>⟨by rw[mkOC.d0 _ j z];omega,ab⟩) (λi j hi z _=>by rw[mkOC.d0 _ i hi,mkOC.d0 _ j z]) (λp hp=> ?_) ⟨rfl,hS,trivial⟩ (by simp[AV.nms]) (λO hH1 Q=>Z O hH1 λm hm=>Q m λj z h=>hm h.symm);simp only[mkOC.H1,BS] at hp;subst hp;exact⟨rfl,λm hm=>by simp[Ac.nms] at hm⟩
def mkIC.d0(a:List Int×Int)(j:Nat)(z:Al (mkIC.H0 a) j=true):j=0:=by
 simp only[Al,mkIC.H0,hget] at z;by_cases h:j=0
 .exact h
 .rw[AX _ _ (λq=>h q.symm)] at z;cases z
def pN{nx o:Nat}{tm:List (Nat×AV)}{h:Ao}{dst:Option Nat}{go:Av->Prop}{l:List Int}{k:Int}(hk:0<=k)(aa:k+l.length<=1099511627776)(hS:hget h o=some (true,.arr 2 1 (l.map Aj)))(ab:o<nx)
 (Z: ∀O:Ao,(∀j e,hget (mkIC.H1 (l,k)) j=some e->hget O o=some (e.1,e.2.ren (BW (λ_=>o) 1 nx)))->(∀m,m≠o->hget O m=hget h m)->go ((⟨tm,O,nx⟩:Av).put dst (.im (.int .i64 (k+l.length))))):
 mkIC.row [.own o,.im (.int .i64 k)] (hget h) nx (DH go ⟨tm,h,nx⟩ dst):=by
 refine AA.tau (l,k) (λ_=>o) ⟨hk,aa⟩ (λj z=>by rw[mkIC.d0 _ j z];rfl) (λj z=>⟨by rw[mkIC.d0 _ j z];omega,ab⟩) (λi j hi z _=>by rw[mkIC.d0 _ i hi,mkIC.d0 _ j z]) (λp hp=> ?_) ⟨rfl,hS,trivial⟩ (by simp[AV.nms]) (λO hH1 Q=>Z O hH1 λm hm=>Q m λj z h=>hm h.symm);simp only[mkIC.H1,BS] at hp;subst hp;exact⟨rfl,λm hm=>by simp[Ac.nms] at hm⟩
def needX.pre(a:JP):Prop:=(∀o∈a.Seq,G4 o.At)/\a.Inputs.length=a.Seq.length/\a.Seq.length<=500
def totI(M:List (List Int)):Nat:=(M.map List.length).sum
def roI(M:List (List Int))(i:Nat):List Int:=M[i]?.getD []
def ssK(M:List (List Int))(k:Int):Nat->Int
 |0=>k
 |i+1=>ssK M k i+(roI M i).length
def Ca(M:List (List Int))(k:Int):List (List Int):=(List.range M.length).map λi=>OK (ssK M k i) (roI M i).length
def mkSS.pre(a:List (List Int)×Int):Prop:=a.1.length<=1048576/\0<=a.2/\a.2+totI a.1<=1099511627776
structure Q4(h:Nat->Option An)(o b:Nat)(M:List (List Int)):Prop where
 r:h o=some (true,.arrA 31 1 (Dm b M.length))
 f: ∀i,i<M.length->h (b+i)=some (true,.arr 2 1 ((M[i]?.getD []).map Aj))
def Q4.mono{h h':Nat->Option An}{o b:Nat}{M:List (List Int)}(hs:Q4 h o b M)(z: ∀m,(m=o\/(b<=m/\m<b+M.length))->h' m=h m):Q4 h' o b M:=
 ⟨by rw[z o (.inl rfl)];exact hs.r,λi O=>by rw[z _ (.inr ⟨by omega,by omega⟩)];exact hs.f i O⟩
def Q4.pk{h:Nat->Option An}{o b:Nat}{M:List (List Int)}(hs:Q4 h o b M):Ej h (.own o)=some (.val (.sl false 1 (M.map CK))):=by
 have e:Ar (Ar (bk h 8)) (Dm b M.length)=some (M.map CK):=by
  have O:M.map CK=(List.range M.length).map λi=>CK (M[i]?.getD []):=by
   apply Kt;intro i;rw[Du,Du];by_cases z:i<M.length
   .rw[Ic z,Bk z];simp[z]
   .rw[Fm (by omega),Fm (by simp;omega)];rfl
  rw[O];refine Rb _ λi z=> ?_
  have z:=Bv.1 z;simp only[Ar,bk,hs.f i z,Ko,CK]
 simp only[Ej,bk,hs.r,Ko,e,CY,EX]
def Wm{A:Type}(f:Nat->A)(n:Nat):(Dq f n).length=n:=by simp[Dq]
def NH(l:List AD)(k:Int):Int:=if l=Dq (oF k) l.length then k+3*l.length else -1
def S9(k:Int)(n:Nat):NH (Dq (oF k) n) k=k+3*n:=by
 simp only[NH,Wm,BM]
def rG{A:Type}(f:Nat->A)(n:Nat):Dq f (n+1)=Dq f n++[f n]:=by simp[Dq,mL]
def Nw{A:Type}{f:Nat->A}{n i:Nat}(h:i<n):(Dq f n)[i]? =some (f i):=by simp only[Dq,Du];rw[Ic h];rfl
def heldO_.fv(a:(List AD)×Int):Int:=(NH) (a.1) (a.2)
def heldO_.row:Ay:=D1 (b2 (qS AD.d_le AD.c_n) qI) rI (λa=>0<=a.2/\a.2+3*a.1.length<=1099511627776) heldO_.fv
def heldO_.ok:A9 17 heldO_.row:=by
 refine GF tN Tryz.func17 ?_;intro a z;simp only[Tryz.f17];simp only[ZA,simprocAttr,heldO_.fv];obtain⟨l,k⟩:=a;simp only at z⊢;obtain⟨h1,h2⟩:=z;refine AU.old ⟨{i:Nat//i<=l.length/\l.take i=Dq (oF k) i},λi=>⟨[(5,.im (.int .i64 i.1)),(4,.im (.int .i64 0)),(1,.im (.int .i64 (k+3*i.1))),(0,.im (.sl false 3 (l.map AD.c)))],[],0⟩,λi=>l.length - i.1,λi=>⟨by simp[ZG],by simp⟩,⟨⟨0,by simp[Dq]⟩,by simp only[ZA,simprocAttr,sub];simp⟩,λi=> ?_⟩;obtain⟨i,ab,O⟩:=i;simp only[ZA,simprocAttr,D.sc,D.scs,BC,sub,AR];intro _;have w1:IntKind.i64.wrap (k+3*(i:Int)+1)=k+3*(i:Int)+1\/ ¬i<l.length:=by
  by_cases c:i<l.length
  .exact .inl (AC (by omega) (by omega))
  .exact .inr c
 refine⟨λZ=>⟨Z,λx hx=> ?_⟩,λZ=> ?_⟩
 .have w1:IntKind.i64.wrap (k+3*(i:Int)+1)=k+3*(i:Int)+1:=AC (by omega) (by omega);have w2:IntKind.i64.wrap (k+3*(i:Int)+1+1)=k+3*(i:Int)+2:=(AC (by omega) (by omega)).trans (by omega);have w3:IntKind.i64.wrap (k+3*(i:Int)+2+1)=k+3*((i+1:Nat):Int):=(AC (by omega) (by omega)).trans (by omega);simp only[w1,w2,w3];have Q:x≠oF k i-> -1=NH l k:=λc=>by
   simp only[NH];rw[Ad λh=> ?_];rw[h,Nw Z] at hx;exact c (A7 hx).symm
  refine⟨λc=>Q λh=>c (by rw[h];rfl),λc1=>⟨Z,λy hy=> ?_⟩⟩;obtain rfl:x=y:=A7 (hx.symm.trans hy);refine⟨λc=>Q λh=>c (by rw[h];rfl),λc2=>⟨Z,λy hy=> ?_⟩⟩;obtain rfl:x=y:=A7 (hx.symm.trans hy);refine⟨λc=>Q λh=>c (by rw[h];rfl),λc3=>⟨⟨i+1,by omega,?_⟩,by simp only;omega,by rw[AC (by omega) (by omega)];simp only;omega,rfl⟩⟩;have e:x=oF k i:=by
   obtain⟨⟨u,v⟩,t⟩:=x;simp only[Gi] at c1 c2 c3;simp only[oF,c1,c2,c3]
  rw[ZL hx,O,rG,e]
 .have aa:i=l.length:=by omega
  subst aa;rw[IG] at O;simp only[NH];rw[Ak O]
def totO(M:List (List AD)):Nat:=(M.map List.length).sum
def mkOO.pre(a:List (List AD)×Int):Prop:=a.1.length<=1048576/\0<=a.2/\a.2+3*totO a.1<=1099511627776
def GI(l:List Ah)(k:Int):Int:=if l=Dq (pF k) l.length then k+3*l.length else -1
def SA(k:Int)(n:Nat):GI (Dq (pF k) n) k=k+3*n:=by
 simp only[GI,Wm,BM]
def heldP_.fv(a:(List Ah)×Int):Int:=(GI) (a.1) (a.2)
def heldP_.row:Ay:=D1 (b2 (qS Ah.d_le Ah.c_n) qI) rI (λa=>0<=a.2/\a.2+3*a.1.length<=1099511627776) heldP_.fv
def heldP_.q:=DX (R:=heldP_.row) rfl
def heldP_.ok:A9 38 heldP_.row:=by
 refine GF tN Tryz.func38 ?_;intro a z;simp only[Tryz.f38];simp only[ZA,simprocAttr,heldP_.fv];obtain⟨l,k⟩:=a;simp only at z⊢;obtain⟨h1,h2⟩:=z;refine AU.old ⟨{i:Nat//i<=l.length/\l.take i=Dq (pF k) i},λi=>⟨[(5,.im (.int .i64 i.1)),(4,.im (.int .i64 0)),(1,.im (.int .i64 (k+3*i.1))),(0,.im (.sl false 3 (l.map Ah.c)))],[],0⟩,λi=>l.length - i.1,λi=>⟨by simp[ZG],by simp⟩,⟨⟨0,by simp[Dq]⟩,by simp only[ZA,simprocAttr,sub];simp⟩,λi=> ?_⟩;obtain⟨i,ab,O⟩:=i;simp only[ZA,simprocAttr,D.sc,D.scs,BC,sub,AR];intro _;refine⟨λZ=>⟨Z,λx hx=> ?_⟩,λZ=> ?_⟩
 .have w1:IntKind.i64.wrap (k+3*(i:Int)+1)=k+3*(i:Int)+1:=AC (by omega) (by omega);have w2:IntKind.i64.wrap (k+3*(i:Int)+1+1)=k+3*(i:Int)+2:=(AC (by omega) (by omega)).trans (by omega);have w3:IntKind.i64.wrap (k+3*(i:Int)+2+1)=k+3*((i+1:Nat):Int):=(AC (by omega) (by omega)).trans (by omega);simp only[w1,w2,w3];have Q:x≠pF k i-> -1=GI l k:=λc=>by
   simp only[GI];rw[Ad λh=> ?_];rw[h,Nw Z] at hx;exact c (A7 hx).symm
  refine⟨λc=>Q λh=>c (by rw[h];rfl),λc1=>⟨Z,λy hy=> ?_⟩⟩;obtain rfl:x=y:=A7 (hx.symm.trans hy);refine⟨λc=>Q λh=>c (by rw[h];rfl),λc2=>⟨Z,λy hy=> ?_⟩⟩;obtain rfl:x=y:=A7 (hx.symm.trans hy);refine⟨λc=>Q λh=>c (by rw[h];rfl),λc3=>⟨⟨i+1,by omega,?_⟩,by simp only;omega,by rw[AC (by omega) (by omega)];simp only;omega,rfl⟩⟩;have e:x=pF k i:=by
   obtain⟨⟨u,v⟩,t⟩:=x;simp only[Gi] at c1 c2 c3;simp only[pF,c1,c2,c3]
  rw[ZL hx,O,rG,e]
 .have aa:i=l.length:=by omega
  subst aa;rw[IG] at O;simp only[GI];rw[Ak O]
def OE(x:List Ah)(k:Int):GI x k=k+3*x.length\/GI x k= -1:=by
 simp only[GI];split
 .exact .inl rfl
 .exact .inr rfl
def heldA_.fv(a:Af×Int):Int:=(λa k=>GI a.Tiles k) (a.1) (a.2)
def heldA_.row:Ay:=D1 (b2 (qR Af.d_le) qI) rI (λa=>0<=a.2/\a.2+3*a.1.Tiles.length<=1099511627776) heldA_.fv
def heldA_.ok:A9 18 heldA_.row:=by
 refine GF (tC heldP_.ok tN) Tryz.func18 ?_;intro a z;simp only[Tryz.f18];simp only[ZA,simprocAttr,CS,heldA_.fv,heldP_.q,heldP_.fv,D.sc,D.scs,BC];obtain⟨⟨x⟩,k⟩:=a;obtain⟨O,Q⟩:=z;simp only at O Q⊢;refine⟨⟨O,Q⟩,?_⟩;rcases OE x k with h|h
 .rw[Ad (by omega)];trivial
 .rw[Ak (by omega)];exact h.symm
def eqAsmF.fv(a:Af×Af):Bool:=(λa b=>decide (a=b)) (a.1) (a.2)
def eqAsmF.row:Ay:=D1 (b2 (qR Af.d_le) (qR Af.d_le)) rB (λa=>True) eqAsmF.fv
def eqAsmF.ok:A9 10 eqAsmF.row:=by
 refine GF (tC eqPlacedS.ok tN) Tryz.func10 ?_;intro a z;simp only[Tryz.f10];simp only[ZA,simprocAttr,eqAsmF.fv,eqPlacedS.q,eqPlacedS.fv,D.sc,D.scs,BC];obtain⟨⟨x⟩,⟨y⟩⟩:=a;simp only[Af.mk.injEq]
 grind
def Jh{h:Nat->Option An}{n:Nat}{a:Af}(hn:h n=some (true,.arr 97 3 (a.Tiles.map Ah.c))):Ej h (.agg [.own n])=some (.val (.agg (Af.c a))):=by
 simp only[Ej,bk,Ar,hn,Ko,CY,EX,Af.c]
def Rt(a b:Af):a2 (kR Af.d) (kR Af.d) [.val (.agg (Af.c a)),.val (.agg (Af.c b))]=some (a,b):=by simp only[a2,kR,Af.d_c,FR]
def OJ{nx o:Nat}{tm:List (Nat×AV)}{h:Ao}{dst:Option Nat}{go:Av->Prop}{a:Af}{k:Int}(hk:0<=k)(aa:k+3*a.Tiles.length<=1099511627776)(hS:hget h o=some (true,.arr 97 3 (a.Tiles.map Ah.c)))(ab:o<nx)
 (Z: ∀O:Ao,hget O o=some (true,.arr 97 3 ((Dq (pF k) a.Tiles.length).map Ah.c))->(∀m,m≠o->hget O m=hget h m)->go ((⟨tm,O,nx⟩:Av).put dst (.im (.int .i64 (k+3*a.Tiles.length))))):
 mkAC.row [.agg [.own o],.im (.int .i64 k)] (hget h) nx (DH go ⟨tm,h,nx⟩ dst):=by
 have hd: ∀j,Al (mkAC.H0 (a,k)) j=true->j=0:=λj z=>by
  simp only[Al,mkAC.H0,hget] at z;by_cases h:j=0
  .exact h
  .rw[AX _ _ (λq=>h q.symm)] at z;cases z
 refine AA.tau (a,k) (λ_=>o) ⟨hk,aa⟩ (λj z=>by rw[hd j z];rfl) (λj z=>⟨by rw[hd j z];omega,ab⟩) (λi j hi z _=>by rw[hd i hi,hd j z]) (λp hp=> ?_) ⟨rfl,hS,trivial⟩ (by simp[AV.nms]) (λO hH1 Q=>Z O (hH1 0 _ rfl) λm hm=>Q m λj z h=>hm h.symm);simp only[mkAC.H1,BS] at hp;subst hp;exact⟨rfl,λm hm=>by simp[Ac.nms] at hm⟩
def NK{H:Ao}{n m:Nat}(h:n≠m):hget (Bi H [n]) m=hget H m:=Lj _ _ _ h
def pg{H H':Ao}{k m:Nat}{e:An}{x:Option An}(z:(k,e)::Bi H [k]=H')(h:k≠m)(g:hget H m=x):hget H' m=x:=by subst z;exact (Ix _ _ _ h).trans g
def pg2{H H':Ao}{k j m:Nat}{e f:An}{x:Option An}(O:(j,f)::(k,e)::Bi (Bi H [k]) [j]=H')(h:k≠m)(z:j≠m)(g:hget H m=x):hget H' m=x:=by
 subst O;simp only[hget,AX _ _ h,AX _ _ z,Bq];rw[NK z,NK h];exact g
section
variable {A B:Type}{k:AK A}{r:RK B}{pre:A->Prop}{f:A->B}{args:List AV}{tm:List (Nat×AV)}{h:Ao}{nx:Nat}{dst:Option Nat}
def vK.call{Z:Av->Prop}(ps:List PK)(Q:KO (hget h) args=some (ps,[]))(a:A)(ha:k.r ps=some a)(z:pre a)(O:Z ((⟨tm,h,nx⟩:Av).put dst (.im (r.e (f a))))):vK k r pre f args (hget h) nx (DH Z ⟨tm,h,nx⟩ dst):=vN.call ps Q a ha z O
def D1.call{Z:Av->Prop}(ps:List PK)(Q:Ct (hget h) args=some ps)(a:A)(ha:k.r ps=some a)(z:pre a)(O:Z ((⟨tm,h,nx⟩:Av).put dst (.im (r.e (f a))))):D1 k r pre f args (hget h) nx (DH Z ⟨tm,h,nx⟩ dst):=vF.call ps Q a ha z O
def vK.callA{Z:Vn}{cl:List (List Nat)}{i:Nat}{acc:List Fp}(ps:List PK)(Q:KO (hget h) args=some (ps,[]))(a:A)(ha:k.r ps=some a)(z:pre a)(hq:JV acc=true)(O: ∀u,Z (⟨i,u,[],nx,0⟩::acc) ((⟨tm,h,nx⟩:Av).put dst (.im (r.e (f a))))):vK k r pre f args (hget h) nx (NL cl i acc Z ⟨tm,h,nx⟩ dst):=vN.callA ps Q a ha z hq O
def D1.callA{Z:Vn}{cl:List (List Nat)}{i:Nat}{acc:List Fp}(ps:List PK)(Q:Ct (hget h) args=some ps)(a:A)(ha:k.r ps=some a)(z:pre a)(hq:JV acc=true)(O: ∀u,Z (⟨i,u,[],nx,0⟩::acc) ((⟨tm,h,nx⟩:Av).put dst (.im (r.e (f a))))):D1 k r pre f args (hget h) nx (NL cl i acc Z ⟨tm,h,nx⟩ dst):=vF.callA ps Q a ha z hq O
end
def FI{A:Type}(l:List A):Option (List A):=if l=[] then none else some l
abbrev Ek(s:AG)(f:Ab->Int)(q:Ab):List Int:=Gb s f q s.Set.Tiles.length
def N1(s:AG)(f:Ab->Int)(op:List (Ab×List Int)):Prop:=(op.map Prod.fst).Nodup/\ ∀q,Bz op q=FI (Ek s f q)
def VX{s:AG}{f:Ab->Int}{q:Ab}(h: ∀k:Int,IC s f q k=false): ∀n,Gb s f q n=[]
 |0=>rfl
 |n+1=>by simp only[Gb,VX h n,h,FC];rfl
def qM{s:AG}{f:Ab->Int}{q:Ab}(h:0<=f q)(n:Nat):Gb s f q n=[]:=
 VX (λk=>by simp only[IC];rw[mM (show ¬f q<0 by omega)];simp) n
def pW{s:Az}{f:Ab->Int}{q:Ab}{t:Int}(h: ∀d:Nat,d<4->f (Cw q d)<0): ∀k,k<=4->Fa s f q t k=0
 |0,_=>rfl
 |k+1,z=>by
  have:=h k (by omega)
  simp only[Fa,pW h k (by omega),Qd];rw[Ad (by omega)];rfl
def pV{s:AG}{f:Ab->Int}{q:Ab}(z:1<=s.Temperature)(h: ∀d:Nat,d<4->f (Cw q d)<0)(n:Nat):Gb s f q n=[]:=
 VX (λk=>by simp only[IC,pW h 4 (AN _)];rw[mM (show ¬s.Temperature<=0 by omega)];simp) n
def qJ{s:Az}{f g:Ab->Int}{q:Ab}{t:Int}(h: ∀d:Nat,d<4->f (Cw q d)=g (Cw q d)): ∀k,k<=4->Fa s f q t k=Fa s g q t k
 |0,_=>rfl
 |k+1,z=>by simp only[Fa,qJ h k (by omega),Qd,h k (by omega)]
def qH{s:AG}{f g:Ab->Int}{q:Ab}(h0:f q=g q)(h: ∀d:Nat,d<4->f (Cw q d)=g (Cw q d)): ∀n,Gb s f q n=Gb s g q n
 |0=>rfl
 |n+1=>by
  have e:IC s f q n=IC s g q n:=by simp only[IC,h0,qJ h 4 (AN _)]
  simp only[Gb,qH h0 h n,e]
def KD{β:Type}{p:Ab}: ∀{l:List (Ab×β)},p∉l.map Prod.fst->Bz l p=none
 |[],_=>rfl
 |(k,v)::r,h=>by
  simp only[Bg,Be,ZX] at h;simp only[Bz];rw[Ad h.1,KD h.2]
def pT{β:Type}{p:Ab}: ∀{l:List (Ab×β)},p∈l.map Prod.fst-> ∃v,Bz l p=some v/\(p,v)∈l
 |[],h=>by simp at h
 |(k,v)::r,h=>by
  simp only[Bz];by_cases c:p=k
  .rw[Ak c,c];exact⟨v,rfl,BR ..⟩
  .rw[Ad c];obtain⟨w,z,O⟩:=pT (l:=r) (by simpa[c] using h);exact⟨w,z,BQ _ O⟩
def iL{β:Type}{p:Ab}{l:List (Ab×β)}:p∈l.map Prod.fst↔Bz l p≠none:=by
 constructor
 .intro h;obtain⟨v,z,_⟩:=pT h;rw[z];simp
 .intro h;apply fT;intro O;exact h (KD O)
def pR{β:Type}{p q:Ab}: ∀{l:List (Ab×β)},q∈(Ed l p).map Prod.fst->q∈l.map Prod.fst
 |[],h=>by simp[Ed] at h
 |(k,v)::r,h=>by
  simp only[Ed] at h;split at h
  .exact BQ _ h
  .simp only[Bg,Be] at h⊢;rcases h with h|h
   .exact .inl h
   .exact .inr (pR h)
def dA{β:Type}{p:Ab}: ∀{l:List (Ab×β)},(l.map Prod.fst).Nodup->((Ed l p).map Prod.fst).Nodup
 |[],h=>h
 |(k,v)::r,h=>by
  simp only[Bg,IH] at h;simp only[Ed];split
  .exact h.2
  .simp only[Bg,IH];exact⟨λz=>h.1 (pR z),dA h.2⟩
def cY{β:Type}{p:Ab}(q:Ab): ∀{l:List (Ab×β)},(l.map Prod.fst).Nodup->Bz (Ed l p) q=if q=p then none else Bz l q
 |[],_=>by simp[Ed,Bz]
 |(k,v)::r,h=>by
  simp only[Bg,IH] at h;simp only[Ed];by_cases c:p=k
  .rw[Ak c];by_cases e:q=p
   .rw[Ak e,e,c];exact KD h.1
   .rw[Ad e];simp only[Bz];rw[Ad (λz=>e (z.trans c.symm))]
  .rw[Ad c];simp only[Bz];by_cases e:q=k
   .rw[Ak e,Ak e,Ad (λz=>c (z.symm.trans e))]
   .rw[Ad e,Ad e,cY q h.2]
def Ns{β:Type}{p q:Ab}{v:β}: ∀{l:List (Ab×β)},q∈(Bt l p v).map Prod.fst↔q=p\/q∈l.map Prod.fst
 |[]=>by simp[Bt]
 |(k,w)::r=>by
  simp only[Bt];split
  .rename_i c;subst c;simp
  .simp only[Bg,Be,Ns (l:=r)];constructor
   .rintro (h|h|h)
    .exact .inr (.inl h)
    .exact .inl h
    .exact .inr (.inr h)
   .rintro (h|h|h)
    .exact .inr (.inl h)
    .exact .inl h
    .exact .inr (.inr h)
def pS{β:Type}{p:Ab}{v:β}: ∀{l:List (Ab×β)},(l.map Prod.fst).Nodup->((Bt l p v).map Prod.fst).Nodup
 |[],_=>by simp[Bt]
 |(k,w)::r,h=>by
  simp only[Bg,IH] at h;simp only[Bt];split
  .rename_i c;subst c;simp only[Bg,IH];exact h
  .rename_i c;simp only[Bg,IH];refine⟨λz=> ?_,pS h.2⟩;rcases Ns.1 z with e|e
   .exact c e.symm
   .exact h.1 e
def Ta{s:AG}{f:Ab->Int}{op:List (Ab×List Int)}{q:Ab}(h:(op.map Prod.fst).Nodup):((JY s f op q).map Prod.fst).Nodup:=by
 simp only[JY];split
 .exact dA h
 .exact pS h
def SZ{s:AG}{f:Ab->Int}{op:List (Ab×List Int)}{p:Ab}(h:(op.map Prod.fst).Nodup)(q:Ab):Bz (JY s f op p) q=if q=p then FI (Ek s f q) else Bz op q:=by
 simp only[JY];by_cases c:Gb s f p s.Set.Tiles.length=[]
 .rw[Ak c,cY q h];by_cases e:q=p
  .subst e;rw[Ak rfl,Ak rfl,FI,Ak c]
  .rw[Ad e,Ad e]
 .rw[Ad c,fN];by_cases e:q=p
  .subst e;rw[Ak rfl,Ak rfl,FI,Ad c]
  .rw[Ad e,Ad e]
def Wd{s:AG}{f:Ab->Int}{op:List (Ab×List Int)}{p:Ab}(h:(op.map Prod.fst).Nodup): ∀k,((GV s f op p k).map Prod.fst).Nodup
 |0=>h
 |k+1=>Ta (Wd h k)
def JX(p q:Ab):Prop:= ∃d:Nat,d<4/\Cw p d=q
def qC{s:AG}{f:Ab->Int}{op:List (Ab×List Int)}{p:Ab}(h:(op.map Prod.fst).Nodup)(q:Ab): ∀k,(∀d:Nat,d<k->Cw p d≠q)/\Bz (GV s f op p k) q=Bz op q\/(∃d:Nat,d<k/\Cw p d=q)/\Bz (GV s f op p k) q=FI (Ek s f q)
 |0=> .inl ⟨λd hd=>absurd hd (by omega),rfl⟩
 |k+1=>by
  have ih:=qC (s:=s) (f:=f) (p:=p) h q k;simp only[GV,SZ (Wd h k)];by_cases c:q=Cw p k
  .rw[Ak c];exact .inr ⟨⟨k,by omega,c.symm⟩,rfl⟩
  .rw[Ad c];rcases ih with ⟨O,z⟩|⟨⟨d,O,z⟩,Q⟩
   .refine .inl ⟨λd hd=> ?_,z⟩;by_cases e:d=k
    .subst e;exact λh=>c h.symm
    .exact O d (by omega)
   .exact .inr ⟨⟨d,by omega,z⟩,Q⟩
def aU{s:AG}{f:Ab->Int}{op:List (Ab×List Int)}{p:Ab}(h:(op.map Prod.fst).Nodup)(q:Ab):(¬JX p q/\Bz (GV s f op p 4) q=Bz op q)\/(JX p q/\Bz (GV s f op p 4) q=FI (Ek s f q)):=by
 rcases qC (s:=s) (f:=f) h q 4 with ⟨z,O⟩|h
 .exact .inl ⟨λ⟨d,hd,e⟩=>z d hd e,O⟩
 .exact .inr h
def P8(p:Ab){d:Nat}(h:d<4):Cw (Cw p d) ((d+2) % 4:Nat)=p:=by
 rcases (by omega:d=0\/d=1\/d=2\/d=3) with rfl|rfl|rfl|rfl<;>simp[Cw]<;>omega
def cQ{p q:Ab}(h:JX p q):JX q p:=by
 obtain⟨d,hd,rfl⟩:=h;exact⟨(d+2) % 4,by omega,P8 p hd⟩
def cL{s:AG}{f:Ab->Int}(q:Ab): ∀(l:List Ah) (op:List (Ab×List Int)),(op.map Prod.fst).Nodup->
 ((l.foldl (λo x=>GV s f o x.At 4) op).map Prod.fst).Nodup/\((∀x∈l,¬JX x.At q)/\Bz (l.foldl (λo x=>GV s f o x.At 4) op) q=Bz op q\/(∃x∈l,JX x.At q)/\Bz (l.foldl (λo x=>GV s f o x.At 4) op) q=FI (Ek s f q))
 |[],op,h=>⟨h,.inl ⟨by simp,rfl⟩⟩
 |x::r,op,h=>by
  simp only[gD];obtain⟨O,Q⟩:=cL (s:=s) (f:=f) q r (GV s f op x.At 4) (Wd h 4);refine⟨O,?_⟩;rcases Q with ⟨a,b⟩|⟨⟨y,z,a⟩,b⟩
  .rcases aU (s:=s) (f:=f) (p:=x.At) h q with ⟨c,e⟩|⟨c,e⟩
   .refine .inl ⟨λy z=> ?_,b.trans e⟩;rcases Be.1 z with rfl|z
    .exact c
    .exact a y z
   .exact .inr ⟨⟨x,BR ..,c⟩,b.trans e⟩
  .exact .inr ⟨⟨y,BQ _ z,a⟩,b⟩
def YW{l:List Ah}: ∀{q:Ab},0<=C5 (CC l) q-> ∃x∈l,x.At=q:=by
 have O: ∀(l:List Ah) (t:List (Ab×Int)) (q:Ab),Bz (l.foldl (λt x=>Bt t x.At x.Tile) t) q≠none->(∃x∈l,x.At=q)\/Bz t q≠none:=by
  intro l;induction l with
  |nil=>intro t q h;exact .inr h
  |cons x r ih=>
   intro t q h;rcases ih _ q h with ⟨y,Q,e⟩|z
   .exact .inl ⟨y,BQ _ Q,e⟩
   .rw[fN] at z;split at z
    .rename_i e;exact .inl ⟨x,BR ..,e.symm⟩
    .exact .inr z
 intro q h;rcases O l [] q (λe=>by
  simp only[C5,CC,e,Zeh] at h;omega) with z|z
 .exact z
 .simp[Bz] at z
def jD{s:AG}{l:List Ah}(Q:1<=s.Temperature):N1 s (C5 (CC l)) (HL s (C5 (CC l)) l):=by
 have hn:(([]:List (Ab×List Int)).map Prod.fst).Nodup:=by simp
 refine⟨(cL ⟨0,0⟩ l [] hn).1,λq=> ?_⟩;rcases (cL (s:=s) (f:=C5 (CC l)) q l [] hn).2 with ⟨O,z⟩|⟨_,z⟩
 .rw[HL,z]
  have:Ek s (C5 (CC l)) q=[]:=by
   refine pV Q (λd hd=> ?_) _;apply fT;intro h;obtain⟨x,Z,e⟩:=YW (l:=l) (q:=Cw q d) (by omega);exact O x Z (cQ (e▸⟨d,hd,rfl⟩))
  rw[FI,Ak this];rfl
 .exact z
def jE{s:AG}{z:List (Ab×Int)}{op:List (Ab×List Int)}{p:Ab}{t:Int}(h:N1 s (C5 z) op)(ht:0<=t):
 N1 s (C5 (Bt z p t)) (GV s (C5 (Bt z p t)) (Ed op p) p 4):=by
 have hn:=dA (p:=p) h.1;have O: ∀q,C5 (Bt z p t) q=if q=p then t else C5 z q:=λq=>by
  simp only[C5,fN];split<;>rfl
 refine⟨Wd hn 4,λq=> ?_⟩;rcases aU (s:=s) (f:=C5 (Bt z p t)) (p:=p) hn q with ⟨h1,Q⟩|⟨_,Q⟩
 .rw[Q,cY q h.1];by_cases e:q=p
  .rw[Ak e,FI,Ak (qM (by rw[O,Ak e];exact ht) _)]
  .rw[Ad e,h.2 q]
   have:Ek s (C5 (Bt z p t)) q=Ek s (C5 z) q:=by
    refine qH (by rw[O,Ad e]) (λd hd=> ?_) _;rw[O,Ad];intro Z;exact h1 (cQ ⟨d,hd,Z⟩)
   rw[this]
 .exact Q
def DS(p:Ab):List Ab->List Ab
 |[]=>[p]
 |y::r=>if Bl y p=true then y::DS p r else if y=p then y::r else p::y::r
def Cf(l:List Ab):List Ab:=l.foldr DS []
abbrev JD(l:List Ab):Prop:=l.Pairwise λa b=>Bl a b=true
def cJ{a b c:Ab}(z:Bl a b=true)(O:Bl b c=true):Bl a c=true:=by simp only[Bl] at*;grind
def pP(a:Ab):Bl a a=false:=by simp[Bl]
def pU{a b:Ab}(h1:Bl a b=false)(h2:a≠b):Bl b a=true:=by
 obtain⟨O,Q⟩:=a;obtain⟨Z,z⟩:=b;simp only[Bl,ne_eq,Ab.mk.injEq] at*
 grind
def Wa{p q:Ab}: ∀{l:List Ab},q∈DS p l↔q=p\/q∈l
 |[]=>by simp[DS]
 |y::r=>by
  simp only[DS];split
  .simp only[Be,Wa (l:=r)];constructor
   .rintro (h|h|h)
    .exact .inr (.inl h)
    .exact .inl h
    .exact .inr (.inr h)
   .rintro (h|h|h)
    .exact .inr (.inl h)
    .exact .inl h
    .exact .inr (.inr h)
  .split
   .rename_i c;subst c;simp
   .simp
def cN{p:Ab}: ∀{l:List Ab},JD l->JD (DS p l)
 |[],_=>by simp[DS]
 |y::r,h=>by
  rw[JD,V5] at h;simp only[DS];split
  .rename_i c;rw[JD,V5];refine⟨λz O=> ?_,cN h.2⟩;rcases Wa.1 O with rfl|O
   .exact c
   .exact h.1 z O
  .rename_i c;split
   .rw[JD,V5];exact h
   .rename_i e;have Q:=pU (by simpa using c) e;rw[JD,V5,V5];refine⟨λz O=> ?_,h⟩;rcases Be.1 O with rfl|O
    .exact Q
    .exact cJ Q (h.1 z O)
def NM: ∀(l:List Ab),JD (Cf l)
 |[]=>List.Pairwise.nil
 |_::r=>cN (NM r)
def JZ{q:Ab}: ∀{l:List Ab},q∈Cf l↔q∈l
 |[]=>by simp[Cf]
 |x::r=>by
  have:Cf (x::r)=DS x (Cf r):=rfl
  rw[this,Wa,JZ (l:=r),Be]
def KF{l:List Ab}(h:JD l):l.Nodup:=by
 refine ZeH (λ{a b} z e=> ?_) h;rw[e,pP] at z;cases z
def cU{l m:List Ab}(z:JD l)(O:JD m)(h: ∀q,q∈l↔q∈m):l=m:=by
 have hp:l.Perm m:=(ZdI (KF z) (KF O)).2 h;refine ZdR (le:=λa b=>Bl a b=true) (λa b _ _ g1 g2=> ?_) z O hp
 have:=cJ g1 g2
 rw[pP] at this;cases this
def DN(a:Af)(p:Ab)(l:List Ab):Nat->List Ab
 |0=>l
 |k+1=>if DY (Cw p k)=true/\Bj a (Cw p k)<0 then DS (Cw p k) (DN a p l k) else DN a p l k
def Cz(a:Af):Nat->List Ab
 |0=>[]
 |i+1=>DN a ((a.Tiles[i]?.map Ah.At).getD ⟨0,0⟩) (Cz a i) 4
def VZ{a:Af}{p:Ab}{l:List Ab}(h:JD l): ∀k,JD (DN a p l k)
 |0=>h
 |k+1=>by
  simp only[DN];split
  .exact cN (VZ h k)
  .exact VZ h k
def cR(a:Af): ∀i,JD (Cz a i)
 |0=>List.Pairwise.nil
 |i+1=>VZ (cR a i) 4
def pX{a:Af}{p q:Ab}{l:List Ab}: ∀k,q∈DN a p l k↔q∈l\/(DY q=true/\Bj a q<0)/\ ∃d:Nat,d<k/\Cw p d=q
 |0=>by simp[DN]
 |k+1=>by
  simp only[DN];have ih:=pX (a:=a) (p:=p) (q:=q) (l:=l) k;split
  .rename_i c;rw[Wa,ih];constructor
   .rintro (rfl|h|⟨h,d,O,z⟩)
    .exact .inr ⟨c,k,by omega,rfl⟩
    .exact .inl h
    .exact .inr ⟨h,d,by omega,z⟩
   .rintro (h|⟨h,d,O,z⟩)
    .exact .inr (.inl h)
    .by_cases e:d=k
     .subst e;exact .inl z.symm
     .exact .inr (.inr ⟨h,d,by omega,z⟩)
  .rename_i c;rw[ih];constructor
   .rintro (h|⟨h,d,O,z⟩)
    .exact .inl h
    .exact .inr ⟨h,d,by omega,z⟩
   .rintro (h|⟨h,d,O,z⟩)
    .exact .inl h
    .by_cases e:d=k
     .subst e;subst z;exact absurd h c
     .exact .inr ⟨h,d,by omega,z⟩
def QD{a:Af}{q:Ab}: ∀i,i<=a.Tiles.length->(q∈Cz a i↔(DY q=true/\Bj a q<0)/\ ∃x∈a.Tiles.take i,JX x.At q)
 |0,_=>by simp[Cz]
 |i+1,Z=>by
  have Q:a.Tiles[i]? =some (a.Tiles[i]'(by omega)):=Bk (by omega);simp only[Cz];rw[pX,QD i (by omega),ZL Q,Q,CY,AO];constructor
  .rintro (⟨h,x,z,O⟩|⟨h,O⟩)
   .exact⟨h,x,II _ z,O⟩
   .exact⟨h,_,Rk _ (BR ..),O⟩
  .rintro⟨h,x,z,O⟩;rcases Bs.1 z with z|z
   .exact .inl ⟨h,x,z,O⟩
   .rw[BS] at z;subst z;exact .inr ⟨h,O⟩
def Gj(s:AG)(f:Ab->Int)(q:Ab):Nat->List Int
 |0=>[]
 |k+1=>Gj s f q k++(if s.Temperature<=Fa s.Set f q k 4 then [(k:Int)] else [])
def Wg(s:AG)(f:Ab->Int)(q:Ab): ∀k,(Gj s f q k).length<=k
 |0=>by simp[Gj]
 |k+1=>by
  have:=Wg s f q k
  simp only[Gj,CD]
  split<;>simp<;>omega
def qE{s:AG}{f:Ab->Int}{q:Ab}(z:DY q=true)(O:f q<0): ∀n,Gb s f q n=Gj s f q n
 |0=>rfl
 |n+1=>by
  simp only[Gb,Gj,qE z O n,IC,z,Oi O,DB,B3]
def OL(p:Ab)(k:Int):AD:=⟨p,k⟩
def C3(g:Ab->List Int)(l:List Ab):List AD:=l.flatMap λp=>(g p).map (OL p)
def D6(s:AG)(a:Af):List AD:=C3 (λp=>Gj s (Bj a) p s.Set.Tiles.length) (Cz a a.Tiles.length)
def GH(op:List (Ab×List Int)):List AD:=C3 (λp=>(Bz op p).getD []) (Cf (op.map Prod.fst))
def pQ{g:Ab->List Int}: ∀(l:List Ab),C3 g (l.filter λp=> !(g p).isEmpty)=C3 g l
 |[]=>rfl
 |p::r=>by
  have ih:=pQ (g:=g) r;simp only[C3] at ih;simp only[C3,ZeP];split
  .simp only[G7,ih]
  .rename_i c
   have:g p=[]:=by simpa using c
   simp only[G7,ih,this,GX,FC]
def cK{g h:Ab->List Int}: ∀(l:List Ab),(∀p∈l,g p=h p)->C3 g l=C3 h l
 |[],_=>rfl
 |p::r,z=>by
  simp only[C3,G7];rw[z p (BR ..)]
  have:=cK r λq hq=>z q (BQ _ hq)
  simp only[C3] at this;rw[this]
def Xg{a:Af}{q:Ab}(h:0<=Bj a q): ∃x∈a.Tiles,x.At=q:=by
 simp only[Bj] at h;cases e:a.Tiles.find? (λx=>decide (x.At=q)) with
 |none=>rw[e] at h;simp at h
 |some x=>exact⟨x,Qg e,by simpa using Ql e⟩
def TB{s:AG}{a:Af}{op:List (Ab×List Int)}(hT:1<=s.Temperature)(h:N1 s (Bj a) op):GH op=D6 s a:=by
 have O: ∀q,Ek s (Bj a) q≠[]->q∈Cz a a.Tiles.length:=λq hq=>by
  rw[QD _ (AN _),IG];have h0:Bj a q<0:=by
   apply fT;intro c;exact hq (qM (by omega) _)
  have hp:DY q=true:=by
   apply fT;intro c;exact hq (VX (λk=>by simp only[IC];rw[IF] at c;rw[c];rfl) _)
  refine⟨⟨hp,h0⟩,?_⟩;apply fT;intro c;refine hq (pV hT (λd hd=> ?_) _);apply fT;intro c2;obtain⟨x,hx,e⟩:=Xg (a:=a) (q:=Cw q d) (by omega);exact c ⟨x,hx,cQ ⟨d,hd,e.symm⟩⟩
 have Z: ∀q∈Cz a a.Tiles.length,Gj s (Bj a) q s.Set.Tiles.length=Ek s (Bj a) q:=λq hq=>by
  rw[QD _ (AN _)] at hq;exact (qE hq.1.1 hq.1.2 _).symm
 have Q: ∀q,(Bz op q).getD []=Ek s (Bj a) q:=λq=>by
  rw[h.2 q,FI];split
  .rename_i e;rw[e];rfl
  .rfl
 have e1:D6 s a=C3 (Ek s (Bj a)) (Cz a a.Tiles.length):=cK _ Z;have e2:GH op=C3 (Ek s (Bj a)) (Cf (op.map Prod.fst)):=cK _ λq _=>Q q
 rw[e1,e2,<-pQ (Cz a a.Tiles.length)];congr 1;refine cU (NM _) ((cR a _).filter _) (λq=> ?_);rw[JZ,iL,h.2 q,FI,gE];constructor
 .intro hq;have z:Ek s (Bj a) q≠[]:=λe=>hq (Ak e)
  exact⟨O q z,by simpa using z⟩
 .rintro⟨_,hq⟩;have z:Ek s (Bj a) q≠[]:=by simpa using hq
  rw[Ad z];simp
def EE(p:Ab)(l:List Ab):Nat:=(l.takeWhile λy=>Bl y p).length
def qD(p:Ab): ∀(l:List Ab),DS p l=if l[EE p l]? =some p then l else l.take (EE p l)++p::l.drop (EE p l)
 |[]=>by simp[DS,EE]
 |y::r=>by
  have ih:=qD p r;simp only[DS];by_cases c:Bl y p=true
  .have e:EE p (y::r)=EE p r+1:=by simp[EE,c]
   rw[Ak c,ih,e,J7];split
   .rfl
   .simp
  .have e:EE p (y::r)=0:=by simp[EE,c]
   rw[Ad c,e];simp
def M6{p:Ab}: ∀{l:List Ab} {k:Nat},JD l->k<=l.length->(∀(i:Nat) (y:Ab),k<=i->l[i]? =some y->Bl y p=false)->(∀y,k≠0->l[k - 1]? =some y->Bl y p=true)->EE p l=k
 |[],k,_,O,_,_=>by simp at O;simp[EE,O]
 |y::r,0,_,_,Q,_=>by
  have:=Q 0 y (AN _) rfl
  simp[EE,this]
 |y::r,k+1,hl,O,Q,Z=>by
  rw[JD,V5] at hl;have hy:Bl y p=true:=by
   cases k with
   |zero=>exact Z y (by omega) rfl
   |succ k=>
    have aa:k+1<(y::r).length:=by simp at O⊢;omega
    have h3:=Z _ (by omega) (Bk (l:=y::r) (i:=k+1) aa);refine cJ (hl.1 _ ?_) h3;simp
  have ih:=M6 (p:=p) (l:=r) (k:=k) hl.2 (by simpa using O) (λi z hi hz=>Q (i+1) z (by omega) (by simpa using hz)) (λz ab hz=>Z z (by omega) (by
   obtain⟨m,rfl⟩: ∃m,k=m+1:=⟨k - 1,by omega⟩;simpa using hz))
  simp only[EE] at ih;simp[EE,hy,ih]
def MR(p:Ab)(l:List Ab)(i:Nat):List Ab:=(l++[p]).take (i+1)++l.drop i
def cO{p:Ab}{l:List Ab}{i:Nat}(h:i<=l.length):(MR p l i).length=l.length+1:=by simp[MR];omega
def Y5(p:Ab)(l:List Ab):MR p l l.length=l++[p]:=by simp[MR,D8]
def U4{p x:Ab}{l:List Ab}{i:Nat}(h:i+1<=l.length)(hx:(MR p l (i+1))[i]? =some x):(MR p l (i+1)).set (i+1) x=MR p l i:=by
 have z:l[i]? =some x:=by
  rw[<-hx,MR,EA (by simp;omega),Xa,Ak (by omega),EA (by omega)]
 apply Kt;intro j;have Z:((l++[p]).take (i+1+1)).length=i+2:=by simp;omega
 have O:((l++[p]).take (i+1)).length=i+1:=by simp;omega
 by_cases c:j=i+1
 .subst c;rw[Dv (by rw[cO h];omega),MR,FQ (by omega),O,HA,GW,Qi,z]
 .rw[DM (EJ c)];simp only[MR];by_cases Q:j<i+1
  .rw[EA (by omega),EA (by omega),Xa,Xa,Ak (by omega),Ak Q]
  .rw[FQ (by omega),FQ (by omega),Z,O,GW,GW];congr 1;omega
def Y6{p:Ab}{l:List Ab}{k:Nat}(h:k<=l.length):(MR p l k).set k p=l.take k++p::l.drop k:=by
 apply Kt;intro j;have Q:((l++[p]).take (k+1)).length=k+1:=by simp;omega
 have z:(l.take k).length=k:=by simp;omega
 by_cases c:j=k
 .subst c;rw[Dv (by rw[cO h];omega),FQ (by omega),z,HA];simp
 .rw[DM (EJ c)];simp only[MR];by_cases O:j<k
  .rw[EA (by omega),EA (by omega),Xa,Xa,Ak (by omega),Ak O,EA (by omega)]
  .obtain⟨m,rfl⟩: ∃m,j=k+1+m:=⟨j - (k+1),by omega⟩;rw[FQ (by omega),FQ (by omega),Q,z,GW,show k+1+m - k=m+1 by omega,J7,GW];congr 1;omega
def KQ{p q:Ab}:((p.X==q.X)=true/\(p.Y==q.Y)=true)↔p=q:=by
 obtain⟨z,O⟩:=p;obtain⟨Q,Z⟩:=q;simp
def putQ.ca(a:List Ab×Ab):List AV:=[.own 0,.im (.agg [.int .i64 a.2.X,.int .i64 a.2.Y])]
def putQ.H0(a:List Ab×Ab):Ao:=[(0,(true,.arr 70 2 (a.1.map Ab.c)))]
def putQ.H1(a:List Ab×Ab):Ao:=[(1,(true,.arr 70 2 ((DS a.2 a.1).map Ab.c)))]
def wT(j:Nat):Bool:=j==0
def putQ.row:Ay:=AA putQ.ca putQ.H0 1 (λa=>JD a.1/\a.1.length<=1000000) wT (λ_=> .own 1) putQ.H1 1
def putQ.ok:A9 159 putQ.row:=by
 refine Qr (tC l_LessPoint.ok tN) Tryz.func159 (exB:=λj=>j==1) (R:=λ_ r=>r= .own 1) (λ_=>rfl)
  (λa=>by simp[putQ.ca,putQ.H0,AE,AV.bel,Au,BB,BU,Ac.nms,Al,hget]) (λa p hp=> ?_) (λa r h=>by subst h;exact CN.refl _) ?_
 rotate_left
 intro a af;simp only[Tryz.f159,putQ.ca,putQ.H0,putQ.H1];simp only[ZA,simprocAttr];rotate_left
 .simp[putQ.H1] at hp;subst hp;exact .inr ⟨by omega,by omega,rfl,rfl⟩
 obtain⟨l,p⟩:=a;obtain⟨hl,hn⟩:=af;simp only at hl hn⊢;intro _;refine AU.old ⟨{k:Nat//k<=l.length/\ ∀(i:Nat) (y:Ab),k<=i->l[i]? =some y->Bl y p=false},λk=>⟨[(5,.im (.int .i64 k.1)),(3,.ptr 1 0),(0,.own 0)],[(1,(true,.cells 70 [.im (.int .i64 p.X),.im (.int .i64 p.Y)])),(0,(true,.arr 70 2 (l.map Ab.c)))],3⟩,λk=>k.1,λk=>⟨by simp[ZG],by simp⟩,⟨⟨l.length,AN _,λi y hi hy=>by rw[Fm hi] at hy;cases hy⟩,by simp only[ZA,simprocAttr,sub]⟩,λk=> ?_⟩;obtain⟨k,hk,ac⟩:=k;simp only[ZA,simprocAttr,l_LessPoint.q,l_LessPoint.fv,F3,DL,sub,AR];have Z:0<k->IntKind.i64.wrap ((k:Int) - 1)=((k - 1:Nat):Int):=λh=>by rw[AC (by omega) (by omega)];omega
 refine⟨λab=>⟨by rw[Z (by omega)];omega,by rw[Z (by omega)];omega,by rw[Z (by omega)];omega,λx hx=>⟨λaa=> ?r,λaa=>⟨λQ=>⟨Q,Q,λy hy=>⟨λe=> ?a1,λe=> ?b1⟩⟩,λQ=> ?b2⟩⟩⟩,λab=>⟨λQ=>⟨Q,Q,λy hy=>⟨λe=> ?a2,λe=> ?b3⟩⟩,λQ=> ?b4⟩⟩
 case r=>
  rw[Z (by omega),B5] at hx;refine⟨⟨k - 1,by omega,λi y hi hy=> ?_⟩,by simp only;omega,by rw[Z (by omega)]⟩;by_cases c:i=k - 1
  .subst c;obtain rfl:=A7 (hx.symm.trans hy);exact aa
  .exact ac i y (by omega) hy
 all_goals
  have ad:EE p l=k:=M6 hl hk ac (λy aq hy=>by
   first
    |(rw[Z (by omega),B5] at hx;obtain rfl:=A7 (hx.symm.trans hy);simpa using aa)
    |(exact absurd (by omega) ab))
  have O:=qD p l;rw[ad] at O
 case a1=>
  have ey:y=p:=KQ.1 e;rw[hy,ey,Ak rfl] at O;refine⟨[],[(1,some 0)],⟨[(4,.own 1)],putQ.H1 (l,p),2⟩,?_,by simp[putQ.H1,ZG],by simp,?_⟩
  .simp only[Aw,putQ.H1,O];simp only[ZA,simprocAttr]
  .simp only[ZA,simprocAttr,putQ.H1,wT,putQ.H1]
 case a2=>
  have ey:y=p:=KQ.1 e;rw[hy,ey,Ak rfl] at O;refine⟨[],[(1,some 0)],⟨[(4,.own 1)],putQ.H1 (l,p),2⟩,?_,by simp[putQ.H1,ZG],by simp,?_⟩
  .simp only[Aw,putQ.H1,O];simp only[ZA,simprocAttr]
  .simp only[ZA,simprocAttr,putQ.H1,wT,putQ.H1]
 all_goals
  have am:l[k]? ≠some p:=λh=>by
   first
    |(obtain rfl:=A7 (hy.symm.trans h);exact e (KQ.2 rfl))
    |(rw[Fm (by omega)] at h;cases h)
  rw[Ad am] at O;have ah:l.map Ab.c++[[D.int .i64 p.X,D.int .i64 p.Y]]=(l++[p]).map Ab.c:=by rw[FT];rfl
  rw[ah];refine⟨by omega,λ_=> ?_⟩;refine AU.old ⟨{i:Nat//k<=i/\i<=l.length},λi=>⟨[(6,.im (.int .i64 i.1)),(5,.im (.int .i64 k)),(0,.own 4),(3,.ptr 1 0)],[(4,(true,.arr 70 2 ((MR p l i.1).map Ab.c))),(1,(true,.cells 70 [.im (.int .i64 p.X),.im (.int .i64 p.Y)]))],5⟩,λi=>i.1,λi=>⟨by simp[ZG],by simp⟩,⟨⟨l.length,hk,AN _⟩,?_⟩,λi=> ?_⟩
  .simp only[ZA,simprocAttr,sub,Y5];rw[CD,vR,AC (by omega) (by omega)];omega
  obtain⟨i,au,ai⟩:=i;have ao:=cO (p:=p) ai;simp only[ZA,simprocAttr,F3,sub,AR,ao];refine⟨λak=> ?_,λak=>⟨by omega,by omega,λx hx=> ?_⟩⟩
  .have aj:IntKind.i64.wrap ((i:Int) - 1)=((i - 1:Nat):Int):=by rw[AC (by omega) (by omega)];omega
   rw[aj,B5];refine⟨by omega,by omega,by omega,λx hx=>⟨by omega,by omega,λz hz=>⟨⟨i - 1,by omega,by omega⟩,by simp only;omega,rfl,?_⟩⟩⟩;have ag:=U4 (p:=p) (x:=x) (l:=l) (i:=i - 1) (by omega) (by rwa [show i - 1+1=i by omega]);rw[show i - 1+1=i by omega] at ag;rw[<-ag,Of];rfl
  .obtain rfl:i=k:=by omega
   have an:((MR p l i).map Ab.c).set i [D.int .i64 p.X,D.int .i64 p.Y]=(DS p l).map Ab.c:=by
    rw[O,<-Y6 hk,Of];rfl
   refine⟨[],[(1,some 4)],⟨[(4,.own 1)],putQ.H1 (l,p),2⟩,?_,by simp[putQ.H1,ZG],by simp,?_⟩
   .simp only[Aw,putQ.H1,an];simp only[ZA,simprocAttr]
   .simp only[ZA,simprocAttr,putQ.H1,wT,putQ.H1]
def TP(a:List Ab×Ab)(j:Nat):Al (putQ.H0 a) j=true↔j<1:=by
 simp only[Al,putQ.H0,hget];by_cases z:j=0
 .subst z;simp
 .have:(0==j)=false:=by simpa using λh=>z h.symm
  rw[this];simp;omega
def qF(p:Ab): ∀(l:List Ab),(DS p l).length<=l.length+1
 |[]=>by simp[DS]
 |y::r=>by
  have:=qF p r
  simp only[DS];split
  .simp only[CQ];omega
  .split<;>simp
def cP(a:Af)(p:Ab)(l:List Ab): ∀k,(DN a p l k).length<=l.length+k
 |0=>by simp[DN]
 |k+1=>by
  have:=cP a p l k
  simp only[DN];split
  .have:=qF (Cw p k) (DN a p l k);omega
  .omega
def VY(a:Af): ∀i,(Cz a i).length<=4*i
 |0=>by simp[Cz]
 |i+1=>by
  have:=VY a i
  have:=cP a ((a.Tiles[i]?.map Ah.At).getD ⟨0,0⟩) (Cz a i) 4
  simp only[Cz];omega
def nearS_.fv(a:Af):List Ab:=(λa=>Cz a a.Tiles.length) a
def nearS_.row:Ay:=vK (b1 (qP 1 Af.d_le)) (rS Ab.d_le Ab.c_n) (λa=>Cd none a.Tiles=true/\a.Tiles.length<=1000/\ ∃s,∀x∈a.Tiles,Fi s x.Tile) nearS_.fv
def nearS_.q:=AT (R:=nearS_.row) rfl
def nearS_.ok:A9 122 nearS_.row:=by
 refine vw (tC l01Step.ok (tC l01Point.ok (tC l03Index.ok (tC putQ.ok tN)))) Tryz.func122 ?_;intro a aa;simp only[Tryz.f122];simp only[ZA,simprocAttr,nearS_.fv];obtain⟨h1,h2,s0,h3⟩:=aa;refine AU.ren ⟨{i:Nat//i<=a.Tiles.length},λi=>⟨[(4,.im (.int .i64 i.1)),(3,.own 3),(0,.ptr 0 0)],[(3,(true,.arr 70 2 ((Cz a i.1).map Ab.c))),(0,(false,.view (Af.c a)))],4⟩,λi=>a.Tiles.length - i.1,λi=>⟨by simp[ZG],by simp⟩,⟨⟨0,CR _⟩,[(3,some 2)],?_⟩,λi=> ?_⟩
 .simp only[Aw];simp only[ZA,simprocAttr,Br,Cz]
  try simp
 obtain⟨i,hi⟩:=i;simp only[ZA,simprocAttr,AR];intro _;refine⟨λz=> ?_,λz=> ?_⟩;rotate_left
 .obtain rfl:i=a.Tiles.length:=by omega
  rfl
 obtain⟨x,hx⟩: ∃x,a.Tiles[i]? =some x:=⟨_,Bk z⟩;have ag:=(Vw _ _ h1 x (Ba hx)).1;have e1:Cz a (i+1)=DN a x.At (Cz a i) 4:=by simp only[Cz,hx];rfl
 have ah:=VY a i;have ad:=cR a i;refine AU.ren ⟨{d:Nat//d<=4},λd=>⟨[(5,.im (.int .i64 d.1)),(4,.im (.int .i64 i)),(3,.own 4),(0,.ptr 0 0)],[(4,(true,.arr 70 2 ((DN a x.At (Cz a i) d.1).map Ab.c))),(0,(false,.view (Af.c a)))],5⟩,λd=>4 - d.1,λd=>⟨by simp[ZG],by simp⟩,⟨⟨0,CR _⟩,[(4,some 3)],?_⟩,λd=> ?_⟩
 .simp only[Aw];simp only[ZA,simprocAttr,Br,DN]
  try simp
 obtain⟨d,hd⟩:=d;have ai:=cP a x.At (Cz a i) d;have af:=VZ (a:=a) (p:=x.At) ad d;simp only[ZA,simprocAttr,Af.d,l01Step.q,l01Step.fv,l01Point.q,l01Point.fv,l03Index.q,l03Index.fv,AR];have Z:IntKind.i64.wrap ((d:Int)+1)=((d+1:Nat):Int):=by rw[AC (by omega) (by omega)];omega
 refine⟨λac=>⟨z,λy hy=> ?_⟩,λac=> ?_⟩;rotate_left
 .obtain rfl:d=4:=by omega
  refine⟨⟨i+1,by omega⟩,[(3,some 4)],by simp only;omega,?_⟩;simp only[Aw];simp only[ZA,simprocAttr,Br,e1];rw[AC (by omega) (by omega)];rfl
 obtain rfl:=A7 (hx.symm.trans hy);refine⟨⟨Z1 ag,by omega⟩,λQ=>⟨h1,λO=> ?_,λO=> ?_⟩,λQ=> ?_⟩
 .have ab:=(Iy h3 (Cw x.At d)).1 O;refine AA.os (DN a x.At (Cz a i) d,Cw x.At d) [4] ⟨af,by simp only;omega⟩ (TP _) rfl rfl ?_ ?_
  .simp only[ZA,simprocAttr,putQ.ca,putQ.H0,CO,Eo]
  simp only[ZA,simprocAttr,putQ.H1,wT];refine⟨⟨d+1,by omega⟩,[(4,some 6)],by simp only;omega,?_⟩;simp only[Aw];simp only[ZA,simprocAttr,Br,DN];rw[Ak ⟨Q,ab⟩];exact⟨Z,rfl⟩
 all_goals
  refine⟨⟨d+1,by omega⟩,[(4,some 4)],by simp only;omega,?_⟩;simp only[Aw];simp only[ZA,simprocAttr,Br,DN];refine⟨Z,?_⟩;rw[Ad];rintro⟨g1,g2⟩
  first
   |exact O ((Iy h3 _).2 g2)
   |exact Q g1
def Sv(s:Az)(a:Af)(p:Ab):Nat->List Int
 |0=>[]
 |k+1=>Sv s a p k++[if Bj a (Cw p k)<0 then 0 else Km s (Bj a (Cw p k)) (((k:Int)+2) % 4)]
def NJ(s:Az)(a:Af)(p:Ab): ∀k,(Sv s a p k).length=k
 |0=>rfl
 |k+1=>by simp[Sv,NJ s a p k]
def cM{s:Az}{a:Af}{p:Ab}: ∀{n k:Nat},k<n->(Sv s a p n)[k]? =some (if Bj a (Cw p k)<0 then 0 else Km s (Bj a (Cw p k)) (((k:Int)+2) % 4))
 |0,k,h=>by omega
 |n+1,k,h=>by
  simp only[Sv];by_cases c:k<n
  .rw[EA (by rw[NJ];exact c),cM c]
  .obtain rfl:k=n:=by omega
   rw[FQ (by rw[NJ];omega),NJ,HA];rfl
def YP{s:Az}{a:Af}{p:Ab}{i:Int}{k:Nat}{g:Int}(z:g=if Bj a (Cw p k)<0 then 0 else Km s (Bj a (Cw p k)) (((k:Int)+2) % 4)):(if Km s i k=g then PS s g else 0)=Qd s (Bj a) p i k:=by
 simp only[Qd,Kf];by_cases c:Bj a (Cw p k)<0
 .rw[Ak c] at z;subst z;rw[Ad (show ¬0<=Bj a (Cw p k) by omega),LU (by omega)]
  split<;>rfl
 .rw[Ad c] at z;rw[Ak (show 0<=Bj a (Cw p k) by omega),<-z];split
  .rename_i e;rw[e]
  .rfl
def jR{s:Az}(h:BO s){t:Int}{d:Int}:0<=Km s t d/\Km s t d<=s.Glues.length:=by
 simp only[Km];cases e:s.Tiles[t.toNat]? with
 |none=>simp
 |some x=>
  simp only[CY,AO];cases e2:x.Sides[d.toNat]? with
  |none=>simp
  |some g=>
   simp only[AO];exact (h.2.1 x (Ba e)).2 g (Ba e2)
def atQ_.fv(a:Az×Af×Ab×Int):List Int:=(λs a p t=>Gj ⟨s,a,t⟩ (Bj a) p s.Tiles.length) (a.1) (a.2.1) (a.2.2.1) (a.2.2.2)
def atQ_.row:Ay:=vK (b4 (qP 2 Az.d_le) (qP 1 Af.d_le) (qR Ab.d_le) qI) (rS DO Dc) (λa=>BO a.1/\FB a.1 a.2.1/\G4 a.2.2.1/\a.1.Tiles.length<=1000000) atQ_.fv
def atQ_.q:=AT (R:=atQ_.row) rfl
def atQ_.ok:A9 123 atQ_.row:=by
 refine vw (tC l01Step.ok (tC l03At.ok (tC Opposite_.ok (tC l02Strength.ok tN)))) Tryz.func123 ?_;intro a ag;simp only[Tryz.f123];simp only[ZA,simprocAttr,atQ_.fv];obtain⟨s,a,p,t⟩:=a;obtain⟨Z,h2,h3,h4⟩:=ag;simp only at Z h2 h3 h4⊢;refine AU.ren ⟨{d:Nat//d<=4},λd=>⟨[(10,.im (.int .i64 d.1)),(9,.own 5),(6,.ptr 2 0),(0,.ptr 0 0),(1,.ptr 1 0),(3,.im (.int .i64 t))],[(5,(true,.arr 2 1 ((Sv s a p d.1).map Aj))),(2,(true,.cells 70 [.im (.int .i64 p.X),.im (.int .i64 p.Y)])),(0,(false,.view (Az.c s))),(1,(false,.view (Af.c a)))],6⟩,λd=>4 - d.1,λd=>⟨by simp[ZG],by simp⟩,⟨⟨0,CR _⟩,[(5,some 4)],?_⟩,λd=> ?_⟩
 .simp only[Aw];simp only[ZA,simprocAttr,Br,Sv]
  try simp
 obtain⟨d,hd⟩:=d;have am:=NJ s a p d;simp only[ZA,simprocAttr,Af.d,l01Step.q,l01Step.fv,l03At.q,l03At.fv,Opposite_.q,Opposite_.fv,AR,NG,NE,BK,D.one];have aa:IntKind.i64.wrap ((d:Int)+1)=((d+1:Nat):Int):=by rw[AC (by omega) (by omega)];omega
 refine⟨λab=>⟨⟨h3,by omega⟩,h2.1,λhn=>⟨by omega,⟨d+1,by omega⟩,[(5,some 7)],by simp only;omega,?_⟩,λhn=> ?_⟩,λab=> ?_⟩
 .simp only[Aw];simp only[ZA,simprocAttr,Br,Sv];rw[Ak hn];refine⟨aa,by simp[Aj]⟩
 .obtain⟨b1,b2⟩:=Kx h2 (Cw p d) (by omega);refine⟨b1,b2,λx hx=>⟨by omega,by omega,by rw[(Z.2.1 x (Ba hx)).1];omega,λg hg=>⟨by omega,⟨d+1,by omega⟩,[(5,some 7)],by simp only;omega,?_⟩⟩⟩;have Q:Km s (Bj a (Cw p d)) (((d:Int)+2) % 4)=g:=fC hx hg;simp only[Aw];simp only[ZA,simprocAttr,Br,Sv];rw[Ad hn,Q];refine⟨aa,by simp[Aj]⟩
 obtain rfl:d=4:=by omega
 clear aa ab hd;obtain⟨S,hS⟩: ∃S:AG,S=⟨s,a,t⟩:=⟨_,rfl⟩;rw[<-hS];refine AU.ren ⟨{i:Nat//i<=s.Tiles.length},λi=>⟨[(13,.im (.int .i64 i.1)),(12,.own 7),(9,.own 5),(0,.ptr 0 0),(3,.im (.int .i64 t))],[(7,(true,.arr 2 1 ((Gj S (Bj a) p i.1).map Aj))),(5,(true,.arr 2 1 ((Sv s a p 4).map Aj))),(0,(false,.view (Az.c s))),(1,(false,.view (Af.c a)))],8⟩,λi=>s.Tiles.length - i.1,λi=>⟨by simp[ZG],by simp⟩,⟨⟨0,CR _⟩,[(7,some 6)],?_⟩,λi=> ?_⟩
 .simp only[Aw];simp only[ZA,simprocAttr,Br,Gj]
  try simp
 obtain⟨i,hi⟩:=i;have ao:=Wg S (Bj a) p i;simp only[ZA,simprocAttr,AR];intro _;refine⟨λac=> ?_,λac=> ?_⟩;rotate_left
 .obtain rfl:i=s.Tiles.length:=by omega
  rfl
 refine AU.old ⟨{k:Nat//k<=4},λk=>⟨[(15,.im (.int .i64 k.1)),(14,.im (.int .i64 (Fa s (Bj a) p i k.1))),(13,.im (.int .i64 i)),(12,.own 7),(9,.own 5),(0,.ptr 0 0),(3,.im (.int .i64 t))],[(7,(true,.arr 2 1 ((Gj S (Bj a) p i).map Aj))),(5,(true,.arr 2 1 ((Sv s a p 4).map Aj))),(0,(false,.view (Az.c s))),(1,(false,.view (Af.c a)))],8⟩,λk=>4 - k.1,λk=>⟨by simp[ZG],by simp⟩,⟨⟨0,CR _⟩,?_⟩,λk=> ?_⟩
 .simp only[ZA,simprocAttr,sub,Fa]
 obtain⟨k,hk⟩:=k;simp only[ZA,simprocAttr,l02Strength.q,l02Strength.fv,sub,AR,NG,NE,BK,D.one];have af:IntKind.i64.wrap ((k:Int)+1)=((k+1:Nat):Int):=by rw[AC (by omega) (by omega)];omega
 have ak:=Qwy Z (Bj a) p i k;have an:=Qxd Z (Bj a) p i k;have ai:=NJ s a p 4;rw[ai];refine⟨λaj=>⟨ac,λx hx=>⟨by rw[(Z.2.1 x (Ba hx)).1];omega,λg hg=>⟨by omega,by omega,λy hy=> ?_⟩⟩⟩,λaj=> ?_⟩
 .have Q:Km s i k=g:=fC (by simpa using hx) (by simpa using hg);rw[cM (by omega),AI] at hy;have O:=YP (i:=i) hy.symm;rw[Q] at O;refine⟨λe=>⟨by omega,by omega,λz hz=> ?_⟩,λe=>⟨⟨k+1,by omega⟩,by simp only;omega,af,?_⟩⟩
  .rw[cM (by omega),AI] at hz;obtain rfl:y=z:=hy.symm.trans hz;rw[Ak e] at O;have ah:0<=y/\y<=s.Glues.length:=by
    have:=jR Z (t:=i) (d:=k)
    rw[Q,e] at this;exact this
   refine⟨⟨ah.1,ah.2,Z.1⟩,⟨k+1,by omega⟩,by simp only;omega,af,?_⟩;rw[O,AC (by omega) (by omega)];rfl
  .rw[Ad e] at O;simp only[Fa,<-O];omega
 .obtain rfl:k=4:=by omega
  have ad:IntKind.i64.wrap ((i:Int)+1)=((i+1:Nat):Int):=by rw[AC (by omega) (by omega)];omega
  have e1:S.Temperature=t:=by rw[hS]
  have e2:S.Set=s:=by rw[hS]
  refine⟨λe=>⟨by omega,⟨i+1,by omega⟩,[(7,some 9)],by simp only;omega,?_⟩,λe=>⟨⟨i+1,by omega⟩,[(7,some 7)],by simp only;omega,?_⟩⟩
  .simp only[Aw];simp only[ZA,simprocAttr,Br,Gj,e1,e2];rw[Ak e];exact⟨ad,by simp[Aj]⟩
  .simp only[Aw];simp only[ZA,simprocAttr,Br,Gj,e1,e2];rw[Ad e,DA];exact⟨ad,rfl⟩
def aD(s:AG)(a b:Af)(f:Ab->Int)(p:Ab): ∀n,Gj ⟨s.Set,a,s.Temperature⟩ f p n=Gj s f p n
 |0=>rfl
 |n+1=>by simp only[Gj,aD s a b f p n]
def El(g:Ab->List Int)(l:List Ab)(i:Nat):List AD:=C3 g (l.take i)
def qG{g:Ab->List Int}{l:List Ab}{i:Nat}{p:Ab}(h:l[i]? =some p):El g l (i+1)=El g l i++(g p).map (OL p):=by
 simp only[El,C3,ZL h,ZdO,G7,ZeQ,DA]
def Wc{g:Ab->List Int}{m:Nat}(z: ∀p,(g p).length<=m): ∀(l:List Ab),(C3 g l).length<=l.length*m
 |[]=>by simp[C3]
 |p::r=>by
  have ih:=Wc z r
  have:=z p
  simp only[C3] at ih;simp only[C3,G7,CD,F7,CQ,Zfe];omega
def opsS_.fv(a:AG×Af):List AD:=(D6) (a.1) (a.2)
def opsS_.row:Ay:=vK (b2 (qP 4 AG.d_le) (qP 1 Af.d_le)) (rS AD.d_le AD.c_n) (λa=>BO a.1.Set/\FB a.1.Set a.2/\a.2.Tiles.length<=500/\a.1.Set.Tiles.length<=1000) opsS_.fv
def opsS_.q:=AT (R:=opsS_.row) rfl
def opsS_.ok:A9 80 opsS_.row:=by
 refine vw (tC nearS_.ok (tC atQ_.ok tN)) Tryz.func80 ?_;intro a Z;simp only[Tryz.f80];simp only[ZA,simprocAttr,Af.d,opsS_.fv,nearS_.q,nearS_.fv];obtain⟨s,a⟩:=a;obtain⟨h1,h2,h3,h4⟩:=Z;simp only at h1 h2 h3 h4⊢;refine⟨⟨h2.1,by omega,s.Set,h2.2⟩,?_⟩;obtain⟨L,hL⟩: ∃L,L=Cz a a.Tiles.length:=⟨_,rfl⟩;obtain⟨g,hg⟩: ∃g,g=λp=>Gj s (Bj a) p s.Set.Tiles.length:=⟨_,rfl⟩
 have ac:D6 s a=C3 g L:=by rw[hg,hL];rfl
 rw[ac];have af:L.length<=2000:=by have:=VY a a.Tiles.length;rw[hL];omega
 have O: ∀p,(g p).length<=1000:=λp=>by have:=Wg s (Bj a) p s.Set.Tiles.length;rw[hg];simp only;omega
 have aa: ∀p∈L,DY p=true:=λp hp=>by
  rw[hL,QD _ (AN _)] at hp;exact hp.1.1
 simp only[<-hL];refine AU.ren ⟨{i:Nat//i<=L.length},λi=>⟨[(7,.im (.int .i64 i.1)),(6,.im (.sl false 2 (L.map Ab.c))),(5,.own 4),(0,.ptr 0 0),(1,.ptr 1 0)],[(4,(true,.arr 72 3 ((El g L i.1).map AD.c))),(0,(false,.view (AG.c s))),(1,(false,.view (Af.c a)))],5⟩,λi=>L.length - i.1,λi=>⟨by simp[ZG],by simp⟩,⟨⟨0,CR _⟩,[(4,some 3)],?_⟩,λi=> ?_⟩
 .simp only[Aw];simp only[ZA,simprocAttr,Br,El,C3]
  try simp
 obtain⟨i,hi⟩:=i;simp only[ZA,simprocAttr,Af.d,atQ_.q,atQ_.fv,AR];intro _;refine⟨λz=> ?_,λz=> ?_⟩;rotate_left
 .obtain rfl:i=L.length:=by omega
  rw[El,IG]
 have ah:(El g L i).length<=2000*1000:=by
  have:=Wc O (L.take i)
  have h9:(L.take i).length*1000<=2000*1000:=H9 _ (by simp;omega);simp only[El];omega
 refine⟨z,λp hp=> ?_⟩;have ad:=aa p (Ba hp);refine⟨⟨h1,h2,Z1 ad,by omega⟩,?_⟩;have ab:Gj ⟨s.Set,a,s.Temperature⟩ (Bj a) p s.Set.Tiles.length=g p:=by rw[aD _ _ a,hg]
 rw[ab];have ag:=O p;refine AU.ren ⟨{k:Nat//k<=(g p).length},λk=>⟨[(9,.im (.int .i64 k.1)),(8,.im (.sl false 1 ((g p).map Aj))),(7,.im (.int .i64 i)),(6,.im (.sl false 2 (L.map Ab.c))),(5,.own 5),(0,.ptr 0 0),(1,.ptr 1 0)],[(5,(true,.arr 72 3 ((El g L i++((g p).take k.1).map (OL p)).map AD.c))),(0,(false,.view (AG.c s))),(1,(false,.view (Af.c a)))],6⟩,λk=>(g p).length - k.1,λk=>⟨by simp[ZG],by simp⟩,⟨⟨0,CR _⟩,[(5,some 4)],?_⟩,λk=> ?_⟩
 .simp only[Aw];simp only[ZA,simprocAttr,Br]
  try simp
 obtain⟨k,hk⟩:=k;simp only[ZA,simprocAttr,AR,NG,NE,BK,D.one,CD];intro _;refine⟨λQ=>⟨z,λq hq=>⟨Q,λx hx=>⟨?_,⟨k+1,by omega⟩,[(5,some 7)],by simp only;omega,?_⟩⟩⟩,λQ=>⟨⟨i+1,by omega⟩,[(4,some 5)],by simp only;omega,?_⟩⟩
 .have:((g p).take k).length<=1000:=by simp;omega
  omega
 .obtain rfl:=A7 (hp.symm.trans hq);simp only[Aw];simp only[ZA,simprocAttr,Br];refine⟨by rw[AC (by omega) (by omega)];rfl,?_⟩;rw[ZL hx];simp[OL,AD.c]
 .obtain rfl:k=(g p).length:=by omega
  simp only[Aw];simp only[ZA,simprocAttr,Br];refine⟨by rw[AC (by omega) (by omega)];rfl,?_⟩;rw[qG hp,IG]
end Go.Ae
namespace Go.Ae
open Go.Proofs Go.Sort Go.Shelf
instance:Inhabited Ab:=⟨⟨0,0⟩⟩
def CV(x:Ab):List Value:=[.int .i64 x.X,.int .i64 x.Y]
def cfQ(x y:Ab):Int:=Iq (x.X,x.Y) (y.X,y.Y)
def Wk(x y:Ab):ltOf cfQ x y=Bl x y:=by
 simp only[ltOf,cfQ,Iq,Lib.compareInt,Bl]
 grind
def swoQ:SWO (ltOf cfQ) where
 irrefl x:=by rw[Wk];simp only[Bl];grind
 trans x y z h1 h2:=by rw[Wk] at*;simp only[Bl] at*;grind
 ntrans x y z h1 h2:=by rw[Wk] at*;simp only[Bl] at*;grind
def cW{l:List Ab}(hd:l.Nodup):(Cf l).Perm l:=(ZdI (KF (NM l)) hd).2 λ_=>JZ
def Qamw{l l':List Ab}(hd:l.Nodup)(hp:l'.Perm l)(hs:l'.Pairwise (λa b=>Bl b a=false)):l'=Cf l:=by
 refine cU ?_ (NM l) (λq=>by rw[JZ,hp.mem_iff]);have hn:l'.Nodup:=hp.nodup_iff.2 hd;refine ZeH (λ{a b} h=> ?_) (List.pairwise_and_iff.2 ⟨hs,hn⟩);exact pU h.1 λe=>h.2 e.symm
def P3{l:List Ab}(hd:l.Nodup):(Cf l).length=l.length:=(cW hd).length_eq
def Sg(l:List Ab):List Value:=l.flatMap CV
def LK(l:List Ab):(Sg l).length=l.length*2:=by
 induction l with
 |nil=>rfl
 |cons x r ih=>simp only[Sg,G7,CD,CQ] at ih⊢;rw[ih];simp[CV];omega
def cZ{ok:Nat->Prop}{hp:Nat->Option Obj}: ∀(l:List Ab) (L:List Value),rdr ok hp 2 (l.map Ab.c) L↔ ∃r,L=Sg l++r
 |[],L=>by simp[rdr,Sg]
 |x::r,L=>by
  simp only[Bg,rdr,cZ r,Ab.c,rdp,rd,Sg,G7];constructor
  .rintro⟨_,⟨v,z,rfl,rfl,Q,O,rfl,rfl,_⟩,q,hq⟩;exact⟨q,by simp only[Oc,Gd] at hq;rw[hq];rfl⟩
  .rintro⟨q,rfl⟩;exact⟨rfl,⟨_,_,rfl,rfl,_,_,rfl,rfl,trivial⟩,q,rfl⟩
def LJ: ∀(l:List Ab) (t:Nat),t<l.length*2->(Sg l)[t]? =some ((CV (l[t/2]?.getD default))[t % 2]!)
 |[],t,h=>by simp at h
 |x::r,t,h=>by
  by_cases Q:t<2
  .have:t=0\/t=1:=by omega
   rcases this with rfl|rfl<;>simp[Sg,CV]
  .obtain⟨u,rfl⟩: ∃u,t=u+2:=⟨t - 2,by omega⟩;have z:(u+2)/2=u/2+1:=by omega
   have O:(u+2) % 2=u % 2:=by omega
   have ih:=LJ r u (by simp at h;omega);rw[z,O,J7,<-ih];simp[Sg,CV]
def qL(l:List Ab):(flatK CV 2 l.toArray).toList=Sg l:=by
 apply Kt;intro t;by_cases z:t<l.length*2
 .rw[LJ l t z];have O:t<(flatK CV 2 l.toArray).size:=by simp only[size_flatK,Ku];exact z
  have Q:=get_flatK CV 2 l.toArray t (by simpa using z);rw[Gc,Hn O,<-getElem!_pos (flatK CV 2 l.toArray) t O,Q];congr 3;simp[getElem!_def];cases l[t/2]? <;>rfl
 .have a1:(flatK CV 2 l.toArray).toList.length<=t:=by rw[Dn,size_flatK,Ku];omega
  have a2:(Sg l).length<=t:=by rw[LK];omega
  rw[Fm a1,Fm a2]
def srtQ.ca(_:List Ab):List AV:=[.own 0,.im (.fn 98 [] [])]
def srtQ.H0(a:List Ab):Ao:=[(0,(true,.arr 70 2 (a.map Ab.c)))]
def srtQ.H1(a:List Ab):Ao:=[(0,(true,.arr 70 2 ((Cf a).map Ab.c)))]
def srtQ.row:Ay:=AA srtQ.ca srtQ.H0 1 (λa=>a.Nodup) (λ_=>true) (λ_=> .im (.tup [])) srtQ.H1 0
def srtQ.ok:A9 216 srtQ.row:=by
 rintro args h nx K ⟨a,τ,U,KL,ak,rfl,Q,hN,hK⟩;refine⟨Lq (by kernel_rfl),_,_,?_,hK⟩;intro C S vs R hW ba bc bd ab ay;have au:BW τ 1 nx 0=τ 0:=Ak (by omega);simp only[srtQ.ca,AJ,AV.ren,au,AM,Aa,rd,rdl] at ab;obtain⟨v0,r0,hv,⟨af,aj⟩,v1,r1,bj,⟨ac,cc,bm,am,an⟩,bl⟩:=ab;have am:ac= #[]:=by apply Ly;simpa using am
 have an:cc= #[]:=by apply Ly;simpa using an
 subst am an bl bj bm;have hvs:vs= #[v0,.func (V8 98) #[] #[]]:=by apply Ly;simpa using hv
 subst hvs;have hm:h (τ 0)=some (true,.arr 70 2 (a.map Ab.c)):=by
  have:=Q.1
  rwa [au] at this
 have ax:Al (srtQ.H0 a) 0=true:=rfl;have Z:S.h (τ 0)=some (true,.arr 70 2 (a.map Ab.c)):=by
  rw[ba (τ 0) (II _ (hN.u 0 ax)),hm]
 have az: ∀n,n∈KL↔n=τ 0:=by
  intro n;constructor
  .intro hn;obtain⟨j,h1,_,h3⟩:=hN.k1 n hn
   have:j=0:=by
    simp only[Al,srtQ.H0,hget] at h1;by_cases hj:j=0
    .exact hj
    .have:(0==j)=false:=by simpa using λh=>hj h.symm
     rw[this] at h1;cases h1
   rw[h3,this]
  .rintro rfl;exact hN.k2 0 ax rfl
 obtain⟨m,hmm⟩: ∃m,m=τ 0:=⟨_,rfl⟩;rw[<-hmm] at Z aj az;have av:=P3 ak;have fin: ∀(w':World),IA S m (.arr 70 2 ((Cf a).map Ab.c)) (S.ρ m) [m] w'->
  (B4 (λn=>S.h m≠none\/n≠m) S (S.one m (.arr 70 2 ((Cf a).map Ab.c)) (S.ρ m) [m] w')->Ap (S.one m (.arr 70 2 ((Cf a).map Ab.c)) (S.ρ m) [m] w') (S.ρ m) (.arr 70 2 ((Cf a).map Ab.c)))->R (.returned (.tuple #[])) w':=by
  intro w' af bi;have hp:=Zt hW af;refine ay (.tuple #[]) _ (fE hW af (bi hp)) ?_ ⟨hp.ok,λn _=>hp.nm n (.inl (by rw[Z];simp))⟩ ⟨#[],rfl,rfl⟩;funext n;simp only[Ax.one,Bo.appf,srtQ.H1,AZ,au,hget,Ac.ren,<-hmm];by_cases hn:n=m
  .subst hn;simp
  .have h1:(m==n)=false:=by simpa using λh=>hn h.symm
   have h2:KL.contains n=false:=by
    rw[<-IF,Hp,az];exact hn
   simp only[h1,Bq,h2,hn,CB,BS]
 have z:=aj _ Z;have aa:=hW.obj _ _ Z;have a8:=λO=>hW.loc m _ O Z
 cases hρ:S.ρ m with
 |none=>
  rw[hρ] at z aa;simp only[Ap] at aa;have ha:a=[]:=by simpa using aa.2
  subst ha;simp only at z;rw[z,WK (by decide)];refine (AnyF.slices_SortFunc_none Tryz.sortPt none 0 (.func (.func 98) #[] #[]) S.w).mono ?_;rintro e w' ⟨rfl,rfl⟩;refine fin S.w (bR Z (λl hl=>by rw[hρ] at hl;cases hl) rfl rfl) (λ_=> ?_);rw[hρ];exact⟨CR _,rfl⟩
 |some O=>
  rw[hρ] at z aa;simp only[Ap,Ac.len] at aa z;obtain⟨g1,g2,cv,g3,g4,g5⟩:=aa;obtain⟨aq,bo⟩:=a8 O hρ;rw[cZ] at g5;obtain⟨bb,g5⟩:=g5;simp only[F7] at g1 g2 z;have Q:S.w.heap[O.b]? =some (.cells cv 70 (0,0)):=g3;have bn:O.p+a.length*2<=cv.size:=by omega
  have hF:(flatK CV 2 a.toArray).size=a.length*2:=by simp
  have hget: ∀j,j<a.length*2->cv[O.p+j]? =some ((flatK CV 2 a.toArray)[j]!):=by
   intro j hj;have h1:(cv.toList.drop O.p)[j]? =(Sg a++bb)[j]? :=by rw[g5]
   rw[GW,Gc,EA (by rw[LK];exact hj),<-qL,Gc] at h1;rw[h1,Hn (by rw[hF];exact hj),getElem!_pos _ _ (by rw[hF];exact hj)]
  have hH:HoldsK CV 2 S.w O.b O.p a.toArray:=by
   intro j hj;rw[hF] at hj;refine⟨?_,?_⟩
   .simp only[World.cell?,Q,Rm,CP,CB,id];exact hget j hj
   .simp only[World.frozen?,Q];simp
  have hc:=AnyQ.slices_SortFunc Tryz.sortPt 2 Tryz.isAgg70 Tryz.sizeOf70 CV (λ_=>rfl) (λx v hv=>by simp[CV] at hv;rcases hv with rfl|rfl<;>rfl) cfQ swoQ 98 #[] O.b O.p O.cap a.toArray S.w
   (sF (Lq (by kernel_rfl))) (λm os dk hs x y=>Tryz.cmpPoints _ _ _ _ _) hH aq (by simp only[Ku,JL] at g1⊢;omega)
  rw[z,WK (by decide)];refine hc.mono ?_;rintro e w' ⟨rfl,d',n,os,ag,aw,rfl⟩;have a9:d'.size=a.length:=ag.1;have bg:d'.toList=Cf a:=by
   refine Qamw ak ?_ ?_
   .have:=ag.2.2
    rwa [show d'.extract 0 a.toArray.size=d' by rw[Ku,<-a9];exact vS,show a.toArray.extract 0 a.toArray.size=a.toArray from vS] at this
   .rw[Zdo];intro i j hi hj bh
    have:=aw i j (CR _) bh (by rw[Ku,<-a9];simpa using hj)
    rw[Wk,getElem!_pos d' i (by simpa using hi),getElem!_pos d' j (by simpa using hj)] at this;simpa using this
  obtain rfl:d'=(Cf a).toArray:=by apply Ly;rw[bg]
  have ai:(flatK CV 2 (Cf a).toArray).size=a.length*2:=by simp[av]
  have ao:(flatK CV 2 (Cf a).toArray).toList.length=a.length*2:=by rw[Dn,ai]
  have ah:S.w.heap.size<=(sortWorldK CV 2 S.w O.b O.p n (Cf a).toArray os).heap.size:=by
   simp[sortWorldK,grow,putRowK,Sort.ahead]
  have hb: ∀b,b<S.w.heap.size->(sortWorldK CV 2 S.w O.b O.p n (Cf a).toArray os).heap[b]? =if O.b=b then S.w.heap[b]?.map (onCells (putCells id O.p (flatK CV 2 (Cf a).toArray))) else S.w.heap[b]? :=by
   intro b hb;have e0:b<(putRowK CV 2 (Sort.ahead S.w n) O.b O.p (Cf a).toArray).heap.size:=by simpa[putRowK,Sort.ahead] using hb
   simp only[sortWorldK,grow];rw[ZdH e0];simp only[putRowK,putRow,mapBlock,Sort.ahead,vQ]
  refine fin _ ⟨rfl,rfl,rfl,ah,?_,.inl (by simp),?_,?_,?_⟩ ?_
  .intro b be bf;rw[hb b be,Ad (bf m _ O (by simp) Z hρ)]
  .intro lo a0;rw[hρ] at a0;obtain rfl:=A7 a0;exact⟨Gh aq ah,.inr ⟨m,_,O,by simp,Z,hρ,rfl⟩⟩
  .intro f hf;rw[Z] at hf;obtain rfl:=A7 hf;exact⟨rfl,rfl,by simp[Ac.len,av]⟩
  .intro n' f _ ad;rw[Z] at ad;cases ad
  .intro _;rw[hρ];simp only[Ap,F7,av];refine⟨g1,g2,putCells id O.p (flatK CV 2 (Cf a).toArray) cv,?_,by simpa[putCells] using g4,?_⟩
   .simp only[Ax.one,Ax.hp];rw[hb O.b aq,Ak rfl,Q];rfl
   .rw[cZ];refine⟨(cv.toList.drop (O.p+a.length*2)),?_⟩;apply Kt;intro t;rw[GW,Gc,putCells,ZeT,ai,<-qL];by_cases ht:t<a.length*2
    .rw[EA (by rw[ao];exact ht),Gc,Hn (show O.p+t<cv.size by omega),Hn (by rw[ai];exact ht)];simp only[CY,id];rw[Ak ⟨by omega,by omega⟩,vG,getElem!_pos _ _ (by rw[ai];exact ht)]
    .rw[FQ (by rw[ao];omega),ao,GW,Gc,show O.p+a.length*2+(t - a.length*2)=O.p+t by omega];cases cv[O.p+t]? with
     |none=>rfl
     |some x=>simp only[CY];rw[Ad (by omega)]
end Go.Ae
namespace Go.Ae
open Go.Proofs
def Xp(op:List (Ab×List Int)):Nat:=(op.map λq=>q.2.length).sum
def KE{β:Type}: ∀{l:List (Ab×β)} {q:Ab×β},(l.map Prod.fst).Nodup->q∈l->Bz l q.1=some q.2
 |x::r,q,hn,hq=>by
  obtain⟨p,v⟩:=x;rw[Bg,IH] at hn;simp only[Bz];rcases Be.1 hq with rfl|hq
  .rw[Ak rfl]
  .have:q.1≠p:=λe=>hn.1 (by rw[<-e];exact Bh.2 ⟨q,hq,rfl⟩)
   rw[Ad this];exact KE hn.2 hq
def pY{g:Ab->List Int}: ∀(l:List Ab),(C3 g l).length=(l.map λp=>(g p).length).sum
 |[]=>rfl
 |p::r=>by
  have:=pY (g:=g) r
  simp only[C3] at this;simp only[C3,G7,CD,F7,Bg,Lx,this]
def OW{op:List (Ab×List Int)}(h:(op.map Prod.fst).Nodup):(GH op).length=Xp op:=by
 rw[GH,pY,((cW h).map _).sum_nat,Oe];congr 1;refine Kr λq hq=> ?_
 simp only[Function.comp,KE h hq,AO]
def RA: ∀{l:List (Ab×List Int)},(∀q∈l,q.2≠[])->l.length<=Xp l
 |[],_=>CR _
 |x::r,h=>by
  have O:0<x.2.length:=mQ.2 (h x (BR ..));have z:=RA λq hq=>h q (BQ x hq)
  simp only[Xp,Bg,Lx,CQ] at z⊢;omega
def pZ(s:AG){b:Af}(Q:b.Tiles.length<=500)(Z:s.Set.Tiles.length<=160):(D6 s b).length<=320000:=by
 have z:=Wc (g:=λp=>Gj s (Bj b) p s.Set.Tiles.length) (m:=160) (λp=>DR (Wg s (Bj b) p _) (by omega)) (Cz b b.Tiles.length);have h8:=VY b b.Tiles.length;have O:(Cz b b.Tiles.length).length*160<=2000*160:=H9 _ (by omega);exact DR z O
def jC{s:AG}{b:Af}{op:List (Ab×List Int)}(hT:1<=s.Temperature)(h1:b.Tiles.length<=500)(h2:s.Set.Tiles.length<=160)(O:N1 s (Bj b) op):
 GH op=D6 s b/\((op.map Prod.fst).Nodup/\op.length<=1000000/\ ∀q∈op,q.2.length<=1000)/\(GH op).length<=320000:=by
 have z:=TB hT O;have Q:=OW O.1;rw[z] at Q;have Z: ∀q∈op,q.2=Ek s (Bj b) q.1/\q.2≠[]:=λq hq=>by
  have h5:=KE O.1 hq;rw[O.2,FI] at h5;split at h5
  .cases h5
  .rename_i c;have h6:=A7 h5;exact⟨h6.symm,by rw[<-h6];exact c⟩
 have h6:op.length<=Xp op:=RA λq hq=>(Z q hq).2
 have h7:=pZ s h1 h2;refine⟨z,⟨O.1,by omega,λq hq=> ?_⟩,by rw[z];exact h7⟩;rw[(Z q hq).1];exact DR (Qus s _ _ _) (by omega)
def Es(n:Int):Bool:= !AW n 0 1000
def DZ(l:List Int):Bool:=decide (l.length<=200) && !l.any Es
def Gw(l:List Int)(n k:Nat):Nat:=if l.length=0 then 0 else (((l[k % l.length]?).getD 0) % (n:Int)).toNat
def rF{l:List Int}(h:DZ l=true){x:Int}(O:x∈l):0<=x/\x<=1000:=by
 simp only[DZ,AL,Qk] at h;have z:Es x=false:=by
  cases hb:Es x with
  |false=>rfl
  |true=>rw[ZeO.2 ⟨x,O,hb⟩] at h;cases h.2
 simpa[Es,AW] using z
def MP{l:List Int}{n k:Nat}(hn:0<n):Gw l n k<n:=by
 simp only[Gw];split
 .exact hn
 .have z:=gB ((l[k % l.length]?).getD 0) (b:=(n:Int)) (by omega);have O:=mT ((l[k % l.length]?).getD 0) (b:=(n:Int)) (by omega);omega
def GB(s:AG)(l:List Int)(b:Af)(k:Nat):Option AD:=(D6 s b)[Gw l (D6 s b).length k]?
def Wo{s:AG}{l:List Int}{b:Af}{k:Nat}:GB s l b k=none↔D6 s b=[]:=by
 simp only[GB,ZeD];constructor
 .intro h;cases he:D6 s b with
  |nil=>rfl
  |cons x r=>
   have:=MP (l:=l) (k:=k) (n:=(D6 s b).length) (by rw[he];simp)
   omega
 .intro h;rw[h];simp
def IW(s:AG)(l:List Int):Nat->Af->List AD->List AD×Af×Int
 |0,b,d=>(d,b,0)
 |n+1,b,d=>match GB s l b d.length with
  |none=>(d,b,0)
  |some o=>if 500<=b.Tiles.length then ([],⟨[]⟩,4) else IW s l n (BJ b o.At o.Tile) (d++[o])
def Wn(b:Af)(p:Ab)(t:Int):(BJ b p t).Tiles.length=b.Tiles.length+1:=by
 rw[QX];rw[(tH ⟨p,t⟩ b.Tiles).length_eq,CQ]
def E6(s:AG)(l:List Int)(n:Int):List AD×Af×Int:=if EP s=false then ([],⟨[]⟩,1) else if DZ l=false\/AW n 0 500=false then ([],⟨[]⟩,2) else IW s l n.toNat s.Seed []
def Yk{s:AG}{b:Af}(Z:FB s.Set b){o:AD}(h:o∈D6 s b):C7 s b o=true:=by
 rw[D6,C3,Zeg] at h;obtain⟨p,hp,h⟩:=h;obtain⟨t,ht,rfl⟩:=Bh.1 h;rw[QD _ (AN _)] at hp;obtain⟨⟨O,Q⟩,_⟩:=hp;have z: ∀n,t∈Gj s (Bj b) p n->0<=t/\t<n/\s.Temperature<=Fa s.Set (Bj b) p t 4:=by
  intro n;induction n with
  |zero=>intro h;simp[Gj] at h
  |succ n ih=>
   intro h;simp only[Gj,Bs] at h;rcases h with h|h
   .have:=ih h;exact⟨this.1,by omega,this.2.2⟩
   .split at h
    .rename_i c;simp only[BS] at h;subst h;exact⟨by omega,by omega,c⟩
    .cases h
 obtain⟨k1,k2,k3⟩:=z _ ht;show C7 s b ⟨p,t⟩=true;simp only[C7,AW,AL,B3];exact⟨O,⟨k1,by omega⟩,(Iy Z.2 p).2 Q,by rw[<-bY];exact k3⟩
def QF{s:AG}{l:List Int}{b:Af}{k:Nat}(z:FB s.Set b){o:AD}(h:GB s l b k=some o):C7 s b o=true:=Yk z (Ba h)
def Ee(s:AG)(l:List Int):Nat->Af->List AD->List AD×Af×Bool×Int
 |0,b,d=>(d,b,(GB s l b d.length).isNone,0)
 |n+1,b,d=>match GB s l b d.length with
  |none=>(d,b,true,0)
  |some o=>if 500<=b.Tiles.length then ([],⟨[]⟩,false,4) else Ee s l n (BJ b o.At o.Tile) (d++[o])
def LZ{s:AG}{l:List Int}: ∀(n:Nat) (b:Af) (d:List AD),((Ee s l n b d).1,(Ee s l n b d).2.1,(Ee s l n b d).2.2.2)=IW s l n b d
 |0,b,d=>rfl
 |n+1,b,d=>by
  rw[Ee,IW];split
  .rfl
  .split
   .rfl
   .exact LZ n _ _
def XP{ι:Type}{P:Program}{V:CX}{N:Nat}{J:ι->(Nat->Prop)->World->Prop}{base:Nat}{ok0:Nat->Prop}{i j:ι}(HV:Hj P V)(Z:NX base J){ac:ι->List D->ι->Prop}{l:Nat}(hY: ∀i x j args Pr W,ac i x j->(∀ok hp,rdl ok hp x args.toList)->J i Pr W->YieldAt Fence.wide 0 P l args W λe W'=>e= .returned (.bool true)/\ ∃Pr',J j Pr' W'/\Io ok0 Pr W Pr' W')
 {id:Nat}{ops:Array Oper}(k1:Nat)(aq:List.range ops.size=List.range' 0 (ops.toList.take k1).length++(k1::(List.range' (k1+1) (ops.toList.drop (k1+1)).length++[])))(ad:J4 N (ops.toList.take k1)=true)(af:J4 N (ops.toList.drop (k1+1))=true)(z:WB ops=true)
 {o:Oper}{c:Call}{f:Operand}{x:List D}(s1:Av){s s2:Av}{a:Act}{w:World}{Q:Exit->Act->World->Prop}(ho:ops[k1]? =some o)(an:o.op= .call c)(aa:c.callee= .value f)(ai:o.guard=none)
 (hf:Aq s1.tm f= .im (.fn (1000000000+l) [] []))(O:DC s1.tm c.args.toList=x.map .im)(ao:x.all D.scs=true)(hx:ac i x j)(am: ∀n e,hget s1.h n=some e->e.2.isView=false)(hd: ∀d,o.dst=some d->d<N)(ag:s1.good=true)(ah:s2.good=true)
 (h:It J base ok0 N i s a w)(aj:KV P V (Ga ops (ops.toList.take k1)) (λs=>sub s s1) s)(ak:KV P V (Ga ops (ops.toList.drop (k1+1))) (λs=>sub s s2) (s1.put o.dst (.im (.bool true))))
 (ab: ∀a w,It J base ok0 N j s2 a w->Q .normal a w):(Code.region id ops false).wpIn Fence.wide 0 P Q a w:=by
 refine wpIn_region ?_;rw[aq];refine Wl HV Z (seg:=ops.toList.take k1) (more:=ops.toList.drop k1) (by rw[Gd,Kv]) ad z aj h (λs a w h1 h2=> ?_);have h3:=FN h2 h1 ag Z;have hw:Region.wanted o (yielded ops a.tmps)=true:=by simp[Region.wanted,ai]
 refine qQ Z hY ho hw an aa hf O ao hx am hd h3 (λa w h4=> ?_);refine Wl HV Z (seg:=ops.toList.drop (k1+1)) (more:=[]) (by rw[DA]) af z ak h4 (λs a w h5 h6=> ?_);exact ab a w (FN h6 h5 ah Z)
abbrev FX:=List (Ab×List Int)
def XG(op:FX):nN:=⟨FX×List Ab,(op,[]),λi x j=> ∃(k:Nat) (p:Ab×List Int),i.1[k]? =some p/\x=[.agg (Ab.c p.1)]/\j=(i.1.eraseIdx k,i.2++[p.1]),λi=>i.1=[]⟩
def HK(l:Nat)(left:FX)(z:Option (D×D)):Av:=⟨[(5,.it 0),(0,.im (.fn (1000000000+l) [] []))],[(0,(true,.iter z (left.map Dd)))],1⟩
def wW(l:Nat)(left:FX)(p:Ab×List Int):Av:=⟨[(3,.ptr 1 0),(5,.it 0),(0,.im (.fn (1000000000+l) [] []))],[(0,(true,.iter (some (Dd p)) (left.map Dd))),(1,(true,.cells 70 [.im (.int .i64 p.1.X),.im (.int .i64 p.1.Y)]))],2⟩
def cV(l:Nat)(left:FX)(z:Option (D×D)):(HK l left z).good=true:=by simp[HK,ZG]
def SQ(l:Nat)(left:FX)(p:Ab×List Int):(wW l left p).good=true:=by simp[wW,ZG]
def qV:J3 Tryz.prog (Qv []):=Q8 [] (by simp)
def OI(op:FX):Ld Tryz.prog 217 [.ref [.mp wV (op.map Dd)]] (XG op):=by
 refine SI Tryz.func217 rfl rfl (by simp) ?_;intro l J base ok0 z hY a w ab;have HV:=fF qV;obtain⟨R,hR⟩: ∃R,R=(λ(e:Exit) (a:Act) (w:World)=> ∃i,(XG op).fin i/\SH J base ok0 Tryz.f217.ntmps i (λe _=>e= .normal\/e= .ret) e a w):=⟨_,rfl⟩;rw[<-hR];simp only[Tryz.f217] at ab⊢;refine Lu CF HV z (by decide) (by decide) ab (Qx:=BI (HK l op none)) ?_ (λs a w O Z=> ?_) (λ_ _ _ _ h=>h.elim) (λ_ _ _ h=>h.elim)
 .simp only[ZA,simprocAttr,BI,HK,entry,sub,wV]
 have h3:=FN Z O (cV _ _ _) z;clear O Z ab;refine wpIn_block (wpIn_loop_ghost (λm a w=> ∃(i:FX×List Ab) (Q:Option (D×D)),m=i.1.length/\It J base ok0 14 i (HK l i.1 Q) a w) op.length ⟨(op,[]),none,rfl,h3⟩ ?_);clear h3;rintro m a w ⟨⟨left,aa⟩,Q,hm,h⟩;simp only at hm h;refine Lu CF HV z (by decide) (by decide) h (Qx:=λe s=>match e with
  | .normal=>(left=[]/\sub s ⟨(7,.im (.bool false))::(HK l left Q).tm,(HK l left Q).h,1⟩)\/ ∃(k:Nat) (p:Ab×List Int),left[k]? =some p/\sub s ⟨(7,.im (.bool true))::(HK l left Q).tm,(HK l (left.eraseIdx k) (some (Dd p))).h,1⟩
  |_=>False) ?_ (λs a w O Z=> ?_) (λ_ _ _ _ h=>h.elim) (λ_ _ _ h=>h.elim)
 .simp only[ZA,simprocAttr,HK,sub,Qwf];refine⟨λh=> .inl (by simpa using h),λi p hp=> ?_⟩;rw[Du] at hp;obtain⟨q,hq,rfl⟩:=D9.1 hp;exact .inr ⟨i,q,hq,rfl⟩
 simp only at O;rcases O with ⟨hl,hs⟩|⟨k,p,hk,hs⟩
 .have h3:=FN Z hs (by simp[HK,ZG]) z;refine Lu CF HV z (by decide) (by decide) h3 (Qx:=IS (HK l left Q) False True 0) ?_ (λs a w O Z=>O.1.elim) (λid s a w O Z=> ?_) (λ_ _ _ h=>h.elim)
  .simp only[ZA,simprocAttr,IS,HK,sub]
  .obtain⟨rfl,_,O⟩:=O;simp only[Exit.then,Exit.inBlock,BM,hR,SH];exact⟨(left,aa),hl,s,.inl trivial,Z⟩
 have h3:=FN Z hs (by simp[HK,ZG]) z;clear Z h hs;refine Lu CF HV z (by decide) (by decide) h3 (Qx:=IS (HK l (left.eraseIdx k) (some (Dd p))) True False 0) ?_ (λs a w O Z=> ?_) (λid s a w O Z=>O.2.1.elim) (λ_ _ _ h=>h.elim)
 .simp only[ZA,simprocAttr,IS,HK,sub]
 have h:=FN Z O.2 (cV _ _ _) z;clear O Z h3;refine wpIn_block ?_;refine Lu CF HV z (by decide) (by decide) h (Qx:=BI (wW l (left.eraseIdx k) p)) ?_ (λs a w O Z=> ?_) (λ_ _ _ _ h=>h.elim) (λ_ _ _ h=>h.elim)
 .simp only[ZA,simprocAttr,BI,HK,wW,sub,Dd,Ab.c]
  trace_state
 have h3:=FN Z O (SQ _ _ _) z;clear O Z h;have ac:=(Cx.1 hk).1;obtain⟨F,hF⟩: ∃F:AV,F= .im (.fn (1000000000+l) [] []):=⟨_,rfl⟩;obtain⟨E,hE⟩: ∃E:An,E=(true,.iter (some (Dd p)) ((left.eraseIdx k).map Dd)):=⟨_,rfl⟩;refine wpIn_seq (XP HV z hY (i:=(left,aa)) (j:=(left.eraseIdx k,aa++[p.1])) (x:=[.agg (Ab.c p.1)]) 2 (by decide) (by decide) (by decide) (by decide)
  (⟨[(11,.im (.agg (Ab.c p.1))),(10,F),(5,.it 0),(0,F)],[(0,E)],2⟩:Av) (s2:=⟨[(13,.im (.bool false)),(5,.it 0),(0,F)],[(0,E)],2⟩) rfl rfl rfl rfl (by rw[hF];rfl) rfl (by rfl) ⟨k,p,hk,rfl,rfl⟩ ?_ (by decide) (by rw[hE,hF];simp[ZG]) (by rw[hE,hF];simp[ZG]) h3 ?_ ?_ (λa w h4=> ?_))
 .exact λn e he=>VH _ (by rw[hE];rfl) n e he
 .simp only[ZA,simprocAttr,wW,sub,hE,hF,Ab.c,Ga,WP,List.take]
 .simp only[ZA,simprocAttr,sub,hE,hF,Ab.c,Ga,WP,List.drop]
 simp only[Exit.then];refine uI CF HV z (by decide) (by decide) h4 (Qx:=BI (HK l (left.eraseIdx k) (some (Dd p)))) ?_ (λs a w O Z=> ?_) (λ_ _ _ _ h=>h.elim) (λ_ _ _ h=>h.elim)
 .simp only[ZA,simprocAttr,BI,HK,sub,hE,hF]
 simp only[Exit.inBlock,Exit.then];exact⟨(left.eraseIdx k).length,by rw[Zei,Ak ac];omega,(left.eraseIdx k,aa++[p.1]),_,rfl,FN Z O (cV _ _ _) z⟩
end Go.Ae
namespace Go.Ae
open Go.Proofs Go.RowKit Go.Lib Go.Sort
def qK{A:Type}: ∀(l:List A) (k:Nat) (x:A),l[k]? =some x->l.Perm (x::l.eraseIdx k)
 |[],k,x,h=>by simp at h
 |y::r,0,x,h=>by
  simp only[Ho,AI] at h;subst h;exact gH _
 |y::r,k+1,x,h=>by
  rw[J7] at h;rw[vC];exact ((qK r k x h).cons y).trans (List.Perm.swap x y _)
def gM(op:FX)(s:Av)(xs:List AV):Prop:= ∃l:List Ab,l.Perm (op.map Prod.fst)/\ ∃m,xs=[.own m]/\hget s.h m=some (true,.arr 70 2 (l.map Ab.c))
def iJ(op:FX):D:= .fn 217 [] [.ref [.mp wV (op.map Dd)]]
def gO{op:FX}(hb:op.length<=1000000){C:AY}{S:Ax}{vs:Array Value}{RR:Ending->World->Prop}(hW:Wf C S)(au:EH S [.val (.sl true 0 []),.val (iJ op)] vs.toList)
 (af: ∀(v:Value) (C0:AY) (S1:Ax) (l:List Ab) (m:Nat),C0.w=S.w->C0.ok=S.ok->(∀b,¬C0.M b)->Wf C0 S1->l.Perm (op.map Prod.fst)->S1.h m=some (true,.arr 70 2 (l.map Ab.c))->Aa S1 (.own m) v->RR (.returned v) S1.w):
 Calls Tryz.prog 226 vs S.w RR:=by
 have HV:=fF qV;refine qA Tryz.func226 rfl (ps:=[.val (.sl true 0 []),.val (iJ op)]) (show 2<=13 by decide) (Q:=gM op) ?_ hW au ?_;rotate_left
 .rintro v C0 S1 s xs g1 g2 g3 g4 g5 ⟨l,hl,m,rfl,hm⟩ g7;exact af v C0 S1 l m g1 g2 g3 g4 hl ((g5 m).trans hm) g7
 intro C0 a w hw ag hc ao;have aq:C0.ds=[]:=by obtain⟨S0,_,h⟩:=hc;rw[<-h.defers];exact ao
 simp only[Tryz.f226] at hc⊢;refine uY CF HV (by decide) (by decide) (s':=⟨[(2,.ptr 0 0),(1,.im (iJ op))],[(0,(true,.cells 178 [.im (.sl true 0 [])]))],2⟩) hc ?_ ?_ (by rw[ag];exact CR _) (λa w hc=> ?_)
 .simp only[ZA,simprocAttr,BI,sub,Dt,D7,BL,entry]
 .simp[ZG]
 refine wpIn_seq ?_;refine uY CF HV (by decide) (by decide) (s':=⟨[(6,.im (iJ op)),(2,.ptr 0 0)],[(0,(true,.cells 178 [.im (.sl true 0 [])]))],2⟩) hc ?_ ?_ (by rw[ag];exact CR _) (λa w hc=> ?_)
 .simp only[ZA,simprocAttr,BI,sub]
 .simp[ZG]
 refine wpIn_block (wpIn_mono (qN CF HV hc (gf:=217) (capt:=[.ref [.mp wV (op.map Dd)]]) (X:=XG op) (Lq (by kernel_rfl)) (OI op)
  (λ(i:FX×List Ab)=>(i.2++i.1.map Prod.fst).Perm (op.map Prod.fst)) (gH _) ?_ (by decide) (by decide) (by decide) (by decide) ?_ (by decide)
  (tm0:=[(6,.im (iJ op)),(2,.ptr 0 0)]) (hs:=λ(i:FX×List Ab)=>[(0,(true,.cells 178 [.own 2])),(2,(true,.arr 70 2 (i.2.map Ab.c)))]) (nx:=3) ⟨[(2,none)],?_⟩ rfl (by simp) ?_ ?_ ?_ ?_) ?_)
 .rintro⟨left,Z⟩ x j O ⟨k,p,hk,rfl,rfl⟩;simp only at hk O⊢;have h1:(left.map Prod.fst).Perm (p.1::(left.eraseIdx k).map Prod.fst):=by
   exact (qK left k p hk).map Prod.fst
  refine List.Perm.trans ?_ O;rw[Fb];exact (h1.append_left Z).symm
 .rintro⟨left,Z⟩ x j O ⟨k,p,hk,rfl,rfl⟩;rfl
 .simp only[Aw];simp only[ZA,simprocAttr,Qh];exact (trivial:Tu true (.arr 0 0 []))
 .simp[CH,AV.bel]
 .rintro⟨left,Z⟩ O;simp[ZG]
 .intro i o e he hv;rw[VH _ (by rfl) o e he] at hv;cases hv
 .rintro⟨left,Z⟩ x j O ⟨k,p,hk,rfl,rfl⟩;have av:Z.length<=op.length:=by
   have:=O.length_eq
   simp at this;omega
  simp only[ZA,simprocAttr,Oq,Uk,Fw];refine⟨λrow ac=>by rw[BS] at ac;subst ac;rfl,by omega,[(2,some 5)],?_⟩;simp only[Aw];simp only[ZA,simprocAttr,Br,FT]
 .rintro e a' w' ⟨⟨left,Z⟩,O,ad,hq⟩;simp only[XG] at ad;subst ad;simp only[GX,DA] at O;cases e<;>simp only[Yw] at hq;obtain⟨C2,S2,Dk,rfl,hE,aa,ht,hd,ah,ai,aj,ak,am⟩:=hq;simp only[Exit.inBlock,Exit.then];have an:a.defers=[]:=by obtain⟨S0,_,h⟩:=hc;rw[h.defers];exact aq
  rw[an] at hd;have hm: ∀a'':Act,a''.defers=C2.ds->uH C0 C2 a''.defers:=λa'' h=> .inr ⟨Dk,by rw[h,<-hE.defers,hd],ah,ai,aj,ak,am⟩
  refine wpIn_mono (kZ (ro:=none) CF HV _ (by decide) (by decide) (Ug Tryz.prog [ResultVar.tmp 4] (gM op)) _ a' S2.w ?_ ⟨S2,rfl,hE⟩) ?_
  .simp only[ZA,simprocAttr,Ug,Ph,gM];exact⟨_,rfl,Z,O,2,rfl,rfl⟩
  .intro e a'' w'' hq;cases e<;>simp only[FU] at hq<;>simp only[Pi]
   .obtain⟨s',ab,z⟩:=hq;exact⟨s',C2,ab,z,aa,hm a'' (by obtain⟨S0,_,h⟩:=z;exact h.defers)⟩
   .obtain⟨s',ab,z⟩:=hq;exact ab.elim
   .obtain⟨s',ab,z⟩:=hq;exact⟨s',C2,ab,z,aa,hm a'' (by obtain⟨S0,_,h⟩:=z;exact h.defers)⟩
def UL(a:List Ab)(j:Nat):Al (srtQ.H0 a) j=true↔j<1:=by
 simp only[Al,srtQ.H0,hget];by_cases z:j=0
 .subst z;simp
 .have:(0==j)=false:=by simpa using λh=>z h.symm
  rw[this];simp;omega
def nK(op:FX)(S:Ax)(v:Value)(w:World):Prop:= ∃(z:AY) (S1:Ax) (l:List Ab) (m:Nat),S1.w=w/\z.w=S.w/\z.ok=S.ok/\(∀b,¬z.M b)/\Wf z S1/\l.Perm (op.map Prod.fst)/\S1.h m=some (true,.arr 70 2 (l.map Ab.c))/\Aa S1 (.own m) v
def Xq{op:FX}(hb:op.length<=1000000){C:AY}{S:Ax}{v1:Value}(hW:Wf C S)(hv:EH S [.val (iJ op)] [v1]):
 Calls Tryz.prog 215 #[v1] S.w (λe w=> ∃v,e= .returned v/\nK op S v w):=by
 have z:Calls Tryz.prog 226 #[.slice none 0 0,v1] S.w (λe w=> ∃v,e= .returned v/\nK op S v w):=by
  refine gO hb hW ⟨_,_,rfl,?_,hv⟩ (λv O S1 l m g1 g2 Q Z g5 g6 g7=>⟨v,rfl,O,S1,l,m,rfl,g1,g2,Q,Z,g5,g6,g7⟩);exact cX S (.slice none 0 0)
 go_enter Tryz.func215,Tryz.ntmps215
 go_wp2_with (go_at_call 226;refine z.mono ?_;rintro e w' ⟨v,rfl,h⟩)
 go_ret
 exact⟨v,rfl,h⟩
def P4{C0:AY}{S1:Ax}{l:List Ab}{m:Nat}{v Z:Value}{R:Ending->World->Prop}(hW:Wf C0 S1)(hd:l.Nodup)(hm:S1.h m=some (true,.arr 70 2 (l.map Ab.c)))(hv:Aa S1 (.own m) v)(ab:Aa S1 (.im (.fn 98 [] [])) Z)
 (O: ∀u S',Wf C0 S'->S'.h m=some (true,.arr 70 2 ((Cf l).map Ab.c))->Aa S' (.own m) v->R (.returned u) S'.w):
 Calls Tryz.prog 216 #[v,Z] S1.w R:=by
 have Q:srtQ.row [.own m,.im (.fn 98 [] [])] S1.h (m+1) (λr E=>E={use:=[m],kill:=[m],new:=[(m,(true,.arr 70 2 ((Cf l).map Ab.c)))],cnt:=0}):=by
  refine AA.os l [m] hd (UL l) rfl (by simp[WQ]) ⟨rfl,?_⟩ ?_
  .simp only[srtQ.H0,CO,BW,Ik];exact⟨hm,trivial⟩
  .rfl
 obtain⟨_,r,E,hT,rfl⟩:=srtQ.ok _ _ _ _ Q;have z: ∀n,¬Fr (m+1) 0 n:=λn h=>by have:=h.1;have:=h.2;omega
 refine hT C0 S1 #[v,Z] R hW (λn _=>rfl) (λn hn=>(z n hn).elim) (λn e _ k _ hk=>z k hk) ⟨v,[Z],rfl,hv,Z,[],rfl,ab,rfl⟩ ?_;intro u S' aa hh hp _;refine O u S' aa ?_ (HS hp _ _ (λo _ hf=>z o hf) hv);rw[hh];simp[Bo.appf,hget]
def sorF.ar:List PK->Option FX
 |[.val (.fn 217 [] [.ref [.mp ⟨true,[.int .i64,.int .i64]⟩ z]]),.val (.fn 98 [] [])]=>Gl (EG Ab.d) (Qy Cl) z
 |_=>none
def sorF.ae(op:FX):List PK:=[.val (iJ op),.val (.fn 98 [] [])]
def sorF.le: ∀z a,sorF.ar z=some a->BE z (sorF.ae a):=by
 intro z a h;unfold sorF.ar at h;split at h
 .exact⟨NY ⟨NT (CM.leP ⟨SU (Qxb Qwu (rQ DO (λ_=>rfl)) _ _ h),trivial⟩),trivial⟩,Cr.refl _,trivial⟩
 .cases h
def sorF.fv(op:FX):List Ab:=Cf (op.map Prod.fst)
def sorF.row:Ay:=NR sorF.ar (λop=>(op.map Prod.fst).Nodup/\op.length<=1000000) (λop=> .sl false 2 ((sorF.fv op).map Ab.c))
def sorF.q:=vqF sorF.row rfl
def sorF.ok:A9 196 sorF.row:=by
 refine Quy (by kernel_rfl) sorF.le (rc:=Qy Ab.d) (re:=λb=> .sl false 2 (b.map Ab.c)) (rQ Ab.d_le (λ_=>rfl)) (f:=sorF.fv) (λop Z C S vs RR hW aa Q=> ?_);obtain⟨af,hb⟩:=Z;simp only[sorF.ae,EH] at aa;obtain⟨v1,r1,hvs,ah,v2,r2,rfl,ai,rfl⟩:=aa;have ac:vs= #[v1,v2]:=by apply Ly;simpa using hvs
 subst ac;have O:=Xq hb hW (v1:=v1) ⟨v1,[],rfl,ah,rfl⟩
 go_enter Tryz.func196,Tryz.ntmps196
 have ab: ∀S1:Ax,Aa S1 (.im (.fn 98 [] [])) v2:=λS1=>by simpa only[JO,Aa,rd,rdl] using ai
 have ag: ∀(z:AY) (S1:Ax) (l:List Ab) (m:Nat) (v:Value),Wf z S1->l.Perm (op.map Prod.fst)->S1.h m=some (true,.arr 70 2 (l.map Ab.c))->Aa S1 (.own m) v->
  Calls Tryz.prog 216 #[v,v2] S1.w (λe w=> ∃u S',e= .returned u/\S'.w=w/\Wf z S'/\S'.h m=some (true,.arr 70 2 ((sorF.fv op).map Ab.c))/\Aa S' (.own m) v):=by
  intro z S1 l m v g4 g5 g6 g7;refine P4 g4 (g5.nodup_iff.2 af) g6 g7 (ab S1) (λu S' h1 h2 h3=>⟨u,S',rfl,rfl,h1,?_,h3⟩)
  have:Cf l=Cf (op.map Prod.fst):=cU (NM _) (NM _) (λq=>by rw[JZ,JZ];exact g5.mem_iff)
  rw[h2,this];rfl
 go_wp2_with (first
  |(go_at_call 215;refine O.mono ?_;rintro e w' ⟨v,rfl,z,S1,l,m,rfl,g1,g2,g3,g4,g5,g6,g7⟩)
  |(go_at_call 216;refine (ag z S1 l m v g4 g5 g6 g7).mono ?_;rintro e w' ⟨u,S',rfl,rfl,h1,h2,h3⟩))
 show RR (.returned v) S'.w;obtain⟨d,rfl,ad⟩:=Qzf (K:=λd=>d= .sl false 2 ((sorF.fv op).map Ab.c)) g3 h1 (x:= .own m) (by
  simp only[OB,h2,iD];exact⟨by intro row hr;obtain⟨p,_,rfl⟩:=Bh.1 hr;rfl,trivial⟩) h3
 exact Q v z S' _ g1 g2 g3 h1 (by simp only[BC,Qy,Ab.d_R]) ad
def Bn.ca(_:FX):List AV:=[.mp 0]
def Bn.H0(a:FX):Ao:=[(0,(true,.map wV (a.map Dd)))]
def Bn.H1(_:FX):Ao:=[(1,(true,.cells 152 [.mp 0]))]
def Bn.r0(_:FX):AV:= .clo 217 [] [.ptr 1 0]
def Bn.row:Ay:=AA Bn.ca Bn.H0 1 (λ_=>True) (λ_=>false) Bn.r0 Bn.H1 1
def Bn.ok:A9 197 Bn.row:=by
 refine ow tN Tryz.func197 (exB:=λj=>j==1) (R:=λa r=>r=Bn.r0 a) (λ_=>rfl)
  (λa=>by simp[Bn.ca,Bn.H0,AE,AV.bel,Au,BB,BU,Ac.nms,Al,hget]) (λa p hp=> ?_) (λa r h=>by subst h;exact CN.refl _) ?_
 rotate_left
 intro a z;simp only[Tryz.f197,Bn.ca,Bn.H0,Bn.H1,Bn.r0];simp only[ZA,simprocAttr];simp[Bn.H1] at hp;subst hp;exact .inr ⟨by omega,by omega,rfl,rfl⟩
end Go.Ae
namespace Go.Ae
open Go.Proofs
def Mk{β:Type}{v:β}{p:Ab}: ∀{t:List (Ab×β)},Bz t p=some v->(p,v)∈t
 |(q,w)::r,h=>by
  simp only[Bz] at h;split at h
  .rename_i e;obtain rfl:=A7 h;rw[e];exact BR ..
  .exact BQ _ (Mk h)
def qO{β:Type}{p:Ab}: ∀{t:List (Ab×β)},Bz t p=none->p∉t.map Prod.fst
 |[],_=>by simp
 |(q,w)::r,h=>by
  simp only[Bz] at h;split at h
  .cases h
  .rename_i e;simp only[Bg,Be,ZX];exact⟨e,qO h⟩
def SM(a:FX)(j:Nat):Al (Bn.H0 a) j=true↔j<1:=by
 simp only[Al,Bn.H0,hget];by_cases h0:j=0
 .subst h0;simp
 .have z:(0==j)=false:=by simp;omega
  simp[z];omega
def lisC.r0(a:Cp):AV:= .im (.sl false 3 ((GH a.Op).map AD.c))
def lisC.row:Ay:=AA asmC.ca BZ 3 (λa=>(a.Op.map Prod.fst).Nodup/\a.Op.length<=1000000/\ ∀q∈a.Op,q.2.length<=1000) (λ_=>false) lisC.r0 (λ_=>[]) 20
def lisC.ok:A9 170 lisC.row:=by
 refine Qr (tC Bn.ok (tC sorF.ok tN)) Tryz.func170 (exB:=λ_=>false) (R:=λa r=>r=lisC.r0 a) (λ_=>rfl)
  (λa=>by simp[asmC.ca,BZ,C4,AE,AV.bel,Au,BB,BU,Ac.nms,AB,AV.nms,Al,hget]) (λa p hp=> ?_) (λa r h=>by subst h;exact CN.refl _) ?_
 rotate_left
 intro a ac;simp only[Tryz.f170,asmC.ca,BZ,C4];simp only[ZA,simprocAttr];obtain⟨aa,ab,ag⟩:=ac;refine AA.os a.Op [2] trivial (λj=>SM _ j) rfl rfl ?_ ?_
 .simp only[ZA,simprocAttr,DL,Bn.ca,Bn.H0,Eo];rfl
 simp only[ZA,simprocAttr,CS,sorF.q,sorF.ar,sorF.fv,DL,Bn.H1,Bn.r0];obtain⟨L,hL⟩: ∃L,L=Cf (a.Op.map Prod.fst):=⟨_,rfl⟩;obtain⟨g,hg⟩: ∃g:Ab->List Int,g=λp=>(Bz a.Op p).getD []:=⟨_,rfl⟩
 have af:GH a.Op=C3 g L:=by rw[hg,hL];rfl
 refine⟨⟨aa,ab⟩,?_⟩;simp only[<-hL];intro ah;refine AU.ren ⟨{i:Nat//i<=L.length},λi=>⟨[(15,.im (.int .i64 i.1)),(14,.im (.int .i64 L.length)),(13,.im (.sl false 2 (L.map Ab.c))),(3,.own 6),(0,.ptr 0 0)],[(6,(true,.arr 72 3 ((El g L i.1).map AD.c))),(0,(true,.cells 154 (C4 a.Sys))),(1,(true,.map ⟨true,[.int .i64,.int .i64]⟩ (a.Tl.map Em))),(2,(true,.map ⟨true,[.int .i64,.int .i64]⟩ (a.Op.map Dd)))],7⟩,λi=>L.length - i.1,λi=>⟨by simp[ZG,C4],by simp⟩,⟨⟨0,CR _⟩,[(6,some 4)],?_⟩,λi=> ?_⟩
 .simp only[Aw,C4];simp only[ZA,simprocAttr,Br,El,C3]
  try simp
 obtain⟨i,hi⟩:=i;simp only[C4];simp only[ZA,simprocAttr,F3,AR,XX];have z: ∀p,(g p).length<=1000:=λp=>by
  rw[hg];simp only;cases hq:Bz a.Op p with
  |none=>simp
  |some v=>exact ag _ (Mk hq)
 have ai:L.length<=1000000:=by rw[hL,(cW aa).length_eq,F7];exact ab
 have aj:(El g L i).length<=1000000*1000:=by
  have:=Wc z (L.take i)
  have h9:(L.take i).length*1000<=1000000*1000:=H9 _ (by simp;omega);simp only[El];omega
 refine⟨λQ=>⟨Q,λp hp=>⟨λv hv=> ?_,λhv=> ?_⟩⟩,λQ=> ?_⟩
 .have O:g p=v:=by rw[hg];simp only[hv,AO]
  have ad:=z p;rw[O] at ad;refine AU.ren ⟨{k:Nat//k<=v.length},λk=>⟨[(26,.im (.int .i64 k.1)),(25,.im (.int .i64 v.length)),(24,.im (.sl false 1 (v.map Aj))),(5,.ptr 7 0),(15,.im (.int .i64 i)),(14,.im (.int .i64 L.length)),(13,.im (.sl false 2 (L.map Ab.c))),(3,.own 8),(0,.ptr 0 0)],[(8,(true,.arr 72 3 ((El g L i++(v.take k.1).map (OL p)).map AD.c))),(7,(true,.cells 70 ((Ab.c p).map .im))),(0,(true,.cells 154 (C4 a.Sys))),(1,(true,.map ⟨true,[.int .i64,.int .i64]⟩ (a.Tl.map Em))),(2,(true,.map ⟨true,[.int .i64,.int .i64]⟩ (a.Op.map Dd)))],9⟩,λk=>v.length - k.1,λk=>⟨by simp[ZG,C4,Ab.c],by simp⟩,⟨⟨0,CR _⟩,[(8,some 6)],?_⟩,λk=> ?_⟩
  .simp only[Aw,C4];simp only[ZA,simprocAttr,Br]
   try simp
  obtain⟨k,hk⟩:=k;simp only[C4];simp only[ZA,simprocAttr,DL,AR,NG,NE,xZ,BK,D.one,CD];refine⟨λZ=>⟨Z,λx hx=>⟨?_,⟨k+1,by omega⟩,[(8,some 10)],by simp only;omega,?_⟩⟩,λZ=>⟨⟨i+1,by omega⟩,[(6,some 8)],by simp only;omega,?_⟩⟩
  .have:(v.take k).length<=1000:=by simp;omega
   omega
  .simp only[Aw];simp only[ZA,simprocAttr,Br];refine⟨by rw[AC (by omega) (by omega)];rfl,?_⟩;rw[ZL hx];simp[OL,AD.c]
  .obtain rfl:k=v.length:=by omega
   simp only[Aw];simp only[ZA,simprocAttr,Br];refine⟨by rw[AC (by omega) (by omega)];rfl,?_⟩;rw[qG hp,IG,O]
 .exfalso
  have:p∈L:=Ba hp
  rw[hL,JZ] at this;exact qO hv this
 .obtain rfl:i=L.length:=by omega
  have hA:El g L L.length=GH a.Op:=by rw[El,IG,af]
  rw[hA];refine⟨[6],[],⟨[(2,.im (.sl false 3 ((GH a.Op).map AD.c)))],[(0,(true,.cells 154 (C4 a.Sys))),(1,(true,.map ⟨true,[.int .i64,.int .i64]⟩ (a.Tl.map Em))),(2,(true,.map ⟨true,[.int .i64,.int .i64]⟩ (a.Op.map Dd)))],3⟩,?_,by simp[ZG,C4],by simp,?_⟩
  .simp only[Aw,C4];simp only[ZA,simprocAttr,Br]
  .simp only[C4];simp only[ZA,simprocAttr,lisC.r0]
 simp at hp
def schB1.fv(a:Int):Bool:=(Es) a
def schB1.row:Ay:=vK (b1 qI) rB (λa=>True) schB1.fv
def schB1.q:=AT (R:=schB1.row) rfl
def schB1.ok:A9 92 schB1.row:=by
 refine vw (tC within_.ok tN) Tryz.func92 ?_;intro a z;simp only[Tryz.f92];simp only[ZA,simprocAttr,schB1.fv,within_.q,within_.fv];rfl
def IdxSc.ar:List PK->Option ((List Int)×Unit)
 |[.val (.sl _ _ z),.val (.fn 92 [] [])]=>(AQ Cl z).bind λO=>some (O,())
 |_=>none
def IdxSc.ae(a:(List Int)×Unit):List PK:=[.val (.sl false 1 (a.1.map Aj)),.val (.fn 92 [] [])]
def IdxSc.le: ∀z a,IdxSc.ar z=some a->BE z (IdxSc.ae a):=by
 intro z a h;unfold IdxSc.ar at h;split at h
 .simp only[Ei,AI] at h;obtain⟨O,h0,rfl⟩:=h;exact⟨D2 (Dr DO _ _ h0) (by simp only[Bh];rintro r ⟨y,_,rfl⟩;rfl),Cr.refl _,trivial⟩
 .cases h
def IdxSc.fv(a:(List Int)×Unit):Int:=(λl _=>Bm Es 0 l) (a.1) (a.2)
def IdxSc.row:Ay:=Dj IdxSc.ar (λa=>True) (λa=>(D.int .i64) (IdxSc.fv a))
def IdxSc.q:=vq IdxSc.row rfl
def IdxSc.ok:A9 91 IdxSc.row:=by
 refine NI CF (tC schB1.ok tN) Tryz.func91 rfl (by kernel_rfl) (by kernel_rfl) (ar:=IdxSc.ar) (ae:=IdxSc.ae) IdxSc.le (n:=2) (λ_=>rfl) (by decide) (rc:=(D0)) (re:=(D.int .i64)) (Lg) (f:=IdxSc.fv) ?_;intro a Q;simp only[Tryz.f91];simp only[ZA,simprocAttr,IdxSc.ae,IdxSc.fv];intro hn;refine AU.old ⟨{k:Nat//k<=a.1.length/\Bm Es k (a.1.drop k)=Bm Es 0 a.1},λk=>⟨[(8,.im (.int .i64 k.1)),(7,.im (.int .i64 a.1.length)),(6,.im (.sl false 1 (a.1.map Aj))),(4,.im (.int .i64 0)),(0,.im (.sl false 1 (a.1.map Aj))),(1,.im (.fn 92 [] []))],[],0⟩,λk=>a.1.length - k.1,λk=>⟨by simp[ZG],AN _⟩,⟨⟨0,by simp⟩,by simp only[ZA,simprocAttr,sub]⟩,λk=> ?_⟩;obtain⟨k,Z,z⟩:=k;simp only[ZA,simprocAttr,schB1.q,schB1.fv,sub,AR];refine⟨λO=>⟨O,λx hx=> ?_⟩,λO=> ?_⟩
 .rw[E9 hx,Bm] at z;refine⟨λh=> ?_,λh=>F8 O hn ⟨by omega,by rw[<-z,Ad (by simpa using h)]⟩⟩;rw[Ak (by simpa using h)] at z;exact z
 .rw[CG (by omega),Bm] at z;exact z
def ContSc.ar:List PK->Option ((List Int)×Unit)
 |[.val (.sl _ _ z),.val (.fn 92 [] [])]=>(AQ Cl z).bind λO=>some (O,())
 |_=>none
def ContSc.ae(a:(List Int)×Unit):List PK:=[.val (.sl false 1 (a.1.map Aj)),.val (.fn 92 [] [])]
def ContSc.le: ∀z a,ContSc.ar z=some a->BE z (ContSc.ae a):=by
 intro z a h;unfold ContSc.ar at h;split at h
 .simp only[Ei,AI] at h;obtain⟨O,h0,rfl⟩:=h;exact⟨D2 (Dr DO _ _ h0) (by simp only[Bh];rintro r ⟨y,_,rfl⟩;rfl),Cr.refl _,trivial⟩
 .cases h
def ContSc.fv(a:(List Int)×Unit):Bool:=(λl _=>l.any Es) (a.1) (a.2)
def ContSc.row:Ay:=Dj ContSc.ar (λa=>True) (λa=>(D.bool) (ContSc.fv a))
def ContSc.q:=vq ContSc.row rfl
def ContSc.ok:A9 55 ContSc.row:=by
 refine NI CF (tC IdxSc.ok tN) Tryz.func55 rfl (by kernel_rfl) (by kernel_rfl) (ar:=ContSc.ar) (ae:=ContSc.ae) ContSc.le (n:=2) (λ_=>rfl) (by decide) (rc:=(PO)) (re:=(D.bool)) (Ze) (f:=ContSc.fv) ?_;intro a z;simp only[Tryz.f55];simp only[ZA,simprocAttr,ContSc.ae,ContSc.fv,IdxSc.q,IdxSc.ar,IdxSc.fv];exact uK _ _
def vSch_.fv(a:(List Int)):Bool:=(DZ) a
def vSch_.row:Ay:=vK (b1 (qS DO Dc)) rB (λa=>True) vSch_.fv
def vSch_.q:=AT (R:=vSch_.row) rfl
def vSch_.ok:A9 58 vSch_.row:=by
 refine vw (tC ContSc.ok tN) Tryz.func58 ?_;intro a z;simp only[Tryz.f58];simp only[ZA,simprocAttr,vSch_.fv,ContSc.q,ContSc.ar,ContSc.fv];intro _;simp only[DZ];by_cases c:a.length<=200
 .rw[Ak (by omega),Oi c,DB]
 .rw[Ad (by omega),mM c,Fo]
def sel1_.fv(a:Int×Int×(List Int)):Int:=(λn k l=>(Gw l n.toNat k.toNat:Int)) (a.1) (a.2.1) (a.2.2)
def sel1_.row:Ay:=vK (b3 qI qI (qP 1 eH)) rI (λa=>1<=a.1/\a.1<=1000000/\0<=a.2.1/\a.2.1<=1000/\DZ a.2.2=true) sel1_.fv
def sel1_.q:=AT (R:=sel1_.row) rfl
def sel1_.ok:A9 169 sel1_.row:=by
 refine vw tN Tryz.func169 ?_;intro a z;simp only[Tryz.f169];simp only[ZZ,simprocAttr,sel1_.fv];obtain⟨n,k,l⟩:=a;obtain⟨h1,h2,Z,h4,h5⟩:=z;simp only at h1 h2 Z h4 h5⊢;obtain⟨n,rfl⟩: ∃m:Nat,n=m:=⟨n.toNat,by omega⟩;obtain⟨k,rfl⟩: ∃m:Nat,k=m:=⟨k.toNat,by omega⟩;intro _;by_cases c:(l.length:Int)=0
 .rw[Ak c];simp only[Gw];rw[Ak (by omega)];rfl
 rw[Ad c];refine⟨c,Zem _ Z,ZdW _ (by omega),λx O=>⟨by omega,?_⟩⟩;have Q:=rF h5 (Ba O);rw[fS (by omega),<-Int.natCast_emod,B5] at O;simp only[Gw,B5];rw[Ad (by omega),O,AO,fS Q.1,Int.toNat_of_nonneg (gB _ (by omega))]
def slD:D->Option (List Int)
 | .fn g [] [.ref ds]=>if g=169 then Qa ds else none
 |_=>none
def jT: ∀d b,slD d=some b->Le d (.fn 169 [] [.ref (CK b)]):=by
 intro d b h;unfold slD at h;split at h
 .rename_i g ds;split at h
  .rename_i z;subst z;refine NY ?_;exact⟨NT (eH _ _ h).leP,trivial⟩
  .cases h
 .cases h
def sel_.fv(a:(List Int)):List Int:=(λl=>l) a
def sel_.row:Ay:=vK (b1 (qS DO Dc)) (RK.mk (slD) (λa=>D.fn 169 [] [.ref (CK a)]) (jT)) (λa=>True) sel_.fv
def sel_.q:=AT (R:=sel_.row) rfl
def sel_.ok:A9 133 sel_.row:=by
 refine vw tN Tryz.func133 ?_;intro a z;simp only[Tryz.f133];simp only[ZA,simprocAttr,sel_.fv];refine .inl ?_;show (if 169=169 then Qa (CK a) else none)=some a;rw[Ak rfl,MV]
def asmX.ca(l:List Ah):List AV:=[.im (.sl false 3 (l.map Ah.c))]
def asmX.H1(l:List Ah):Ao:=[(0,(true,.arr 97 3 ((EZ l).map Ah.c)))]
def asmX.r0(_:List Ah):AV:= .agg [.own 0]
def asmX.row:Ay:=AA asmX.ca (λ_=>[]) 0 (λl=>(l.map Ah.At).Nodup/\l.length<=1000000) (λ_=>false) asmX.r0 asmX.H1 20
def asmX.ok:A9 96 asmX.row:=by
 refine Qr (tC clonC.ok (tC srt.ok tN)) Tryz.func96 (exB:=λj=>j==0) (R:=λa r=>r=asmX.r0 a) (λ_=>rfl)
  (λa=>by simp[asmX.ca,AE,AV.bel,Au,BB,BU]) (λa p hp=> ?_) (λa r h=>by subst h;exact CN.refl _) ?_
 rotate_left
 intro a z;simp only[Tryz.f96,asmX.ca,asmX.H1];simp only[ZA,simprocAttr];refine AA.os a [] z.2 (λj=>by simp[Al,hget]) rfl rfl ?_ ?_
 .simp only[ZA,simprocAttr,clonC.ca,CO]
 simp only[ZA,simprocAttr,clonC.H1];refine AA.os a [1] z.1 (λj=> ?_) rfl rfl ?_ ?_
 .simp only[Al,srt.H0,hget];by_cases O:j=0
  .subst O;simp
  .have:(0==j)=false:=by simpa using λh=>O h.symm
   rw[this];simp;omega
 .simp only[ZA,simprocAttr,DL,srt.ca,srt.H0,CO]
  try exact⟨rfl,rfl⟩
 simp only[ZA,simprocAttr,F3,DL,srt.H1,Eo,G6];refine⟨[],[(1,some 0),(0,some 1)],⟨[(2,.ptr 1 0)],[(1,(true,.cells 38 [.own 0])),(0,(true,.arr 97 3 ((EZ a).map Ah.c)))],2⟩,?_,by simp[ZG],by simp,?_⟩
 .simp only[Aw];simp only[ZA,simprocAttr,Br]
  try simp
 .simp only[ZA,simprocAttr,asmX.r0]
 simp[asmX.H1] at hp;subst hp;exact .inr ⟨by omega,by omega,rfl,rfl⟩
def asmXV.ar:List PK->Option (List Ah):=a1 (kS Ah.d)
def asmXV.row:Ay:=Fg asmXV.ar (λl=>(l.map Ah.At).Nodup/\l.length<=1000000) asmX.r0 asmX.H1 20
def asmXV.ok:A9 96 asmXV.row:=
 pO (A:=List Ah) (ca:=λ(a:List Ah)=>[D.sl false 3 (a.map Ah.c)]) (by kernel_rfl) asmX.ok (λ_=>rfl) (ZY (SL 3 Ah.d_le (λ_=>rfl)))
  (λa=>by simp[asmX.r0,Il,Ez,AV.nms,AB])
  (λa p hp=>by
   simp only[asmX.H1,BS] at hp;subst hp;exact⟨by omega,rfl,by simp[JF,Ah.c,D.sc],by simp[Ac.nms]⟩)
def Fg.os{A:Type}{ar:List PK->Option A}{pre:A->Prop}{r0:A->AV}{H1:A->Ao}{cnt:Nat}{args:List AV}{h:Nat->Option An}{nx:Nat}{K:Ai}(ps:List PK)(O:Ct h args=some ps)(a:A)(Z:ar ps=some a)(z:pre a)
 (Q:K ((r0 a).ren (BW (λj=>j) 0 nx)) {use:=Fx h args,new:=AZ (BW (λj=>j) 0 nx) (H1 a),cnt:=cnt}):Fg ar pre r0 H1 cnt args h nx K:=by
 unfold Fg;rw[O];simp only[Wh,Z,EB];exact⟨z,Q⟩
def xK{h:Nat->Option An}{o T k:Nat}{z:Bool}{rows:List (List D)}(g:h o=some (z,.arr T k rows)):Ct h [.own o]=some [.val (.sl false k rows)]:=by
 simp only[Ct,Ej,bk,g,Ko,EX,Hv,CY]
def asmCX.H1(a:Cp):Ao:=[(1,(false,.map ⟨true,[.int .i64,.int .i64]⟩ (a.Tl.map Em))),(3,(true,.arr 97 3 ((Xf a.Tl).Tiles.map Ah.c)))]
def asmCX.row:Ay:=AA asmC.ca BZ 3 (λa=>(a.Tl.map Prod.fst).Nodup/\a.Tl.length<=100000) klA (λ_=> .agg [.own 3]) asmCX.H1 20
def asmCX.ok:A9 94 asmCX.row:=by
 refine Qr (tC asmXV.ok tN) Tryz.func94 (exB:=λj=>j==3) (R:=λ_ r=>r= .agg [.own 3]) (λ_=>rfl)
  (λa=>by simp[asmC.ca,BZ,C4,AE,AV.bel,Au,BB,BU,Ac.nms,AB,AV.nms,Al,hget]) (λa p hp=> ?_) (λa r h=>by subst h;exact CN.refl _) ?_
 rotate_left
 intro a O;simp only[Tryz.f94,asmC.ca,BZ,C4,asmCX.H1];simp only[ZA,simprocAttr];obtain⟨ab,af⟩:=O;refine AU.ren ⟨{s:Option (D×D)×List (Ab×Int)×List Ah//(s.2.2++s.2.1.map C9).Perm (a.Tl.map C9)},λs=>⟨[(10,.it 5),(3,.own 6),(2,.ptr 3 0),(0,.ptr 0 0)],[(6,(true,.arr 97 3 (s.1.2.2.map Ah.c))),(5,(true,.iter s.1.1 (s.1.2.1.map Em))),(3,(true,.cells 38 [.im (.sl true 0 [])])),(0,(true,.cells 154 (C4 a.Sys))),(1,(false,.map ⟨true,[.int .i64,.int .i64]⟩ (a.Tl.map Em))),(2,(true,.map ⟨true,[.int .i64,.int .i64]⟩ (a.Op.map Dd)))],7⟩,λs=>s.1.2.1.length,λs=>⟨by simp[ZG,C4],by simp⟩,⟨⟨(none,a.Tl,[]),by simp⟩,[(6,some 4)],?_⟩,λs=> ?_⟩
 .simp only[Aw,C4];simp only[ZA,simprocAttr]
  try simp
 obtain⟨⟨ad,left,z⟩,Q⟩:=s;simp only at Q;simp only[C4];simp only[ZA,simprocAttr];refine⟨λhl=> ?_,λi p hp=> ?_⟩
 .have aa:left=[]:=by simpa using hl
  subst aa;rw[GX,DA] at Q;obtain⟨r1,r2,r3⟩:=Ot ab Q;refine Fg.os [.val (.sl false 3 (z.map Ah.c))] (xK rfl) z (by simp only[asmXV.ar,a1,kS,Ah.d_R,FR]) ⟨r2,by omega⟩ ?_;simp only[ZA,simprocAttr,CS,F3,asmX.r0,asmX.H1,r1];refine⟨[],[(3,some 7),(4,some 3)],⟨[(2,.ptr 4 0)],[(4,(true,.cells 38 [.own 3])),(3,(true,.arr 97 3 ((Xf a.Tl).Tiles.map Ah.c))),(0,(true,.cells 154 (C4 a.Sys))),(1,(false,.map ⟨true,[.int .i64,.int .i64]⟩ (a.Tl.map Em))),(2,(true,.map ⟨true,[.int .i64,.int .i64]⟩ (a.Op.map Dd)))],5⟩,?_,by simp[ZG,C4],by simp,?_⟩
  .simp only[Aw,C4];simp only[ZA,simprocAttr,Br]
   try simp[Xf]
  .simp only[C4];simp only[ZA,simprocAttr,klA]
   try simp
 .rw[Du] at hp;cases hq:left[i]? with
  |none=>rw[hq] at hp;cases hp
  |some q=>
   rw[hq] at hp;obtain rfl:=A7 hp;obtain⟨⟨qx,qy⟩,Z⟩:=q;simp only[Em,Ab.c];simp only[ZA,simprocAttr,JM,Eo,G6];have hi:i<left.length:=by
    rcases EI i left.length with h|h
    .exact h
    .rw[Fm h] at hq;cases hq
   have ac:((⟨qx,qy⟩,Z)::left.eraseIdx i).Perm left:=Qqq _ _ _ hq;have hP:((z++[(⟨⟨qx,qy⟩,Z⟩:Ah)])++(left.eraseIdx i).map C9).Perm (a.Tl.map C9):=by
    rw[Fb];refine (ZeW z ?_).trans Q;exact ac.map C9
   have hcl:z.length<=a.Tl.length:=by
    have r3:=Q.length_eq;simp at r3;omega
   refine⟨by omega,⟨⟨(some (D.agg [.int .i64 qx,.int .i64 qy],D.int .i64 Z),left.eraseIdx i,z++[(⟨⟨qx,qy⟩,Z⟩:Ah)]),hP⟩,[(6,some 9)],?_,?_⟩⟩
   .simp only[Zei];rw[Ak hi];omega
   .simp only[Aw];simp only[ZA,simprocAttr];simp[Ah.c,Qwf]
 simp[asmCX.H1] at hp;rcases hp with rfl|rfl
 .exact .inl ⟨by omega,rfl,rfl⟩
 .exact .inr ⟨by omega,by omega,rfl,rfl⟩
def HE(s:AG)(b:Af)(c:Cp):Prop:=c.Sys=s/\(∃n,RM c.Tl b n)/\N1 s (C5 c.Tl) c.Op/\FB s.Set b/\b.Tiles.length<=500/\BO s.Set/\1<=s.Temperature/\s.Set.Tiles.length<=160
def HE.put{s:AG}{b:Af}{c:Cp}(h:HE s b c){o:AD}(O:C7 s b o=true)(hl:b.Tiles.length<500):HE s (BJ b o.At o.Tile) (Hf c o.At o.Tile):=by
 obtain⟨rfl,⟨n,z⟩,Q,hb,h5,h1,hT,Z⟩:=h;obtain⟨f1,f2⟩:=Yv z hb O;obtain⟨z1,z2,z3,z4,z5,z6⟩:=oW O;exact⟨rfl,⟨_,z.put f2 f1⟩,jE Q z3,Kz Z hb O,by rw[Wn];omega,h1,hT,Z⟩
def FE(l:List Int):Nat->Cp->Af->List AD->Cp×Af×List AD×Bool
 |0,c,b,d=>(c,b,d,true)
 |n+1,c,b,d=>match GB c.Sys l b d.length with
  |none=>(c,b,d,true)
  |some o=>if 500<=b.Tiles.length then (c,b,[],false) else FE l n (Hf c o.At o.Tile) (BJ b o.At o.Tile) (d++[o])
def LX{s:AG}{l:List Int}: ∀(n:Nat) (c:Cp) (b:Af) (d:List AD),HE s b c->((FE l n c b d).2.2.2=true/\IW s l n b d=((FE l n c b d).2.2.1,(FE l n c b d).2.1,0)/\HE s (FE l n c b d).2.1 (FE l n c b d).1)\/((FE l n c b d).2.2.2=false/\(FE l n c b d).2.2.1=[]/\IW s l n b d=([],⟨[]⟩,4))
 |0,c,b,d,h=> .inl ⟨rfl,rfl,h⟩
 |n+1,c,b,d,h=>by
  have O:c.Sys=s:=h.1;rw[FE,IW,O];cases ho:GB s l b d.length with
  |none=>exact .inl ⟨rfl,rfl,h⟩
  |some o=>
   simp only;by_cases z:500<=b.Tiles.length
   .rw[Ak z,Ak z];exact .inr ⟨rfl,rfl,rfl⟩
   .rw[Ad z,Ad z];exact LX n _ _ _ (h.put (QF h.2.2.2.1 ho) (by omega))
def dH(s:AG)(l:List Int): ∀(n:Nat) (b:Af) (d:List AD),b.Tiles.length<=500->(IW s l n b d).1.length<=d.length+n/\(IW s l n b d).2.1.Tiles.length<=500
 |0,b,d,h=>by simp[IW,h]
 |n+1,b,d,h=>by
  rw[IW];split
  .exact⟨by simp only;omega,h⟩
  .split
   .simp
   .have:=dH s l n (BJ b ‹AD›.At ‹AD›.Tile) (d++[‹AD›]) (by rw[Wn];omega)
    simp only[CD,vR] at this;exact⟨by omega,this.2⟩
def FJ(l:List Int)(c:Cp)(b:Af)(k:Nat):Cp:=
 match GB c.Sys l b k with
 |none=>c
 |some o=>if 500<=b.Tiles.length then c else Hf c o.At o.Tile
def Gr(l:List Int)(c:Cp)(b:Af)(k:Nat):D:=
 match GB c.Sys l b k with
 |none=> .tup [.agg [.int .i64 0,.int .i64 0,.int .i64 0],.tok 0]
 |some o=>if 500<=b.Tiles.length then .tup [.agg [.int .i64 0,.int .i64 0,.int .i64 0],.tok 1] else .tup [.agg (AD.c o),.nili]
def nxtC.ca(a:Cp×Af×List Int×Nat):List AV:=[.ptr 0 0,.im (.fn 169 [] [.ref [.sl false 1 (a.2.2.1.map Aj)]]),.im (.int .i64 a.2.2.2)]
def nxtC.H1(a:Cp×Af×List Int×Nat):Ao:=[(1,(true,.map ⟨true,[.int .i64,.int .i64]⟩ ((FJ a.2.2.1 a.1 a.2.1 a.2.2.2).Tl.map Em))),(2,(true,.map ⟨true,[.int .i64,.int .i64]⟩ ((FJ a.2.2.1 a.1 a.2.1 a.2.2.2).Op.map Dd)))]
def nxtC.r0(a:Cp×Af×List Int×Nat):AV:= .im (Gr a.2.2.1 a.1 a.2.1 a.2.2.2)
def nxtC.row:Ay:=AA nxtC.ca (λa=>BZ a.1) 3 (λa=>HE a.1.Sys a.2.1 a.1/\DZ a.2.2.1=true/\a.2.2.2<=1000) DT nxtC.r0 nxtC.H1 0
def nxtC.ok:A9 134 nxtC.row:=by
 refine ow (tC lisC.ok (tC sel1_.ok (tC putC.ok tN))) Tryz.func134 (exB:=λ_=>false) (R:=λa r=>r=nxtC.r0 a) (λ_=>rfl)
  (λa=>by simp[nxtC.ca,BZ,C4,AE,AV.bel,Au,BB,BU,Ac.nms,AB,AV.nms,Al,hget]) (λa p hp=> ?_) (λa r h=>by subst h;exact CN.refl _) ?_
 rotate_left
 intro a Z;simp only[Tryz.f134,nxtC.ca,BZ,C4,nxtC.H1];simp only[ZA,simprocAttr];obtain⟨c,b,l,k⟩:=a;obtain⟨hg,hl,hk⟩:=Z;simp only at hg hl hk⊢;obtain⟨_,⟨n,O⟩,ac,hb,h5,h1,hT,h2⟩:=hg;have z:=ac;rw[O.at] at z;obtain⟨l1,l2,l3⟩:=jC hT h5 h2 z;refine AA.os c [0,1,2] l2 (λj=>JR _ j) rfl rfl ?_ ?_
 .simp only[ZA,simprocAttr,DL,BZ,C4,asmC.ca,BZ,C4,Eo,G6]
 simp only[ZZ,simprocAttr,sel1_.q,sel1_.fv,DT,lisC.r0,l1];intro _;have ad:=O.size;rw[l1] at l3;split
 .rename_i c1;have aa:=(Wo (s:=c.Sys) (l:=l) (b:=b) (k:=k)).2 (Rj.1 (by omega));simp only[nxtC.r0,Gr,FJ,aa];trivial
 rename_i c1;obtain⟨o,ho⟩: ∃o,GB c.Sys l b k=some o:=by
  cases hq:GB c.Sys l b k with
  |none=>exact absurd (by rw[Wo.1 hq];rfl) c1
  |some o=>exact⟨o,rfl⟩
 split
 .rename_i c2;simp only[nxtC.r0,Gr,FJ,ho];rw[Ak (by omega),Ak (by omega)];exact⟨rfl,rfl,rfl⟩
 rename_i c2;intro _;refine⟨⟨by omega,by omega,by omega,hl⟩,MP (by omega),λx hx=> ?_⟩;obtain rfl:o=x:=A7 (ho.symm.trans hx);have cS:=QF hb ho;obtain⟨z1,z2,z3,z4,z5,z6⟩:=oW cS;have Q:aK c.Sys.Set (C5 c.Tl):=by rw[O.at];exact λp hp=>Kx hb p hp
 have hnc:FJ l c b k=Hf c o.At o.Tile:=by simp only[FJ,ho];rw[Ad (by omega)]
 have ab:Gr l c b k= .tup [.agg (AD.c o),.nili]:=by simp only[Gr,ho];rw[Ad (by omega)]
 refine AA.os (c,o.At,o.Tile) [0,1,2] ⟨⟨h1,Q,by simp only;omega⟩,z2,z5⟩ (λj=>JR _ j) rfl rfl ?_ ?_
 .simp only[ZA,simprocAttr,DL,BZ,C4,putC.ca,BZ,C4,Eo,G6]
 simp only[ZA,simprocAttr,DL,DT,putC.H1,DT,Eo,G6,hnc,nxtC.r0,ab];simp[nxtC.H1] at hp;rcases hp with rfl|rfl
 .exact .inl ⟨by omega,rfl,rfl⟩
 .exact .inl ⟨by omega,rfl,rfl⟩
def growI.ca(a:Cp×Af×List Int×Nat):List AV:=[.ptr 0 0,.im (.sl false 1 (a.2.2.1.map Aj)),.im (.int .i64 a.2.2.2)]
def growI.H1(a:Cp×Af×List Int×Nat):Ao:=[(1,(true,.map ⟨true,[.int .i64,.int .i64]⟩ ((FE a.2.2.1 a.2.2.2 a.1 a.2.1 []).1.Tl.map Em))),(2,(true,.map ⟨true,[.int .i64,.int .i64]⟩ ((FE a.2.2.1 a.2.2.2 a.1 a.2.1 []).1.Op.map Dd))),(3,(true,.arr 72 3 ((FE a.2.2.1 a.2.2.2 a.1 a.2.1 []).2.2.1.map AD.c)))]
def growI.r0(a:Cp×Af×List Int×Nat):AV:= .tup [.own 3,.im (.bool (FE a.2.2.1 a.2.2.2 a.1 a.2.1 []).2.2.2)]
def growI.row:Ay:=AA growI.ca (λa=>BZ a.1) 3 (λa=>HE a.1.Sys a.2.1 a.1/\DZ a.2.2.1=true/\a.2.2.2<=501) DT growI.r0 growI.H1 20
def growI.ok:A9 93 growI.row:=by
 refine Qr (tC sel_.ok (tC nxtC.ok (tC errIs.ok tN))) Tryz.func93 (exB:=λj=>j==3) (R:=λa r=>r=growI.r0 a) (λ_=>rfl)
  (λa=>by simp[growI.ca,BZ,C4,AE,AV.bel,Au,BB,BU,Ac.nms,AB,AV.nms,Al,hget]) (λa p hp=> ?_) (λa r h=>by subst h;exact CN.refl _) ?_
 rotate_left
 intro a aa;simp only[Tryz.f93,growI.ca,BZ,C4,growI.H1];simp only[ZZ,simprocAttr,sel_.q,sel_.fv];obtain⟨c,b,l,n⟩:=a;obtain⟨hg,hl,hn⟩:=aa;simp only at hg hl hn⊢;refine AU.ren ⟨{q:Cp×Af×List AD//q.2.2.length<=n/\HE c.Sys q.2.1 q.1/\FE l (n - q.2.2.length) q.1 q.2.1 q.2.2=FE l n c b []},λq=>⟨[(9,.own 5),(8,.im (.fn 169 [] [.ref [.sl false 1 (l.map Aj)]])),(7,.im (.bool false)),(6,.own 3),(0,.ptr 0 0),(2,.im (.int .i64 n))],[(5,(true,.arr 72 3 (q.1.2.2.map AD.c))),(3,(true,.arr 72 3 [])),(0,(true,.cells 154 [.im (.sl false 2 (c.Sys.Set.Glues.map Am.c)),.im (.sl false 2 (c.Sys.Set.Tiles.map Tile.c)),.im (.sl false 3 (c.Sys.Seed.Tiles.map Ah.c)),.im (.int .i64 c.Sys.Temperature),.mp 1,.mp 2])),(1,(true,.map ⟨true,[.int .i64,.int .i64]⟩ (q.1.1.Tl.map Em))),(2,(true,.map ⟨true,[.int .i64,.int .i64]⟩ (q.1.1.Op.map Dd)))],6⟩,λq=>n - q.1.2.2.length,λq=>⟨by simp[ZG],by simp⟩,⟨⟨(c,b,[]),by simp only;exact⟨CR _,hg,by rw[FS,ZU]⟩⟩,[(5,some 4)],?_⟩,λq=> ?_⟩
 .simp only[Aw];simp only[ZA,simprocAttr,Br]
  try simp
 obtain⟨⟨c1,b1,d⟩,e1,e2,e3⟩:=q;simp only at e1 e2 e3;simp only[ZA,simprocAttr,F3,AR];have hS:c1.Sys=c.Sys:=e2.1;have z: ∀k,GB c1.Sys l b1 k=GB c.Sys l b1 k:=λk=>by rw[hS]
 refine λ_=>⟨λh1 _=> ?_,λh1=> ?_⟩
 .refine AA.os (c1,b1,l,d.length) [0,1,2] ⟨by rw[hS];exact e2,hl,by simp only;omega⟩ (λj=>JR _ j) rfl rfl ?_ ?_
  .simp only[ZA,simprocAttr,DL,BZ,C4,nxtC.ca,BZ,C4,Eo,G6,hS]
  obtain⟨m,hm⟩: ∃m,n - d.length=m+1:=⟨n - d.length - 1,by omega⟩;cases ho:GB c.Sys l b1 d.length with
  |none=>
   have O:Gr l c1 b1 d.length= .tup [.agg [.int .i64 0,.int .i64 0,.int .i64 0],.tok 0]:=by simp only[Gr,z,ho]
   have hnc:FJ l c1 b1 d.length=c1:=by simp only[FJ,z,ho]
   have Q:FE l n c b []=(c1,b1,d,true):=by rw[<-e3,hm,FE,z,ho]
   simp only[ZA,simprocAttr,F3,DL,DT,nxtC.H1,DT,Eo,G6,nxtC.r0,O,hnc,errIs.q,NN,Me];refine⟨[],[(3,some 5)],⟨[(6,.own 3),(7,.im (.bool true))],[(3,(true,.arr 72 3 (d.map AD.c))),(0,(true,.cells 154 [.im (.sl false 2 (c.Sys.Set.Glues.map Am.c)),.im (.sl false 2 (c.Sys.Set.Tiles.map Tile.c)),.im (.sl false 3 (c.Sys.Seed.Tiles.map Ah.c)),.im (.int .i64 c.Sys.Temperature),.mp 1,.mp 2])),(1,(true,.map ⟨true,[.int .i64,.int .i64]⟩ (c1.Tl.map Em))),(2,(true,.map ⟨true,[.int .i64,.int .i64]⟩ (c1.Op.map Dd)))],4⟩,?_,by simp[ZG],by simp,?_⟩
   .simp only[Aw];simp only[ZA,simprocAttr,Br]
    try simp
   .simp only[ZA,simprocAttr,DT,growI.r0,Q]
  |some o=>
   by_cases Z:500<=b1.Tiles.length
   .have O:Gr l c1 b1 d.length= .tup [.agg [.int .i64 0,.int .i64 0,.int .i64 0],.tok 1]:=by simp only[Gr,z,ho];rw[Ak Z]
    have hnc:FJ l c1 b1 d.length=c1:=by simp only[FJ,z,ho];rw[Ak Z]
    have Q:FE l n c b []=(c1,b1,[],false):=by rw[<-e3,hm,FE,z,ho];simp only;rw[Ak Z]
    simp only[ZA,simprocAttr,F3,DL,DT,nxtC.H1,DT,Eo,G6,nxtC.r0,O,hnc,errIs.q,NN,Me];refine⟨[],[(3,some 7)],⟨[(6,.own 3),(7,.im (.bool false))],[(3,(true,.arr 72 3 (([]:List AD).map AD.c))),(0,(true,.cells 154 [.im (.sl false 2 (c.Sys.Set.Glues.map Am.c)),.im (.sl false 2 (c.Sys.Set.Tiles.map Tile.c)),.im (.sl false 3 (c.Sys.Seed.Tiles.map Ah.c)),.im (.int .i64 c.Sys.Temperature),.mp 1,.mp 2])),(1,(true,.map ⟨true,[.int .i64,.int .i64]⟩ (c1.Tl.map Em))),(2,(true,.map ⟨true,[.int .i64,.int .i64]⟩ (c1.Op.map Dd)))],4⟩,?_,by simp[ZG],by simp,?_⟩
    .simp only[Aw];simp only[ZA,simprocAttr,Br]
     try simp
    .simp only[ZA,simprocAttr,DT,growI.r0,Q]
   .have O:Gr l c1 b1 d.length= .tup [.agg (AD.c o),.nili]:=by simp only[Gr,z,ho];rw[Ad Z]
    have hnc:FJ l c1 b1 d.length=Hf c1 o.At o.Tile:=by simp only[FJ,z,ho];rw[Ad Z]
    have Q:FE l n c b []=FE l m (Hf c1 o.At o.Tile) (BJ b1 o.At o.Tile) (d++[o]):=by rw[<-e3,hm,FE,z,ho];simp only;rw[Ad Z]
    have ab:=e2.put (QF e2.2.2.2.1 ho) (by omega);simp only[ZA,simprocAttr,DL,DT,nxtC.H1,DT,Eo,G6,nxtC.r0,O,hnc,errIs.q,NN,Me];refine⟨by omega,⟨(Hf c1 o.At o.Tile,BJ b1 o.At o.Tile,d++[o]),by simp only;exact⟨by simp;omega,ab,by rw[Q,show n - (d++[o]).length=m by simp;omega]⟩⟩,[(5,some 8)],by simp;omega,?_⟩;simp only[Aw];simp only[ZA,simprocAttr,Br];simp[AD.c]
 .have Q:FE l n c b []=(c1,b1,d,true):=by rw[<-e3,show n - d.length=0 by omega,FE]
  refine⟨[],[(3,some 5)],⟨[(6,.own 3),(7,.im (.bool true))],[(3,(true,.arr 72 3 (d.map AD.c))),(0,(true,.cells 154 [.im (.sl false 2 (c.Sys.Set.Glues.map Am.c)),.im (.sl false 2 (c.Sys.Set.Tiles.map Tile.c)),.im (.sl false 3 (c.Sys.Seed.Tiles.map Ah.c)),.im (.int .i64 c.Sys.Temperature),.mp 1,.mp 2])),(1,(true,.map ⟨true,[.int .i64,.int .i64]⟩ (c1.Tl.map Em))),(2,(true,.map ⟨true,[.int .i64,.int .i64]⟩ (c1.Op.map Dd)))],4⟩,?_,by simp[ZG],by simp,?_⟩
  .simp only[Aw];simp only[ZA,simprocAttr,Br]
   try simp
  .simp only[ZA,simprocAttr,DT,growI.r0,Q]
 simp[growI.H1] at hp;rcases hp with rfl|rfl|rfl
 .exact .inl ⟨by omega,rfl,rfl⟩
 .exact .inl ⟨by omega,rfl,rfl⟩
 .exact .inr ⟨by omega,by omega,rfl,rfl⟩
def Xr{s:AG}{a:Af}(c1:EP s=true)(Q:E8 s.Set a=true):newC.pre (s,a)/\HE s a (Qe s a):=by
 obtain⟨⟨q1,q2,q3,_⟩,q5,_⟩:=QB c1;obtain⟨z,h4⟩:=HU Q;have O:=Qof (s:=s.Set) (a:=a) (by rw[q5,Q];rfl);have Z:1<=s.Temperature:=by
  simp only[EP,AW,AL,B3] at c1;exact c1.2.2.2.1.1
 exact⟨⟨q1,by simp only;omega,λy hy=>⟨z.2 y hy,O.1.2.2.2 y hy⟩⟩,rfl,⟨_,RM.of z.1 λx hx=>(z.2 x hx).1⟩,jD Z,z,h4,q1,Z,q3⟩
def Gm(w:List AD×Af×Int):Ao:=[(0,(true,.arr 72 3 (w.1.map AD.c))),(1,(true,.arr 97 3 (w.2.1.Tiles.map Ah.c)))]
def G9(w:List AD×Af×Int):AV:= .tup [.own 0,.agg [.own 1],.im (.int .i64 w.2.2)]
def KA(a:AG×List Int×Nat):List AD×Af×Int:=IW a.1 a.2.1 a.2.2 a.1.Seed []
def grnI.ca(a:AG×List Int×Nat):List AV:=[.im (.agg (AG.c a.1)),.im (.sl false 1 (a.2.1.map Aj)),.im (.int .i64 a.2.2)]
def grnI.H1(a:AG×List Int×Nat):Ao:=Gm (KA a)
def LW(j:Nat):Bool:=j==0||j==1
def grnI.row:Ay:=AA grnI.ca (λ_=>[]) 0 (λa=>EP a.1=true/\DZ a.2.1=true/\a.2.2<=501) (λ_=>false) (λa=>G9 (KA a)) grnI.H1 20
def grnI.ok:A9 59 grnI.row:=by
 refine Qr (tC newC.ok (tC growI.ok (tC asmCX.ok tN))) Tryz.func59 (exB:=LW) (R:=λa r=>r=G9 (KA a)) (λ_=>rfl)
  (λa=>by simp[grnI.ca,AG.c,AE,AV.bel,Au,BB,BU]) (λa p hp=> ?_) (λa r h=>by subst h;exact CN.refl _) ?_
 rotate_left
 intro a Q;simp only[Tryz.f59,grnI.ca,AG.c];simp only[ZA,simprocAttr];obtain⟨s,l,n⟩:=a;obtain⟨c1,hl,hn⟩:=Q;simp only at c1 hl hn⊢;have c2:=(QB c1).2.2;obtain⟨aa,O⟩:=Xr c1 c2;refine AA.os (s,s.Seed) [] aa (λj=>by simp[Al,hget]) rfl rfl ?_ ?_
 .simp only[ZA,simprocAttr,AG.c,newC.ca,CO,AG.c,Af.c]
 simp only[ZA,simprocAttr,newC.H1];obtain⟨w,hw⟩: ∃w,w=FE l n (Qe s s.Seed) s.Seed []:=⟨_,rfl⟩;have z:=LX (l:=l) n (Qe s s.Seed) s.Seed [] O;rw[<-hw] at z;refine AA.os (Qe s s.Seed,s.Seed,l,n) [7,5,6] ⟨O,hl,hn⟩ (λj=>JR _ j) rfl rfl ?_ ?_
 .simp only[ZA,simprocAttr,DL,growI.ca,BZ,C4,Eo,G6];exact⟨rfl,rfl,rfl,rfl⟩
 have hS:(Qe s s.Seed).Sys=s:=rfl;rcases z with ⟨g1,g2,g3⟩|⟨g1,g2,g3⟩
 .have hF:KA (s,l,n)=(w.2.2.1,w.2.1,0):=g2;obtain⟨e1,⟨kk,Z⟩,_,e4,e5,_⟩:=g3;simp only[ZA,simprocAttr,DL,growI.H1,DT,Eo,G6,growI.r0,<-hw,g1];refine AA.os w.1 [7,5,6] ⟨Z.nd,by have:=Z.size;omega⟩ (λj=>JR _ j) rfl rfl ?_ ?_
  .simp only[ZA,simprocAttr,DL,asmC.ca,BZ,C4,Eo,G6,e1]
   try exact⟨rfl,rfl,rfl⟩
  simp only[ZA,simprocAttr,F3,DL,asmCX.H1,klA,Eo,G6];have eT:(Xf w.1.Tl).Tiles=w.2.1.Tiles:=(CZ Af.Tiles Z.eq).symm;simp only[eT];refine⟨[],[(0,some 8),(1,some 28),(2,some 2)],⟨[(6,.own 0),(7,.ptr 2 0),(8,.im (.int .i64 0))],[(2,(true,.cells 38 [.own 1])),(0,(true,.arr 72 3 (w.2.2.1.map AD.c))),(1,(true,.arr 97 3 (w.2.1.Tiles.map Ah.c)))],3⟩,?_,by simp[ZG],by simp,?_⟩
  .simp only[Aw];simp only[ZA,simprocAttr,Br]
   try simp
  .simp only[ZA,simprocAttr,LW,G9,grnI.H1,Gm,hF]
   try simp
 .have hF:KA (s,l,n)=([],⟨[]⟩,4):=g3;simp only[ZA,simprocAttr,F3,DL,growI.H1,DT,Eo,G6,growI.r0,<-hw,g1,g2];refine⟨[],[(0,some 28),(1,none),(2,some 2)],⟨[(6,.own 0),(7,.ptr 2 0),(8,.im (.int .i64 4))],[(2,(true,.cells 38 [.own 1])),(0,(true,.arr 72 3 ([]))),(1,(true,.arr 97 3 ([])))],3⟩,?_,by simp[ZG],by simp,?_⟩
  .simp only[Aw];simp only[ZA,simprocAttr,Br,Qh]
   try simp
  .simp only[ZA,simprocAttr,LW,G9,grnI.H1,Gm,hF]
   try simp
 simp[grnI.H1,Gm] at hp;rcases hp with rfl|rfl
 .exact .inr ⟨by omega,by omega,rfl,rfl⟩
 .exact .inr ⟨by omega,by omega,rfl,rfl⟩
end Go.Ae
