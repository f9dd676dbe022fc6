/- Lemmas. Conditions: none. -/
import Derived.Test.YtogafbdeamcpnaaGreatDoorP12
import Derived.Shelf.SlSortCmp.WholeK
import Derived.Shelf.SlicesG.Cmp
import Derived.StillTailTactics
import Derived.Lib.Small
import Derived.Lib.Walk
import Derived.Shelf.SlSortCmp.NoneTotal
set_option linter.all false
set_option maxHeartbeats 8000000
set_option maxRecDepth 100000
namespace Go.Proofs
open Go.Shelf
def Tryz.sortPl_ren:Go.Shelf.Ren:=⟨λ|6=>159|15=>200|14=>199|28=>233|29=>234|20=>225|21=>226|22=>227|23=>228|24=>229|25=>230|26=>231|27=>232|46=>257|47=>258|48=>259|49=>260|50=>261|57=>281|n=>n,λ|22=>37|24=>137|25=>221|3=>3|39=>247|0=>0|53=>312|55=>314|4=>4|46=>306|45=>305|50=>189|5=>5|9=>9|66=>336|70=>340|76=>362|77=>363|n=>n,λ|n=>n⟩
def Tryz.sortPl:Go.Proofs.SlLaysF0.n6 Tryz.prog Tryz.sortPl_ren:={
 mixed:=by kernel_rfl
 f6:=⟨Tryz.f159.name,by decide,Tryz.func159.trans (CU some (by kernel_rfl))⟩
 f14:=⟨Tryz.f199.name,by decide,Tryz.func199.trans (CU some (by kernel_rfl))⟩
 f15:=Tryz.func200.trans (CU some (by kernel_rfl))
 f20:=⟨Tryz.f225.name,by decide,Tryz.func225.trans (CU some (by kernel_rfl))⟩
 f21:=⟨Tryz.f226.name,by decide,Tryz.func226.trans (CU some (by kernel_rfl))⟩
 f22:=⟨Tryz.f227.name,by decide,Tryz.func227.trans (CU some (by kernel_rfl))⟩
 f23:=⟨Tryz.f228.name,by decide,Tryz.func228.trans (CU some (by kernel_rfl))⟩
 f24:=⟨Tryz.f229.name,by decide,Tryz.func229.trans (CU some (by kernel_rfl))⟩
 f25:=⟨Tryz.f230.name,by decide,Tryz.func230.trans (CU some (by kernel_rfl))⟩
 f26:=⟨Tryz.f231.name,by decide,Tryz.func231.trans (CU some (by kernel_rfl))⟩
 f27:=⟨Tryz.f232.name,by decide,Tryz.func232.trans (CU some (by kernel_rfl))⟩
 f28:=Tryz.func233.trans (CU some (by kernel_rfl))
 f29:=Tryz.func234.trans (CU some (by kernel_rfl))
 f46:=⟨Tryz.f257.name,by decide,Tryz.func257.trans (CU some (by kernel_rfl))⟩
 f47:=Tryz.func258.trans (CU some (by kernel_rfl))
 f48:=Tryz.func259.trans (CU some (by kernel_rfl))
 f49:=⟨Tryz.f260.name,by decide,Tryz.func260.trans (CU some (by kernel_rfl))⟩
 f50:=⟨Tryz.f261.name,by decide,Tryz.func261.trans (CU some (by kernel_rfl))⟩
 f57:=⟨Tryz.f281.name,by decide,Tryz.func281.trans (CU some (by kernel_rfl))⟩
 t0:=Tryz.underlying0
 a0:=Tryz.isAgg0
 z0:=Tryz.sizeOf0
 v0:=Tryz.zeroValue0
 t3:=Tryz.underlying3
 a3:=Tryz.isAgg3
 z3:=Tryz.sizeOf3
 v3:=Tryz.zeroValue3
 t4:=Tryz.underlying4
 a4:=Tryz.isAgg4
 z4:=Tryz.sizeOf4
 v4:=Tryz.zeroValue4
 t5:=Tryz.underlying5
 a5:=Tryz.isAgg5
 z5:=Tryz.sizeOf5
 v5:=Tryz.zeroValue5
 t9:=Tryz.underlying9
 a9:=Tryz.isAgg9
 z9:=Tryz.sizeOf9
 v9:=Tryz.zeroValue9
 t22:=Tryz.underlying37
 a22:=Tryz.isAgg37
 z22:=Tryz.sizeOf37
 v22:=Tryz.zeroValue37
 t25:=Tryz.underlying221
 a25:=Tryz.isAgg221
 z25:=Tryz.sizeOf221
 v25:=Tryz.zeroValue221
 t39:=Tryz.underlying247
 a39:=Tryz.isAgg247
 z39:=Tryz.sizeOf247
 v39:=Tryz.zeroValue247
 t45:=Tryz.underlying305
 a45:=Tryz.isAgg305
 z45:=Tryz.sizeOf305
 v45:=Tryz.zeroValue305
 t46:=Tryz.underlying306
 a46:=Tryz.isAgg306
 z46:=Tryz.sizeOf306
 v46:=Tryz.zeroValue306
 t50:=Tryz.underlying189
 a50:=Tryz.isAgg189
 z50:=Tryz.sizeOf189
 v50:=Tryz.zeroValue189
 t53:=Tryz.underlying312
 a53:=Tryz.isAgg312
 z53:=Tryz.sizeOf312
 v53:=Tryz.zeroValue312
 t55:=Tryz.underlying314
 a55:=Tryz.isAgg314
 z55:=Tryz.sizeOf314
 v55:=Tryz.zeroValue314
 t66:=Tryz.underlying336
 a66:=Tryz.isAgg336
 z66:=Tryz.sizeOf336
 v66:=Tryz.zeroValue336
 t70:=Tryz.underlying340
 a70:=Tryz.isAgg340
 z70:=Tryz.sizeOf340
 v70:=Tryz.zeroValue340
 t76:=Tryz.underlying362
 a76:=Tryz.isAgg362
 z76:=Tryz.sizeOf362
 v76:=Tryz.zeroValue362
 t77:=Tryz.underlying363
 a77:=Tryz.isAgg363
 z77:=Tryz.sizeOf363
 v77:=Tryz.zeroValue363}
def Tryz.sortPt_ren:Go.Shelf.Ren:=⟨λ|6=>223|15=>200|14=>256|28=>233|29=>234|20=>273|21=>274|22=>275|23=>276|24=>277|25=>278|26=>279|27=>280|46=>291|47=>258|48=>259|49=>292|50=>293|57=>297|n=>n,λ|22=>50|24=>96|25=>220|3=>3|39=>247|0=>0|53=>312|55=>314|4=>4|46=>306|45=>305|50=>189|5=>5|9=>9|66=>336|70=>340|76=>362|77=>363|n=>n,λ|n=>n⟩
def Tryz.sortPt:Go.Proofs.SlLaysF0.n6 Tryz.prog Tryz.sortPt_ren:={
 mixed:=by kernel_rfl
 f6:=⟨Tryz.f223.name,by decide,Tryz.func223.trans (CU some (by kernel_rfl))⟩
 f14:=⟨Tryz.f256.name,by decide,Tryz.func256.trans (CU some (by kernel_rfl))⟩
 f15:=Tryz.func200.trans (CU some (by kernel_rfl))
 f20:=⟨Tryz.f273.name,by decide,Tryz.func273.trans (CU some (by kernel_rfl))⟩
 f21:=⟨Tryz.f274.name,by decide,Tryz.func274.trans (CU some (by kernel_rfl))⟩
 f22:=⟨Tryz.f275.name,by decide,Tryz.func275.trans (CU some (by kernel_rfl))⟩
 f23:=⟨Tryz.f276.name,by decide,Tryz.func276.trans (CU some (by kernel_rfl))⟩
 f24:=⟨Tryz.f277.name,by decide,Tryz.func277.trans (CU some (by kernel_rfl))⟩
 f25:=⟨Tryz.f278.name,by decide,Tryz.func278.trans (CU some (by kernel_rfl))⟩
 f26:=⟨Tryz.f279.name,by decide,Tryz.func279.trans (CU some (by kernel_rfl))⟩
 f27:=⟨Tryz.f280.name,by decide,Tryz.func280.trans (CU some (by kernel_rfl))⟩
 f28:=Tryz.func233.trans (CU some (by kernel_rfl))
 f29:=Tryz.func234.trans (CU some (by kernel_rfl))
 f46:=⟨Tryz.f291.name,by decide,Tryz.func291.trans (CU some (by kernel_rfl))⟩
 f47:=Tryz.func258.trans (CU some (by kernel_rfl))
 f48:=Tryz.func259.trans (CU some (by kernel_rfl))
 f49:=⟨Tryz.f292.name,by decide,Tryz.func292.trans (CU some (by kernel_rfl))⟩
 f50:=⟨Tryz.f293.name,by decide,Tryz.func293.trans (CU some (by kernel_rfl))⟩
 f57:=⟨Tryz.f297.name,by decide,Tryz.func297.trans (CU some (by kernel_rfl))⟩
 t0:=Tryz.underlying0
 a0:=Tryz.isAgg0
 z0:=Tryz.sizeOf0
 v0:=Tryz.zeroValue0
 t3:=Tryz.underlying3
 a3:=Tryz.isAgg3
 z3:=Tryz.sizeOf3
 v3:=Tryz.zeroValue3
 t4:=Tryz.underlying4
 a4:=Tryz.isAgg4
 z4:=Tryz.sizeOf4
 v4:=Tryz.zeroValue4
 t5:=Tryz.underlying5
 a5:=Tryz.isAgg5
 z5:=Tryz.sizeOf5
 v5:=Tryz.zeroValue5
 t9:=Tryz.underlying9
 a9:=Tryz.isAgg9
 z9:=Tryz.sizeOf9
 v9:=Tryz.zeroValue9
 t22:=Tryz.underlying50
 a22:=Tryz.isAgg50
 z22:=Tryz.sizeOf50
 v22:=Tryz.zeroValue50
 t25:=Tryz.underlying220
 a25:=Tryz.isAgg220
 z25:=Tryz.sizeOf220
 v25:=Tryz.zeroValue220
 t39:=Tryz.underlying247
 a39:=Tryz.isAgg247
 z39:=Tryz.sizeOf247
 v39:=Tryz.zeroValue247
 t45:=Tryz.underlying305
 a45:=Tryz.isAgg305
 z45:=Tryz.sizeOf305
 v45:=Tryz.zeroValue305
 t46:=Tryz.underlying306
 a46:=Tryz.isAgg306
 z46:=Tryz.sizeOf306
 v46:=Tryz.zeroValue306
 t50:=Tryz.underlying189
 a50:=Tryz.isAgg189
 z50:=Tryz.sizeOf189
 v50:=Tryz.zeroValue189
 t53:=Tryz.underlying312
 a53:=Tryz.isAgg312
 z53:=Tryz.sizeOf312
 v53:=Tryz.zeroValue312
 t55:=Tryz.underlying314
 a55:=Tryz.isAgg314
 z55:=Tryz.sizeOf314
 v55:=Tryz.zeroValue314
 t66:=Tryz.underlying336
 a66:=Tryz.isAgg336
 z66:=Tryz.sizeOf336
 v66:=Tryz.zeroValue336
 t70:=Tryz.underlying340
 a70:=Tryz.isAgg340
 z70:=Tryz.sizeOf340
 v70:=Tryz.zeroValue340
 t76:=Tryz.underlying362
 a76:=Tryz.isAgg362
 z76:=Tryz.sizeOf362
 v76:=Tryz.zeroValue362
 t77:=Tryz.underlying363
 a77:=Tryz.isAgg363
 z77:=Tryz.sizeOf363
 v77:=Tryz.zeroValue363}
def Tryz.cmpI64_ren:Go.Shelf.Ren:=⟨λ|5=>202|7=>235|n=>n,λ|22=>2|3=>3|4=>4|n=>n,λ|n=>n⟩
def Tryz.cmpI64:Go.Proofs.SlLaysC2.n5 Tryz.prog Tryz.cmpI64_ren:={
 mixed:=by kernel_rfl
 f5:=⟨Tryz.f202.name,by decide,Tryz.func202.trans (CU some (by kernel_rfl))⟩
 f7:=⟨Tryz.f235.name,by decide,Tryz.func235.trans (CU some (by kernel_rfl))⟩
 t3:=Tryz.underlying3
 a3:=Tryz.isAgg3
 z3:=Tryz.sizeOf3
 v3:=Tryz.zeroValue3
 t4:=Tryz.underlying4
 a4:=Tryz.isAgg4
 z4:=Tryz.sizeOf4
 v4:=Tryz.zeroValue4
 t22:=Tryz.underlying2
 a22:=Tryz.isAgg2
 z22:=Tryz.sizeOf2
 v22:=Tryz.zeroValue2}
end Go.Proofs
namespace Go.Proofs
open Go.Shelf Go.RowKit Go.Lib Go.Sort
def Tryz.cmp64(x y:Int)(W:World):Calls Tryz.prog 202 #[.int .i64 x,.int .i64 y] W λe w'=>e= .returned (.int .i64 (Lib.compareInt x y))/\w'=W:=
 AnyG.cmp_Compare_int Tryz.cmpI64 x y W
def Tryz.orTwo(b:Nat)(x y:Int)(W:World)(h0:W.cell? ⟨b,0,none⟩=some (.int .i64 x))(z:W.cell? ⟨b,1,none⟩=some (.int .i64 y)):
 Calls Tryz.prog 201 #[.slice (some ⟨b,0,none⟩) 2 2] W λe w'=>e= .returned (.int .i64 (if x=0 then y else x))/\w'=W:=by
 go_enter Tryz.func201,Tryz.ntmps201
 go_wp2
 refine wp_loop_rounds 3 ?_;rw[rounds_succ]
 go_wp2
 all_goals (try rw[rounds_succ])
 all_goals (try go_wp2)
 all_goals (try rw[rounds_succ])
 all_goals (try go_wp2)
 all_goals (go_ret;refine⟨?_,rfl⟩;simp_all)
def PQ(W:World)(a b a' b':Value)(T:TypeId):
 let z:=((W.alloc (Obj.cells #[a,b] T)).alloc (Obj.cells #[a',b'] T)).drew
 z.cell? ⟨W.heap.size,0,none⟩=some a/\z.cell? ⟨W.heap.size,1,none⟩=some b/\z.cell? ⟨W.heap.size+1,0,none⟩=some a'/\z.cell? ⟨W.heap.size+1,1,none⟩=some b'/\
  ∃G,z=grow (W.drewN 1) G:=by
 have e:((W.alloc (Obj.cells #[a,b] T)).alloc (Obj.cells #[a',b'] T)).drew=grow (W.drewN 1) #[Obj.cells #[a,b] T,Obj.cells #[a',b'] T]:=by
  rw[alloc_eq_grow,alloc_eq_grow,grow_grow];rfl
 have h0:(W.heap++ #[Obj.cells #[a,b] T,Obj.cells #[a',b'] T])[W.heap.size]? =some (Obj.cells #[a,b] T):=by
  rw[Zeg (AQ _),Hi];rfl
 have O:(W.heap++ #[Obj.cells #[a,b] T,Obj.cells #[a',b'] T])[W.heap.size+1]? =some (Obj.cells #[a',b'] T):=by
  rw[Zeg (Nat.le_succ _),show W.heap.size.succ - W.heap.size=1 by omega];rfl
 simp only[e];refine⟨?_,?_,?_,?_,_,rfl⟩<;>unfold World.cell? <;>simp only[grow,World.drewN,h0,O]<;>rfl
def Qvb(w:World)(a b:Value)(T:TypeId):(w.alloc (Obj.cells #[a,b] T)).cell? ⟨w.heap.size,0,none⟩=some a/\(w.alloc (Obj.cells #[a,b] T)).cell? ⟨w.heap.size,1,none⟩=some b:=by
 have h0:(w.heap.push (Obj.cells #[a,b] T))[w.heap.size]? =some (Obj.cells #[a,b] T):=by simp
 constructor<;>unfold World.cell? <;>simp only[World.alloc,h0]<;>rfl
def I4(p q:Int×Int):Int:=if Lib.compareInt p.2 q.2=0 then Lib.compareInt p.1 q.1 else Lib.compareInt p.2 q.2
def Tryz.cmpPoints(x y x' y':Int)(W:World):Calls Tryz.prog 161 #[.agg #[.int .i64 x,.int .i64 y],.agg #[.int .i64 x',.int .i64 y']] W λe w'=>
 e= .returned (.int .i64 (I4 (x,y) (x',y')))/\ ∃q Q,w'=grow (W.drewN q) Q:=by
 have z:=λW'=>Tryz.cmp64 y y' W'
 have G:=λW'=>Tryz.cmp64 x x' W'
 unfold I4;simp only;generalize Lib.compareInt y y'=r1 at z⊢;generalize Lib.compareInt x x'=r2 at G⊢;have O:=λ(b:Nat) W'=>Tryz.orTwo b r1 r2 W'
 generalize (if r1=0 then r2 else r1)=r at O⊢
 go_enter Tryz.func161,Tryz.ntmps161
 go_wp2
 refine wp_region_still_tail 10 (by kernel_rfl) (by kernel_rfl) ?_;simp only[Lr,Rq,Qp,Hh];obtain⟨d1,d2,d3,d4,Z⟩:=PQ W (.int .i64 x) (.int .i64 y) (.int .i64 x') (.int .i64 y') 96;change wpStill _ _ ((W.alloc (Obj.cells #[Value.int IntKind.i64 x,Value.int IntKind.i64 y] 96)).alloc (Obj.cells #[Value.int IntKind.i64 x',Value.int IntKind.i64 y'] 96)).drew (λa'=>wpList _ _ _ _ a' ((W.alloc (Obj.cells #[Value.int IntKind.i64 x,Value.int IntKind.i64 y] 96)).alloc (Obj.cells #[Value.int IntKind.i64 x',Value.int IntKind.i64 y'] 96)).drew) _ _;generalize ((W.alloc (Obj.cells #[Value.int IntKind.i64 x,Value.int IntKind.i64 y] 96)).alloc (Obj.cells #[Value.int IntKind.i64 x',Value.int IntKind.i64 y'] 96)).drew=w3 at d1 d2 d3 d4 Z⊢
 still_step
 still_step
 still_step
 still_step
 still_call (z _)
 still_step
 still_step
 still_step
 still_step
 still_call (G _)
 refine wpStill_nil ?_
 go_wp2_with (go_at_call 201;refine (O _ _ (Qvb _ _ _ _).1 (Qvb _ _ _ _).2).mono ?_;rintro e w' ⟨rfl,rfl⟩)
 go_ret
 obtain⟨aa,rfl⟩:=Z;exact⟨rfl,1,_,by rw[alloc_eq_grow,grow_grow]⟩
def Tryz.cmpPlaced90(x y t x' y' t':Int)(W:World):Calls Tryz.prog 160 #[.agg #[.int .i64 x,.int .i64 y,.int .i64 t],.agg #[.int .i64 x',.int .i64 y',.int .i64 t']] W λe w'=>
 e= .returned (.int .i64 (I4 (x,y) (x',y')))/\ ∃q G,w'=grow (W.drewN q) G:=by
 have z:=λW'=>Tryz.cmpPoints x y x' y' W'
 generalize I4 (x,y) (x',y')=r at z⊢
 go_enter Tryz.func160,Tryz.ntmps160
 go_wp2_with (go_at_call 161;refine (z _).mono ?_;rintro e w' ⟨rfl,q,G,rfl⟩)
 go_ret
 exact⟨rfl,q,_,by rw[alloc_eq_grow,alloc_eq_grow,grow_grow];show grow (grow (W.drewN q) _) G=_;rw[grow_grow]⟩
end Go.Proofs
namespace Go.Ae
open Go.Proofs Go.Sort Go.Shelf
instance:Inhabited Al:=⟨⟨⟨0,0⟩,0⟩⟩
def CV(x:Al):List Value:=[.int .i64 x.At.X,.int .i64 x.At.Y,.int .i64 x.Tile]
def cfP(x y:Al):Int:=I4 (x.At.X,x.At.Y) (y.At.X,y.At.Y)
def Qz0(x y:Al):ltOf cfP x y=Bt x.At y.At:=by
 simp only[ltOf,cfP,I4,Lib.compareInt,Bt]
 grind
def swoP:SWO (ltOf cfP) where
 irrefl x:=by rw[Qz0];simp only[Bt];grind
 trans x y z h1 h2:=by rw[Qz0] at*;simp only[Bt] at*;grind
 ntrans x y z h1 h2:=by rw[Qz0] at*;simp only[Bt] at*;grind
def EX(l:List Al):List Al:=l.foldr (λx r=>Ed x.At x.Tile r) []
def lZ(x:Al): ∀(l:List Al),(Ed x.At x.Tile l).Perm (x::l)
 |[]=>gL _
 |y::r=>by
  simp only[Ed];split
  .exact gL _
  .exact ((lZ x r).cons y).trans (List.Perm.swap x y r)
def Z2: ∀(l:List Al),(EX l).Perm l
 |[]=>gL _
 |x::r=>(lZ x (EX r)).trans ((Z2 r).cons x)
def Quq{a b c:Ab}(z:Bt a b=true)(G:Bt c b=false):Bt c a=false:=by
 simp only[Bt] at*;grind
def Qx3(x:Al): ∀(l:List Al),l.Pairwise (λa b=>Bt b.At a.At=false)->(Ed x.At x.Tile l).Pairwise (λa b=>Bt b.At a.At=false)
 |[],_=>by simp[Ed]
 |y::r,h=>by
  rw[VM] at h;simp only[Ed];split
  .rename_i O;rw[VM,VM];refine⟨λz G=> ?_,h⟩;have Q:Bt y.At x.At=false:=by simp only[Bt] at*;grind
   rcases Bm.1 G with rfl|G
   .exact Q
   .have:=h.1 z G
    exact Quq O this
  .rename_i O;rw[VM];refine⟨λz G=> ?_,Qx3 x r h.2⟩;rcases (tK _ _ _ _).1 G with rfl|G
   .simpa using O
   .exact h.1 z G
def tR: ∀(l:List Al),(EX l).Pairwise (λa b=>Bt b.At a.At=false)
 |[]=>List.Pairwise.nil
 |x::r=>Qx3 x _ (tR r)
def oV(l:List Al):(EX l).length=l.length:=(Z2 l).length_eq
def R0{l:List Al}(h:(l.map Al.At).Nodup){x y:Al}(Z:x∈l)(hy:y∈l)(Q:x.At=y.At):x=y:=by
 induction l with
 |nil=>cases Z
 |cons z r ih=>
  rw[Bd,Ir] at h;rcases Bm.1 Z with G|G<;>rcases Bm.1 hy with O|O
  .rw[G,O]
  .exact absurd (show z.At∈r.map Al.At by rw[<-G,Q];exact vT O) h.1
  .exact absurd (show z.At∈r.map Al.At by rw[<-O,<-Q];exact vT G) h.1
  .exact ih h.2 G O
def tP{l l':List Al}(hd:(l.map Al.At).Nodup)(hp:l'.Perm l)(hs:l'.Pairwise (λa b=>Bt b.At a.At=false)):l'=EX l:=by
 refine ZeF (le:=λa b=>Bt b.At a.At=false) (λa b Z hb O Q=> ?_) hs (tR l) (hp.trans (Z2 l).symm);refine R0 hd (hp.mem_iff.1 Z) ((Z2 l).mem_iff.1 hb) ?_;revert O Q;obtain⟨⟨ax,ay⟩,z⟩:=a;obtain⟨⟨bx,G⟩,bt⟩:=b;simp only[Bt,Ab.mk.injEq]
 grind
def Sm(l:List Al):List Value:=l.flatMap CV
def LL(l:List Al):(Sm l).length=l.length*3:=by
 induction l with
 |nil=>rfl
 |cons x r ih=>simp only[Sm,GG,Dq,CP] at ih⊢;rw[ih];simp[CV];omega
def Ql5{ok:Nat->Prop}{hp:Nat->Option Obj}: ∀(l:List Al) (L:List Value),rdr ok hp 3 (l.map Al.c) L↔ ∃r,L=Sm l++r
 |[],L=>by simp[rdr,Sm]
 |x::r,L=>by
  simp only[Bd,rdr,Ql5 r,Al.c,rdp,rd,Sm,GG];constructor
  .rintro⟨_,⟨v,z,rfl,rfl,Q,G,rfl,rfl,Z,O,rfl,rfl,_⟩,q,hq⟩;exact⟨q,by simp only[Qp,Hh] at hq;rw[hq];rfl⟩
  .rintro⟨q,rfl⟩;exact⟨rfl,⟨_,_,rfl,rfl,_,_,rfl,rfl,_,_,rfl,rfl,trivial⟩,q,rfl⟩
def LK: ∀(l:List Al) (t:Nat),t<l.length*3->(Sm l)[t]? =some ((CV (l[t/3]?.getD default))[t % 3]!)
 |[],t,h=>by simp at h
 |x::r,t,h=>by
  by_cases O:t<3
  .have:t=0\/t=1\/t=2:=by omega
   rcases this with rfl|rfl|rfl<;>simp[Sm,CV]
  .obtain⟨u,rfl⟩: ∃u,t=u+3:=⟨t - 3,by omega⟩;have z:(u+3)/3=u/3+1:=by omega
   have G:(u+3) % 3=u % 3:=by omega
   have ih:=LK r u (by simp at h;omega);rw[z,G,HJ,<-ih];simp[Sm,CV]
def Qvu(l:List Al):(flatK CV 3 l.toArray).toList=Sm l:=by
 apply Kr;intro t;by_cases z:t<l.length*3
 .rw[LK l t z];have G:t<(flatK CV 3 l.toArray).size:=by simp only[size_flatK,Om];exact z
  have O:=get_flatK CV 3 l.toArray t (by simpa using z);rw[Hc,J8 G,<-getElem!_pos (flatK CV 3 l.toArray) t G,O];congr 3;simp[getElem!_def];cases l[t/3]? <;>rfl
 .have a1:(flatK CV 3 l.toArray).toList.length<=t:=by rw[EJ,size_flatK,Om];omega
  have a2:(Sm l).length<=t:=by rw[LL];omega
  rw[FG a1,FG a2]
def srt.ca(_:List Al):List AV:=[.own 0,.im (.fn 160 [] [])]
def srt.H0(a:List Al):Av:=[(0,(true,.arr 137 3 (a.map Al.c)))]
def srt.H1(a:List Al):Av:=[(0,(true,.arr 137 3 ((EX a).map Al.c)))]
def srt.row:AA:=AE srt.ca srt.H0 1 (λa=>(a.map Al.At).Nodup) (λ_=>true) (λ_=> .im (.tup [])) srt.H1 0
def srt.ok:AB Tryz.prog 159 srt.row:=by
 rintro args h nx K ⟨a,τ,U,KL,a0,rfl,O,hN,hK⟩;refine⟨Oa (by kernel_rfl),_,_,?_,hK⟩;intro C S vs R hW a9 bb bc aa aw;have ao:Cm τ 1 nx 0=τ 0:=An (by omega);simp only[srt.ca,AL,AV.ren,ao,AN,Aa,rd,rdl] at aa;obtain⟨v0,r0,hv,⟨ad,ai⟩,v1,r1,bi,⟨ac,cc,bl,aj,ak⟩,bj⟩:=aa;have aj:ac= #[]:=by apply Oo;simpa using aj
 have ak:cc= #[]:=by apply Oo;simpa using ak
 subst aj ak bj bi bl;have bm:vs= #[v0,.func (VR 160) #[] #[]]:=by apply Oo;simpa using hv
 subst bm;have hm:h (τ 0)=some (true,.arr 137 3 (a.map Al.c)):=by
  have:=O.1
  rwa [ao] at this
 have av:Ao (srt.H0 a) 0=true:=rfl;have Q:S.h (τ 0)=some (true,.arr 137 3 (a.map Al.c)):=by
  rw[a9 (τ 0) (Kv _ (hN.u 0 av)),hm]
 have ax: ∀n,n∈KL↔n=τ 0:=by
  intro n;constructor
  .intro hn;obtain⟨j,h1,_,h3⟩:=hN.k1 n hn
   have:j=0:=by
    simp only[Ao,srt.H0,hget] at h1;by_cases hj:j=0
    .exact hj
    .have:(0==j)=false:=by simpa using λh=>hj h.symm
     rw[this] at h1;cases h1
   rw[h3,this]
  .rintro rfl;exact hN.k2 0 av rfl
 obtain⟨m,hmm⟩: ∃m,m=τ 0:=⟨_,rfl⟩;rw[<-hmm] at Q ai ax;have aq:=oV a;have fin: ∀(w':World),J3 S m (.arr 137 3 ((EX a).map Al.c)) (S.ρ m) [m] w'->
  (B3 (λn=>S.h m≠none\/n≠m) S (S.one m (.arr 137 3 ((EX a).map Al.c)) (S.ρ m) [m] w')->Aw (S.one m (.arr 137 3 ((EX a).map Al.c)) (S.ρ m) [m] w') (S.ρ m) (.arr 137 3 ((EX a).map Al.c)))->R (.returned (.tuple #[])) w':=by
  intro w' ad bh;have hp:=eI hW ad;refine aw (.tuple #[]) _ (mE hW ad (bh hp)) ?_ ⟨hp.ok,λn _=>hp.nm n (.inl (by rw[Q];simp))⟩ ⟨#[],rfl,rfl⟩;funext n;simp only[A9.one,Br.appf,srt.H1,AY,ao,hget,Ad.ren,<-hmm];by_cases hn:n=m
  .subst hn;simp
  .have h1:(m==n)=false:=by simpa using λh=>hn h.symm
   have h2:KL.contains n=false:=by
    rw[<-Lv,HK,ax];exact hn
   simp only[h1,BC,h2,hn,CK,BK]
 have z:=ai _ Q;have Z:=hW.obj _ _ Q;have az:=λG=>hW.loc m _ G Q
 cases hρ:S.ρ m with
 |none=>
  rw[hρ] at z Z;simp only[Aw] at Z;have ha:a=[]:=by simpa using Z.2
  subst ha;simp only at z;rw[z,Xc (by decide)];refine (AnyF.slices_SortFunc_none Tryz.sortPl none 0 (.func (.func 160) #[] #[]) S.w).mono ?_;rintro e w' ⟨rfl,rfl⟩;refine fin S.w (bY Q (λl hl=>by rw[hρ] at hl;cases hl) rfl rfl) (λ_=> ?_);rw[hρ];exact⟨Cz _,rfl⟩
 |some G=>
  rw[hρ] at z Z;simp only[Aw,Ad.len] at Z z;obtain⟨g1,g2,cv,g3,g4,g5⟩:=Z;obtain⟨an,bo⟩:=az G hρ;rw[Ql5] at g5;obtain⟨ba,g5⟩:=g5;simp only[He] at g1 g2 z;have O:S.w.heap[G.b]? =some (.cells cv 137 (0,0)):=g3;have bn:G.p+a.length*3<=cv.size:=by omega
  have hF:(flatK CV 3 a.toArray).size=a.length*3:=by simp
  have hget: ∀j,j<a.length*3->cv[G.p+j]? =some ((flatK CV 3 a.toArray)[j]!):=by
   intro j hj;have h1:(cv.toList.drop G.p)[j]? =(Sm a++ba)[j]? :=by rw[g5]
   rw[Iv,Hc,ED (by rw[LL];exact hj),<-Qvu,Hc] at h1;rw[h1,J8 (by rw[hF];exact hj),getElem!_pos _ _ (by rw[hF];exact hj)]
  have hH:HoldsK CV 3 S.w G.b G.p a.toArray:=by
   intro j hj;rw[hF] at hj;refine⟨?_,?_⟩
   .simp only[World.cell?,O,aE,Df,CK,id];exact hget j hj
   .simp only[World.frozen?,O];simp
  have hc:=AnyQ.slices_SortFunc Tryz.sortPl 3 Tryz.isAgg137 Tryz.sizeOf137 CV (λ_=>rfl) (λx v hv=>by simp[CV] at hv;rcases hv with rfl|rfl|rfl<;>rfl) cfP swoP 160 #[] G.b G.p G.cap a.toArray S.w
   (sM (Oa (by kernel_rfl))) (λm os dk hs x y=>Tryz.cmpPlaced90 _ _ _ _ _ _ _) hH an (by simp only[Om,Lc] at g1⊢;omega)
  rw[z,Xc (by decide)];refine hc.mono ?_;rintro e w' ⟨rfl,d',n,os,af,au,rfl⟩;have a8:d'.size=a.length:=af.1;have bf:d'.toList=EX a:=by
   refine tP a0 ?_ ?_
   .have:=af.2.2
    rwa [show d'.extract 0 a.toArray.size=d' by rw[Om,<-a8];exact vU,show a.toArray.extract 0 a.toArray.size=a.toArray from vU] at this
   .rw[Zdh];intro i j hi hj bg
    have:=au i j (Cz _) bg (by rw[Om,<-a8];simpa using hj)
    rw[Qz0,getElem!_pos d' i (by simpa using hi),getElem!_pos d' j (by simpa using hj)] at this;simpa using this
  obtain rfl:d'=(EX a).toArray:=by apply Oo;rw[bf]
  have ah:(flatK CV 3 (EX a).toArray).size=a.length*3:=by simp[aq]
  have am:(flatK CV 3 (EX a).toArray).toList.length=a.length*3:=by rw[EJ,ah]
  have ag:S.w.heap.size<=(sortWorldK CV 3 S.w G.b G.p n (EX a).toArray os).heap.size:=by
   simp[sortWorldK,grow,putRowK,Sort.ahead]
  have hb: ∀b,b<S.w.heap.size->(sortWorldK CV 3 S.w G.b G.p n (EX a).toArray os).heap[b]? =if G.b=b then S.w.heap[b]?.map (onCells (putCells id G.p (flatK CV 3 (EX a).toArray))) else S.w.heap[b]? :=by
   intro b hb;have e0:b<(putRowK CV 3 (Sort.ahead S.w n) G.b G.p (EX a).toArray).heap.size:=by simpa[putRowK,Sort.ahead] using hb
   simp only[sortWorldK,grow];rw[ZdG e0];simp only[putRowK,putRow,mapBlock,Sort.ahead,ZdZ]
  refine fin _ ⟨rfl,rfl,rfl,ag,?_,.inl (by simp),?_,?_,?_⟩ ?_
  .intro b bd be;rw[hb b bd,Af (be m _ G (by simp) Q hρ)]
  .intro lo ay;rw[hρ] at ay;obtain rfl:=AD ay;exact⟨Gr an ag,.inr ⟨m,_,G,by simp,Q,hρ,rfl⟩⟩
  .intro f hf;rw[Q] at hf;obtain rfl:=AD hf;exact⟨rfl,rfl,by simp[Ad.len,aq]⟩
  .intro n' f _ ab;rw[Q] at ab;cases ab
  .intro _;rw[hρ];simp only[Aw,He,aq];refine⟨g1,g2,putCells id G.p (flatK CV 3 (EX a).toArray) cv,?_,by simpa[putCells] using g4,?_⟩
   .simp only[A9.one,A9.hp];rw[hb G.b an,An rfl,O];rfl
   .rw[Ql5];refine⟨(cv.toList.drop (G.p+a.length*3)),?_⟩;apply Kr;intro t;rw[Iv,Hc,putCells,ZeL,ah,<-Qvu];by_cases ht:t<a.length*3
    .rw[ED (by rw[am];exact ht),Hc,J8 (show G.p+t<cv.size by omega),J8 (by rw[ah];exact ht)];simp only[CQ,id];rw[An ⟨by omega,by omega⟩,vJ,getElem!_pos _ _ (by rw[ah];exact ht)]
    .rw[F4 (by rw[am];omega),am,Iv,Hc,show G.p+a.length*3+(t - a.length*3)=G.p+t by omega];cases cv[G.p+t]? with
     |none=>rfl
     |some x=>simp only[CQ];rw[Af (by omega)]
end Go.Ae
namespace Go.Ae
open Go.Proofs
def asmOf.fv(a:(List Al)):Ak:=(λl=>⟨EX l⟩) a
def asmOf.row:AA:=vK (b1 (qS Al.d_le Al.c_n)) (rA Ak.d_le) (λa=>(a.map Al.At).Nodup/\a.length<=1000000) asmOf.fv
def asmOf.q:=AT (R:=asmOf.row) rfl
def asmOf.ok:AB Tryz.prog 111 asmOf.row:=by
 refine vw (tC clonC.ok (tC srt.ok tN)) Tryz.func111 rfl (by kernel_rfl) ?_;intro a z;simp only[Tryz.f111];simp(disch:=omega)only[ZA,simprocAttr,asmOf.fv];refine AE.os a [] z.2 (λj=>by simp[Ao,hget]) rfl rfl ?_ ?_
 .simp(disch:=omega)only[ZA,simprocAttr,clonC.ca,CO]
 simp(disch:=omega)only[ZA,simprocAttr,clonC.H1];refine AE.os a [1] z.1 (λj=> ?_) rfl rfl ?_ ?_
 .simp only[Ao,srt.H0,hget];by_cases G:j=0
  .subst G;simp
  .have:(0==j)=false:=by simpa using λh=>G h.symm
   rw[this];simp;omega
 .simp(disch:=omega)only[ZA,simprocAttr,srt.ca,srt.H0,CO];exact⟨rfl,rfl⟩
 simp(disch:=omega)only[ZA,simprocAttr,Ak.d,srt.H1,De]
def CA(q:Ab×Int):Al:=⟨q.1,q.2⟩
def Uo(m:IG)(t:List (Ab×Int))(x:Al):Option (List (Ab×Int)):=
 if (m.Labels[x.Tile.toNat]?.getD 0)<0 then some t
 else if (B9 t (eM x.At m.Scale).1).getD (m.Labels[x.Tile.toNat]?.getD 0)≠(m.Labels[x.Tile.toNat]?.getD 0) then none
 else some (Bf t (eM x.At m.Scale).1 (m.Labels[x.Tile.toNat]?.getD 0))
def OB{l l':List Al}(hp:l.Perm l')(hd:(l'.map Al.At).Nodup)(p:Ab):l.find? (λx=>decide (x.At=p))=l'.find? (λx=>decide (x.At=p)):=by
 cases h1:l.find? (λx=>decide (x.At=p)) with
 |none=>
  symm;rw[aB] at h1⊢;exact λx O=>h1 x (hp.mem_iff.2 O)
 |some x=>
  have O:=hp.mem_iff.1 (mN h1);have z:=Rp h1;cases h2:l'.find? (λx=>decide (x.At=p)) with
  |none=>
   rw[aB] at h2;exact absurd z (h2 x O)
  |some y=>
   have Q:=mN h2;have G:=Rp h2;rw[R0 hd O Q];rw[BL] at z G;rw[z,G]
def Mr(p:Ab): ∀(t:List (Ab×Int)),(((t.map CA).find? (λx=>decide (x.At=p))).map Al.Tile)=B9 t p
 |[]=>rfl
 |(k,w)::r=>by
  simp only[Bd,Zel,CA,B9];by_cases h:k=p
  .subst h;simp
  .have z:decide (k=p)=false:=by simpa using h
   have G: ¬p=k:=λO=>h O.symm
   rw[z,Af G];exact Mr p r
def Wi(t:List (Ab×Int)):(t.map CA).map Al.At=t.map Prod.fst:=by simp[CA]
def aZ{t:List (Ab×Int)}(hd:(t.map Prod.fst).Nodup)(p:Ab):Bb ⟨EX (t.map CA)⟩ p=(B9 t p).getD (-1):=by
 have z:((t.map CA).map Al.At).Nodup:=by rw[Wi];exact hd
 simp only[Bb];rw[OB (Z2 _) z,Mr]
def lV{t:List (Ab×Int)}{p:Ab}(v:Int)(h:B9 t p=none):Bf t p v=t++[(p,v)]:=by
 induction t with
 |nil=>rfl
 |cons q r ih=>
  obtain⟨k,w⟩:=q;simp only[B9] at h;split at h
  .cases h
  .rename_i hn;simp only[Bf,Af hn,CT];rw[ih h]
def PR{t:List (Ab×Int)}{p:Ab}{v:Int}(h:B9 t p=some v):Bf t p v=t:=by
 induction t with
 |nil=>cases h
 |cons q r ih=>
  obtain⟨k,w⟩:=q;simp only[B9] at h;simp only[Bf];split at h
  .rename_i z;obtain rfl:=AD h;rw[An z,z]
  .rename_i hn;rw[Af hn,ih h]
def Qyz{t:List (Ab×Int)}{p:Ab}(h:B9 t p=none):p∉t.map Prod.fst:=by
 induction t with
 |nil=>simp
 |cons q r ih=>
  obtain⟨k,w⟩:=q;simp only[B9] at h;split at h
  .cases h
  .rename_i hn;simp only[Bd,Bm,aN];exact⟨hn,ih h⟩
def Wh{t:List (Ab×Int)}{p:Ab}{v:Int}(h:B9 t p=some v):(p,v)∈t:=by
 induction t with
 |nil=>cases h
 |cons q r ih=>
  obtain⟨k,w⟩:=q;simp only[B9] at h;split at h
  .rename_i z;obtain rfl:=AD h;rw[z];exact BT ..
  .exact BX _ (ih h)
structure RM(t:List (Ab×Int))(o:Ak)(k:Nat):Prop where
 nd:(t.map Prod.fst).Nodup
 pos: ∀q∈t,0<=q.2
 eq:o=⟨EX (t.map CA)⟩
 len:t.length<=k
def RM.step{m:IG}{t:List (Ab×Int)}{o:Ak}{k:Nat}(h:RM t o k)(x:Al):(∃t' o',Uo m t x=some t'/\Ut m o x=some o'/\RM t' o' (k+1))\/(Uo m t x=none/\Ut m o x=none):=by
 obtain⟨nd,pos,rfl,len⟩:=h;simp only[Uo,Ut];generalize m.Labels[x.Tile.toNat]?.getD 0=n;generalize (eM x.At m.Scale).1=p;by_cases c1:n<0
 .rw[An c1,An c1];exact .inl ⟨_,_,rfl,rfl,nd,pos,rfl,by omega⟩
 rw[Af c1,Af c1,aZ nd];cases hq:B9 t p with
 |none=>
  simp only[Option.getD_none];rw[Af (by simp),Af (by omega),An (by omega)];refine .inl ⟨_,_,rfl,rfl,?_,?_,?_,?_⟩
  .rw[lV n hq,GH,VN];refine⟨nd,by simp,?_⟩;intro a Q b hb z;simp only[Bd,Gq,BK] at hb;exact Qyz hq (by rw[<-hb,<-z];exact Q)
  .intro q G;rw[lV n hq] at G;rcases Bx.1 G with G|G
   .exact pos q G
   .simp only[BK] at G;subst G;simp only;omega
  .rw[WV,lV n hq];congr 1;have Z:(((t++[(p,n)]).map CA).map Al.At).Nodup:=by
    rw[Wi,GH,VN];refine⟨nd,by simp,?_⟩;intro a Q b hb z;simp only[Bd,Gq,BK] at hb;exact Qyz hq (by rw[<-hb,<-z];exact Q)
   refine tP Z ?_ (Qx3 ⟨p,n⟩ _ (tR _));refine (lZ ⟨p,n⟩ _).trans ?_;rw[GH];refine ((Z2 _).cons _).trans ?_;exact (Zer _ _).symm
  .rw[lV n hq];simp;omega
 |some v=>
  simp only[AM];have hv:=pos _ (Wh hq);simp only at hv;by_cases O:v=n
  .subst O;rw[Af (by simp),Af (by simp),Af (by omega),PR hq];exact .inl ⟨_,_,rfl,rfl,nd,pos,rfl,by omega⟩
  .rw[An O,An ⟨hv,O⟩];exact .inr ⟨rfl,rfl⟩
def T7{l:List Al}(h:(l.map Al.At).Nodup): ∀x∈l,∀y∈l,x.At=y.At->x=y:=by
 induction l with
 |nil=>intro x Q;cases Q
 |cons z r ih=>
  simp only[Bd,Ir] at h;intro x Q y hy e;rcases Bm.1 Q with ex|G<;>rcases Bm.1 hy with Z|O
  .rw[ex,Z]
  .exact absurd (Bv.2 ⟨y,O,by rw[<-e,ex]⟩) h.1
  .exact absurd (Bv.2 ⟨x,G,by rw[e,Z]⟩) h.1
  .exact ih h.2 x G y O e
def NR{s:AC}{a:Ak}(h: ∀x∈a.Tiles,FR s x.Tile)(p:Ab):Bs (λx=>decide (x.At=p)) 0 a.Tiles<0↔Bb a p<0:=by
 simp only[Bb];rcases QW (λx=>decide (x.At=p)) a.Tiles 0 with ⟨z,G⟩|⟨i,x,z,G,O⟩
 .rw[z,G];simp
 .rw[z,G]
  have:=(h x (AZ O)).1
  simp only[CQ,AM];omega
def RM.put{t:List (Ab×Int)}{o:Ak}{k:Nat}(h:RM t o k){p:Ab}{v:Int}(hv:0<=v)(hn:B9 t p=none):RM (Bf t p v) (BU o p v) (k+1):=by
 obtain⟨nd,pos,rfl,len⟩:=h;have G:((t++[(p,v)]).map Prod.fst).Nodup:=by
  rw[GH,VN];refine⟨nd,by simp,?_⟩;intro a Z b hb O;simp only[Bd,Gq,BK] at hb;exact Qyz hn (by rw[<-hb,<-O];exact Z)
 rw[lV v hn];refine⟨G,?_,?_,by simp;omega⟩
 .intro q z;rcases Bx.1 z with z|z
  .exact pos q z
  .simp only[BK] at z;subst z;exact hv
 .rw[WV];congr 1;have Q:(((t++[(p,v)]).map CA).map Al.At).Nodup:=by rw[Wi];exact G
  refine tP Q ?_ (Qx3 ⟨p,v⟩ _ (tR _));refine (lZ ⟨p,v⟩ _).trans ?_;rw[GH];refine ((Z2 _).cons _).trans ?_;exact (Zer _ _).symm
def RM.at{t:List (Ab×Int)}{o:Ak}{k:Nat}(h:RM t o k):Cs t=Bb o:=by
 funext p;rw[h.eq,aZ h.nd];rfl
def RM.size{t:List (Ab×Int)}{o:Ak}{k:Nat}(h:RM t o k):o.Tiles.length=t.length:=by
 rw[h.eq];simp only[oV,He]
def oT: ∀(l t:List Al),((t++l).map Al.At).Nodup->l.foldl (λu x=>Bf u x.At x.Tile) (t.map λx=>(x.At,x.Tile))=(t++l).map λx=>(x.At,x.Tile)
 |[],t,_=>by simp
 |x::r,t,h=>by
  have O:B9 (t.map λx=>(x.At,x.Tile)) x.At=none:=by
   cases hq:B9 (t.map λx=>(x.At,x.Tile)) x.At with
   |none=>rfl
   |some v=>
    exfalso;obtain⟨y,Q,G⟩:=Bv.1 (Wh hq);have z:y.At=x.At:=CU Prod.fst G;rw[GH,VN] at h;exact h.2.2 _ (vT Q) _ (vT (BT ..)) z
  rw[gJ,lV _ O]
  have:=oT r (t++[x]) (by simpa using h)
  simpa using this
def RM.of{a:Ak}(hf:Dl none a.Tiles=true)(hp: ∀x∈a.Tiles,0<=x.Tile):RM (Ci a.Tiles) a a.Tiles.length:=by
 have hn:=Qix hf;have e:Ci a.Tiles=a.Tiles.map λx=>(x.At,x.Tile):=by
  have:=oT a.Tiles [] (by simpa using hn)
  simpa[Ci] using this
 have G:(a.Tiles.map λx=>(x.At,x.Tile)).map CA=a.Tiles:=by
  rw[Rn];exact List.map_id' _
 rw[e];refine⟨by rw[Rn];exact hn,?_,?_,by simp⟩
 .intro q hq;obtain⟨x,hx,rfl⟩:=Bv.1 hq;exact hp x hx
 .rw[G];have Z:=(kQ _ _ hf).2;have hw:a.Tiles.Pairwise (λx y=>Bt y.At x.At=false):=by
   rw[Zdh];intro i j O Q z
   have:=Z i j a.Tiles[i] a.Tiles[j] z (Bk O) (Bk Q)
   simp only[Bt] at this⊢
   grind
  rw[<-tP hn (gL _) hw]
def iE{s:Ax}{a:Ak}(h:DP s.Set a)(o:Ap):(Bj o.Tile 0 (s.Set.Tiles.length - 1) && Ip s (Bb a) o.At o.Tile)=Dv s a o:=by
 have z:decide (Bb a o.At<0)=decide (Bs (λx=>decide (x.At=o.At)) 0 a.Tiles<0):=by rw[decide_eq_decide];exact (NR h.2 o.At).symm
 simp only[Ip,Dv,Wq];rw[z];cases E3 o.At<;>cases Bj o.Tile 0 (s.Set.Tiles.length - 1)<;>simp
def Gf(s:Ax):List (Ab×Int)->List Ap->Nat->Ak×Int×Int
 |t,[],_=>(⟨EX (t.map CA)⟩,0,0)
 |t,o::r,i=>if (Bj o.Tile 0 (s.Set.Tiles.length - 1) && Ip s (Cs t) o.At o.Tile)=false then (⟨[]⟩,(i:Int),5) else if 500<=t.length then (⟨[]⟩,0,4) else Gf s (Bf t o.At o.Tile) r (i+1)
def CM(s:Ax):Ak->List Ap->Nat->Ak×Int×Int
 |a,[],_=>(a,0,0)
 |a,o::r,i=>if Dv s a o=false then (⟨[]⟩,(i:Int),5) else if 500<=a.Tiles.length then (⟨[]⟩,0,4) else CM s (BU a o.At o.Tile) r (i+1)
def oU{s:Ax}(hs:s.Set.Tiles.length<=160): ∀(l:List Ap) (t:List (Ab×Int)) (a:Ak) (k i:Nat),RM t a k->DP s.Set a->Gf s t l i=CM s a l i
 |[],t,a,k,i,h,_=>by simp only[Gf,CM,h.eq]
 |o::r,t,a,k,i,h,O=>by
  simp only[Gf,CM];rw[h.at,iE O,<-h.size];by_cases c1:Dv s a o=false
  .rw[An c1,An c1]
  rw[Af c1,Af c1];by_cases z:500<=a.Tiles.length
  .rw[An z,An z]
  rw[Af z,Af z];rw[FW] at c1;simp only[Dv,AS,BL] at c1;obtain⟨d1,G,d3,_⟩:=c1;have aa:=Qma d3;have hv:0<=o.Tile:=by
   simp only[Bj,AS,BL] at G;exact G.1
  have Z:B9 t o.At=none:=by
   have h1:Cs t o.At=Bb a o.At:=congrFun h.at o.At;have h2:=(NR O.2 o.At).1 d3;cases hq:B9 t o.At with
   |none=>rfl
   |some v=>
    exfalso;have h3:=h.pos _ (Wh hq);simp only[Cs,hq,AM] at h1;simp only at h3;omega
  have hw:Bj o.Tile 0 159=true:=by
   simp only[Bj,AS,BL] at G⊢;omega
  refine oU hs r _ _ (k+1) (i+1) (h.put hv Z) ⟨?_,?_⟩
  .rw[WV];exact Qki d1 hw _ none O.1 (λq hq=>by cases hq) aa
  .intro x Q;rw[WV] at Q;rcases (tK _ _ _ _).1 Q with rfl|Q
   .simp only[Bj,AS,BL] at G;exact⟨hv,by simp only;omega⟩
   .exact O.2 x Q
def eqOption.fv(a:Ap×Ap):Bool:=(λa b=>decide (a=b)) (a.1) (a.2)
def eqOption.row:AA:=vK (b2 (qR Ap.d_le) (qR Ap.d_le)) rB (λa=>True) eqOption.fv
def eqOption.q:=AT (R:=eqOption.row) rfl
def eqOption.ok:AB Tryz.prog 57 eqOption.row:=by
 refine vw (tC eqPoint.ok tN) Tryz.func57 rfl (by kernel_rfl) ?_;intro a G;simp only[Tryz.f57];simp(disch:=omega)only[ZA,simprocAttr,eqOption.fv,eqPoint.q,eqPoint.fv];obtain⟨⟨⟨x,y⟩,u⟩,⟨⟨z,w⟩,v⟩⟩:=a;simp only[Ap.mk.injEq,Ab.mk.injEq]
 grind
def eqOptionS.fv(a:(List Ap)×(List Ap)):Bool:=(λa b=>decide (a=b)) (a.1) (a.2)
def eqOptionS.row:AA:=vK (b2 (qS Ap.d_le Ap.c_n) (qS Ap.d_le Ap.c_n)) rB (λa=>True) eqOptionS.fv
def eqOptionS.q:=AT (R:=eqOptionS.row) rfl
def eqOptionS.ok:AB Tryz.prog 16 eqOptionS.row:=by
 refine vw (tC eqOption.ok tN) Tryz.func16 rfl (by kernel_rfl) ?_;intro a Z;simp only[Tryz.f16];simp(disch:=omega)only[ZA,simprocAttr,eqOptionS.fv];intro h1 h2;simp only[AO];refine⟨λG=> ?_,λG=> ?_⟩
 .have:a.1≠a.2:=λh=>G (by rw[h])
  simp[this]
 have G:a.1.length=a.2.length:=by omega
 refine AP.old ⟨{k:Nat//k<=a.1.length/\a.1.take k=a.2.take k},λk=>⟨[(5,.im (.int .i64 k.1)),(4,.im (.bool false)),(0,.im (.sl false 3 (a.1.map Ap.c))),(1,.im (.sl false 3 (a.2.map Ap.c)))],[],0⟩,λk=>a.1.length - k.1,λk=>⟨by simp[Ai.good,Am,Ac,A8,AV.bel],AQ _⟩,⟨⟨0,by simp⟩,by simp(disch:=omega)only[ZA,simprocAttr,sub]⟩,λk=> ?_⟩;obtain⟨k,Q,z⟩:=k;simp(disch:=omega)only[ZA,simprocAttr,eqOption.q,eqOption.fv,sub,AO];intro _;refine⟨λO=>⟨O,λx hx=>⟨by omega,λy hy=> ?_⟩⟩,λO=> ?_⟩
 .obtain⟨g1,g2⟩:=eC G Q z hx hy;exact⟨λh=>by simp[g2 (show x≠y from h)],λh=>Gi O h1 ⟨by omega,g1 (show x=y from FX.1 h)⟩⟩
 .rw[DQ (by omega),DQ (by omega)] at z;simp[z]
def l03Own.fv(a:Ak):Ak:=(λa=>a) a
def l03Own.row:AA:=vK (b1 (qP 1 Ak.d_le)) (rA Ak.d_le) (λa=>a.Tiles.length<=1000000) l03Own.fv
def l03Own.q:=AT (R:=l03Own.row) rfl
def l03Own.ok:AB Tryz.prog 72 l03Own.row:=by
 refine vw tN Tryz.func72 rfl (by kernel_rfl) ?_;intro a z;simp only[Tryz.f72];simp(disch:=omega)only[ZA,simprocAttr,Ak.d,l03Own.fv];exact⟨by simp[BE,B1,D.one,Al.c],by omega⟩
def Qac8{s:Ax}{l:List Ap}{i:Nat}{o:Ap}(z:l[i]? =some o)(b:Ak):CM s b (l.drop i) i=if Dv s b o=false then (⟨[]⟩,(i:Int),5) else if 500<=b.Tiles.length then (⟨[]⟩,0,4) else CM s (BU b o.At o.Tile) (l.drop (i+1)) (i+1):=by
 rw[EW z,CM]
def QN{s:Ax}{b:Ak}(hs:s.Set.Tiles.length<=160)(Q:DP s.Set b){o:Ap}(h:Dv s b o=true):DP s.Set (BU b o.At o.Tile):=by
 simp only[Dv,AS,BL] at h;obtain⟨Z,O,d3,_⟩:=h;have G:=Qma d3;have hw:Bj o.Tile 0 159=true:=by
  simp only[Bj,AS,BL] at O⊢;omega
 refine⟨?_,?_⟩
 .rw[WV];exact Qki Z hw _ none Q.1 (λq hq=>by cases hq) G
 .intro x z;rw[WV] at z;rcases (tK _ _ _ _).1 z with rfl|z
  .simp only[Bj,AS,BL] at O;exact⟨by simp only;omega,by simp only;omega⟩
  .exact Q.2 x z
def l08Play.fv(a:Ax×(List Ap)):Ak×Int×Int:=(λs l=>CM s s.Seed l 0) (a.1) (a.2)
def l08Play.row:AA:=vK (b2 (qP 4 Ax.d_le) (qS Ap.d_le Ap.c_n)) (r3 (rA Ak.d_le) rI rI) (λa=>BF a.1.Set/\DP a.1.Set a.1.Seed/\a.1.Set.Tiles.length<=160/\a.1.Seed.Tiles.length<=1000000) l08Play.fv
def l08Play.q:=AT (R:=l08Play.row) rfl
def l08Play.ok:AB Tryz.prog 120 l08Play.row:=by
 refine vw (tC l03Own.ok (tC l08Can.ok (tC l08Attach.ok tN))) Tryz.func120 rfl (by kernel_rfl) ?_;intro a G;simp only[Tryz.f120];simp(disch:=omega)only[ZA,simprocAttr,Ak.d,l08Play.fv,l03Own.q,l03Own.fv];obtain⟨s,l⟩:=a;simp only at G⊢;obtain⟨h1,h2,h3,h4⟩:=G;refine⟨h4,?_⟩;refine AP.old ⟨{k:Nat×Ak//k.1<=l.length/\DP s.Set k.2/\CM s s.Seed l 0=CM s k.2 (l.drop k.1) k.1},λk=>⟨[(8,.im (.int .i64 k.1.1)),(7,.ptr 2 0),(6,.im (.int .i64 0)),(5,.im (.int .i64 0)),(4,.ptr 1 0),(0,.ptr 0 0),(1,.im (.sl false 3 (l.map Ap.c)))],[(2,(true,.cells 39 [.im (.sl false 3 (k.1.2.Tiles.map Al.c))])),(1,(true,.cells 39 [.im (.sl true 0 [])])),(0,(false,.view (Ax.c s)))],3⟩,λk=>l.length - k.1.1,λk=>⟨by simp[Ai.good,Am,Ac,A8,AV.bel,Aq],AQ _⟩,⟨⟨(0,s.Seed),by simp[h2]⟩,by simp(disch:=omega)only[ZA,simprocAttr,sub]⟩,λk=> ?_⟩;obtain⟨⟨k,b⟩,aa,O,z⟩:=k;simp only at aa O z;simp(disch:=omega)only[ZA,simprocAttr,Ak.d,l08Can.q,l08Can.fv,l08Attach.q,l08Attach.fv,sub,AO];intro hn;refine⟨λZ=>⟨Z,λx hx=>⟨⟨h1,O⟩,?_⟩⟩,λZ=> ?_⟩
 .rw[Qac8 hx] at z;have e:(E3 x.At && (Bj x.Tile 0 ((s.Set.Tiles.length:Int) - 1) && (decide (Bs (λy=>decide (y.At=x.At)) 0 b.Tiles<0) && decide (s.Temperature<=J4 s.Set b x.At x.Tile 4))))=Dv s b x:=rfl;simp only[e];refine⟨λc1=> ?_,λc1=>⟨Z,λy hy=> ?_⟩⟩
  .rw[z,An c1]
  obtain rfl:x=y:=AD (hx.symm.trans hy);rw[Af c1] at z;by_cases Q:500<=b.Tiles.length
  .have q:Gv b x=(⟨[]⟩,4):=An Q;rw[q,z,An Q];exact⟨λ_=>rfl,λh=>(h (by decide)).elim⟩
  .have q:Gv b x=(BU b x.At x.Tile,0):=Af Q;rw[q];rw[Af Q] at z;rw[FW] at c1;exact⟨λh=>(h rfl).elim,λ_=>⟨⟨(k+1,BU b x.At x.Tile),by simp only;omega,QN h3 O c1,z⟩,by simp only;omega,by rw[AG (by omega) (by omega)];simp only;omega,rfl⟩⟩
 .rw[z,Dr (by omega),CM]
def Cw(s:Ax)(l:List Ap):Ak×Int×Int:=if F3 s=false then (⟨[]⟩,0,1) else if 500<l.length then (⟨[]⟩,0,2) else CM s s.Seed l 0
def H5{s:Ax}(h:F3 s=true):(BF s.Set/\DP s.Set s.Seed/\s.Set.Tiles.length<=160/\s.Seed.Tiles.length<=1000000)/\F1 s.Set=true/\Kb s.Set s.Seed=true:=by
 simp only[F3,AS] at h;obtain⟨z,G,_⟩:=h;have O:=Z3 G;have Q:=Qge z;have Z:=z;simp only[F1,Bj,AS,BL] at Z;exact⟨⟨Q,O.1,by omega,by omega⟩,z,G⟩
def jW{s:Ax}{l:List Ap}(h:(Cw s l).2.2=0):F3 s=true/\l.length<=500:=by
 simp only[Cw] at h;split at h
 .simp at h
 rename_i c1;split at h
 .simp at h
 .rw[FW] at c1;exact⟨c1,by omega⟩
def Qwf{A B:Type}(f:A->B): ∀(l:List A) (i:Nat),(l.map f).eraseIdx i=(l.eraseIdx i).map f
 |[],_=>rfl
 |_::_,0=>rfl
 |x::r,i+1=>by simp only[Bd,vI,Qwf f r i]
def Qqq{A:Type}: ∀(l:List A) (i:Nat) (x:A),l[i]? =some x->(x::l.eraseIdx i).Perm l
 |[],i,x,h=>by simp at h
 |y::r,0,x,h=>by
  simp only[GF,AJ] at h;subst h;exact gL _
 |y::r,i+1,x,h=>by
  rw[HJ] at h;rw[vI];exact (List.Perm.swap y x _).trans ((Qqq r i x h).cons y)
def FP(c:Cj)(p:Ab)(t:Int):Cj:=⟨c.Sys,Bf c.Tl p t,Gn c.Sys (Cs (Bf c.Tl p t)) (DA c.Op p) p 4⟩
def ME{s:AC}{t:List (Ab×Int)}{p:Ab}{v:Int}(h:SM s (Cs t))(z:FR s v):SM s (Cs (Bf t p v)):=by
 intro q hq;simp only[Cs,mG] at hq⊢;by_cases c:q=p
 .rw[An c];exact z
 .rw[Af c] at hq⊢;exact h q hq
def putC.ca(a:Cj×Ab×Int):List AV:=[.ptr 0 0,.im (.agg [.int .i64 a.2.1.X,.int .i64 a.2.1.Y]),.im (.int .i64 a.2.2)]
def putC.H1(a:Cj×Ab×Int):Av:=[(1,(true,.map ⟨true,[.int .i64,.int .i64]⟩ ((FP a.1 a.2.1 a.2.2).Tl.map DM))),(2,(true,.map ⟨true,[.int .i64,.int .i64]⟩ ((FP a.1 a.2.1 a.2.2).Op.map CN)))]
def Dx(j:Nat):Bool:=j==1||j==2
def putC.row:AA:=AE putC.ca (λa=>B5 a.1) 3 (λa=>NK a.1/\FD a.2.1/\FR a.1.Sys.Set a.2.2) Dx (λ_=> .im (.tup [])) putC.H1 0
def putC.ok:AB Tryz.prog 156 putC.row:=by
 refine ow (tC lookC.ok tN) Tryz.func156 rfl (by kernel_rfl) (exB:=λ_=>false) (R:=λ_ r=>r= .im (.tup [])) (λ_=>rfl)
  (λa=>by simp[putC.ca,B5,BV,Aq,AV.bel,Ac,A8,BO,Ad.nms,AH,AV.nms,Ao,hget]) (λa p hp=> ?_) (λa r h=>by subst h;exact CF.refl _) ?_
 rotate_left
 intro a G;simp only[Tryz.f156,putC.ca,B5,BV,putC.H1];simp(disch:=omega)only[ZA,simprocAttr];obtain⟨z,O,Q⟩:=G;rw[Vs,RW];have hq:NK ⟨a.1.Sys,Bf a.1.Tl a.2.1 a.2.2,DA a.1.Op a.2.1⟩:=⟨z.1,ME z.2.1 Q,z.2.2⟩;refine AE.os (⟨a.1.Sys,Bf a.1.Tl a.2.1 a.2.2,DA a.1.Op a.2.1⟩,a.2.1) [0,1,2] ⟨hq,O⟩ (λj=>Gd _ j) rfl rfl ?_ ?_
 .simp(disch:=omega)only[ZA,simprocAttr,D6,B5,BV,lookC.ca,B5,BV]
 .simp(disch:=omega)only[ZA,simprocAttr,D6,Dx,lookC.H1,xE,FP]
 simp[putC.H1] at hp;rcases hp with rfl|rfl
 .exact .inl ⟨by omega,rfl,rfl⟩
 .exact .inl ⟨by omega,rfl,rfl⟩
def asmC.ca(_:Cj):List AV:=[.ptr 0 0]
def asmC.H1(a:Cj):Av:=[(1,(false,.map ⟨true,[.int .i64,.int .i64]⟩ (a.Tl.map DM)))]
def nC(j:Nat):Bool:=j==1
def rV{t:List (Ab×Int)}{l:List Al}(hd:(t.map Prod.fst).Nodup)(h:l.Perm (t.map CA)):EX l=EX (t.map CA)/\(l.map Al.At).Nodup/\l.length=t.length:=by
 have z:((t.map CA).map Al.At).Nodup:=by rw[Wi];exact hd
 refine⟨tP z ((Z2 l).trans h) (tR l),(h.map Al.At).nodup_iff.2 z,by rw[h.length_eq,He]⟩
def IJ(t:List (Ab×Int)):Ak:=⟨EX (t.map CA)⟩
def asmC.row:AA:=AE asmC.ca B5 3 (λa=>(a.Tl.map Prod.fst).Nodup/\a.Tl.length<=100000) nC (λa=> .im (.agg (Ak.c (IJ a.Tl)))) asmC.H1 0
def asmC.ok:AB Tryz.prog 56 asmC.row:=by
 refine ow (tC asmOf.ok tN) Tryz.func56 rfl (by kernel_rfl) (exB:=λ_=>false) (R:=λa r=>r= .im (.agg (Ak.c (IJ a.Tl)))) (λ_=>rfl)
  (λa=>by simp[asmC.ca,B5,BV,Aq,AV.bel,Ac,A8,BO,Ad.nms,AH,AV.nms,Ao,hget]) (λa p hp=> ?_) (λa r h=>by subst h;exact CF.refl _) ?_
 rotate_left
 intro a G;simp only[Tryz.f56,asmC.ca,B5,BV,asmC.H1];simp(disch:=omega)only[ZA,simprocAttr];obtain⟨ab,af⟩:=G;refine AP.ren ⟨{s:Option (D×D)×List (Ab×Int)×List Al//(s.2.2++s.2.1.map CA).Perm (a.Tl.map CA)},λs=>⟨[(10,.it 5),(3,.own 6),(2,.ptr 3 0),(0,.ptr 0 0)],[(6,(true,.arr 137 3 (s.1.2.2.map Al.c))),(5,(true,.iter s.1.1 (s.1.2.1.map DM))),(3,(true,.cells 39 [.im (.sl true 0 [])])),(0,(true,.cells 155 (BV a.Sys))),(1,(false,.map ⟨true,[.int .i64,.int .i64]⟩ (a.Tl.map DM))),(2,(true,.map ⟨true,[.int .i64,.int .i64]⟩ (a.Op.map CN)))],7⟩,λs=>s.1.2.1.length,λs=>⟨by simp[Ai.good,Am,Ac,A8,AV.bel,Aq,BV],by simp⟩,⟨⟨(none,a.Tl,[]),by simp⟩,[(6,some 4)],?_⟩,λs=> ?_⟩
 .simp only[Ay,BV];simp(disch:=omega)only[ZA,simprocAttr]
  try simp
 obtain⟨⟨ad,left,z⟩,O⟩:=s;simp only at O;simp only[BV];simp(disch:=omega)only[ZA,simprocAttr,asmOf.q,asmOf.fv,nC];refine⟨λhl=> ?_,λi p hp=> ?_⟩
 .have aa:left=[]:=by simpa using hl
  subst aa;rw[Gq,D8] at O;obtain⟨r1,r2,r3⟩:=rV ab O;exact⟨⟨r2,by omega⟩,by simp only[IJ,r1]⟩
 .rw[D2] at hp;cases hq:left[i]? with
  |none=>rw[hq] at hp;cases hp
  |some q=>
   rw[hq] at hp;obtain rfl:=AD hp;obtain⟨⟨Z,qy⟩,Q⟩:=q;simp only[DM,Ab.c];simp(disch:=omega)only[ZA,simprocAttr,GM,De,EE];have hi:i<left.length:=by
    rcases Fj i left.length with h|h
    .exact h
    .rw[FG h] at hq;cases hq
   have ac:((⟨Z,qy⟩,Q)::left.eraseIdx i).Perm left:=Qqq _ _ _ hq;have hP:((z++[(⟨⟨Z,qy⟩,Q⟩:Al)])++(left.eraseIdx i).map CA).Perm (a.Tl.map CA):=by
    rw[Hw];refine (ZeO z ?_).trans O;exact ac.map CA
   have hcl:z.length<=a.Tl.length:=by
    have r3:=O.length_eq;simp at r3;omega
   refine⟨by omega,⟨⟨(some (D.agg [.int .i64 Z,.int .i64 qy],D.int .i64 Q),left.eraseIdx i,z++[(⟨⟨Z,qy⟩,Q⟩:Al)]),hP⟩,[(6,some 9)],?_,?_⟩⟩
   .simp only[Zee];rw[An hi];omega
   .simp only[Ay];simp(disch:=omega)only[ZA,simprocAttr];simp[Al.c,Qwf]
 simp[asmC.H1] at hp;subst hp;exact .inl ⟨by omega,rfl,rfl⟩
def Jr(s:Ax)(l:List Ap):Ak×Int×Int:=if eZ s=false then (⟨[]⟩,0,1) else if 500<l.length then (⟨[]⟩,0,2) else Gf s (Ci s.Seed.Tiles) l 0
def bW{β:Type}(p:Ab)(v:β): ∀(t:List (Ab×β)),(t.map Prod.fst).Nodup->((Bf t p v).map Prod.fst).Nodup/\(∀q,q∈(Bf t p v).map Prod.fst->q=p\/q∈t.map Prod.fst)/\(Bf t p v).length<=t.length+1
 |[],_=>by simp[Bf]
 |(k,w)::r,h=>by
  rw[Bd,Ir] at h;simp only[Bf];by_cases c:p=k
  .subst c;rw[An rfl];refine⟨by rw[Bd,Ir];exact h,λq hq=> .inr hq,by simp⟩
  .rw[Af c];obtain⟨O,G,Q⟩:=bW p v r h.2;refine⟨?_,?_,by simp only[CP];omega⟩
   .rw[Bd,Ir];refine⟨λz=> ?_,O⟩;rcases G _ z with z|z
    .exact c z.symm
    .exact h.1 z
   .intro q hq;rw[Bd] at hq⊢;rcases Bm.1 hq with rfl|hq
    .exact .inr (BT ..)
    .rcases G _ hq with hq|hq
     .exact .inl hq
     .exact .inr (BX _ hq)
def PM(l:List Al):((Ci l).map Prod.fst).Nodup/\(Ci l).length<=l.length:=by
 have z: ∀(l:List Al) (t:List (Ab×Int)),(t.map Prod.fst).Nodup->((l.foldl (λt x=>Bf t x.At x.Tile) t).map Prod.fst).Nodup/\(l.foldl (λt x=>Bf t x.At x.Tile) t).length<=t.length+l.length:=by
  intro l;induction l with
  |nil=>intro t h;exact⟨h,by simp⟩
  |cons x r ih=>
   intro t h;obtain⟨G,_,Z⟩:=bW x.At x.Tile t h;obtain⟨O,Q⟩:=ih _ G;exact⟨O,by simp only[gJ,CP] at Q⊢;omega⟩
 have:=z l [] (by simp)
 exact⟨this.1,by simpa[Ci] using this.2⟩
def Qac7{s:Ax}{l:List Ap}{i:Nat}{o:Ap}(z:l[i]? =some o)(t:List (Ab×Int)):Gf s t (l.drop i) i=if (Bj o.Tile 0 (s.Set.Tiles.length - 1) && Ip s (Cs t) o.At o.Tile)=false then (⟨[]⟩,(i:Int),5) else if 500<=t.length then (⟨[]⟩,0,4) else Gf s (Bf t o.At o.Tile) (l.drop (i+1)) (i+1):=by
 rw[EW z,Gf]
def PlayI_.fv(a:Ax×(List Ap)):Ak×Int×Int:=(Jr) (a.1) (a.2)
def PlayI_.row:AA:=vK (b2 (qR Ax.d_le) (qS Ap.d_le Ap.c_n)) (r3 (rA Ak.d_le) rI rI) (λa=>Qf a.1.Set) PlayI_.fv
def PlayI_.q:=AT (R:=PlayI_.row) rfl
def PlayI_.ok:AB Tryz.prog 212 PlayI_.row:=by
 refine vw (tC validI_.ok (tC newC.ok (tC isTile.ok (tC fitsC.ok (tC putC.ok (tC asmC.ok tN)))))) Tryz.func212 rfl (by kernel_rfl) ?_;intro a O;simp only[Tryz.f212];simp(disch:=omega)only[ZA,simprocAttr,Ak.d,Cl,PlayI_.fv,validI_.q,validI_.fv];obtain⟨s,l⟩:=a;simp only at O⊢;refine⟨O,?_⟩;by_cases c1:eZ s=false
 .rw[An c1];simp only[Jr];rw[An c1]
 rw[Af c1];intro _;by_cases c2:500<l.length
 .rw[An (by omega)];simp only[Jr];rw[Af c1,An c2]
 rw[Af (by omega)];have eR:Jr s l=Gf s (Ci s.Seed.Tiles) l 0:=by simp only[Jr];rw[Af c1,Af c2]
 rw[FW,bX] at c1;obtain⟨⟨q1,q2,q3,_⟩,q5,q6⟩:=H5 c1;have af:=uA (s:=s.Set) (a:=s.Seed) (by rw[q5,q6];rfl);have ad:newC.pre (s,s.Seed):=⟨q1,by simp only;omega,λy hy=>⟨q2.2 y hy,af.1.2.2.2 y hy⟩⟩;have ag:=O5 ad;have ac:=PM s.Seed.Tiles;refine AE.os (s,s.Seed) [] ad (λj=>by simp[Ao,hget]) rfl rfl ?_ ?_
 .simp(disch:=omega)only[ZA,simprocAttr,newC.ca,CO,Ax.c,Ak.c]
 simp(disch:=omega)only[ZA,simprocAttr,newC.H1];intro _;refine AP.old ⟨{k:Nat×List (Ab×Int)×List (Ab×List Int)//k.1<=l.length/\SM s.Set (Cs k.2.1)/\(k.2.1.map Prod.fst).Nodup/\k.2.1.length<=1000/\Jr s l=Gf s k.2.1 (l.drop k.1) k.1},λk=>⟨[(26,.im (.int .i64 k.1.1)),(25,.im (.int .i64 l.length)),(24,.im (.sl false 3 (l.map Ap.c))),(7,.ptr 6 0),(6,.im (.int .i64 0)),(5,.im (.int .i64 0)),(4,.ptr 1 0),(2,.ptr 0 0)],[(6,(true,.cells 155 [.im (.sl false 2 (s.Set.Glues.map Ar.c)),.im (.sl false 2 (s.Set.Tiles.map Tile.c)),.im (.sl false 3 (s.Seed.Tiles.map Al.c)),.im (.int .i64 s.Temperature),.mp 4,.mp 5])),
  (4,(true,.map ⟨true,[.int .i64,.int .i64]⟩ (k.1.2.1.map DM))),(5,(true,.map ⟨true,[.int .i64,.int .i64]⟩ (k.1.2.2.map CN))),(1,(true,.cells 39 [.im (.sl true 0 [])])),(0,(true,.cells 47 ((Ax.c s).map .im)))],7⟩,λk=>l.length - k.1.1,λk=>⟨by simp[Ai.good,Am,Ac,A8,AV.bel,Aq,Ax.c],by simp⟩,⟨⟨(0,(Kk s s.Seed).Tl,(Kk s s.Seed).Op),by simp only;exact⟨Cz _,ag.2.1,ac.1,D9 ac.2 (by omega),eR⟩⟩,by simp(disch:=omega)only[ZA,simprocAttr,sub]⟩,λk=> ?_⟩
 obtain⟨⟨k,tl,op⟩,ai,G,aa,aj,z⟩:=k;simp only at ai G aa aj z;simp(disch:=omega)only[ZA,simprocAttr,Ak.d,Cl,isTile.q,isTile.fv,fitsC.q,fitsC.fv,AO];refine⟨λhk=>⟨hk,λx hx=> ?_⟩,λhk=> ?_⟩
 .rw[Qac7 hx] at z;by_cases Q:Bj x.Tile 0 ((s.Set.Tiles.length:Int) - 1)=true
  case neg=>
   refine⟨λh=>(Q h).elim,λ_=> ?_⟩;rw[Lv] at Q;rw[z,Q,F6,An rfl]
  refine⟨λ_=> ?_,λh=>(h Q).elim⟩;have ab:FR s.Set x.Tile:=by
   simp only[Bj,AS,BL] at Q;exact⟨Q.1,by omega⟩
  rw[Q,Eb] at z;refine⟨⟨q1,G,ab⟩,λZ=> ?_,λZ=>⟨λd3=> ?_,λd3=> ?_⟩⟩
  .rw[z,An Z]
  .rw[z,Af Z,An (by omega)]
  .rw[Af Z,Af (by omega)] at z;have ak:FD x.At:=by
    rw[FW] at Z;simp only[Ip,AS] at Z;exact ZJ Z.1
   have ah:NK ⟨s,tl,op⟩:=⟨q1,G,by simp only;omega⟩;obtain⟨u1,_,u3⟩:=bW x.At x.Tile tl aa;refine AE.os (⟨s,tl,op⟩,x.At,x.Tile) [6,4,5] ⟨ah,ak,ab⟩ (λj=>Gd _ j) rfl rfl ?_ ?_
   .simp(disch:=omega)only[ZA,simprocAttr,putC.ca,B5,BV,De,EE]
   .simp(disch:=omega)only[ZA,simprocAttr,putC.H1,Dx,sub,FP,De,EE];exact⟨⟨(k+1,Bf tl x.At x.Tile,Gn s (Cs (Bf tl x.At x.Tile)) (DA op x.At) x.At 4),by simp only;exact⟨by omega,ME G ab,u1,by omega,z⟩⟩,by simp only;omega,by rw[AG (by omega) (by omega)];simp only;omega,rfl,rfl⟩
 .rw[Dr (by omega),Gf] at z;refine AE.os ⟨s,tl,op⟩ [6,4,5] ⟨aa,by simp only;omega⟩ (λj=>Gd _ j) rfl rfl ?_ ?_
  .simp(disch:=omega)only[ZA,simprocAttr,asmC.ca,B5,BV,De,EE]
  .simp(disch:=omega)only[ZA,simprocAttr,Ak.d,asmC.H1,nC,IJ,De,EE];rw[z]
end Go.Ae
namespace Go.Ae
end Go.Ae
namespace Go.Ae
open Go.Proofs
def YS(s:Ax)(l:List Ap):Jr s l=Cw s l:=by
 simp only[Jr,Cw,bX];by_cases c1:F3 s=false
 .rw[An c1,An c1]
 rw[Af c1,Af c1];rw[FW] at c1;obtain⟨⟨q1,z,O,_⟩,_⟩:=H5 c1;rw[oU O l (Ci s.Seed.Tiles) s.Seed s.Seed.Tiles.length 0 (RM.of z.1 (λx G=>(z.2 x G).1)) z]
def DW(s:AC)(f:Ab->Int)(p:Ab)(t:Int):Nat->Int
 |0=>0
 |k+1=>DW s f p t k+(if 0<Gp s f p t k then 2^k else 0)
def cU(s:AC)(f:Ab->Int)(p:Ab)(t:Int): ∀k,0<=DW s f p t k/\DW s f p t k<2^k
 |0=>by simp[DW]
 |k+1=>by
  have:=cU s f p t k
  have e:(2:Int)^(k+1)=2^k*2:=Int.pow_succ ..;simp only[DW]
  split<;>omega
def AX:Ak->List Ap->Ak
 |b,[]=>b
 |b,o::r=>AX (BU b o.At o.Tile) r
def Wm: ∀(l:List Ap) (b:Ak) (o:Ap),AX b (l++[o])=BU (AX b l) o.At o.Tile
 |[],_,_=>rfl
 |x::r,b,o=>by simp only[CT,AX,Wm r]
def CI(s:Ax):Ak->List Ap->List Int
 |_,[]=>[]
 |b,o::r=>DW s.Set (Bb b) o.At o.Tile 4::CI s (BU b o.At o.Tile) r
def CC(s:Ax):Ak->List Ap->List Int
 |_,[]=>[]
 |b,o::r=>C9 s.Set (Bb b) o.At o.Tile 4::CC s (BU b o.At o.Tile) r
def cB(s:Ax): ∀(l:List Ap) (b:Ak) (o:Ap),CI s b (l++[o])=CI s b l++[DW s.Set (Bb (AX b l)) o.At o.Tile 4]
 |[],_,_=>rfl
 |x::r,b,o=>by simp only[CT,CI,cB s r,AX]
def cC(s:Ax): ∀(l:List Ap) (b:Ak) (o:Ap),CC s b (l++[o])=CC s b l++[C9 s.Set (Bb (AX b l)) o.At o.Tile 4]
 |[],_,_=>rfl
 |x::r,b,o=>by simp only[CT,CC,cC s r,AX]
def QE(s:Ax): ∀(l:List Ap) (b:Ak),(CI s b l).length=l.length
 |[],_=>rfl
 |x::r,b=>by simp only[CI,CP,QE s r]
def QF(s:Ax): ∀(l:List Ap) (b:Ak),(CC s b l).length=l.length
 |[],_=>rfl
 |x::r,b=>by simp only[CC,CP,QF s r]
def JS(s:Ax)(b:Ak)(l:List Ap):Prop:= ∀k o,l[k]? =some o->Dv s (AX b (l.take k)) o=true/\(AX b (l.take k)).Tiles.length<500
def pD{s:Ax}: ∀(l:List Ap) (b:Ak) (i:Nat),(CM s b l i).2.2=0->CM s b l i=(AX b l,0,0)/\JS s b l
 |[],b,i,_=>⟨rfl,λk o h=>by simp at h⟩
 |x::r,b,i,h=>by
  simp only[CM] at h⊢;by_cases c1:Dv s b x=false
  .rw[An c1] at h;simp at h
  rw[Af c1] at h⊢;by_cases G:500<=b.Tiles.length
  .rw[An G] at h;simp at h
  rw[Af G] at h⊢;obtain⟨O,Q⟩:=pD r _ _ h;refine⟨O,λk o z=> ?_⟩;cases k with
  |zero=>
   simp only[GF,AJ] at z;subst z;rw[FW] at c1;exact⟨by simpa[AX] using c1,by simp only[Rq,AX];omega⟩
  |succ k=>
   rw[HJ] at z;simp only[Lr,AX];exact Q k o z
def JU{s:Ax}(hs:s.Set.Tiles.length<=160){b:Ak}(hb:DP s.Set b){l:List Ap}(h:JS s b l): ∀k,k<=l.length->DP s.Set (AX b (l.take k))
 |0,_=>by simpa[AX] using hb
 |k+1,z=>by
  obtain⟨o,ho⟩: ∃o,l[k]? =some o:=⟨_,Bk (by omega)⟩;rw[Kl ho,Wm];exact QN hs (JU hs hb h k (by omega)) (h k o ho).1
def GN{s:Ax}{b:Ak}{o:Ap}(h:Dv s b o=true):E3 o.At=true/\FD o.At/\0<=o.Tile/\o.Tile<s.Set.Tiles.length/\FR s.Set o.Tile/\(∀x∈b.Tiles,x.At≠o.At):=by
 simp only[Dv,AS,BL] at h;obtain⟨G,z,O,_⟩:=h;simp only[Bj,AS,BL] at z;exact⟨G,ZJ G,z.1,by omega,⟨z.1,by omega⟩,Qma O⟩
def Es(m d:Int):Bool:=decide (Ot .i64 (m.fdiv (2^min d.toNat 64)) 1=1)
def BP(b:Bool)(k:Nat):Int:=if b=true then 2^k else 0
def SG: ∀z b1 b2 b3:Bool,Es (0+BP z 0+BP b1 1+BP b2 2+BP b3 3) 0=z/\Es (0+BP z 0+BP b1 1+BP b2 2+BP b3 3) 1=b1/\Es (0+BP z 0+BP b1 1+BP b2 2+BP b3 3) 2=b2/\Es (0+BP z 0+BP b1 1+BP b2 2+BP b3 3) 3=b3:=by
 intro z b1 b2 b3;cases z<;>cases b1<;>cases b2<;>cases b3<;>decide
def TN{m:Int}{k:Nat}(G:k<4)(h0:0<=m)(z:m<2^k):orI .i64 m (2^k)=m+2^k:=by
 rcases (by omega:k=0\/k=1\/k=2\/k=3) with rfl|rfl|rfl|rfl
 .obtain rfl:m=0:=by omega
  decide
 .rcases (by omega:m=0\/m=1) with rfl|rfl<;>decide
 .rcases (by omega:m=0\/m=1\/m=2\/m=3) with rfl|rfl|rfl|rfl<;>decide
 .rcases (by omega:m=0\/m=1\/m=2\/m=3\/m=4\/m=5\/m=6\/m=7) with rfl|rfl|rfl|rfl|rfl|rfl|rfl|rfl<;>decide
def EN(l:List Ap)(q:Ab):Int:=Bs (λo:Ap=>decide (o.At=q)) 0 l
def dT{l:List Ap}(hd:(l.map Ap.At).Nodup){q:Ab}{k:Nat}(h:l[k]?.map Ap.At=some q):EN l q=k:=by
 rcases QW (λo:Ap=>decide (o.At=q)) l 0 with ⟨z,O⟩|⟨i,x,z,O,h3⟩
 .exfalso;cases hx:l[k]? with
  |none=>rw[hx] at h;cases h
  |some y=>
   rw[hx] at h
   have:=aB.1 z y (AZ hx)
   simp at this h;exact this h
 .have G:x.At=q:=by simpa using Rp z
  simp only[EN,O]
  have:i=k:=by
   have Q:(l.map Ap.At)[i]? =some q:=by rw[D2,h3];simp[G]
   have Z:(l.map Ap.At)[k]? =some q:=by rw[D2];exact h
   obtain⟨g1,f1⟩:=Ce.1 Q;obtain⟨g2,f2⟩:=Ce.1 Z;exact (List.getElem_inj hd).1 (f1.trans f2.symm)
  omega
def Mf{l:List Ap}{q:Ab}{k:Int}(h:EN l q=k)(h0:0<=k):l[k.toNat]?.map Ap.At=some q:=by
 rcases QW (λo:Ap=>decide (o.At=q)) l 0 with ⟨O,z⟩|⟨i,x,O,z,Q⟩
 .simp only[EN,z] at h;omega
 .have G:x.At=q:=by simpa using Rp O
  simp only[EN,z] at h;rw[show k.toNat=i by omega,Q];simp[G]
def cK{x:Al}: ∀(l:List Ap) (b:Ak),x∈(AX b l).Tiles↔x∈b.Tiles\/ ∃o∈l,x=⟨o.At,o.Tile⟩
 |[],b=>by simp[AX]
 |o::r,b=>by
  simp only[AX,cK r,WV,tK,Bm];constructor
  .rintro ((h|h)|⟨y,z,h⟩)
   .exact .inr ⟨o,.inl rfl,h⟩
   .exact .inl h
   .exact .inr ⟨y,.inr z,h⟩
  .rintro (h|⟨y,rfl|z,h⟩)
   .exact .inl (.inr h)
   .exact .inl (.inl h)
   .exact .inr ⟨y,z,h⟩
def pJ{s:Ax}{b:Ak}{l:List Ap}(h:JS s b l):(l.map Ap.At).Nodup:=by
 rw[ZdI,List.pairwise_map,Zdh];intro i j Q Z G z;have O:=(GN (h j l[j] (Bk Z)).1).2.2.2.2.2;refine O ⟨l[i].At,l[i].Tile⟩ ?_ z;rw[cK];refine .inr ⟨l[i],?_,rfl⟩;rw[Ku];exact⟨i,by rw[ZdP G];exact Bk Q⟩
def gS{a:Ak}{q:Ab}(h:0<=Bb a q): ∃x∈a.Tiles,x.At=q:=by
 simp only[Bb] at h;cases hf:a.Tiles.find? (λx=>decide (x.At=q)) with
 |none=>rw[hf] at h;simp at h
 |some x=>exact⟨x,mN hf,by simpa using Rp hf⟩
def FL{A:Type}(l:List A):Option (List A):=if l=[] then none else some l
abbrev Ei(s:Ax)(f:Ab->Int)(q:Ab):List Int:=Gm s f q s.Set.Tiles.length
def JO(s:Ax)(f:Ab->Int)(op:List (Ab×List Int)):Prop:=(op.map Prod.fst).Nodup/\ ∀q,B9 op q=FL (Ei s f q)
def Wx{s:Ax}{f:Ab->Int}{q:Ab}(h: ∀k:Int,Ip s f q k=false): ∀n,Gm s f q n=[]
 |0=>rfl
 |n+1=>by simp only[Gm,Wx h n,h,Hg];rfl
def qQ{s:Ax}{f:Ab->Int}{q:Ab}(h:0<=f q)(n:Nat):Gm s f q n=[]:=
 Wx (λk=>by simp only[Ip];rw[aK (show ¬f q<0 by omega)];simp) n
def pZ{s:AC}{f:Ab->Int}{q:Ab}{t:Int}(h: ∀d:Nat,d<4->f (Bu q d)<0): ∀k,k<=4->C9 s f q t k=0
 |0,_=>rfl
 |k+1,z=>by
  have:=h k (by omega)
  simp only[C9,pZ h k (by omega),Gp];rw[Af (by omega)];rfl
def pY{s:Ax}{f:Ab->Int}{q:Ab}(z:1<=s.Temperature)(h: ∀d:Nat,d<4->f (Bu q d)<0)(n:Nat):Gm s f q n=[]:=
 Wx (λk=>by simp only[Ip,pZ h 4 (AQ _)];rw[aK (show ¬s.Temperature<=0 by omega)];simp) n
def qM{s:AC}{f g:Ab->Int}{q:Ab}{t:Int}(h: ∀d:Nat,d<4->f (Bu q d)=g (Bu q d)): ∀k,k<=4->C9 s f q t k=C9 s g q t k
 |0,_=>rfl
 |k+1,z=>by simp only[C9,qM h k (by omega),Gp,h k (by omega)]
def qL{s:Ax}{f g:Ab->Int}{q:Ab}(h0:f q=g q)(h: ∀d:Nat,d<4->f (Bu q d)=g (Bu q d)): ∀n,Gm s f q n=Gm s g q n
 |0=>rfl
 |n+1=>by
  have e:Ip s f q n=Ip s g q n:=by simp only[Ip,h0,qM h 4 (AQ _)]
  simp only[Gm,qL h0 h n,e]
def KA{β:Type}{p:Ab}: ∀{l:List (Ab×β)},p∉l.map Prod.fst->B9 l p=none
 |[],_=>rfl
 |(k,v)::r,h=>by
  simp only[Bd,Bm,aN] at h;simp only[B9];rw[Af h.1,KA h.2]
def pW{β:Type}{p:Ab}: ∀{l:List (Ab×β)},p∈l.map Prod.fst-> ∃v,B9 l p=some v/\(p,v)∈l
 |[],h=>by simp at h
 |(k,v)::r,h=>by
  simp only[B9];by_cases c:p=k
  .rw[An c,c];exact⟨v,rfl,BT ..⟩
  .rw[Af c];obtain⟨w,z,G⟩:=pW (l:=r) (by simpa[c] using h);exact⟨w,z,BX _ G⟩
def iT{β:Type}{p:Ab}{l:List (Ab×β)}:p∈l.map Prod.fst↔B9 l p≠none:=by
 constructor
 .intro h;obtain⟨v,z,_⟩:=pW h;rw[z];simp
 .intro h;apply fY;intro G;exact h (KA G)
def pU{β:Type}{p q:Ab}: ∀{l:List (Ab×β)},q∈(DA l p).map Prod.fst->q∈l.map Prod.fst
 |[],h=>by simp[DA] at h
 |(k,v)::r,h=>by
  simp only[DA] at h;split at h
  .exact BX _ h
  .simp only[Bd,Bm] at h⊢;rcases h with h|h
   .exact .inl h
   .exact .inr (pU h)
def dP{β:Type}{p:Ab}: ∀{l:List (Ab×β)},(l.map Prod.fst).Nodup->((DA l p).map Prod.fst).Nodup
 |[],h=>h
 |(k,v)::r,h=>by
  simp only[Bd,Ir] at h;simp only[DA];split
  .exact h.2
  .simp only[Bd,Ir];exact⟨λz=>h.1 (pU z),dP h.2⟩
def dN{β:Type}{p:Ab}(q:Ab): ∀{l:List (Ab×β)},(l.map Prod.fst).Nodup->B9 (DA l p) q=if q=p then none else B9 l q
 |[],_=>by simp[DA,B9]
 |(k,v)::r,h=>by
  simp only[Bd,Ir] at h;simp only[DA];by_cases c:p=k
  .rw[An c];by_cases e:q=p
   .rw[An e,e,c];exact KA h.1
   .rw[Af e];simp only[B9];rw[Af (λz=>e (z.trans c.symm))]
  .rw[Af c];simp only[B9];by_cases e:q=k
   .rw[An e,An e,Af (λz=>c (z.symm.trans e))]
   .rw[Af e,Af e,dN q h.2]
def Ny{β:Type}{p q:Ab}{v:β}: ∀{l:List (Ab×β)},q∈(Bf l p v).map Prod.fst↔q=p\/q∈l.map Prod.fst
 |[]=>by simp[Bf]
 |(k,w)::r=>by
  simp only[Bf];split
  .rename_i c;subst c;simp
  .simp only[Bd,Bm,Ny (l:=r)];constructor
   .rintro (h|h|h)
    .exact .inr (.inl h)
    .exact .inl h
    .exact .inr (.inr h)
   .rintro (h|h|h)
    .exact .inr (.inl h)
    .exact .inl h
    .exact .inr (.inr h)
def pV{β:Type}{p:Ab}{v:β}: ∀{l:List (Ab×β)},(l.map Prod.fst).Nodup->((Bf l p v).map Prod.fst).Nodup
 |[],_=>by simp[Bf]
 |(k,w)::r,h=>by
  simp only[Bd,Ir] at h;simp only[Bf];split
  .rename_i c;subst c;simp only[Bd,Ir];exact h
  .rename_i c;simp only[Bd,Ir];refine⟨λz=> ?_,pV h.2⟩;rcases Ny.1 z with e|e
   .exact c e.symm
   .exact h.1 e
def Tm{s:Ax}{f:Ab->Int}{op:List (Ab×List Int)}{q:Ab}(h:(op.map Prod.fst).Nodup):((JY s f op q).map Prod.fst).Nodup:=by
 simp only[JY];split
 .exact dP h
 .exact pV h
def Tk{s:Ax}{f:Ab->Int}{op:List (Ab×List Int)}{p:Ab}(h:(op.map Prod.fst).Nodup)(q:Ab):B9 (JY s f op p) q=if q=p then FL (Ei s f q) else B9 op q:=by
 simp only[JY];by_cases c:Gm s f p s.Set.Tiles.length=[]
 .rw[An c,dN q h];by_cases e:q=p
  .subst e;rw[An rfl,An rfl,FL,An c]
  .rw[Af e,Af e]
 .rw[Af c,mG];by_cases e:q=p
  .subst e;rw[An rfl,An rfl,FL,Af c]
  .rw[Af e,Af e]
def W6{s:Ax}{f:Ab->Int}{op:List (Ab×List Int)}{p:Ab}(h:(op.map Prod.fst).Nodup): ∀k,((Gn s f op p k).map Prod.fst).Nodup
 |0=>h
 |k+1=>Tm (W6 h k)
def JX(p q:Ab):Prop:= ∃d:Nat,d<4/\Bu p d=q
def qF{s:Ax}{f:Ab->Int}{op:List (Ab×List Int)}{p:Ab}(h:(op.map Prod.fst).Nodup)(q:Ab): ∀k,(∀d:Nat,d<k->Bu p d≠q)/\B9 (Gn s f op p k) q=B9 op q\/(∃d:Nat,d<k/\Bu p d=q)/\B9 (Gn s f op p k) q=FL (Ei s f q)
 |0=> .inl ⟨λd hd=>absurd hd (by omega),rfl⟩
 |k+1=>by
  have ih:=qF (s:=s) (f:=f) (p:=p) h q k;simp only[Gn,Tk (W6 h k)];by_cases c:q=Bu p k
  .rw[An c];exact .inr ⟨⟨k,by omega,c.symm⟩,rfl⟩
  .rw[Af c];rcases ih with ⟨G,z⟩|⟨⟨d,G,z⟩,O⟩
   .refine .inl ⟨λd hd=> ?_,z⟩;by_cases e:d=k
    .subst e;exact λh=>c h.symm
    .exact G d (by omega)
   .exact .inr ⟨⟨d,by omega,z⟩,O⟩
def bC{s:Ax}{f:Ab->Int}{op:List (Ab×List Int)}{p:Ab}(h:(op.map Prod.fst).Nodup)(q:Ab):(¬JX p q/\B9 (Gn s f op p 4) q=B9 op q)\/(JX p q/\B9 (Gn s f op p 4) q=FL (Ei s f q)):=by
 rcases qF (s:=s) (f:=f) h q 4 with ⟨z,G⟩|h
 .exact .inl ⟨λ⟨d,hd,e⟩=>z d hd e,G⟩
 .exact .inr h
def PH(p:Ab){d:Nat}(h:d<4):Bu (Bu p d) ((d+2) % 4:Nat)=p:=by
 rcases (by omega:d=0\/d=1\/d=2\/d=3) with rfl|rfl|rfl|rfl<;>simp[Bu]<;>omega
def dG{p q:Ab}(h:JX p q):JX q p:=by
 obtain⟨d,hd,rfl⟩:=h;exact⟨(d+2) % 4,by omega,PH p hd⟩
def dA{s:Ax}{f:Ab->Int}(q:Ab): ∀(l:List Al) (op:List (Ab×List Int)),(op.map Prod.fst).Nodup->
 ((l.foldl (λo x=>Gn s f o x.At 4) op).map Prod.fst).Nodup/\((∀x∈l,¬JX x.At q)/\B9 (l.foldl (λo x=>Gn s f o x.At 4) op) q=B9 op q\/(∃x∈l,JX x.At q)/\B9 (l.foldl (λo x=>Gn s f o x.At 4) op) q=FL (Ei s f q))
 |[],op,h=>⟨h,.inl ⟨by simp,rfl⟩⟩
 |x::r,op,h=>by
  simp only[gJ];obtain⟨G,O⟩:=dA (s:=s) (f:=f) q r (Gn s f op x.At 4) (W6 h 4);refine⟨G,?_⟩;rcases O with ⟨a,b⟩|⟨⟨y,z,a⟩,b⟩
  .rcases bC (s:=s) (f:=f) (p:=x.At) h q with ⟨c,e⟩|⟨c,e⟩
   .refine .inl ⟨λy z=> ?_,b.trans e⟩;rcases Bm.1 z with rfl|z
    .exact c
    .exact a y z
   .exact .inr ⟨⟨x,BT ..,c⟩,b.trans e⟩
  .exact .inr ⟨⟨y,BX _ z,a⟩,b⟩
def Zs{l:List Al}: ∀{q:Ab},0<=Cs (Ci l) q-> ∃x∈l,x.At=q:=by
 have G: ∀(l:List Al) (t:List (Ab×Int)) (q:Ab),B9 (l.foldl (λt x=>Bf t x.At x.Tile) t) q≠none->(∃x∈l,x.At=q)\/B9 t q≠none:=by
  intro l;induction l with
  |nil=>intro t q h;exact .inr h
  |cons x r ih=>
   intro t q h;rcases ih _ q h with ⟨y,O,e⟩|z
   .exact .inl ⟨y,BX _ O,e⟩
   .rw[mG] at z;split at z
    .rename_i e;exact .inl ⟨x,BT ..,e.symm⟩
    .exact .inr z
 intro q h;rcases G l [] q (λe=>by
  simp only[Cs,Ci,e,Option.getD_none] at h;omega) with z|z
 .exact z
 .simp[B9] at z
def TL{s:Ax}{l:List Al}(O:1<=s.Temperature):JO s (Cs (Ci l)) (HY s (Cs (Ci l)) l):=by
 have hn:(([]:List (Ab×List Int)).map Prod.fst).Nodup:=by simp
 refine⟨(dA ⟨0,0⟩ l [] hn).1,λq=> ?_⟩;rcases (dA (s:=s) (f:=Cs (Ci l)) q l [] hn).2 with ⟨G,z⟩|⟨_,z⟩
 .rw[HY,z]
  have:Ei s (Cs (Ci l)) q=[]:=by
   refine pY O (λd hd=> ?_) _;apply fY;intro h;obtain⟨x,Q,e⟩:=Zs (l:=l) (q:=Bu q d) (by omega);exact G x Q (dG (e▸⟨d,hd,rfl⟩))
  rw[FL,An this];rfl
 .exact z
def jJ{s:Ax}{z:List (Ab×Int)}{op:List (Ab×List Int)}{p:Ab}{t:Int}(h:JO s (Cs z) op)(ht:0<=t):
 JO s (Cs (Bf z p t)) (Gn s (Cs (Bf z p t)) (DA op p) p 4):=by
 have hn:=dP (p:=p) h.1;have G: ∀q,Cs (Bf z p t) q=if q=p then t else Cs z q:=λq=>by
  simp only[Cs,mG];split<;>rfl
 refine⟨W6 hn 4,λq=> ?_⟩;rcases bC (s:=s) (f:=Cs (Bf z p t)) (p:=p) hn q with ⟨Z,O⟩|⟨_,O⟩
 .rw[O,dN q h.1];by_cases e:q=p
  .rw[An e,FL,An (qQ (by rw[G,An e];exact ht) _)]
  .rw[Af e,h.2 q]
   have:Ei s (Cs (Bf z p t)) q=Ei s (Cs z) q:=by
    refine qL (by rw[G,Af e]) (λd hd=> ?_) _;rw[G,Af];intro Q;exact Z (dG ⟨d,hd,Q⟩)
   rw[this]
 .exact O
def DS(p:Ab):List Ab->List Ab
 |[]=>[p]
 |y::r=>if Bt y p=true then y::DS p r else if y=p then y::r else p::y::r
def BZ(l:List Ab):List Ab:=l.foldr DS []
abbrev JD(l:List Ab):Prop:=l.Pairwise λa b=>Bt a b=true
def W3{a b c:Ab}(z:Bt a b=true)(G:Bt b c=true):Bt a c=true:=by simp only[Bt] at*;grind
def pS(a:Ab):Bt a a=false:=by simp[Bt]
def pX{a b:Ab}(Z:Bt a b=false)(h2:a≠b):Bt b a=true:=by
 obtain⟨G,O⟩:=a;obtain⟨Q,z⟩:=b;simp only[Bt,ne_eq,Ab.mk.injEq] at*
 grind
def W0{p q:Ab}: ∀{l:List Ab},q∈DS p l↔q=p\/q∈l
 |[]=>by simp[DS]
 |y::r=>by
  simp only[DS];split
  .simp only[Bm,W0 (l:=r)];constructor
   .rintro (h|h|h)
    .exact .inr (.inl h)
    .exact .inl h
    .exact .inr (.inr h)
   .rintro (h|h|h)
    .exact .inr (.inl h)
    .exact .inl h
    .exact .inr (.inr h)
  .split
   .rename_i c;subst c;simp
   .simp
def dC{p:Ab}: ∀{l:List Ab},JD l->JD (DS p l)
 |[],_=>by simp[DS]
 |y::r,h=>by
  rw[JD,VM] at h;simp only[DS];split
  .rename_i c;rw[JD,VM];refine⟨λz G=> ?_,dC h.2⟩;rcases W0.1 G with rfl|G
   .exact c
   .exact h.1 z G
  .rename_i c;split
   .rw[JD,VM];exact h
   .rename_i e;have O:=pX (by simpa using c) e;rw[JD,VM,VM];refine⟨λz G=> ?_,h⟩;rcases Bm.1 G with rfl|G
    .exact O
    .exact W3 O (h.1 z G)
def NQ: ∀(l:List Ab),JD (BZ l)
 |[]=>List.Pairwise.nil
 |_::r=>dC (NQ r)
def JZ{q:Ab}: ∀{l:List Ab},q∈BZ l↔q∈l
 |[]=>by simp[BZ]
 |x::r=>by
  have:BZ (x::r)=DS x (BZ r):=rfl
  rw[this,W0,JZ (l:=r),Bm]
def KC{l:List Ab}(h:JD l):l.Nodup:=by
 refine ZeE (λ{a b} z e=> ?_) h;rw[e,pS] at z;cases z
def dJ{l m:List Ab}(z:JD l)(G:JD m)(h: ∀q,q∈l↔q∈m):l=m:=by
 have hp:l.Perm m:=(Zes (KC z) (KC G)).2 h;refine ZeF (le:=λa b=>Bt a b=true) (λa b _ _ g1 g2=> ?_) z G hp
 have:=W3 g1 g2
 rw[pS] at this;cases this
def DL(a:Ak)(p:Ab)(l:List Ab):Nat->List Ab
 |0=>l
 |k+1=>if E3 (Bu p k)=true/\Bb a (Bu p k)<0 then DS (Bu p k) (DL a p l k) else DL a p l k
def C3(a:Ak):Nat->List Ab
 |0=>[]
 |i+1=>DL a ((a.Tiles[i]?.map Al.At).getD ⟨0,0⟩) (C3 a i) 4
def Wz{a:Ak}{p:Ab}{l:List Ab}(h:JD l): ∀k,JD (DL a p l k)
 |0=>h
 |k+1=>by
  simp only[DL];split
  .exact dC (Wz h k)
  .exact Wz h k
def dH(a:Ak): ∀i,JD (C3 a i)
 |0=>List.Pairwise.nil
 |i+1=>Wz (dH a i) 4
def qA{a:Ak}{p q:Ab}{l:List Ab}: ∀k,q∈DL a p l k↔q∈l\/(E3 q=true/\Bb a q<0)/\ ∃d:Nat,d<k/\Bu p d=q
 |0=>by simp[DL]
 |k+1=>by
  simp only[DL];have ih:=qA (a:=a) (p:=p) (q:=q) (l:=l) k;split
  .rename_i c;rw[W0,ih];constructor
   .rintro (rfl|h|⟨h,d,G,z⟩)
    .exact .inr ⟨c,k,by omega,rfl⟩
    .exact .inl h
    .exact .inr ⟨h,d,by omega,z⟩
   .rintro (h|⟨h,d,G,z⟩)
    .exact .inr (.inl h)
    .by_cases e:d=k
     .subst e;exact .inl z.symm
     .exact .inr (.inr ⟨h,d,by omega,z⟩)
  .rename_i c;rw[ih];constructor
   .rintro (h|⟨h,d,G,z⟩)
    .exact .inl h
    .exact .inr ⟨h,d,by omega,z⟩
   .rintro (h|⟨h,d,G,z⟩)
    .exact .inl h
    .by_cases e:d=k
     .subst e;subst z;exact absurd h c
     .exact .inr ⟨h,d,by omega,z⟩
def QG{a:Ak}{q:Ab}: ∀i,i<=a.Tiles.length->(q∈C3 a i↔(E3 q=true/\Bb a q<0)/\ ∃x∈a.Tiles.take i,JX x.At q)
 |0,_=>by simp[C3]
 |i+1,Q=>by
  have O:a.Tiles[i]? =some (a.Tiles[i]'(by omega)):=Bk (by omega);simp only[C3];rw[qA,QG i (by omega),Kl O,O,CQ,AM];constructor
  .rintro (⟨h,x,z,G⟩|⟨h,G⟩)
   .exact⟨h,x,Kv _ z,G⟩
   .exact⟨h,_,Rl _ (BT ..),G⟩
  .rintro⟨h,x,z,G⟩;rcases Bx.1 z with z|z
   .exact .inl ⟨h,x,z,G⟩
   .rw[BK] at z;subst z;exact .inr ⟨h,G⟩
def DR(s:Ax)(f:Ab->Int)(q:Ab):Nat->List Int
 |0=>[]
 |k+1=>DR s f q k++(if s.Temperature<=C9 s.Set f q k 4 then [(k:Int)] else [])
def W7(s:Ax)(f:Ab->Int)(q:Ab): ∀k,(DR s f q k).length<=k
 |0=>by simp[DR]
 |k+1=>by
  have:=W7 s f q k
  simp only[DR,Dq]
  split<;>simp<;>omega
def qH{s:Ax}{f:Ab->Int}{q:Ab}(z:E3 q=true)(G:f q<0): ∀n,Gm s f q n=DR s f q n
 |0=>rfl
 |n+1=>by
  simp only[Gm,DR,qH z G n,Ip,z,vQ G,Eb,BL]
def OS(p:Ab)(k:Int):Ap:=⟨p,k⟩
def C4(g:Ab->List Int)(l:List Ab):List Ap:=l.flatMap λp=>(g p).map (OS p)
def Co(s:Ax)(a:Ak):List Ap:=C4 (λp=>DR s (Bb a) p s.Set.Tiles.length) (C3 a a.Tiles.length)
def GQ(op:List (Ab×List Int)):List Ap:=C4 (λp=>(B9 op p).getD []) (BZ (op.map Prod.fst))
def pT{g:Ab->List Int}: ∀(l:List Ab),C4 g (l.filter λp=> !(g p).isEmpty)=C4 g l
 |[]=>rfl
 |p::r=>by
  have ih:=pT (g:=g) r;simp only[C4] at ih;simp only[C4,Zec];split
  .simp only[GG,ih]
  .rename_i c
   have:g p=[]:=by simpa using c
   simp only[GG,ih,this,Gq,Hg]
def cZ{g h:Ab->List Int}: ∀(l:List Ab),(∀p∈l,g p=h p)->C4 g l=C4 h l
 |[],_=>rfl
 |p::r,z=>by
  simp only[C4,GG];rw[z p (BT ..)]
  have:=cZ r λq hq=>z q (BX _ hq)
  simp only[C4] at this;rw[this]
def Xs{a:Ak}{q:Ab}(h:0<=Bb a q): ∃x∈a.Tiles,x.At=q:=by
 simp only[Bb] at h;cases e:a.Tiles.find? (λx=>decide (x.At=q)) with
 |none=>rw[e] at h;simp at h
 |some x=>exact⟨x,mN e,by simpa using Rp e⟩
def TM{s:Ax}{a:Ak}{op:List (Ab×List Int)}(hT:1<=s.Temperature)(h:JO s (Bb a) op):GQ op=Co s a:=by
 have G: ∀q,Ei s (Bb a) q≠[]->q∈C3 a a.Tiles.length:=λq hq=>by
  rw[QG _ (AQ _),Gs];have h0:Bb a q<0:=by
   apply fY;intro c;exact hq (qQ (by omega) _)
  have hp:E3 q=true:=by
   apply fY;intro c;exact hq (Wx (λk=>by simp only[Ip];rw[Lv] at c;rw[c];rfl) _)
  refine⟨⟨hp,h0⟩,?_⟩;apply fY;intro c;refine hq (pY hT (λd hd=> ?_) _);apply fY;intro c2;obtain⟨x,hx,e⟩:=Xs (a:=a) (q:=Bu q d) (by omega);exact c ⟨x,hx,dG ⟨d,hd,e.symm⟩⟩
 have Q: ∀q∈C3 a a.Tiles.length,DR s (Bb a) q s.Set.Tiles.length=Ei s (Bb a) q:=λq hq=>by
  rw[QG _ (AQ _)] at hq;exact (qH hq.1.1 hq.1.2 _).symm
 have O: ∀q,(B9 op q).getD []=Ei s (Bb a) q:=λq=>by
  rw[h.2 q,FL];split
  .rename_i e;rw[e];rfl
  .rfl
 have Z:Co s a=C4 (Ei s (Bb a)) (C3 a a.Tiles.length):=cZ _ Q;have e2:GQ op=C4 (Ei s (Bb a)) (BZ (op.map Prod.fst)):=cZ _ λq _=>O q
 rw[Z,e2,<-pT (C3 a a.Tiles.length)];congr 1;refine dJ (NQ _) ((dH a _).filter _) (λq=> ?_);rw[JZ,iT,h.2 q,FL,Xn];constructor
 .intro hq;have z:Ei s (Bb a) q≠[]:=λe=>hq (An e)
  exact⟨G q z,by simpa using z⟩
 .rintro⟨_,hq⟩;have z:Ei s (Bb a) q≠[]:=by simpa using hq
  rw[Af z];simp
def E8(p:Ab)(l:List Ab):Nat:=(l.takeWhile λy=>Bt y p).length
def qG(p:Ab): ∀(l:List Ab),DS p l=if l[E8 p l]? =some p then l else l.take (E8 p l)++p::l.drop (E8 p l)
 |[]=>by simp[DS,E8]
 |y::r=>by
  have ih:=qG p r;simp only[DS];by_cases c:Bt y p=true
  .have e:E8 p (y::r)=E8 p r+1:=by simp[E8,c]
   rw[An c,ih,e,HJ];split
   .rfl
   .simp
  .have e:E8 p (y::r)=0:=by simp[E8,c]
   rw[Af c,e];simp
def MC{p:Ab}: ∀{l:List Ab} {k:Nat},JD l->k<=l.length->(∀(i:Nat) (y:Ab),k<=i->l[i]? =some y->Bt y p=false)->(∀y,k≠0->l[k - 1]? =some y->Bt y p=true)->E8 p l=k
 |[],k,_,G,_,_=>by simp at G;simp[E8,G]
 |y::r,0,_,_,O,_=>by
  have:=O 0 y (AQ _) rfl
  simp[E8,this]
 |y::r,k+1,Z,G,O,Q=>by
  rw[JD,VM] at Z;have hy:Bt y p=true:=by
   cases k with
   |zero=>exact Q y (by omega) rfl
   |succ k=>
    have aa:k+1<(y::r).length:=by simp at G⊢;omega
    have h3:=Q _ (by omega) (Bk (l:=y::r) (i:=k+1) aa);refine W3 (Z.1 _ ?_) h3;simp
  have ih:=MC (p:=p) (l:=r) (k:=k) Z.2 (by simpa using G) (λi z hi hz=>O (i+1) z (by omega) (by simpa using hz)) (λz ab hz=>Q z (by omega) (by
   obtain⟨m,rfl⟩: ∃m,k=m+1:=⟨k - 1,by omega⟩;simpa using hz))
  simp only[E8] at ih;simp[E8,hy,ih]
def MZ(p:Ab)(l:List Ab)(i:Nat):List Ab:=(l++[p]).take (i+1)++l.drop i
def dD{p:Ab}{l:List Ab}{i:Nat}(h:i<=l.length):(MZ p l i).length=l.length+1:=by simp[MZ];omega
def YT(p:Ab)(l:List Ab):MZ p l l.length=l++[p]:=by simp[MZ,DQ]
def UK{p x:Ab}{l:List Ab}{i:Nat}(h:i+1<=l.length)(Z:(MZ p l (i+1))[i]? =some x):(MZ p l (i+1)).set (i+1) x=MZ p l i:=by
 have z:l[i]? =some x:=by
  rw[<-Z,MZ,ED (by simp;omega),aC,An (by omega),ED (by omega)]
 apply Kr;intro j;have Q:((l++[p]).take (i+1+1)).length=i+2:=by simp;omega
 have G:((l++[p]).take (i+1)).length=i+1:=by simp;omega
 by_cases c:j=i+1
 .subst c;rw[Du (by rw[dD h];omega),MZ,F4 (by omega),G,Hi,Iv,Qr,z]
 .rw[DK (EK c)];simp only[MZ];by_cases O:j<i+1
  .rw[ED (by omega),ED (by omega),aC,aC,An (by omega),An O]
  .rw[F4 (by omega),F4 (by omega),Q,G,Iv,Iv];congr 1;omega
def YU{p:Ab}{l:List Ab}{k:Nat}(h:k<=l.length):(MZ p l k).set k p=l.take k++p::l.drop k:=by
 apply Kr;intro j;have O:((l++[p]).take (k+1)).length=k+1:=by simp;omega
 have z:(l.take k).length=k:=by simp;omega
 by_cases c:j=k
 .subst c;rw[Du (by rw[dD h];omega),F4 (by omega),z,Hi];simp
 .rw[DK (EK c)];simp only[MZ];by_cases G:j<k
  .rw[ED (by omega),ED (by omega),aC,aC,An (by omega),An G,ED (by omega)]
  .obtain⟨m,rfl⟩: ∃m,j=k+1+m:=⟨j - (k+1),by omega⟩;rw[F4 (by omega),F4 (by omega),O,z,Iv,show k+1+m - k=m+1 by omega,HJ,Iv];congr 1;omega
def KN{p q:Ab}:((p.X==q.X)=true/\(p.Y==q.Y)=true)↔p=q:=by
 obtain⟨z,G⟩:=p;obtain⟨O,Q⟩:=q;simp
def putQ.ca(a:List Ab×Ab):List AV:=[.own 0,.im (.agg [.int .i64 a.2.X,.int .i64 a.2.Y])]
def putQ.H0(a:List Ab×Ab):Av:=[(0,(true,.arr 96 2 (a.1.map Ab.c)))]
def putQ.H1(a:List Ab×Ab):Av:=[(1,(true,.arr 96 2 ((DS a.2 a.1).map Ab.c)))]
def xD(j:Nat):Bool:=j==0
def putQ.row:AA:=AE putQ.ca putQ.H0 1 (λa=>JD a.1/\a.1.length<=1000000) xD (λ_=> .own 1) putQ.H1 1
def putQ.ok:AB Tryz.prog 189 putQ.row:=by
 refine M8 (tC l_LessPoint.ok tN) Tryz.func189 rfl (by kernel_rfl) (exB:=λj=>j==1) (R:=λ_ r=>r= .own 1) (λ_=>rfl)
  (λa=>by simp[putQ.ca,putQ.H0,Aq,AV.bel,Ac,A8,BO,Ad.nms,Ao,hget]) (λa p hp=> ?_) (λa r h=>by subst h;exact CF.refl _) ?_
 rotate_left
 intro a af;simp only[Tryz.f189,putQ.ca,putQ.H0,putQ.H1];simp(disch:=omega)only[ZA,simprocAttr];rotate_left
 .simp[putQ.H1] at hp;subst hp;exact .inr ⟨by omega,by omega,rfl,rfl⟩
 obtain⟨l,p⟩:=a;obtain⟨hl,hn⟩:=af;simp only at hl hn⊢;intro _;refine AP.old ⟨{k:Nat//k<=l.length/\ ∀(i:Nat) (y:Ab),k<=i->l[i]? =some y->Bt y p=false},λk=>⟨[(5,.im (.int .i64 k.1)),(3,.ptr 1 0),(0,.own 0)],[(1,(true,.cells 96 [.im (.int .i64 p.X),.im (.int .i64 p.Y)])),(0,(true,.arr 96 2 (l.map Ab.c)))],3⟩,λk=>k.1,λk=>⟨by simp[Ai.good,Am,Ac,A8,AV.bel,Aq],by simp⟩,⟨⟨l.length,AQ _,λi y hi Z=>by rw[FG hi] at Z;cases Z⟩,by simp(disch:=omega)only[ZA,simprocAttr,sub]⟩,λk=> ?_⟩;obtain⟨k,hk,ac⟩:=k;simp(disch:=omega)only[ZA,simprocAttr,l_LessPoint.q,l_LessPoint.fv,Fe,D6,sub,AO];have Q:0<k->IntKind.i64.wrap ((k:Int) - 1)=((k - 1:Nat):Int):=λh=>by rw[AG (by omega) (by omega)];omega
 refine⟨λab=>⟨by rw[Q (by omega)];omega,by rw[Q (by omega)];omega,by rw[Q (by omega)];omega,λx hx=>⟨λaa=> ?r,λaa=>⟨λO=>⟨O,O,λy Z=>⟨λe=> ?a1,λe=> ?b1⟩⟩,λO=> ?b2⟩⟩⟩,λab=>⟨λO=>⟨O,O,λy Z=>⟨λe=> ?a2,λe=> ?b3⟩⟩,λO=> ?b4⟩⟩
 case r=>
  rw[Q (by omega),B0] at hx;refine⟨⟨k - 1,by omega,λi y hi Z=> ?_⟩,by simp only;omega,by rw[Q (by omega)]⟩;by_cases c:i=k - 1
  .subst c;obtain rfl:=AD (hx.symm.trans Z);exact aa
  .exact ac i y (by omega) Z
 all_goals
  have ad:E8 p l=k:=MC hl hk ac (λy aq Z=>by
   first
    |(rw[Q (by omega),B0] at hx;obtain rfl:=AD (hx.symm.trans Z);simpa using aa)
    |(exact absurd (by omega) ab))
  have G:=qG p l;rw[ad] at G
 case a1=>
  have ey:y=p:=KN.1 e;rw[Z,ey,An rfl] at G;refine⟨[],[(1,some 0)],⟨[(4,.own 1)],putQ.H1 (l,p),2⟩,?_,by simp[putQ.H1,Ai.good,Am,Ac,A8,AV.bel],by simp,?_⟩
  .simp only[Ay,putQ.H1,G];simp(disch:=omega)only[ZA,simprocAttr]
  .simp(disch:=omega)only[ZA,simprocAttr,putQ.H1,xD,putQ.H1]
 case a2=>
  have ey:y=p:=KN.1 e;rw[Z,ey,An rfl] at G;refine⟨[],[(1,some 0)],⟨[(4,.own 1)],putQ.H1 (l,p),2⟩,?_,by simp[putQ.H1,Ai.good,Am,Ac,A8,AV.bel],by simp,?_⟩
  .simp only[Ay,putQ.H1,G];simp(disch:=omega)only[ZA,simprocAttr]
  .simp(disch:=omega)only[ZA,simprocAttr,putQ.H1,xD,putQ.H1]
 all_goals
  have am:l[k]? ≠some p:=λh=>by
   first
    |(obtain rfl:=AD (Z.symm.trans h);exact e (KN.2 rfl))
    |(rw[FG (by omega)] at h;cases h)
  rw[Af am] at G;have ah:l.map Ab.c++[[D.int .i64 p.X,D.int .i64 p.Y]]=(l++[p]).map Ab.c:=by rw[GH];rfl
  rw[ah];refine⟨by omega,λ_=> ?_⟩;refine AP.old ⟨{i:Nat//k<=i/\i<=l.length},λi=>⟨[(6,.im (.int .i64 i.1)),(5,.im (.int .i64 k)),(0,.own 4),(3,.ptr 1 0)],[(4,(true,.arr 96 2 ((MZ p l i.1).map Ab.c))),(1,(true,.cells 96 [.im (.int .i64 p.X),.im (.int .i64 p.Y)]))],5⟩,λi=>i.1,λi=>⟨by simp[Ai.good,Am,Ac,A8,AV.bel,Aq],by simp⟩,⟨⟨l.length,hk,AQ _⟩,?_⟩,λi=> ?_⟩
  .simp(disch:=omega)only[ZA,simprocAttr,sub,YT];rw[Dq,Zdz,AG (by omega) (by omega)];omega
  obtain⟨i,au,ai⟩:=i;have ao:=dD (p:=p) ai;simp(disch:=omega)only[ZA,simprocAttr,Fe,sub,AO,ao];refine⟨λak=> ?_,λak=>⟨by omega,by omega,λx hx=> ?_⟩⟩
  .have aj:IntKind.i64.wrap ((i:Int) - 1)=((i - 1:Nat):Int):=by rw[AG (by omega) (by omega)];omega
   rw[aj,B0];refine⟨by omega,by omega,by omega,λx hx=>⟨by omega,by omega,λz hz=>⟨⟨i - 1,by omega,by omega⟩,by simp only;omega,rfl,?_⟩⟩⟩;have ag:=UK (p:=p) (x:=x) (l:=l) (i:=i - 1) (by omega) (by rwa [show i - 1+1=i by omega]);rw[show i - 1+1=i by omega] at ag;rw[<-ag,Ly];rfl
  .obtain rfl:i=k:=by omega
   have an:((MZ p l i).map Ab.c).set i [D.int .i64 p.X,D.int .i64 p.Y]=(DS p l).map Ab.c:=by
    rw[G,<-YU hk,Ly];rfl
   refine⟨[],[(1,some 4)],⟨[(4,.own 1)],putQ.H1 (l,p),2⟩,?_,by simp[putQ.H1,Ai.good,Am,Ac,A8,AV.bel],by simp,?_⟩
   .simp only[Ay,putQ.H1,an];simp(disch:=omega)only[ZA,simprocAttr]
   .simp(disch:=omega)only[ZA,simprocAttr,putQ.H1,xD,putQ.H1]
def Ue(a:List Ab×Ab)(j:Nat):Ao (putQ.H0 a) j=true↔j<1:=by
 simp only[Ao,putQ.H0,hget];by_cases z:j=0
 .subst z;simp
 .have:(0==j)=false:=by simpa using λh=>z h.symm
  rw[this];simp;omega
def qJ(p:Ab): ∀(l:List Ab),(DS p l).length<=l.length+1
 |[]=>by simp[DS]
 |y::r=>by
  have:=qJ p r
  simp only[DS];split
  .simp only[CP];omega
  .split<;>simp
def dF(a:Ak)(p:Ab)(l:List Ab): ∀k,(DL a p l k).length<=l.length+k
 |0=>by simp[DL]
 |k+1=>by
  have:=dF a p l k
  simp only[DL];split
  .have:=qJ (Bu p k) (DL a p l k);omega
  .omega
def Wy(a:Ak): ∀i,(C3 a i).length<=4*i
 |0=>by simp[C3]
 |i+1=>by
  have:=Wy a i
  have:=dF a ((a.Tiles[i]?.map Al.At).getD ⟨0,0⟩) (C3 a i) 4
  simp only[C3];omega
def nearS_.fv(a:Ak):List Ab:=(λa=>C3 a a.Tiles.length) a
def nearS_.row:AA:=vK (b1 (qP 1 Ak.d_le)) (rS Ab.d_le Ab.c_n) (λa=>Dl none a.Tiles=true/\a.Tiles.length<=1000/\ ∃s,∀x∈a.Tiles,FR s x.Tile) nearS_.fv
def nearS_.q:=AT (R:=nearS_.row) rfl
def nearS_.ok:AB Tryz.prog 142 nearS_.row:=by
 refine vw (tC l01Step.ok (tC l01Point.ok (tC l03Index.ok (tC putQ.ok tN)))) Tryz.func142 rfl (by kernel_rfl) ?_;intro a Z;simp only[Tryz.f142];simp(disch:=omega)only[ZA,simprocAttr,nearS_.fv];obtain⟨h1,h2,s0,h3⟩:=Z;refine AP.ren ⟨{i:Nat//i<=a.Tiles.length},λi=>⟨[(4,.im (.int .i64 i.1)),(3,.own 3),(0,.ptr 0 0)],[(3,(true,.arr 96 2 ((C3 a i.1).map Ab.c))),(0,(false,.view (Ak.c a)))],4⟩,λi=>a.Tiles.length - i.1,λi=>⟨by simp[Ai.good,Am,Ac,A8,AV.bel],by simp⟩,⟨⟨0,Cz _⟩,[(3,some 2)],?_⟩,λi=> ?_⟩
 .simp only[Ay];simp(disch:=omega)only[ZA,simprocAttr,Bp,C3]
  try simp
 obtain⟨i,hi⟩:=i;simp(disch:=omega)only[ZA,simprocAttr,AO];intro _;refine⟨λz=> ?_,λz=> ?_⟩;rotate_left
 .obtain rfl:i=a.Tiles.length:=by omega
  rfl
 obtain⟨x,hx⟩: ∃x,a.Tiles[i]? =some x:=⟨_,Bk z⟩;have af:=(sJ _ _ h1 x (AZ hx)).1;have e1:C3 a (i+1)=DL a x.At (C3 a i) 4:=by simp only[C3,hx];rfl
 have ag:=Wy a i;have ac:=dH a i;refine AP.ren ⟨{d:Nat//d<=4},λd=>⟨[(5,.im (.int .i64 d.1)),(4,.im (.int .i64 i)),(3,.own 4),(0,.ptr 0 0)],[(4,(true,.arr 96 2 ((DL a x.At (C3 a i) d.1).map Ab.c))),(0,(false,.view (Ak.c a)))],5⟩,λd=>4 - d.1,λd=>⟨by simp[Ai.good,Am,Ac,A8,AV.bel],by simp⟩,⟨⟨0,Cz _⟩,[(4,some 3)],?_⟩,λd=> ?_⟩
 .simp only[Ay];simp(disch:=omega)only[ZA,simprocAttr,Bp,DL]
  try simp
 obtain⟨d,hd⟩:=d;have ah:=dF a x.At (C3 a i) d;have ad:=Wz (a:=a) (p:=x.At) ac d;simp(disch:=omega)only[ZA,simprocAttr,Ak.d,l01Step.q,l01Step.fv,l01Point.q,l01Point.fv,l03Index.q,l03Index.fv,AO];have Q:IntKind.i64.wrap ((d:Int)+1)=((d+1:Nat):Int):=by rw[AG (by omega) (by omega)];omega
 refine⟨λab=>⟨z,λy hy=> ?_⟩,λab=> ?_⟩;rotate_left
 .obtain rfl:d=4:=by omega
  refine⟨⟨i+1,by omega⟩,[(3,some 4)],by simp only;omega,?_⟩;simp only[Ay];simp(disch:=omega)only[ZA,simprocAttr,Bp,e1];rw[AG (by omega) (by omega)];rfl
 obtain rfl:=AD (hx.symm.trans hy);refine⟨⟨ZJ af,by omega⟩,λO=>⟨h1,λG=> ?_,λG=> ?_⟩,λO=> ?_⟩
 .have aa:=(NR h3 (Bu x.At d)).1 G;refine AE.os (DL a x.At (C3 a i) d,Bu x.At d) [4] ⟨ad,by simp only;omega⟩ (Ue _) rfl rfl ?_ ?_
  .simp(disch:=omega)only[ZA,simprocAttr,putQ.ca,putQ.H0,CO,De]
  simp(disch:=omega)only[ZA,simprocAttr,putQ.H1,xD];refine⟨⟨d+1,by omega⟩,[(4,some 6)],by simp only;omega,?_⟩;simp only[Ay];simp(disch:=omega)only[ZA,simprocAttr,Bp,DL];rw[An ⟨O,aa⟩];exact⟨Q,rfl⟩
 all_goals
  refine⟨⟨d+1,by omega⟩,[(4,some 4)],by simp only;omega,?_⟩;simp only[Ay];simp(disch:=omega)only[ZA,simprocAttr,Bp,DL];refine⟨Q,?_⟩;rw[Af];rintro⟨g1,g2⟩
  first
   |exact G ((NR h3 _).2 g2)
   |exact O g1
def S8(s:AC)(a:Ak)(p:Ab):Nat->List Int
 |0=>[]
 |k+1=>S8 s a p k++[if Bb a (Bu p k)<0 then 0 else Kj s (Bb a (Bu p k)) (((k:Int)+2) % 4)]
def NO(s:AC)(a:Ak)(p:Ab): ∀k,(S8 s a p k).length=k
 |0=>rfl
 |k+1=>by simp[S8,NO s a p k]
def dB{s:AC}{a:Ak}{p:Ab}: ∀{n k:Nat},k<n->(S8 s a p n)[k]? =some (if Bb a (Bu p k)<0 then 0 else Kj s (Bb a (Bu p k)) (((k:Int)+2) % 4))
 |0,k,h=>by omega
 |n+1,k,h=>by
  simp only[S8];by_cases c:k<n
  .rw[ED (by rw[NO];exact c),dB c]
  .obtain rfl:k=n:=by omega
   rw[F4 (by rw[NO];omega),NO,Hi];rfl
def Zl{s:AC}{a:Ak}{p:Ab}{i:Int}{k:Nat}{g:Int}(z:g=if Bb a (Bu p k)<0 then 0 else Kj s (Bb a (Bu p k)) (((k:Int)+2) % 4)):(if Kj s i k=g then Qc s g else 0)=Gp s (Bb a) p i k:=by
 simp only[Gp,Gk];by_cases c:Bb a (Bu p k)<0
 .rw[An c] at z;subst z;rw[Af (show ¬0<=Bb a (Bu p k) by omega),LV (by omega)]
  split<;>rfl
 .rw[Af c] at z;rw[An (show 0<=Bb a (Bu p k) by omega),<-z];split
  .rename_i e;rw[e]
  .rfl
def jX{s:AC}(h:BF s){t:Int}{d:Int}:0<=Kj s t d/\Kj s t d<=s.Glues.length:=by
 simp only[Kj];cases e:s.Tiles[t.toNat]? with
 |none=>simp
 |some x=>
  simp only[CQ,AM];cases e2:x.Sides[d.toNat]? with
  |none=>simp
  |some g=>
   simp only[AM];exact (h.2.1 x (AZ e)).2 g (AZ e2)
def atQ_.fv(a:AC×Ak×Ab×Int):List Int:=(λs a p t=>DR ⟨s,a,t⟩ (Bb a) p s.Tiles.length) (a.1) (a.2.1) (a.2.2.1) (a.2.2.2)
def atQ_.row:AA:=vK (b4 (qP 2 AC.d_le) (qP 1 Ak.d_le) (qR Ab.d_le) qI) (rS Da Cp) (λa=>BF a.1/\DP a.1 a.2.1/\FD a.2.2.1/\a.1.Tiles.length<=1000000) atQ_.fv
def atQ_.q:=AT (R:=atQ_.row) rfl
def atQ_.ok:AB Tryz.prog 122 atQ_.row:=by
 refine vw (tC l01Step.ok (tC l03At.ok (tC Opposite_.ok (tC l02Strength.ok tN)))) Tryz.func122 rfl (by kernel_rfl) ?_;intro a af;simp only[Tryz.f122];simp(disch:=omega)only[ZA,simprocAttr,atQ_.fv];obtain⟨s,a,p,t⟩:=a;obtain⟨Q,h2,h3,h4⟩:=af;simp only at Q h2 h3 h4⊢;refine AP.ren ⟨{d:Nat//d<=4},λd=>⟨[(10,.im (.int .i64 d.1)),(9,.own 5),(6,.ptr 2 0),(0,.ptr 0 0),(1,.ptr 1 0),(3,.im (.int .i64 t))],[(5,(true,.arr 2 1 ((S8 s a p d.1).map Aj))),(2,(true,.cells 96 [.im (.int .i64 p.X),.im (.int .i64 p.Y)])),(0,(false,.view (AC.c s))),(1,(false,.view (Ak.c a)))],6⟩,λd=>4 - d.1,λd=>⟨by simp[Ai.good,Am,Ac,A8,AV.bel,Aq],by simp⟩,⟨⟨0,Cz _⟩,[(5,some 4)],?_⟩,λd=> ?_⟩
 .simp only[Ay];simp(disch:=omega)only[ZA,simprocAttr,Bp,S8]
  try simp
 obtain⟨d,hd⟩:=d;have ak:=NO s a p d;simp(disch:=omega)only[ZA,simprocAttr,Ak.d,l01Step.q,l01Step.fv,l03At.q,l03At.fv,Opposite_.q,Opposite_.fv,AO,NN,NJ,B1,D.one];have Z:IntKind.i64.wrap ((d:Int)+1)=((d+1:Nat):Int):=by rw[AG (by omega) (by omega)];omega
 refine⟨λaa=>⟨⟨h3,by omega⟩,h2.1,λhn=>⟨by omega,⟨d+1,by omega⟩,[(5,some 7)],by simp only;omega,?_⟩,λhn=> ?_⟩,λaa=> ?_⟩
 .simp only[Ay];simp(disch:=omega)only[ZA,simprocAttr,Bp,S8];rw[An hn];refine⟨Z,by simp[Aj]⟩
 .obtain⟨b1,b2⟩:=JW h2 (Bu p d) (by omega);refine⟨b1,b2,λx hx=>⟨by omega,by omega,by rw[(Q.2.1 x (AZ hx)).1];omega,λg hg=>⟨by omega,⟨d+1,by omega⟩,[(5,some 7)],by simp only;omega,?_⟩⟩⟩;have O:Kj s (Bb a (Bu p d)) (((d:Int)+2) % 4)=g:=fJ hx hg;simp only[Ay];simp(disch:=omega)only[ZA,simprocAttr,Bp,S8];rw[Af hn,O];refine⟨Z,by simp[Aj]⟩
 obtain rfl:d=4:=by omega
 clear Z aa hd;obtain⟨S,hS⟩: ∃S:Ax,S=⟨s,a,t⟩:=⟨_,rfl⟩;rw[<-hS];refine AP.ren ⟨{i:Nat//i<=s.Tiles.length},λi=>⟨[(13,.im (.int .i64 i.1)),(12,.own 7),(9,.own 5),(0,.ptr 0 0),(3,.im (.int .i64 t))],[(7,(true,.arr 2 1 ((DR S (Bb a) p i.1).map Aj))),(5,(true,.arr 2 1 ((S8 s a p 4).map Aj))),(0,(false,.view (AC.c s))),(1,(false,.view (Ak.c a)))],8⟩,λi=>s.Tiles.length - i.1,λi=>⟨by simp[Ai.good,Am,Ac,A8,AV.bel],by simp⟩,⟨⟨0,Cz _⟩,[(7,some 6)],?_⟩,λi=> ?_⟩
 .simp only[Ay];simp(disch:=omega)only[ZA,simprocAttr,Bp,DR]
  try simp
 obtain⟨i,hi⟩:=i;have an:=W7 S (Bb a) p i;simp(disch:=omega)only[ZA,simprocAttr,AO];intro _;refine⟨λab=> ?_,λab=> ?_⟩;rotate_left
 .obtain rfl:i=s.Tiles.length:=by omega
  rfl
 refine AP.old ⟨{k:Nat//k<=4},λk=>⟨[(15,.im (.int .i64 k.1)),(14,.im (.int .i64 (C9 s (Bb a) p i k.1))),(13,.im (.int .i64 i)),(12,.own 7),(9,.own 5),(0,.ptr 0 0),(3,.im (.int .i64 t))],[(7,(true,.arr 2 1 ((DR S (Bb a) p i).map Aj))),(5,(true,.arr 2 1 ((S8 s a p 4).map Aj))),(0,(false,.view (AC.c s))),(1,(false,.view (Ak.c a)))],8⟩,λk=>4 - k.1,λk=>⟨by simp[Ai.good,Am,Ac,A8,AV.bel],by simp⟩,⟨⟨0,Cz _⟩,?_⟩,λk=> ?_⟩
 .simp(disch:=omega)only[ZA,simprocAttr,sub,C9]
 obtain⟨k,hk⟩:=k;simp(disch:=omega)only[ZA,simprocAttr,l02Strength.q,l02Strength.fv,sub,AO,NN,NJ,B1,D.one];have ad:IntKind.i64.wrap ((k:Int)+1)=((k+1:Nat):Int):=by rw[AG (by omega) (by omega)];omega
 have aj:=vC Q (Bb a) p i k;have am:=fR Q (Bb a) p i k;have ah:=NO s a p 4;rw[ah];refine⟨λai=>⟨ab,λx hx=>⟨by rw[(Q.2.1 x (AZ hx)).1];omega,λg hg=>⟨by omega,by omega,λy hy=> ?_⟩⟩⟩,λai=> ?_⟩
 .have O:Kj s i k=g:=fJ (by simpa using hx) (by simpa using hg);rw[dB (by omega),AJ] at hy;have G:=Zl (i:=i) hy.symm;rw[O] at G;refine⟨λe=>⟨by omega,by omega,λz hz=> ?_⟩,λe=>⟨⟨k+1,by omega⟩,by simp only;omega,ad,?_⟩⟩
  .rw[dB (by omega),AJ] at hz;obtain rfl:y=z:=hy.symm.trans hz;rw[An e] at G;have ag:0<=y/\y<=s.Glues.length:=by
    have:=jX Q (t:=i) (d:=k)
    rw[O,e] at this;exact this
   refine⟨⟨ag.1,ag.2,Q.1⟩,⟨k+1,by omega⟩,by simp only;omega,ad,?_⟩;rw[G,AG (by omega) (by omega)];rfl
  .rw[Af e] at G;simp only[C9,<-G];omega
 .obtain rfl:k=4:=by omega
  have ac:IntKind.i64.wrap ((i:Int)+1)=((i+1:Nat):Int):=by rw[AG (by omega) (by omega)];omega
  have e1:S.Temperature=t:=by rw[hS]
  have e2:S.Set=s:=by rw[hS]
  refine⟨λe=>⟨by omega,⟨i+1,by omega⟩,[(7,some 9)],by simp only;omega,?_⟩,λe=>⟨⟨i+1,by omega⟩,[(7,some 7)],by simp only;omega,?_⟩⟩
  .simp only[Ay];simp(disch:=omega)only[ZA,simprocAttr,Bp,DR,e1,e2];rw[An e];exact⟨ac,by simp[Aj]⟩
  .simp only[Ay];simp(disch:=omega)only[ZA,simprocAttr,Bp,DR,e1,e2];rw[Af e,D8];exact⟨ac,rfl⟩
def L0(s:Ax)(a b:Ak)(f:Ab->Int)(p:Ab): ∀n,DR ⟨s.Set,a,s.Temperature⟩ f p n=DR s f p n
 |0=>rfl
 |n+1=>by simp only[DR,L0 s a b f p n]
def Ej(g:Ab->List Int)(l:List Ab)(i:Nat):List Ap:=C4 g (l.take i)
def qK{g:Ab->List Int}{l:List Ab}{i:Nat}{p:Ab}(h:l[i]? =some p):Ej g l (i+1)=Ej g l i++(g p).map (OS p):=by
 simp only[Ej,C4,Kl h,ZdM,GG,ZeJ,D8]
def W4{g:Ab->List Int}{m:Nat}(z: ∀p,(g p).length<=m): ∀(l:List Ab),(C4 g l).length<=l.length*m
 |[]=>by simp[C4]
 |p::r=>by
  have ih:=W4 z r
  have:=z p
  simp only[C4] at ih;simp only[C4,GG,Dq,He,CP,ZeX];omega
def opsS_.fv(a:Ax×Ak):List Ap:=(Co) (a.1) (a.2)
def opsS_.row:AA:=vK (b2 (qP 4 Ax.d_le) (qP 1 Ak.d_le)) (rS Ap.d_le Ap.c_n) (λa=>BF a.1.Set/\DP a.1.Set a.2/\a.2.Tiles.length<=500/\a.1.Set.Tiles.length<=1000) opsS_.fv
def opsS_.q:=AT (R:=opsS_.row) rfl
def opsS_.ok:AB Tryz.prog 93 opsS_.row:=by
 refine vw (tC nearS_.ok (tC atQ_.ok tN)) Tryz.func93 rfl (by kernel_rfl) ?_;intro a Q;simp only[Tryz.f93];simp(disch:=omega)only[ZA,simprocAttr,Ak.d,opsS_.fv,nearS_.q,nearS_.fv];obtain⟨s,a⟩:=a;obtain⟨h1,Z,h3,h4⟩:=Q;simp only at h1 Z h3 h4⊢;refine⟨⟨Z.1,by omega,s.Set,Z.2⟩,?_⟩;obtain⟨L,hL⟩: ∃L,L=C3 a a.Tiles.length:=⟨_,rfl⟩;obtain⟨g,hg⟩: ∃g,g=λp=>DR s (Bb a) p s.Set.Tiles.length:=⟨_,rfl⟩
 have ac:Co s a=C4 g L:=by rw[hg,hL];rfl
 rw[ac];have af:L.length<=2000:=by have:=Wy a a.Tiles.length;rw[hL];omega
 have G: ∀p,(g p).length<=1000:=λp=>by have:=W7 s (Bb a) p s.Set.Tiles.length;rw[hg];simp only;omega
 have aa: ∀p∈L,E3 p=true:=λp hp=>by
  rw[hL,QG _ (AQ _)] at hp;exact hp.1.1
 simp only[<-hL];refine AP.ren ⟨{i:Nat//i<=L.length},λi=>⟨[(7,.im (.int .i64 i.1)),(6,.im (.sl false 2 (L.map Ab.c))),(5,.own 4),(0,.ptr 0 0),(1,.ptr 1 0)],[(4,(true,.arr 108 3 ((Ej g L i.1).map Ap.c))),(0,(false,.view (Ax.c s))),(1,(false,.view (Ak.c a)))],5⟩,λi=>L.length - i.1,λi=>⟨by simp[Ai.good,Am,Ac,A8,AV.bel],by simp⟩,⟨⟨0,Cz _⟩,[(4,some 3)],?_⟩,λi=> ?_⟩
 .simp only[Ay];simp(disch:=omega)only[ZA,simprocAttr,Bp,Ej,C4]
  try simp
 obtain⟨i,hi⟩:=i;simp(disch:=omega)only[ZA,simprocAttr,Ak.d,atQ_.q,atQ_.fv,AO];intro _;refine⟨λz=> ?_,λz=> ?_⟩;rotate_left
 .obtain rfl:i=L.length:=by omega
  rw[Ej,Gs]
 have ah:(Ej g L i).length<=2000*1000:=by
  have:=W4 G (L.take i)
  have h9:(L.take i).length*1000<=2000*1000:=HL _ (by simp;omega);simp only[Ej];omega
 refine⟨z,λp hp=> ?_⟩;have ad:=aa p (AZ hp);refine⟨⟨h1,Z,ZJ ad,by omega⟩,?_⟩;have ab:DR ⟨s.Set,a,s.Temperature⟩ (Bb a) p s.Set.Tiles.length=g p:=by rw[L0 _ _ a,hg]
 rw[ab];have ag:=G p;refine AP.ren ⟨{k:Nat//k<=(g p).length},λk=>⟨[(9,.im (.int .i64 k.1)),(8,.im (.sl false 1 ((g p).map Aj))),(7,.im (.int .i64 i)),(6,.im (.sl false 2 (L.map Ab.c))),(5,.own 5),(0,.ptr 0 0),(1,.ptr 1 0)],[(5,(true,.arr 108 3 ((Ej g L i++((g p).take k.1).map (OS p)).map Ap.c))),(0,(false,.view (Ax.c s))),(1,(false,.view (Ak.c a)))],6⟩,λk=>(g p).length - k.1,λk=>⟨by simp[Ai.good,Am,Ac,A8,AV.bel],by simp⟩,⟨⟨0,Cz _⟩,[(5,some 4)],?_⟩,λk=> ?_⟩
 .simp only[Ay];simp(disch:=omega)only[ZA,simprocAttr,Bp]
  try simp
 obtain⟨k,hk⟩:=k;simp(disch:=omega)only[ZA,simprocAttr,AO,NN,NJ,B1,D.one,Dq];intro _;refine⟨λO=>⟨z,λq hq=>⟨O,λx hx=>⟨?_,⟨k+1,by omega⟩,[(5,some 7)],by simp only;omega,?_⟩⟩⟩,λO=>⟨⟨i+1,by omega⟩,[(4,some 5)],by simp only;omega,?_⟩⟩
 .have:((g p).take k).length<=1000:=by simp;omega
  omega
 .obtain rfl:=AD (hp.symm.trans hq);simp only[Ay];simp(disch:=omega)only[ZA,simprocAttr,Bp];refine⟨by rw[AG (by omega) (by omega)];rfl,?_⟩;rw[Kl hx];simp[OS,Ap.c]
 .obtain rfl:k=(g p).length:=by omega
  simp only[Ay];simp(disch:=omega)only[ZA,simprocAttr,Bp];refine⟨by rw[AG (by omega) (by omega)];rfl,?_⟩;rw[qK hp,Gs]
end Go.Ae
namespace Go.Ae
open Go.Proofs Go.Sort Go.Shelf
instance:Inhabited Ab:=⟨⟨0,0⟩⟩
def CW(x:Ab):List Value:=[.int .i64 x.X,.int .i64 x.Y]
def cfQ(x y:Ab):Int:=I4 (x.X,x.Y) (y.X,y.Y)
def WB(x y:Ab):ltOf cfQ x y=Bt x y:=by
 simp only[ltOf,cfQ,I4,Lib.compareInt,Bt]
 grind
def swoQ:SWO (ltOf cfQ) where
 irrefl x:=by rw[WB];simp only[Bt];grind
 trans x y z h1 h2:=by rw[WB] at*;simp only[Bt] at*;grind
 ntrans x y z h1 h2:=by rw[WB] at*;simp only[Bt] at*;grind
def dL{l:List Ab}(hd:l.Nodup):(BZ l).Perm l:=(Zes (KC (NQ l)) hd).2 λ_=>JZ
def Qamw{l l':List Ab}(hd:l.Nodup)(hp:l'.Perm l)(hs:l'.Pairwise (λa b=>Bt b a=false)):l'=BZ l:=by
 refine dJ ?_ (NQ l) (λq=>by rw[JZ,hp.mem_iff]);have hn:l'.Nodup:=hp.nodup_iff.2 hd;refine ZeE (λ{a b} h=> ?_) (List.pairwise_and_iff.2 ⟨hs,hn⟩);exact pX h.1 λe=>h.2 e.symm
def PC{l:List Ab}(hd:l.Nodup):(BZ l).length=l.length:=(dL hd).length_eq
def Sn(l:List Ab):List Value:=l.flatMap CW
def LN(l:List Ab):(Sn l).length=l.length*2:=by
 induction l with
 |nil=>rfl
 |cons x r ih=>simp only[Sn,GG,Dq,CP] at ih⊢;rw[ih];simp[CW];omega
def dO{ok:Nat->Prop}{hp:Nat->Option Obj}: ∀(l:List Ab) (L:List Value),rdr ok hp 2 (l.map Ab.c) L↔ ∃r,L=Sn l++r
 |[],L=>by simp[rdr,Sn]
 |x::r,L=>by
  simp only[Bd,rdr,dO r,Ab.c,rdp,rd,Sn,GG];constructor
  .rintro⟨_,⟨v,z,rfl,rfl,O,G,rfl,rfl,_⟩,q,hq⟩;exact⟨q,by simp only[Qp,Hh] at hq;rw[hq];rfl⟩
  .rintro⟨q,rfl⟩;exact⟨rfl,⟨_,_,rfl,rfl,_,_,rfl,rfl,trivial⟩,q,rfl⟩
def LM: ∀(l:List Ab) (t:Nat),t<l.length*2->(Sn l)[t]? =some ((CW (l[t/2]?.getD default))[t % 2]!)
 |[],t,h=>by simp at h
 |x::r,t,h=>by
  by_cases O:t<2
  .have:t=0\/t=1:=by omega
   rcases this with rfl|rfl<;>simp[Sn,CW]
  .obtain⟨u,rfl⟩: ∃u,t=u+2:=⟨t - 2,by omega⟩;have z:(u+2)/2=u/2+1:=by omega
   have G:(u+2) % 2=u % 2:=by omega
   have ih:=LM r u (by simp at h;omega);rw[z,G,HJ,<-ih];simp[Sn,CW]
def qO(l:List Ab):(flatK CW 2 l.toArray).toList=Sn l:=by
 apply Kr;intro t;by_cases z:t<l.length*2
 .rw[LM l t z];have G:t<(flatK CW 2 l.toArray).size:=by simp only[size_flatK,Om];exact z
  have O:=get_flatK CW 2 l.toArray t (by simpa using z);rw[Hc,J8 G,<-getElem!_pos (flatK CW 2 l.toArray) t G,O];congr 3;simp[getElem!_def];cases l[t/2]? <;>rfl
 .have a1:(flatK CW 2 l.toArray).toList.length<=t:=by rw[EJ,size_flatK,Om];omega
  have a2:(Sn l).length<=t:=by rw[LN];omega
  rw[FG a1,FG a2]
def srtQ.ca(_:List Ab):List AV:=[.own 0,.im (.fn 161 [] [])]
def srtQ.H0(a:List Ab):Av:=[(0,(true,.arr 96 2 (a.map Ab.c)))]
def srtQ.H1(a:List Ab):Av:=[(0,(true,.arr 96 2 ((BZ a).map Ab.c)))]
def srtQ.row:AA:=AE srtQ.ca srtQ.H0 1 (λa=>a.Nodup) (λ_=>true) (λ_=> .im (.tup [])) srtQ.H1 0
def srtQ.ok:AB Tryz.prog 223 srtQ.row:=by
 rintro args h nx K ⟨a,τ,U,KL,aj,rfl,O,hN,hK⟩;refine⟨Oa (by kernel_rfl),_,_,?_,hK⟩;intro C S vs R hW a9 bb bc aa ax;have aq:Cm τ 1 nx 0=τ 0:=An (by omega);simp only[srtQ.ca,AL,AV.ren,aq,AN,Aa,rd,rdl] at aa;obtain⟨v0,r0,hv,⟨ad,ai⟩,v1,r1,bi,⟨ac,cc,bl,ak,am⟩,bj⟩:=aa;have ak:ac= #[]:=by apply Oo;simpa using ak
 have am:cc= #[]:=by apply Oo;simpa using am
 subst ak am bj bi bl;have bm:vs= #[v0,.func (VR 161) #[] #[]]:=by apply Oo;simpa using hv
 subst bm;have hm:h (τ 0)=some (true,.arr 96 2 (a.map Ab.c)):=by
  have:=O.1
  rwa [aq] at this
 have aw:Ao (srtQ.H0 a) 0=true:=rfl;have Q:S.h (τ 0)=some (true,.arr 96 2 (a.map Ab.c)):=by
  rw[a9 (τ 0) (Kv _ (hN.u 0 aw)),hm]
 have ay: ∀n,n∈KL↔n=τ 0:=by
  intro n;constructor
  .intro hn;obtain⟨j,h1,_,h3⟩:=hN.k1 n hn
   have:j=0:=by
    simp only[Ao,srtQ.H0,hget] at h1;by_cases hj:j=0
    .exact hj
    .have:(0==j)=false:=by simpa using λh=>hj h.symm
     rw[this] at h1;cases h1
   rw[h3,this]
  .rintro rfl;exact hN.k2 0 aw rfl
 obtain⟨m,hmm⟩: ∃m,m=τ 0:=⟨_,rfl⟩;rw[<-hmm] at Q ai ay;have au:=PC aj;have fin: ∀(w':World),J3 S m (.arr 96 2 ((BZ a).map Ab.c)) (S.ρ m) [m] w'->
  (B3 (λn=>S.h m≠none\/n≠m) S (S.one m (.arr 96 2 ((BZ a).map Ab.c)) (S.ρ m) [m] w')->Aw (S.one m (.arr 96 2 ((BZ a).map Ab.c)) (S.ρ m) [m] w') (S.ρ m) (.arr 96 2 ((BZ a).map Ab.c)))->R (.returned (.tuple #[])) w':=by
  intro w' ad bh;have hp:=eI hW ad;refine ax (.tuple #[]) _ (mE hW ad (bh hp)) ?_ ⟨hp.ok,λn _=>hp.nm n (.inl (by rw[Q];simp))⟩ ⟨#[],rfl,rfl⟩;funext n;simp only[A9.one,Br.appf,srtQ.H1,AY,aq,hget,Ad.ren,<-hmm];by_cases hn:n=m
  .subst hn;simp
  .have h1:(m==n)=false:=by simpa using λh=>hn h.symm
   have h2:KL.contains n=false:=by
    rw[<-Lv,HK,ay];exact hn
   simp only[h1,BC,h2,hn,CK,BK]
 have z:=ai _ Q;have Z:=hW.obj _ _ Q;have a0:=λG=>hW.loc m _ G Q
 cases hρ:S.ρ m with
 |none=>
  rw[hρ] at z Z;simp only[Aw] at Z;have ha:a=[]:=by simpa using Z.2
  subst ha;simp only at z;rw[z,Xc (by decide)];refine (AnyF.slices_SortFunc_none Tryz.sortPt none 0 (.func (.func 161) #[] #[]) S.w).mono ?_;rintro e w' ⟨rfl,rfl⟩;refine fin S.w (bY Q (λl hl=>by rw[hρ] at hl;cases hl) rfl rfl) (λ_=> ?_);rw[hρ];exact⟨Cz _,rfl⟩
 |some G=>
  rw[hρ] at z Z;simp only[Aw,Ad.len] at Z z;obtain⟨g1,g2,cv,g3,g4,g5⟩:=Z;obtain⟨ao,bo⟩:=a0 G hρ;rw[dO] at g5;obtain⟨ba,g5⟩:=g5;simp only[He] at g1 g2 z;have O:S.w.heap[G.b]? =some (.cells cv 96 (0,0)):=g3;have bn:G.p+a.length*2<=cv.size:=by omega
  have hF:(flatK CW 2 a.toArray).size=a.length*2:=by simp
  have hget: ∀j,j<a.length*2->cv[G.p+j]? =some ((flatK CW 2 a.toArray)[j]!):=by
   intro j hj;have h1:(cv.toList.drop G.p)[j]? =(Sn a++ba)[j]? :=by rw[g5]
   rw[Iv,Hc,ED (by rw[LN];exact hj),<-qO,Hc] at h1;rw[h1,J8 (by rw[hF];exact hj),getElem!_pos _ _ (by rw[hF];exact hj)]
  have hH:HoldsK CW 2 S.w G.b G.p a.toArray:=by
   intro j hj;rw[hF] at hj;refine⟨?_,?_⟩
   .simp only[World.cell?,O,aE,Df,CK,id];exact hget j hj
   .simp only[World.frozen?,O];simp
  have hc:=AnyQ.slices_SortFunc Tryz.sortPt 2 Tryz.isAgg96 Tryz.sizeOf96 CW (λ_=>rfl) (λx v hv=>by simp[CW] at hv;rcases hv with rfl|rfl<;>rfl) cfQ swoQ 161 #[] G.b G.p G.cap a.toArray S.w
   (sM (Oa (by kernel_rfl))) (λm os dk hs x y=>Tryz.cmpPoints _ _ _ _ _) hH ao (by simp only[Om,Lc] at g1⊢;omega)
  rw[z,Xc (by decide)];refine hc.mono ?_;rintro e w' ⟨rfl,d',n,os,af,av,rfl⟩;have a8:d'.size=a.length:=af.1;have bf:d'.toList=BZ a:=by
   refine Qamw aj ?_ ?_
   .have:=af.2.2
    rwa [show d'.extract 0 a.toArray.size=d' by rw[Om,<-a8];exact vU,show a.toArray.extract 0 a.toArray.size=a.toArray from vU] at this
   .rw[Zdh];intro i j hi hj bg
    have:=av i j (Cz _) bg (by rw[Om,<-a8];simpa using hj)
    rw[WB,getElem!_pos d' i (by simpa using hi),getElem!_pos d' j (by simpa using hj)] at this;simpa using this
  obtain rfl:d'=(BZ a).toArray:=by apply Oo;rw[bf]
  have ah:(flatK CW 2 (BZ a).toArray).size=a.length*2:=by simp[au]
  have an:(flatK CW 2 (BZ a).toArray).toList.length=a.length*2:=by rw[EJ,ah]
  have ag:S.w.heap.size<=(sortWorldK CW 2 S.w G.b G.p n (BZ a).toArray os).heap.size:=by
   simp[sortWorldK,grow,putRowK,Sort.ahead]
  have hb: ∀b,b<S.w.heap.size->(sortWorldK CW 2 S.w G.b G.p n (BZ a).toArray os).heap[b]? =if G.b=b then S.w.heap[b]?.map (onCells (putCells id G.p (flatK CW 2 (BZ a).toArray))) else S.w.heap[b]? :=by
   intro b hb;have e0:b<(putRowK CW 2 (Sort.ahead S.w n) G.b G.p (BZ a).toArray).heap.size:=by simpa[putRowK,Sort.ahead] using hb
   simp only[sortWorldK,grow];rw[ZdG e0];simp only[putRowK,putRow,mapBlock,Sort.ahead,ZdZ]
  refine fin _ ⟨rfl,rfl,rfl,ag,?_,.inl (by simp),?_,?_,?_⟩ ?_
  .intro b bd be;rw[hb b bd,Af (be m _ G (by simp) Q hρ)]
  .intro lo az;rw[hρ] at az;obtain rfl:=AD az;exact⟨Gr ao ag,.inr ⟨m,_,G,by simp,Q,hρ,rfl⟩⟩
  .intro f hf;rw[Q] at hf;obtain rfl:=AD hf;exact⟨rfl,rfl,by simp[Ad.len,au]⟩
  .intro n' f _ ab;rw[Q] at ab;cases ab
  .intro _;rw[hρ];simp only[Aw,He,au];refine⟨g1,g2,putCells id G.p (flatK CW 2 (BZ a).toArray) cv,?_,by simpa[putCells] using g4,?_⟩
   .simp only[A9.one,A9.hp];rw[hb G.b ao,An rfl,O];rfl
   .rw[dO];refine⟨(cv.toList.drop (G.p+a.length*2)),?_⟩;apply Kr;intro t;rw[Iv,Hc,putCells,ZeL,ah,<-qO];by_cases ht:t<a.length*2
    .rw[ED (by rw[an];exact ht),Hc,J8 (show G.p+t<cv.size by omega),J8 (by rw[ah];exact ht)];simp only[CQ,id];rw[An ⟨by omega,by omega⟩,vJ,getElem!_pos _ _ (by rw[ah];exact ht)]
    .rw[F4 (by rw[an];omega),an,Iv,Hc,show G.p+a.length*2+(t - a.length*2)=G.p+t by omega];cases cv[G.p+t]? with
     |none=>rfl
     |some x=>simp only[CQ];rw[Af (by omega)]
end Go.Ae
namespace Go.Ae
open Go.Proofs
def X3(op:List (Ab×List Int)):Nat:=(op.map λq=>q.2.length).sum
def KB{β:Type}: ∀{l:List (Ab×β)} {q:Ab×β},(l.map Prod.fst).Nodup->q∈l->B9 l q.1=some q.2
 |x::r,q,hn,hq=>by
  obtain⟨p,v⟩:=x;rw[Bd,Ir] at hn;simp only[B9];rcases Bm.1 hq with rfl|hq
  .rw[An rfl]
  .have:q.1≠p:=λe=>hn.1 (by rw[<-e];exact Bv.2 ⟨q,hq,rfl⟩)
   rw[Af this];exact KB hn.2 hq
def qC{g:Ab->List Int}: ∀(l:List Ab),(C4 g l).length=(l.map λp=>(g p).length).sum
 |[]=>rfl
 |p::r=>by
  have:=qC (g:=g) r
  simp only[C4] at this;simp only[C4,GG,Dq,He,Bd,Lx,this]
def Pe{op:List (Ab×List Int)}(h:(op.map Prod.fst).Nodup):(GQ op).length=X3 op:=by
 rw[GQ,qC,((dL h).map _).sum_nat,Rn];congr 1;refine Oj λq hq=> ?_
 simp only[Function.comp,KB h hq,AM]
def RG: ∀{l:List (Ab×List Int)},(∀q∈l,q.2≠[])->l.length<=X3 l
 |[],_=>Cz _
 |x::r,h=>by
  have G:0<x.2.length:=fV.2 (h x (BT ..));have z:=RG λq hq=>h q (BX x hq)
  simp only[X3,Bd,Lx,CP] at z⊢;omega
def qD(s:Ax){b:Ak}(O:b.Tiles.length<=500)(Q:s.Set.Tiles.length<=160):(Co s b).length<=320000:=by
 have z:=W4 (g:=λp=>DR s (Bb b) p s.Set.Tiles.length) (m:=160) (λp=>D9 (W7 s (Bb b) p _) (by omega)) (C3 b b.Tiles.length);have Z:=Wy b b.Tiles.length;have G:(C3 b b.Tiles.length).length*160<=2000*160:=HL _ (by omega);exact D9 z G
def TJ{s:Ax}{b:Ak}{op:List (Ab×List Int)}(hT:1<=s.Temperature)(h1:b.Tiles.length<=500)(h2:s.Set.Tiles.length<=160)(G:JO s (Bb b) op):
 GQ op=Co s b/\((op.map Prod.fst).Nodup/\op.length<=1000000/\ ∀q∈op,q.2.length<=1000)/\(GQ op).length<=320000:=by
 have z:=TM hT G;have O:=Pe G.1;rw[z] at O;have Q: ∀q∈op,q.2=Ei s (Bb b) q.1/\q.2≠[]:=λq hq=>by
  have Z:=KB G.1 hq;rw[G.2,FL] at Z;split at Z
  .cases Z
  .rename_i c;have h6:=AD Z;exact⟨h6.symm,by rw[<-h6];exact c⟩
 have h6:op.length<=X3 op:=RG λq hq=>(Q q hq).2
 have h7:=qD s h1 h2;refine⟨z,⟨G.1,by omega,λq hq=> ?_⟩,by rw[z];exact h7⟩;rw[(Q q hq).1];exact D9 (Qus s _ _ _) (by omega)
def El(n:Int):Bool:= !Bj n 0 1000
def DY(l:List Int):Bool:=decide (l.length<=200) && !l.any El
def G5(l:List Int)(n k:Nat):Nat:=if l.length=0 then 0 else (((l[k % l.length]?).getD 0) % (n:Int)).toNat
def rR{l:List Int}(h:DY l=true){x:Int}(G:x∈l):0<=x/\x<=1000:=by
 simp only[DY,AS,Kq] at h;have z:El x=false:=by
  cases hb:El x with
  |false=>rfl
  |true=>rw[Zeb.2 ⟨x,G,hb⟩] at h;cases h.2
 simpa[El,Bj] using z
def MW{l:List Int}{n k:Nat}(hn:0<n):G5 l n k<n:=by
 simp only[G5];split
 .exact hn
 .have z:=Int.emod_nonneg ((l[k % l.length]?).getD 0) (b:=(n:Int)) (by omega);have G:=Int.emod_lt_of_pos ((l[k % l.length]?).getD 0) (b:=(n:Int)) (by omega);omega
def GK(s:Ax)(l:List Int)(b:Ak)(k:Nat):Option Ap:=(Co s b)[G5 l (Co s b).length k]?
def WG{s:Ax}{l:List Int}{b:Ak}{k:Nat}:GK s l b k=none↔Co s b=[]:=by
 simp only[GK,ZeB];constructor
 .intro h;cases he:Co s b with
  |nil=>rfl
  |cons x r=>
   have:=MW (l:=l) (k:=k) (n:=(Co s b).length) (by rw[he];simp)
   omega
 .intro h;rw[h];simp
def Gz(s:Ax)(l:List Int):Nat->Ak->List Ap->List Ap×Ak×Int
 |0,b,d=>(d,b,0)
 |n+1,b,d=>match GK s l b d.length with
  |none=>(d,b,0)
  |some o=>if 500<=b.Tiles.length then ([],⟨[]⟩,4) else Gz s l n (BU b o.At o.Tile) (d++[o])
def NV(b:Ak)(p:Ab)(t:Int):(BU b p t).Tiles.length=b.Tiles.length+1:=by
 rw[WV];rw[(lZ ⟨p,t⟩ b.Tiles).length_eq,CP]
def rQ{s:Ax}{l:List Int}: ∀(n:Nat) (b:Ak) (d:List Ap),b.Tiles.length<=500->501<=b.Tiles.length+n->Gz s l (n+1) b d=Gz s l n b d
 |0,b,d,z,G=>by omega
 |n+1,b,d,z,G=>by
  rw[Gz,Gz];split
  .rfl
  .split
   .rfl
   .rename_i o _ c;exact rQ n _ _ (by rw[NV];omega) (by rw[NV];omega)
def Fo(s:Ax)(l:List Int):List Ap×Ak×Int:=if F3 s=false then ([],⟨[]⟩,1) else if DY l=false then ([],⟨[]⟩,2) else Gz s l 500 s.Seed []
def Y4{s:Ax}{b:Ak}(hb:DP s.Set b){o:Ap}(h:o∈Co s b):Dv s b o=true:=by
 rw[Co,C4,ZeK] at h;obtain⟨p,hp,h⟩:=h;obtain⟨t,Q,rfl⟩:=Bv.1 h;rw[QG _ (AQ _)] at hp;obtain⟨⟨G,O⟩,_⟩:=hp;have z: ∀n,t∈DR s (Bb b) p n->0<=t/\t<n/\s.Temperature<=C9 s.Set (Bb b) p t 4:=by
  intro n;induction n with
  |zero=>intro h;simp[DR] at h
  |succ n ih=>
   intro h;simp only[DR,Bx] at h;rcases h with h|h
   .have:=ih h;exact⟨this.1,by omega,this.2.2⟩
   .split at h
    .rename_i c;simp only[BK] at h;subst h;exact⟨by omega,by omega,c⟩
    .cases h
 obtain⟨k1,k2,Z⟩:=z _ Q;show Dv s b ⟨p,t⟩=true;simp only[Dv,Bj,AS,BL];exact⟨G,⟨k1,by omega⟩,(NR hb.2 p).2 O,by rw[<-Wq];exact Z⟩
def QJ{s:Ax}{l:List Int}{b:Ak}{k:Nat}(hb:DP s.Set b){o:Ap}(h:GK s l b k=some o):Dv s b o=true:=Y4 hb (AZ h)
def Ec(s:Ax)(l:List Int):Nat->Ak->List Ap->List Ap×Ak×Bool×Int
 |0,b,d=>(d,b,(GK s l b d.length).isNone,0)
 |n+1,b,d=>match GK s l b d.length with
  |none=>(d,b,true,0)
  |some o=>if 500<=b.Tiles.length then ([],⟨[]⟩,false,4) else Ec s l n (BU b o.At o.Tile) (d++[o])
def Ma{s:Ax}{l:List Int}: ∀(n:Nat) (b:Ak) (d:List Ap),((Ec s l n b d).1,(Ec s l n b d).2.1,(Ec s l n b d).2.2.2)=Gz s l n b d
 |0,b,d=>rfl
 |n+1,b,d=>by
  rw[Ec,Gz];split
  .rfl
  .split
   .rfl
   .exact Ma n _ _
def Yg{ι:Type}{P:Program}{V:Db}{N:Nat}{J:ι->(Nat->Prop)->World->Prop}{base:Nat}{ok0:Nat->Prop}{i j:ι}(HV:Hs P V)(O:Oe base J){ab:ι->List D->ι->Prop}{l:Nat}(hY: ∀i x j args Pr W,ab i x j->(∀ok hp,rdl ok hp x args.toList)->J i Pr W->YieldAt Fence.wide 0 P l args W λe W'=>e= .returned (.bool true)/\ ∃Pr',J j Pr' W'/\I1 ok0 Pr W Pr' W')
 {id:Nat}{ops:Array Oper}(k1:Nat)(ao:List.range ops.size=List.range' 0 (ops.toList.take k1).length++(k1::(List.range' (k1+1) (ops.toList.drop (k1+1)).length++[])))(ac:J6 N (ops.toList.take k1)=true)(ad:J6 N (ops.toList.drop (k1+1))=true)(z:WU ops=true)
 {o:Oper}{c:Call}{f:Operand}{x:List D}(s1:Ai){s s2:Ai}{a:Act}{w:World}{Q:Exit->Act->World->Prop}(ho:ops[k1]? =some o)(am:o.op= .call c)(Z:c.callee= .value f)(ah:o.guard=none)
 (hf:Az s1.tm f= .im (.fn (1000000000+l) [] []))(G:DB s1.tm c.args.toList=x.map .im)(an:x.all D.scs=true)(hx:ab i x j)(ak: ∀n e,hget s1.h n=some e->e.2.isView=false)(hd: ∀d,o.dst=some d->d<N)(af:s1.good=true)(ag:s2.good=true)
 (h:It J base ok0 N i s a w)(ai:KR P V (Gl ops (ops.toList.take k1)) (λs=>sub s s1) s)(aj:KR P V (Gl ops (ops.toList.drop (k1+1))) (λs=>sub s s2) (s1.put o.dst (.im (.bool true))))
 (aa: ∀a w,It J base ok0 N j s2 a w->Q .normal a w):(Code.region id ops false).wpIn Fence.wide 0 P Q a w:=by
 refine wpIn_region ?_;rw[ao];refine WC HV O (seg:=ops.toList.take k1) (more:=ops.toList.drop k1) (by rw[Hh,Oi]) ac z ai h (λs a w h1 h2=> ?_);have h3:=FS h2 h1 af O;have hw:Region.wanted o (yielded ops a.tmps)=true:=by simp[Region.wanted,ah]
 refine qX O hY ho hw am Z hf G an hx ak hd h3 (λa w h4=> ?_);refine WC HV O (seg:=ops.toList.drop (k1+1)) (more:=[]) (by rw[D8]) ad z aj h4 (λs a w h5 h6=> ?_);exact aa a w (FS h6 h5 ag O)
abbrev Gc:=List (Ab×List Int)
def XV(op:Gc):nP:=⟨Gc×List Ab,(op,[]),λi x j=> ∃(k:Nat) (p:Ab×List Int),i.1[k]? =some p/\x=[.agg (Ab.c p.1)]/\j=(i.1.eraseIdx k,i.2++[p.1]),λi=>i.1=[]⟩
def HW(l:Nat)(left:Gc)(z:Option (D×D)):Ai:=⟨[(5,.it 0),(0,.im (.fn (1000000000+l) [] []))],[(0,(true,.iter z (left.map CN)))],1⟩
def xG(l:Nat)(left:Gc)(p:Ab×List Int):Ai:=⟨[(3,.ptr 1 0),(5,.it 0),(0,.im (.fn (1000000000+l) [] []))],[(0,(true,.iter (some (CN p)) (left.map CN))),(1,(true,.cells 96 [.im (.int .i64 p.1.X),.im (.int .i64 p.1.Y)]))],2⟩
def dK(l:Nat)(left:Gc)(z:Option (D×D)):(HW l left z).good=true:=by simp[HW,Ai.good,Am,Ac,A8,AV.bel]
def Tc(l:Nat)(left:Gc)(p:Ab×List Int):(xG l left p).good=true:=by simp[xG,Ai.good,Am,Ac,Aq,A8,AV.bel]
def qZ:J5 Tryz.prog (Q4 []):=QC [] (by simp)
def OP(op:Gc):Lb Tryz.prog 224 [.ref [.mp xF (op.map CN)]] (XV op):=by
 refine SR Tryz.func224 rfl rfl (by simp) ?_;intro l J base ok0 z hY a w aa;have HV:=fL qZ;obtain⟨R,hR⟩: ∃R,R=(λ(e:Exit) (a:Act) (w:World)=> ∃i,(XV op).fin i/\SQ J base ok0 Tryz.f224.ntmps i (λe _=>e= .normal\/e= .ret) e a w):=⟨_,rfl⟩;rw[<-hR];simp only[Tryz.f224] at aa⊢;refine Lq CZ HV z (by decide) (by decide) aa (Qx:=BI (HW l op none)) ?_ (λs a w G Q=> ?_) (λ_ _ _ _ h=>h.elim) (λ_ _ _ h=>h.elim)
 .simp(disch:=omega)only[ZA,simprocAttr,BI,HW,entry,sub,xF]
 have h3:=FS Q G (dK _ _ _) z;clear G Q aa;refine wpIn_block (wpIn_loop_ghost (λm a w=> ∃(i:Gc×List Ab) (O:Option (D×D)),m=i.1.length/\It J base ok0 14 i (HW l i.1 O) a w) op.length ⟨(op,[]),none,rfl,h3⟩ ?_);clear h3;rintro m a w ⟨⟨left,Z⟩,O,hm,h⟩;simp only at hm h;refine Lq CZ HV z (by decide) (by decide) h (Qx:=λe s=>match e with
  | .normal=>(left=[]/\sub s ⟨(7,.im (.bool false))::(HW l left O).tm,(HW l left O).h,1⟩)\/ ∃(k:Nat) (p:Ab×List Int),left[k]? =some p/\sub s ⟨(7,.im (.bool true))::(HW l left O).tm,(HW l (left.eraseIdx k) (some (CN p))).h,1⟩
  |_=>False) ?_ (λs a w G Q=> ?_) (λ_ _ _ _ h=>h.elim) (λ_ _ _ h=>h.elim)
 .simp(disch:=omega)only[ZA,simprocAttr,HW,sub,Qwf];refine⟨λh=> .inl (by simpa using h),λi p hp=> ?_⟩;rw[D2] at hp;obtain⟨q,hq,rfl⟩:=D4.1 hp;exact .inr ⟨i,q,hq,rfl⟩
 simp only at G;rcases G with ⟨hl,hs⟩|⟨k,p,hk,hs⟩
 .have h3:=FS Q hs (by simp[HW,Ai.good,Am,Ac,A8,AV.bel]) z;refine Lq CZ HV z (by decide) (by decide) h3 (Qx:=IS (HW l left O) False True 0) ?_ (λs a w G Q=>G.1.elim) (λid s a w G Q=> ?_) (λ_ _ _ h=>h.elim)
  .simp(disch:=omega)only[ZA,simprocAttr,IS,HW,sub]
  .obtain⟨rfl,_,G⟩:=G;simp only[Exit.then,Exit.inBlock,BM,hR,SQ];exact⟨(left,Z),hl,s,.inl trivial,Q⟩
 have h3:=FS Q hs (by simp[HW,Ai.good,Am,Ac,A8,AV.bel]) z;clear Q h hs;refine Lq CZ HV z (by decide) (by decide) h3 (Qx:=IS (HW l (left.eraseIdx k) (some (CN p))) True False 0) ?_ (λs a w G Q=> ?_) (λid s a w G Q=>G.2.1.elim) (λ_ _ _ h=>h.elim)
 .simp(disch:=omega)only[ZA,simprocAttr,IS,HW,sub]
 have h:=FS Q G.2 (dK _ _ _) z;clear G Q h3;refine wpIn_block ?_;refine Lq CZ HV z (by decide) (by decide) h (Qx:=BI (xG l (left.eraseIdx k) p)) ?_ (λs a w G Q=> ?_) (λ_ _ _ _ h=>h.elim) (λ_ _ _ h=>h.elim)
 .simp(disch:=omega)only[ZA,simprocAttr,BI,HW,xG,sub,CN,Ab.c]
  trace_state
 have h3:=FS Q G (Tc _ _ _) z;clear G Q h;have ab:=(Ce.1 hk).1;obtain⟨F,hF⟩: ∃F:AV,F= .im (.fn (1000000000+l) [] []):=⟨_,rfl⟩;obtain⟨E,hE⟩: ∃E:Au,E=(true,.iter (some (CN p)) ((left.eraseIdx k).map CN)):=⟨_,rfl⟩;refine wpIn_seq (Yg HV z hY (i:=(left,Z)) (j:=(left.eraseIdx k,Z++[p.1])) (x:=[.agg (Ab.c p.1)]) 2 (by decide) (by decide) (by decide) (by decide)
  (⟨[(11,.im (.agg (Ab.c p.1))),(10,F),(5,.it 0),(0,F)],[(0,E)],2⟩:Ai) (s2:=⟨[(13,.im (.bool false)),(5,.it 0),(0,F)],[(0,E)],2⟩) rfl rfl rfl rfl (by rw[hF];rfl) rfl (by rfl) ⟨k,p,hk,rfl,rfl⟩ ?_ (by decide) (by rw[hE,hF];simp[Ai.good,Am,Ac,A8,AV.bel]) (by rw[hE,hF];simp[Ai.good,Am,Ac,A8,AV.bel]) h3 ?_ ?_ (λa w h4=> ?_))
 .exact λn e he=>Wb _ (by rw[hE];rfl) n e he
 .simp(disch:=omega)only[ZA,simprocAttr,xG,sub,hE,hF,Ab.c,Gl,Xh,List.take]
 .simp(disch:=omega)only[ZA,simprocAttr,sub,hE,hF,Ab.c,Gl,Xh,List.drop]
 simp only[Exit.then];refine uO CZ HV z (by decide) (by decide) h4 (Qx:=BI (HW l (left.eraseIdx k) (some (CN p)))) ?_ (λs a w G Q=> ?_) (λ_ _ _ _ h=>h.elim) (λ_ _ _ h=>h.elim)
 .simp(disch:=omega)only[ZA,simprocAttr,BI,HW,sub,hE,hF]
 simp only[Exit.inBlock,Exit.then];exact⟨(left.eraseIdx k).length,by rw[Zee,An ab];omega,(left.eraseIdx k,Z++[p.1]),_,rfl,FS Q G (dK _ _ _) z⟩
end Go.Ae
namespace Go.Ae
open Go.Proofs Go.RowKit Go.Lib Go.Sort
def qN{A:Type}: ∀(l:List A) (k:Nat) (x:A),l[k]? =some x->l.Perm (x::l.eraseIdx k)
 |[],k,x,h=>by simp at h
 |y::r,0,x,h=>by
  simp only[GF,AJ] at h;subst h;exact gL _
 |y::r,k+1,x,h=>by
  rw[HJ] at h;rw[vI];exact ((qN r k x h).cons y).trans (List.Perm.swap x y _)
def gQ(op:Gc)(s:Ai)(xs:List AV):Prop:= ∃l:List Ab,l.Perm (op.map Prod.fst)/\ ∃m,xs=[.own m]/\hget s.h m=some (true,.arr 96 2 (l.map Ab.c))
def iQ(op:Gc):D:= .fn 224 [] [.ref [.mp xF (op.map CN)]]
def gR{op:Gc}(hb:op.length<=1000000){C:AW}{S:A9}{vs:Array Value}{RR:Ending->World->Prop}(hW:Wf C S)(aq:EC S [.val (.sl true 0 []),.val (iQ op)] vs.toList)
 (ad: ∀(v:Value) (C0:AW) (S1:A9) (l:List Ab) (m:Nat),C0.w=S.w->C0.ok=S.ok->(∀b,¬C0.M b)->Wf C0 S1->l.Perm (op.map Prod.fst)->S1.h m=some (true,.arr 96 2 (l.map Ab.c))->Aa S1 (.own m) v->RR (.returned v) S1.w):
 Calls Tryz.prog 255 vs S.w RR:=by
 have HV:=fL qZ;refine qE Tryz.func255 rfl (ps:=[.val (.sl true 0 []),.val (iQ op)]) (show 2<=13 by decide) (Q:=gQ op) ?_ hW aq ?_;rotate_left
 .rintro v C0 S1 s xs g1 g2 g3 g4 g5 ⟨l,hl,m,rfl,hm⟩ g7;exact ad v C0 S1 l m g1 g2 g3 g4 hl ((g5 m).trans hm) g7
 intro C0 a w hw af hc an;have ao:C0.ds=[]:=by obtain⟨S0,_,h⟩:=hc;rw[<-h.defers];exact an
 simp only[Tryz.f255] at hc⊢;refine vD CZ HV (by decide) (by decide) (s':=⟨[(2,.ptr 0 0),(1,.im (iQ op))],[(0,(true,.cells 50 [.im (.sl true 0 [])]))],2⟩) hc ?_ ?_ (by rw[af];exact Cz _) (λa w hc=> ?_)
 .simp(disch:=omega)only[ZA,simprocAttr,BI,sub,Dt,D7,BJ,entry]
 .simp[Ai.good,Am,Ac,Aq,A8,AV.bel]
 refine wpIn_seq ?_;refine vD CZ HV (by decide) (by decide) (s':=⟨[(6,.im (iQ op)),(2,.ptr 0 0)],[(0,(true,.cells 50 [.im (.sl true 0 [])]))],2⟩) hc ?_ ?_ (by rw[af];exact Cz _) (λa w hc=> ?_)
 .simp(disch:=omega)only[ZA,simprocAttr,BI,sub]
 .simp[Ai.good,Am,Ac,Aq,A8,AV.bel]
 refine wpIn_block (wpIn_mono (qV CZ HV hc (gf:=224) (capt:=[.ref [.mp xF (op.map CN)]]) (X:=XV op) (Oa (by kernel_rfl)) (OP op)
  (λ(i:Gc×List Ab)=>(i.2++i.1.map Prod.fst).Perm (op.map Prod.fst)) (gL _) ?_ (by decide) (by decide) (by decide) (by decide) ?_ (by decide)
  (tm0:=[(6,.im (iQ op)),(2,.ptr 0 0)]) (hs:=λ(i:Gc×List Ab)=>[(0,(true,.cells 50 [.own 2])),(2,(true,.arr 96 2 (i.2.map Ab.c)))]) (nx:=3) ⟨[(2,none)],?_⟩ rfl (by simp) ?_ ?_ ?_ ?_) ?_)
 .rintro⟨left,O⟩ x j G ⟨k,p,hk,rfl,rfl⟩;simp only at hk G⊢;have h1:(left.map Prod.fst).Perm (p.1::(left.eraseIdx k).map Prod.fst):=by
   exact (qN left k p hk).map Prod.fst
  refine List.Perm.trans ?_ G;rw[Hw];exact (h1.append_left O).symm
 .rintro⟨left,O⟩ x j G ⟨k,p,hk,rfl,rfl⟩;rfl
 .simp only[Ay];simp(disch:=omega)only[ZA,simprocAttr,VL];exact (trivial:T6 true (.arr 0 0 []))
 .simp[Am,AV.bel]
 .rintro⟨left,O⟩ G;simp[Ai.good,Am,Ac,Aq,A8,AV.bel]
 .intro i o e he hv;rw[Wb _ (by rfl) o e he] at hv;cases hv
 .rintro⟨left,O⟩ x j G ⟨k,p,hk,rfl,rfl⟩;have au:O.length<=op.length:=by
   have:=G.length_eq
   simp at this;omega
  simp(disch:=omega)only[ZA,simprocAttr,Ox,U3,Fu];refine⟨λrow ab=>by rw[BK] at ab;subst ab;rfl,by omega,[(2,some 5)],?_⟩;simp only[Ay];simp(disch:=omega)only[ZA,simprocAttr,Bp,GH]
 .rintro e a' w' ⟨⟨left,O⟩,G,ac,hq⟩;simp only[XV] at ac;subst ac;simp only[Gq,D8] at G;cases e<;>simp only[YJ] at hq;obtain⟨C2,S2,Dk,rfl,hE,Z,ht,hd,ag,ah,ai,aj,ak⟩:=hq;simp only[Exit.inBlock,Exit.then];have am:a.defers=[]:=by obtain⟨S0,_,h⟩:=hc;rw[h.defers];exact ao
  rw[am] at hd;have hm: ∀a'':Act,a''.defers=C2.ds->uN C0 C2 a''.defers:=λa'' h=> .inr ⟨Dk,by rw[h,<-hE.defers,hd],ag,ah,ai,aj,ak⟩
  refine wpIn_mono (lC (ro:=none) CZ HV _ (by decide) (by decide) (Ux Tryz.prog [ResultVar.tmp 4] (gQ op)) _ a' S2.w ?_ ⟨S2,rfl,hE⟩) ?_
  .simp(disch:=omega)only[ZA,simprocAttr,Ux,Pq,gQ];exact⟨_,rfl,O,G,2,rfl,rfl⟩
  .intro e a'' w'' hq;cases e<;>simp only[FZ] at hq<;>simp only[Ps]
   .obtain⟨s',aa,z⟩:=hq;exact⟨s',C2,aa,z,Z,hm a'' (by obtain⟨S0,_,h⟩:=z;exact h.defers)⟩
   .obtain⟨s',aa,z⟩:=hq;exact aa.elim
   .obtain⟨s',aa,z⟩:=hq;exact⟨s',C2,aa,z,Z,hm a'' (by obtain⟨S0,_,h⟩:=z;exact h.defers)⟩
def Va(a:List Ab)(j:Nat):Ao (srtQ.H0 a) j=true↔j<1:=by
 simp only[Ao,srtQ.H0,hget];by_cases z:j=0
 .subst z;simp
 .have:(0==j)=false:=by simpa using λh=>z h.symm
  rw[this];simp;omega
def nM(op:Gc)(S:A9)(v:Value)(w:World):Prop:= ∃(z:AW) (S1:A9) (l:List Ab) (m:Nat),S1.w=w/\z.w=S.w/\z.ok=S.ok/\(∀b,¬z.M b)/\Wf z S1/\l.Perm (op.map Prod.fst)/\S1.h m=some (true,.arr 96 2 (l.map Ab.c))/\Aa S1 (.own m) v
def X4{op:Gc}(hb:op.length<=1000000){C:AW}{S:A9}{v1:Value}(hW:Wf C S)(hv:EC S [.val (iQ op)] [v1]):
 Calls Tryz.prog 222 #[v1] S.w (λe w=> ∃v,e= .returned v/\nM op S v w):=by
 have z:Calls Tryz.prog 255 #[.slice none 0 0,v1] S.w (λe w=> ∃v,e= .returned v/\nM op S v w):=by
  refine gR hb hW ⟨_,_,rfl,?_,hv⟩ (λv G S1 l m g1 g2 O Q Z g6 g7=>⟨v,rfl,G,S1,l,m,rfl,g1,g2,O,Q,Z,g6,g7⟩);exact dM S (.slice none 0 0)
 go_enter Tryz.func222,Tryz.ntmps222
 go_wp2_with (go_at_call 255;refine z.mono ?_;rintro e w' ⟨v,rfl,h⟩)
 go_ret
 exact⟨v,rfl,h⟩
def PD{Z:AW}{S1:A9}{l:List Ab}{m:Nat}{v Q:Value}{R:Ending->World->Prop}(hW:Wf Z S1)(hd:l.Nodup)(hm:S1.h m=some (true,.arr 96 2 (l.map Ab.c)))(hv:Aa S1 (.own m) v)(ab:Aa S1 (.im (.fn 161 [] [])) Q)
 (G: ∀u S',Wf Z S'->S'.h m=some (true,.arr 96 2 ((BZ l).map Ab.c))->Aa S' (.own m) v->R (.returned u) S'.w):
 Calls Tryz.prog 223 #[v,Q] S1.w R:=by
 have O:srtQ.row [.own m,.im (.fn 161 [] [])] S1.h (m+1) (λr E=>E={use:=[m],kill:=[m],new:=[(m,(true,.arr 96 2 ((BZ l).map Ab.c)))],cnt:=0}):=by
  refine AE.os l [m] hd (Va l) rfl (by simp[Xi]) ⟨rfl,?_⟩ ?_
  .simp only[srtQ.H0,CO,Cm,Iz];exact⟨hm,trivial⟩
  .rfl
 obtain⟨_,r,E,hT,rfl⟩:=srtQ.ok _ _ _ _ O;have z: ∀n,¬Fr (m+1) 0 n:=λn h=>by have:=h.1;have:=h.2;omega
 refine hT Z S1 #[v,Q] R hW (λn _=>rfl) (λn hn=>(z n hn).elim) (λn e _ k _ hk=>z k hk) ⟨v,[Q],rfl,hv,Q,[],rfl,ab,rfl⟩ ?_;intro u S' aa hh hp _;refine G u S' aa ?_ (Ii hp _ _ (λo _ hf=>z o hf) hv);rw[hh];simp[Br.appf,hget]
def sorF.ar:List PK->Option Gc
 |[.val (.fn 224 [] [.ref [.mp ⟨true,[.int .i64,.int .i64]⟩ z]]),.val (.fn 161 [] [])]=>Gx (EA Ab.d) (Q6 Cu) z
 |_=>none
def sorF.ae(op:Gc):List PK:=[.val (iQ op),.val (.fn 161 [] [])]
def sorF.le: ∀z a,sorF.ar z=some a->BN z (sorF.ae a):=by
 intro z a h;unfold sorF.ar at h;split at h
 .exact⟨VF ⟨Rd (CE.leP ⟨Tf (Qxb Qwu (rZ Da (λ_=>rfl)) _ _ h),trivial⟩),trivial⟩,Cr.refl _,trivial⟩
 .cases h
def sorF.fv(op:Gc):List Ab:=BZ (op.map Prod.fst)
def sorF.row:AA:=Lm sorF.ar (λop=>(op.map Prod.fst).Nodup/\op.length<=1000000) (λop=> .sl false 2 ((sorF.fv op).map Ab.c))
def sorF.q:=yG sorF.row rfl
def sorF.ok:AB Tryz.prog 197 sorF.row:=by
 refine Quy (by kernel_rfl) sorF.le (rc:=Q6 Ab.d) (re:=λb=> .sl false 2 (b.map Ab.c)) (rZ Ab.d_le (λ_=>rfl)) (f:=sorF.fv) (λop Q C S vs RR hW Z O=> ?_);obtain⟨ad,hb⟩:=Q;simp only[sorF.ae,EC] at Z;obtain⟨v1,r1,ai,ag,v2,r2,rfl,ah,rfl⟩:=Z;have ab:vs= #[v1,v2]:=by apply Oo;simpa using ai
 subst ab;have G:=X4 hb hW (v1:=v1) ⟨v1,[],rfl,ag,rfl⟩
 go_enter Tryz.func197,Tryz.ntmps197
 have aa: ∀S1:A9,Aa S1 (.im (.fn 161 [] [])) v2:=λS1=>by simpa only[JP,Aa,rd,rdl] using ah
 have af: ∀(z:AW) (S1:A9) (l:List Ab) (m:Nat) (v:Value),Wf z S1->l.Perm (op.map Prod.fst)->S1.h m=some (true,.arr 96 2 (l.map Ab.c))->Aa S1 (.own m) v->
  Calls Tryz.prog 223 #[v,v2] S1.w (λe w=> ∃u S',e= .returned u/\S'.w=w/\Wf z S'/\S'.h m=some (true,.arr 96 2 ((sorF.fv op).map Ab.c))/\Aa S' (.own m) v):=by
  intro z S1 l m v g4 g5 g6 g7;refine PD g4 (g5.nodup_iff.2 ad) g6 g7 (aa S1) (λu S' h1 h2 h3=>⟨u,S',rfl,rfl,h1,?_,h3⟩)
  have:BZ l=BZ (op.map Prod.fst):=dJ (NQ _) (NQ _) (λq=>by rw[JZ,JZ];exact g5.mem_iff)
  rw[h2,this];rfl
 go_wp2_with (first
  |(go_at_call 222;refine G.mono ?_;rintro e w' ⟨v,rfl,z,S1,l,m,rfl,g1,g2,g3,g4,g5,g6,g7⟩)
  |(go_at_call 223;refine (af z S1 l m v g4 g5 g6 g7).mono ?_;rintro e w' ⟨u,S',rfl,rfl,h1,h2,h3⟩))
 show RR (.returned v) S'.w;obtain⟨d,rfl,ac⟩:=Qzf (K:=λd=>d= .sl false 2 ((sorF.fv op).map Ab.c)) g3 h1 (x:= .own m) (by
  simp only[OG,h2,iI];exact⟨by intro row hr;obtain⟨p,_,rfl⟩:=Bv.1 hr;rfl,trivial⟩) h3
 exact O v z S' _ g1 g2 g3 h1 (by simp only[Bn,Q6,Ab.d_R]) ac
def Bo.ca(_:Gc):List AV:=[.mp 0]
def Bo.H0(a:Gc):Av:=[(0,(true,.map xF (a.map CN)))]
def Bo.H1(_:Gc):Av:=[(1,(true,.cells 153 [.mp 0]))]
def Bo.r0(_:Gc):AV:= .clo 224 [] [.ptr 1 0]
def Bo.row:AA:=AE Bo.ca Bo.H0 1 (λ_=>True) (λ_=>false) Bo.r0 Bo.H1 1
def Bo.ok:AB Tryz.prog 198 Bo.row:=by
 refine ow tN Tryz.func198 rfl (by kernel_rfl) (exB:=λj=>j==1) (R:=λa r=>r=Bo.r0 a) (λ_=>rfl)
  (λa=>by simp[Bo.ca,Bo.H0,Aq,AV.bel,Ac,A8,BO,Ad.nms,Ao,hget]) (λa p hp=> ?_) (λa r h=>by subst h;exact CF.refl _) ?_
 rotate_left
 intro a z;simp only[Tryz.f198,Bo.ca,Bo.H0,Bo.H1,Bo.r0];simp(disch:=omega)only[ZA,simprocAttr];simp[Bo.H1] at hp;subst hp;exact .inr ⟨by omega,by omega,rfl,rfl⟩
end Go.Ae
namespace Go.Ae
open Go.Proofs
def Mo{β:Type}{v:β}{p:Ab}: ∀{t:List (Ab×β)},B9 t p=some v->(p,v)∈t
 |(q,w)::r,h=>by
  simp only[B9] at h;split at h
  .rename_i e;obtain rfl:=AD h;rw[e];exact BT ..
  .exact BX _ (Mo h)
def qW{β:Type}{p:Ab}: ∀{t:List (Ab×β)},B9 t p=none->p∉t.map Prod.fst
 |[],_=>by simp
 |(q,w)::r,h=>by
  simp only[B9] at h;split at h
  .cases h
  .rename_i e;simp only[Bd,Bm,aN];exact⟨e,qW h⟩
def SX(a:Gc)(j:Nat):Ao (Bo.H0 a) j=true↔j<1:=by
 simp only[Ao,Bo.H0,hget];by_cases h0:j=0
 .subst h0;simp
 .have z:(0==j)=false:=by simp;omega
  simp[z];omega
def lisC.r0(a:Cj):AV:= .im (.sl false 3 ((GQ a.Op).map Ap.c))
def lisC.row:AA:=AE asmC.ca B5 3 (λa=>(a.Op.map Prod.fst).Nodup/\a.Op.length<=1000000/\ ∀q∈a.Op,q.2.length<=1000) (λ_=>false) lisC.r0 (λ_=>[]) 20
def lisC.ok:AB Tryz.prog 155 lisC.row:=by
 refine M8 (tC Bo.ok (tC sorF.ok tN)) Tryz.func155 rfl (by kernel_rfl) (exB:=λ_=>false) (R:=λa r=>r=lisC.r0 a) (λ_=>rfl)
  (λa=>by simp[asmC.ca,B5,BV,Aq,AV.bel,Ac,A8,BO,Ad.nms,AH,AV.nms,Ao,hget]) (λa p hp=> ?_) (λa r h=>by subst h;exact CF.refl _) ?_
 rotate_left
 intro a ab;simp only[Tryz.f155,asmC.ca,B5,BV];simp(disch:=omega)only[ZA,simprocAttr];obtain⟨Z,aa,af⟩:=ab;refine AE.os a.Op [2] trivial (λj=>SX _ j) rfl rfl ?_ ?_
 .simp(disch:=omega)only[ZA,simprocAttr,D6,Bo.ca,Bo.H0,De];rfl
 simp(disch:=omega)only[ZA,simprocAttr,Cl,sorF.q,sorF.ar,sorF.fv,D6,Bo.H1,Bo.r0];obtain⟨L,hL⟩: ∃L,L=BZ (a.Op.map Prod.fst):=⟨_,rfl⟩;obtain⟨g,hg⟩: ∃g:Ab->List Int,g=λp=>(B9 a.Op p).getD []:=⟨_,rfl⟩
 have ad:GQ a.Op=C4 g L:=by rw[hg,hL];rfl
 refine⟨⟨Z,aa⟩,?_⟩;simp only[<-hL];intro ag;refine AP.ren ⟨{i:Nat//i<=L.length},λi=>⟨[(15,.im (.int .i64 i.1)),(14,.im (.int .i64 L.length)),(13,.im (.sl false 2 (L.map Ab.c))),(3,.own 6),(0,.ptr 0 0)],[(6,(true,.arr 108 3 ((Ej g L i.1).map Ap.c))),(0,(true,.cells 155 (BV a.Sys))),(1,(true,.map ⟨true,[.int .i64,.int .i64]⟩ (a.Tl.map DM))),(2,(true,.map ⟨true,[.int .i64,.int .i64]⟩ (a.Op.map CN)))],7⟩,λi=>L.length - i.1,λi=>⟨by simp[Ai.good,Am,Ac,A8,AV.bel,Aq,BV],by simp⟩,⟨⟨0,Cz _⟩,[(6,some 4)],?_⟩,λi=> ?_⟩
 .simp only[Ay,BV];simp(disch:=omega)only[ZA,simprocAttr,Bp,Ej,C4]
  try simp
 obtain⟨i,hi⟩:=i;simp only[BV];simp(disch:=omega)only[ZA,simprocAttr,Fe,AO,Yp];have z: ∀p,(g p).length<=1000:=λp=>by
  rw[hg];simp only;cases hq:B9 a.Op p with
  |none=>simp
  |some v=>exact af _ (Mo hq)
 have ah:L.length<=1000000:=by rw[hL,(dL Z).length_eq,He];exact aa
 have ai:(Ej g L i).length<=1000000*1000:=by
  have:=W4 z (L.take i)
  have h9:(L.take i).length*1000<=1000000*1000:=HL _ (by simp;omega);simp only[Ej];omega
 refine⟨λO=>⟨O,λp hp=>⟨λv hv=> ?_,λhv=> ?_⟩⟩,λO=> ?_⟩
 .have G:g p=v:=by rw[hg];simp only[hv,AM]
  have ac:=z p;rw[G] at ac;refine AP.ren ⟨{k:Nat//k<=v.length},λk=>⟨[(26,.im (.int .i64 k.1)),(25,.im (.int .i64 v.length)),(24,.im (.sl false 1 (v.map Aj))),(5,.ptr 7 0),(15,.im (.int .i64 i)),(14,.im (.int .i64 L.length)),(13,.im (.sl false 2 (L.map Ab.c))),(3,.own 8),(0,.ptr 0 0)],[(8,(true,.arr 108 3 ((Ej g L i++(v.take k.1).map (OS p)).map Ap.c))),(7,(true,.cells 96 ((Ab.c p).map .im))),(0,(true,.cells 155 (BV a.Sys))),(1,(true,.map ⟨true,[.int .i64,.int .i64]⟩ (a.Tl.map DM))),(2,(true,.map ⟨true,[.int .i64,.int .i64]⟩ (a.Op.map CN)))],9⟩,λk=>v.length - k.1,λk=>⟨by simp[Ai.good,Am,Ac,A8,AV.bel,Aq,BV,Ab.c],by simp⟩,⟨⟨0,Cz _⟩,[(8,some 6)],?_⟩,λk=> ?_⟩
  .simp only[Ay,BV];simp(disch:=omega)only[ZA,simprocAttr,Bp]
   try simp
  obtain⟨k,hk⟩:=k;simp only[BV];simp(disch:=omega)only[ZA,simprocAttr,D6,AO,NN,NJ,yK,B1,D.one,Dq];refine⟨λQ=>⟨Q,λx hx=>⟨?_,⟨k+1,by omega⟩,[(8,some 10)],by simp only;omega,?_⟩⟩,λQ=>⟨⟨i+1,by omega⟩,[(6,some 8)],by simp only;omega,?_⟩⟩
  .have:(v.take k).length<=1000:=by simp;omega
   omega
  .simp only[Ay];simp(disch:=omega)only[ZA,simprocAttr,Bp];refine⟨by rw[AG (by omega) (by omega)];rfl,?_⟩;rw[Kl hx];simp[OS,Ap.c]
  .obtain rfl:k=v.length:=by omega
   simp only[Ay];simp(disch:=omega)only[ZA,simprocAttr,Bp];refine⟨by rw[AG (by omega) (by omega)];rfl,?_⟩;rw[qK hp,Gs,G]
 .exfalso
  have:p∈L:=AZ hp
  rw[hL,JZ] at this;exact qW hv this
 .obtain rfl:i=L.length:=by omega
  have hA:Ej g L L.length=GQ a.Op:=by rw[Ej,Gs,ad]
  rw[hA];refine⟨[6],[],⟨[(2,.im (.sl false 3 ((GQ a.Op).map Ap.c)))],[(0,(true,.cells 155 (BV a.Sys))),(1,(true,.map ⟨true,[.int .i64,.int .i64]⟩ (a.Tl.map DM))),(2,(true,.map ⟨true,[.int .i64,.int .i64]⟩ (a.Op.map CN)))],3⟩,?_,by simp[Ai.good,Am,Ac,A8,AV.bel,Aq,BV],by simp,?_⟩
  .simp only[Ay,BV];simp(disch:=omega)only[ZA,simprocAttr,Bp]
  .simp only[BV];simp(disch:=omega)only[ZA,simprocAttr,lisC.r0]
 simp at hp
def schB1.fv(a:Int):Bool:=(El) a
def schB1.row:AA:=vK (b1 qI) rB (λa=>True) schB1.fv
def schB1.q:=AT (R:=schB1.row) rfl
def schB1.ok:AB Tryz.prog 101 schB1.row:=by
 refine vw (tC within_.ok tN) Tryz.func101 rfl (by kernel_rfl) ?_;intro a z;simp only[Tryz.f101];simp(disch:=omega)only[ZA,simprocAttr,schB1.fv,within_.q,within_.fv];rfl
def IdxSc.ar:List PK->Option ((List Int)×Unit)
 |[.val (.sl _ _ z),.val (.fn 101 [] [])]=>(AR Cu z).bind λG=>some (G,())
 |_=>none
def IdxSc.ae(a:(List Int)×Unit):List PK:=[.val (.sl false 1 (a.1.map Aj)),.val (.fn 101 [] [])]
def IdxSc.le: ∀z a,IdxSc.ar z=some a->BN z (IdxSc.ae a):=by
 intro z a h;unfold IdxSc.ar at h;split at h
 .simp only[Ef,AJ] at h;obtain⟨G,h0,rfl⟩:=h;exact⟨Dn (Dd Da _ _ h0) (by simp only[Bv];rintro r ⟨y,_,rfl⟩;rfl),Cr.refl _,trivial⟩
 .cases h
def IdxSc.fv(a:(List Int)×Unit):Int:=(λl _=>Bs El 0 l) (a.1) (a.2)
def IdxSc.row:AA:=Ee IdxSc.ar (λa=>True) (λa=>(D.int .i64) (IdxSc.fv a))
def IdxSc.q:=vq IdxSc.row rfl
def IdxSc.ok:AB Tryz.prog 150 IdxSc.row:=by
 refine Ww CZ (tC schB1.ok tN) Tryz.func150 rfl (by kernel_rfl) (by kernel_rfl) (ar:=IdxSc.ar) (ae:=IdxSc.ae) IdxSc.le (n:=2) (λ_=>rfl) (by decide) (rc:=(DJ)) (re:=(D.int .i64)) (N7) (f:=IdxSc.fv) ?_;intro a O;simp only[Tryz.f150];simp(disch:=omega)only[ZA,simprocAttr,IdxSc.ae,IdxSc.fv];intro hn;refine AP.old ⟨{k:Nat//k<=a.1.length/\Bs El k (a.1.drop k)=Bs El 0 a.1},λk=>⟨[(8,.im (.int .i64 k.1)),(7,.im (.int .i64 a.1.length)),(6,.im (.sl false 1 (a.1.map Aj))),(4,.im (.int .i64 0)),(0,.im (.sl false 1 (a.1.map Aj))),(1,.im (.fn 101 [] []))],[],0⟩,λk=>a.1.length - k.1,λk=>⟨by simp[Ai.good,Am,Ac,A8,AV.bel],AQ _⟩,⟨⟨0,by simp⟩,by simp(disch:=omega)only[ZA,simprocAttr,sub]⟩,λk=> ?_⟩;obtain⟨k,Q,z⟩:=k;simp(disch:=omega)only[ZA,simprocAttr,schB1.q,schB1.fv,sub,AO];refine⟨λG=>⟨G,λx Z=> ?_⟩,λG=> ?_⟩
 .rw[EW Z,Bs] at z;refine⟨λh=> ?_,λh=>Gi G hn ⟨by omega,by rw[<-z,Af (by simpa using h)]⟩⟩;rw[An (by simpa using h)] at z;exact z
 .rw[Dr (by omega),Bs] at z;exact z
def ContSc.ar:List PK->Option ((List Int)×Unit)
 |[.val (.sl _ _ z),.val (.fn 101 [] [])]=>(AR Cu z).bind λG=>some (G,())
 |_=>none
def ContSc.ae(a:(List Int)×Unit):List PK:=[.val (.sl false 1 (a.1.map Aj)),.val (.fn 101 [] [])]
def ContSc.le: ∀z a,ContSc.ar z=some a->BN z (ContSc.ae a):=by
 intro z a h;unfold ContSc.ar at h;split at h
 .simp only[Ef,AJ] at h;obtain⟨G,h0,rfl⟩:=h;exact⟨Dn (Dd Da _ _ h0) (by simp only[Bv];rintro r ⟨y,_,rfl⟩;rfl),Cr.refl _,trivial⟩
 .cases h
def ContSc.fv(a:(List Int)×Unit):Bool:=(λl _=>l.any El) (a.1) (a.2)
def ContSc.row:AA:=Ee ContSc.ar (λa=>True) (λa=>(D.bool) (ContSc.fv a))
def ContSc.q:=vq ContSc.row rfl
def ContSc.ok:AB Tryz.prog 100 ContSc.row:=by
 refine Ww CZ (tC IdxSc.ok tN) Tryz.func100 rfl (by kernel_rfl) (by kernel_rfl) (ar:=ContSc.ar) (ae:=ContSc.ae) ContSc.le (n:=2) (λ_=>rfl) (by decide) (rc:=(V4)) (re:=(D.bool)) (kN) (f:=ContSc.fv) ?_;intro a z;simp only[Tryz.f100];simp(disch:=omega)only[ZA,simprocAttr,ContSc.ae,ContSc.fv,IdxSc.q,IdxSc.ar,IdxSc.fv];exact Qsr _ _
def vSch_.fv(a:(List Int)):Bool:=(DY) a
def vSch_.row:AA:=vK (b1 (qS Da Cp)) rB (λa=>True) vSch_.fv
def vSch_.q:=AT (R:=vSch_.row) rfl
def vSch_.ok:AB Tryz.prog 52 vSch_.row:=by
 refine vw (tC ContSc.ok tN) Tryz.func52 rfl (by kernel_rfl) ?_;intro a z;simp only[Tryz.f52];simp(disch:=omega)only[ZA,simprocAttr,vSch_.fv,ContSc.q,ContSc.ar,ContSc.fv];intro _;simp only[DY];by_cases c:a.length<=200
 .rw[An (by omega),vQ c,Eb]
 .rw[Af (by omega),aK c,F6]
def sel1_.fv(a:Int×Int×(List Int)):Int:=(λn k l=>(G5 l n.toNat k.toNat:Int)) (a.1) (a.2.1) (a.2.2)
def sel1_.row:AA:=vK (b3 qI qI (qP 1 Qi)) rI (λa=>1<=a.1/\a.1<=1000000/\0<=a.2.1/\a.2.1<=1000/\DY a.2.2=true) sel1_.fv
def sel1_.q:=AT (R:=sel1_.row) rfl
def sel1_.ok:AB Tryz.prog 154 sel1_.row:=by
 refine vw tN Tryz.func154 rfl (by kernel_rfl) ?_;intro a z;simp only[Tryz.f154];simp(disch:=omega)only[ZZ,simprocAttr,sel1_.fv];obtain⟨n,k,l⟩:=a;obtain⟨h1,h2,Q,h4,Z⟩:=z;simp only at h1 h2 Q h4 Z⊢;obtain⟨n,rfl⟩: ∃m:Nat,n=m:=⟨n.toNat,by omega⟩;obtain⟨k,rfl⟩: ∃m:Nat,k=m:=⟨k.toNat,by omega⟩;intro _;by_cases c:(l.length:Int)=0
 .rw[An c];simp only[G5];rw[An (by omega)];rfl
 rw[Af c];refine⟨c,Zej _ Q,ZdS _ (by omega),λx G=>⟨by omega,?_⟩⟩;have O:=rR Z (AZ G);rw[fX (by omega),<-Int.natCast_emod,B0] at G;simp only[G5,B0];rw[Af (by omega),G,AM,fX O.1,Zek (Int.emod_nonneg _ (by omega))]
def slD:D->Option (List Int)
 | .fn g [] [.ref ds]=>if g=154 then Qm ds else none
 |_=>none
def jY: ∀d b,slD d=some b->Le d (.fn 154 [] [.ref (C8 b)]):=by
 intro d b h;unfold slD at h;split at h
 .rename_i g ds;split at h
  .rename_i z;subst z;refine VF ?_;exact⟨Rd (Qi _ _ h).leP,trivial⟩
  .cases h
 .cases h
def sel_.fv(a:(List Int)):List Int:=(λl=>l) a
def sel_.row:AA:=vK (b1 (qS Da Cp)) (RK.mk (slD) (λa=>D.fn 154 [] [.ref (C8 a)]) (jY)) (λa=>True) sel_.fv
def sel_.q:=AT (R:=sel_.row) rfl
def sel_.ok:AB Tryz.prog 108 sel_.row:=by
 refine vw tN Tryz.func108 rfl (by kernel_rfl) ?_;intro a z;simp only[Tryz.f108];simp(disch:=omega)only[ZA,simprocAttr,sel_.fv];refine .inl ?_;show (if 154=154 then Qm (C8 a) else none)=some a;rw[An rfl,Nb]
def asmX.ca(l:List Al):List AV:=[.im (.sl false 3 (l.map Al.c))]
def asmX.H1(l:List Al):Av:=[(0,(true,.arr 137 3 ((EX l).map Al.c)))]
def asmX.r0(_:List Al):AV:= .agg [.own 0]
def asmX.row:AA:=AE asmX.ca (λ_=>[]) 0 (λl=>(l.map Al.At).Nodup/\l.length<=1000000) (λ_=>false) asmX.r0 asmX.H1 20
def asmX.ok:AB Tryz.prog 111 asmX.row:=by
 refine M8 (tC clonC.ok (tC srt.ok tN)) Tryz.func111 rfl (by kernel_rfl) (exB:=λj=>j==0) (R:=λa r=>r=asmX.r0 a) (λ_=>rfl)
  (λa=>by simp[asmX.ca,Aq,AV.bel,Ac,A8,BO]) (λa p hp=> ?_) (λa r h=>by subst h;exact CF.refl _) ?_
 rotate_left
 intro a z;simp only[Tryz.f111,asmX.ca,asmX.H1];simp(disch:=omega)only[ZA,simprocAttr];refine AE.os a [] z.2 (λj=>by simp[Ao,hget]) rfl rfl ?_ ?_
 .simp(disch:=omega)only[ZA,simprocAttr,clonC.ca,CO]
 simp(disch:=omega)only[ZA,simprocAttr,clonC.H1];refine AE.os a [1] z.1 (λj=> ?_) rfl rfl ?_ ?_
 .simp only[Ao,srt.H0,hget];by_cases G:j=0
  .subst G;simp
  .have:(0==j)=false:=by simpa using λh=>G h.symm
   rw[this];simp;omega
 .simp(disch:=omega)only[ZA,simprocAttr,D6,srt.ca,srt.H0,CO]
  try exact⟨rfl,rfl⟩
 simp(disch:=omega)only[ZA,simprocAttr,Fe,D6,srt.H1,De,EE];refine⟨[],[(1,some 0),(0,some 1)],⟨[(2,.ptr 1 0)],[(1,(true,.cells 39 [.own 0])),(0,(true,.arr 137 3 ((EX a).map Al.c)))],2⟩,?_,by simp[Ai.good,Am,Ac,A8,AV.bel,Aq],by simp,?_⟩
 .simp only[Ay];simp(disch:=omega)only[ZA,simprocAttr,Bp]
  try simp
 .simp(disch:=omega)only[ZA,simprocAttr,asmX.r0]
 simp[asmX.H1] at hp;subst hp;exact .inr ⟨by omega,by omega,rfl,rfl⟩
def asmXV.ar:List PK->Option (List Al):=a1 (kS Al.d)
def asmXV.row:AA:=Fb asmXV.ar (λl=>(l.map Al.At).Nodup/\l.length<=1000000) asmX.r0 asmX.H1 20
def asmXV.ok:AB Tryz.prog 111 asmXV.row:=
 pR (A:=List Al) (ca:=λ(a:List Al)=>[D.sl false 3 (a.map Al.c)]) (by kernel_rfl) asmX.ok (λ_=>rfl) (aO (SV 3 Al.d_le (λ_=>rfl)))
  (λa=>by simp[asmX.r0,Jp,Ey,AV.nms,AH])
  (λa p hp=>by
   simp only[asmX.H1,BK] at hp;subst hp;exact⟨by omega,rfl,by simp[JI,Al.c,D.sc],by simp[Ad.nms]⟩)
def Fb.os{A:Type}{ar:List PK->Option A}{pre:A->Prop}{r0:A->AV}{H1:A->Av}{cnt:Nat}{args:List AV}{h:Nat->Option Au}{nx:Nat}{K:Ah}(ps:List PK)(G:CB h args=some ps)(a:A)(Q:ar ps=some a)(z:pre a)
 (O:K ((r0 a).ren (Cm (λj=>j) 0 nx)) {use:=Fv h args,new:=AY (Cm (λj=>j) 0 nx) (H1 a),cnt:=cnt}):Fb ar pre r0 H1 cnt args h nx K:=by
 unfold Fb;rw[G];simp only[W8,Q,Eo];exact⟨z,O⟩
def xQ{h:Nat->Option Au}{o T k:Nat}{z:Bool}{rows:List (List D)}(g:h o=some (z,.arr T k rows)):CB h [.own o]=some [.val (.sl false k rows)]:=by
 simp only[CB,E7,bk,g,Km,ES,I3,CQ]
def asmCX.H1(a:Cj):Av:=[(1,(false,.map ⟨true,[.int .i64,.int .i64]⟩ (a.Tl.map DM))),(3,(true,.arr 137 3 ((IJ a.Tl).Tiles.map Al.c)))]
def asmCX.row:AA:=AE asmC.ca B5 3 (λa=>(a.Tl.map Prod.fst).Nodup/\a.Tl.length<=100000) nC (λ_=> .agg [.own 3]) asmCX.H1 20
def asmCX.ok:AB Tryz.prog 56 asmCX.row:=by
 refine M8 (tC asmXV.ok tN) Tryz.func56 rfl (by kernel_rfl) (exB:=λj=>j==3) (R:=λ_ r=>r= .agg [.own 3]) (λ_=>rfl)
  (λa=>by simp[asmC.ca,B5,BV,Aq,AV.bel,Ac,A8,BO,Ad.nms,AH,AV.nms,Ao,hget]) (λa p hp=> ?_) (λa r h=>by subst h;exact CF.refl _) ?_
 rotate_left
 intro a G;simp only[Tryz.f56,asmC.ca,B5,BV,asmCX.H1];simp(disch:=omega)only[ZA,simprocAttr];obtain⟨ab,af⟩:=G;refine AP.ren ⟨{s:Option (D×D)×List (Ab×Int)×List Al//(s.2.2++s.2.1.map CA).Perm (a.Tl.map CA)},λs=>⟨[(10,.it 5),(3,.own 6),(2,.ptr 3 0),(0,.ptr 0 0)],[(6,(true,.arr 137 3 (s.1.2.2.map Al.c))),(5,(true,.iter s.1.1 (s.1.2.1.map DM))),(3,(true,.cells 39 [.im (.sl true 0 [])])),(0,(true,.cells 155 (BV a.Sys))),(1,(false,.map ⟨true,[.int .i64,.int .i64]⟩ (a.Tl.map DM))),(2,(true,.map ⟨true,[.int .i64,.int .i64]⟩ (a.Op.map CN)))],7⟩,λs=>s.1.2.1.length,λs=>⟨by simp[Ai.good,Am,Ac,A8,AV.bel,Aq,BV],by simp⟩,⟨⟨(none,a.Tl,[]),by simp⟩,[(6,some 4)],?_⟩,λs=> ?_⟩
 .simp only[Ay,BV];simp(disch:=omega)only[ZA,simprocAttr]
  try simp
 obtain⟨⟨ad,left,z⟩,O⟩:=s;simp only at O;simp only[BV];simp(disch:=omega)only[ZA,simprocAttr];refine⟨λhl=> ?_,λi p hp=> ?_⟩
 .have aa:left=[]:=by simpa using hl
  subst aa;rw[Gq,D8] at O;obtain⟨r1,r2,r3⟩:=rV ab O;refine Fb.os [.val (.sl false 3 (z.map Al.c))] (xQ rfl) z (by simp only[asmXV.ar,a1,kS,Al.d_R,Eg]) ⟨r2,by omega⟩ ?_;simp(disch:=omega)only[ZA,simprocAttr,Cl,Fe,asmX.r0,asmX.H1,r1];refine⟨[],[(3,some 7),(4,some 3)],⟨[(2,.ptr 4 0)],[(4,(true,.cells 39 [.own 3])),(3,(true,.arr 137 3 ((IJ a.Tl).Tiles.map Al.c))),(0,(true,.cells 155 (BV a.Sys))),(1,(false,.map ⟨true,[.int .i64,.int .i64]⟩ (a.Tl.map DM))),(2,(true,.map ⟨true,[.int .i64,.int .i64]⟩ (a.Op.map CN)))],5⟩,?_,by simp[Ai.good,Am,Ac,A8,AV.bel,Aq,BV],by simp,?_⟩
  .simp only[Ay,BV];simp(disch:=omega)only[ZA,simprocAttr,Bp]
   try simp[IJ]
  .simp only[BV];simp(disch:=omega)only[ZA,simprocAttr,nC]
   try simp
 .rw[D2] at hp;cases hq:left[i]? with
  |none=>rw[hq] at hp;cases hp
  |some q=>
   rw[hq] at hp;obtain rfl:=AD hp;obtain⟨⟨Z,qy⟩,Q⟩:=q;simp only[DM,Ab.c];simp(disch:=omega)only[ZA,simprocAttr,GM,De,EE];have hi:i<left.length:=by
    rcases Fj i left.length with h|h
    .exact h
    .rw[FG h] at hq;cases hq
   have ac:((⟨Z,qy⟩,Q)::left.eraseIdx i).Perm left:=Qqq _ _ _ hq;have hP:((z++[(⟨⟨Z,qy⟩,Q⟩:Al)])++(left.eraseIdx i).map CA).Perm (a.Tl.map CA):=by
    rw[Hw];refine (ZeO z ?_).trans O;exact ac.map CA
   have hcl:z.length<=a.Tl.length:=by
    have r3:=O.length_eq;simp at r3;omega
   refine⟨by omega,⟨⟨(some (D.agg [.int .i64 Z,.int .i64 qy],D.int .i64 Q),left.eraseIdx i,z++[(⟨⟨Z,qy⟩,Q⟩:Al)]),hP⟩,[(6,some 9)],?_,?_⟩⟩
   .simp only[Zee];rw[An hi];omega
   .simp only[Ay];simp(disch:=omega)only[ZA,simprocAttr];simp[Al.c,Qwf]
 simp[asmCX.H1] at hp;rcases hp with rfl|rfl
 .exact .inl ⟨by omega,rfl,rfl⟩
 .exact .inr ⟨by omega,by omega,rfl,rfl⟩
def R5(s:Ax)(b:Ak)(o:Ap):J4 s.Set b o.At o.Tile 4=C9 s.Set (Bb b) o.At o.Tile 4:=(Wq ..).symm
def KS(s:Ax)(l:List Ap):Prop:=BF s.Set/\DP s.Set s.Seed/\s.Set.Tiles.length<=160/\s.Seed.Tiles.length<=1000000/\JS s s.Seed l/\l.length<=500
def WF{d:Nat}(hd:d<4):IntKind.i64.wrap (1*2^min d IntKind.i64.bits)=2^d:=by
 rcases (by omega:d=0\/d=1\/d=2\/d=3) with rfl|rfl|rfl|rfl<;>decide
def cP{d:Nat}(hd:d<4):(2:Int)^d<=8:=by
 rcases (by omega:d=0\/d=1\/d=2\/d=3) with rfl|rfl|rfl|rfl<;>decide
def cH(s:AC)(f:Ab->Int)(p:Ab)(t d:Int):0<Gp s f p t d↔(0<=f (Bu p d)/\0<Gk s t d (f (Bu p d))):=by
 by_cases c:0<=f (Bu p d)
 .have e:Gp s f p t d=Gk s t d (f (Bu p d)):=An c;rw[e];exact⟨λh=>⟨c,h⟩,λh=>h.2⟩
 .have e:Gp s f p t d=0:=Af c;rw[e];exact⟨λh=>by omega,λh=>(c h.1).elim⟩
def Mw(s:AC)(f:Ab->Int)(p:Ab)(t:Int)(d:Nat)(h:0<=f (Bu p d))(z:0<Gk s t d (f (Bu p d))):DW s f p t (d+1)=DW s f p t d+2^d:=by
 simp only[DW];rw[An ((cH ..).2 ⟨h,z⟩)]
def Ws(s:AC)(f:Ab->Int)(p:Ab)(t:Int)(d:Nat)(h: ¬(0<=f (Bu p d)/\0<Gk s t d (f (Bu p d)))):DW s f p t (d+1)=DW s f p t d:=by
 simp only[DW];rw[Af (λq=>h ((cH ..).1 q)),Zfj]
def l10Inputs.fv(a:Ax×(List Ap)):(List Int)×(List Int):=(λs l=>(CI s s.Seed l,CC s s.Seed l)) (a.1) (a.2)
def l10Inputs.row:AA:=vK (b2 (qP 4 Ax.d_le) (qS Ap.d_le Ap.c_n)) (r2 (rS Da Cp) (rS Da Cp)) (λa=>KS a.1 a.2) l10Inputs.fv
def l10Inputs.q:=AT (R:=l10Inputs.row) rfl
def l10Inputs.ok:AB Tryz.prog 118 l10Inputs.row:=by
 refine vw (tC l03Own.ok (tC l01Step.ok (tC l03At.ok (tC l02Bond.ok (tC l06Binding.ok (tC l03Put.ok tN)))))) Tryz.func118 rfl (by kernel_rfl) ?_;intro a G;simp only[Tryz.f118];simp(disch:=omega)only[ZA,simprocAttr,Ak.d,l10Inputs.fv,l03Own.q,l03Own.fv];obtain⟨s,l⟩:=a;simp only at G⊢;obtain⟨h1,h2,h3,h4,Z,h6⟩:=G;refine⟨h4,?_⟩;refine AP.ren ⟨{k:Nat//k<=l.length},λk=>⟨[(9,.im (.int .i64 k.1)),(8,.own 7),(7,.own 6),(6,.ptr 3 0),(0,.ptr 0 0),(1,.im (.sl false 3 (l.map Ap.c)))],[(7,(true,.arr 2 1 ((CC s s.Seed (l.take k.1)).map Aj))),(6,(true,.arr 2 1 ((CI s s.Seed (l.take k.1)).map Aj))),(3,(true,.cells 39 [.im (.sl false 3 ((AX s.Seed (l.take k.1)).Tiles.map Al.c))])),(0,(false,.view (Ax.c s)))],8⟩,λk=>l.length - k.1,λk=>⟨by simp[Ai.good,Am,Ac,A8,AV.bel,Aq],by simp⟩,⟨⟨0,by simp⟩,[(7,some 5),(6,some 4)],?_⟩,λk=> ?_⟩
 .simp only[Ay];simp(disch:=omega)only[ZA,simprocAttr,CI,CC,AX]
  try simp
 obtain⟨k,ab⟩:=k;simp(disch:=omega)only[ZA,simprocAttr,AO];intro _;obtain⟨b,hb⟩: ∃b,b=AX s.Seed (l.take k):=⟨_,rfl⟩;have O:DP s.Set b:=by rw[hb];exact JU h3 h2 Z k ab
 rw[<-hb];refine⟨λhk=>⟨hk,λx hx=> ?_⟩,λhk=> ?_⟩
 .have hc:=GN (Z k x hx).1;rw[<-hb] at hc;obtain⟨g1,g2,g3,g4,g5,g6⟩:=hc;refine AP.old ⟨{d:Nat//d<=4},λd=>⟨[(12,.im (.int .i64 d.1)),(11,.im (.int .i64 (DW s.Set (Bb b) x.At x.Tile d.1))),(10,.ptr 8 0),(9,.im (.int .i64 k)),(8,.own 7),(7,.own 6),(6,.ptr 3 0),(0,.ptr 0 0),(1,.im (.sl false 3 (l.map Ap.c)))],[(8,(true,.cells 108 ((Ap.c x).map .im))),(7,(true,.arr 2 1 ((CC s s.Seed (l.take k)).map Aj))),(6,(true,.arr 2 1 ((CI s s.Seed (l.take k)).map Aj))),(3,(true,.cells 39 [.im (.sl false 3 (b.Tiles.map Al.c))])),(0,(false,.view (Ax.c s)))],9⟩,λd=>4 - d.1,λd=>⟨by simp[Ai.good,Am,Ac,A8,AV.bel,Aq,Ap.c],by simp⟩,⟨⟨0,by simp⟩,by simp(disch:=omega)only[ZA,simprocAttr,sub,DW]⟩,λd=> ?_⟩;obtain⟨d,ac⟩:=d;simp(disch:=omega)only[ZA,simprocAttr,Ak.d,l01Step.q,l01Step.fv,l03At.q,l03At.fv,l02Bond.q,l02Bond.fv,l06Binding.q,l06Binding.fv,l03Put.q,l03Put.fv,sub,AO];have ad:=cU s.Set (Bb b) x.At x.Tile d;refine⟨λhd=> ?_,λhd=> ?_⟩
  .have z:d<4:=by omega
   have af:=cP z;refine⟨⟨g2,by omega⟩,O.1,λc1=>⟨⟨h1,g5,⟨by omega,by omega⟩,JW O _ c1⟩,λQ=> ?_,λQ=> ?_⟩,λc1=> ?_⟩
   .refine⟨⟨d+1,by omega⟩,by simp only;omega,by rw[AG (by omega) (by omega)];simp only;omega,?_⟩;rw[WF z,AG (by omega) (by omega),Mw _ _ _ _ _ c1 Q]
   .refine⟨⟨d+1,by omega⟩,by simp only;omega,by rw[AG (by omega) (by omega)];simp only;omega,?_⟩;rw[Ws _ _ _ _ _ (λh=>Q h.2)]
   .refine⟨⟨d+1,by omega⟩,by simp only;omega,by rw[AG (by omega) (by omega)];simp only;omega,?_⟩;rw[Ws _ _ _ _ _ (λh=>c1 h.1)]
  .have z:d=4:=by omega
   subst z;have aa:=(Z k x hx).2;rw[<-hb] at aa;refine⟨by simp[BE,B1,D.one],by rw[QE,Cf];omega,⟨h1,O,g2,g5⟩,by simp[BE,B1,D.one],by rw[QF,Cf];omega,by omega,⟨k+1,by omega⟩,[(7,some 12),(6,some 10)],by simp only;omega,?_⟩;simp only[Ay,Kl hx,cB,cC,Wm,<-hb];simp(disch:=omega)only[ZA,simprocAttr,Bp];refine⟨by rw[AG (by omega) (by omega)];omega,?_,?_⟩
   .simp[Aj,R5]
   .simp[Aj]
 .rw[DQ (by omega)]
  try trivial
def iN(m:Int)(d:Nat):(Es m d=true)=(Ot .i64 (m.fdiv (2^min d IntKind.i64.bits)) 1=1):=by
 simp only[Es,BL,B0];rfl
def QL{p q:Ab}:((p.X==q.X)=true/\(p.Y==q.Y)=true)↔p=q:=by
 cases p;cases q;simp
def MS{s:Ax}{t:List (Ab×Int)}{a:Ak}{k:Nat}{o:Ap}(h:RM t a k)(Z:DP s.Set a)(c1:Dv s a o=true):B9 t o.At=none/\0<=o.Tile:=by
 simp only[Dv,AS,BL] at c1;obtain⟨d1,z,G,_⟩:=c1;have hv:0<=o.Tile:=by
  simp only[Bj,AS,BL] at z;exact z.1
 refine⟨?_,hv⟩;have O:Cs t o.At=Bb a o.At:=congrFun h.at o.At;have h2:=(NR Z.2 o.At).1 G;cases hq:B9 t o.At with
 |none=>rfl
 |some v=>
  exfalso;have Q:=h.pos _ (Wh hq);simp only[Cs,hq,AM] at O;simp only at Q;omega
def xR:D->Option (Option Cn)
 | .ref ds=>(Cn.d (ds.take 8)).map some
 | .nilp=>some none
 |_=>none
def plE:Option Cn->D
 |some x=> .ref (Cn.c x)
 |none=> .nilp
def jK: ∀d b,xR d=some b->Le d (plE b):=by
 intro d b h;unfold xR at h;split at h
 .simp only[D4] at h;obtain⟨x,z,rfl⟩:=h;exact Rd (G9.trans_take (Cn.d_le _ _ z))
 .obtain rfl:=AD h;exact Le.refl _
 .cases h
def YB(x:Cn):xR (.ref (Cn.c x))=some (some x):=by
 show (Cn.d (Cn.c x)).map some=_;rw[Cn.d_c];rfl
def Xw(s:AC)(f:Ab->Int)(p:Ab)(t:Int)(d:Nat)(h:0<=f (Bu p d)):C9 s f p t (d+1)=C9 s f p t d+Gk s t d (f (Bu p d)):=by
 have e:Gp s f p t d=Gk s t d (f (Bu p d)):=An h;simp only[C9,e]
def L4{s:AC}(hs:BF s)(f:Ab->Int)(p:Ab)(t:Int)(d:Nat)(h: ¬(0<=f (Bu p d)/\0<Gk s t d (f (Bu p d)))):C9 s f p t (d+1)=C9 s f p t d:=by
 have z:=fR hs f p t d;have G: ¬0<Gp s f p t d:=λq=>h ((cH ..).1 q)
 simp only[C9];omega
def I8(s:Ax)(l:List Ap):Option Cn×Int:=if (Cw s l).2.2≠0 then (none,(Cw s l).2.2) else (some ⟨s,l,(Cw s l).1,CI s s.Seed l,CC s s.Seed l⟩,0)
def MY{s:Ax}{l:List Ap}(h:(Cw s l).2.2=0):(Cw s l).1=AX s.Seed l/\KS s l/\F3 s=true:=by
 obtain⟨z,G⟩:=jW h;obtain⟨⟨q1,Q,Z,q4⟩,_⟩:=H5 z;have e:Cw s l=CM s s.Seed l 0:=by
  simp only[Cw];rw[Af (by rw[z];decide),Af (by omega)]
 rw[e] at h⊢;obtain⟨p1,O⟩:=pD l s.Seed 0 h;exact⟨by rw[p1],⟨q1,Q,Z,q4,O,G⟩,z⟩
def play_.fv(a:Ax×(List Ap)):(Option Cn)×Int:=(I8) (a.1) (a.2)
def play_.row:AA:=vK (b2 (qR Ax.d_le) (qS Ap.d_le Ap.c_n)) (r2 (RK.mk (xR) (plE) (jK)) rI) (λa=>Qf a.1.Set) play_.fv
def play_.q:=AT (R:=play_.row) rfl
def play_.ok:AB Tryz.prog 174 play_.row:=by
 refine vw (tC PlayI_.ok (tC newC.ok (tC step_.ok (tC catC.ok (tC bond_.ok (tC putC.ok tN)))))) Tryz.func174 rfl (by kernel_rfl) ?_;intro a O;simp only[Tryz.f174];simp(disch:=omega)only[ZA,simprocAttr,play_.fv,PlayI_.q,PlayI_.fv];obtain⟨s,l⟩:=a;simp only at O⊢;refine⟨O,?_⟩;simp only[YS];by_cases c0:(Cw s l).2.2=0
 case neg=>
  rw[An c0];simp only[I8,xR,Eg];rw[An c0]
 rw[Af (λh=>h c0)];have eR:I8 s l=(some ⟨s,l,(Cw s l).1,CI s s.Seed l,CC s s.Seed l⟩,0):=by
  simp only[I8];rw[Af (λh=>h c0)]
 obtain⟨hE,⟨q1,q2,q3,q4,q5,q6⟩,ai⟩:=MY c0;obtain⟨_,q7,q8⟩:=H5 ai;have ad:=uA (s:=s.Set) (a:=s.Seed) (by rw[q7,q8];rfl);have ah:newC.pre (s,s.Seed):=⟨q1,by simp only;omega,λy hy=>⟨q2.2 y hy,ad.1.2.2.2 y hy⟩⟩;obtain⟨e,he⟩: ∃e,e=(Cw s l).1:=⟨_,rfl⟩;rw[eR];simp only[<-he];refine AE.os (s,s.Seed) [] ah (λj=>by simp[Ao,hget]) rfl rfl ?_ ?_
 .simp(disch:=omega)only[ZA,simprocAttr,newC.ca,CO,Ax.c,Ak.c]
 simp(disch:=omega)only[ZA,simprocAttr,newC.H1];intro _;refine AP.ren ⟨{k:Nat×List (Ab×Int)×List (Ab×List Int)//k.1<=l.length/\ ∃n,RM k.2.1 (AX s.Seed (l.take k.1)) n},λk=>⟨[(39,.im (.int .i64 k.1.1)),(38,.im (.int .i64 l.length)),(37,.im (.sl false 3 (l.map Ap.c))),(10,.ptr 7 0),(9,.ptr 2 0),(5,.im (.int .i64 0)),(2,.ptr 0 0)],[(2,(true,.cells 291 [.im (.sl false 2 (s.Set.Glues.map Ar.c)),.im (.sl false 2 (s.Set.Tiles.map Tile.c)),.im (.sl false 3 (s.Seed.Tiles.map Al.c)),.im (.int .i64 s.Temperature),.im (.sl false 3 (l.map Ap.c)),.im (.sl false 3 (e.Tiles.map Al.c)),.own 8,.own 9])),(9,(true,.arr 2 1 ((CC s s.Seed (l.take k.1.1)).map Aj))),(8,(true,.arr 2 1 ((CI s s.Seed (l.take k.1.1)).map Aj))),(7,(true,.cells 155 [.im (.sl false 2 (s.Set.Glues.map Ar.c)),.im (.sl false 2 (s.Set.Tiles.map Tile.c)),.im (.sl false 3 (s.Seed.Tiles.map Al.c)),.im (.int .i64 s.Temperature),.mp 5,.mp 6])),
  (5,(true,.map ⟨true,[.int .i64,.int .i64]⟩ (k.1.2.1.map DM))),(6,(true,.map ⟨true,[.int .i64,.int .i64]⟩ (k.1.2.2.map CN))),(0,(true,.cells 47 ((Ax.c s).map .im)))],10⟩,λk=>l.length - k.1.1,λk=>⟨by simp[Ai.good,Am,Ac,A8,AV.bel,Aq,Ax.c],by simp⟩,⟨⟨(0,(Kk s s.Seed).Tl,(Kk s s.Seed).Op),by simp only;exact⟨Cz _,_,RM.of q2.1 (λx hx=>(q2.2 x hx).1)⟩⟩,[(9,none),(8,none)],?_⟩,λk=> ?_⟩
 .simp only[Ay];simp(disch:=omega)only[ZA,simprocAttr,CI,CC]
  try simp
 obtain⟨⟨k,Z,op⟩,ab,n,G⟩:=k;simp only at ab G;simp(disch:=omega)only[ZA,simprocAttr,AO];obtain⟨b,hb⟩: ∃b,b=AX s.Seed (l.take k):=⟨_,rfl⟩;have Q:DP s.Set b:=by rw[hb];exact JU q3 q2 q5 k ab
 rw[<-hb] at G;have aa:=G.at;refine⟨λhk=>⟨hk,λx hx=> ?_⟩,λhk=> ?_⟩
 .obtain⟨cS,cL⟩:=q5 k x hx;rw[<-hb] at cS cL;obtain⟨g1,g2,g3,g4,g5,g6⟩:=GN cS;refine AP.old ⟨{d:Nat//d<=4},λd=>⟨[(43,.im (.int .i64 d.1)),(14,.im (.int .i64 (C9 s.Set (Bb b) x.At x.Tile d.1))),(13,.im (.int .i64 (DW s.Set (Bb b) x.At x.Tile d.1))),(12,.ptr 10 0),(39,.im (.int .i64 k)),(38,.im (.int .i64 l.length)),(37,.im (.sl false 3 (l.map Ap.c))),(10,.ptr 7 0),(9,.ptr 2 0),(5,.im (.int .i64 0)),(2,.ptr 0 0)],[(10,(true,.cells 108 ((Ap.c x).map .im))),(2,(true,.cells 291 [.im (.sl false 2 (s.Set.Glues.map Ar.c)),.im (.sl false 2 (s.Set.Tiles.map Tile.c)),.im (.sl false 3 (s.Seed.Tiles.map Al.c)),.im (.int .i64 s.Temperature),.im (.sl false 3 (l.map Ap.c)),.im (.sl false 3 (e.Tiles.map Al.c)),.own 8,.own 9])),(9,(true,.arr 2 1 ((CC s s.Seed (l.take k)).map Aj))),(8,(true,.arr 2 1 ((CI s s.Seed (l.take k)).map Aj))),(7,(true,.cells 155 [.im (.sl false 2 (s.Set.Glues.map Ar.c)),.im (.sl false 2 (s.Set.Tiles.map Tile.c)),.im (.sl false 3 (s.Seed.Tiles.map Al.c)),.im (.int .i64 s.Temperature),.mp 5,.mp 6])),
   (5,(true,.map ⟨true,[.int .i64,.int .i64]⟩ (Z.map DM))),(6,(true,.map ⟨true,[.int .i64,.int .i64]⟩ (op.map CN))),(0,(true,.cells 47 ((Ax.c s).map .im)))],11⟩,λd=>4 - d.1,λd=>⟨by simp[Ai.good,Am,Ac,A8,AV.bel,Aq,Ax.c,Ap.c],by simp⟩,⟨⟨0,by simp⟩,by simp(disch:=omega)only[ZA,simprocAttr,sub,DW,C9]⟩,λd=> ?_⟩
  obtain⟨d,am⟩:=d;simp(disch:=omega)only[ZA,simprocAttr,Cl,step_.q,step_.fv,step_.re,catC.q,catC.fv,bond_.q,bond_.fv,bond_.re,sub,AO,aa];have ac:=cU s.Set (Bb b) x.At x.Tile d;have ak:=vC q1 (Bb b) x.At x.Tile d;have aj:=fR q1 (Bb b) x.At x.Tile d;refine⟨λhd=> ?_,λhd=> ?_⟩
  .have z:d<4:=by omega
   have an:=cP z;refine⟨⟨g2,by omega⟩,λc1=>⟨⟨q1,g5,⟨by omega,by omega⟩,JW Q _ c1⟩,λc2=> ?_,λc2=> ?_⟩,λc1=> ?_⟩
   .have ht:Gp s.Set (Bb b) x.At x.Tile d=Gk s.Set x.Tile d (Bb b (Bu x.At d)):=An c1;rw[ht] at aj;refine⟨⟨d+1,by omega⟩,by simp only;omega,by rw[AG (by omega) (by omega)];simp only;omega,?_,?_⟩
    .rw[AG (by omega) (by omega),Xw _ _ _ _ _ c1]
    .rw[WF z,TN z ac.1 ac.2,Mw _ _ _ _ _ c1 c2]
   .refine⟨⟨d+1,by omega⟩,by simp only;omega,by rw[AG (by omega) (by omega)];simp only;omega,?_,?_⟩
    .rw[L4 q1 _ _ _ _ (λh=>c2 h.2)]
    .rw[Ws _ _ _ _ _ (λh=>c2 h.2)]
   .refine⟨⟨d+1,by omega⟩,by simp only;omega,by rw[AG (by omega) (by omega)];simp only;omega,?_,?_⟩
    .rw[L4 q1 _ _ _ _ (λh=>c1 h.1)]
    .rw[Ws _ _ _ _ _ (λh=>c1 h.1)]
  .have z:d=4:=by omega
   subst z;refine⟨by simp[BE,B1,D.one],by rw[QE,Cf];omega,by simp[BE,B1,D.one],by rw[QF,Cf];omega,?_⟩;have ag:SM s.Set (Cs Z):=by rw[aa];exact λp hp=>JW Q p hp
   have af:NK ⟨s,Z,op⟩:=⟨q1,ag,by simp only;omega⟩;obtain⟨f1,f2⟩:=MS G Q cS;refine AE.os (⟨s,Z,op⟩,x.At,x.Tile) [7,5,6] ⟨af,g2,g5⟩ (λj=>Gd _ j) rfl rfl ?_ ?_
   .simp(disch:=omega)only[ZA,simprocAttr,putC.ca,B5,BV,De,EE]
   .simp(disch:=omega)only[ZA,simprocAttr,putC.H1,Dx,FP,De,EE];refine⟨⟨(k+1,Bf Z x.At x.Tile,Gn s (Cs (Bf Z x.At x.Tile)) (DA op x.At) x.At 4),by simp only;exact⟨by omega,_,by rw[Kl hx,Wm,<-hb];exact G.put f2 f1⟩⟩,[(9,some 14),(8,some 12)],by simp only;omega,?_⟩;simp only[Ay,Kl hx,cB,cC,<-hb];simp(disch:=omega)only[ZA,simprocAttr,Bp];refine⟨by rw[AG (by omega) (by omega)];omega,?_,?_⟩<;>simp[Aj]
 .rw[DQ (by omega)]
  have:=YB ⟨s,l,e,CI s s.Seed l,CC s s.Seed l⟩
  simp only[Cn.c] at this;rw[this];rfl
def has_.fv(a:Int×Int):Bool:=(Es) (a.1) (a.2)
def has_.row:AA:=vK (b2 qI qI) rB (λa=>0<=a.2/\a.2<=62) has_.fv
def has_.q:=AT (R:=has_.row) rfl
def has_.ok:AB Tryz.prog 250 has_.row:=by
 refine vw tN Tryz.func250 rfl (by kernel_rfl) ?_;intro a z;simp only[Tryz.f250];simp(disch:=omega)only[ZA,simprocAttr,has_.fv];exact⟨z.1,rfl⟩
def iA1.fv(a:Ap×Ab):Bool:=(λo p=>decide (o.At=p)) (a.1) (a.2)
def iA1.row:AA:=vK (b2 (qR Ap.d_le) (qP 2 Ab.d_le)) rB (λa=>True) iA1.fv
def iA1.q:=AT (R:=iA1.row) rfl
def iA1.ok:AB Tryz.prog 290 iA1.row:=by
 refine vw tN Tryz.func290 rfl (by kernel_rfl) ?_;intro a G;simp only[Tryz.f290];simp(disch:=omega)only[ZA,simprocAttr,iA1.fv];obtain⟨⟨⟨x,y⟩,u⟩,⟨z,w⟩⟩:=a;rw[VQ];simp
def IdxO_.ar:List PK->Option ((List Ap)×Ab)
 |[.val (.sl _ _ O),.val (.fn 290 [] [.ref z])]=>(AR Ap.d O).bind λQ=>(Ab.d (z.take 2)).bind λG=>some (Q,G)
 |_=>none
def IdxO_.ae(a:(List Ap)×Ab):List PK:=[.val (.sl false 3 (a.1.map Ap.c)),.val (.fn 290 [] [.ref (Ab.c a.2)])]
def IdxO_.le: ∀G a,IdxO_.ar G=some a->BN G (IdxO_.ae a):=by
 intro G a h;unfold IdxO_.ar at h;split at h
 .simp only[Ef,AJ] at h;obtain⟨Q,h0,O,z,rfl⟩:=h;exact⟨Dn (Dd Ap.d_le _ _ h0) (by simp only[Bv];rintro r ⟨y,_,rfl⟩;rfl),VF ⟨Rd (G9.trans_take (Ab.d_le _ _ z)),trivial⟩,trivial⟩
 .cases h
def IdxO_.fv(a:(List Ap)×Ab):Int:=(λl p=>EN l p) (a.1) (a.2)
def IdxO_.row:AA:=Ee IdxO_.ar (λa=>True) (λa=>(D.int .i64) (IdxO_.fv a))
def IdxO_.q:=vq IdxO_.row rfl
def IdxO_.ok:AB Tryz.prog 289 IdxO_.row:=by
 refine Ww CZ (tC iA1.ok tN) Tryz.func289 rfl (by kernel_rfl) (by kernel_rfl) (ar:=IdxO_.ar) (ae:=IdxO_.ae) IdxO_.le (n:=2) (λ_=>rfl) (by decide) (rc:=(DJ)) (re:=(D.int .i64)) (N7) (f:=IdxO_.fv) ?_;intro a O;simp only[Tryz.f289];simp(disch:=omega)only[ZA,simprocAttr,IdxO_.ae,IdxO_.fv];intro hn;simp only[EN];refine AP.old ⟨{k:Nat//k<=a.1.length/\Bs (λo:Ap=>decide (o.At=a.2)) k (a.1.drop k)=Bs (λo:Ap=>decide (o.At=a.2)) 0 a.1},λk=>⟨[(8,.im (.int .i64 k.1)),(7,.im (.int .i64 a.1.length)),(6,.im (.sl false 3 (a.1.map Ap.c))),(4,.im (.int .i64 0)),(0,.im (.sl false 3 (a.1.map Ap.c))),(1,.im (.fn 290 [] [.ref (Ab.c a.2)]))],[],0⟩,λk=>a.1.length - k.1,λk=>⟨by simp[Ai.good,Am,Ac,A8,AV.bel],AQ _⟩,⟨⟨0,by simp⟩,by simp(disch:=omega)only[ZA,simprocAttr,sub]⟩,λk=> ?_⟩;obtain⟨k,Q,z⟩:=k;simp(disch:=omega)only[ZA,simprocAttr,iA1.q,iA1.fv,sub,AO];refine⟨λG=>⟨G,λx Z=> ?_⟩,λG=> ?_⟩
 .rw[EW Z,Bs] at z;refine⟨λh=> ?_,λh=>Gi G hn ⟨by omega,by rw[<-z,Af (by simpa using h)]⟩⟩;rw[An (by simpa using h)] at z;exact z
 .rw[Dr (by omega),Bs] at z;exact z
def idxAt_.fv(a:Cn×Ab):Int:=(λx p=>EN x.Seq p) (a.1) (a.2)
def idxAt_.row:AA:=vK (b2 (qP 8 Cn.d_le) (qR Ab.d_le)) rI (λa=>True) idxAt_.fv
def idxAt_.q:=AT (R:=idxAt_.row) rfl
def idxAt_.ok:AB Tryz.prog 272 idxAt_.row:=by
 refine vw (tC IdxO_.ok tN) Tryz.func272 rfl (by kernel_rfl) ?_;intro a z;simp only[Tryz.f272];simp(disch:=omega)only[ZZ,simprocAttr,idxAt_.fv,IdxO_.q,IdxO_.ar,IdxO_.fv]
 skip
def HQ(s:Ax)(b:Ak)(c:Cj):Prop:=c.Sys=s/\(∃n,RM c.Tl b n)/\JO s (Cs c.Tl) c.Op/\DP s.Set b/\b.Tiles.length<=500/\BF s.Set/\1<=s.Temperature/\s.Set.Tiles.length<=160
def HQ.put{s:Ax}{b:Ak}{c:Cj}(h:HQ s b c){o:Ap}(G:Dv s b o=true)(hl:b.Tiles.length<500):HQ s (BU b o.At o.Tile) (FP c o.At o.Tile):=by
 obtain⟨rfl,⟨n,z⟩,O,hb,h5,h1,hT,Q⟩:=h;obtain⟨Z,f2⟩:=MS z hb G;obtain⟨z1,z2,z3,z4,z5,z6⟩:=GN G;exact⟨rfl,⟨_,z.put f2 Z⟩,jJ O z3,QN Q hb G,by rw[NV];omega,h1,hT,Q⟩
def FI(l:List Int):Nat->Cj->Ak->List Ap->Cj×Ak×List Ap×Bool
 |0,c,b,d=>(c,b,d,true)
 |n+1,c,b,d=>match GK c.Sys l b d.length with
  |none=>(c,b,d,true)
  |some o=>if 500<=b.Tiles.length then (c,b,[],false) else FI l n (FP c o.At o.Tile) (BU b o.At o.Tile) (d++[o])
def LY{s:Ax}{l:List Int}: ∀(n:Nat) (c:Cj) (b:Ak) (d:List Ap),HQ s b c->((FI l n c b d).2.2.2=true/\Gz s l n b d=((FI l n c b d).2.2.1,(FI l n c b d).2.1,0)/\HQ s (FI l n c b d).2.1 (FI l n c b d).1)\/((FI l n c b d).2.2.2=false/\(FI l n c b d).2.2.1=[]/\Gz s l n b d=([],⟨[]⟩,4))
 |0,c,b,d,h=> .inl ⟨rfl,rfl,h⟩
 |n+1,c,b,d,h=>by
  have G:c.Sys=s:=h.1;rw[FI,Gz,G];cases ho:GK s l b d.length with
  |none=>exact .inl ⟨rfl,rfl,h⟩
  |some o=>
   simp only;by_cases z:500<=b.Tiles.length
   .rw[An z,An z];exact .inr ⟨rfl,rfl,rfl⟩
   .rw[Af z,Af z];exact LY n _ _ _ (h.put (QJ h.2.2.2.1 ho) (by omega))
def Mb(s:Ax)(l:List Int): ∀(n:Nat) (b:Ak) (d:List Ap),b.Tiles.length<=500->(Gz s l n b d).1.length<=d.length+n/\(Gz s l n b d).2.1.Tiles.length<=500
 |0,b,d,h=>by simp[Gz,h]
 |n+1,b,d,h=>by
  rw[Gz];split
  .exact⟨by simp only;omega,h⟩
  .split
   .simp
   .have:=Mb s l n (BU b ‹Ap›.At ‹Ap›.Tile) (d++[‹Ap›]) (by rw[NV];omega)
    simp only[Dq,Zdz] at this;exact⟨by omega,this.2⟩
def FM(l:List Int)(c:Cj)(b:Ak)(k:Nat):Cj:=
 match GK c.Sys l b k with
 |none=>c
 |some o=>if 500<=b.Tiles.length then c else FP c o.At o.Tile
def G2(l:List Int)(c:Cj)(b:Ak)(k:Nat):D:=
 match GK c.Sys l b k with
 |none=> .tup [.agg [.int .i64 0,.int .i64 0,.int .i64 0],.tok 0]
 |some o=>if 500<=b.Tiles.length then .tup [.agg [.int .i64 0,.int .i64 0,.int .i64 0],.tok 1] else .tup [.agg (Ap.c o),.nili]
def nxtC.ca(a:Cj×Ak×List Int×Nat):List AV:=[.ptr 0 0,.im (.fn 154 [] [.ref [.sl false 1 (a.2.2.1.map Aj)]]),.im (.int .i64 a.2.2.2)]
def nxtC.H1(a:Cj×Ak×List Int×Nat):Av:=[(1,(true,.map ⟨true,[.int .i64,.int .i64]⟩ ((FM a.2.2.1 a.1 a.2.1 a.2.2.2).Tl.map DM))),(2,(true,.map ⟨true,[.int .i64,.int .i64]⟩ ((FM a.2.2.1 a.1 a.2.1 a.2.2.2).Op.map CN)))]
def nxtC.r0(a:Cj×Ak×List Int×Nat):AV:= .im (G2 a.2.2.1 a.1 a.2.1 a.2.2.2)
def nxtC.row:AA:=AE nxtC.ca (λa=>B5 a.1) 3 (λa=>HQ a.1.Sys a.2.1 a.1/\DY a.2.2.1=true/\a.2.2.2<=1000) Dx nxtC.r0 nxtC.H1 0
def nxtC.ok:AB Tryz.prog 109 nxtC.row:=by
 refine ow (tC lisC.ok (tC sel1_.ok (tC putC.ok tN))) Tryz.func109 rfl (by kernel_rfl) (exB:=λ_=>false) (R:=λa r=>r=nxtC.r0 a) (λ_=>rfl)
  (λa=>by simp[nxtC.ca,B5,BV,Aq,AV.bel,Ac,A8,BO,Ad.nms,AH,AV.nms,Ao,hget]) (λa p hp=> ?_) (λa r h=>by subst h;exact CF.refl _) ?_
 rotate_left
 intro a Q;simp only[Tryz.f109,nxtC.ca,B5,BV,nxtC.H1];simp(disch:=omega)only[ZA,simprocAttr];obtain⟨c,b,l,k⟩:=a;obtain⟨hg,hl,hk⟩:=Q;simp only at hg hl hk⊢;obtain⟨_,⟨n,G⟩,ac,hb,h5,h1,hT,h2⟩:=hg;have z:=ac;rw[G.at] at z;obtain⟨l1,l2,l3⟩:=TJ hT h5 h2 z;refine AE.os c [0,1,2] l2 (λj=>Gd _ j) rfl rfl ?_ ?_
 .simp(disch:=omega)only[ZA,simprocAttr,D6,B5,BV,asmC.ca,B5,BV,De,EE]
 simp(disch:=omega)only[ZZ,simprocAttr,sel1_.q,sel1_.fv,Dx,lisC.r0,l1];intro _;have ad:=G.size;rw[l1] at l3;split
 .rename_i c1;have aa:=(WG (s:=c.Sys) (l:=l) (b:=b) (k:=k)).2 (Qo.1 (by omega));simp only[nxtC.r0,G2,FM,aa];trivial
 rename_i c1;obtain⟨o,ho⟩: ∃o,GK c.Sys l b k=some o:=by
  cases hq:GK c.Sys l b k with
  |none=>exact absurd (by rw[WG.1 hq];rfl) c1
  |some o=>exact⟨o,rfl⟩
 split
 .rename_i c2;simp only[nxtC.r0,G2,FM,ho];rw[An (by omega),An (by omega)];exact⟨rfl,rfl,rfl⟩
 rename_i c2;intro _;refine⟨⟨by omega,by omega,by omega,hl⟩,MW (by omega),λx hx=> ?_⟩;obtain rfl:o=x:=AD (ho.symm.trans hx);have cS:=QJ hb ho;obtain⟨z1,z2,z3,z4,z5,z6⟩:=GN cS;have O:SM c.Sys.Set (Cs c.Tl):=by rw[G.at];exact λp hp=>JW hb p hp
 have Z:FM l c b k=FP c o.At o.Tile:=by simp only[FM,ho];rw[Af (by omega)]
 have ab:G2 l c b k= .tup [.agg (Ap.c o),.nili]:=by simp only[G2,ho];rw[Af (by omega)]
 refine AE.os (c,o.At,o.Tile) [0,1,2] ⟨⟨h1,O,by simp only;omega⟩,z2,z5⟩ (λj=>Gd _ j) rfl rfl ?_ ?_
 .simp(disch:=omega)only[ZA,simprocAttr,D6,B5,BV,putC.ca,B5,BV,De,EE]
 simp(disch:=omega)only[ZA,simprocAttr,D6,Dx,putC.H1,Dx,De,EE,Z,nxtC.r0,ab];simp[nxtC.H1] at hp;rcases hp with rfl|rfl
 .exact .inl ⟨by omega,rfl,rfl⟩
 .exact .inl ⟨by omega,rfl,rfl⟩
def growI.ca(a:Cj×Ak×List Int×Nat):List AV:=[.ptr 0 0,.im (.sl false 1 (a.2.2.1.map Aj)),.im (.int .i64 a.2.2.2)]
def growI.H1(a:Cj×Ak×List Int×Nat):Av:=[(1,(true,.map ⟨true,[.int .i64,.int .i64]⟩ ((FI a.2.2.1 a.2.2.2 a.1 a.2.1 []).1.Tl.map DM))),(2,(true,.map ⟨true,[.int .i64,.int .i64]⟩ ((FI a.2.2.1 a.2.2.2 a.1 a.2.1 []).1.Op.map CN))),(3,(true,.arr 108 3 ((FI a.2.2.1 a.2.2.2 a.1 a.2.1 []).2.2.1.map Ap.c)))]
def growI.r0(a:Cj×Ak×List Int×Nat):AV:= .tup [.own 3,.im (.bool (FI a.2.2.1 a.2.2.2 a.1 a.2.1 []).2.2.2)]
def growI.row:AA:=AE growI.ca (λa=>B5 a.1) 3 (λa=>HQ a.1.Sys a.2.1 a.1/\DY a.2.2.1=true/\a.2.2.2<=501) Dx growI.r0 growI.H1 20
def growI.ok:AB Tryz.prog 55 growI.row:=by
 refine M8 (tC sel_.ok (tC nxtC.ok (tC errIs.ok tN))) Tryz.func55 rfl (by kernel_rfl) (exB:=λj=>j==3) (R:=λa r=>r=growI.r0 a) (λ_=>rfl)
  (λa=>by simp[growI.ca,B5,BV,Aq,AV.bel,Ac,A8,BO,Ad.nms,AH,AV.nms,Ao,hget]) (λa p hp=> ?_) (λa r h=>by subst h;exact CF.refl _) ?_
 rotate_left
 intro a aa;simp only[Tryz.f55,growI.ca,B5,BV,growI.H1];simp(disch:=omega)only[ZZ,simprocAttr,sel_.q,sel_.fv];obtain⟨c,b,l,n⟩:=a;obtain⟨hg,hl,hn⟩:=aa;simp only at hg hl hn⊢;refine AP.ren ⟨{q:Cj×Ak×List Ap//q.2.2.length<=n/\HQ c.Sys q.2.1 q.1/\FI l (n - q.2.2.length) q.1 q.2.1 q.2.2=FI l n c b []},λq=>⟨[(9,.own 5),(8,.im (.fn 154 [] [.ref [.sl false 1 (l.map Aj)]])),(7,.im (.bool false)),(6,.own 3),(0,.ptr 0 0),(2,.im (.int .i64 n))],[(5,(true,.arr 108 3 (q.1.2.2.map Ap.c))),(3,(true,.arr 108 3 [])),(0,(true,.cells 155 [.im (.sl false 2 (c.Sys.Set.Glues.map Ar.c)),.im (.sl false 2 (c.Sys.Set.Tiles.map Tile.c)),.im (.sl false 3 (c.Sys.Seed.Tiles.map Al.c)),.im (.int .i64 c.Sys.Temperature),.mp 1,.mp 2])),(1,(true,.map ⟨true,[.int .i64,.int .i64]⟩ (q.1.1.Tl.map DM))),(2,(true,.map ⟨true,[.int .i64,.int .i64]⟩ (q.1.1.Op.map CN)))],6⟩,λq=>n - q.1.2.2.length,λq=>⟨by simp[Ai.good,Am,Ac,A8,AV.bel,Aq],by simp⟩,⟨⟨(c,b,[]),by simp only;exact⟨Cz _,hg,by rw[Hf,aJ]⟩⟩,[(5,some 4)],?_⟩,λq=> ?_⟩
 .simp only[Ay];simp(disch:=omega)only[ZA,simprocAttr,Bp]
  try simp
 obtain⟨⟨c1,b1,d⟩,e1,e2,e3⟩:=q;simp only at e1 e2 e3;simp(disch:=omega)only[ZA,simprocAttr,Fe,AO];have hS:c1.Sys=c.Sys:=e2.1;have z: ∀k,GK c1.Sys l b1 k=GK c.Sys l b1 k:=λk=>by rw[hS]
 refine λ_=>⟨λh1 _=> ?_,λh1=> ?_⟩
 .refine AE.os (c1,b1,l,d.length) [0,1,2] ⟨by rw[hS];exact e2,hl,by simp only;omega⟩ (λj=>Gd _ j) rfl rfl ?_ ?_
  .simp(disch:=omega)only[ZA,simprocAttr,D6,B5,BV,nxtC.ca,B5,BV,De,EE,hS]
  obtain⟨m,hm⟩: ∃m,n - d.length=m+1:=⟨n - d.length - 1,by omega⟩;cases ho:GK c.Sys l b1 d.length with
  |none=>
   have O:G2 l c1 b1 d.length= .tup [.agg [.int .i64 0,.int .i64 0,.int .i64 0],.tok 0]:=by simp only[G2,z,ho]
   have G:FM l c1 b1 d.length=c1:=by simp only[FM,z,ho]
   have Q:FI l n c b []=(c1,b1,d,true):=by rw[<-e3,hm,FI,z,ho]
   simp(disch:=omega)only[ZA,simprocAttr,Fe,D6,Dx,nxtC.H1,Dx,De,EE,nxtC.r0,O,G,errIs.q,NU,Mg];refine⟨[],[(3,some 5)],⟨[(6,.own 3),(7,.im (.bool true))],[(3,(true,.arr 108 3 (d.map Ap.c))),(0,(true,.cells 155 [.im (.sl false 2 (c.Sys.Set.Glues.map Ar.c)),.im (.sl false 2 (c.Sys.Set.Tiles.map Tile.c)),.im (.sl false 3 (c.Sys.Seed.Tiles.map Al.c)),.im (.int .i64 c.Sys.Temperature),.mp 1,.mp 2])),(1,(true,.map ⟨true,[.int .i64,.int .i64]⟩ (c1.Tl.map DM))),(2,(true,.map ⟨true,[.int .i64,.int .i64]⟩ (c1.Op.map CN)))],4⟩,?_,by simp[Ai.good,Am,Ac,A8,AV.bel,Aq],by simp,?_⟩
   .simp only[Ay];simp(disch:=omega)only[ZA,simprocAttr,Bp]
    try simp
   .simp(disch:=omega)only[ZA,simprocAttr,Dx,growI.r0,Q]
  |some o=>
   by_cases Z:500<=b1.Tiles.length
   .have O:G2 l c1 b1 d.length= .tup [.agg [.int .i64 0,.int .i64 0,.int .i64 0],.tok 1]:=by simp only[G2,z,ho];rw[An Z]
    have G:FM l c1 b1 d.length=c1:=by simp only[FM,z,ho];rw[An Z]
    have Q:FI l n c b []=(c1,b1,[],false):=by rw[<-e3,hm,FI,z,ho];simp only;rw[An Z]
    simp(disch:=omega)only[ZA,simprocAttr,Fe,D6,Dx,nxtC.H1,Dx,De,EE,nxtC.r0,O,G,errIs.q,NU,Mg];refine⟨[],[(3,some 7)],⟨[(6,.own 3),(7,.im (.bool false))],[(3,(true,.arr 108 3 (([]:List Ap).map Ap.c))),(0,(true,.cells 155 [.im (.sl false 2 (c.Sys.Set.Glues.map Ar.c)),.im (.sl false 2 (c.Sys.Set.Tiles.map Tile.c)),.im (.sl false 3 (c.Sys.Seed.Tiles.map Al.c)),.im (.int .i64 c.Sys.Temperature),.mp 1,.mp 2])),(1,(true,.map ⟨true,[.int .i64,.int .i64]⟩ (c1.Tl.map DM))),(2,(true,.map ⟨true,[.int .i64,.int .i64]⟩ (c1.Op.map CN)))],4⟩,?_,by simp[Ai.good,Am,Ac,A8,AV.bel,Aq],by simp,?_⟩
    .simp only[Ay];simp(disch:=omega)only[ZA,simprocAttr,Bp]
     try simp
    .simp(disch:=omega)only[ZA,simprocAttr,Dx,growI.r0,Q]
   .have O:G2 l c1 b1 d.length= .tup [.agg (Ap.c o),.nili]:=by simp only[G2,z,ho];rw[Af Z]
    have G:FM l c1 b1 d.length=FP c1 o.At o.Tile:=by simp only[FM,z,ho];rw[Af Z]
    have Q:FI l n c b []=FI l m (FP c1 o.At o.Tile) (BU b1 o.At o.Tile) (d++[o]):=by rw[<-e3,hm,FI,z,ho];simp only;rw[Af Z]
    have ab:=e2.put (QJ e2.2.2.2.1 ho) (by omega);simp(disch:=omega)only[ZA,simprocAttr,D6,Dx,nxtC.H1,Dx,De,EE,nxtC.r0,O,G,errIs.q,NU,Mg];refine⟨by omega,⟨(FP c1 o.At o.Tile,BU b1 o.At o.Tile,d++[o]),by simp only;exact⟨by simp;omega,ab,by rw[Q,show n - (d++[o]).length=m by simp;omega]⟩⟩,[(5,some 8)],by simp;omega,?_⟩;simp only[Ay];simp(disch:=omega)only[ZA,simprocAttr,Bp];simp[Ap.c]
 .have Q:FI l n c b []=(c1,b1,d,true):=by rw[<-e3,show n - d.length=0 by omega,FI]
  refine⟨[],[(3,some 5)],⟨[(6,.own 3),(7,.im (.bool true))],[(3,(true,.arr 108 3 (d.map Ap.c))),(0,(true,.cells 155 [.im (.sl false 2 (c.Sys.Set.Glues.map Ar.c)),.im (.sl false 2 (c.Sys.Set.Tiles.map Tile.c)),.im (.sl false 3 (c.Sys.Seed.Tiles.map Al.c)),.im (.int .i64 c.Sys.Temperature),.mp 1,.mp 2])),(1,(true,.map ⟨true,[.int .i64,.int .i64]⟩ (c1.Tl.map DM))),(2,(true,.map ⟨true,[.int .i64,.int .i64]⟩ (c1.Op.map CN)))],4⟩,?_,by simp[Ai.good,Am,Ac,A8,AV.bel,Aq],by simp,?_⟩
  .simp only[Ay];simp(disch:=omega)only[ZA,simprocAttr,Bp]
   try simp
  .simp(disch:=omega)only[ZA,simprocAttr,Dx,growI.r0,Q]
 simp[growI.H1] at hp;rcases hp with rfl|rfl|rfl
 .exact .inl ⟨by omega,rfl,rfl⟩
 .exact .inl ⟨by omega,rfl,rfl⟩
 .exact .inr ⟨by omega,by omega,rfl,rfl⟩
def X5{s:Ax}{a:Ak}(c1:F3 s=true)(O:Kb s.Set a=true):newC.pre (s,a)/\HQ s a (Kk s a):=by
 obtain⟨⟨q1,q2,q3,_⟩,q5,_⟩:=H5 c1;obtain⟨z,h4⟩:=Z3 O;have G:=uA (s:=s.Set) (a:=a) (by rw[q5,O];rfl);have Q:1<=s.Temperature:=by
  simp only[F3,Bj,AS,BL] at c1;exact c1.2.2.2.1.1
 exact⟨⟨q1,by simp only;omega,λy Z=>⟨z.2 y Z,G.1.2.2.2 y Z⟩⟩,rfl,⟨_,RM.of z.1 λx hx=>(z.2 x hx).1⟩,TL Q,z,h4,q1,Q,q3⟩
def GI(w:List Ap×Ak×Int):Av:=[(0,(true,.arr 108 3 (w.1.map Ap.c))),(1,(true,.arr 137 3 (w.2.1.Tiles.map Al.c)))]
def OJ(w:List Ap×Ak×Int):AV:= .tup [.own 0,.agg [.own 1],.im (.int .i64 w.2.2)]
def K7(a:Ax×List Int×Nat):List Ap×Ak×Int:=Gz a.1 a.2.1 a.2.2 a.1.Seed []
def grnI.ca(a:Ax×List Int×Nat):List AV:=[.im (.agg (Ax.c a.1)),.im (.sl false 1 (a.2.1.map Aj)),.im (.int .i64 a.2.2)]
def grnI.H1(a:Ax×List Int×Nat):Av:=GI (K7 a)
def LX(j:Nat):Bool:=j==0||j==1
def grnI.row:AA:=AE grnI.ca (λ_=>[]) 0 (λa=>F3 a.1=true/\DY a.2.1=true/\a.2.2<=501) (λ_=>false) (λa=>OJ (K7 a)) grnI.H1 20
def grnI.ok:AB Tryz.prog 124 grnI.row:=by
 refine M8 (tC newC.ok (tC growI.ok (tC asmCX.ok tN))) Tryz.func124 rfl (by kernel_rfl) (exB:=LX) (R:=λa r=>r=OJ (K7 a)) (λ_=>rfl)
  (λa=>by simp[grnI.ca,Ax.c,Aq,AV.bel,Ac,A8,BO]) (λa p hp=> ?_) (λa r h=>by subst h;exact CF.refl _) ?_
 rotate_left
 intro a O;simp only[Tryz.f124,grnI.ca,Ax.c];simp(disch:=omega)only[ZA,simprocAttr];obtain⟨s,l,n⟩:=a;obtain⟨c1,hl,hn⟩:=O;simp only at c1 hl hn⊢;have c2:=(H5 c1).2.2;obtain⟨aa,G⟩:=X5 c1 c2;refine AE.os (s,s.Seed) [] aa (λj=>by simp[Ao,hget]) rfl rfl ?_ ?_
 .simp(disch:=omega)only[ZA,simprocAttr,Ax.c,newC.ca,CO,Ax.c,Ak.c]
 simp(disch:=omega)only[ZA,simprocAttr,newC.H1];obtain⟨w,hw⟩: ∃w,w=FI l n (Kk s s.Seed) s.Seed []:=⟨_,rfl⟩;have z:=LY (l:=l) n (Kk s s.Seed) s.Seed [] G;rw[<-hw] at z;refine AE.os (Kk s s.Seed,s.Seed,l,n) [7,5,6] ⟨G,hl,hn⟩ (λj=>Gd _ j) rfl rfl ?_ ?_
 .simp(disch:=omega)only[ZA,simprocAttr,D6,growI.ca,B5,BV,De,EE];exact⟨rfl,rfl,rfl,rfl⟩
 have hS:(Kk s s.Seed).Sys=s:=rfl;rcases z with ⟨g1,g2,Z⟩|⟨g1,g2,Z⟩
 .have hF:K7 (s,l,n)=(w.2.2.1,w.2.1,0):=g2;obtain⟨e1,⟨kk,Q⟩,_,e4,e5,_⟩:=Z;simp(disch:=omega)only[ZA,simprocAttr,D6,growI.H1,Dx,De,EE,growI.r0,<-hw,g1];refine AE.os w.1 [7,5,6] ⟨Q.nd,by have:=Q.size;omega⟩ (λj=>Gd _ j) rfl rfl ?_ ?_
  .simp(disch:=omega)only[ZA,simprocAttr,D6,asmC.ca,B5,BV,De,EE,e1]
   try exact⟨rfl,rfl,rfl⟩
  simp(disch:=omega)only[ZA,simprocAttr,Fe,D6,asmCX.H1,nC,De,EE];have eT:(IJ w.1.Tl).Tiles=w.2.1.Tiles:=(CU Ak.Tiles Q.eq).symm;simp only[eT];refine⟨[],[(0,some 8),(1,some 28),(2,some 2)],⟨[(6,.own 0),(7,.ptr 2 0),(8,.im (.int .i64 0))],[(2,(true,.cells 39 [.own 1])),(0,(true,.arr 108 3 (w.2.2.1.map Ap.c))),(1,(true,.arr 137 3 (w.2.1.Tiles.map Al.c)))],3⟩,?_,by simp[Ai.good,Am,Ac,A8,AV.bel,Aq],by simp,?_⟩
  .simp only[Ay];simp(disch:=omega)only[ZA,simprocAttr,Bp]
   try simp
  .simp(disch:=omega)only[ZA,simprocAttr,LX,OJ,grnI.H1,GI,hF]
   try simp
 .have hF:K7 (s,l,n)=([],⟨[]⟩,4):=Z;simp(disch:=omega)only[ZA,simprocAttr,Fe,D6,growI.H1,Dx,De,EE,growI.r0,<-hw,g1,g2];refine⟨[],[(0,some 28),(1,none),(2,some 2)],⟨[(6,.own 0),(7,.ptr 2 0),(8,.im (.int .i64 4))],[(2,(true,.cells 39 [.own 1])),(0,(true,.arr 108 3 ([]))),(1,(true,.arr 137 3 ([])))],3⟩,?_,by simp[Ai.good,Am,Ac,A8,AV.bel,Aq],by simp,?_⟩
  .simp only[Ay];simp(disch:=omega)only[ZA,simprocAttr,Bp,VL]
   try simp
  .simp(disch:=omega)only[ZA,simprocAttr,LX,OJ,grnI.H1,GI,hF]
   try simp
 simp[grnI.H1,GI] at hp;rcases hp with rfl|rfl
 .exact .inr ⟨by omega,by omega,rfl,rfl⟩
 .exact .inr ⟨by omega,by omega,rfl,rfl⟩
def UI{s:Ax}(c1:F3 s=true):s.Seed.Tiles.length<=500:=(Z3 (H5 c1).2.2).2
def YR{s:Ax}(c1:F3 s=true):1<=s.Seed.Tiles.length:=by
 simp only[F3,AS,Kq,ZdK] at c1;exact fV.2 c1.2.2.1
def grI.ca(a:Ax×List Int):List AV:=[.im (.agg (Ax.c a.1)),.im (.sl false 1 (a.2.map Aj))]
def grI.H1(a:Ax×List Int):Av:=GI (Fo a.1 a.2)
def grI.row:AA:=AE grI.ca (λ_=>[]) 0 (λa=>Qf a.1.Set) (λ_=>false) (λa=>OJ (Fo a.1 a.2)) grI.H1 20
def grI.ok:AB Tryz.prog 66 grI.row:=by
 refine M8 (tC validI_.ok (tC vSch_.ok (tC grnI.ok tN))) Tryz.func66 rfl (by kernel_rfl) (exB:=LX) (R:=λa r=>r=OJ (Fo a.1 a.2)) (λ_=>rfl)
  (λa=>by simp[grI.ca,Ax.c,Aq,AV.bel,Ac,A8,BO]) (λa p hp=> ?_) (λa r h=>by subst h;exact CF.refl _) ?_
 rotate_left
 intro a z;simp only[Tryz.f66,grI.ca,Ax.c];simp(disch:=omega)only[ZA,simprocAttr,Cl,validI_.q,validI_.fv,vSch_.q,vSch_.fv,Fe,Ax.c];obtain⟨s,l⟩:=a;simp only at z⊢;refine⟨z,?_⟩;simp only[bX];by_cases c1:F3 s=true
 case neg=>
  rw[An (by simpa using c1)];have O:Fo s l=([],⟨[]⟩,1):=by simp only[Fo];rw[An (by simpa using c1)]
  refine⟨[],[(0,some 3),(1,none),(2,some 2)],⟨[(4,.own 0),(5,.ptr 2 0),(6,.im (.int .i64 1))],[(2,(true,.cells 39 [.own 1])),(0,(true,.arr 108 3 ([]))),(1,(true,.arr 137 3 ([])))],3⟩,?_,by simp[Ai.good,Am,Ac,A8,AV.bel,Aq],by simp,?_⟩
  .simp only[Ay];simp(disch:=omega)only[ZA,simprocAttr,Bp,VL]
   try simp
  .simp(disch:=omega)only[ZA,simprocAttr,LX,OJ,grI.H1,O,GI]
   try simp
 rw[Af (by simpa using c1)];by_cases G:DY l=true
 case neg=>
  rw[An (by simpa using G)];have O:Fo s l=([],⟨[]⟩,2):=by simp only[Fo];rw[Af (by simp[c1]),An (by simpa using G)]
  refine⟨[],[(0,some 3),(1,none),(2,some 2)],⟨[(4,.own 0),(5,.ptr 2 0),(6,.im (.int .i64 2))],[(2,(true,.cells 39 [.own 1])),(0,(true,.arr 108 3 ([]))),(1,(true,.arr 137 3 ([])))],3⟩,?_,by simp[Ai.good,Am,Ac,A8,AV.bel,Aq],by simp,?_⟩
  .simp only[Ay];simp(disch:=omega)only[ZA,simprocAttr,Bp,VL]
   try simp
  .simp(disch:=omega)only[ZA,simprocAttr,LX,OJ,grI.H1,O,GI]
   try simp
 rw[Af (by simpa using G)];obtain⟨w,hw⟩: ∃w,w=Fo s l:=⟨_,rfl⟩;have O:K7 (s,l,501)=w:=by
  rw[hw];simp only[K7,Fo];rw[Af (by simp[c1]),Af (by simp[G])];exact rQ 500 _ _ (UI c1) (by have:=YR c1;omega)
 refine AE.os (s,l,501) [] ⟨c1,G,AQ _⟩ (λj=>by simp[Ao,hget]) rfl rfl ?_ ?_
 .simp(disch:=omega)only[ZA,simprocAttr,Ax.c,grnI.ca,CO,Ax.c]
  try exact⟨rfl,rfl,rfl⟩
 simp(disch:=omega)only[ZA,simprocAttr,Fe,grnI.H1,GI,OJ,O,<-hw];refine⟨[],[(0,some 3),(1,some 4),(2,some 2)],⟨[(4,.own 0),(5,.ptr 2 0),(6,.im (.int .i64 w.2.2))],[(2,(true,.cells 39 [.own 1])),(0,(true,.arr 108 3 (w.1.map Ap.c))),(1,(true,.arr 137 3 (w.2.1.Tiles.map Al.c)))],3⟩,?_,by simp[Ai.good,Am,Ac,A8,AV.bel,Aq],by simp,?_⟩
 .simp only[Ay];simp(disch:=omega)only[ZA,simprocAttr,Bp]
  try simp
 .simp(disch:=omega)only[ZA,simprocAttr,LX,grI.H1,<-hw,GI]
  try simp
 simp[grI.H1,GI] at hp;rcases hp with rfl|rfl
 .exact .inr ⟨by omega,by omega,rfl,rfl⟩
 .exact .inr ⟨by omega,by omega,rfl,rfl⟩
def SF(s:Ax)(l:List Int):(Fo s l).1.length<=500/\(Fo s l).2.1.Tiles.length<=500:=by
 simp only[Fo];split
 .simp
 rename_i c1;split
 .simp
 have:=Mb s l 500 s.Seed [] (UI (by simpa using c1))
 simpa using this
def schS_.fv(a:(List Int)):Bool:=(DY) a
def schS_.row:AA:=vK (b1 (qS Da Cp)) rB (λa=>True) schS_.fv
def schS_.q:=AT (R:=schS_.row) rfl
def schS_.ok:AB Tryz.prog 45 schS_.row:=by
 refine vw (tC l00In.ok tN) Tryz.func45 rfl (by kernel_rfl) ?_;intro a O;simp only[Tryz.f45];simp(disch:=omega)only[ZA,simprocAttr,schS_.fv];intro _;by_cases c:a.length<=200
 case neg=>
  rw[An (by omega)];simp only[DY,aK c,F6]
 rw[Af (by omega)];have Z:DY a= !a.any El:=by simp only[DY,vQ c,Eb]
 rw[Z];refine AP.old ⟨{k:Nat//k<=a.length/\(a.drop k).any El=a.any El},λk=>⟨[(3,.im (.int .i64 k.1)),(2,.im (.bool false)),(0,.im (.sl false 1 (a.map Aj)))],[],0⟩,λk=>a.length - k.1,λk=>⟨by simp[Ai.good,Am,Ac,A8,AV.bel],by simp⟩,⟨⟨0,by simp⟩,by simp(disch:=omega)only[ZA,simprocAttr,sub]⟩,λk=> ?_⟩;obtain⟨k,Q,z⟩:=k;simp(disch:=omega)only[ZA,simprocAttr,l00In.q,l00In.fv,sub,AO];intro _;refine⟨λG=>⟨G,λx hx=> ?_⟩,λG=> ?_⟩
 .rw[EW hx,List.any_cons] at z;refine⟨λh=> ?_,λh=>⟨⟨k+1,by omega,?_⟩,by simp only;omega,by rw[AG (by omega) (by omega)];simp only;omega⟩⟩
  .have:El x=true:=by simp only[El,h];rfl
   rw[this,gD] at z;rw[<-z];rfl
  .have:El x=false:=by simp only[El];simpa using h
   rw[this,aL] at z;exact z
 .rw[Dr (by omega)] at z;rw[<-z];rfl
def grwS_.fv(a:Ax×Ak×(List Int)×Int):(List Ap)×Ak×Bool×Int:=(λs b l n=>Ec s l n.toNat b []) (a.1) (a.2.1) (a.2.2.1) (a.2.2.2)
def grwS_.row:AA:=vK (b4 (qP 4 Ax.d_le) (qP 1 Ak.d_le) (qS Da Cp) qI) (r4 (rS Ap.d_le Ap.c_n) (rA Ak.d_le) rB rI) (λa=>BF a.1.Set/\DP a.1.Set a.2.1/\a.2.1.Tiles.length<=500/\a.1.Set.Tiles.length<=160/\DY a.2.2.1=true/\0<=a.2.2.2/\a.2.2.2<=500) grwS_.fv
def grwS_.q:=AT (R:=grwS_.row) rfl
def grwS_.ok:AB Tryz.prog 47 grwS_.row:=by
 refine vw (tC l03Own.ok (tC opsS_.ok (tC l08Attach.ok tN))) Tryz.func47 rfl (by kernel_rfl) ?_;intro a ac;simp only[Tryz.f47];simp(disch:=omega)only[ZA,simprocAttr,Ak.d,grwS_.fv,l03Own.q,l03Own.fv];obtain⟨s,b,l,n⟩:=a;obtain⟨h1,h2,h3,h4,h5,h6,h7⟩:=ac;simp only at h1 h2 h3 h4 h5 h6 h7⊢;refine⟨by omega,?_⟩;refine AP.ren ⟨{q:Ak×List Ap//q.2.length<=n.toNat/\DP s.Set q.1/\q.1.Tiles.length<=500/\Ec s l (n.toNat - q.2.length) q.1 q.2=Ec s l n.toNat b []},λq=>⟨[(13,.own 6),(12,.ptr 4 0),(11,.im (.int .i64 0)),(10,.im (.bool false)),(9,.ptr 3 0),(8,.own 2),(0,.ptr 0 0),(2,.im (.sl false 1 (l.map Aj))),(3,.im (.int .i64 n))],[(6,(true,.arr 108 3 (q.1.2.map Ap.c))),(4,(true,.cells 39 [.im (.sl false 3 (q.1.1.Tiles.map Al.c))])),(3,(true,.cells 39 [.im (.sl true 0 [])])),(2,(true,.arr 108 3 [])),(0,(false,.view (Ax.c s))),(1,(false,.view (Ak.c b)))],7⟩,λq=>n.toNat - q.1.2.length,λq=>⟨by simp[Ai.good,Am,Ac,A8,AV.bel,Aq],by simp⟩,⟨⟨(b,[]),by simp only;exact⟨Cz _,h2,h3,by rw[Hf,aJ]⟩⟩,[(6,some 5)],?_⟩,λq=> ?_⟩
 .simp only[Ay];simp(disch:=omega)only[ZA,simprocAttr,Bp]
  try simp
 obtain⟨⟨b1,d⟩,e1,e2,e3,e4⟩:=q;simp only at e1 e2 e3 e4;simp(disch:=omega)only[ZA,simprocAttr,Ak.d,opsS_.q,opsS_.fv,l08Attach.q,l08Attach.fv,AO];have ag:=qD s e3 h4;have hX: ∀m,n.toNat - d.length=m+1-> ∀o,GK s l b1 d.length=some o->Ec s l n.toNat b []=if 500<=b1.Tiles.length then ([],⟨[]⟩,false,4) else Ec s l m (BU b1 o.At o.Tile) (d++[o]):=by
  intro m hm o z;rw[<-e4,hm,Ec,z]
 refine⟨⟨h1,e2,e3,by omega⟩,λ_=>⟨λc1=> ?_,λc1 _=>⟨λc2=> ?_,λc2 _=> ?_⟩⟩⟩
 .have ab:=WG (s:=s) (l:=l) (b:=b1) (k:=d.length)|>.2 (Qo.1 (by omega))
  rw[<-e4];cases hm:n.toNat - d.length with
  |zero=>rw[Ec,ab];rfl
  |succ m=>rw[Ec,ab]
 .have af:(GK s l b1 d.length).isNone=false:=by
   cases hq:GK s l b1 d.length with
   |none=>exact absurd (by rw[WG.1 hq];rfl) c1
   |some o=>rfl
  rw[<-e4,show n.toNat - d.length=0 by omega,Ec,af]
 have hn:(0:Int)<(Co s b1).length:=by omega
 obtain⟨m,hm⟩: ∃m,n.toNat - d.length=m+1:=⟨n.toNat - d.length - 1,by omega⟩;have O: ∀o,GK s l b1 d.length=some o-> ¬(Gv b1 o).2=0->([],(⟨[]⟩:Ak),false,(Gv b1 o).2)=Ec s l n.toNat b []:=λo z h=>by
  rw[hX m hm o z];simp only[Gv] at h⊢;split at h
  .rename_i c;rw[An c,An c]
  .simp at h
 have Q: ∀o,GK s l b1 d.length=some o->(Gv b1 o).2=0->b1.Tiles.length<500/\(Gv b1 o).1=BU b1 o.At o.Tile/\DP s.Set (BU b1 o.At o.Tile)/\Ec s l (n.toNat - (d++[o]).length) (BU b1 o.At o.Tile) (d++[o])=Ec s l n.toNat b []:=λo z h=>by
  rw[hX m hm o z];simp only[Gv] at h⊢;split at h
  .simp at h
  .rename_i c;rw[Af c,Af c,show n.toNat - (d++[o]).length=m by simp;omega];exact⟨by omega,rfl,QN h4 e2 (QJ e2 z),rfl⟩
 have ad: ∀i:Nat,i=G5 l (Co s b1).length d.length->GK s l b1 d.length=(Co s b1)[i]? :=λi hi=>by rw[hi];rfl
 refine⟨λc3 _ _=>⟨by omega,Zej _ (by omega),ZdS _ (by omega),λx hx _=> ?_⟩,λc3=> ?_⟩
 .have aa:=rR h5 (AZ hx);have e5:(x.tmod (Co s b1).length).toNat=G5 l (Co s b1).length d.length:=by
   rw[fX (by omega),<-Int.natCast_emod,B0] at hx;simp only[G5];rw[Af (by omega),hx,AM,fX aa.1]
  refine⟨c1,Zej _ aa.1,ZdS _ hn,λo z=> ?_⟩;have G:=(ad _ e5).trans z;refine⟨O o G,λc4=>⟨Zej _ aa.1,ZdS _ hn,λo2 Z=> ?_⟩⟩;obtain rfl:o=o2:=AD (z.symm.trans Z);obtain⟨f1,f2,f3,f4⟩:=Q o G (ZeD.1 c4);refine⟨by simp[BE,B1,D.one],by omega,⟨(BU b1 o.At o.Tile,d++[o]),by simp only;exact⟨by simp;omega,f3,by rw[NV];omega,f4⟩⟩,[(6,some 9)],by simp;omega,?_⟩;simp only[Ay,f2];simp(disch:=omega)only[ZA,simprocAttr,Bp];simp[Ap.c]
 .have e5:0=G5 l (Co s b1).length d.length:=by
   simp only[G5];rw[An (by omega)]
  refine⟨hn,λo z=> ?_⟩;have G:=(ad _ e5).trans z;refine⟨O o G,λc4=>⟨hn,λo2 Z=> ?_⟩⟩;obtain rfl:o=o2:=AD (z.symm.trans Z);obtain⟨f1,f2,f3,f4⟩:=Q o G (ZeD.1 c4);refine⟨by simp[BE,B1,D.one],by omega,⟨(BU b1 o.At o.Tile,d++[o]),by simp only;exact⟨by simp;omega,f3,by rw[NV];omega,f4⟩⟩,[(6,some 9)],by simp;omega,?_⟩;simp only[Ay,f2];simp(disch:=omega)only[ZA,simprocAttr,Bp];simp[Ap.c]
def MX{s:Ax}(c1: ¬F3 s=false):BF s.Set/\DP s.Set s.Seed/\s.Seed.Tiles.length<=500/\s.Set.Tiles.length<=160:=by
 rw[FW] at c1;obtain⟨⟨q1,z,G,_⟩,_,O⟩:=H5 c1;exact⟨q1,z,(Z3 O).2,G⟩
def GrowS_.fv(a:Ax×(List Int)):(List Ap)×Ak×Int:=(Fo) (a.1) (a.2)
def GrowS_.row:AA:=vK (b2 (qR Ax.d_le) (qS Da Cp)) (r3 (rS Ap.d_le Ap.c_n) (rA Ak.d_le) rI) (λa=>True) GrowS_.fv
def GrowS_.q:=AT (R:=GrowS_.row) rfl
def GrowS_.ok:AB Tryz.prog 64 GrowS_.row:=by
 refine vw (tC l08Ok.ok (tC schS_.ok (tC grwS_.ok tN))) Tryz.func64 rfl (by kernel_rfl) ?_;intro a G;simp only[Tryz.f64];simp(disch:=omega)only[ZA,simprocAttr,Ak.d,GrowS_.fv,l08Ok.q,l08Ok.fv,schS_.q,schS_.fv,grwS_.q,grwS_.fv];obtain⟨s,l⟩:=a;simp only[Fo];by_cases c1:F3 s=false
 .rw[An c1,An c1]
 rw[Af c1,Af c1];by_cases z:DY l=false
 .rw[An z,An z]
 rw[Af z,Af z];rw[FW] at z;obtain⟨q1,O,Q,Z⟩:=MX c1;exact⟨⟨q1,O,Q,Z,z⟩,Ma 500 s.Seed []⟩
def Qado(l:List Int)(i:Nat)(x:Int):(l.map Aj).set i [.int .i64 x]=(l.set i x).map Aj:=by rw[Ly];rfl
def Je(k:Int)(n:Nat):List Int:=(List.range n).map λ(i:Nat)=>k+(i:Int)
def cA(k:Int)(n:Nat):(Je k n).length=n:=by simp[Je]
def pE(k:Int)(n:Nat):Je k (n+1)=Je k n++[k+(n:Int)]:=by simp[Je,mO]
def Yr{k:Int}{n i:Nat}(h:i<n):(Je k n)[i]? =some (k+(i:Int)):=by simp only[Je,D2];rw[HN h];rfl
def Hl(k:Int)(l:List Int)(i:Nat):List Int:=Je k i++l.drop i
def Tu{k:Int}{l:List Int}{i:Nat}(h:i<=l.length):(Hl k l i).length=l.length:=by simp[Hl,cA];omega
def Tv{k:Int}{l:List Int}{i:Nat}(h:i<l.length):(Hl k l i).set i (k+(i:Int))=Hl k l (i+1):=by
 have hd:l.drop i=l[i]::l.drop (i+1):=by rw[VK h]
 rw[Hl,mJ _ _ (by rw[cA];omega),cA,hd,Hi,aD,Hl,pE];simp
def Tt{k:Int}{l:List Int}{i:Nat}(h:i=l.length):Hl k l i=Je k l.length:=by
 subst h;simp[Hl]
def mkIC.ca(a:List Int×Int):List AV:=[.own 0,.im (.int .i64 a.2)]
def mkIC.H0(a:List Int×Int):Av:=[(0,(true,.arr 2 1 (a.1.map Aj)))]
def mkIC.H1(a:List Int×Int):Av:=[(0,(true,.arr 2 1 ((Je a.2 a.1.length).map Aj)))]
def mkIC.row:AA:=AE mkIC.ca mkIC.H0 1 (λa=>0<=a.2/\a.2+a.1.length<=1099511627776) (λj=>j==0) (λa=> .im (.int .i64 (a.2+a.1.length))) mkIC.H1 0
def mkIC.ok:AB Tryz.prog 24 mkIC.row:=by
 refine ow tN Tryz.func24 rfl (by kernel_rfl) (exB:=λ_=>false) (R:=λa r=>r= .im (.int .i64 (a.2+a.1.length))) (λ_=>rfl)
  (λa=>by simp[mkIC.ca,mkIC.H0,Aq,AV.bel,Ac,A8,BO,Ad.nms,Ao,hget]) (λa p hp=> ?_) (λa r h=>by subst h;exact CF.refl _) ?_
 rotate_left
 intro a z;simp only[Tryz.f24,mkIC.ca,mkIC.H0,mkIC.H1];simp(disch:=omega)only[ZA,simprocAttr];obtain⟨l,k⟩:=a;simp only at z⊢;obtain⟨Z,h2⟩:=z;refine AP.old ⟨{i:Nat//i<=l.length},λi=>⟨[(5,.im (.int .i64 i.1)),(4,.im (.int .i64 0)),(1,.im (.int .i64 (k+i.1))),(0,.own 0)],[(0,(true,.arr 2 1 ((Hl k l i.1).map Aj)))],1⟩,λi=>l.length - i.1,λi=>⟨by simp[Ai.good,Am,Ac,A8,AV.bel],by simp⟩,⟨⟨0,by simp⟩,by simp(disch:=omega)only[ZA,simprocAttr,sub];simp[Hl,Je]⟩,λi=> ?_⟩;obtain⟨i,O⟩:=i;have Q:=Tu (k:=k) O;simp(disch:=omega)only[ZA,simprocAttr,sub,AO,Q];intro _;refine⟨λG=>⟨G,G,λx _=>⟨⟨i+1,by omega⟩,by simp only;omega,⟨?_,?_⟩,?_⟩⟩,λG=>⟨by omega,by rw[Tt (by omega)]⟩⟩
 .rw[AG (by omega) (by omega)];simp only;omega
 .rw[AG (by omega) (by omega)];simp only;omega
 .rw[Qado,Tv G]
 simp[mkIC.H1] at hp;subst hp;exact .inl ⟨by omega,rfl,rfl⟩
def Gh(l:List Int)(k:Int):Int:=if l=Je k l.length then k+l.length else -1
def heldIS.fv(a:(List Int)×Int):Int:=(Gh) (a.1) (a.2)
def heldIS.row:AA:=CR (b2 (qS Da Cp) qI) rI (λa=>0<=a.2/\a.2+a.1.length<=1099511627776) heldIS.fv
def heldIS.q:=CY (R:=heldIS.row) rfl
def heldIS.ok:AB Tryz.prog 82 heldIS.row:=by
 refine Fy tN Tryz.func82 rfl (by kernel_rfl) ?_;intro a z;simp only[Tryz.f82];simp(disch:=omega)only[ZA,simprocAttr,heldIS.fv];obtain⟨l,k⟩:=a;simp only at z⊢;obtain⟨h1,h2⟩:=z;refine AP.old ⟨{i:Nat//i<=l.length/\l.take i=Je k i},λi=>⟨[(5,.im (.int .i64 i.1)),(4,.im (.int .i64 0)),(1,.im (.int .i64 (k+i.1))),(0,.im (.sl false 1 (l.map Aj)))],[],0⟩,λi=>l.length - i.1,λi=>⟨by simp[Ai.good,Am,Ac,A8,AV.bel],by simp⟩,⟨⟨0,by simp[Je]⟩,by simp(disch:=omega)only[ZA,simprocAttr,sub];simp⟩,λi=> ?_⟩;obtain⟨i,aa,G⟩:=i;simp(disch:=omega)only[ZA,simprocAttr,D.sc,D.scs,Bn,sub,AO];intro hn;refine⟨λO=>⟨O,λx Z=>⟨λc=> ?_,λc=>⟨⟨i+1,by omega,?_⟩,by simp only;omega,?_,?_⟩⟩⟩,λO=> ?_⟩
 .have: ¬l=Je k l.length:=by
   intro h;rw[h,Yr O] at Z;exact c (AD Z).symm
  simp only[Gh];rw[Af this]
 .rw[Kl Z,G,pE,FX.1 c]
 .rw[AG (by omega) (by omega)];simp only;omega
 .rw[AG (by omega) (by omega)];simp only;omega
 .have Q:i=l.length:=by omega
  subst Q;rw[Gs] at G;simp only[Gh];rw[An G]
def Kz(n:Nat):ByteArray:=if h:n=0 then ByteArray.empty else Kz (n/10)++Hp [IntKind.u8.wrap (48+((n % 10:Nat):Int))] termination_by n
def KD(k:Int):ByteArray:=if k<=0 then "m0".toUTF8 else "m".toUTF8++Kz k.toNat
def mkText.fv(a:Int):ByteArray:=(KD) a
def mkText.row:AA:=vK (b1 qI) rT (λa=>a<=1099511627776) mkText.fv
def mkText.q:=AT (R:=mkText.row) rfl
def mkText.ok:AB Tryz.prog 164 mkText.row:=by
 refine vw tN Tryz.func164 rfl (by kernel_rfl) ?_;intro a Q;simp only[Tryz.f164];simp(disch:=omega)only[ZA,simprocAttr,mkText.fv];by_cases c0:a<=0
 .rw[An c0];simp only[KD];rw[An c0];rfl
 rw[Af c0];have eR:KD a= "m".toUTF8++Kz a.toNat:=by simp only[KD];rw[Af c0]
 refine AP.old ⟨{q:Nat×ByteArray//(q.1:Int)<=a/\Kz a.toNat=Kz q.1++q.2/\q.2.size+q.1<=a.toNat},λq=>⟨[(3,.im (.str q.1.2)),(0,.im (.int .i64 q.1.1))],[],0⟩,λq=>q.1.1,λq=>⟨by simp[Ai.good,Am,Ac,A8,AV.bel],by simp⟩,⟨⟨(a.toNat,ByteArray.empty),by simp only;exact⟨by omega,by simp,by simp⟩⟩,by simp(disch:=omega)only[ZA,simprocAttr,sub];exact⟨rfl,by omega⟩⟩,λq=> ?_⟩;obtain⟨⟨q,out⟩,G,z,O⟩:=q;simp only at G z O;simp(disch:=omega)only[ZA,simprocAttr,sub,AO];refine⟨λc1=> ?_,λc1=> ?_⟩
 .have hq:q≠0:=by omega
  have Z:(q:Int).tmod 10=((q % 10:Nat):Int):=by rw[fX (by omega)];omega
  have e2:(q:Int).tdiv 10=((q/10:Nat):Int):=by rw[Zep (by omega)];omega
  have e3:IntKind.i64.wrap (48+(q:Int).tmod 10)=48+((q % 10:Nat):Int):=by rw[Z];exact AG (by omega) (by omega)
  rw[e3,e2];have hs:({data:= #[UInt8.ofNat (IntKind.u8.wrap (48+((q % 10:Nat):Int))).toNat]}:ByteArray)=Hp [IntKind.u8.wrap (48+((q % 10:Nat):Int))]:=rfl;have hz:(Hp [IntKind.u8.wrap (48+((q % 10:Nat):Int))]).size=1:=rfl;rw[hs];refine⟨by omega,⟨(q/10,Hp [IntKind.u8.wrap (48+((q % 10:Nat):Int))]++out),by simp only;omega,?_,?_⟩,by simp only;omega,rfl,by exact AG (by omega) (by omega)⟩
  .simp only;rw[z,Kz,dif_neg hq,ByteArray.append_assoc]
  .simp only[ByteArray.size_append,hz];omega
 .have hq:q=0:=by omega
  subst hq;refine⟨by show 1+out.size<=_;omega,?_⟩;rw[eR,z,Kz,dif_pos rfl,ByteArray.empty_append];rfl
def JJ{A:Type}(f:Nat->A)(l:List A)(i:Nat):List A:=(List.range i).map f++l.drop i
def cQ{A:Type}{f:Nat->A}{l:List A}{i:Nat}(h:i<=l.length):(JJ f l i).length=l.length:=by simp[JJ];omega
def cI{A:Type}(f:Nat->A)(l:List A):JJ f l 0=l:=by simp[JJ]
def cV{A:Type}{f:Nat->A}{l:List A}{i:Nat}(h:i<l.length):(JJ f l i).set i (f i)=JJ f l (i+1):=by
 have hd:l.drop i=l[i]::l.drop (i+1):=by rw[VK h]
 have z:((List.range i).map f).length=i:=by simp
 rw[JJ,mJ _ _ (by rw[z];omega),z,hd,Hi,aD,JJ,mO];simp
def Dj{A:Type}(f:Nat->A)(n:Nat):List A:=(List.range n).map f
def cX{A:Type}{f:Nat->A}{l:List A}{i:Nat}(h:i=l.length):JJ f l i=Dj f l.length:=by
 subst h;simp[JJ,Dj]
def gF(k:Int)(i:Nat):Ar:=⟨KD (k+2*i),k+2*i+1⟩
def mkGC.ca(a:List Ar×Int):List AV:=[.own 0,.im (.int .i64 a.2)]
def mkGC.H0(a:List Ar×Int):Av:=[(0,(true,.arr 204 2 (a.1.map Ar.c)))]
def mkGC.H1(a:List Ar×Int):Av:=[(0,(true,.arr 204 2 ((Dj (gF a.2) a.1.length).map Ar.c)))]
def mkGC.row:AA:=AE mkGC.ca mkGC.H0 1 (λa=>0<=a.2/\a.2+2*a.1.length<=1099511627776) (λj=>j==0) (λa=> .im (.int .i64 (a.2+2*a.1.length))) mkGC.H1 0
def mkGC.ok:AB Tryz.prog 115 mkGC.row:=by
 refine ow (tC mkText.ok tN) Tryz.func115 rfl (by kernel_rfl) (exB:=λ_=>false) (R:=λa r=>r= .im (.int .i64 (a.2+2*a.1.length))) (λ_=>rfl)
  (λa=>by simp[mkGC.ca,mkGC.H0,Aq,AV.bel,Ac,A8,BO,Ad.nms,Ao,hget]) (λa p hp=> ?_) (λa r h=>by subst h;exact CF.refl _) ?_
 rotate_left
 intro a z;simp only[Tryz.f115,mkGC.ca,mkGC.H0,mkGC.H1];simp(disch:=omega)only[ZA,simprocAttr];obtain⟨l,k⟩:=a;simp only at z⊢;obtain⟨h1,h2⟩:=z;refine AP.old ⟨{i:Nat//i<=l.length},λi=>⟨[(5,.im (.int .i64 i.1)),(4,.im (.int .i64 0)),(1,.im (.int .i64 (k+2*i.1))),(0,.own 0)],[(0,(true,.arr 204 2 ((JJ (gF k) l i.1).map Ar.c)))],1⟩,λi=>l.length - i.1,λi=>⟨by simp[Ai.good,Am,Ac,A8,AV.bel],by simp⟩,⟨⟨0,by simp⟩,by simp(disch:=omega)only[ZA,simprocAttr,sub,cI];simp⟩,λi=> ?_⟩;obtain⟨i,Z⟩:=i;have Q:=cQ (f:=gF k) Z;simp(disch:=omega)only[ZA,simprocAttr,mkText.q,mkText.fv,AO,Q];intro _;refine⟨λO=>⟨by omega,O,O,λx hx=> ?_⟩,λO=> ?_⟩
 .have w1:IntKind.i64.wrap (k+2*(i:Int)+1)=k+2*(i:Int)+1:=AG (by omega) (by omega);have G:i<(List.map Ar.c (JJ (gF k) l i)).length:=by rw[He,Q];exact O
  refine⟨by rw[EZ];exact G,by rw[EZ];exact G,J0 (Du G) ?_⟩;simp(disch:=omega)only[ZA,simprocAttr,sub,w1,vX];refine⟨⟨i+1,by omega⟩,by simp only;omega,⟨?_,?_⟩,?_⟩
  .rw[AG (by omega) (by omega)];simp only;omega
  .rw[AG (by omega) (by omega)];simp only;omega
  .simp only;rw[<-cV O,Ly];rfl
 .exact⟨by omega,by rw[cX (by omega)]⟩
 simp[mkGC.H1] at hp;subst hp;exact .inl ⟨by omega,rfl,rfl⟩
def pF(k:Int)(i:Nat):Al:=⟨⟨k+3*i,k+3*i+1⟩,k+3*i+2⟩
def mkPC.ca(a:List Al×Int):List AV:=[.own 0,.im (.int .i64 a.2)]
def mkPC.H0(a:List Al×Int):Av:=[(0,(true,.arr 137 3 (a.1.map Al.c)))]
def mkPC.H1(a:List Al×Int):Av:=[(0,(true,.arr 137 3 ((Dj (pF a.2) a.1.length).map Al.c)))]
def mkPC.row:AA:=AE mkPC.ca mkPC.H0 1 (λa=>0<=a.2/\a.2+3*a.1.length<=1099511627776) (λj=>j==0) (λa=> .im (.int .i64 (a.2+3*a.1.length))) mkPC.H1 0
def mkPC.ok:AB Tryz.prog 62 mkPC.row:=by
 refine ow tN Tryz.func62 rfl (by kernel_rfl) (exB:=λ_=>false) (R:=λa r=>r= .im (.int .i64 (a.2+3*a.1.length))) (λ_=>rfl)
  (λa=>by simp[mkPC.ca,mkPC.H0,Aq,AV.bel,Ac,A8,BO,Ad.nms,Ao,hget]) (λa p hp=> ?_) (λa r h=>by subst h;exact CF.refl _) ?_
 rotate_left
 intro a G;simp only[Tryz.f62,mkPC.ca,mkPC.H0,mkPC.H1];simp(disch:=omega)only[ZA,simprocAttr];obtain⟨l,k⟩:=a;simp only at G⊢;obtain⟨h1,h2⟩:=G;refine AP.old ⟨{i:Nat//i<=l.length},λi=>⟨[(5,.im (.int .i64 i.1)),(4,.im (.int .i64 0)),(1,.im (.int .i64 (k+3*i.1))),(0,.own 0)],[(0,(true,.arr 137 3 ((JJ (pF k) l i.1).map Al.c)))],1⟩,λi=>l.length - i.1,λi=>⟨by simp[Ai.good,Am,Ac,A8,AV.bel],by simp⟩,⟨⟨0,by simp⟩,by simp(disch:=omega)only[ZA,simprocAttr,sub,cI];simp⟩,λi=> ?_⟩;obtain⟨i,Z⟩:=i;have Q:=cQ (f:=pF k) Z;simp(disch:=omega)only[ZA,simprocAttr,AO,Q];intro _;refine⟨λO=>⟨O,O,λx hx=> ?_⟩,λO=> ?_⟩
 .have w1:IntKind.i64.wrap (k+3*(i:Int)+1)=k+3*(i:Int)+1:=AG (by omega) (by omega);have w2:IntKind.i64.wrap (k+3*(i:Int)+1+1)=k+3*(i:Int)+2:=(AG (by omega) (by omega)).trans (by omega);have z:i<(List.map Al.c (JJ (pF k) l i)).length:=by rw[He,Q];exact O
  simp only[w1];refine⟨by rw[EZ];exact z,by rw[EZ];exact z,J0 (Du z) ?_⟩;simp(disch:=omega)only[ZA,simprocAttr,w2,vX];refine⟨by rw[EZ];exact z,by rw[EZ];exact z,J0 (Du z) ?_⟩;simp(disch:=omega)only[ZA,simprocAttr,sub,vX];refine⟨⟨i+1,by omega⟩,by simp only;omega,⟨?_,?_⟩,?_⟩
  .rw[AG (by omega) (by omega)];simp only;omega
  .rw[AG (by omega) (by omega)];simp only;omega
  .simp only;rw[<-cV O,Ly];rfl
 .exact⟨by omega,by rw[cX (by omega)]⟩
 simp[mkPC.H1] at hp;subst hp;exact .inl ⟨by omega,rfl,rfl⟩
def oF(k:Int)(i:Nat):Ap:=⟨⟨k+3*i,k+3*i+1⟩,k+3*i+2⟩
def mkOC.ca(a:List Ap×Int):List AV:=[.own 0,.im (.int .i64 a.2)]
def mkOC.H0(a:List Ap×Int):Av:=[(0,(true,.arr 108 3 (a.1.map Ap.c)))]
def mkOC.H1(a:List Ap×Int):Av:=[(0,(true,.arr 108 3 ((Dj (oF a.2) a.1.length).map Ap.c)))]
def mkOC.row:AA:=AE mkOC.ca mkOC.H0 1 (λa=>0<=a.2/\a.2+3*a.1.length<=1099511627776) (λj=>j==0) (λa=> .im (.int .i64 (a.2+3*a.1.length))) mkOC.H1 0
def mkOC.ok:AB Tryz.prog 25 mkOC.row:=by
 refine ow tN Tryz.func25 rfl (by kernel_rfl) (exB:=λ_=>false) (R:=λa r=>r= .im (.int .i64 (a.2+3*a.1.length))) (λ_=>rfl)
  (λa=>by simp[mkOC.ca,mkOC.H0,Aq,AV.bel,Ac,A8,BO,Ad.nms,Ao,hget]) (λa p hp=> ?_) (λa r h=>by subst h;exact CF.refl _) ?_
 rotate_left
 intro a G;simp only[Tryz.f25,mkOC.ca,mkOC.H0,mkOC.H1];simp(disch:=omega)only[ZA,simprocAttr];obtain⟨l,k⟩:=a;simp only at G⊢;obtain⟨h1,h2⟩:=G;refine AP.old ⟨{i:Nat//i<=l.length},λi=>⟨[(5,.im (.int .i64 i.1)),(4,.im (.int .i64 0)),(1,.im (.int .i64 (k+3*i.1))),(0,.own 0)],[(0,(true,.arr 108 3 ((JJ (oF k) l i.1).map Ap.c)))],1⟩,λi=>l.length - i.1,λi=>⟨by simp[Ai.good,Am,Ac,A8,AV.bel],by simp⟩,⟨⟨0,by simp⟩,by simp(disch:=omega)only[ZA,simprocAttr,sub,cI];simp⟩,λi=> ?_⟩;obtain⟨i,Z⟩:=i;have Q:=cQ (f:=oF k) Z;simp(disch:=omega)only[ZA,simprocAttr,AO,Q];intro _;refine⟨λO=>⟨O,O,λx hx=> ?_⟩,λO=> ?_⟩
 .have w1:IntKind.i64.wrap (k+3*(i:Int)+1)=k+3*(i:Int)+1:=AG (by omega) (by omega);have w2:IntKind.i64.wrap (k+3*(i:Int)+1+1)=k+3*(i:Int)+2:=(AG (by omega) (by omega)).trans (by omega);have z:i<(List.map Ap.c (JJ (oF k) l i)).length:=by rw[He,Q];exact O
  simp only[w1];refine⟨by rw[EZ];exact z,by rw[EZ];exact z,J0 (Du z) ?_⟩;simp(disch:=omega)only[ZA,simprocAttr,w2,vX];refine⟨by rw[EZ];exact z,by rw[EZ];exact z,J0 (Du z) ?_⟩;simp(disch:=omega)only[ZA,simprocAttr,sub,vX];refine⟨⟨i+1,by omega⟩,by simp only;omega,⟨?_,?_⟩,?_⟩
  .rw[AG (by omega) (by omega)];simp only;omega
  .rw[AG (by omega) (by omega)];simp only;omega
  .simp only;rw[<-cV O,Ly];rfl
 .exact⟨by omega,by rw[cX (by omega)]⟩
 simp[mkOC.H1] at hp;subst hp;exact .inl ⟨by omega,rfl,rfl⟩
def toIX.ca(a:List Int):List AV:=[.im (.sl false 1 (a.map Aj))]
def toIX.H1(a:List Int):Av:=[(1,(true,.arr 2 1 (a.map Aj)))]
def toIX.row:AA:=AE toIX.ca (λ_=>[]) 0 (λa=>a.length<=1073741824) (λ_=>false) (λ_=> .own 1) toIX.H1 2
def toIX.ok:AB Tryz.prog 14 toIX.row:=by
 refine ow tN Tryz.func14 rfl (by kernel_rfl) (exB:=λj=>j==1) (R:=λ_ r=>r= .own 1) (λ_=>rfl)
  (λa=>by simp[toIX.ca,Aq,AV.bel,Ac,A8,BO]) (λa p hp=> ?_) (λa r h=>by subst h;exact CF.refl _) ?_
 rotate_left
 intro a z;simp only[Tryz.f14,toIX.ca,toIX.H1];simp(disch:=omega)only[ZA,simprocAttr];intro Q;have aa:a.length<=1073741824:=z;refine⟨by omega,?_⟩;refine AP.old ⟨{k:Nat//k<=a.length},λk=>⟨[(4,.im (.int .i64 k.1)),(3,.own 1),(0,.im (.sl false 1 (a.map Aj)))],[(1,(true,.arr 2 1 ((a.take k.1).map Aj++List.replicate (a.length - k.1) [.int .i64 0])))],2⟩,λk=>a.length - k.1,λk=>⟨by simp[Ai.good,Am,Ac,A8,AV.bel],AQ _⟩,⟨⟨0,by omega⟩,by simp(disch:=omega)only[ZA,simprocAttr,sub];simp⟩,λk=> ?_⟩;obtain⟨k,O⟩:=k;simp(disch:=omega)only[ZA,simprocAttr,AO,fA _ _ a k O];intro _;refine⟨λG=> ?_,λG=> ?_⟩
 .refine⟨G,λx Z=>⟨G,G,J0 (eW Aj _ a k x Z) ?_⟩⟩;simp(disch:=omega)only[ZA,simprocAttr,sub];refine⟨⟨k+1,by omega⟩,by simp only;omega,?_,?_⟩
  .rw[AG (by omega) (by omega)];simp only;omega
  .exact fE Aj _ a k x Z
 .rw[fB Aj _ a k (by omega)]
  try trivial
 simp[toIX.H1] at hp;subst hp;exact .inr ⟨by omega,by omega,rfl,rfl⟩
def toGX.ca(a:List Ar):List AV:=[.im (.sl false 2 (a.map Ar.c))]
def toGX.H1(a:List Ar):Av:=[(1,(true,.arr 204 2 (a.map Ar.c)))]
def toGX.row:AA:=AE toGX.ca (λ_=>[]) 0 (λa=>a.length<=1073741824) (λ_=>false) (λ_=> .own 1) toGX.H1 2
def toGX.ok:AB Tryz.prog 95 toGX.row:=by
 refine ow (tC toGlue.ok tN) Tryz.func95 rfl (by kernel_rfl) (exB:=λj=>j==1) (R:=λ_ r=>r= .own 1) (λ_=>rfl)
  (λa=>by simp[toGX.ca,Aq,AV.bel,Ac,A8,BO]) (λa p hp=> ?_) (λa r h=>by subst h;exact CF.refl _) ?_
 rotate_left
 intro a z;simp only[Tryz.f95,toGX.ca,toGX.H1];simp(disch:=omega)only[ZA,simprocAttr];intro Q;have aa:a.length<=1073741824:=z;refine⟨by omega,?_⟩;refine AP.old ⟨{k:Nat//k<=a.length},λk=>⟨[(4,.im (.int .i64 k.1)),(3,.own 1),(0,.im (.sl false 2 (a.map Ar.c)))],[(1,(true,.arr 204 2 ((a.take k.1).map Ar.c++List.replicate (a.length - k.1) [.str ByteArray.empty,.int .i64 0])))],2⟩,λk=>a.length - k.1,λk=>⟨by simp[Ai.good,Am,Ac,A8,AV.bel],AQ _⟩,⟨⟨0,by omega⟩,by simp(disch:=omega)only[ZA,simprocAttr,sub];simp⟩,λk=> ?_⟩;obtain⟨k,O⟩:=k;simp(disch:=omega)only[ZA,simprocAttr,toGlue.q,toGlue.fv,AO,fA _ _ a k O];intro _;refine⟨λG=> ?_,λG=> ?_⟩
 .refine⟨G,λx Z=>⟨G,G,J0 (eW Ar.c _ a k x Z) ?_⟩⟩;simp(disch:=omega)only[ZA,simprocAttr,sub];refine⟨⟨k+1,by omega⟩,by simp only;omega,?_,?_⟩
  .rw[AG (by omega) (by omega)];simp only;omega
  .exact fE Ar.c _ a k x Z
 .rw[fB Ar.c _ a k (by omega)]
  try trivial
 simp[toGX.H1] at hp;subst hp;exact .inr ⟨by omega,by omega,rfl,rfl⟩
def toPX.ca(a:List Al):List AV:=[.im (.sl false 3 (a.map Al.c))]
def toPX.H1(a:List Al):Av:=[(1,(true,.arr 137 3 (a.map Al.c)))]
def toPX.row:AA:=AE toPX.ca (λ_=>[]) 0 (λa=>a.length<=1073741824) (λ_=>false) (λ_=> .own 1) toPX.H1 2
def toPX.ok:AB Tryz.prog 49 toPX.row:=by
 refine ow (tC toPlaced.ok tN) Tryz.func49 rfl (by kernel_rfl) (exB:=λj=>j==1) (R:=λ_ r=>r= .own 1) (λ_=>rfl)
  (λa=>by simp[toPX.ca,Aq,AV.bel,Ac,A8,BO]) (λa p hp=> ?_) (λa r h=>by subst h;exact CF.refl _) ?_
 rotate_left
 intro a z;simp only[Tryz.f49,toPX.ca,toPX.H1];simp(disch:=omega)only[ZA,simprocAttr];intro Q;have aa:a.length<=1073741824:=z;refine⟨by omega,?_⟩;refine AP.old ⟨{k:Nat//k<=a.length},λk=>⟨[(4,.im (.int .i64 k.1)),(3,.own 1),(0,.im (.sl false 3 (a.map Al.c)))],[(1,(true,.arr 137 3 ((a.take k.1).map Al.c++List.replicate (a.length - k.1) [.int .i64 0,.int .i64 0,.int .i64 0])))],2⟩,λk=>a.length - k.1,λk=>⟨by simp[Ai.good,Am,Ac,A8,AV.bel],AQ _⟩,⟨⟨0,by omega⟩,by simp(disch:=omega)only[ZA,simprocAttr,sub];simp⟩,λk=> ?_⟩;obtain⟨k,O⟩:=k;simp(disch:=omega)only[ZA,simprocAttr,toPlaced.q,toPlaced.fv,AO,fA _ _ a k O];intro _;refine⟨λG=> ?_,λG=> ?_⟩
 .refine⟨G,λx Z=>⟨G,G,J0 (eW Al.c _ a k x Z) ?_⟩⟩;simp(disch:=omega)only[ZA,simprocAttr,sub];refine⟨⟨k+1,by omega⟩,by simp only;omega,?_,?_⟩
  .rw[AG (by omega) (by omega)];simp only;omega
  .exact fE Al.c _ a k x Z
 .rw[fB Al.c _ a k (by omega)]
  try trivial
 simp[toPX.H1] at hp;subst hp;exact .inr ⟨by omega,by omega,rfl,rfl⟩
def toTX.ca(a:Tile):List AV:=[.im (.agg (Tile.c a))]
def toTX.r0(a:Tile):AV:= .agg [.im (.str a.Name),.own 4]
def toTX.H1(a:Tile):Av:=[(4,(true,.arr 2 1 (a.Sides.map Aj)))]
def toTX.row:AA:=AE toTX.ca (λ_=>[]) 0 (λa=>a.Sides.length<=1073741824) (λ_=>false) toTX.r0 toTX.H1 5
def toTX.ok:AB Tryz.prog 144 toTX.row:=by
 refine ow (tC toIX.ok tN) Tryz.func144 rfl (by kernel_rfl) (exB:=λj=>j==4) (R:=λa r=>r=toTX.r0 a) (λ_=>rfl)
  (λa=>by simp[toTX.ca,Tile.c,Aq,AV.bel,Ac,A8,BO]) (λa p hp=> ?_) (λa r h=>by subst h;exact CF.refl _) ?_
 rotate_left
 intro a z;simp only[Tryz.f144,toTX.ca,toTX.H1,Tile.c];simp(disch:=omega)only[ZA,simprocAttr];refine AE.os a.Sides [] z (λj=>by simp[Ao,hget]) rfl rfl ?_ ?_
 .simp(disch:=omega)only[ZA,simprocAttr,toIX.ca,CO]
 simp(disch:=omega)only[ZA,simprocAttr,toIX.H1,toTX.r0]
 skip
 simp[toTX.H1] at hp;subst hp;exact .inr ⟨by omega,by omega,rfl,rfl⟩
def E9(a:List Tile)(i:Nat):Au:=(true,.arr 2 1 (((a[i]?.map Tile.Sides).getD []).map Aj))
def I0(a:List Tile)(i:Nat):List AV:=[.im (.str ((a[i]?.map Tile.Name).getD ByteArray.empty)),.own (2+i)]
def nK:List AV:=[.im (.str ByteArray.empty),.im (.sl true 0 [])]
def H4(a:List Tile)(k:Nat):List (List AV):=(List.range k).map (I0 a)++List.replicate (a.length - k) nK
def cG{a:List Tile}{k:Nat}(h:k<=a.length):(H4 a k).length=a.length:=by simp[H4];omega
def Vn{a:List Tile}{k i:Nat}(h:i<k):(H4 a k)[i]? =some (I0 a i):=by
 rw[H4,ED (by simpa using h),D2,HN h];rfl
def Vm{a:List Tile}{k i:Nat}(h:k<=i)(z:i<a.length):(H4 a k)[i]? =some nK:=by
 rw[H4,F4 (by simpa using h),Ls,An (by simp;omega)]
def Nv(a:List Tile)(k N:Nat)(h:2+k<=N):(H4 a k).all (Aq N)=true:=by
 rw[D3];intro r z;rcases Bx.1 z with z|z
 .obtain⟨i,G,rfl⟩:=Bv.1 z
  have:=BD.1 G
  simp[I0,Aq,AV.bel];omega
 .obtain rfl:=Ol z;simp[nK,Aq,AV.bel]
def Vo(a:List Tile):H4 a 0=Bq (List.replicate a.length [.str ByteArray.empty,.sl true 0 []]):=by
 simp[H4,Bq,nK]
def NL(h:Nat->Option Au)(F:AV->Option AV)(b:Nat)(f:Nat->Au)(n:Nat)(H: ∀i,i<n->h (b+i)=some (f i))(hc: ∀i,i<n->C5 F (f i).2=some (f i).2):EY h F (AU b n f):=by
 have: ∀(l:List Nat),(∀i∈l,i<n)->EY h F (l.map λi=>(b+i,f i)):=by
  intro l;induction l with
  |nil=>intro _;simp[EY]
  |cons i r ih=>
   intro z;simp only[Bd,EY];refine⟨?_,ih (λj O=>z j (BX _ O))⟩;rw[H i (z i (BT ..))];exact⟨rfl,hc i (z i (BT ..))⟩
 exact this _ (λi G=>BD.1 G)
def Zq{h:Nat->Option Au}{kx:Nat->Option Nat}{m:Nat}{a:List Tile}(G: ∀i,i<a.length->kx (2+i)=some (2+i)):A7 (A7 (Be h kx (m+1))) (H4 a a.length)=some (H4 a a.length):=by
 have e:H4 a a.length=(List.range a.length).map (I0 a):=by simp[H4]
 rw[e];refine VE (g:=I0 a) (k:=I0 a) _ λi z=> ?_
 simp only[I0,A7,Be,G i (BD.1 z),kp]
def toLX.ca(a:List Tile):List AV:=[.im (.sl false 2 (a.map Tile.c))]
def toLX.H1(a:List Tile):Av:=(1,(true,.arrA 206 2 (H4 a a.length)))::AU 2 (min a.length 1048576) (E9 a)
def toLX.pre(a:List Tile):Prop:=a.length<=1048576/\ ∀x∈a,x.Sides.length<=1073741824
def toLX.row:AA:=AE toLX.ca (λ_=>[]) 0 toLX.pre (λ_=>false) (λ_=> .own 1) toLX.H1 2000000
def toLX.ok:AB Tryz.prog 96 toLX.row:=by
 refine ow (tC toTX.ok tN) Tryz.func96 rfl (by kernel_rfl) (exB:=λj=>Nat.ble 1 j) (R:=λ_ r=>r= .own 1) (λ_=>rfl)
  (λa=>by simp[toLX.ca,Aq,AV.bel,Ac,A8,BO]) (λa p hp=> ?_) (λa r h=>by subst h;exact CF.refl _) ?_
 rotate_left
 intro a ah;simp only[Tryz.f96,toLX.ca];simp(disch:=omega)only[ZA,simprocAttr];obtain⟨h1,h2⟩:=ah;intro _;refine⟨by omega,?_⟩;refine AP.ren ⟨{k:Nat//k<=a.length},λk=>⟨[(4,.im (.int .i64 k.1)),(3,.own 1),(0,.im (.sl false 2 (a.map Tile.c)))],(1,(true,.arrA 206 2 (H4 a k.1)))::AU 2 k.1 (E9 a),2+a.length⟩,λk=>a.length - k.1,λk=>⟨?_,by simp⟩,⟨⟨0,by simp⟩,[],?_⟩,λk=> ?_⟩
 .simp only[Ai.good,Am,Ac,A8,AV.bel,F7,Eb];rw[Rb _ _ _ (λi=>by simp[Ac,E9]),QQ _ _ _ _ (by omega),Nv _ _ _ (by omega)];simp
  try omega
 .simp only[Ay,AU,ZeT,Gq,Vo];simp(disch:=omega)only[ZA,simprocAttr,uP]
  try simp
 .obtain⟨k,ai⟩:=k;have ad:=cG (a:=a) ai;simp(disch:=omega)only[ZA,simprocAttr,AO,BB];intro _;refine⟨λhk=>⟨by omega,hk,λx hx=> ?_⟩,λhk=> ?_⟩
  .refine AE.os x [] (h2 x (AZ hx)) (λj=>by simp[Ao,hget]) rfl rfl ?_ ?_
   .simp(disch:=omega)only[ZA,simprocAttr,toTX.ca,CO,Tile.c]
   simp(disch:=omega)only[ZA,simprocAttr,toTX.H1,toTX.r0,ad,BB];refine⟨⟨by omega,by omega,by omega⟩,hk,by omega,hk,J0 (Vm (AQ _) hk) ?_⟩;simp only[nK];simp(disch:=omega)only[ZA,simprocAttr,BB,Bi];rw[Wl 2 k (E9 a) [1] (by simp)];refine⟨⟨?_,by omega⟩,⟨k+1,by omega⟩,[(2+k,some (2+a.length+4))],by simp only;omega,?_⟩
   .rw[D3];intro r hr;rcases Xm hr with hr|hr
    .exact D3.1 (Nv a k _ (by omega)) r hr
    .subst hr;simp[Aq,AV.bel]
   obtain⟨g,hg⟩: ∃g,g=pm [(2+k,some (2+a.length+4))]:=⟨_,rfl⟩;have qx:g (2+k)=some (2+a.length+4):=by rw[hg];simp[pm]
   have qo: ∀u,u≠2+k->g u=some u:=by intro u h;rw[hg];simp only[pm];rw[Af (by omega)]
   have q1:pm [(2+k,some (2+a.length+4))] 1=some 1:=by rw[<-hg];exact qo 1 (by omega)
   have aa:=qx;have Z:=qo;rw[hg] at aa Z;refine⟨⟨by omega,trivial⟩,?_,?_,?_⟩
   .rw[eV,<-hg];simp only[Fh,Z6];refine fC _ _ (eB [1] 2 (k+1) (by simp) (by simp)) ?_;have ac: ∀u∈[1]++(List.range (k+1)).map (2+ ·),u<2+a.length+1:=by
     intro u hu;rcases Bx.1 hu with hu|hu
     .simp at hu;omega
     .obtain⟨i,hi,rfl⟩:=Bv.1 hu
      have:=BD.1 hi
      show 2+i<2+a.length+1;omega
    intro u hu v hv m z G;have ak:=ac u hu;have am:=ac v hv;by_cases O:u=2+k<;>by_cases Q:v=2+k
    .omega
    .rw[O,qx] at z;rw[qo v Q] at G;simp only[AJ] at z G;omega
    .rw[qo u O] at z;rw[Q,qx] at G;simp only[AJ] at z G;omega
    .rw[qo u O] at z;rw[qo v Q] at G;simp only[AJ] at z G;omega
   .simp only[Qn,AF];simp(disch:=omega)only[ZA,simprocAttr,q1];rw[AG (by omega) (by omega)];simp
   .simp only[Ha,eL];refine⟨?_,λi hi=> ?_⟩
    .simp(disch:=omega)only[ZA,simprocAttr,q1];rw[fD];refine⟨by rw[EZ,ad,cG (by omega)],λi r1 r2 O Q=> ?_⟩;have af:i<a.length:=by
      have:=(Ce.1 O).1
      rw[cG (by omega)] at this;exact this
     by_cases ab:i=k
     .subst ab;rw[Vn (by omega)] at O;rw[Du (by rw[ad];exact af)] at Q;obtain rfl:=AD O;obtain rfl:=AD Q;simp only[I0,hx,CQ,AM,DG,mt,aa,FN,Hx]
     .rw[DK (by omega)] at Q;by_cases ac:i<k
      .rw[Vn (by omega)] at O Q;obtain rfl:=AD O;obtain rfl:=AD Q;simp only[I0,DG,mt,Z (2+i) (by omega),FN,Hx]
      .rw[Vm (by omega) af] at O Q;obtain rfl:=AD O;obtain rfl:=AD Q;simp only[nK,DG,mt,Hx]
    .show Ep _ _ true (.arr 2 1 (((a[i]?.map Tile.Sides).getD []).map Aj)) _;by_cases ab:i=k
     .subst ab;rw[aa];simp(disch:=omega)only[ZA,simprocAttr,hx,AM]
      try simp
     .rw[Z (2+i) (by omega)];simp(disch:=omega)only[ZA,simprocAttr,HE,WW,E9]
      try simp
  .have aj:k=a.length:=by omega
   subst aj;refine⟨by omega,by omega,?_⟩;have ag:min a.length 1048576=a.length:=by omega
   obtain⟨H,hH⟩: ∃H,H=hget ((1,(true,Ad.arrA 206 2 (H4 a a.length)))::AU 2 a.length (E9 a)):=⟨_,rfl⟩;rw[<-hH];have kx: ∀i,i<a.length->(IZ [] 0 2000000 λj=>decide (1<=j)) (2+i)=some (2+i):=by
    intro i hi;have hb:(decide (1<=2+i) && (Nat.ble 0 (2+i) && Nat.blt (2+i) (0+2000000)))=true:=by
     simp only[AS,BL,Hy,E4];omega
    simp only[IZ,Ao,hget,aE,aL,hb,Ck]
   have g1:H 1=some (true,.arrA 206 2 (H4 a a.length)):=by rw[hH];rfl
   simp only[toLX.H1,EY,ag];refine⟨?_,NL _ _ _ _ _ (λi hi=> ?_) (λi hi=>rfl)⟩
   .rw[g1];exact⟨rfl,by simp only[C5];rw[Zq kx];rfl⟩
   .rw[hH];simp only[hget,Bi _ _ (show 1≠2+i by omega),BC];exact HE _ _ _ _ hi
 simp only[toLX.H1,Bm,AU,Bv,BD] at hp;rcases hp with rfl|⟨i,hi,rfl⟩
 .exact .inr ⟨by omega,by omega,rfl,rfl⟩
 .exact .inr ⟨by simp only;omega,by simp only;omega,by simp only[Hy];omega,rfl⟩
def Ic(b:Nat)(a:List Tile):List (List AV):=(List.range a.length).map λi=>[.im (.str ((a[i]?.map Tile.Name).getD ByteArray.empty)),.own (b+i)]
def Zr(σ:Nat->Nat)(b:Nat)(a:List Tile)(h: ∀i,i<a.length->σ (2+i)=b+i):(H4 a a.length).map (AL σ)=Ic b a:=by
 have e:H4 a a.length=(List.range a.length).map (I0 a):=by simp[H4]
 rw[e,Rn];refine Oj λi z=> ?_
 simp only[Function.comp,I0,AL,AV.ren,h i (BD.1 z)]
def Zn(σ:Nat->Nat)(b n:Nat)(a:List Tile)(h: ∀i,i<n->σ (2+i)=b+i):AY σ (AU 2 n (E9 a))=AU b n (E9 a):=by
 simp only[AU]
 have: ∀(l:List Nat),(∀i∈l,i<n)->AY σ (l.map λi=>(2+i,E9 a i))=l.map λi=>(b+i,E9 a i):=by
  intro l;induction l with
  |nil=>intro _;rfl
  |cons i r ih=>
   intro z;have e:=ih (λj O=>z j (BX _ O));simp only[Bd,AY,h i (z i (BT ..)),E9,Ad.ren] at e⊢;rw[e]
 exact this _ (λi G=>BD.1 G)
def Wk(k:List Nat)(nx cnt:Nat): ∀(H:Av),(∀p∈H,nx<=p.1/\p.1<nx+cnt)->Hv k nx cnt H=true
 |[],_=>rfl
 |(i,e)::r,h=>by
  have z:=h (i,e) (BT ..);simp only at z;simp only[Hv,JV,Wk k nx cnt r (λp hp=>h p (BX _ hp)),F7,Hd,AS,Hy,E4];exact .inl z
def Nr(b:Nat)(a:List Tile)(N:Nat)(h:b+a.length<=N):(Ic b a).all (Aq N)=true:=by
 rw[D3];intro r G;obtain⟨i,z,rfl⟩:=Bv.1 G
 have:=BD.1 z
 simp[Aq,AV.bel];omega
def Vp{σ:Nat->Nat}{nx:Nat}(a:List Tile)(h: ∀j,σ j=nx+j):AY σ (toLX.H1 a)=(nx+1,(true,.arrA 206 2 (Ic (nx+2) a)))::AU (nx+2) (min a.length 1048576) (E9 a):=by
 simp only[toLX.H1,AY,Ad.ren];rw[Zr σ (nx+2) a (λi _=>by rw[h];omega),Zn σ (nx+2) _ a (λi _=>by rw[h];omega),h]
def Wn{b n:Nat}{f:Nat->Au}{r:Av}{m:Nat}(h:m<b):hget (AU b n f++r) m=hget r m:=by
 rw[Ql,Qmh _ _ _ _ (.inl h)];rfl
def pI(ks:List Nat): ∀(a b:Av),Bh (a++b) ks=Bh a ks++Bh b ks
 |[],b=>by simp[Bh]
 |(i,e)::r,b=>by
  simp only[CT,Bh,pI ks r b];cases ks.contains i<;>rfl
def bZ{b n:Nat}{f:Nat->Au}{r:Av}{k:Nat}(h:k<b):Bh (AU b n f++r) [k]=AU b n f++Bh r [k]:=by
 rw[pI,Wl _ _ _ _ (λx z=>by rw[BK] at z;subst z;exact .inl h)]
def Ns{h:Nat->Option Au}{kx:Nat->Option Nat}{m b:Nat}{a:List Tile}(G: ∀i,i<a.length->kx (b+i)=some (b+i)):A7 (A7 (Be h kx (m+1))) (Ic b a)=some (Ic b a):=by
 refine VE (g:=λi=>[AV.im (.str ((a[i]?.map Tile.Name).getD ByteArray.empty)),AV.own (b+i)]) (k:=λi=>[AV.im (.str ((a[i]?.map Tile.Name).getD ByteArray.empty)),AV.own (b+i)]) _ λi z=> ?_
 simp only[A7,Be,G i (BD.1 z),kp]
def Tb{lo cnt m:Nat}(z:lo<=m)(G:m<cnt):(IZ [] 0 cnt λj=>decide (lo<=j)) m=some m:=by
 have hb:(decide (lo<=m) && (Nat.ble 0 m && Nat.blt m (0+cnt)))=true:=by
  simp only[AS,BL,Hy,E4];omega
 simp only[IZ,Ao,hget,aE,aL,hb,Ck]
def toSX.ca(a:AC):List AV:=[.im (.agg (AC.c a))]
def toSX.r0:AV:= .agg [.own 4,.own 6]
def toSX.H1(a:AC):Av:=(4,(true,.arr 204 2 (a.Glues.map Ar.c)))::(6,(true,.arrA 206 2 (Ic 7 a.Tiles)))::AU 7 (min a.Tiles.length 1048576) (E9 a.Tiles)
def toSX.pre(a:AC):Prop:=a.Glues.length<=1073741824/\toLX.pre a.Tiles
def toSX.row:AA:=AE toSX.ca (λ_=>[]) 0 toSX.pre (λ_=>false) (λ_=>toSX.r0) toSX.H1 2000005
def toSX.ok:AB Tryz.prog 48 toSX.row:=by
 refine ow (tC toGX.ok (tC toLX.ok tN)) Tryz.func48 rfl (by kernel_rfl) (exB:=λj=>Nat.ble 4 j) (R:=λ_ r=>r=toSX.r0) (λ_=>rfl)
  (λa=>by simp[toSX.ca,AC.c,Aq,AV.bel,Ac,A8,BO]) (λa p hp=> ?_) (λa r h=>by subst h;exact CF.refl _) ?_
 rotate_left
 intro a O;simp only[Tryz.f48,toSX.ca,AC.c];simp(disch:=omega)only[ZA,simprocAttr];obtain⟨h1,Q⟩:=O;refine AE.os a.Glues [] h1 (λj=>by simp[Ao,hget]) rfl rfl ?_ ?_
 .simp(disch:=omega)only[ZA,simprocAttr,toGX.ca,CO]
 simp(disch:=omega)only[ZA,simprocAttr,toGX.H1];refine AE.os a.Tiles [] Q (λj=>by simp[Ao,hget]) rfl rfl ?_ ?_
 .simp(disch:=omega)only[ZA,simprocAttr,toLX.ca,CO]
 have hσ: ∀j,Cm (Iz []) 0 5 j=5+j:=λj=>by simp[Cm]
 rw[Vp a.Tiles hσ];obtain⟨h3,h4⟩:=Q;have z:min a.Tiles.length 1048576=a.Tiles.length:=by omega
 rw[z];simp only[DT,AV.ren,hσ];refine⟨?_,?_⟩
 .rw[Br.ok_nr,Wk _ _ _ _ (λp hp=> ?_)]
  .simp only[AV.bel,Ac];rw[Rb _ _ _ (λi=>by simp[Ac,E9]),Nr _ _ _ (by omega)];simp
  .rcases Bm.1 hp with rfl|hp
   .exact⟨by simp only;omega,by simp only;omega⟩
   .obtain⟨i,G,rfl⟩:=Bv.1 hp
    have:=BD.1 G
    exact⟨by simp only;omega,by simp only;omega⟩
 simp(disch:=omega)only[ZA,simprocAttr,BB,toSX.r0,Wn,bZ];obtain⟨H,hH⟩: ∃H,H=hget ((1,(true,Ad.cells 45 [AV.own 4,AV.own 6]))::(2,(true,Ad.cells 45 [AV.own 4,AV.own 6]))::(6,(true,Ad.arrA 206 2 (Ic 7 a.Tiles)))::
  (AU 7 a.Tiles.length (E9 a.Tiles)++[(4,(true,Ad.arr 204 2 (List.map Ar.c a.Glues))),(0,(true,Ad.cells 25 [AV.im (D.sl false 2 (List.map Ar.c a.Glues)),AV.im (D.sl false 2 (List.map Tile.c a.Tiles))]))])):=⟨_,rfl⟩
 rw[<-hH];have Z:H 4=some (true,.arr 204 2 (a.Glues.map Ar.c)):=by rw[hH];simp[hget,Wn]
 have g6:H 6=some (true,.arrA 206 2 (Ic 7 a.Tiles)):=by rw[hH];rfl
 have gf: ∀i,i<a.Tiles.length->H (7+i)=some (E9 a.Tiles i):=by
  intro i G;rw[hH];simp only[hget,Bi _ _ (show 1≠7+i by omega),Bi _ _ (show 2≠7+i by omega),Bi _ _ (show 6≠7+i by omega),BC];rw[Ql,HE _ _ _ _ G];rfl
 simp only[toSX.H1,EY,z];refine⟨?_,?_,NL _ _ _ _ _ gf (λi G=>rfl)⟩
 .rw[Z];exact⟨rfl,rfl⟩
 .rw[g6];exact⟨rfl,by simp only[C5];rw[Ns (λi G=>Tb (by omega) (by omega))];rfl⟩
 simp only[toSX.H1,Bm,AU,Bv,BD] at hp;rcases hp with rfl|rfl|⟨i,G,rfl⟩
 .exact .inr ⟨by omega,by simp only;omega,rfl,rfl⟩
 .exact .inr ⟨by omega,by simp only;omega,rfl,rfl⟩
 .exact .inr ⟨by simp only;omega,by simp only;omega,by simp only[Hy];omega,rfl⟩
def toAX.ca(a:Ak):List AV:=[.im (.agg (Ak.c a))]
def toAX.H1(a:Ak):Av:=[(4,(true,.arr 137 3 (a.Tiles.map Al.c)))]
def toAX.row:AA:=AE toAX.ca (λ_=>[]) 0 (λa=>a.Tiles.length<=1073741824) (λ_=>false) (λ_=> .agg [.own 4]) toAX.H1 5
def toAX.ok:AB Tryz.prog 12 toAX.row:=by
 refine ow (tC toPX.ok tN) Tryz.func12 rfl (by kernel_rfl) (exB:=λj=>j==4) (R:=λ_ r=>r= .agg [.own 4]) (λ_=>rfl)
  (λa=>by simp[toAX.ca,Ak.c,Aq,AV.bel,Ac,A8,BO]) (λa p hp=> ?_) (λa r h=>by subst h;exact CF.refl _) ?_
 rotate_left
 intro a z;simp only[Tryz.f12,toAX.ca,toAX.H1,Ak.c];simp(disch:=omega)only[ZA,simprocAttr];refine AE.os a.Tiles [] z (λj=>by simp[Ao,hget]) rfl rfl ?_ ?_
 .simp(disch:=omega)only[ZA,simprocAttr,toPX.ca,CO]
 simp(disch:=omega)only[ZA,simprocAttr,toPX.H1]
 skip
 simp[toAX.H1] at hp;subst hp;exact .inr ⟨by omega,by omega,rfl,rfl⟩
def Vq{σ:Nat->Nat}{nx:Nat}(a:AC)(h: ∀j,σ j=nx+j):AY σ (toSX.H1 a)=(nx+4,(true,.arr 204 2 (a.Glues.map Ar.c)))::(nx+6,(true,.arrA 206 2 (Ic (nx+7) a.Tiles)))::AU (nx+7) (min a.Tiles.length 1048576) (E9 a.Tiles):=by
 have z:(Ic 7 a.Tiles).map (AL σ)=Ic (nx+7) a.Tiles:=by
  simp only[Ic,Rn];refine Oj λi O=> ?_
  simp only[Function.comp,AL,AV.ren,h];rw[show nx+(7+i)=nx+7+i by omega]
 have G: ∀n,AY σ (AU 7 n (E9 a.Tiles))=AU (nx+7) n (E9 a.Tiles):=by
  intro n;simp only[AU]
  have: ∀(l:List Nat),AY σ (l.map λi=>(7+i,E9 a.Tiles i))=l.map λi=>(nx+7+i,E9 a.Tiles i):=by
   intro l;induction l with
   |nil=>rfl
   |cons i r ih=>
    simp only[Bd,AY,h,E9,Ad.ren] at ih⊢;rw[ih,show nx+(7+i)=nx+7+i by omega]
  exact this _
 simp only[toSX.H1,AY,Ad.ren,z,G,h]
def toYX.ca(a:Ax):List AV:=[.im (.agg (Ax.c a))]
def toYX.r0(a:Ax):AV:= .agg [.own 7,.own 9,.own 2000012,.im (.int .i64 a.Temperature)]
def toYX.H1(a:Ax):Av:=(7,(true,.arr 204 2 (a.Set.Glues.map Ar.c)))::(9,(true,.arrA 206 2 (Ic 10 a.Set.Tiles)))::(2000012,(true,.arr 137 3 (a.Seed.Tiles.map Al.c)))::AU 10 (min a.Set.Tiles.length 1048576) (E9 a.Set.Tiles)
def toYX.pre(a:Ax):Prop:=toSX.pre a.Set/\a.Seed.Tiles.length<=1073741824
def toYX.row:AA:=AE toYX.ca (λ_=>[]) 0 toYX.pre (λ_=>false) toYX.r0 toYX.H1 2000013
def toYX.ok:AB Tryz.prog 11 toYX.row:=by
 refine ow (tC toSX.ok (tC toAX.ok tN)) Tryz.func11 rfl (by kernel_rfl) (exB:=λj=>Nat.ble 7 j) (R:=λa r=>r=toYX.r0 a) (λ_=>rfl)
  (λa=>by simp[toYX.ca,Ax.c,Aq,AV.bel,Ac,A8,BO]) (λa p hp=> ?_) (λa r h=>by subst h;exact CF.refl _) ?_
 rotate_left
 intro a O;simp only[Tryz.f11,toYX.ca,Ax.c];simp(disch:=omega)only[ZA,simprocAttr];obtain⟨Q,h2⟩:=O;refine AE.os a.Set [] Q (λj=>by simp[Ao,hget]) rfl rfl ?_ ?_
 .simp(disch:=omega)only[ZA,simprocAttr,toSX.ca,AC.c,CO]
 have hσ: ∀j,Cm (Iz []) 0 3 j=3+j:=λj=>by simp[Cm]
 rw[Vq a.Set hσ];obtain⟨h0,h3,h4⟩:=Q;have z:min a.Set.Tiles.length 1048576=a.Set.Tiles.length:=by omega
 rw[z];simp only[DT,toSX.r0,AV.ren,AL,hσ];refine⟨?_,?_⟩
 .rw[Br.ok_nr,Wk _ _ _ _ (λp hp=> ?_)]
  .simp only[AV.bel,Aq,Ac];rw[Rb _ _ _ (λi=>by simp[Ac,E9]),Nr _ _ _ (by omega)];simp
  .rcases Bm.1 hp with rfl|hp
   .exact⟨by simp only;omega,by simp only;omega⟩
   rcases Bm.1 hp with rfl|hp
   .exact⟨by simp only;omega,by simp only;omega⟩
   .obtain⟨i,G,rfl⟩:=Bv.1 hp
    have:=BD.1 G
    exact⟨by simp only;omega,by simp only;omega⟩
 simp(disch:=omega)only[ZA,simprocAttr,BB,Wn,bZ];refine AE.os a.Seed [] h2 (λj=>by simp[Ao,hget]) rfl rfl ?_ ?_
 .simp(disch:=omega)only[ZA,simprocAttr,toAX.ca,Ak.c,CO]
 simp(disch:=omega)only[ZA,simprocAttr,toAX.H1,BB,Wn,bZ,toYX.r0];obtain⟨H,hH⟩: ∃H,H=hget ((1,(true,Ad.cells 47 [AV.own 7,AV.own 9,AV.own 2000012,AV.im (D.int IntKind.i64 a.Temperature)]))::(2,(true,Ad.cells 47 [AV.own 7,AV.own 9,AV.own 2000012,AV.im (D.int IntKind.i64 a.Temperature)]))::
  (2000012,(true,Ad.arr 137 3 (List.map Al.c a.Seed.Tiles)))::(7,(true,Ad.arr 204 2 (List.map Ar.c a.Set.Glues)))::(9,(true,Ad.arrA 206 2 (Ic 10 a.Set.Tiles)))::
  (AU 10 a.Set.Tiles.length (E9 a.Set.Tiles)++[(0,(true,Ad.cells 30 [AV.im (D.sl false 2 (List.map Ar.c a.Set.Glues)),AV.im (D.sl false 2 (List.map Tile.c a.Set.Tiles)),AV.im (D.sl false 3 (List.map Al.c a.Seed.Tiles)),AV.im (D.int IntKind.i64 a.Temperature)]))])):=⟨_,rfl⟩
 rw[<-hH];have Z:H 7=some (true,.arr 204 2 (a.Set.Glues.map Ar.c)):=by rw[hH];rfl
 have g9:H 9=some (true,.arrA 206 2 (Ic 10 a.Set.Tiles)):=by rw[hH];rfl
 have gs:H 2000012=some (true,.arr 137 3 (a.Seed.Tiles.map Al.c)):=by rw[hH];simp[hget]
 have gf: ∀i,i<a.Set.Tiles.length->H (10+i)=some (E9 a.Set.Tiles i):=by
  intro i G;rw[hH];simp only[hget,Bi _ _ (show 1≠10+i by omega),Bi _ _ (show 2≠10+i by omega),Bi _ _ (show 2000012≠10+i by omega),Bi _ _ (show 7≠10+i by omega),Bi _ _ (show 9≠10+i by omega),BC];rw[Ql,HE _ _ _ _ G];rfl
 simp only[toYX.H1,EY,z];refine⟨?_,?_,?_,NL _ _ _ _ _ gf (λi G=>rfl)⟩
 .rw[Z];exact⟨rfl,rfl⟩
 .rw[g9];exact⟨rfl,by simp only[C5];rw[Ns (λi G=>Tb (by omega) (by omega))];rfl⟩
 .rw[gs];exact⟨rfl,rfl⟩
 simp only[toYX.H1,Bm,AU,Bv,BD] at hp;rcases hp with rfl|rfl|rfl|⟨i,G,rfl⟩
 .exact .inr ⟨by omega,by simp only;omega,rfl,rfl⟩
 .exact .inr ⟨by omega,by simp only;omega,rfl,rfl⟩
 .exact .inr ⟨by omega,by simp only;omega,by simp only[Hy];omega,rfl⟩
 .exact .inr ⟨by simp only;omega,by simp only;omega,by simp only[Hy];omega,rfl⟩
def eqInt64SF.fv(a:(List Int)×(List Int)):Bool:=(λa b=>decide (a=b)) (a.1) (a.2)
def eqInt64SF.row:AA:=CR (b2 (qS Da Cp) (qS Da Cp)) rB (λa=>True) eqInt64SF.fv
def eqInt64SF.ok:AB Tryz.prog 20 eqInt64SF.row:=by
 refine Fy tN Tryz.func20 rfl (by kernel_rfl) ?_;intro a Z;simp only[Tryz.f20];simp(disch:=omega)only[ZA,simprocAttr,eqInt64SF.fv,D.sc,D.scs,Bn];intro h1 h2;simp only[AO];refine⟨λG=> ?_,λG=> ?_⟩
 .have:a.1≠a.2:=λh=>G (by rw[h])
  simp[this]
 have G:a.1.length=a.2.length:=by omega
 refine AP.old ⟨{k:Nat//k<=a.1.length/\a.1.take k=a.2.take k},λk=>⟨[(5,.im (.int .i64 k.1)),(4,.im (.bool false)),(0,.im (.sl false 1 (a.1.map Aj))),(1,.im (.sl false 1 (a.2.map Aj)))],[],0⟩,λk=>a.1.length - k.1,λk=>⟨by simp[Ai.good,Am,Ac,A8,AV.bel],AQ _⟩,⟨⟨0,by simp⟩,by simp(disch:=omega)only[ZA,simprocAttr,sub]⟩,λk=> ?_⟩;obtain⟨k,Q,z⟩:=k;simp(disch:=omega)only[ZA,simprocAttr,D.sc,D.scs,Bn,sub,AO];intro _;refine⟨λO=>⟨O,λx hx=>⟨by omega,λy hy=> ?_⟩⟩,λO=> ?_⟩
 .obtain⟨g1,g2⟩:=eC G Q z hx hy;exact⟨λh=>by simp[g2 h],λh=>Gi O h1 ⟨by omega,g1 (by simpa using h)⟩⟩
 .rw[DQ (by omega),DQ (by omega)] at z;simp[z]
def eqSystemF.fv(a:Ax×Ax):Bool:=(λa b=>decide (a=b)) (a.1) (a.2)
def eqSystemF.row:AA:=CR (b2 (qR Ax.d_le) (qR Ax.d_le)) rB (λa=>True) eqSystemF.fv
def eqSystemF.ok:AB Tryz.prog 18 eqSystemF.row:=by
 refine Fy (tC eqTileSet.ok (tC eqAssembly.ok tN)) Tryz.func18 rfl (by kernel_rfl) ?_;intro a G;simp only[Tryz.f18];simp(disch:=omega)only[ZA,simprocAttr,Ak.d,eqSystemF.fv,eqTileSet.q,eqTileSet.fv,eqAssembly.q,eqAssembly.fv,D.sc,D.scs,Bn];obtain⟨⟨⟨x,O⟩,⟨y⟩,u⟩,⟨⟨z,Q⟩,⟨w⟩,v⟩⟩:=a;simp only[Ax.mk.injEq,AC.mk.injEq,Ak.mk.injEq]
 grind
def mkAC.ca(a:Ak×Int):List AV:=[.agg [.own 0],.im (.int .i64 a.2)]
def mkAC.H0(a:Ak×Int):Av:=[(0,(true,.arr 137 3 (a.1.Tiles.map Al.c)))]
def mkAC.H1(a:Ak×Int):Av:=[(0,(true,.arr 137 3 ((Dj (pF a.2) a.1.Tiles.length).map Al.c)))]
def mkAC.row:AA:=AE mkAC.ca mkAC.H0 1 (λa=>0<=a.2/\a.2+3*a.1.Tiles.length<=1099511627776) (λj=>j==0) (λa=> .im (.int .i64 (a.2+3*a.1.Tiles.length))) mkAC.H1 0
def mkAC.ok:AB Tryz.prog 22 mkAC.row:=by
 refine ow (tC mkPC.ok tN) Tryz.func22 rfl (by kernel_rfl) (exB:=λ_=>false) (R:=λa r=>r= .im (.int .i64 (a.2+3*a.1.Tiles.length))) (λ_=>rfl)
  (λa=>by simp[mkAC.ca,mkAC.H0,Aq,AV.bel,Ac,A8,BO,Ad.nms,Ao,hget]) (λa p hp=> ?_) (λa r h=>by subst h;exact CF.refl _) ?_
 rotate_left
 intro a z;simp only[Tryz.f22,mkAC.ca,mkAC.H0,mkAC.H1];simp(disch:=omega)only[ZA,simprocAttr];refine AE.os (a.1.Tiles,a.2) [0] z (λj=> ?_) rfl rfl ?_ ?_
 .simp only[Ao,mkPC.H0,hget];by_cases G:j=0
  .subst G;simp
  .have:(0==j)=false:=by simpa using λh=>G h.symm
   rw[this];simp;omega
 .simp(disch:=omega)only[ZA,simprocAttr,D6,mkPC.ca,mkPC.H0,CO,De]
  try exact⟨rfl,rfl⟩
 simp(disch:=omega)only[ZA,simprocAttr,D6,mkPC.H1,De,EE]
 skip
 simp[mkAC.H1] at hp;subst hp;exact .inl ⟨by omega,rfl,rfl⟩
def nT(a:List Tile):Nat:=min a.length 1048576
def sdL(a:List Tile)(i:Nat):List Int:=(a[i]?.map Tile.Sides).getD []
def EU(a:List Tile)(k:Int):Nat->Int
 |0=>k
 |i+1=>EU a k i+1+(sdL a i).length
def Fx(a:List Tile)(k:Int)(i j:Nat):List AV:=if j<i then [.im (.str (KD (EU a k j))),.own (2+j)] else I0 a j
def FQ(a:List Tile)(k:Int)(i j:Nat):Au:=(true,.arr 2 1 ((if j<i then Je (EU a k j+1) (sdL a j).length else sdL a j).map Aj))
def Dy(a:List Tile)(k:Int)(i:Nat):Av:=(0,(true,.arrA 206 2 ((List.range (nT a)).map (Fx a k i))))::AU 2 (nT a) (FQ a k i)
def mkLC.ca(a:List Tile×Int):List AV:=[.own 0,.im (.int .i64 a.2)]
def mkLC.H0(a:List Tile×Int):Av:=Dy a.1 a.2 0
def mkLC.H1(a:List Tile×Int):Av:=Dy a.1 a.2 (nT a.1)
def mkLC.r0(a:List Tile×Int):AV:= .im (.int .i64 (EU a.1 a.2 a.1.length))
def mkLC.pre(a:List Tile×Int):Prop:=a.1.length<=1048576/\0<=a.2/\EU a.1 a.2 a.1.length<=1099511627776
def mkLC.row:AA:=AE mkLC.ca mkLC.H0 2000000 mkLC.pre (λ_=>true) mkLC.r0 mkLC.H1 0
def F9(a:List Tile):nT a<=1048576:=gG _ _
def cR(a:List Tile)(k:Int)(i j N:Nat)(h:2+j<N):Aq N (Fx a k i j)=true:=by
 simp only[Fx]
 split<;>simp[I0,Aq,AV.bel,h]
def cF(a:List Tile)(k:Int)(i j:Nat):AH (Fx a k i j)=[2+j]:=by
 simp only[Fx]
 split<;>simp[I0,AH,AV.nms]
def pQ(a:List Tile)(k:Int)(i N:Nat)(h:2+nT a<N):Ac N (Dy a k i)=true:=by
 simp only[Dy,Ac];rw[Rb _ _ _ (λj=>by simp[Ac,FQ]),F7,D3];intro r G;obtain⟨j,z,rfl⟩:=Bv.1 G;exact cR _ _ _ _ _ (by have:=BD.1 z;omega)
def mkLC.hbel(a:List Tile×Int):Aq 2000000 (mkLC.ca a)=true:=by simp[mkLC.ca,Aq,AV.bel]
def mkLC.hbH(a:List Tile×Int):Ac 2000000 (mkLC.H0 a)=true:=pQ _ _ _ _ (by have:=F9 a.1;omega)
def mkLC.hkH(a:List Tile×Int):A8 2000000 (mkLC.H0 a)=true:=by
 simp only[mkLC.H0,Dy,A8];rw[QQ _ _ _ _ (by have:=F9 a.1;omega)];simp
def I6(a:List Tile)(k:Int)(i j:Nat):Ao (Dy a k i) j=true↔j=0\/(2<=j/\j<2+nT a):=by
 simp only[Ao,Dy,hget,lW];by_cases h0:j=0
 .subst h0;simp
 .have:(0==j)=false:=by simpa using λh=>h0 h.symm
  rw[this];simp only[BC];split
  .rename_i h;simp[h]
  .rename_i h;simp[h0];omega
def mkLC.hnm(a:List Tile×Int):BO (mkLC.H0 a) (mkLC.H0 a):=by
 simp only[mkLC.H0];have G: ∀m,(∃j,j<nT a.1/\m=2+j)->Ao (Dy a.1 a.2 0) m=true:=by
  rintro m ⟨j,O,rfl⟩;exact (I6 _ _ _ _).2 (.inr ⟨by omega,by omega⟩)
 conv=>arg 2;unfold Dy
 simp only[BO];refine⟨λm z=> ?_,oY λi Z m z=>by simp[FQ,Ad.nms] at z⟩;simp only[Ad.nms] at z;obtain⟨r,Q,z⟩:=Gg.1 z;obtain⟨j,O,rfl⟩:=Bv.1 Q;rw[cF,BK] at z;exact G m ⟨j,BD.1 O,z⟩
def Nt(a:List Tile)(k:Int)(h:0<=k): ∀i j,i<=j->0<=EU a k i/\EU a k i<=EU a k j:=by
 have pos: ∀i,0<=EU a k i:=by
  intro i;induction i with
  |zero=>exact h
  |succ i ih=>simp only[EU];omega
 intro i j z;refine⟨pos i,?_⟩;induction j with
 |zero=>have:i=0:=by omega
        subst this;exact Lu _
 |succ j ih=>
  by_cases c:i=j+1
  .subst c;exact Lu _
  .have:=ih (by omega)
   simp only[EU];omega
def pL(s:Ai)(b n:Nat)(f:Nat->Au):Cb s (AU b n f)= ∀i,i<n->hget s.h (b+i)=some (f i):=by
 have: ∀(l:List Nat),Cb s (l.map λi=>(b+i,f i))↔ ∀i∈l,hget s.h (b+i)=some (f i):=by
  intro l;induction l with
  |nil=>simp[Cb]
  |cons i r ih=>simp only[Bd,Cb,ih,Bm,Zed]
 apply propext;rw[AU,this];simp only[BD]
def cM(a:List Tile)(k:Int)(i j:Nat)(h:j<nT a):hget (Dy a k i) (2+j)=some (FQ a k i j):=by
 simp only[Dy,hget,Bi _ _ (show 0≠2+j by omega),BC];exact HE _ _ _ _ h
def mkLC.ok:AB Tryz.prog 116 mkLC.row:=by
 refine ow (tC mkText.ok (tC mkIC.ok tN)) Tryz.func116 rfl (by kernel_rfl) (exB:=λ_=>false) (R:=λa r=>r=mkLC.r0 a) (λ_=>rfl)
  (λa=>⟨mkLC.hbel a,mkLC.hbH a,mkLC.hkH a,mkLC.hnm a⟩) (λa p hp=> ?_) (λa r h=>by subst h;exact CF.refl _) ?_
 rotate_left
 intro a aa;simp only[Tryz.f116,mkLC.ca];simp(disch:=omega)only[ZA,simprocAttr];obtain⟨l,k⟩:=a;obtain⟨h1,h2,h3⟩:=aa;simp only at h1 h2 h3;have hn:nT l=l.length:=by simp only[nT];omega
 simp only[BB,mkLC.H0,mkLC.H1];refine AP.old ⟨{i:Nat//i<=l.length},λi=>⟨[(5,.im (.int .i64 i.1)),(4,.im (.int .i64 0)),(0,.own 0),(1,.im (.int .i64 (EU l k i.1)))],Dy l k i.1,2000000⟩,λi=>l.length - i.1,λi=>⟨?_,by simp⟩,⟨⟨0,by simp⟩,?_⟩,λi=> ?_⟩
 .simp only[Ai.good,Am,AV.bel,F7,Eb];rw[pQ _ _ _ _ (by omega)];simp only[Dy,A8];rw[QQ _ _ _ _ (by omega)];simp
 .simp only[sub];simp(disch:=omega)only[ZA,simprocAttr,EU]
  conv=>arg 2;unfold Dy
  simp only[Cb,pL];exact⟨rfl,λj z=>cM _ _ _ _ z⟩
 .obtain⟨i,ac⟩:=i;have hb:=Nt l k h2 i l.length ac;have Q:((List.range (nT l)).map (Fx l k i)).length=l.length:=by simp[hn]
  simp only[Dy];simp(disch:=omega)only[ZA,simprocAttr,mkText.q,mkText.fv,AO,Q,BB];intro _;refine⟨λZ=>⟨by omega,Z,Z,λx hx=> ?_⟩,λZ=> ?_⟩
  .obtain rfl:i=x:=by
    rw[HN (by omega)] at hx;exact AD hx
   have em:Fx l k i i=[.im (.str ((l[i]?.map Tile.Name).getD ByteArray.empty)),.own (2+i)]:=by simp[Fx,I0]
   have G:((List.range (nT l)).map (Fx l k i)).set i [.im (.str (KD (EU l k i))),.own (2+i)]=(List.range (nT l)).map (Fx l k (i+1)):=by
    apply Kr;intro j;by_cases z:i=j
    .subst z;rw[Du (by rw[Q];exact Z),D2,HN (by omega)];simp[Fx]
    .rw[DK z,D2,D2];cases hr:(List.range (nT l))[j]? with
     |none=>rfl
     |some y=>
      have hy:j=y:=by
       have hl:=(Ce.1 hr).1;simp at hl;rw[HN hl] at hr;exact AD hr
      subst hy;simp only[CQ,Fx];by_cases c:j<i
      .rw[An c,An (by omega)]
      .rw[Af c,Af (by omega)]
   rw[em];simp only[Qp,Hh];have O:i<((List.range (nT l)).map (Fx l k i)).length:=by rw[Q];exact Z
   have hw:IntKind.i64.wrap (EU l k i+1)=EU l k i+1:=AG (by omega) (by omega);refine⟨by simp,?_,by rw[EZ];exact O,by rw[EZ];exact O,J0 (Du O) ?_⟩
   .rw[G,D3];intro r hr;obtain⟨j,z,rfl⟩:=Bv.1 hr;exact cR _ _ _ _ _ (by have:=BD.1 z;omega)
   simp(disch:=omega)only[ZA,simprocAttr,G,hw];have ab:=(Nt l k h2 (i+1) l.length Z).2;simp only[EU] at ab;refine⟨by omega,?_⟩;simp only[BB];rw[Wl 2 (nT l) (FQ l k i) [0] (by simp)];refine AE.os (sdL l i,EU l k i+1) [2+i] ⟨by simp only;omega,by simp only;omega⟩ (λj=> ?_) rfl ?_ ?_ ?_
   .simp only[Ao,mkIC.H0,hget];by_cases z:j=0
    .subst z;simp
    .have:(0==j)=false:=by simpa using λh=>z h.symm
     rw[this];simp;omega
   .simp only[Xi,F7,E4];omega
   .refine⟨by simp[mkIC.ca,AL,AV.ren,Cm,Iz],?_,trivial⟩;have e:Cm (Iz [2+i]) 1 2000000 0=2+i:=by simp[Cm,Iz]
    rw[e]
    have:=cM l k i i (by omega)
    simp only[Dy,FQ,hget,Bi _ _ (show 0≠2+i by omega),BC] at this;simp only[hget,Bi _ _ (show 0≠2+i by omega),BC];rw[HE _ _ _ _ (by omega)];simp[FQ,Ad.ren]
   simp(disch:=omega)only[ZA,simprocAttr,D6,mkIC.H1,sub,BB,Bi,WW,De];refine⟨.inr (by omega),⟨i+1,by omega⟩,by simp only;omega,⟨by rw[AG (by omega) (by omega)];simp only;omega,rfl⟩,rfl,?_⟩;rw[pL];intro j z;by_cases ag:j=i
   .subst ag;simp[hget,FQ]
   .simp only[hget,Bi _ _ (show 2+i≠2+j by omega),Bi _ _ (show 0≠2+j by omega),BC];rw[Lh _ _ _ (by omega),HE _ _ _ _ z];simp only[FQ];by_cases c:j<i
    .rw[An c,An (by omega)]
    .rw[Af c,Af (by omega)]
  .have ad:i=l.length:=by omega
   subst ad;have kx: ∀j,j<nT l->IZ ((0,(true,Ad.arrA 206 2 (List.map (Fx l k 0) (List.range (nT l)))))::AU 2 (nT l) (FQ l k 0)) 2000000 0 (λ_=>false) (2+j)=some (2+j):=by
    intro j z
    have:=(I6 l k 0 (2+j)).2 (.inr ⟨by omega,by omega⟩)
    simp only[Dy] at this;simp only[IZ,this,gD,Ck]
   refine⟨?_,rfl,?_,?_⟩
   .have: ∀(h:Nat->Option Au) (H:Av),Ia h (λ_=>true) H:=by
     intro h H;induction H with
     |nil=>trivial
     |cons x r ih=>obtain⟨j,e⟩:=x;exact⟨trivial,ih⟩
    exact this _ _
   .rw[show Fx l k (nT l)=Fx l k l.length by rw[hn]];rw[VE (g:=Fx l k l.length) (k:=Fx l k l.length) _ (λj z=> ?_)]
    .rfl
    .have af:=BD.1 z;simp only[Fx,An (show j<l.length by omega),A7,Be,kx j af,kp]
   .refine NL _ _ _ _ _ (λj z=> ?_) (λj z=>rfl);simp only[hget,Bi _ _ (show 0≠2+j by omega),BC];rw[HE _ _ _ _ z,hn]
 refine .inl ?_;have ah:p.1=0\/(2<=p.1/\p.1<2+nT a.1):=by
  simp only[mkLC.H1,Dy,Bm,AU,Bv,BD] at hp;rcases hp with rfl|⟨j,z,rfl⟩
  .exact .inl rfl
  .exact .inr ⟨by simp only;omega,by simp only;omega⟩
 have:=F9 a.1
 exact⟨by omega,rfl,(I6 _ _ _ _).2 ah⟩
end Go.Ae
