/- Lemmas. Conditions: none. -/
import Derived.Test.YtogafbdeamcpnaaGreatDoorP12
import Derived.Shelf.SlSortCmp.WholeK
import Derived.Shelf.SlicesG.Cmp
import Derived.StillTailTactics
import Derived.Lib.Small
import Derived.Lib.Walk
import Derived.Shelf.SlSortCmp.NoneTotal
set_option linter.all false
set_option maxHeartbeats 8000000
set_option maxRecDepth 100000
namespace Go.Proofs
open Go.Shelf
def Tryz.sortPl_ren:Go.Shelf.Ren:=⟨λ|6=>159|15=>200|14=>199|28=>233|29=>234|20=>225|21=>226|22=>227|23=>228|24=>229|25=>230|26=>231|27=>232|46=>257|47=>258|48=>259|49=>260|50=>261|57=>281|n=>n,λ|22=>37|24=>137|25=>221|3=>3|39=>247|0=>0|53=>312|55=>314|4=>4|46=>306|45=>305|50=>189|5=>5|9=>9|66=>336|70=>340|76=>362|77=>363|n=>n,λ|n=>n⟩
def Tryz.sortPl:Go.Proofs.SlLaysF0.n6 Tryz.prog Tryz.sortPl_ren:={
 mixed:=by kernel_rfl
 f6:=⟨Tryz.f159.name,by decide,Tryz.func159.trans (CR some (by kernel_rfl))⟩
 f14:=⟨Tryz.f199.name,by decide,Tryz.func199.trans (CR some (by kernel_rfl))⟩
 f15:=Tryz.func200.trans (CR some (by kernel_rfl))
 f20:=⟨Tryz.f225.name,by decide,Tryz.func225.trans (CR some (by kernel_rfl))⟩
 f21:=⟨Tryz.f226.name,by decide,Tryz.func226.trans (CR some (by kernel_rfl))⟩
 f22:=⟨Tryz.f227.name,by decide,Tryz.func227.trans (CR some (by kernel_rfl))⟩
 f23:=⟨Tryz.f228.name,by decide,Tryz.func228.trans (CR some (by kernel_rfl))⟩
 f24:=⟨Tryz.f229.name,by decide,Tryz.func229.trans (CR some (by kernel_rfl))⟩
 f25:=⟨Tryz.f230.name,by decide,Tryz.func230.trans (CR some (by kernel_rfl))⟩
 f26:=⟨Tryz.f231.name,by decide,Tryz.func231.trans (CR some (by kernel_rfl))⟩
 f27:=⟨Tryz.f232.name,by decide,Tryz.func232.trans (CR some (by kernel_rfl))⟩
 f28:=Tryz.func233.trans (CR some (by kernel_rfl))
 f29:=Tryz.func234.trans (CR some (by kernel_rfl))
 f46:=⟨Tryz.f257.name,by decide,Tryz.func257.trans (CR some (by kernel_rfl))⟩
 f47:=Tryz.func258.trans (CR some (by kernel_rfl))
 f48:=Tryz.func259.trans (CR some (by kernel_rfl))
 f49:=⟨Tryz.f260.name,by decide,Tryz.func260.trans (CR some (by kernel_rfl))⟩
 f50:=⟨Tryz.f261.name,by decide,Tryz.func261.trans (CR some (by kernel_rfl))⟩
 f57:=⟨Tryz.f281.name,by decide,Tryz.func281.trans (CR some (by kernel_rfl))⟩
 t0:=Tryz.underlying0
 a0:=Tryz.isAgg0
 z0:=Tryz.sizeOf0
 v0:=Tryz.zeroValue0
 t3:=Tryz.underlying3
 a3:=Tryz.isAgg3
 z3:=Tryz.sizeOf3
 v3:=Tryz.zeroValue3
 t4:=Tryz.underlying4
 a4:=Tryz.isAgg4
 z4:=Tryz.sizeOf4
 v4:=Tryz.zeroValue4
 t5:=Tryz.underlying5
 a5:=Tryz.isAgg5
 z5:=Tryz.sizeOf5
 v5:=Tryz.zeroValue5
 t9:=Tryz.underlying9
 a9:=Tryz.isAgg9
 z9:=Tryz.sizeOf9
 v9:=Tryz.zeroValue9
 t22:=Tryz.underlying37
 a22:=Tryz.isAgg37
 z22:=Tryz.sizeOf37
 v22:=Tryz.zeroValue37
 t25:=Tryz.underlying221
 a25:=Tryz.isAgg221
 z25:=Tryz.sizeOf221
 v25:=Tryz.zeroValue221
 t39:=Tryz.underlying247
 a39:=Tryz.isAgg247
 z39:=Tryz.sizeOf247
 v39:=Tryz.zeroValue247
 t45:=Tryz.underlying305
 a45:=Tryz.isAgg305
 z45:=Tryz.sizeOf305
 v45:=Tryz.zeroValue305
 t46:=Tryz.underlying306
 a46:=Tryz.isAgg306
 z46:=Tryz.sizeOf306
 v46:=Tryz.zeroValue306
 t50:=Tryz.underlying189
 a50:=Tryz.isAgg189
 z50:=Tryz.sizeOf189
 v50:=Tryz.zeroValue189
 t53:=Tryz.underlying312
 a53:=Tryz.isAgg312
 z53:=Tryz.sizeOf312
 v53:=Tryz.zeroValue312
 t55:=Tryz.underlying314
 a55:=Tryz.isAgg314
 z55:=Tryz.sizeOf314
 v55:=Tryz.zeroValue314
 t66:=Tryz.underlying336
 a66:=Tryz.isAgg336
 z66:=Tryz.sizeOf336
 v66:=Tryz.zeroValue336
 t70:=Tryz.underlying340
 a70:=Tryz.isAgg340
 z70:=Tryz.sizeOf340
 v70:=Tryz.zeroValue340
 t76:=Tryz.underlying362
 a76:=Tryz.isAgg362
 z76:=Tryz.sizeOf362
 v76:=Tryz.zeroValue362
 t77:=Tryz.underlying363
 a77:=Tryz.isAgg363
 z77:=Tryz.sizeOf363
 v77:=Tryz.zeroValue363}
def Tryz.sortPt_ren:Go.Shelf.Ren:=⟨λ|6=>223|15=>200|14=>256|28=>233|29=>234|20=>273|21=>274|22=>275|23=>276|24=>277|25=>278|26=>279|27=>280|46=>291|47=>258|48=>259|49=>292|50=>293|57=>297|n=>n,λ|22=>50|24=>96|25=>220|3=>3|39=>247|0=>0|53=>312|55=>314|4=>4|46=>306|45=>305|50=>189|5=>5|9=>9|66=>336|70=>340|76=>362|77=>363|n=>n,λ|n=>n⟩
def Tryz.sortPt:Go.Proofs.SlLaysF0.n6 Tryz.prog Tryz.sortPt_ren:={
 mixed:=by kernel_rfl
 f6:=⟨Tryz.f223.name,by decide,Tryz.func223.trans (CR some (by kernel_rfl))⟩
 f14:=⟨Tryz.f256.name,by decide,Tryz.func256.trans (CR some (by kernel_rfl))⟩
 f15:=Tryz.func200.trans (CR some (by kernel_rfl))
 f20:=⟨Tryz.f273.name,by decide,Tryz.func273.trans (CR some (by kernel_rfl))⟩
 f21:=⟨Tryz.f274.name,by decide,Tryz.func274.trans (CR some (by kernel_rfl))⟩
 f22:=⟨Tryz.f275.name,by decide,Tryz.func275.trans (CR some (by kernel_rfl))⟩
 f23:=⟨Tryz.f276.name,by decide,Tryz.func276.trans (CR some (by kernel_rfl))⟩
 f24:=⟨Tryz.f277.name,by decide,Tryz.func277.trans (CR some (by kernel_rfl))⟩
 f25:=⟨Tryz.f278.name,by decide,Tryz.func278.trans (CR some (by kernel_rfl))⟩
 f26:=⟨Tryz.f279.name,by decide,Tryz.func279.trans (CR some (by kernel_rfl))⟩
 f27:=⟨Tryz.f280.name,by decide,Tryz.func280.trans (CR some (by kernel_rfl))⟩
 f28:=Tryz.func233.trans (CR some (by kernel_rfl))
 f29:=Tryz.func234.trans (CR some (by kernel_rfl))
 f46:=⟨Tryz.f291.name,by decide,Tryz.func291.trans (CR some (by kernel_rfl))⟩
 f47:=Tryz.func258.trans (CR some (by kernel_rfl))
 f48:=Tryz.func259.trans (CR some (by kernel_rfl))
 f49:=⟨Tryz.f292.name,by decide,Tryz.func292.trans (CR some (by kernel_rfl))⟩
 f50:=⟨Tryz.f293.name,by decide,Tryz.func293.trans (CR some (by kernel_rfl))⟩
 f57:=⟨Tryz.f297.name,by decide,Tryz.func297.trans (CR some (by kernel_rfl))⟩
 t0:=Tryz.underlying0
 a0:=Tryz.isAgg0
 z0:=Tryz.sizeOf0
 v0:=Tryz.zeroValue0
 t3:=Tryz.underlying3
 a3:=Tryz.isAgg3
 z3:=Tryz.sizeOf3
 v3:=Tryz.zeroValue3
 t4:=Tryz.underlying4
 a4:=Tryz.isAgg4
 z4:=Tryz.sizeOf4
 v4:=Tryz.zeroValue4
 t5:=Tryz.underlying5
 a5:=Tryz.isAgg5
 z5:=Tryz.sizeOf5
 v5:=Tryz.zeroValue5
 t9:=Tryz.underlying9
 a9:=Tryz.isAgg9
 z9:=Tryz.sizeOf9
 v9:=Tryz.zeroValue9
 t22:=Tryz.underlying50
 a22:=Tryz.isAgg50
 z22:=Tryz.sizeOf50
 v22:=Tryz.zeroValue50
 t25:=Tryz.underlying220
 a25:=Tryz.isAgg220
 z25:=Tryz.sizeOf220
 v25:=Tryz.zeroValue220
 t39:=Tryz.underlying247
 a39:=Tryz.isAgg247
 z39:=Tryz.sizeOf247
 v39:=Tryz.zeroValue247
 t45:=Tryz.underlying305
 a45:=Tryz.isAgg305
 z45:=Tryz.sizeOf305
 v45:=Tryz.zeroValue305
 t46:=Tryz.underlying306
 a46:=Tryz.isAgg306
 z46:=Tryz.sizeOf306
 v46:=Tryz.zeroValue306
 t50:=Tryz.underlying189
 a50:=Tryz.isAgg189
 z50:=Tryz.sizeOf189
 v50:=Tryz.zeroValue189
 t53:=Tryz.underlying312
 a53:=Tryz.isAgg312
 z53:=Tryz.sizeOf312
 v53:=Tryz.zeroValue312
 t55:=Tryz.underlying314
 a55:=Tryz.isAgg314
 z55:=Tryz.sizeOf314
 v55:=Tryz.zeroValue314
 t66:=Tryz.underlying336
 a66:=Tryz.isAgg336
 z66:=Tryz.sizeOf336
 v66:=Tryz.zeroValue336
 t70:=Tryz.underlying340
 a70:=Tryz.isAgg340
 z70:=Tryz.sizeOf340
 v70:=Tryz.zeroValue340
 t76:=Tryz.underlying362
 a76:=Tryz.isAgg362
 z76:=Tryz.sizeOf362
 v76:=Tryz.zeroValue362
 t77:=Tryz.underlying363
 a77:=Tryz.isAgg363
 z77:=Tryz.sizeOf363
 v77:=Tryz.zeroValue363}
def Tryz.cmpI64_ren:Go.Shelf.Ren:=⟨λ|5=>202|7=>235|n=>n,λ|22=>2|3=>3|4=>4|n=>n,λ|n=>n⟩
def Tryz.cmpI64:Go.Proofs.SlLaysC2.n5 Tryz.prog Tryz.cmpI64_ren:={
 mixed:=by kernel_rfl
 f5:=⟨Tryz.f202.name,by decide,Tryz.func202.trans (CR some (by kernel_rfl))⟩
 f7:=⟨Tryz.f235.name,by decide,Tryz.func235.trans (CR some (by kernel_rfl))⟩
 t3:=Tryz.underlying3
 a3:=Tryz.isAgg3
 z3:=Tryz.sizeOf3
 v3:=Tryz.zeroValue3
 t4:=Tryz.underlying4
 a4:=Tryz.isAgg4
 z4:=Tryz.sizeOf4
 v4:=Tryz.zeroValue4
 t22:=Tryz.underlying2
 a22:=Tryz.isAgg2
 z22:=Tryz.sizeOf2
 v22:=Tryz.zeroValue2}
end Go.Proofs
namespace Go.Proofs
open Go.Shelf Go.RowKit Go.Lib Go.Sort
def Tryz.cmp64(x y:Int)(W:World):Calls Tryz.prog 202 #[.int .i64 x,.int .i64 y] W λe w'=>e= .returned (.int .i64 (Lib.compareInt x y))/\w'=W:=
 AnyG.cmp_Compare_int Tryz.cmpI64 x y W
def Tryz.orTwo(b:Nat)(x y:Int)(W:World)(h0:W.cell? ⟨b,0,none⟩=some (.int .i64 x))(z:W.cell? ⟨b,1,none⟩=some (.int .i64 y)):
 Calls Tryz.prog 201 #[.slice (some ⟨b,0,none⟩) 2 2] W λe w'=>e= .returned (.int .i64 (if x=0 then y else x))/\w'=W:=by
 go_enter Tryz.func201,Tryz.ntmps201
 go_wp2
 refine wp_loop_rounds 3 ?_;rw[rounds_succ]
 go_wp2
 all_goals (try rw[rounds_succ])
 all_goals (try go_wp2)
 all_goals (try rw[rounds_succ])
 all_goals (try go_wp2)
 all_goals (go_ret;refine⟨?_,rfl⟩;simp_all)
def PN(W:World)(a b a' b':Value)(T:TypeId):
 let z:=((W.alloc (Obj.cells #[a,b] T)).alloc (Obj.cells #[a',b'] T)).drew
 z.cell? ⟨W.heap.size,0,none⟩=some a/\z.cell? ⟨W.heap.size,1,none⟩=some b/\z.cell? ⟨W.heap.size+1,0,none⟩=some a'/\z.cell? ⟨W.heap.size+1,1,none⟩=some b'/\
  ∃G,z=grow (W.drewN 1) G:=by
 have e:((W.alloc (Obj.cells #[a,b] T)).alloc (Obj.cells #[a',b'] T)).drew=grow (W.drewN 1) #[Obj.cells #[a,b] T,Obj.cells #[a',b'] T]:=by
  rw[alloc_eq_grow,alloc_eq_grow,grow_grow];rfl
 have h0:(W.heap++ #[Obj.cells #[a,b] T,Obj.cells #[a',b'] T])[W.heap.size]? =some (Obj.cells #[a,b] T):=by
  rw[Zeg (AP _),Hd];rfl
 have O:(W.heap++ #[Obj.cells #[a,b] T,Obj.cells #[a',b'] T])[W.heap.size+1]? =some (Obj.cells #[a',b'] T):=by
  rw[Zeg (Nat.le_succ _),show W.heap.size.succ - W.heap.size=1 by omega];rfl
 simp only[e];refine⟨?_,?_,?_,?_,_,rfl⟩<;>unfold World.cell? <;>simp only[grow,World.drewN,h0,O]<;>rfl
def Qvb(w:World)(a b:Value)(T:TypeId):(w.alloc (Obj.cells #[a,b] T)).cell? ⟨w.heap.size,0,none⟩=some a/\(w.alloc (Obj.cells #[a,b] T)).cell? ⟨w.heap.size,1,none⟩=some b:=by
 have h0:(w.heap.push (Obj.cells #[a,b] T))[w.heap.size]? =some (Obj.cells #[a,b] T):=by simp
 constructor<;>unfold World.cell? <;>simp only[World.alloc,h0]<;>rfl
def I2(p q:Int×Int):Int:=if Lib.compareInt p.2 q.2=0 then Lib.compareInt p.1 q.1 else Lib.compareInt p.2 q.2
def Tryz.cmpPoints(x y x' y':Int)(W:World):Calls Tryz.prog 161 #[.agg #[.int .i64 x,.int .i64 y],.agg #[.int .i64 x',.int .i64 y']] W λe w'=>
 e= .returned (.int .i64 (I2 (x,y) (x',y')))/\ ∃q Q,w'=grow (W.drewN q) Q:=by
 have z:=λW'=>Tryz.cmp64 y y' W'
 have G:=λW'=>Tryz.cmp64 x x' W'
 unfold I2;simp only;generalize Lib.compareInt y y'=r1 at z⊢;generalize Lib.compareInt x x'=r2 at G⊢;have O:=λ(b:Nat) W'=>Tryz.orTwo b r1 r2 W'
 generalize (if r1=0 then r2 else r1)=r at O⊢
 go_enter Tryz.func161,Tryz.ntmps161
 go_wp2
 refine wp_region_still_tail 10 (by kernel_rfl) (by kernel_rfl) ?_;simp only[Ln,Rn,Qk,Hq];obtain⟨d1,d2,d3,d4,Z⟩:=PN W (.int .i64 x) (.int .i64 y) (.int .i64 x') (.int .i64 y') 96;change wpStill _ _ ((W.alloc (Obj.cells #[Value.int IntKind.i64 x,Value.int IntKind.i64 y] 96)).alloc (Obj.cells #[Value.int IntKind.i64 x',Value.int IntKind.i64 y'] 96)).drew (λa'=>wpList _ _ _ _ a' ((W.alloc (Obj.cells #[Value.int IntKind.i64 x,Value.int IntKind.i64 y] 96)).alloc (Obj.cells #[Value.int IntKind.i64 x',Value.int IntKind.i64 y'] 96)).drew) _ _;generalize ((W.alloc (Obj.cells #[Value.int IntKind.i64 x,Value.int IntKind.i64 y] 96)).alloc (Obj.cells #[Value.int IntKind.i64 x',Value.int IntKind.i64 y'] 96)).drew=w3 at d1 d2 d3 d4 Z⊢
 still_step
 still_step
 still_step
 still_step
 still_call (z _)
 still_step
 still_step
 still_step
 still_step
 still_call (G _)
 refine wpStill_nil ?_
 go_wp2_with (go_at_call 201;refine (O _ _ (Qvb _ _ _ _).1 (Qvb _ _ _ _).2).mono ?_;rintro e w' ⟨rfl,rfl⟩)
 go_ret
 obtain⟨aa,rfl⟩:=Z;exact⟨rfl,1,_,by rw[alloc_eq_grow,grow_grow]⟩
def Tryz.cmpPlaced90(x y t x' y' t':Int)(W:World):Calls Tryz.prog 160 #[.agg #[.int .i64 x,.int .i64 y,.int .i64 t],.agg #[.int .i64 x',.int .i64 y',.int .i64 t']] W λe w'=>
 e= .returned (.int .i64 (I2 (x,y) (x',y')))/\ ∃q G,w'=grow (W.drewN q) G:=by
 have z:=λW'=>Tryz.cmpPoints x y x' y' W'
 generalize I2 (x,y) (x',y')=r at z⊢
 go_enter Tryz.func160,Tryz.ntmps160
 go_wp2_with (go_at_call 161;refine (z _).mono ?_;rintro e w' ⟨rfl,q,G,rfl⟩)
 go_ret
 exact⟨rfl,q,_,by rw[alloc_eq_grow,alloc_eq_grow,grow_grow];show grow (grow (W.drewN q) _) G=_;rw[grow_grow]⟩
end Go.Proofs
namespace Go.Ae
open Go.Proofs Go.Sort Go.Shelf
instance:Inhabited Al:=⟨⟨⟨0,0⟩,0⟩⟩
def CS(x:Al):List Value:=[.int .i64 x.At.X,.int .i64 x.At.Y,.int .i64 x.Tile]
def cfP(x y:Al):Int:=I2 (x.At.X,x.At.Y) (y.At.X,y.At.Y)
def Qz0(x y:Al):ltOf cfP x y=Bq x.At y.At:=by
 simp only[ltOf,cfP,I2,Lib.compareInt,Bq]
 grind
def swoP:SWO (ltOf cfP) where
 irrefl x:=by rw[Qz0];simp only[Bq];grind
 trans x y z h1 h2:=by rw[Qz0] at*;simp only[Bq] at*;grind
 ntrans x y z h1 h2:=by rw[Qz0] at*;simp only[Bq] at*;grind
def EV(l:List Al):List Al:=l.foldr (λx r=>Eb x.At x.Tile r) []
def lQ(x:Al): ∀(l:List Al),(Eb x.At x.Tile l).Perm (x::l)
 |[]=>fZ _
 |y::r=>by
  simp only[Eb];split
  .exact fZ _
  .exact ((lQ x r).cons y).trans (List.Perm.swap x y r)
def Zt: ∀(l:List Al),(EV l).Perm l
 |[]=>fZ _
 |x::r=>(lQ x (EV r)).trans ((Zt r).cons x)
def Quq{a b c:Ab}(z:Bq a b=true)(G:Bq c b=false):Bq c a=false:=by
 simp only[Bq] at*;grind
def Qx3(x:Al): ∀(l:List Al),l.Pairwise (λa b=>Bq b.At a.At=false)->(Eb x.At x.Tile l).Pairwise (λa b=>Bq b.At a.At=false)
 |[],_=>by simp[Eb]
 |y::r,h=>by
  rw[VF] at h;simp only[Eb];split
  .rename_i O;rw[VF,VF];refine⟨λz G=> ?_,h⟩;have Q:Bq y.At x.At=false:=by simp only[Bq] at*;grind
   rcases Bk.1 G with rfl|G
   .exact Q
   .have:=h.1 z G
    exact Quq O this
  .rename_i O;rw[VF];refine⟨λz G=> ?_,Qx3 x r h.2⟩;rcases (sV _ _ _ _).1 G with rfl|G
   .simpa using O
   .exact h.1 z G
def tB: ∀(l:List Al),(EV l).Pairwise (λa b=>Bq b.At a.At=false)
 |[]=>List.Pairwise.nil
 |x::r=>Qx3 x _ (tB r)
def oI(l:List Al):(EV l).length=l.length:=(Zt l).length_eq
def Rx{l:List Al}(h:(l.map Al.At).Nodup){x y:Al}(Z:x∈l)(hy:y∈l)(Q:x.At=y.At):x=y:=by
 induction l with
 |nil=>cases Z
 |cons z r ih=>
  rw[Be,Im] at h;rcases Bk.1 Z with G|G<;>rcases Bk.1 hy with O|O
  .rw[G,O]
  .exact absurd (show z.At∈r.map Al.At by rw[<-G,Q];exact vC O) h.1
  .exact absurd (show z.At∈r.map Al.At by rw[<-O,<-Q];exact vC G) h.1
  .exact ih h.2 G O
def sZ{l l':List Al}(hd:(l.map Al.At).Nodup)(hp:l'.Perm l)(hs:l'.Pairwise (λa b=>Bq b.At a.At=false)):l'=EV l:=by
 refine ZeF (le:=λa b=>Bq b.At a.At=false) (λa b Z hb O Q=> ?_) hs (tB l) (hp.trans (Zt l).symm);refine Rx hd (hp.mem_iff.1 Z) ((Zt l).mem_iff.1 hb) ?_;revert O Q;obtain⟨⟨ax,ay⟩,z⟩:=a;obtain⟨⟨bx,G⟩,bt⟩:=b;simp only[Bq,Ab.mk.injEq]
 grind
def Sj(l:List Al):List Value:=l.flatMap CS
def LH(l:List Al):(Sj l).length=l.length*3:=by
 induction l with
 |nil=>rfl
 |cons x r ih=>simp only[Sj,GB,Df,CM] at ih⊢;rw[ih];simp[CS];omega
def Ql5{ok:Nat->Prop}{hp:Nat->Option Obj}: ∀(l:List Al) (L:List Value),rdr ok hp 3 (l.map Al.c) L↔ ∃r,L=Sj l++r
 |[],L=>by simp[rdr,Sj]
 |x::r,L=>by
  simp only[Be,rdr,Ql5 r,Al.c,rdp,rd,Sj,GB];constructor
  .rintro⟨_,⟨v,z,rfl,rfl,Q,G,rfl,rfl,Z,O,rfl,rfl,_⟩,q,hq⟩;exact⟨q,by simp only[Qk,Hq] at hq;rw[hq];rfl⟩
  .rintro⟨q,rfl⟩;exact⟨rfl,⟨_,_,rfl,rfl,_,_,rfl,rfl,_,_,rfl,rfl,trivial⟩,q,rfl⟩
def LG: ∀(l:List Al) (t:Nat),t<l.length*3->(Sj l)[t]? =some ((CS (l[t/3]?.getD default))[t % 3]!)
 |[],t,h=>by simp at h
 |x::r,t,h=>by
  by_cases O:t<3
  .have:t=0\/t=1\/t=2:=by omega
   rcases this with rfl|rfl|rfl<;>simp[Sj,CS]
  .obtain⟨u,rfl⟩: ∃u,t=u+3:=⟨t - 3,by omega⟩;have z:(u+3)/3=u/3+1:=by omega
   have G:(u+3) % 3=u % 3:=by omega
   have ih:=LG r u (by simp at h;omega);rw[z,G,HF,<-ih];simp[Sj,CS]
def Qvu(l:List Al):(flatK CS 3 l.toArray).toList=Sj l:=by
 apply Kj;intro t;by_cases z:t<l.length*3
 .rw[LG l t z];have G:t<(flatK CS 3 l.toArray).size:=by simp only[size_flatK,Oi];exact z
  have O:=get_flatK CS 3 l.toArray t (by simpa using z);rw[GX,J4 G,<-getElem!_pos (flatK CS 3 l.toArray) t G,O];congr 3;simp[getElem!_def];cases l[t/3]? <;>rfl
 .have a1:(flatK CS 3 l.toArray).toList.length<=t:=by rw[EH,size_flatK,Oi];omega
  have a2:(Sj l).length<=t:=by rw[LH];omega
  rw[FE a1,FE a2]
def srt.ca(_:List Al):List AV:=[.own 0,.im (.fn 160 [] [])]
def srt.H0(a:List Al):Aw:=[(0,(true,.arr 137 3 (a.map Al.c)))]
def srt.H1(a:List Al):Aw:=[(0,(true,.arr 137 3 ((EV a).map Al.c)))]
def srt.row:AB:=AF srt.ca srt.H0 1 (λa=>(a.map Al.At).Nodup) (λ_=>true) (λ_=> .im (.tup [])) srt.H1 0
def srt.ok:AC Tryz.prog 159 srt.row:=by
 rintro args h nx K ⟨a,τ,U,KL,a0,rfl,O,hN,hK⟩;refine⟨NX (by kernel_rfl),_,_,?_,hK⟩;intro C S vs R hW a9 bb bc aa aw;have ao:Cg τ 1 nx 0=τ 0:=An (by omega);simp only[srt.ca,AL,AV.ren,ao,AN,Aa,rd,rdl] at aa;obtain⟨v0,r0,hv,⟨ad,ai⟩,v1,r1,bi,⟨ac,cc,bl,aj,ak⟩,bj⟩:=aa;have aj:ac= #[]:=by apply Oj;simpa using aj
 have ak:cc= #[]:=by apply Oj;simpa using ak
 subst aj ak bj bi bl;have bm:vs= #[v0,.func (VK 160) #[] #[]]:=by apply Oj;simpa using hv
 subst bm;have hm:h (τ 0)=some (true,.arr 137 3 (a.map Al.c)):=by
  have:=O.1
  rwa [ao] at this
 have av:Ao (srt.H0 a) 0=true:=rfl;have Q:S.h (τ 0)=some (true,.arr 137 3 (a.map Al.c)):=by
  rw[a9 (τ 0) (Km _ (hN.u 0 av)),hm]
 have ax: ∀n,n∈KL↔n=τ 0:=by
  intro n;constructor
  .intro hn;obtain⟨j,h1,_,h3⟩:=hN.k1 n hn
   have:j=0:=by
    simp only[Ao,srt.H0,hget] at h1;by_cases hj:j=0
    .exact hj
    .have:(0==j)=false:=by simpa using λh=>hj h.symm
     rw[this] at h1;cases h1
   rw[h3,this]
  .rintro rfl;exact hN.k2 0 av rfl
 obtain⟨m,hmm⟩: ∃m,m=τ 0:=⟨_,rfl⟩;rw[<-hmm] at Q ai ax;have aq:=oI a;have fin: ∀(w':World),Jz S m (.arr 137 3 ((EV a).map Al.c)) (S.ρ m) [m] w'->
  (B1 (λn=>S.h m≠none\/n≠m) S (S.one m (.arr 137 3 ((EV a).map Al.c)) (S.ρ m) [m] w')->Av (S.one m (.arr 137 3 ((EV a).map Al.c)) (S.ρ m) [m] w') (S.ρ m) (.arr 137 3 ((EV a).map Al.c)))->R (.returned (.tuple #[])) w':=by
  intro w' ad bh;have hp:=dW hW ad;refine aw (.tuple #[]) _ (lV hW ad (bh hp)) ?_ ⟨hp.ok,λn _=>hp.nm n (.inl (by rw[Q];simp))⟩ ⟨#[],rfl,rfl⟩;funext n;simp only[A8.one,Bo.appf,srt.H1,AY,ao,hget,Ad.ren,<-hmm];by_cases hn:n=m
  .subst hn;simp
  .have h1:(m==n)=false:=by simpa using λh=>hn h.symm
   have h2:KL.contains n=false:=by
    rw[<-Lq,HG,ax];exact hn
   simp only[h1,BD,h2,hn,CH,BJ]
 have z:=ai _ Q;have Z:=hW.obj _ _ Q;have az:=λG=>hW.loc m _ G Q
 cases hρ:S.ρ m with
 |none=>
  rw[hρ] at z Z;simp only[Av] at Z;have ha:a=[]:=by simpa using Z.2
  subst ha;simp only at z;rw[z,WT (by decide)];refine (AnyF.slices_SortFunc_none Tryz.sortPl none 0 (.func (.func 160) #[] #[]) S.w).mono ?_;rintro e w' ⟨rfl,rfl⟩;refine fin S.w (bN Q (λl hl=>by rw[hρ] at hl;cases hl) rfl rfl) (λ_=> ?_);rw[hρ];exact⟨Cx _,rfl⟩
 |some G=>
  rw[hρ] at z Z;simp only[Av,Ad.len] at Z z;obtain⟨g1,g2,cv,g3,g4,g5⟩:=Z;obtain⟨an,bo⟩:=az G hρ;rw[Ql5] at g5;obtain⟨ba,g5⟩:=g5;simp only[GZ] at g1 g2 z;have O:S.w.heap[G.b]? =some (.cells cv 137 (0,0)):=g3;have bn:G.p+a.length*3<=cv.size:=by omega
  have hF:(flatK CS 3 a.toArray).size=a.length*3:=by simp
  have hget: ∀j,j<a.length*3->cv[G.p+j]? =some ((flatK CS 3 a.toArray)[j]!):=by
   intro j hj;have h1:(cv.toList.drop G.p)[j]? =(Sj a++ba)[j]? :=by rw[g5]
   rw[Iq,GX,EB (by rw[LH];exact hj),<-Qvu,GX] at h1;rw[h1,J4 (by rw[hF];exact hj),getElem!_pos _ _ (by rw[hF];exact hj)]
  have hH:HoldsK CS 3 S.w G.b G.p a.toArray:=by
   intro j hj;rw[hF] at hj;refine⟨?_,?_⟩
   .simp only[World.cell?,O,ZS,CY,CH,id];exact hget j hj
   .simp only[World.frozen?,O];simp
  have hc:=AnyQ.slices_SortFunc Tryz.sortPl 3 Tryz.isAgg137 Tryz.sizeOf137 CS (λ_=>rfl) (λx v hv=>by simp[CS] at hv;rcases hv with rfl|rfl|rfl<;>rfl) cfP swoP 160 #[] G.b G.p G.cap a.toArray S.w
   (rZ (NX (by kernel_rfl))) (λm os dk hs x y=>Tryz.cmpPlaced90 _ _ _ _ _ _ _) hH an (by simp only[Oi,KX] at g1⊢;omega)
  rw[z,WT (by decide)];refine hc.mono ?_;rintro e w' ⟨rfl,d',n,os,af,au,rfl⟩;have a8:d'.size=a.length:=af.1;have bf:d'.toList=EV a:=by
   refine sZ a0 ?_ ?_
   .have:=af.2.2
    rwa [show d'.extract 0 a.toArray.size=d' by rw[Oi,<-a8];exact vD,show a.toArray.extract 0 a.toArray.size=a.toArray from vD] at this
   .rw[Zdh];intro i j hi hj bg
    have:=au i j (Cx _) bg (by rw[Oi,<-a8];simpa using hj)
    rw[Qz0,getElem!_pos d' i (by simpa using hi),getElem!_pos d' j (by simpa using hj)] at this;simpa using this
  obtain rfl:d'=(EV a).toArray:=by apply Oj;rw[bf]
  have ah:(flatK CS 3 (EV a).toArray).size=a.length*3:=by simp[aq]
  have am:(flatK CS 3 (EV a).toArray).toList.length=a.length*3:=by rw[EH,ah]
  have ag:S.w.heap.size<=(sortWorldK CS 3 S.w G.b G.p n (EV a).toArray os).heap.size:=by
   simp[sortWorldK,grow,putRowK,Sort.ahead]
  have hb: ∀b,b<S.w.heap.size->(sortWorldK CS 3 S.w G.b G.p n (EV a).toArray os).heap[b]? =if G.b=b then S.w.heap[b]?.map (onCells (putCells id G.p (flatK CS 3 (EV a).toArray))) else S.w.heap[b]? :=by
   intro b hb;have e0:b<(putRowK CS 3 (Sort.ahead S.w n) G.b G.p (EV a).toArray).heap.size:=by simpa[putRowK,Sort.ahead] using hb
   simp only[sortWorldK,grow];rw[ZdG e0];simp only[putRowK,putRow,mapBlock,Sort.ahead,ZdZ]
  refine fin _ ⟨rfl,rfl,rfl,ag,?_,.inl (by simp),?_,?_,?_⟩ ?_
  .intro b bd be;rw[hb b bd,Af (be m _ G (by simp) Q hρ)]
  .intro lo ay;rw[hρ] at ay;obtain rfl:=AD ay;exact⟨Gk an ag,.inr ⟨m,_,G,by simp,Q,hρ,rfl⟩⟩
  .intro f hf;rw[Q] at hf;obtain rfl:=AD hf;exact⟨rfl,rfl,by simp[Ad.len,aq]⟩
  .intro n' f _ ab;rw[Q] at ab;cases ab
  .intro _;rw[hρ];simp only[Av,GZ,aq];refine⟨g1,g2,putCells id G.p (flatK CS 3 (EV a).toArray) cv,?_,by simpa[putCells] using g4,?_⟩
   .simp only[A8.one,A8.hp];rw[hb G.b an,An rfl,O];rfl
   .rw[Ql5];refine⟨(cv.toList.drop (G.p+a.length*3)),?_⟩;apply Kj;intro t;rw[Iq,GX,putCells,ZeL,ah,<-Qvu];by_cases ht:t<a.length*3
    .rw[EB (by rw[am];exact ht),GX,J4 (show G.p+t<cv.size by omega),J4 (by rw[ah];exact ht)];simp only[CQ,id];rw[An ⟨by omega,by omega⟩,uU,getElem!_pos _ _ (by rw[ah];exact ht)]
    .rw[F3 (by rw[am];omega),am,Iq,GX,show G.p+a.length*3+(t - a.length*3)=G.p+t by omega];cases cv[G.p+t]? with
     |none=>rfl
     |some x=>simp only[CQ];rw[Af (by omega)]
end Go.Ae
namespace Go.Ae
open Go.Proofs
def asmOf.fv(a:(List Al)):Ak:=(λl=>⟨EV l⟩) a
def asmOf.row:AB:=vK (b1 (qS Al.d_le Al.c_n)) (rA Ak.d_le) (λa=>(a.map Al.At).Nodup/\a.length<=1000000) asmOf.fv
def asmOf.q:=AT (R:=asmOf.row) rfl
def asmOf.ok:AC Tryz.prog 111 asmOf.row:=by
 refine vw (tC clonC.ok (tC srt.ok tN)) Tryz.func111 rfl (by kernel_rfl) ?_;intro a z;simp only[Tryz.f111];simp(disch:=omega)only[ZA,simprocAttr,asmOf.fv];refine AF.os a [] z.2 (λj=>by simp[Ao,hget]) rfl rfl ?_ ?_
 .simp(disch:=omega)only[ZA,simprocAttr,clonC.ca,CO]
 simp(disch:=omega)only[ZA,simprocAttr,clonC.H1];refine AF.os a [1] z.1 (λj=> ?_) rfl rfl ?_ ?_
 .simp only[Ao,srt.H0,hget];by_cases G:j=0
  .subst G;simp
  .have:(0==j)=false:=by simpa using λh=>G h.symm
   rw[this];simp;omega
 .simp(disch:=omega)only[ZA,simprocAttr,srt.ca,srt.H0,CO];exact⟨rfl,rfl⟩
 simp(disch:=omega)only[ZA,simprocAttr,Ak.d,srt.H1,Dj]
def C6(q:Ab×Int):Al:=⟨q.1,q.2⟩
def Ui(m:ID)(t:List (Ab×Int))(x:Al):Option (List (Ab×Int)):=
 if (m.Labels[x.Tile.toNat]?.getD 0)<0 then some t
 else if (B8 t (dZ x.At m.Scale).1).getD (m.Labels[x.Tile.toNat]?.getD 0)≠(m.Labels[x.Tile.toNat]?.getD 0) then none
 else some (Bf t (dZ x.At m.Scale).1 (m.Labels[x.Tile.toNat]?.getD 0))
def O8{l l':List Al}(hp:l.Perm l')(hd:(l'.map Al.At).Nodup)(p:Ab):l.find? (λx=>decide (x.At=p))=l'.find? (λx=>decide (x.At=p)):=by
 cases h1:l.find? (λx=>decide (x.At=p)) with
 |none=>
  symm;rw[ZP] at h1⊢;exact λx O=>h1 x (hp.mem_iff.2 O)
 |some x=>
  have O:=hp.mem_iff.1 (mE h1);have z:=Rm h1;cases h2:l'.find? (λx=>decide (x.At=p)) with
  |none=>
   rw[ZP] at h2;exact absurd z (h2 x O)
  |some y=>
   have Q:=mE h2;have G:=Rm h2;rw[Rx hd O Q];rw[BK] at z G;rw[z,G]
def Mm(p:Ab): ∀(t:List (Ab×Int)),(((t.map C6).find? (λx=>decide (x.At=p))).map Al.Tile)=B8 t p
 |[]=>rfl
 |(k,w)::r=>by
  simp only[Be,Zel,C6,B8];by_cases h:k=p
  .subst h;simp
  .have z:decide (k=p)=false:=by simpa using h
   have G: ¬p=k:=λO=>h O.symm
   rw[z,Af G];exact Mm p r
def Wa(t:List (Ab×Int)):(t.map C6).map Al.At=t.map Prod.fst:=by simp[C6]
def aO{t:List (Ab×Int)}(hd:(t.map Prod.fst).Nodup)(p:Ab):Bb ⟨EV (t.map C6)⟩ p=(B8 t p).getD (-1):=by
 have z:((t.map C6).map Al.At).Nodup:=by rw[Wa];exact hd
 simp only[Bb];rw[O8 (Zt _) z,Mm]
def lM{t:List (Ab×Int)}{p:Ab}(v:Int)(h:B8 t p=none):Bf t p v=t++[(p,v)]:=by
 induction t with
 |nil=>rfl
 |cons q r ih=>
  obtain⟨k,w⟩:=q;simp only[B8] at h;split at h
  .cases h
  .rename_i hn;simp only[Bf,Af hn,CP];rw[ih h]
def PO{t:List (Ab×Int)}{p:Ab}{v:Int}(h:B8 t p=some v):Bf t p v=t:=by
 induction t with
 |nil=>cases h
 |cons q r ih=>
  obtain⟨k,w⟩:=q;simp only[B8] at h;simp only[Bf];split at h
  .rename_i z;obtain rfl:=AD h;rw[An z,z]
  .rename_i hn;rw[Af hn,ih h]
def Qyz{t:List (Ab×Int)}{p:Ab}(h:B8 t p=none):p∉t.map Prod.fst:=by
 induction t with
 |nil=>simp
 |cons q r ih=>
  obtain⟨k,w⟩:=q;simp only[B8] at h;split at h
  .cases h
  .rename_i hn;simp only[Be,Bk,aC];exact⟨hn,ih h⟩
def VZ{t:List (Ab×Int)}{p:Ab}{v:Int}(h:B8 t p=some v):(p,v)∈t:=by
 induction t with
 |nil=>cases h
 |cons q r ih=>
  obtain⟨k,w⟩:=q;simp only[B8] at h;split at h
  .rename_i z;obtain rfl:=AD h;rw[z];exact BS ..
  .exact BW _ (ih h)
structure RM(t:List (Ab×Int))(o:Ak)(k:Nat):Prop where
 nd:(t.map Prod.fst).Nodup
 pos: ∀q∈t,0<=q.2
 eq:o=⟨EV (t.map C6)⟩
 len:t.length<=k
def RM.step{m:ID}{t:List (Ab×Int)}{o:Ak}{k:Nat}(h:RM t o k)(x:Al):(∃t' o',Ui m t x=some t'/\Ul m o x=some o'/\RM t' o' (k+1))\/(Ui m t x=none/\Ul m o x=none):=by
 obtain⟨nd,pos,rfl,len⟩:=h;simp only[Ui,Ul];generalize m.Labels[x.Tile.toNat]?.getD 0=n;generalize (dZ x.At m.Scale).1=p;by_cases c1:n<0
 .rw[An c1,An c1];exact .inl ⟨_,_,rfl,rfl,nd,pos,rfl,by omega⟩
 rw[Af c1,Af c1,aO nd];cases hq:B8 t p with
 |none=>
  simp only[Option.getD_none];rw[Af (by simp),Af (by omega),An (by omega)];refine .inl ⟨_,_,rfl,rfl,?_,?_,?_,?_⟩
  .rw[lM n hq,GD,VG];refine⟨nd,by simp,?_⟩;intro a Q b hb z;simp only[Be,Hc,BJ] at hb;exact Qyz hq (by rw[<-hb,<-z];exact Q)
  .intro q G;rw[lM n hq] at G;rcases Bv.1 G with G|G
   .exact pos q G
   .simp only[BJ] at G;subst G;simp only;omega
  .rw[WM,lM n hq];congr 1;have Z:(((t++[(p,n)]).map C6).map Al.At).Nodup:=by
    rw[Wa,GD,VG];refine⟨nd,by simp,?_⟩;intro a Q b hb z;simp only[Be,Hc,BJ] at hb;exact Qyz hq (by rw[<-hb,<-z];exact Q)
   refine sZ Z ?_ (Qx3 ⟨p,n⟩ _ (tB _));refine (lQ ⟨p,n⟩ _).trans ?_;rw[GD];refine ((Zt _).cons _).trans ?_;exact (Zer _ _).symm
  .rw[lM n hq];simp;omega
 |some v=>
  simp only[AM];have hv:=pos _ (VZ hq);simp only at hv;by_cases O:v=n
  .subst O;rw[Af (by simp),Af (by simp),Af (by omega),PO hq];exact .inl ⟨_,_,rfl,rfl,nd,pos,rfl,by omega⟩
  .rw[An O,An ⟨hv,O⟩];exact .inr ⟨rfl,rfl⟩
def T3{l:List Al}(h:(l.map Al.At).Nodup): ∀x∈l,∀y∈l,x.At=y.At->x=y:=by
 induction l with
 |nil=>intro x Q;cases Q
 |cons z r ih=>
  simp only[Be,Im] at h;intro x Q y hy e;rcases Bk.1 Q with ex|G<;>rcases Bk.1 hy with Z|O
  .rw[ex,Z]
  .exact absurd (Bt.2 ⟨y,O,by rw[<-e,ex]⟩) h.1
  .exact absurd (Bt.2 ⟨x,G,by rw[e,Z]⟩) h.1
  .exact ih h.2 x G y O e
def NO{s:AA}{a:Ak}(h: ∀x∈a.Tiles,FP s x.Tile)(p:Ab):Bp (λx=>decide (x.At=p)) 0 a.Tiles<0↔Bb a p<0:=by
 simp only[Bb];rcases QS (λx=>decide (x.At=p)) a.Tiles 0 with ⟨z,G⟩|⟨i,x,z,G,O⟩
 .rw[z,G];simp
 .rw[z,G]
  have:=(h x (AZ O)).1
  simp only[CQ,AM];omega
def RM.put{t:List (Ab×Int)}{o:Ak}{k:Nat}(h:RM t o k){p:Ab}{v:Int}(hv:0<=v)(hn:B8 t p=none):RM (Bf t p v) (BT o p v) (k+1):=by
 obtain⟨nd,pos,rfl,len⟩:=h;have G:((t++[(p,v)]).map Prod.fst).Nodup:=by
  rw[GD,VG];refine⟨nd,by simp,?_⟩;intro a Z b hb O;simp only[Be,Hc,BJ] at hb;exact Qyz hn (by rw[<-hb,<-O];exact Z)
 rw[lM v hn];refine⟨G,?_,?_,by simp;omega⟩
 .intro q z;rcases Bv.1 z with z|z
  .exact pos q z
  .simp only[BJ] at z;subst z;exact hv
 .rw[WM];congr 1;have Q:(((t++[(p,v)]).map C6).map Al.At).Nodup:=by rw[Wa];exact G
  refine sZ Q ?_ (Qx3 ⟨p,v⟩ _ (tB _));refine (lQ ⟨p,v⟩ _).trans ?_;rw[GD];refine ((Zt _).cons _).trans ?_;exact (Zer _ _).symm
def RM.at{t:List (Ab×Int)}{o:Ak}{k:Nat}(h:RM t o k):Cp t=Bb o:=by
 funext p;rw[h.eq,aO h.nd];rfl
def RM.size{t:List (Ab×Int)}{o:Ak}{k:Nat}(h:RM t o k):o.Tiles.length=t.length:=by
 rw[h.eq];simp only[oI,GZ]
def oG: ∀(l t:List Al),((t++l).map Al.At).Nodup->l.foldl (λu x=>Bf u x.At x.Tile) (t.map λx=>(x.At,x.Tile))=(t++l).map λx=>(x.At,x.Tile)
 |[],t,_=>by simp
 |x::r,t,h=>by
  have O:B8 (t.map λx=>(x.At,x.Tile)) x.At=none:=by
   cases hq:B8 (t.map λx=>(x.At,x.Tile)) x.At with
   |none=>rfl
   |some v=>
    exfalso;obtain⟨y,Q,G⟩:=Bt.1 (VZ hq);have z:y.At=x.At:=CR Prod.fst G;rw[GD,VG] at h;exact h.2.2 _ (vC Q) _ (vC (BS ..)) z
  rw[fX,lM _ O]
  have:=oG r (t++[x]) (by simpa using h)
  simpa using this
def RM.of{a:Ak}(hf:Dc none a.Tiles=true)(hp: ∀x∈a.Tiles,0<=x.Tile):RM (Ci a.Tiles) a a.Tiles.length:=by
 have hn:=Qix hf;have e:Ci a.Tiles=a.Tiles.map λx=>(x.At,x.Tile):=by
  have:=oG a.Tiles [] (by simpa using hn)
  simpa[Ci] using this
 have G:(a.Tiles.map λx=>(x.At,x.Tile)).map C6=a.Tiles:=by
  rw[Rk];exact List.map_id' _
 rw[e];refine⟨by rw[Rk];exact hn,?_,?_,by simp⟩
 .intro q hq;obtain⟨x,hx,rfl⟩:=Bt.1 hq;exact hp x hx
 .rw[G];have Z:=(kE _ _ hf).2;have hw:a.Tiles.Pairwise (λx y=>Bq y.At x.At=false):=by
   rw[Zdh];intro i j O Q z
   have:=Z i j a.Tiles[i] a.Tiles[j] z (Bj O) (Bj Q)
   simp only[Bq] at this⊢
   grind
  rw[<-sZ hn (fZ _) hw]
def gW{s:Ax}{a:Ak}(h:DM s.Set a)(o:Ap):(Bh o.Tile 0 (s.Set.Tiles.length - 1) && Ik s (Bb a) o.At o.Tile)=Dn s a o:=by
 have z:decide (Bb a o.At<0)=decide (Bp (λx=>decide (x.At=o.At)) 0 a.Tiles<0):=by rw[decide_eq_decide];exact (NO h.2 o.At).symm
 simp only[Ik,Dn,Wk];rw[z];cases E0 o.At<;>cases Bh o.Tile 0 (s.Set.Tiles.length - 1)<;>simp
def Gb(s:Ax):List (Ab×Int)->List Ap->Nat->Ak×Int×Int
 |t,[],_=>(⟨EV (t.map C6)⟩,0,0)
 |t,o::r,i=>if (Bh o.Tile 0 (s.Set.Tiles.length - 1) && Ik s (Cp t) o.At o.Tile)=false then (⟨[]⟩,(i:Int),5) else if 500<=t.length then (⟨[]⟩,0,4) else Gb s (Bf t o.At o.Tile) r (i+1)
def CK(s:Ax):Ak->List Ap->Nat->Ak×Int×Int
 |a,[],_=>(a,0,0)
 |a,o::r,i=>if Dn s a o=false then (⟨[]⟩,(i:Int),5) else if 500<=a.Tiles.length then (⟨[]⟩,0,4) else CK s (BT a o.At o.Tile) r (i+1)
def oH{s:Ax}(hs:s.Set.Tiles.length<=160): ∀(l:List Ap) (t:List (Ab×Int)) (a:Ak) (k i:Nat),RM t a k->DM s.Set a->Gb s t l i=CK s a l i
 |[],t,a,k,i,h,_=>by simp only[Gb,CK,h.eq]
 |o::r,t,a,k,i,h,O=>by
  simp only[Gb,CK];rw[h.at,gW O,<-h.size];by_cases c1:Dn s a o=false
  .rw[An c1,An c1]
  rw[Af c1,Af c1];by_cases z:500<=a.Tiles.length
  .rw[An z,An z]
  rw[Af z,Af z];rw[FU] at c1;simp only[Dn,AR,BK] at c1;obtain⟨d1,G,d3,_⟩:=c1;have aa:=Qma d3;have hv:0<=o.Tile:=by
   simp only[Bh,AR,BK] at G;exact G.1
  have Z:B8 t o.At=none:=by
   have h1:Cp t o.At=Bb a o.At:=congrFun h.at o.At;have h2:=(NO O.2 o.At).1 d3;cases hq:B8 t o.At with
   |none=>rfl
   |some v=>
    exfalso;have h3:=h.pos _ (VZ hq);simp only[Cp,hq,AM] at h1;simp only at h3;omega
  have hw:Bh o.Tile 0 159=true:=by
   simp only[Bh,AR,BK] at G⊢;omega
  refine oH hs r _ _ (k+1) (i+1) (h.put hv Z) ⟨?_,?_⟩
  .rw[WM];exact Qki d1 hw _ none O.1 (λq hq=>by cases hq) aa
  .intro x Q;rw[WM] at Q;rcases (sV _ _ _ _).1 Q with rfl|Q
   .simp only[Bh,AR,BK] at G;exact⟨hv,by simp only;omega⟩
   .exact O.2 x Q
def eqOption.fv(a:Ap×Ap):Bool:=(λa b=>decide (a=b)) (a.1) (a.2)
def eqOption.row:AB:=vK (b2 (qR Ap.d_le) (qR Ap.d_le)) rB (λa=>True) eqOption.fv
def eqOption.q:=AT (R:=eqOption.row) rfl
def eqOption.ok:AC Tryz.prog 57 eqOption.row:=by
 refine vw (tC eqPoint.ok tN) Tryz.func57 rfl (by kernel_rfl) ?_;intro a G;simp only[Tryz.f57];simp(disch:=omega)only[ZA,simprocAttr,eqOption.fv,eqPoint.q,eqPoint.fv];obtain⟨⟨⟨x,y⟩,u⟩,⟨⟨z,w⟩,v⟩⟩:=a;simp only[Ap.mk.injEq,Ab.mk.injEq]
 grind
def l03Own.fv(a:Ak):Ak:=(λa=>a) a
def l03Own.row:AB:=vK (b1 (qP 1 Ak.d_le)) (rA Ak.d_le) (λa=>a.Tiles.length<=1000000) l03Own.fv
def l03Own.q:=AT (R:=l03Own.row) rfl
def l03Own.ok:AC Tryz.prog 72 l03Own.row:=by
 refine vw tN Tryz.func72 rfl (by kernel_rfl) ?_;intro a z;simp only[Tryz.f72];simp(disch:=omega)only[ZA,simprocAttr,Ak.d,l03Own.fv];exact⟨by simp[BB,Bz,D.one,Al.c],by omega⟩
def Qac8{s:Ax}{l:List Ap}{i:Nat}{o:Ap}(z:l[i]? =some o)(b:Ak):CK s b (l.drop i) i=if Dn s b o=false then (⟨[]⟩,(i:Int),5) else if 500<=b.Tiles.length then (⟨[]⟩,0,4) else CK s (BT b o.At o.Tile) (l.drop (i+1)) (i+1):=by
 rw[Fc z,CK]
def QI{s:Ax}{b:Ak}(hs:s.Set.Tiles.length<=160)(Q:DM s.Set b){o:Ap}(h:Dn s b o=true):DM s.Set (BT b o.At o.Tile):=by
 simp only[Dn,AR,BK] at h;obtain⟨Z,O,d3,_⟩:=h;have G:=Qma d3;have hw:Bh o.Tile 0 159=true:=by
  simp only[Bh,AR,BK] at O⊢;omega
 refine⟨?_,?_⟩
 .rw[WM];exact Qki Z hw _ none Q.1 (λq hq=>by cases hq) G
 .intro x z;rw[WM] at z;rcases (sV _ _ _ _).1 z with rfl|z
  .simp only[Bh,AR,BK] at O;exact⟨by simp only;omega,by simp only;omega⟩
  .exact Q.2 x z
def l08Play.fv(a:Ax×(List Ap)):Ak×Int×Int:=(λs l=>CK s s.Seed l 0) (a.1) (a.2)
def l08Play.row:AB:=vK (b2 (qP 4 Ax.d_le) (qS Ap.d_le Ap.c_n)) (r3 (rA Ak.d_le) rI rI) (λa=>BE a.1.Set/\DM a.1.Set a.1.Seed/\a.1.Set.Tiles.length<=160/\a.1.Seed.Tiles.length<=1000000) l08Play.fv
def l08Play.q:=AT (R:=l08Play.row) rfl
def l08Play.ok:AC Tryz.prog 120 l08Play.row:=by
 refine vw (tC l03Own.ok (tC l08Can.ok (tC l08Attach.ok tN))) Tryz.func120 rfl (by kernel_rfl) ?_;intro a G;simp only[Tryz.f120];simp(disch:=omega)only[ZA,simprocAttr,Ak.d,l08Play.fv,l03Own.q,l03Own.fv];obtain⟨s,l⟩:=a;simp only at G⊢;obtain⟨h1,h2,h3,h4⟩:=G;refine⟨h4,?_⟩;refine AQ.old ⟨{k:Nat×Ak//k.1<=l.length/\DM s.Set k.2/\CK s s.Seed l 0=CK s k.2 (l.drop k.1) k.1},λk=>⟨[(8,.im (.int .i64 k.1.1)),(7,.ptr 2 0),(6,.im (.int .i64 0)),(5,.im (.int .i64 0)),(4,.ptr 1 0),(0,.ptr 0 0),(1,.im (.sl false 3 (l.map Ap.c)))],[(2,(true,.cells 39 [.im (.sl false 3 (k.1.2.Tiles.map Al.c))])),(1,(true,.cells 39 [.im (.sl true 0 [])])),(0,(false,.view (Ax.c s)))],3⟩,λk=>l.length - k.1.1,λk=>⟨by simp[Aj.good,Am,Ac,A9,AV.bel,Aq],AP _⟩,⟨⟨(0,s.Seed),by simp[h2]⟩,by simp(disch:=omega)only[ZA,simprocAttr,sub]⟩,λk=> ?_⟩;obtain⟨⟨k,b⟩,aa,O,z⟩:=k;simp only at aa O z;simp(disch:=omega)only[ZA,simprocAttr,Ak.d,l08Can.q,l08Can.fv,l08Attach.q,l08Attach.fv,sub,AO];intro hn;refine⟨λZ=>⟨Z,λx hx=>⟨⟨h1,O⟩,?_⟩⟩,λZ=> ?_⟩
 .rw[Qac8 hx] at z;have e:(E0 x.At && (Bh x.Tile 0 ((s.Set.Tiles.length:Int) - 1) && (decide (Bp (λy=>decide (y.At=x.At)) 0 b.Tiles<0) && decide (s.Temperature<=J0 s.Set b x.At x.Tile 4))))=Dn s b x:=rfl;simp only[e];refine⟨λc1=> ?_,λc1=>⟨Z,λy hy=> ?_⟩⟩
  .rw[z,An c1]
  obtain rfl:x=y:=AD (hx.symm.trans hy);rw[Af c1] at z;by_cases Q:500<=b.Tiles.length
  .have q:Gm b x=(⟨[]⟩,4):=An Q;rw[q,z,An Q];exact⟨λ_=>rfl,λh=>(h (by decide)).elim⟩
  .have q:Gm b x=(BT b x.At x.Tile,0):=Af Q;rw[q];rw[Af Q] at z;rw[FU] at c1;exact⟨λh=>(h rfl).elim,λ_=>⟨⟨(k+1,BT b x.At x.Tile),by simp only;omega,QI h3 O c1,z⟩,by simp only;omega,by rw[AH (by omega) (by omega)];simp only;omega,rfl⟩⟩
 .rw[z,Dl (by omega),CK]
def Cs(s:Ax)(l:List Ap):Ak×Int×Int:=if F2 s=false then (⟨[]⟩,0,1) else if 500<l.length then (⟨[]⟩,0,2) else CK s s.Seed l 0
def Hz{s:Ax}(h:F2 s=true):(BE s.Set/\DM s.Set s.Seed/\s.Set.Tiles.length<=160/\s.Seed.Tiles.length<=1000000)/\Fz s.Set=true/\JW s.Set s.Seed=true:=by
 simp only[F2,AR] at h;obtain⟨z,G,_⟩:=h;have O:=Zu G;have Q:=Qge z;have Z:=z;simp only[Fz,Bh,AR,BK] at Z;exact⟨⟨Q,O.1,by omega,by omega⟩,z,G⟩
def jM{s:Ax}{l:List Ap}(h:(Cs s l).2.2=0):F2 s=true/\l.length<=500:=by
 simp only[Cs] at h;split at h
 .simp at h
 rename_i c1;split at h
 .simp at h
 .rw[FU] at c1;exact⟨c1,by omega⟩
def Qwf{A B:Type}(f:A->B): ∀(l:List A) (i:Nat),(l.map f).eraseIdx i=(l.eraseIdx i).map f
 |[],_=>rfl
 |_::_,0=>rfl
 |x::r,i+1=>by simp only[Be,uS,Qwf f r i]
def Qqq{A:Type}: ∀(l:List A) (i:Nat) (x:A),l[i]? =some x->(x::l.eraseIdx i).Perm l
 |[],i,x,h=>by simp at h
 |y::r,0,x,h=>by
  simp only[G9,AJ] at h;subst h;exact fZ _
 |y::r,i+1,x,h=>by
  rw[HF] at h;rw[uS];exact (List.Perm.swap y x _).trans ((Qqq r i x h).cons y)
def FN(c:Cj)(p:Ab)(t:Int):Cj:=⟨c.Sys,Bf c.Tl p t,Gi c.Sys (Cp (Bf c.Tl p t)) (D4 c.Op p) p 4⟩
def M8{s:AA}{t:List (Ab×Int)}{p:Ab}{v:Int}(h:SH s (Cp t))(z:FP s v):SH s (Cp (Bf t p v)):=by
 intro q hq;simp only[Cp,lX] at hq⊢;by_cases c:q=p
 .rw[An c];exact z
 .rw[Af c] at hq⊢;exact h q hq
def putC.ca(a:Cj×Ab×Int):List AV:=[.ptr 0 0,.im (.agg [.int .i64 a.2.1.X,.int .i64 a.2.1.Y]),.im (.int .i64 a.2.2)]
def putC.H1(a:Cj×Ab×Int):Aw:=[(1,(true,.map ⟨true,[.int .i64,.int .i64]⟩ ((FN a.1 a.2.1 a.2.2).Tl.map DJ))),(2,(true,.map ⟨true,[.int .i64,.int .i64]⟩ ((FN a.1 a.2.1 a.2.2).Op.map CL)))]
def Dq(j:Nat):Bool:=j==1||j==2
def putC.row:AB:=AF putC.ca (λa=>B3 a.1) 3 (λa=>NG a.1/\FB a.2.1/\FP a.1.Sys.Set a.2.2) Dq (λ_=> .im (.tup [])) putC.H1 0
def putC.ok:AC Tryz.prog 156 putC.row:=by
 refine ow (tC lookC.ok tN) Tryz.func156 rfl (by kernel_rfl) (exB:=λ_=>false) (R:=λ_ r=>r= .im (.tup [])) (λ_=>rfl)
  (λa=>by simp[putC.ca,B3,BU,Aq,AV.bel,Ac,A9,BR,Ad.nms,AG,AV.nms,Ao,hget]) (λa p hp=> ?_) (λa r h=>by subst h;exact CJ.refl _) ?_
 rotate_left
 intro a G;simp only[Tryz.f156,putC.ca,B3,BU,putC.H1];simp(disch:=omega)only[ZA,simprocAttr];obtain⟨z,O,Q⟩:=G;rw[Vm,RT];have hq:NG ⟨a.1.Sys,Bf a.1.Tl a.2.1 a.2.2,D4 a.1.Op a.2.1⟩:=⟨z.1,M8 z.2.1 Q,z.2.2⟩;refine AF.os (⟨a.1.Sys,Bf a.1.Tl a.2.1 a.2.2,D4 a.1.Op a.2.1⟩,a.2.1) [0,1,2] ⟨hq,O⟩ (λj=>Ga _ j) rfl rfl ?_ ?_
 .simp(disch:=omega)only[ZA,simprocAttr,DH,B3,BU,lookC.ca,B3,BU]
 .simp(disch:=omega)only[ZA,simprocAttr,DH,Dq,lookC.H1,wQ,FN]
 simp[putC.H1] at hp;rcases hp with rfl|rfl
 .exact .inl ⟨by omega,rfl,rfl⟩
 .exact .inl ⟨by omega,rfl,rfl⟩
def asmC.ca(_:Cj):List AV:=[.ptr 0 0]
def asmC.H1(a:Cj):Aw:=[(1,(false,.map ⟨true,[.int .i64,.int .i64]⟩ (a.Tl.map DJ)))]
def mT(j:Nat):Bool:=j==1
def rF{t:List (Ab×Int)}{l:List Al}(hd:(t.map Prod.fst).Nodup)(h:l.Perm (t.map C6)):EV l=EV (t.map C6)/\(l.map Al.At).Nodup/\l.length=t.length:=by
 have z:((t.map C6).map Al.At).Nodup:=by rw[Wa];exact hd
 refine⟨sZ z ((Zt l).trans h) (tB l),(h.map Al.At).nodup_iff.2 z,by rw[h.length_eq,GZ]⟩
def IG(t:List (Ab×Int)):Ak:=⟨EV (t.map C6)⟩
def asmC.row:AB:=AF asmC.ca B3 3 (λa=>(a.Tl.map Prod.fst).Nodup/\a.Tl.length<=100000) mT (λa=> .im (.agg (Ak.c (IG a.Tl)))) asmC.H1 0
def asmC.ok:AC Tryz.prog 56 asmC.row:=by
 refine ow (tC asmOf.ok tN) Tryz.func56 rfl (by kernel_rfl) (exB:=λ_=>false) (R:=λa r=>r= .im (.agg (Ak.c (IG a.Tl)))) (λ_=>rfl)
  (λa=>by simp[asmC.ca,B3,BU,Aq,AV.bel,Ac,A9,BR,Ad.nms,AG,AV.nms,Ao,hget]) (λa p hp=> ?_) (λa r h=>by subst h;exact CJ.refl _) ?_
 rotate_left
 intro a G;simp only[Tryz.f56,asmC.ca,B3,BU,asmC.H1];simp(disch:=omega)only[ZA,simprocAttr];obtain⟨ab,af⟩:=G;refine AQ.ren ⟨{s:Option (D×D)×List (Ab×Int)×List Al//(s.2.2++s.2.1.map C6).Perm (a.Tl.map C6)},λs=>⟨[(10,.it 5),(3,.own 6),(2,.ptr 3 0),(0,.ptr 0 0)],[(6,(true,.arr 137 3 (s.1.2.2.map Al.c))),(5,(true,.iter s.1.1 (s.1.2.1.map DJ))),(3,(true,.cells 39 [.im (.sl true 0 [])])),(0,(true,.cells 155 (BU a.Sys))),(1,(false,.map ⟨true,[.int .i64,.int .i64]⟩ (a.Tl.map DJ))),(2,(true,.map ⟨true,[.int .i64,.int .i64]⟩ (a.Op.map CL)))],7⟩,λs=>s.1.2.1.length,λs=>⟨by simp[Aj.good,Am,Ac,A9,AV.bel,Aq,BU],by simp⟩,⟨⟨(none,a.Tl,[]),by simp⟩,[(6,some 4)],?_⟩,λs=> ?_⟩
 .simp only[Az,BU];simp(disch:=omega)only[ZA,simprocAttr]
  try simp
 obtain⟨⟨ad,left,z⟩,O⟩:=s;simp only at O;simp only[BU];simp(disch:=omega)only[ZA,simprocAttr,asmOf.q,asmOf.fv,mT];refine⟨λhl=> ?_,λi p hp=> ?_⟩
 .have aa:left=[]:=by simpa using hl
  subst aa;rw[Hc,D2] at O;obtain⟨r1,r2,r3⟩:=rF ab O;exact⟨⟨r2,by omega⟩,by simp only[IG,r1]⟩
 .rw[D1] at hp;cases hq:left[i]? with
  |none=>rw[hq] at hp;cases hp
  |some q=>
   rw[hq] at hp;obtain rfl:=AD hp;obtain⟨⟨Z,qy⟩,Q⟩:=q;simp only[DJ,Ab.c];simp(disch:=omega)only[ZA,simprocAttr,Jt,Dj,EI];have hi:i<left.length:=by
    rcases Fh i left.length with h|h
    .exact h
    .rw[FE h] at hq;cases hq
   have ac:((⟨Z,qy⟩,Q)::left.eraseIdx i).Perm left:=Qqq _ _ _ hq;have hP:((z++[(⟨⟨Z,qy⟩,Q⟩:Al)])++(left.eraseIdx i).map C6).Perm (a.Tl.map C6):=by
    rw[Hr];refine (ZeO z ?_).trans O;exact ac.map C6
   have hcl:z.length<=a.Tl.length:=by
    have r3:=O.length_eq;simp at r3;omega
   refine⟨by omega,⟨⟨(some (D.agg [.int .i64 Z,.int .i64 qy],D.int .i64 Q),left.eraseIdx i,z++[(⟨⟨Z,qy⟩,Q⟩:Al)]),hP⟩,[(6,some 9)],?_,?_⟩⟩
   .simp only[Zee];rw[An hi];omega
   .simp only[Az];simp(disch:=omega)only[ZA,simprocAttr];simp[Al.c,Qwf]
 simp[asmC.H1] at hp;subst hp;exact .inl ⟨by omega,rfl,rfl⟩
def Jm(s:Ax)(l:List Ap):Ak×Int×Int:=if eM s=false then (⟨[]⟩,0,1) else if 500<l.length then (⟨[]⟩,0,2) else Gb s (Ci s.Seed.Tiles) l 0
def bL{β:Type}(p:Ab)(v:β): ∀(t:List (Ab×β)),(t.map Prod.fst).Nodup->((Bf t p v).map Prod.fst).Nodup/\(∀q,q∈(Bf t p v).map Prod.fst->q=p\/q∈t.map Prod.fst)/\(Bf t p v).length<=t.length+1
 |[],_=>by simp[Bf]
 |(k,w)::r,h=>by
  rw[Be,Im] at h;simp only[Bf];by_cases c:p=k
  .subst c;rw[An rfl];refine⟨by rw[Be,Im];exact h,λq hq=> .inr hq,by simp⟩
  .rw[Af c];obtain⟨O,G,Q⟩:=bL p v r h.2;refine⟨?_,?_,by simp only[CM];omega⟩
   .rw[Be,Im];refine⟨λz=> ?_,O⟩;rcases G _ z with z|z
    .exact c z.symm
    .exact h.1 z
   .intro q hq;rw[Be] at hq⊢;rcases Bk.1 hq with rfl|hq
    .exact .inr (BS ..)
    .rcases G _ hq with hq|hq
     .exact .inl hq
     .exact .inr (BW _ hq)
def PI(l:List Al):((Ci l).map Prod.fst).Nodup/\(Ci l).length<=l.length:=by
 have z: ∀(l:List Al) (t:List (Ab×Int)),(t.map Prod.fst).Nodup->((l.foldl (λt x=>Bf t x.At x.Tile) t).map Prod.fst).Nodup/\(l.foldl (λt x=>Bf t x.At x.Tile) t).length<=t.length+l.length:=by
  intro l;induction l with
  |nil=>intro t h;exact⟨h,by simp⟩
  |cons x r ih=>
   intro t h;obtain⟨G,_,Z⟩:=bL x.At x.Tile t h;obtain⟨O,Q⟩:=ih _ G;exact⟨O,by simp only[fX,CM] at Q⊢;omega⟩
 have:=z l [] (by simp)
 exact⟨this.1,by simpa[Ci] using this.2⟩
def Qac7{s:Ax}{l:List Ap}{i:Nat}{o:Ap}(z:l[i]? =some o)(t:List (Ab×Int)):Gb s t (l.drop i) i=if (Bh o.Tile 0 (s.Set.Tiles.length - 1) && Ik s (Cp t) o.At o.Tile)=false then (⟨[]⟩,(i:Int),5) else if 500<=t.length then (⟨[]⟩,0,4) else Gb s (Bf t o.At o.Tile) (l.drop (i+1)) (i+1):=by
 rw[Fc z,Gb]
def PlayI_.fv(a:Ax×(List Ap)):Ak×Int×Int:=(Jm) (a.1) (a.2)
def PlayI_.row:AB:=vK (b2 (qR Ax.d_le) (qS Ap.d_le Ap.c_n)) (r3 (rA Ak.d_le) rI rI) (λa=>QT a.1.Set) PlayI_.fv
def PlayI_.q:=AT (R:=PlayI_.row) rfl
def PlayI_.ok:AC Tryz.prog 212 PlayI_.row:=by
 refine vw (tC validI_.ok (tC newC.ok (tC isTile.ok (tC fitsC.ok (tC putC.ok (tC asmC.ok tN)))))) Tryz.func212 rfl (by kernel_rfl) ?_;intro a O;simp only[Tryz.f212];simp(disch:=omega)only[ZA,simprocAttr,Ak.d,C8,PlayI_.fv,validI_.q,validI_.fv];obtain⟨s,l⟩:=a;simp only at O⊢;refine⟨O,?_⟩;by_cases c1:eM s=false
 .rw[An c1];simp only[Jm];rw[An c1]
 rw[Af c1];intro _;by_cases c2:500<l.length
 .rw[An (by omega)];simp only[Jm];rw[Af c1,An c2]
 rw[Af (by omega)];have eR:Jm s l=Gb s (Ci s.Seed.Tiles) l 0:=by simp only[Jm];rw[Af c1,Af c2]
 rw[FU,bM] at c1;obtain⟨⟨q1,q2,q3,_⟩,q5,q6⟩:=Hz c1;have af:=tL (s:=s.Set) (a:=s.Seed) (by rw[q5,q6];rfl);have ad:newC.pre (s,s.Seed):=⟨q1,by simp only;omega,λy hy=>⟨q2.2 y hy,af.1.2.2.2 y hy⟩⟩;have ag:=O2 ad;have ac:=PI s.Seed.Tiles;refine AF.os (s,s.Seed) [] ad (λj=>by simp[Ao,hget]) rfl rfl ?_ ?_
 .simp(disch:=omega)only[ZA,simprocAttr,newC.ca,CO,Ax.c,Ak.c]
 simp(disch:=omega)only[ZA,simprocAttr,newC.H1];intro _;refine AQ.old ⟨{k:Nat×List (Ab×Int)×List (Ab×List Int)//k.1<=l.length/\SH s.Set (Cp k.2.1)/\(k.2.1.map Prod.fst).Nodup/\k.2.1.length<=1000/\Jm s l=Gb s k.2.1 (l.drop k.1) k.1},λk=>⟨[(26,.im (.int .i64 k.1.1)),(25,.im (.int .i64 l.length)),(24,.im (.sl false 3 (l.map Ap.c))),(7,.ptr 6 0),(6,.im (.int .i64 0)),(5,.im (.int .i64 0)),(4,.ptr 1 0),(2,.ptr 0 0)],[(6,(true,.cells 155 [.im (.sl false 2 (s.Set.Glues.map Ar.c)),.im (.sl false 2 (s.Set.Tiles.map Tile.c)),.im (.sl false 3 (s.Seed.Tiles.map Al.c)),.im (.int .i64 s.Temperature),.mp 4,.mp 5])),
  (4,(true,.map ⟨true,[.int .i64,.int .i64]⟩ (k.1.2.1.map DJ))),(5,(true,.map ⟨true,[.int .i64,.int .i64]⟩ (k.1.2.2.map CL))),(1,(true,.cells 39 [.im (.sl true 0 [])])),(0,(true,.cells 47 ((Ax.c s).map .im)))],7⟩,λk=>l.length - k.1.1,λk=>⟨by simp[Aj.good,Am,Ac,A9,AV.bel,Aq,Ax.c],by simp⟩,⟨⟨(0,(Kf s s.Seed).Tl,(Kf s s.Seed).Op),by simp only;exact⟨Cx _,ag.2.1,ac.1,D3 ac.2 (by omega),eR⟩⟩,by simp(disch:=omega)only[ZA,simprocAttr,sub]⟩,λk=> ?_⟩
 obtain⟨⟨k,tl,op⟩,ai,G,aa,aj,z⟩:=k;simp only at ai G aa aj z;simp(disch:=omega)only[ZA,simprocAttr,Ak.d,C8,isTile.q,isTile.fv,fitsC.q,fitsC.fv,AO];refine⟨λhk=>⟨hk,λx hx=> ?_⟩,λhk=> ?_⟩
 .rw[Qac7 hx] at z;by_cases Q:Bh x.Tile 0 ((s.Set.Tiles.length:Int) - 1)=true
  case neg=>
   refine⟨λh=>(Q h).elim,λ_=> ?_⟩;rw[Lq] at Q;rw[z,Q,F5,An rfl]
  refine⟨λ_=> ?_,λh=>(h Q).elim⟩;have ab:FP s.Set x.Tile:=by
   simp only[Bh,AR,BK] at Q;exact⟨Q.1,by omega⟩
  rw[Q,DZ] at z;refine⟨⟨q1,G,ab⟩,λZ=> ?_,λZ=>⟨λd3=> ?_,λd3=> ?_⟩⟩
  .rw[z,An Z]
  .rw[z,Af Z,An (by omega)]
  .rw[Af Z,Af (by omega)] at z;have ak:FB x.At:=by
    rw[FU] at Z;simp only[Ik,AR] at Z;exact Z9 Z.1
   have ah:NG ⟨s,tl,op⟩:=⟨q1,G,by simp only;omega⟩;obtain⟨u1,_,u3⟩:=bL x.At x.Tile tl aa;refine AF.os (⟨s,tl,op⟩,x.At,x.Tile) [6,4,5] ⟨ah,ak,ab⟩ (λj=>Ga _ j) rfl rfl ?_ ?_
   .simp(disch:=omega)only[ZA,simprocAttr,putC.ca,B3,BU,Dj,EI]
   .simp(disch:=omega)only[ZA,simprocAttr,putC.H1,Dq,sub,FN,Dj,EI];exact⟨⟨(k+1,Bf tl x.At x.Tile,Gi s (Cp (Bf tl x.At x.Tile)) (D4 op x.At) x.At 4),by simp only;exact⟨by omega,M8 G ab,u1,by omega,z⟩⟩,by simp only;omega,by rw[AH (by omega) (by omega)];simp only;omega,rfl,rfl⟩
 .rw[Dl (by omega),Gb] at z;refine AF.os ⟨s,tl,op⟩ [6,4,5] ⟨aa,by simp only;omega⟩ (λj=>Ga _ j) rfl rfl ?_ ?_
  .simp(disch:=omega)only[ZA,simprocAttr,asmC.ca,B3,BU,Dj,EI]
  .simp(disch:=omega)only[ZA,simprocAttr,Ak.d,asmC.H1,mT,IG,Dj,EI];rw[z]
end Go.Ae
namespace Go.Ae
end Go.Ae
namespace Go.Ae
open Go.Proofs
def YJ(s:Ax)(l:List Ap):Jm s l=Cs s l:=by
 simp only[Jm,Cs,bM];by_cases c1:F2 s=false
 .rw[An c1,An c1]
 rw[Af c1,Af c1];rw[FU] at c1;obtain⟨⟨q1,z,O,_⟩,_⟩:=Hz c1;rw[oH O l (Ci s.Seed.Tiles) s.Seed s.Seed.Tiles.length 0 (RM.of z.1 (λx G=>(z.2 x G).1)) z]
def DT(s:AA)(f:Ab->Int)(p:Ab)(t:Int):Nat->Int
 |0=>0
 |k+1=>DT s f p t k+(if 0<Gj s f p t k then 2^k else 0)
def cG(s:AA)(f:Ab->Int)(p:Ab)(t:Int): ∀k,0<=DT s f p t k/\DT s f p t k<2^k
 |0=>by simp[DT]
 |k+1=>by
  have:=cG s f p t k
  have e:(2:Int)^(k+1)=2^k*2:=Int.pow_succ ..;simp only[DT]
  split<;>omega
def AX:Ak->List Ap->Ak
 |b,[]=>b
 |b,o::r=>AX (BT b o.At o.Tile) r
def Wg: ∀(l:List Ap) (b:Ak) (o:Ap),AX b (l++[o])=BT (AX b l) o.At o.Tile
 |[],_,_=>rfl
 |x::r,b,o=>by simp only[CP,AX,Wg r]
def CD(s:Ax):Ak->List Ap->List Int
 |_,[]=>[]
 |b,o::r=>DT s.Set (Bb b) o.At o.Tile 4::CD s (BT b o.At o.Tile) r
def C9(s:Ax):Ak->List Ap->List Int
 |_,[]=>[]
 |b,o::r=>C4 s.Set (Bb b) o.At o.Tile 4::C9 s (BT b o.At o.Tile) r
def bQ(s:Ax): ∀(l:List Ap) (b:Ak) (o:Ap),CD s b (l++[o])=CD s b l++[DT s.Set (Bb (AX b l)) o.At o.Tile 4]
 |[],_,_=>rfl
 |x::r,b,o=>by simp only[CP,CD,bQ s r,AX]
def bR(s:Ax): ∀(l:List Ap) (b:Ak) (o:Ap),C9 s b (l++[o])=C9 s b l++[C4 s.Set (Bb (AX b l)) o.At o.Tile 4]
 |[],_,_=>rfl
 |x::r,b,o=>by simp only[CP,C9,bR s r,AX]
def Q9(s:Ax): ∀(l:List Ap) (b:Ak),(CD s b l).length=l.length
 |[],_=>rfl
 |x::r,b=>by simp only[CD,CM,Q9 s r]
def QA(s:Ax): ∀(l:List Ap) (b:Ak),(C9 s b l).length=l.length
 |[],_=>rfl
 |x::r,b=>by simp only[C9,CM,QA s r]
def JN(s:Ax)(b:Ak)(l:List Ap):Prop:= ∀k o,l[k]? =some o->Dn s (AX b (l.take k)) o=true/\(AX b (l.take k)).Tiles.length<500
def oQ{s:Ax}: ∀(l:List Ap) (b:Ak) (i:Nat),(CK s b l i).2.2=0->CK s b l i=(AX b l,0,0)/\JN s b l
 |[],b,i,_=>⟨rfl,λk o h=>by simp at h⟩
 |x::r,b,i,h=>by
  simp only[CK] at h⊢;by_cases c1:Dn s b x=false
  .rw[An c1] at h;simp at h
  rw[Af c1] at h⊢;by_cases G:500<=b.Tiles.length
  .rw[An G] at h;simp at h
  rw[Af G] at h⊢;obtain⟨O,Q⟩:=oQ r _ _ h;refine⟨O,λk o z=> ?_⟩;cases k with
  |zero=>
   simp only[G9,AJ] at z;subst z;rw[FU] at c1;exact⟨by simpa[AX] using c1,by simp only[Rn,AX];omega⟩
  |succ k=>
   rw[HF] at z;simp only[Ln,AX];exact Q k o z
def JP{s:Ax}(hs:s.Set.Tiles.length<=160){b:Ak}(hb:DM s.Set b){l:List Ap}(h:JN s b l): ∀k,k<=l.length->DM s.Set (AX b (l.take k))
 |0,_=>by simpa[AX] using hb
 |k+1,z=>by
  obtain⟨o,ho⟩: ∃o,l[k]? =some o:=⟨_,Bj (by omega)⟩;rw[Ll ho,Wg];exact QI hs (JP hs hb h k (by omega)) (h k o ho).1
def GI{s:Ax}{b:Ak}{o:Ap}(h:Dn s b o=true):E0 o.At=true/\FB o.At/\0<=o.Tile/\o.Tile<s.Set.Tiles.length/\FP s.Set o.Tile/\(∀x∈b.Tiles,x.At≠o.At):=by
 simp only[Dn,AR,BK] at h;obtain⟨G,z,O,_⟩:=h;simp only[Bh,AR,BK] at z;exact⟨G,Z9 G,z.1,by omega,⟨z.1,by omega⟩,Qma O⟩
def Ep(m d:Int):Bool:=decide (Om .i64 (m.fdiv (2^min d.toNat 64)) 1=1)
def BN(b:Bool)(k:Nat):Int:=if b=true then 2^k else 0
def SD: ∀z b1 b2 b3:Bool,Ep (0+BN z 0+BN b1 1+BN b2 2+BN b3 3) 0=z/\Ep (0+BN z 0+BN b1 1+BN b2 2+BN b3 3) 1=b1/\Ep (0+BN z 0+BN b1 1+BN b2 2+BN b3 3) 2=b2/\Ep (0+BN z 0+BN b1 1+BN b2 2+BN b3 3) 3=b3:=by
 intro z b1 b2 b3;cases z<;>cases b1<;>cases b2<;>cases b3<;>decide
def TJ{m:Int}{k:Nat}(G:k<4)(h0:0<=m)(z:m<2^k):orI .i64 m (2^k)=m+2^k:=by
 rcases (by omega:k=0\/k=1\/k=2\/k=3) with rfl|rfl|rfl|rfl
 .obtain rfl:m=0:=by omega
  decide
 .rcases (by omega:m=0\/m=1) with rfl|rfl<;>decide
 .rcases (by omega:m=0\/m=1\/m=2\/m=3) with rfl|rfl|rfl|rfl<;>decide
 .rcases (by omega:m=0\/m=1\/m=2\/m=3\/m=4\/m=5\/m=6\/m=7) with rfl|rfl|rfl|rfl|rfl|rfl|rfl|rfl<;>decide
def EM(l:List Ap)(q:Ab):Int:=Bp (λo:Ap=>decide (o.At=q)) 0 l
def dH{l:List Ap}(hd:(l.map Ap.At).Nodup){q:Ab}{k:Nat}(h:l[k]?.map Ap.At=some q):EM l q=k:=by
 rcases QS (λo:Ap=>decide (o.At=q)) l 0 with ⟨z,O⟩|⟨i,x,z,O,h3⟩
 .exfalso;cases hx:l[k]? with
  |none=>rw[hx] at h;cases h
  |some y=>
   rw[hx] at h
   have:=ZP.1 z y (AZ hx)
   simp at this h;exact this h
 .have G:x.At=q:=by simpa using Rm z
  simp only[EM,O]
  have:i=k:=by
   have Q:(l.map Ap.At)[i]? =some q:=by rw[D1,h3];simp[G]
   have Z:(l.map Ap.At)[k]? =some q:=by rw[D1];exact h
   obtain⟨g1,f1⟩:=Cd.1 Q;obtain⟨g2,f2⟩:=Cd.1 Z;exact (List.getElem_inj hd).1 (f1.trans f2.symm)
  omega
def Ma{l:List Ap}{q:Ab}{k:Int}(h:EM l q=k)(h0:0<=k):l[k.toNat]?.map Ap.At=some q:=by
 rcases QS (λo:Ap=>decide (o.At=q)) l 0 with ⟨O,z⟩|⟨i,x,O,z,Q⟩
 .simp only[EM,z] at h;omega
 .have G:x.At=q:=by simpa using Rm O
  simp only[EM,z] at h;rw[show k.toNat=i by omega,Q];simp[G]
def bZ{x:Al}: ∀(l:List Ap) (b:Ak),x∈(AX b l).Tiles↔x∈b.Tiles\/ ∃o∈l,x=⟨o.At,o.Tile⟩
 |[],b=>by simp[AX]
 |o::r,b=>by
  simp only[AX,bZ r,WM,sV,Bk];constructor
  .rintro ((h|h)|⟨y,z,h⟩)
   .exact .inr ⟨o,.inl rfl,h⟩
   .exact .inl h
   .exact .inr ⟨y,.inr z,h⟩
  .rintro (h|⟨y,rfl|z,h⟩)
   .exact .inl (.inr h)
   .exact .inl (.inl h)
   .exact .inr ⟨y,z,h⟩
def oV{s:Ax}{b:Ak}{l:List Ap}(h:JN s b l):(l.map Ap.At).Nodup:=by
 rw[ZdI,List.pairwise_map,Zdh];intro i j Q Z G z;have O:=(GI (h j l[j] (Bj Z)).1).2.2.2.2.2;refine O ⟨l[i].At,l[i].Tile⟩ ?_ z;rw[bZ];refine .inr ⟨l[i],?_,rfl⟩;rw[Kl];exact⟨i,by rw[ZdP G];exact Bj Q⟩
def gG{a:Ak}{q:Ab}(h:0<=Bb a q): ∃x∈a.Tiles,x.At=q:=by
 simp only[Bb] at h;cases hf:a.Tiles.find? (λx=>decide (x.At=q)) with
 |none=>rw[hf] at h;simp at h
 |some x=>exact⟨x,mE hf,by simpa using Rm hf⟩
def FJ{A:Type}(l:List A):Option (List A):=if l=[] then none else some l
abbrev Ee(s:Ax)(f:Ab->Int)(q:Ab):List Int:=Gh s f q s.Set.Tiles.length
def JI(s:Ax)(f:Ab->Int)(op:List (Ab×List Int)):Prop:=(op.map Prod.fst).Nodup/\ ∀q,B8 op q=FJ (Ee s f q)
def Wq{s:Ax}{f:Ab->Int}{q:Ab}(h: ∀k:Int,Ik s f q k=false): ∀n,Gh s f q n=[]
 |0=>rfl
 |n+1=>by simp only[Gh,Wq h n,h,Hb];rfl
def qA{s:Ax}{f:Ab->Int}{q:Ab}(h:0<=f q)(n:Nat):Gh s f q n=[]:=
 Wq (λk=>by simp only[Ik];rw[ZY (show ¬f q<0 by omega)];simp) n
def pM{s:AA}{f:Ab->Int}{q:Ab}{t:Int}(h: ∀d:Nat,d<4->f (Bs q d)<0): ∀k,k<=4->C4 s f q t k=0
 |0,_=>rfl
 |k+1,z=>by
  have:=h k (by omega)
  simp only[C4,pM h k (by omega),Gj];rw[Af (by omega)];rfl
def pL{s:Ax}{f:Ab->Int}{q:Ab}(z:1<=s.Temperature)(h: ∀d:Nat,d<4->f (Bs q d)<0)(n:Nat):Gh s f q n=[]:=
 Wq (λk=>by simp only[Ik,pM h 4 (AP _)];rw[ZY (show ¬s.Temperature<=0 by omega)];simp) n
def pX{s:AA}{f g:Ab->Int}{q:Ab}{t:Int}(h: ∀d:Nat,d<4->f (Bs q d)=g (Bs q d)): ∀k,k<=4->C4 s f q t k=C4 s g q t k
 |0,_=>rfl
 |k+1,z=>by simp only[C4,pX h k (by omega),Gj,h k (by omega)]
def pW{s:Ax}{f g:Ab->Int}{q:Ab}(h0:f q=g q)(h: ∀d:Nat,d<4->f (Bs q d)=g (Bs q d)): ∀n,Gh s f q n=Gh s g q n
 |0=>rfl
 |n+1=>by
  have e:Ik s f q n=Ik s g q n:=by simp only[Ik,h0,pX h 4 (AP _)]
  simp only[Gh,pW h0 h n,e]
def K4{β:Type}{p:Ab}: ∀{l:List (Ab×β)},p∉l.map Prod.fst->B8 l p=none
 |[],_=>rfl
 |(k,v)::r,h=>by
  simp only[Be,Bk,aC] at h;simp only[B8];rw[Af h.1,K4 h.2]
def pJ{β:Type}{p:Ab}: ∀{l:List (Ab×β)},p∈l.map Prod.fst-> ∃v,B8 l p=some v/\(p,v)∈l
 |[],h=>by simp at h
 |(k,v)::r,h=>by
  simp only[B8];by_cases c:p=k
  .rw[An c,c];exact⟨v,rfl,BS ..⟩
  .rw[Af c];obtain⟨w,z,G⟩:=pJ (l:=r) (by simpa[c] using h);exact⟨w,z,BW _ G⟩
def iK{β:Type}{p:Ab}{l:List (Ab×β)}:p∈l.map Prod.fst↔B8 l p≠none:=by
 constructor
 .intro h;obtain⟨v,z,_⟩:=pJ h;rw[z];simp
 .intro h;apply fO;intro G;exact h (K4 G)
def pH{β:Type}{p q:Ab}: ∀{l:List (Ab×β)},q∈(D4 l p).map Prod.fst->q∈l.map Prod.fst
 |[],h=>by simp[D4] at h
 |(k,v)::r,h=>by
  simp only[D4] at h;split at h
  .exact BW _ h
  .simp only[Be,Bk] at h⊢;rcases h with h|h
   .exact .inl h
   .exact .inr (pH h)
def dC{β:Type}{p:Ab}: ∀{l:List (Ab×β)},(l.map Prod.fst).Nodup->((D4 l p).map Prod.fst).Nodup
 |[],h=>h
 |(k,v)::r,h=>by
  simp only[Be,Im] at h;simp only[D4];split
  .exact h.2
  .simp only[Be,Im];exact⟨λz=>h.1 (pH z),dC h.2⟩
def dA{β:Type}{p:Ab}(q:Ab): ∀{l:List (Ab×β)},(l.map Prod.fst).Nodup->B8 (D4 l p) q=if q=p then none else B8 l q
 |[],_=>by simp[D4,B8]
 |(k,v)::r,h=>by
  simp only[Be,Im] at h;simp only[D4];by_cases c:p=k
  .rw[An c];by_cases e:q=p
   .rw[An e,e,c];exact K4 h.1
   .rw[Af e];simp only[B8];rw[Af (λz=>e (z.trans c.symm))]
  .rw[Af c];simp only[B8];by_cases e:q=k
   .rw[An e,An e,Af (λz=>c (z.symm.trans e))]
   .rw[Af e,Af e,dA q h.2]
def Nu{β:Type}{p q:Ab}{v:β}: ∀{l:List (Ab×β)},q∈(Bf l p v).map Prod.fst↔q=p\/q∈l.map Prod.fst
 |[]=>by simp[Bf]
 |(k,w)::r=>by
  simp only[Bf];split
  .rename_i c;subst c;simp
  .simp only[Be,Bk,Nu (l:=r)];constructor
   .rintro (h|h|h)
    .exact .inr (.inl h)
    .exact .inl h
    .exact .inr (.inr h)
   .rintro (h|h|h)
    .exact .inr (.inl h)
    .exact .inl h
    .exact .inr (.inr h)
def pI{β:Type}{p:Ab}{v:β}: ∀{l:List (Ab×β)},(l.map Prod.fst).Nodup->((Bf l p v).map Prod.fst).Nodup
 |[],_=>by simp[Bf]
 |(k,w)::r,h=>by
  simp only[Be,Im] at h;simp only[Bf];split
  .rename_i c;subst c;simp only[Be,Im];exact h
  .rename_i c;simp only[Be,Im];refine⟨λz=> ?_,pI h.2⟩;rcases Nu.1 z with e|e
   .exact c e.symm
   .exact h.1 e
def Tg{s:Ax}{f:Ab->Int}{op:List (Ab×List Int)}{q:Ab}(h:(op.map Prod.fst).Nodup):((JT s f op q).map Prod.fst).Nodup:=by
 simp only[JT];split
 .exact dC h
 .exact pI h
def Tf{s:Ax}{f:Ab->Int}{op:List (Ab×List Int)}{p:Ab}(h:(op.map Prod.fst).Nodup)(q:Ab):B8 (JT s f op p) q=if q=p then FJ (Ee s f q) else B8 op q:=by
 simp only[JT];by_cases c:Gh s f p s.Set.Tiles.length=[]
 .rw[An c,dA q h];by_cases e:q=p
  .subst e;rw[An rfl,An rfl,FJ,An c]
  .rw[Af e,Af e]
 .rw[Af c,lX];by_cases e:q=p
  .subst e;rw[An rfl,An rfl,FJ,Af c]
  .rw[Af e,Af e]
def Ww{s:Ax}{f:Ab->Int}{op:List (Ab×List Int)}{p:Ab}(h:(op.map Prod.fst).Nodup): ∀k,((Gi s f op p k).map Prod.fst).Nodup
 |0=>h
 |k+1=>Tg (Ww h k)
def JS(p q:Ab):Prop:= ∃d:Nat,d<4/\Bs p d=q
def pR{s:Ax}{f:Ab->Int}{op:List (Ab×List Int)}{p:Ab}(h:(op.map Prod.fst).Nodup)(q:Ab): ∀k,(∀d:Nat,d<k->Bs p d≠q)/\B8 (Gi s f op p k) q=B8 op q\/(∃d:Nat,d<k/\Bs p d=q)/\B8 (Gi s f op p k) q=FJ (Ee s f q)
 |0=> .inl ⟨λd hd=>absurd hd (by omega),rfl⟩
 |k+1=>by
  have ih:=pR (s:=s) (f:=f) (p:=p) h q k;simp only[Gi,Tf (Ww h k)];by_cases c:q=Bs p k
  .rw[An c];exact .inr ⟨⟨k,by omega,c.symm⟩,rfl⟩
  .rw[Af c];rcases ih with ⟨G,z⟩|⟨⟨d,G,z⟩,O⟩
   .refine .inl ⟨λd hd=> ?_,z⟩;by_cases e:d=k
    .subst e;exact λh=>c h.symm
    .exact G d (by omega)
   .exact .inr ⟨⟨d,by omega,z⟩,O⟩
def aS{s:Ax}{f:Ab->Int}{op:List (Ab×List Int)}{p:Ab}(h:(op.map Prod.fst).Nodup)(q:Ab):(¬JS p q/\B8 (Gi s f op p 4) q=B8 op q)\/(JS p q/\B8 (Gi s f op p 4) q=FJ (Ee s f q)):=by
 rcases pR (s:=s) (f:=f) h q 4 with ⟨z,G⟩|h
 .exact .inl ⟨λ⟨d,hd,e⟩=>z d hd e,G⟩
 .exact .inr h
def PE(p:Ab){d:Nat}(h:d<4):Bs (Bs p d) ((d+2) % 4:Nat)=p:=by
 rcases (by omega:d=0\/d=1\/d=2\/d=3) with rfl|rfl|rfl|rfl<;>simp[Bs]<;>omega
def cU{p q:Ab}(h:JS p q):JS q p:=by
 obtain⟨d,hd,rfl⟩:=h;exact⟨(d+2) % 4,by omega,PE p hd⟩
def cN{s:Ax}{f:Ab->Int}(q:Ab): ∀(l:List Al) (op:List (Ab×List Int)),(op.map Prod.fst).Nodup->
 ((l.foldl (λo x=>Gi s f o x.At 4) op).map Prod.fst).Nodup/\((∀x∈l,¬JS x.At q)/\B8 (l.foldl (λo x=>Gi s f o x.At 4) op) q=B8 op q\/(∃x∈l,JS x.At q)/\B8 (l.foldl (λo x=>Gi s f o x.At 4) op) q=FJ (Ee s f q))
 |[],op,h=>⟨h,.inl ⟨by simp,rfl⟩⟩
 |x::r,op,h=>by
  simp only[fX];obtain⟨G,O⟩:=cN (s:=s) (f:=f) q r (Gi s f op x.At 4) (Ww h 4);refine⟨G,?_⟩;rcases O with ⟨a,b⟩|⟨⟨y,z,a⟩,b⟩
  .rcases aS (s:=s) (f:=f) (p:=x.At) h q with ⟨c,e⟩|⟨c,e⟩
   .refine .inl ⟨λy z=> ?_,b.trans e⟩;rcases Bk.1 z with rfl|z
    .exact c
    .exact a y z
   .exact .inr ⟨⟨x,BS ..,c⟩,b.trans e⟩
  .exact .inr ⟨⟨y,BW _ z,a⟩,b⟩
def Zj{l:List Al}: ∀{q:Ab},0<=Cp (Ci l) q-> ∃x∈l,x.At=q:=by
 have G: ∀(l:List Al) (t:List (Ab×Int)) (q:Ab),B8 (l.foldl (λt x=>Bf t x.At x.Tile) t) q≠none->(∃x∈l,x.At=q)\/B8 t q≠none:=by
  intro l;induction l with
  |nil=>intro t q h;exact .inr h
  |cons x r ih=>
   intro t q h;rcases ih _ q h with ⟨y,O,e⟩|z
   .exact .inl ⟨y,BW _ O,e⟩
   .rw[lX] at z;split at z
    .rename_i e;exact .inl ⟨x,BS ..,e.symm⟩
    .exact .inr z
 intro q h;rcases G l [] q (λe=>by
  simp only[Cp,Ci,e,Option.getD_none] at h;omega) with z|z
 .exact z
 .simp[B8] at z
def TF{s:Ax}{l:List Al}(O:1<=s.Temperature):JI s (Cp (Ci l)) (HS s (Cp (Ci l)) l):=by
 have hn:(([]:List (Ab×List Int)).map Prod.fst).Nodup:=by simp
 refine⟨(cN ⟨0,0⟩ l [] hn).1,λq=> ?_⟩;rcases (cN (s:=s) (f:=Cp (Ci l)) q l [] hn).2 with ⟨G,z⟩|⟨_,z⟩
 .rw[HS,z]
  have:Ee s (Cp (Ci l)) q=[]:=by
   refine pL O (λd hd=> ?_) _;apply fO;intro h;obtain⟨x,Q,e⟩:=Zj (l:=l) (q:=Bs q d) (by omega);exact G x Q (cU (e▸⟨d,hd,rfl⟩))
  rw[FJ,An this];rfl
 .exact z
def jA{s:Ax}{z:List (Ab×Int)}{op:List (Ab×List Int)}{p:Ab}{t:Int}(h:JI s (Cp z) op)(ht:0<=t):
 JI s (Cp (Bf z p t)) (Gi s (Cp (Bf z p t)) (D4 op p) p 4):=by
 have hn:=dC (p:=p) h.1;have G: ∀q,Cp (Bf z p t) q=if q=p then t else Cp z q:=λq=>by
  simp only[Cp,lX];split<;>rfl
 refine⟨Ww hn 4,λq=> ?_⟩;rcases aS (s:=s) (f:=Cp (Bf z p t)) (p:=p) hn q with ⟨Z,O⟩|⟨_,O⟩
 .rw[O,dA q h.1];by_cases e:q=p
  .rw[An e,FJ,An (qA (by rw[G,An e];exact ht) _)]
  .rw[Af e,h.2 q]
   have:Ee s (Cp (Bf z p t)) q=Ee s (Cp z) q:=by
    refine pW (by rw[G,Af e]) (λd hd=> ?_) _;rw[G,Af];intro Q;exact Z (cU ⟨d,hd,Q⟩)
   rw[this]
 .exact O
def DO(p:Ab):List Ab->List Ab
 |[]=>[p]
 |y::r=>if Bq y p=true then y::DO p r else if y=p then y::r else p::y::r
def BY(l:List Ab):List Ab:=l.foldr DO []
abbrev J9(l:List Ab):Prop:=l.Pairwise λa b=>Bq a b=true
def Wu{a b c:Ab}(z:Bq a b=true)(G:Bq b c=true):Bq a c=true:=by simp only[Bq] at*;grind
def pE(a:Ab):Bq a a=false:=by simp[Bq]
def pK{a b:Ab}(Z:Bq a b=false)(h2:a≠b):Bq b a=true:=by
 obtain⟨G,O⟩:=a;obtain⟨Q,z⟩:=b;simp only[Bq,ne_eq,Ab.mk.injEq] at*
 grind
def Wt{p q:Ab}: ∀{l:List Ab},q∈DO p l↔q=p\/q∈l
 |[]=>by simp[DO]
 |y::r=>by
  simp only[DO];split
  .simp only[Bk,Wt (l:=r)];constructor
   .rintro (h|h|h)
    .exact .inr (.inl h)
    .exact .inl h
    .exact .inr (.inr h)
   .rintro (h|h|h)
    .exact .inr (.inl h)
    .exact .inl h
    .exact .inr (.inr h)
  .split
   .rename_i c;subst c;simp
   .simp
def cP{p:Ab}: ∀{l:List Ab},J9 l->J9 (DO p l)
 |[],_=>by simp[DO]
 |y::r,h=>by
  rw[J9,VF] at h;simp only[DO];split
  .rename_i c;rw[J9,VF];refine⟨λz G=> ?_,cP h.2⟩;rcases Wt.1 G with rfl|G
   .exact c
   .exact h.1 z G
  .rename_i c;split
   .rw[J9,VF];exact h
   .rename_i e;have O:=pK (by simpa using c) e;rw[J9,VF,VF];refine⟨λz G=> ?_,h⟩;rcases Bk.1 G with rfl|G
    .exact O
    .exact Wu O (h.1 z G)
def NN: ∀(l:List Ab),J9 (BY l)
 |[]=>List.Pairwise.nil
 |_::r=>cP (NN r)
def JU{q:Ab}: ∀{l:List Ab},q∈BY l↔q∈l
 |[]=>by simp[BY]
 |x::r=>by
  have:BY (x::r)=DO x (BY r):=rfl
  rw[this,Wt,JU (l:=r),Bk]
def K6{l:List Ab}(h:J9 l):l.Nodup:=by
 refine ZeE (λ{a b} z e=> ?_) h;rw[e,pE] at z;cases z
def cW{l m:List Ab}(z:J9 l)(G:J9 m)(h: ∀q,q∈l↔q∈m):l=m:=by
 have hp:l.Perm m:=(Zes (K6 z) (K6 G)).2 h;refine ZeF (le:=λa b=>Bq a b=true) (λa b _ _ g1 g2=> ?_) z G hp
 have:=Wu g1 g2
 rw[pE] at this;cases this
def DI(a:Ak)(p:Ab)(l:List Ab):Nat->List Ab
 |0=>l
 |k+1=>if E0 (Bs p k)=true/\Bb a (Bs p k)<0 then DO (Bs p k) (DI a p l k) else DI a p l k
def Cv(a:Ak):Nat->List Ab
 |0=>[]
 |i+1=>DI a ((a.Tiles[i]?.map Al.At).getD ⟨0,0⟩) (Cv a i) 4
def Ws{a:Ak}{p:Ab}{l:List Ab}(h:J9 l): ∀k,J9 (DI a p l k)
 |0=>h
 |k+1=>by
  simp only[DI];split
  .exact cP (Ws h k)
  .exact Ws h k
def cV(a:Ak): ∀i,J9 (Cv a i)
 |0=>List.Pairwise.nil
 |i+1=>Ws (cV a i) 4
def pN{a:Ak}{p q:Ab}{l:List Ab}: ∀k,q∈DI a p l k↔q∈l\/(E0 q=true/\Bb a q<0)/\ ∃d:Nat,d<k/\Bs p d=q
 |0=>by simp[DI]
 |k+1=>by
  simp only[DI];have ih:=pN (a:=a) (p:=p) (q:=q) (l:=l) k;split
  .rename_i c;rw[Wt,ih];constructor
   .rintro (rfl|h|⟨h,d,G,z⟩)
    .exact .inr ⟨c,k,by omega,rfl⟩
    .exact .inl h
    .exact .inr ⟨h,d,by omega,z⟩
   .rintro (h|⟨h,d,G,z⟩)
    .exact .inr (.inl h)
    .by_cases e:d=k
     .subst e;exact .inl z.symm
     .exact .inr (.inr ⟨h,d,by omega,z⟩)
  .rename_i c;rw[ih];constructor
   .rintro (h|⟨h,d,G,z⟩)
    .exact .inl h
    .exact .inr ⟨h,d,by omega,z⟩
   .rintro (h|⟨h,d,G,z⟩)
    .exact .inl h
    .by_cases e:d=k
     .subst e;subst z;exact absurd h c
     .exact .inr ⟨h,d,by omega,z⟩
def QC{a:Ak}{q:Ab}: ∀i,i<=a.Tiles.length->(q∈Cv a i↔(E0 q=true/\Bb a q<0)/\ ∃x∈a.Tiles.take i,JS x.At q)
 |0,_=>by simp[Cv]
 |i+1,Q=>by
  have O:a.Tiles[i]? =some (a.Tiles[i]'(by omega)):=Bj (by omega);simp only[Cv];rw[pN,QC i (by omega),Ll O,O,CQ,AM];constructor
  .rintro (⟨h,x,z,G⟩|⟨h,G⟩)
   .exact⟨h,x,Km _ z,G⟩
   .exact⟨h,_,Ri _ (BS ..),G⟩
  .rintro⟨h,x,z,G⟩;rcases Bv.1 z with z|z
   .exact .inl ⟨h,x,z,G⟩
   .rw[BJ] at z;subst z;exact .inr ⟨h,G⟩
def DN(s:Ax)(f:Ab->Int)(q:Ab):Nat->List Int
 |0=>[]
 |k+1=>DN s f q k++(if s.Temperature<=C4 s.Set f q k 4 then [(k:Int)] else [])
def Wx(s:Ax)(f:Ab->Int)(q:Ab): ∀k,(DN s f q k).length<=k
 |0=>by simp[DN]
 |k+1=>by
  have:=Wx s f q k
  simp only[DN,Df]
  split<;>simp<;>omega
def pT{s:Ax}{f:Ab->Int}{q:Ab}(z:E0 q=true)(G:f q<0): ∀n,Gh s f q n=DN s f q n
 |0=>rfl
 |n+1=>by
  simp only[Gh,DN,pT z G n,Ik,z,uZ G,DZ,BK]
def OO(p:Ab)(k:Int):Ap:=⟨p,k⟩
def Cw(g:Ab->List Int)(l:List Ab):List Ap:=l.flatMap λp=>(g p).map (OO p)
def Cm(s:Ax)(a:Ak):List Ap:=Cw (λp=>DN s (Bb a) p s.Set.Tiles.length) (Cv a a.Tiles.length)
def GK(op:List (Ab×List Int)):List Ap:=Cw (λp=>(B8 op p).getD []) (BY (op.map Prod.fst))
def pG{g:Ab->List Int}: ∀(l:List Ab),Cw g (l.filter λp=> !(g p).isEmpty)=Cw g l
 |[]=>rfl
 |p::r=>by
  have ih:=pG (g:=g) r;simp only[Cw] at ih;simp only[Cw,Zec];split
  .simp only[GB,ih]
  .rename_i c
   have:g p=[]:=by simpa using c
   simp only[GB,ih,this,Hc,Hb]
def cM{g h:Ab->List Int}: ∀(l:List Ab),(∀p∈l,g p=h p)->Cw g l=Cw h l
 |[],_=>rfl
 |p::r,z=>by
  simp only[Cw,GB];rw[z p (BS ..)]
  have:=cM r λq hq=>z q (BW _ hq)
  simp only[Cw] at this;rw[this]
def Xk{a:Ak}{q:Ab}(h:0<=Bb a q): ∃x∈a.Tiles,x.At=q:=by
 simp only[Bb] at h;cases e:a.Tiles.find? (λx=>decide (x.At=q)) with
 |none=>rw[e] at h;simp at h
 |some x=>exact⟨x,mE e,by simpa using Rm e⟩
def TH{s:Ax}{a:Ak}{op:List (Ab×List Int)}(hT:1<=s.Temperature)(h:JI s (Bb a) op):GK op=Cm s a:=by
 have G: ∀q,Ee s (Bb a) q≠[]->q∈Cv a a.Tiles.length:=λq hq=>by
  rw[QC _ (AP _),GC];have h0:Bb a q<0:=by
   apply fO;intro c;exact hq (qA (by omega) _)
  have hp:E0 q=true:=by
   apply fO;intro c;exact hq (Wq (λk=>by simp only[Ik];rw[Lq] at c;rw[c];rfl) _)
  refine⟨⟨hp,h0⟩,?_⟩;apply fO;intro c;refine hq (pL hT (λd hd=> ?_) _);apply fO;intro c2;obtain⟨x,hx,e⟩:=Xk (a:=a) (q:=Bs q d) (by omega);exact c ⟨x,hx,cU ⟨d,hd,e.symm⟩⟩
 have Q: ∀q∈Cv a a.Tiles.length,DN s (Bb a) q s.Set.Tiles.length=Ee s (Bb a) q:=λq hq=>by
  rw[QC _ (AP _)] at hq;exact (pT hq.1.1 hq.1.2 _).symm
 have O: ∀q,(B8 op q).getD []=Ee s (Bb a) q:=λq=>by
  rw[h.2 q,FJ];split
  .rename_i e;rw[e];rfl
  .rfl
 have Z:Cm s a=Cw (Ee s (Bb a)) (Cv a a.Tiles.length):=cM _ Q;have e2:GK op=Cw (Ee s (Bb a)) (BY (op.map Prod.fst)):=cM _ λq _=>O q
 rw[Z,e2,<-pG (Cv a a.Tiles.length)];congr 1;refine cW (NN _) ((cV a _).filter _) (λq=> ?_);rw[JU,iK,h.2 q,FJ,Xe];constructor
 .intro hq;have z:Ee s (Bb a) q≠[]:=λe=>hq (An e)
  exact⟨G q z,by simpa using z⟩
 .rintro⟨_,hq⟩;have z:Ee s (Bb a) q≠[]:=by simpa using hq
  rw[Af z];simp
def E6(p:Ab)(l:List Ab):Nat:=(l.takeWhile λy=>Bq y p).length
def pS(p:Ab): ∀(l:List Ab),DO p l=if l[E6 p l]? =some p then l else l.take (E6 p l)++p::l.drop (E6 p l)
 |[]=>by simp[DO,E6]
 |y::r=>by
  have ih:=pS p r;simp only[DO];by_cases c:Bq y p=true
  .have e:E6 p (y::r)=E6 p r+1:=by simp[E6,c]
   rw[An c,ih,e,HF];split
   .rfl
   .simp
  .have e:E6 p (y::r)=0:=by simp[E6,c]
   rw[Af c,e];simp
def M6{p:Ab}: ∀{l:List Ab} {k:Nat},J9 l->k<=l.length->(∀(i:Nat) (y:Ab),k<=i->l[i]? =some y->Bq y p=false)->(∀y,k≠0->l[k - 1]? =some y->Bq y p=true)->E6 p l=k
 |[],k,_,G,_,_=>by simp at G;simp[E6,G]
 |y::r,0,_,_,O,_=>by
  have:=O 0 y (AP _) rfl
  simp[E6,this]
 |y::r,k+1,Z,G,O,Q=>by
  rw[J9,VF] at Z;have hy:Bq y p=true:=by
   cases k with
   |zero=>exact Q y (by omega) rfl
   |succ k=>
    have aa:k+1<(y::r).length:=by simp at G⊢;omega
    have h3:=Q _ (by omega) (Bj (l:=y::r) (i:=k+1) aa);refine Wu (Z.1 _ ?_) h3;simp
  have ih:=M6 (p:=p) (l:=r) (k:=k) Z.2 (by simpa using G) (λi z hi hz=>O (i+1) z (by omega) (by simpa using hz)) (λz ab hz=>Q z (by omega) (by
   obtain⟨m,rfl⟩: ∃m,k=m+1:=⟨k - 1,by omega⟩;simpa using hz))
  simp only[E6] at ih;simp[E6,hy,ih]
def MT(p:Ab)(l:List Ab)(i:Nat):List Ab:=(l++[p]).take (i+1)++l.drop i
def cQ{p:Ab}{l:List Ab}{i:Nat}(h:i<=l.length):(MT p l i).length=l.length+1:=by simp[MT];omega
def YK(p:Ab)(l:List Ab):MT p l l.length=l++[p]:=by simp[MT,DY]
def UF{p x:Ab}{l:List Ab}{i:Nat}(h:i+1<=l.length)(Z:(MT p l (i+1))[i]? =some x):(MT p l (i+1)).set (i+1) x=MT p l i:=by
 have z:l[i]? =some x:=by
  rw[<-Z,MT,EB (by simp;omega),ZQ,An (by omega),EB (by omega)]
 apply Kj;intro j;have Q:((l++[p]).take (i+1+1)).length=i+2:=by simp;omega
 have G:((l++[p]).take (i+1)).length=i+1:=by simp;omega
 by_cases c:j=i+1
 .subst c;rw[Dm (by rw[cQ h];omega),MT,F3 (by omega),G,Hd,Iq,Qm,z]
 .rw[DF (EJ c)];simp only[MT];by_cases O:j<i+1
  .rw[EB (by omega),EB (by omega),ZQ,ZQ,An (by omega),An O]
  .rw[F3 (by omega),F3 (by omega),Q,G,Iq,Iq];congr 1;omega
def YL{p:Ab}{l:List Ab}{k:Nat}(h:k<=l.length):(MT p l k).set k p=l.take k++p::l.drop k:=by
 apply Kj;intro j;have O:((l++[p]).take (k+1)).length=k+1:=by simp;omega
 have z:(l.take k).length=k:=by simp;omega
 by_cases c:j=k
 .subst c;rw[Dm (by rw[cQ h];omega),F3 (by omega),z,Hd];simp
 .rw[DF (EJ c)];simp only[MT];by_cases G:j<k
  .rw[EB (by omega),EB (by omega),ZQ,ZQ,An (by omega),An G,EB (by omega)]
  .obtain⟨m,rfl⟩: ∃m,j=k+1+m:=⟨j - (k+1),by omega⟩;rw[F3 (by omega),F3 (by omega),O,z,Iq,show k+1+m - k=m+1 by omega,HF,Iq];congr 1;omega
def KG{p q:Ab}:((p.X==q.X)=true/\(p.Y==q.Y)=true)↔p=q:=by
 obtain⟨z,G⟩:=p;obtain⟨O,Q⟩:=q;simp
def putQ.ca(a:List Ab×Ab):List AV:=[.own 0,.im (.agg [.int .i64 a.2.X,.int .i64 a.2.Y])]
def putQ.H0(a:List Ab×Ab):Aw:=[(0,(true,.arr 96 2 (a.1.map Ab.c)))]
def putQ.H1(a:List Ab×Ab):Aw:=[(1,(true,.arr 96 2 ((DO a.2 a.1).map Ab.c)))]
def wP(j:Nat):Bool:=j==0
def putQ.row:AB:=AF putQ.ca putQ.H0 1 (λa=>J9 a.1/\a.1.length<=1000000) wP (λ_=> .own 1) putQ.H1 1
def putQ.ok:AC Tryz.prog 189 putQ.row:=by
 refine Pb (tC l_LessPoint.ok tN) Tryz.func189 rfl (by kernel_rfl) (exB:=λj=>j==1) (R:=λ_ r=>r= .own 1) (λ_=>rfl)
  (λa=>by simp[putQ.ca,putQ.H0,Aq,AV.bel,Ac,A9,BR,Ad.nms,Ao,hget]) (λa p hp=> ?_) (λa r h=>by subst h;exact CJ.refl _) ?_
 rotate_left
 intro a af;simp only[Tryz.f189,putQ.ca,putQ.H0,putQ.H1];simp(disch:=omega)only[ZA,simprocAttr];rotate_left
 .simp[putQ.H1] at hp;subst hp;exact .inr ⟨by omega,by omega,rfl,rfl⟩
 obtain⟨l,p⟩:=a;obtain⟨hl,hn⟩:=af;simp only at hl hn⊢;intro _;refine AQ.old ⟨{k:Nat//k<=l.length/\ ∀(i:Nat) (y:Ab),k<=i->l[i]? =some y->Bq y p=false},λk=>⟨[(5,.im (.int .i64 k.1)),(3,.ptr 1 0),(0,.own 0)],[(1,(true,.cells 96 [.im (.int .i64 p.X),.im (.int .i64 p.Y)])),(0,(true,.arr 96 2 (l.map Ab.c)))],3⟩,λk=>k.1,λk=>⟨by simp[Aj.good,Am,Ac,A9,AV.bel,Aq],by simp⟩,⟨⟨l.length,AP _,λi y hi Z=>by rw[FE hi] at Z;cases Z⟩,by simp(disch:=omega)only[ZA,simprocAttr,sub]⟩,λk=> ?_⟩;obtain⟨k,hk,ac⟩:=k;simp(disch:=omega)only[ZA,simprocAttr,l_LessPoint.q,l_LessPoint.fv,Fy,DH,sub,AO];have Q:0<k->IntKind.i64.wrap ((k:Int) - 1)=((k - 1:Nat):Int):=λh=>by rw[AH (by omega) (by omega)];omega
 refine⟨λab=>⟨by rw[Q (by omega)];omega,by rw[Q (by omega)];omega,by rw[Q (by omega)];omega,λx hx=>⟨λaa=> ?r,λaa=>⟨λO=>⟨O,O,λy Z=>⟨λe=> ?a1,λe=> ?b1⟩⟩,λO=> ?b2⟩⟩⟩,λab=>⟨λO=>⟨O,O,λy Z=>⟨λe=> ?a2,λe=> ?b3⟩⟩,λO=> ?b4⟩⟩
 case r=>
  rw[Q (by omega),Bx] at hx;refine⟨⟨k - 1,by omega,λi y hi Z=> ?_⟩,by simp only;omega,by rw[Q (by omega)]⟩;by_cases c:i=k - 1
  .subst c;obtain rfl:=AD (hx.symm.trans Z);exact aa
  .exact ac i y (by omega) Z
 all_goals
  have ad:E6 p l=k:=M6 hl hk ac (λy aq Z=>by
   first
    |(rw[Q (by omega),Bx] at hx;obtain rfl:=AD (hx.symm.trans Z);simpa using aa)
    |(exact absurd (by omega) ab))
  have G:=pS p l;rw[ad] at G
 case a1=>
  have ey:y=p:=KG.1 e;rw[Z,ey,An rfl] at G;refine⟨[],[(1,some 0)],⟨[(4,.own 1)],putQ.H1 (l,p),2⟩,?_,by simp[putQ.H1,Aj.good,Am,Ac,A9,AV.bel],by simp,?_⟩
  .simp only[Az,putQ.H1,G];simp(disch:=omega)only[ZA,simprocAttr]
  .simp(disch:=omega)only[ZA,simprocAttr,putQ.H1,wP,putQ.H1]
 case a2=>
  have ey:y=p:=KG.1 e;rw[Z,ey,An rfl] at G;refine⟨[],[(1,some 0)],⟨[(4,.own 1)],putQ.H1 (l,p),2⟩,?_,by simp[putQ.H1,Aj.good,Am,Ac,A9,AV.bel],by simp,?_⟩
  .simp only[Az,putQ.H1,G];simp(disch:=omega)only[ZA,simprocAttr]
  .simp(disch:=omega)only[ZA,simprocAttr,putQ.H1,wP,putQ.H1]
 all_goals
  have am:l[k]? ≠some p:=λh=>by
   first
    |(obtain rfl:=AD (Z.symm.trans h);exact e (KG.2 rfl))
    |(rw[FE (by omega)] at h;cases h)
  rw[Af am] at G;have ah:l.map Ab.c++[[D.int .i64 p.X,D.int .i64 p.Y]]=(l++[p]).map Ab.c:=by rw[GD];rfl
  rw[ah];refine⟨by omega,λ_=> ?_⟩;refine AQ.old ⟨{i:Nat//k<=i/\i<=l.length},λi=>⟨[(6,.im (.int .i64 i.1)),(5,.im (.int .i64 k)),(0,.own 4),(3,.ptr 1 0)],[(4,(true,.arr 96 2 ((MT p l i.1).map Ab.c))),(1,(true,.cells 96 [.im (.int .i64 p.X),.im (.int .i64 p.Y)]))],5⟩,λi=>i.1,λi=>⟨by simp[Aj.good,Am,Ac,A9,AV.bel,Aq],by simp⟩,⟨⟨l.length,hk,AP _⟩,?_⟩,λi=> ?_⟩
  .simp(disch:=omega)only[ZA,simprocAttr,sub,YK];rw[Df,Zdz,AH (by omega) (by omega)];omega
  obtain⟨i,au,ai⟩:=i;have ao:=cQ (p:=p) ai;simp(disch:=omega)only[ZA,simprocAttr,Fy,sub,AO,ao];refine⟨λak=> ?_,λak=>⟨by omega,by omega,λx hx=> ?_⟩⟩
  .have aj:IntKind.i64.wrap ((i:Int) - 1)=((i - 1:Nat):Int):=by rw[AH (by omega) (by omega)];omega
   rw[aj,Bx];refine⟨by omega,by omega,by omega,λx hx=>⟨by omega,by omega,λz hz=>⟨⟨i - 1,by omega,by omega⟩,by simp only;omega,rfl,?_⟩⟩⟩;have ag:=UF (p:=p) (x:=x) (l:=l) (i:=i - 1) (by omega) (by rwa [show i - 1+1=i by omega]);rw[show i - 1+1=i by omega] at ag;rw[<-ag,Lu];rfl
  .obtain rfl:i=k:=by omega
   have an:((MT p l i).map Ab.c).set i [D.int .i64 p.X,D.int .i64 p.Y]=(DO p l).map Ab.c:=by
    rw[G,<-YL hk,Lu];rfl
   refine⟨[],[(1,some 4)],⟨[(4,.own 1)],putQ.H1 (l,p),2⟩,?_,by simp[putQ.H1,Aj.good,Am,Ac,A9,AV.bel],by simp,?_⟩
   .simp only[Az,putQ.H1,an];simp(disch:=omega)only[ZA,simprocAttr]
   .simp(disch:=omega)only[ZA,simprocAttr,putQ.H1,wP,putQ.H1]
def TY(a:List Ab×Ab)(j:Nat):Ao (putQ.H0 a) j=true↔j<1:=by
 simp only[Ao,putQ.H0,hget];by_cases z:j=0
 .subst z;simp
 .have:(0==j)=false:=by simpa using λh=>z h.symm
  rw[this];simp;omega
def pU(p:Ab): ∀(l:List Ab),(DO p l).length<=l.length+1
 |[]=>by simp[DO]
 |y::r=>by
  have:=pU p r
  simp only[DO];split
  .simp only[CM];omega
  .split<;>simp
def cR(a:Ak)(p:Ab)(l:List Ab): ∀k,(DI a p l k).length<=l.length+k
 |0=>by simp[DI]
 |k+1=>by
  have:=cR a p l k
  simp only[DI];split
  .have:=pU (Bs p k) (DI a p l k);omega
  .omega
def Wr(a:Ak): ∀i,(Cv a i).length<=4*i
 |0=>by simp[Cv]
 |i+1=>by
  have:=Wr a i
  have:=cR a ((a.Tiles[i]?.map Al.At).getD ⟨0,0⟩) (Cv a i) 4
  simp only[Cv];omega
def nearS_.fv(a:Ak):List Ab:=(λa=>Cv a a.Tiles.length) a
def nearS_.row:AB:=vK (b1 (qP 1 Ak.d_le)) (rS Ab.d_le Ab.c_n) (λa=>Dc none a.Tiles=true/\a.Tiles.length<=1000/\ ∃s,∀x∈a.Tiles,FP s x.Tile) nearS_.fv
def nearS_.q:=AT (R:=nearS_.row) rfl
def nearS_.ok:AC Tryz.prog 142 nearS_.row:=by
 refine vw (tC l01Step.ok (tC l01Point.ok (tC l03Index.ok (tC putQ.ok tN)))) Tryz.func142 rfl (by kernel_rfl) ?_;intro a Z;simp only[Tryz.f142];simp(disch:=omega)only[ZA,simprocAttr,nearS_.fv];obtain⟨h1,h2,s0,h3⟩:=Z;refine AQ.ren ⟨{i:Nat//i<=a.Tiles.length},λi=>⟨[(4,.im (.int .i64 i.1)),(3,.own 3),(0,.ptr 0 0)],[(3,(true,.arr 96 2 ((Cv a i.1).map Ab.c))),(0,(false,.view (Ak.c a)))],4⟩,λi=>a.Tiles.length - i.1,λi=>⟨by simp[Aj.good,Am,Ac,A9,AV.bel],by simp⟩,⟨⟨0,Cx _⟩,[(3,some 2)],?_⟩,λi=> ?_⟩
 .simp only[Az];simp(disch:=omega)only[ZA,simprocAttr,Br,Cv]
  try simp
 obtain⟨i,hi⟩:=i;simp(disch:=omega)only[ZA,simprocAttr,AO];intro _;refine⟨λz=> ?_,λz=> ?_⟩;rotate_left
 .obtain rfl:i=a.Tiles.length:=by omega
  rfl
 obtain⟨x,hx⟩: ∃x,a.Tiles[i]? =some x:=⟨_,Bj z⟩;have af:=(rW _ _ h1 x (AZ hx)).1;have e1:Cv a (i+1)=DI a x.At (Cv a i) 4:=by simp only[Cv,hx];rfl
 have ag:=Wr a i;have ac:=cV a i;refine AQ.ren ⟨{d:Nat//d<=4},λd=>⟨[(5,.im (.int .i64 d.1)),(4,.im (.int .i64 i)),(3,.own 4),(0,.ptr 0 0)],[(4,(true,.arr 96 2 ((DI a x.At (Cv a i) d.1).map Ab.c))),(0,(false,.view (Ak.c a)))],5⟩,λd=>4 - d.1,λd=>⟨by simp[Aj.good,Am,Ac,A9,AV.bel],by simp⟩,⟨⟨0,Cx _⟩,[(4,some 3)],?_⟩,λd=> ?_⟩
 .simp only[Az];simp(disch:=omega)only[ZA,simprocAttr,Br,DI]
  try simp
 obtain⟨d,hd⟩:=d;have ah:=cR a x.At (Cv a i) d;have ad:=Ws (a:=a) (p:=x.At) ac d;simp(disch:=omega)only[ZA,simprocAttr,Ak.d,l01Step.q,l01Step.fv,l01Point.q,l01Point.fv,l03Index.q,l03Index.fv,AO];have Q:IntKind.i64.wrap ((d:Int)+1)=((d+1:Nat):Int):=by rw[AH (by omega) (by omega)];omega
 refine⟨λab=>⟨z,λy hy=> ?_⟩,λab=> ?_⟩;rotate_left
 .obtain rfl:d=4:=by omega
  refine⟨⟨i+1,by omega⟩,[(3,some 4)],by simp only;omega,?_⟩;simp only[Az];simp(disch:=omega)only[ZA,simprocAttr,Br,e1];rw[AH (by omega) (by omega)];rfl
 obtain rfl:=AD (hx.symm.trans hy);refine⟨⟨Z9 af,by omega⟩,λO=>⟨h1,λG=> ?_,λG=> ?_⟩,λO=> ?_⟩
 .have aa:=(NO h3 (Bs x.At d)).1 G;refine AF.os (DI a x.At (Cv a i) d,Bs x.At d) [4] ⟨ad,by simp only;omega⟩ (TY _) rfl rfl ?_ ?_
  .simp(disch:=omega)only[ZA,simprocAttr,putQ.ca,putQ.H0,CO,Dj]
  simp(disch:=omega)only[ZA,simprocAttr,putQ.H1,wP];refine⟨⟨d+1,by omega⟩,[(4,some 6)],by simp only;omega,?_⟩;simp only[Az];simp(disch:=omega)only[ZA,simprocAttr,Br,DI];rw[An ⟨O,aa⟩];exact⟨Q,rfl⟩
 all_goals
  refine⟨⟨d+1,by omega⟩,[(4,some 4)],by simp only;omega,?_⟩;simp only[Az];simp(disch:=omega)only[ZA,simprocAttr,Br,DI];refine⟨Q,?_⟩;rw[Af];rintro⟨g1,g2⟩
  first
   |exact G ((NO h3 _).2 g2)
   |exact O g1
def S4(s:AA)(a:Ak)(p:Ab):Nat->List Int
 |0=>[]
 |k+1=>S4 s a p k++[if Bb a (Bs p k)<0 then 0 else Ke s (Bb a (Bs p k)) (((k:Int)+2) % 4)]
def NL(s:AA)(a:Ak)(p:Ab): ∀k,(S4 s a p k).length=k
 |0=>rfl
 |k+1=>by simp[S4,NL s a p k]
def cO{s:AA}{a:Ak}{p:Ab}: ∀{n k:Nat},k<n->(S4 s a p n)[k]? =some (if Bb a (Bs p k)<0 then 0 else Ke s (Bb a (Bs p k)) (((k:Int)+2) % 4))
 |0,k,h=>by omega
 |n+1,k,h=>by
  simp only[S4];by_cases c:k<n
  .rw[EB (by rw[NL];exact c),cO c]
  .obtain rfl:k=n:=by omega
   rw[F3 (by rw[NL];omega),NL,Hd];rfl
def Zc{s:AA}{a:Ak}{p:Ab}{i:Int}{k:Nat}{g:Int}(z:g=if Bb a (Bs p k)<0 then 0 else Ke s (Bb a (Bs p k)) (((k:Int)+2) % 4)):(if Ke s i k=g then PZ s g else 0)=Gj s (Bb a) p i k:=by
 simp only[Gj,Gf];by_cases c:Bb a (Bs p k)<0
 .rw[An c] at z;subst z;rw[Af (show ¬0<=Bb a (Bs p k) by omega),LQ (by omega)]
  split<;>rfl
 .rw[Af c] at z;rw[An (show 0<=Bb a (Bs p k) by omega),<-z];split
  .rename_i e;rw[e]
  .rfl
def jN{s:AA}(h:BE s){t:Int}{d:Int}:0<=Ke s t d/\Ke s t d<=s.Glues.length:=by
 simp only[Ke];cases e:s.Tiles[t.toNat]? with
 |none=>simp
 |some x=>
  simp only[CQ,AM];cases e2:x.Sides[d.toNat]? with
  |none=>simp
  |some g=>
   simp only[AM];exact (h.2.1 x (AZ e)).2 g (AZ e2)
def atQ_.fv(a:AA×Ak×Ab×Int):List Int:=(λs a p t=>DN ⟨s,a,t⟩ (Bb a) p s.Tiles.length) (a.1) (a.2.1) (a.2.2.1) (a.2.2.2)
def atQ_.row:AB:=vK (b4 (qP 2 AA.d_le) (qP 1 Ak.d_le) (qR Ab.d_le) qI) (rS Dt C5) (λa=>BE a.1/\DM a.1 a.2.1/\FB a.2.2.1/\a.1.Tiles.length<=1000000) atQ_.fv
def atQ_.q:=AT (R:=atQ_.row) rfl
def atQ_.ok:AC Tryz.prog 122 atQ_.row:=by
 refine vw (tC l01Step.ok (tC l03At.ok (tC Opposite_.ok (tC l02Strength.ok tN)))) Tryz.func122 rfl (by kernel_rfl) ?_;intro a af;simp only[Tryz.f122];simp(disch:=omega)only[ZA,simprocAttr,atQ_.fv];obtain⟨s,a,p,t⟩:=a;obtain⟨Q,h2,h3,h4⟩:=af;simp only at Q h2 h3 h4⊢;refine AQ.ren ⟨{d:Nat//d<=4},λd=>⟨[(10,.im (.int .i64 d.1)),(9,.own 5),(6,.ptr 2 0),(0,.ptr 0 0),(1,.ptr 1 0),(3,.im (.int .i64 t))],[(5,(true,.arr 2 1 ((S4 s a p d.1).map Ai))),(2,(true,.cells 96 [.im (.int .i64 p.X),.im (.int .i64 p.Y)])),(0,(false,.view (AA.c s))),(1,(false,.view (Ak.c a)))],6⟩,λd=>4 - d.1,λd=>⟨by simp[Aj.good,Am,Ac,A9,AV.bel,Aq],by simp⟩,⟨⟨0,Cx _⟩,[(5,some 4)],?_⟩,λd=> ?_⟩
 .simp only[Az];simp(disch:=omega)only[ZA,simprocAttr,Br,S4]
  try simp
 obtain⟨d,hd⟩:=d;have ak:=NL s a p d;simp(disch:=omega)only[ZA,simprocAttr,Ak.d,l01Step.q,l01Step.fv,l03At.q,l03At.fv,Opposite_.q,Opposite_.fv,AO,NJ,NF,Bz,D.one];have Z:IntKind.i64.wrap ((d:Int)+1)=((d+1:Nat):Int):=by rw[AH (by omega) (by omega)];omega
 refine⟨λaa=>⟨⟨h3,by omega⟩,h2.1,λhn=>⟨by omega,⟨d+1,by omega⟩,[(5,some 7)],by simp only;omega,?_⟩,λhn=> ?_⟩,λaa=> ?_⟩
 .simp only[Az];simp(disch:=omega)only[ZA,simprocAttr,Br,S4];rw[An hn];refine⟨Z,by simp[Ai]⟩
 .obtain⟨b1,b2⟩:=JR h2 (Bs p d) (by omega);refine⟨b1,b2,λx hx=>⟨by omega,by omega,by rw[(Q.2.1 x (AZ hx)).1];omega,λg hg=>⟨by omega,⟨d+1,by omega⟩,[(5,some 7)],by simp only;omega,?_⟩⟩⟩;have O:Ke s (Bb a (Bs p d)) (((d:Int)+2) % 4)=g:=eZ hx hg;simp only[Az];simp(disch:=omega)only[ZA,simprocAttr,Br,S4];rw[Af hn,O];refine⟨Z,by simp[Ai]⟩
 obtain rfl:d=4:=by omega
 clear Z aa hd;obtain⟨S,hS⟩: ∃S:Ax,S=⟨s,a,t⟩:=⟨_,rfl⟩;rw[<-hS];refine AQ.ren ⟨{i:Nat//i<=s.Tiles.length},λi=>⟨[(13,.im (.int .i64 i.1)),(12,.own 7),(9,.own 5),(0,.ptr 0 0),(3,.im (.int .i64 t))],[(7,(true,.arr 2 1 ((DN S (Bb a) p i.1).map Ai))),(5,(true,.arr 2 1 ((S4 s a p 4).map Ai))),(0,(false,.view (AA.c s))),(1,(false,.view (Ak.c a)))],8⟩,λi=>s.Tiles.length - i.1,λi=>⟨by simp[Aj.good,Am,Ac,A9,AV.bel],by simp⟩,⟨⟨0,Cx _⟩,[(7,some 6)],?_⟩,λi=> ?_⟩
 .simp only[Az];simp(disch:=omega)only[ZA,simprocAttr,Br,DN]
  try simp
 obtain⟨i,hi⟩:=i;have an:=Wx S (Bb a) p i;simp(disch:=omega)only[ZA,simprocAttr,AO];intro _;refine⟨λab=> ?_,λab=> ?_⟩;rotate_left
 .obtain rfl:i=s.Tiles.length:=by omega
  rfl
 refine AQ.old ⟨{k:Nat//k<=4},λk=>⟨[(15,.im (.int .i64 k.1)),(14,.im (.int .i64 (C4 s (Bb a) p i k.1))),(13,.im (.int .i64 i)),(12,.own 7),(9,.own 5),(0,.ptr 0 0),(3,.im (.int .i64 t))],[(7,(true,.arr 2 1 ((DN S (Bb a) p i).map Ai))),(5,(true,.arr 2 1 ((S4 s a p 4).map Ai))),(0,(false,.view (AA.c s))),(1,(false,.view (Ak.c a)))],8⟩,λk=>4 - k.1,λk=>⟨by simp[Aj.good,Am,Ac,A9,AV.bel],by simp⟩,⟨⟨0,Cx _⟩,?_⟩,λk=> ?_⟩
 .simp(disch:=omega)only[ZA,simprocAttr,sub,C4]
 obtain⟨k,hk⟩:=k;simp(disch:=omega)only[ZA,simprocAttr,l02Strength.q,l02Strength.fv,sub,AO,NJ,NF,Bz,D.one];have ad:IntKind.i64.wrap ((k:Int)+1)=((k+1:Nat):Int):=by rw[AH (by omega) (by omega)];omega
 have aj:=uO Q (Bb a) p i k;have am:=fH Q (Bb a) p i k;have ah:=NL s a p 4;rw[ah];refine⟨λai=>⟨ab,λx hx=>⟨by rw[(Q.2.1 x (AZ hx)).1];omega,λg hg=>⟨by omega,by omega,λy hy=> ?_⟩⟩⟩,λai=> ?_⟩
 .have O:Ke s i k=g:=eZ (by simpa using hx) (by simpa using hg);rw[cO (by omega),AJ] at hy;have G:=Zc (i:=i) hy.symm;rw[O] at G;refine⟨λe=>⟨by omega,by omega,λz hz=> ?_⟩,λe=>⟨⟨k+1,by omega⟩,by simp only;omega,ad,?_⟩⟩
  .rw[cO (by omega),AJ] at hz;obtain rfl:y=z:=hy.symm.trans hz;rw[An e] at G;have ag:0<=y/\y<=s.Glues.length:=by
    have:=jN Q (t:=i) (d:=k)
    rw[O,e] at this;exact this
   refine⟨⟨ag.1,ag.2,Q.1⟩,⟨k+1,by omega⟩,by simp only;omega,ad,?_⟩;rw[G,AH (by omega) (by omega)];rfl
  .rw[Af e] at G;simp only[C4,<-G];omega
 .obtain rfl:k=4:=by omega
  have ac:IntKind.i64.wrap ((i:Int)+1)=((i+1:Nat):Int):=by rw[AH (by omega) (by omega)];omega
  have e1:S.Temperature=t:=by rw[hS]
  have e2:S.Set=s:=by rw[hS]
  refine⟨λe=>⟨by omega,⟨i+1,by omega⟩,[(7,some 9)],by simp only;omega,?_⟩,λe=>⟨⟨i+1,by omega⟩,[(7,some 7)],by simp only;omega,?_⟩⟩
  .simp only[Az];simp(disch:=omega)only[ZA,simprocAttr,Br,DN,e1,e2];rw[An e];exact⟨ac,by simp[Ai]⟩
  .simp only[Az];simp(disch:=omega)only[ZA,simprocAttr,Br,DN,e1,e2];rw[Af e,D2];exact⟨ac,rfl⟩
def Lw(s:Ax)(a b:Ak)(f:Ab->Int)(p:Ab): ∀n,DN ⟨s.Set,a,s.Temperature⟩ f p n=DN s f p n
 |0=>rfl
 |n+1=>by simp only[DN,Lw s a b f p n]
def Ef(g:Ab->List Int)(l:List Ab)(i:Nat):List Ap:=Cw g (l.take i)
def pV{g:Ab->List Int}{l:List Ab}{i:Nat}{p:Ab}(h:l[i]? =some p):Ef g l (i+1)=Ef g l i++(g p).map (OO p):=by
 simp only[Ef,Cw,Ll h,ZdM,GB,ZeJ,D2]
def Wv{g:Ab->List Int}{m:Nat}(z: ∀p,(g p).length<=m): ∀(l:List Ab),(Cw g l).length<=l.length*m
 |[]=>by simp[Cw]
 |p::r=>by
  have ih:=Wv z r
  have:=z p
  simp only[Cw] at ih;simp only[Cw,GB,Df,GZ,CM,ZeX];omega
def opsS_.fv(a:Ax×Ak):List Ap:=(Cm) (a.1) (a.2)
def opsS_.row:AB:=vK (b2 (qP 4 Ax.d_le) (qP 1 Ak.d_le)) (rS Ap.d_le Ap.c_n) (λa=>BE a.1.Set/\DM a.1.Set a.2/\a.2.Tiles.length<=500/\a.1.Set.Tiles.length<=1000) opsS_.fv
def opsS_.q:=AT (R:=opsS_.row) rfl
def opsS_.ok:AC Tryz.prog 93 opsS_.row:=by
 refine vw (tC nearS_.ok (tC atQ_.ok tN)) Tryz.func93 rfl (by kernel_rfl) ?_;intro a Q;simp only[Tryz.f93];simp(disch:=omega)only[ZA,simprocAttr,Ak.d,opsS_.fv,nearS_.q,nearS_.fv];obtain⟨s,a⟩:=a;obtain⟨h1,Z,h3,h4⟩:=Q;simp only at h1 Z h3 h4⊢;refine⟨⟨Z.1,by omega,s.Set,Z.2⟩,?_⟩;obtain⟨L,hL⟩: ∃L,L=Cv a a.Tiles.length:=⟨_,rfl⟩;obtain⟨g,hg⟩: ∃g,g=λp=>DN s (Bb a) p s.Set.Tiles.length:=⟨_,rfl⟩
 have ac:Cm s a=Cw g L:=by rw[hg,hL];rfl
 rw[ac];have af:L.length<=2000:=by have:=Wr a a.Tiles.length;rw[hL];omega
 have G: ∀p,(g p).length<=1000:=λp=>by have:=Wx s (Bb a) p s.Set.Tiles.length;rw[hg];simp only;omega
 have aa: ∀p∈L,E0 p=true:=λp hp=>by
  rw[hL,QC _ (AP _)] at hp;exact hp.1.1
 simp only[<-hL];refine AQ.ren ⟨{i:Nat//i<=L.length},λi=>⟨[(7,.im (.int .i64 i.1)),(6,.im (.sl false 2 (L.map Ab.c))),(5,.own 4),(0,.ptr 0 0),(1,.ptr 1 0)],[(4,(true,.arr 108 3 ((Ef g L i.1).map Ap.c))),(0,(false,.view (Ax.c s))),(1,(false,.view (Ak.c a)))],5⟩,λi=>L.length - i.1,λi=>⟨by simp[Aj.good,Am,Ac,A9,AV.bel],by simp⟩,⟨⟨0,Cx _⟩,[(4,some 3)],?_⟩,λi=> ?_⟩
 .simp only[Az];simp(disch:=omega)only[ZA,simprocAttr,Br,Ef,Cw]
  try simp
 obtain⟨i,hi⟩:=i;simp(disch:=omega)only[ZA,simprocAttr,Ak.d,atQ_.q,atQ_.fv,AO];intro _;refine⟨λz=> ?_,λz=> ?_⟩;rotate_left
 .obtain rfl:i=L.length:=by omega
  rw[Ef,GC]
 have ah:(Ef g L i).length<=2000*1000:=by
  have:=Wv G (L.take i)
  have h9:(L.take i).length*1000<=2000*1000:=HI _ (by simp;omega);simp only[Ef];omega
 refine⟨z,λp hp=> ?_⟩;have ad:=aa p (AZ hp);refine⟨⟨h1,Z,Z9 ad,by omega⟩,?_⟩;have ab:DN ⟨s.Set,a,s.Temperature⟩ (Bb a) p s.Set.Tiles.length=g p:=by rw[Lw _ _ a,hg]
 rw[ab];have ag:=G p;refine AQ.ren ⟨{k:Nat//k<=(g p).length},λk=>⟨[(9,.im (.int .i64 k.1)),(8,.im (.sl false 1 ((g p).map Ai))),(7,.im (.int .i64 i)),(6,.im (.sl false 2 (L.map Ab.c))),(5,.own 5),(0,.ptr 0 0),(1,.ptr 1 0)],[(5,(true,.arr 108 3 ((Ef g L i++((g p).take k.1).map (OO p)).map Ap.c))),(0,(false,.view (Ax.c s))),(1,(false,.view (Ak.c a)))],6⟩,λk=>(g p).length - k.1,λk=>⟨by simp[Aj.good,Am,Ac,A9,AV.bel],by simp⟩,⟨⟨0,Cx _⟩,[(5,some 4)],?_⟩,λk=> ?_⟩
 .simp only[Az];simp(disch:=omega)only[ZA,simprocAttr,Br]
  try simp
 obtain⟨k,hk⟩:=k;simp(disch:=omega)only[ZA,simprocAttr,AO,NJ,NF,Bz,D.one,Df];intro _;refine⟨λO=>⟨z,λq hq=>⟨O,λx hx=>⟨?_,⟨k+1,by omega⟩,[(5,some 7)],by simp only;omega,?_⟩⟩⟩,λO=>⟨⟨i+1,by omega⟩,[(4,some 5)],by simp only;omega,?_⟩⟩
 .have:((g p).take k).length<=1000:=by simp;omega
  omega
 .obtain rfl:=AD (hp.symm.trans hq);simp only[Az];simp(disch:=omega)only[ZA,simprocAttr,Br];refine⟨by rw[AH (by omega) (by omega)];rfl,?_⟩;rw[Ll hx];simp[OO,Ap.c]
 .obtain rfl:k=(g p).length:=by omega
  simp only[Az];simp(disch:=omega)only[ZA,simprocAttr,Br];refine⟨by rw[AH (by omega) (by omega)];rfl,?_⟩;rw[pV hp,GC]
end Go.Ae
namespace Go.Ae
open Go.Proofs Go.Sort Go.Shelf
instance:Inhabited Ab:=⟨⟨0,0⟩⟩
def CT(x:Ab):List Value:=[.int .i64 x.X,.int .i64 x.Y]
def cfQ(x y:Ab):Int:=I2 (x.X,x.Y) (y.X,y.Y)
def W1(x y:Ab):ltOf cfQ x y=Bq x y:=by
 simp only[ltOf,cfQ,I2,Lib.compareInt,Bq]
 grind
def swoQ:SWO (ltOf cfQ) where
 irrefl x:=by rw[W1];simp only[Bq];grind
 trans x y z h1 h2:=by rw[W1] at*;simp only[Bq] at*;grind
 ntrans x y z h1 h2:=by rw[W1] at*;simp only[Bq] at*;grind
def cY{l:List Ab}(hd:l.Nodup):(BY l).Perm l:=(Zes (K6 (NN l)) hd).2 λ_=>JU
def Qamw{l l':List Ab}(hd:l.Nodup)(hp:l'.Perm l)(hs:l'.Pairwise (λa b=>Bq b a=false)):l'=BY l:=by
 refine cW ?_ (NN l) (λq=>by rw[JU,hp.mem_iff]);have hn:l'.Nodup:=hp.nodup_iff.2 hd;refine ZeE (λ{a b} h=> ?_) (List.pairwise_and_iff.2 ⟨hs,hn⟩);exact pK h.1 λe=>h.2 e.symm
def P9{l:List Ab}(hd:l.Nodup):(BY l).length=l.length:=(cY hd).length_eq
def Sk(l:List Ab):List Value:=l.flatMap CT
def LJ(l:List Ab):(Sk l).length=l.length*2:=by
 induction l with
 |nil=>rfl
 |cons x r ih=>simp only[Sk,GB,Df,CM] at ih⊢;rw[ih];simp[CT];omega
def dB{ok:Nat->Prop}{hp:Nat->Option Obj}: ∀(l:List Ab) (L:List Value),rdr ok hp 2 (l.map Ab.c) L↔ ∃r,L=Sk l++r
 |[],L=>by simp[rdr,Sk]
 |x::r,L=>by
  simp only[Be,rdr,dB r,Ab.c,rdp,rd,Sk,GB];constructor
  .rintro⟨_,⟨v,z,rfl,rfl,O,G,rfl,rfl,_⟩,q,hq⟩;exact⟨q,by simp only[Qk,Hq] at hq;rw[hq];rfl⟩
  .rintro⟨q,rfl⟩;exact⟨rfl,⟨_,_,rfl,rfl,_,_,rfl,rfl,trivial⟩,q,rfl⟩
def LI: ∀(l:List Ab) (t:Nat),t<l.length*2->(Sk l)[t]? =some ((CT (l[t/2]?.getD default))[t % 2]!)
 |[],t,h=>by simp at h
 |x::r,t,h=>by
  by_cases O:t<2
  .have:t=0\/t=1:=by omega
   rcases this with rfl|rfl<;>simp[Sk,CT]
  .obtain⟨u,rfl⟩: ∃u,t=u+2:=⟨t - 2,by omega⟩;have z:(u+2)/2=u/2+1:=by omega
   have G:(u+2) % 2=u % 2:=by omega
   have ih:=LI r u (by simp at h;omega);rw[z,G,HF,<-ih];simp[Sk,CT]
def pZ(l:List Ab):(flatK CT 2 l.toArray).toList=Sk l:=by
 apply Kj;intro t;by_cases z:t<l.length*2
 .rw[LI l t z];have G:t<(flatK CT 2 l.toArray).size:=by simp only[size_flatK,Oi];exact z
  have O:=get_flatK CT 2 l.toArray t (by simpa using z);rw[GX,J4 G,<-getElem!_pos (flatK CT 2 l.toArray) t G,O];congr 3;simp[getElem!_def];cases l[t/2]? <;>rfl
 .have a1:(flatK CT 2 l.toArray).toList.length<=t:=by rw[EH,size_flatK,Oi];omega
  have a2:(Sk l).length<=t:=by rw[LJ];omega
  rw[FE a1,FE a2]
def srtQ.ca(_:List Ab):List AV:=[.own 0,.im (.fn 161 [] [])]
def srtQ.H0(a:List Ab):Aw:=[(0,(true,.arr 96 2 (a.map Ab.c)))]
def srtQ.H1(a:List Ab):Aw:=[(0,(true,.arr 96 2 ((BY a).map Ab.c)))]
def srtQ.row:AB:=AF srtQ.ca srtQ.H0 1 (λa=>a.Nodup) (λ_=>true) (λ_=> .im (.tup [])) srtQ.H1 0
def srtQ.ok:AC Tryz.prog 223 srtQ.row:=by
 rintro args h nx K ⟨a,τ,U,KL,aj,rfl,O,hN,hK⟩;refine⟨NX (by kernel_rfl),_,_,?_,hK⟩;intro C S vs R hW a9 bb bc aa ax;have aq:Cg τ 1 nx 0=τ 0:=An (by omega);simp only[srtQ.ca,AL,AV.ren,aq,AN,Aa,rd,rdl] at aa;obtain⟨v0,r0,hv,⟨ad,ai⟩,v1,r1,bi,⟨ac,cc,bl,ak,am⟩,bj⟩:=aa;have ak:ac= #[]:=by apply Oj;simpa using ak
 have am:cc= #[]:=by apply Oj;simpa using am
 subst ak am bj bi bl;have bm:vs= #[v0,.func (VK 161) #[] #[]]:=by apply Oj;simpa using hv
 subst bm;have hm:h (τ 0)=some (true,.arr 96 2 (a.map Ab.c)):=by
  have:=O.1
  rwa [aq] at this
 have aw:Ao (srtQ.H0 a) 0=true:=rfl;have Q:S.h (τ 0)=some (true,.arr 96 2 (a.map Ab.c)):=by
  rw[a9 (τ 0) (Km _ (hN.u 0 aw)),hm]
 have ay: ∀n,n∈KL↔n=τ 0:=by
  intro n;constructor
  .intro hn;obtain⟨j,h1,_,h3⟩:=hN.k1 n hn
   have:j=0:=by
    simp only[Ao,srtQ.H0,hget] at h1;by_cases hj:j=0
    .exact hj
    .have:(0==j)=false:=by simpa using λh=>hj h.symm
     rw[this] at h1;cases h1
   rw[h3,this]
  .rintro rfl;exact hN.k2 0 aw rfl
 obtain⟨m,hmm⟩: ∃m,m=τ 0:=⟨_,rfl⟩;rw[<-hmm] at Q ai ay;have au:=P9 aj;have fin: ∀(w':World),Jz S m (.arr 96 2 ((BY a).map Ab.c)) (S.ρ m) [m] w'->
  (B1 (λn=>S.h m≠none\/n≠m) S (S.one m (.arr 96 2 ((BY a).map Ab.c)) (S.ρ m) [m] w')->Av (S.one m (.arr 96 2 ((BY a).map Ab.c)) (S.ρ m) [m] w') (S.ρ m) (.arr 96 2 ((BY a).map Ab.c)))->R (.returned (.tuple #[])) w':=by
  intro w' ad bh;have hp:=dW hW ad;refine ax (.tuple #[]) _ (lV hW ad (bh hp)) ?_ ⟨hp.ok,λn _=>hp.nm n (.inl (by rw[Q];simp))⟩ ⟨#[],rfl,rfl⟩;funext n;simp only[A8.one,Bo.appf,srtQ.H1,AY,aq,hget,Ad.ren,<-hmm];by_cases hn:n=m
  .subst hn;simp
  .have h1:(m==n)=false:=by simpa using λh=>hn h.symm
   have h2:KL.contains n=false:=by
    rw[<-Lq,HG,ay];exact hn
   simp only[h1,BD,h2,hn,CH,BJ]
 have z:=ai _ Q;have Z:=hW.obj _ _ Q;have a0:=λG=>hW.loc m _ G Q
 cases hρ:S.ρ m with
 |none=>
  rw[hρ] at z Z;simp only[Av] at Z;have ha:a=[]:=by simpa using Z.2
  subst ha;simp only at z;rw[z,WT (by decide)];refine (AnyF.slices_SortFunc_none Tryz.sortPt none 0 (.func (.func 161) #[] #[]) S.w).mono ?_;rintro e w' ⟨rfl,rfl⟩;refine fin S.w (bN Q (λl hl=>by rw[hρ] at hl;cases hl) rfl rfl) (λ_=> ?_);rw[hρ];exact⟨Cx _,rfl⟩
 |some G=>
  rw[hρ] at z Z;simp only[Av,Ad.len] at Z z;obtain⟨g1,g2,cv,g3,g4,g5⟩:=Z;obtain⟨ao,bo⟩:=a0 G hρ;rw[dB] at g5;obtain⟨ba,g5⟩:=g5;simp only[GZ] at g1 g2 z;have O:S.w.heap[G.b]? =some (.cells cv 96 (0,0)):=g3;have bn:G.p+a.length*2<=cv.size:=by omega
  have hF:(flatK CT 2 a.toArray).size=a.length*2:=by simp
  have hget: ∀j,j<a.length*2->cv[G.p+j]? =some ((flatK CT 2 a.toArray)[j]!):=by
   intro j hj;have h1:(cv.toList.drop G.p)[j]? =(Sk a++ba)[j]? :=by rw[g5]
   rw[Iq,GX,EB (by rw[LJ];exact hj),<-pZ,GX] at h1;rw[h1,J4 (by rw[hF];exact hj),getElem!_pos _ _ (by rw[hF];exact hj)]
  have hH:HoldsK CT 2 S.w G.b G.p a.toArray:=by
   intro j hj;rw[hF] at hj;refine⟨?_,?_⟩
   .simp only[World.cell?,O,ZS,CY,CH,id];exact hget j hj
   .simp only[World.frozen?,O];simp
  have hc:=AnyQ.slices_SortFunc Tryz.sortPt 2 Tryz.isAgg96 Tryz.sizeOf96 CT (λ_=>rfl) (λx v hv=>by simp[CT] at hv;rcases hv with rfl|rfl<;>rfl) cfQ swoQ 161 #[] G.b G.p G.cap a.toArray S.w
   (rZ (NX (by kernel_rfl))) (λm os dk hs x y=>Tryz.cmpPoints _ _ _ _ _) hH ao (by simp only[Oi,KX] at g1⊢;omega)
  rw[z,WT (by decide)];refine hc.mono ?_;rintro e w' ⟨rfl,d',n,os,af,av,rfl⟩;have a8:d'.size=a.length:=af.1;have bf:d'.toList=BY a:=by
   refine Qamw aj ?_ ?_
   .have:=af.2.2
    rwa [show d'.extract 0 a.toArray.size=d' by rw[Oi,<-a8];exact vD,show a.toArray.extract 0 a.toArray.size=a.toArray from vD] at this
   .rw[Zdh];intro i j hi hj bg
    have:=av i j (Cx _) bg (by rw[Oi,<-a8];simpa using hj)
    rw[W1,getElem!_pos d' i (by simpa using hi),getElem!_pos d' j (by simpa using hj)] at this;simpa using this
  obtain rfl:d'=(BY a).toArray:=by apply Oj;rw[bf]
  have ah:(flatK CT 2 (BY a).toArray).size=a.length*2:=by simp[au]
  have an:(flatK CT 2 (BY a).toArray).toList.length=a.length*2:=by rw[EH,ah]
  have ag:S.w.heap.size<=(sortWorldK CT 2 S.w G.b G.p n (BY a).toArray os).heap.size:=by
   simp[sortWorldK,grow,putRowK,Sort.ahead]
  have hb: ∀b,b<S.w.heap.size->(sortWorldK CT 2 S.w G.b G.p n (BY a).toArray os).heap[b]? =if G.b=b then S.w.heap[b]?.map (onCells (putCells id G.p (flatK CT 2 (BY a).toArray))) else S.w.heap[b]? :=by
   intro b hb;have e0:b<(putRowK CT 2 (Sort.ahead S.w n) G.b G.p (BY a).toArray).heap.size:=by simpa[putRowK,Sort.ahead] using hb
   simp only[sortWorldK,grow];rw[ZdG e0];simp only[putRowK,putRow,mapBlock,Sort.ahead,ZdZ]
  refine fin _ ⟨rfl,rfl,rfl,ag,?_,.inl (by simp),?_,?_,?_⟩ ?_
  .intro b bd be;rw[hb b bd,Af (be m _ G (by simp) Q hρ)]
  .intro lo az;rw[hρ] at az;obtain rfl:=AD az;exact⟨Gk ao ag,.inr ⟨m,_,G,by simp,Q,hρ,rfl⟩⟩
  .intro f hf;rw[Q] at hf;obtain rfl:=AD hf;exact⟨rfl,rfl,by simp[Ad.len,au]⟩
  .intro n' f _ ab;rw[Q] at ab;cases ab
  .intro _;rw[hρ];simp only[Av,GZ,au];refine⟨g1,g2,putCells id G.p (flatK CT 2 (BY a).toArray) cv,?_,by simpa[putCells] using g4,?_⟩
   .simp only[A8.one,A8.hp];rw[hb G.b ao,An rfl,O];rfl
   .rw[dB];refine⟨(cv.toList.drop (G.p+a.length*2)),?_⟩;apply Kj;intro t;rw[Iq,GX,putCells,ZeL,ah,<-pZ];by_cases ht:t<a.length*2
    .rw[EB (by rw[an];exact ht),GX,J4 (show G.p+t<cv.size by omega),J4 (by rw[ah];exact ht)];simp only[CQ,id];rw[An ⟨by omega,by omega⟩,uU,getElem!_pos _ _ (by rw[ah];exact ht)]
    .rw[F3 (by rw[an];omega),an,Iq,GX,show G.p+a.length*2+(t - a.length*2)=G.p+t by omega];cases cv[G.p+t]? with
     |none=>rfl
     |some x=>simp only[CQ];rw[Af (by omega)]
end Go.Ae
namespace Go.Ae
open Go.Proofs
def Xv(op:List (Ab×List Int)):Nat:=(op.map λq=>q.2.length).sum
def K5{β:Type}: ∀{l:List (Ab×β)} {q:Ab×β},(l.map Prod.fst).Nodup->q∈l->B8 l q.1=some q.2
 |x::r,q,hn,hq=>by
  obtain⟨p,v⟩:=x;rw[Be,Im] at hn;simp only[B8];rcases Bk.1 hq with rfl|hq
  .rw[An rfl]
  .have:q.1≠p:=λe=>hn.1 (by rw[<-e];exact Bt.2 ⟨q,hq,rfl⟩)
   rw[Af this];exact K5 hn.2 hq
def pO{g:Ab->List Int}: ∀(l:List Ab),(Cw g l).length=(l.map λp=>(g p).length).sum
 |[]=>rfl
 |p::r=>by
  have:=pO (g:=g) r
  simp only[Cw] at this;simp only[Cw,GB,Df,GZ,Be,Ls,this]
def Pa{op:List (Ab×List Int)}(h:(op.map Prod.fst).Nodup):(GK op).length=Xv op:=by
 rw[GK,pO,((cY h).map _).sum_nat,Rk];congr 1;refine Og λq hq=> ?_
 simp only[Function.comp,K5 h hq,AM]
def RD: ∀{l:List (Ab×List Int)},(∀q∈l,q.2≠[])->l.length<=Xv l
 |[],_=>Cx _
 |x::r,h=>by
  have G:0<x.2.length:=fL.2 (h x (BS ..));have z:=RD λq hq=>h q (BW x hq)
  simp only[Xv,Be,Ls,CM] at z⊢;omega
def pP(s:Ax){b:Ak}(O:b.Tiles.length<=500)(Q:s.Set.Tiles.length<=160):(Cm s b).length<=320000:=by
 have z:=Wv (g:=λp=>DN s (Bb b) p s.Set.Tiles.length) (m:=160) (λp=>D3 (Wx s (Bb b) p _) (by omega)) (Cv b b.Tiles.length);have Z:=Wr b b.Tiles.length;have G:(Cv b b.Tiles.length).length*160<=2000*160:=HI _ (by omega);exact D3 z G
def TE{s:Ax}{b:Ak}{op:List (Ab×List Int)}(hT:1<=s.Temperature)(h1:b.Tiles.length<=500)(h2:s.Set.Tiles.length<=160)(G:JI s (Bb b) op):
 GK op=Cm s b/\((op.map Prod.fst).Nodup/\op.length<=1000000/\ ∀q∈op,q.2.length<=1000)/\(GK op).length<=320000:=by
 have z:=TH hT G;have O:=Pa G.1;rw[z] at O;have Q: ∀q∈op,q.2=Ee s (Bb b) q.1/\q.2≠[]:=λq hq=>by
  have Z:=K5 G.1 hq;rw[G.2,FJ] at Z;split at Z
  .cases Z
  .rename_i c;have h6:=AD Z;exact⟨h6.symm,by rw[<-h6];exact c⟩
 have h6:op.length<=Xv op:=RD λq hq=>(Q q hq).2
 have h7:=pP s h1 h2;refine⟨z,⟨G.1,by omega,λq hq=> ?_⟩,by rw[z];exact h7⟩;rw[(Q q hq).1];exact D3 (Qus s _ _ _) (by omega)
def Ei(n:Int):Bool:= !Bh n 0 1000
def DV(l:List Int):Bool:=decide (l.length<=200) && !l.any Ei
def Gy(l:List Int)(n k:Nat):Nat:=if l.length=0 then 0 else (((l[k % l.length]?).getD 0) % (n:Int)).toNat
def rD{l:List Int}(h:DV l=true){x:Int}(G:x∈l):0<=x/\x<=1000:=by
 simp only[DV,AR,Ki] at h;have z:Ei x=false:=by
  cases hb:Ei x with
  |false=>rfl
  |true=>rw[Zeb.2 ⟨x,G,hb⟩] at h;cases h.2
 simpa[Ei,Bh] using z
def MQ{l:List Int}{n k:Nat}(hn:0<n):Gy l n k<n:=by
 simp only[Gy];split
 .exact hn
 .have z:=Int.emod_nonneg ((l[k % l.length]?).getD 0) (b:=(n:Int)) (by omega);have G:=Int.emod_lt_of_pos ((l[k % l.length]?).getD 0) (b:=(n:Int)) (by omega);omega
def GG(s:Ax)(l:List Int)(b:Ak)(k:Nat):Option Ap:=(Cm s b)[Gy l (Cm s b).length k]?
def W7{s:Ax}{l:List Int}{b:Ak}{k:Nat}:GG s l b k=none↔Cm s b=[]:=by
 simp only[GG,ZeB];constructor
 .intro h;cases he:Cm s b with
  |nil=>rfl
  |cons x r=>
   have:=MQ (l:=l) (k:=k) (n:=(Cm s b).length) (by rw[he];simp)
   omega
 .intro h;rw[h];simp
def Gr(s:Ax)(l:List Int):Nat->Ak->List Ap->List Ap×Ak×Int
 |0,b,d=>(d,b,0)
 |n+1,b,d=>match GG s l b d.length with
  |none=>(d,b,0)
  |some o=>if 500<=b.Tiles.length then ([],⟨[]⟩,4) else Gr s l n (BT b o.At o.Tile) (d++[o])
def NS(b:Ak)(p:Ab)(t:Int):(BT b p t).Tiles.length=b.Tiles.length+1:=by
 rw[WM];rw[(lQ ⟨p,t⟩ b.Tiles).length_eq,CM]
def rC{s:Ax}{l:List Int}: ∀(n:Nat) (b:Ak) (d:List Ap),b.Tiles.length<=500->501<=b.Tiles.length+n->Gr s l (n+1) b d=Gr s l n b d
 |0,b,d,z,G=>by omega
 |n+1,b,d,z,G=>by
  rw[Gr,Gr];split
  .rfl
  .split
   .rfl
   .rename_i o _ c;exact rC n _ _ (by rw[NS];omega) (by rw[NS];omega)
def Fl(s:Ax)(l:List Int):List Ap×Ak×Int:=if F2 s=false then ([],⟨[]⟩,1) else if DV l=false then ([],⟨[]⟩,2) else Gr s l 500 s.Seed []
def Yv{s:Ax}{b:Ak}(hb:DM s.Set b){o:Ap}(h:o∈Cm s b):Dn s b o=true:=by
 rw[Cm,Cw,ZeK] at h;obtain⟨p,hp,h⟩:=h;obtain⟨t,Q,rfl⟩:=Bt.1 h;rw[QC _ (AP _)] at hp;obtain⟨⟨G,O⟩,_⟩:=hp;have z: ∀n,t∈DN s (Bb b) p n->0<=t/\t<n/\s.Temperature<=C4 s.Set (Bb b) p t 4:=by
  intro n;induction n with
  |zero=>intro h;simp[DN] at h
  |succ n ih=>
   intro h;simp only[DN,Bv] at h;rcases h with h|h
   .have:=ih h;exact⟨this.1,by omega,this.2.2⟩
   .split at h
    .rename_i c;simp only[BJ] at h;subst h;exact⟨by omega,by omega,c⟩
    .cases h
 obtain⟨k1,k2,Z⟩:=z _ Q;show Dn s b ⟨p,t⟩=true;simp only[Dn,Bh,AR,BK];exact⟨G,⟨k1,by omega⟩,(NO hb.2 p).2 O,by rw[<-Wk];exact Z⟩
def QF{s:Ax}{l:List Int}{b:Ak}{k:Nat}(hb:DM s.Set b){o:Ap}(h:GG s l b k=some o):Dn s b o=true:=Yv hb (AZ h)
def Ea(s:Ax)(l:List Int):Nat->Ak->List Ap->List Ap×Ak×Bool×Int
 |0,b,d=>(d,b,(GG s l b d.length).isNone,0)
 |n+1,b,d=>match GG s l b d.length with
  |none=>(d,b,true,0)
  |some o=>if 500<=b.Tiles.length then ([],⟨[]⟩,false,4) else Ea s l n (BT b o.At o.Tile) (d++[o])
def LV{s:Ax}{l:List Int}: ∀(n:Nat) (b:Ak) (d:List Ap),((Ea s l n b d).1,(Ea s l n b d).2.1,(Ea s l n b d).2.2.2)=Gr s l n b d
 |0,b,d=>rfl
 |n+1,b,d=>by
  rw[Ea,Gr];split
  .rfl
  .split
   .rfl
   .exact LV n _ _
def XY{ι:Type}{P:Program}{V:CW}{N:Nat}{J:ι->(Nat->Prop)->World->Prop}{base:Nat}{ok0:Nat->Prop}{i j:ι}(HV:Hm P V)(O:Ob base J){ab:ι->List D->ι->Prop}{l:Nat}(hY: ∀i x j args Pr W,ab i x j->(∀ok hp,rdl ok hp x args.toList)->J i Pr W->YieldAt Fence.wide 0 P l args W λe W'=>e= .returned (.bool true)/\ ∃Pr',J j Pr' W'/\Iz ok0 Pr W Pr' W')
 {id:Nat}{ops:Array Oper}(k1:Nat)(ao:List.range ops.size=List.range' 0 (ops.toList.take k1).length++(k1::(List.range' (k1+1) (ops.toList.drop (k1+1)).length++[])))(ac:J2 N (ops.toList.take k1)=true)(ad:J2 N (ops.toList.drop (k1+1))=true)(z:WL ops=true)
 {o:Oper}{c:Call}{f:Operand}{x:List D}(s1:Aj){s s2:Aj}{a:Act}{w:World}{Q:Exit->Act->World->Prop}(ho:ops[k1]? =some o)(am:o.op= .call c)(Z:c.callee= .value f)(ah:o.guard=none)
 (hf:Ay s1.tm f= .im (.fn (1000000000+l) [] []))(G:D5 s1.tm c.args.toList=x.map .im)(an:x.all D.scs=true)(hx:ab i x j)(ak: ∀n e,hget s1.h n=some e->e.2.isView=false)(hd: ∀d,o.dst=some d->d<N)(af:s1.good=true)(ag:s2.good=true)
 (h:It J base ok0 N i s a w)(ai:KM P V (Gg ops (ops.toList.take k1)) (λs=>sub s s1) s)(aj:KM P V (Gg ops (ops.toList.drop (k1+1))) (λs=>sub s s2) (s1.put o.dst (.im (.bool true))))
 (aa: ∀a w,It J base ok0 N j s2 a w->Q .normal a w):(Code.region id ops false).wpIn Fence.wide 0 P Q a w:=by
 refine wpIn_region ?_;rw[ao];refine W3 HV O (seg:=ops.toList.take k1) (more:=ops.toList.drop k1) (by rw[Hq,Of]) ac z ai h (λs a w h1 h2=> ?_);have h3:=FQ h2 h1 af O;have hw:Region.wanted o (yielded ops a.tmps)=true:=by simp[Region.wanted,ah]
 refine qE O hY ho hw am Z hf G an hx ak hd h3 (λa w h4=> ?_);refine W3 HV O (seg:=ops.toList.drop (k1+1)) (more:=[]) (by rw[D2]) ad z aj h4 (λs a w h5 h6=> ?_);exact aa a w (FQ h6 h5 ag O)
abbrev FZ:=List (Ab×List Int)
def XN(op:FZ):nA:=⟨FZ×List Ab,(op,[]),λi x j=> ∃(k:Nat) (p:Ab×List Int),i.1[k]? =some p/\x=[.agg (Ab.c p.1)]/\j=(i.1.eraseIdx k,i.2++[p.1]),λi=>i.1=[]⟩
def HR(l:Nat)(left:FZ)(z:Option (D×D)):Aj:=⟨[(5,.it 0),(0,.im (.fn (1000000000+l) [] []))],[(0,(true,.iter z (left.map CL)))],1⟩
def wT(l:Nat)(left:FZ)(p:Ab×List Int):Aj:=⟨[(3,.ptr 1 0),(5,.it 0),(0,.im (.fn (1000000000+l) [] []))],[(0,(true,.iter (some (CL p)) (left.map CL))),(1,(true,.cells 96 [.im (.int .i64 p.1.X),.im (.int .i64 p.1.Y)]))],2⟩
def cX(l:Nat)(left:FZ)(z:Option (D×D)):(HR l left z).good=true:=by simp[HR,Aj.good,Am,Ac,A9,AV.bel]
def SX(l:Nat)(left:FZ)(p:Ab×List Int):(wT l left p).good=true:=by simp[wT,Aj.good,Am,Ac,Aq,A9,AV.bel]
def qF:J1 Tryz.prog (Qv []):=Q7 [] (by simp)
def OL(op:FZ):KW Tryz.prog 224 [.ref [.mp wS (op.map CL)]] (XN op):=by
 refine SM Tryz.func224 rfl rfl (by simp) ?_;intro l J base ok0 z hY a w aa;have HV:=fB qF;obtain⟨R,hR⟩: ∃R,R=(λ(e:Exit) (a:Act) (w:World)=> ∃i,(XN op).fin i/\SL J base ok0 Tryz.f224.ntmps i (λe _=>e= .normal\/e= .ret) e a w):=⟨_,rfl⟩;rw[<-hR];simp only[Tryz.f224] at aa⊢;refine Lk CV HV z (by decide) (by decide) aa (Qx:=BH (HR l op none)) ?_ (λs a w G Q=> ?_) (λ_ _ _ _ h=>h.elim) (λ_ _ _ h=>h.elim)
 .simp(disch:=omega)only[ZA,simprocAttr,BH,HR,entry,sub,wS]
 have h3:=FQ Q G (cX _ _ _) z;clear G Q aa;refine wpIn_block (wpIn_loop_ghost (λm a w=> ∃(i:FZ×List Ab) (O:Option (D×D)),m=i.1.length/\It J base ok0 14 i (HR l i.1 O) a w) op.length ⟨(op,[]),none,rfl,h3⟩ ?_);clear h3;rintro m a w ⟨⟨left,Z⟩,O,hm,h⟩;simp only at hm h;refine Lk CV HV z (by decide) (by decide) h (Qx:=λe s=>match e with
  | .normal=>(left=[]/\sub s ⟨(7,.im (.bool false))::(HR l left O).tm,(HR l left O).h,1⟩)\/ ∃(k:Nat) (p:Ab×List Int),left[k]? =some p/\sub s ⟨(7,.im (.bool true))::(HR l left O).tm,(HR l (left.eraseIdx k) (some (CL p))).h,1⟩
  |_=>False) ?_ (λs a w G Q=> ?_) (λ_ _ _ _ h=>h.elim) (λ_ _ _ h=>h.elim)
 .simp(disch:=omega)only[ZA,simprocAttr,HR,sub,Qwf];refine⟨λh=> .inl (by simpa using h),λi p hp=> ?_⟩;rw[D1] at hp;obtain⟨q,hq,rfl⟩:=Dx.1 hp;exact .inr ⟨i,q,hq,rfl⟩
 simp only at G;rcases G with ⟨hl,hs⟩|⟨k,p,hk,hs⟩
 .have h3:=FQ Q hs (by simp[HR,Aj.good,Am,Ac,A9,AV.bel]) z;refine Lk CV HV z (by decide) (by decide) h3 (Qx:=IP (HR l left O) False True 0) ?_ (λs a w G Q=>G.1.elim) (λid s a w G Q=> ?_) (λ_ _ _ h=>h.elim)
  .simp(disch:=omega)only[ZA,simprocAttr,IP,HR,sub]
  .obtain⟨rfl,_,G⟩:=G;simp only[Exit.then,Exit.inBlock,BM,hR,SL];exact⟨(left,Z),hl,s,.inl trivial,Q⟩
 have h3:=FQ Q hs (by simp[HR,Aj.good,Am,Ac,A9,AV.bel]) z;clear Q h hs;refine Lk CV HV z (by decide) (by decide) h3 (Qx:=IP (HR l (left.eraseIdx k) (some (CL p))) True False 0) ?_ (λs a w G Q=> ?_) (λid s a w G Q=>G.2.1.elim) (λ_ _ _ h=>h.elim)
 .simp(disch:=omega)only[ZA,simprocAttr,IP,HR,sub]
 have h:=FQ Q G.2 (cX _ _ _) z;clear G Q h3;refine wpIn_block ?_;refine Lk CV HV z (by decide) (by decide) h (Qx:=BH (wT l (left.eraseIdx k) p)) ?_ (λs a w G Q=> ?_) (λ_ _ _ _ h=>h.elim) (λ_ _ _ h=>h.elim)
 .simp(disch:=omega)only[ZA,simprocAttr,BH,HR,wT,sub,CL,Ab.c]
  trace_state
 have h3:=FQ Q G (SX _ _ _) z;clear G Q h;have ab:=(Cd.1 hk).1;obtain⟨F,hF⟩: ∃F:AV,F= .im (.fn (1000000000+l) [] []):=⟨_,rfl⟩;obtain⟨E,hE⟩: ∃E:Au,E=(true,.iter (some (CL p)) ((left.eraseIdx k).map CL)):=⟨_,rfl⟩;refine wpIn_seq (XY HV z hY (i:=(left,Z)) (j:=(left.eraseIdx k,Z++[p.1])) (x:=[.agg (Ab.c p.1)]) 2 (by decide) (by decide) (by decide) (by decide)
  (⟨[(11,.im (.agg (Ab.c p.1))),(10,F),(5,.it 0),(0,F)],[(0,E)],2⟩:Aj) (s2:=⟨[(13,.im (.bool false)),(5,.it 0),(0,F)],[(0,E)],2⟩) rfl rfl rfl rfl (by rw[hF];rfl) rfl (by rfl) ⟨k,p,hk,rfl,rfl⟩ ?_ (by decide) (by rw[hE,hF];simp[Aj.good,Am,Ac,A9,AV.bel]) (by rw[hE,hF];simp[Aj.good,Am,Ac,A9,AV.bel]) h3 ?_ ?_ (λa w h4=> ?_))
 .exact λn e he=>VV _ (by rw[hE];rfl) n e he
 .simp(disch:=omega)only[ZA,simprocAttr,wT,sub,hE,hF,Ab.c,Gg,WY,List.take]
 .simp(disch:=omega)only[ZA,simprocAttr,sub,hE,hF,Ab.c,Gg,WY,List.drop]
 simp only[Exit.then];refine uA CV HV z (by decide) (by decide) h4 (Qx:=BH (HR l (left.eraseIdx k) (some (CL p)))) ?_ (λs a w G Q=> ?_) (λ_ _ _ _ h=>h.elim) (λ_ _ _ h=>h.elim)
 .simp(disch:=omega)only[ZA,simprocAttr,BH,HR,sub,hE,hF]
 simp only[Exit.inBlock,Exit.then];exact⟨(left.eraseIdx k).length,by rw[Zee,An ab];omega,(left.eraseIdx k,Z++[p.1]),_,rfl,FQ Q G (cX _ _ _) z⟩
end Go.Ae
namespace Go.Ae
open Go.Proofs Go.RowKit Go.Lib Go.Sort
def pY{A:Type}: ∀(l:List A) (k:Nat) (x:A),l[k]? =some x->l.Perm (x::l.eraseIdx k)
 |[],k,x,h=>by simp at h
 |y::r,0,x,h=>by
  simp only[G9,AJ] at h;subst h;exact fZ _
 |y::r,k+1,x,h=>by
  rw[HF] at h;rw[uS];exact ((pY r k x h).cons y).trans (List.Perm.swap x y _)
def gD(op:FZ)(s:Aj)(xs:List AV):Prop:= ∃l:List Ab,l.Perm (op.map Prod.fst)/\ ∃m,xs=[.own m]/\hget s.h m=some (true,.arr 96 2 (l.map Ab.c))
def iH(op:FZ):D:= .fn 224 [] [.ref [.mp wS (op.map CL)]]
def gE{op:FZ}(hb:op.length<=1000000){C:AW}{S:A8}{vs:Array Value}{RR:Ending->World->Prop}(hW:Wf C S)(aq:EA S [.val (.sl true 0 []),.val (iH op)] vs.toList)
 (ad: ∀(v:Value) (C0:AW) (S1:A8) (l:List Ab) (m:Nat),C0.w=S.w->C0.ok=S.ok->(∀b,¬C0.M b)->Wf C0 S1->l.Perm (op.map Prod.fst)->S1.h m=some (true,.arr 96 2 (l.map Ab.c))->Aa S1 (.own m) v->RR (.returned v) S1.w):
 Calls Tryz.prog 255 vs S.w RR:=by
 have HV:=fB qF;refine pQ Tryz.func255 rfl (ps:=[.val (.sl true 0 []),.val (iH op)]) (show 2<=13 by decide) (Q:=gD op) ?_ hW aq ?_;rotate_left
 .rintro v C0 S1 s xs g1 g2 g3 g4 g5 ⟨l,hl,m,rfl,hm⟩ g7;exact ad v C0 S1 l m g1 g2 g3 g4 hl ((g5 m).trans hm) g7
 intro C0 a w hw af hc an;have ao:C0.ds=[]:=by obtain⟨S0,_,h⟩:=hc;rw[<-h.defers];exact an
 simp only[Tryz.f255] at hc⊢;refine uP CV HV (by decide) (by decide) (s':=⟨[(2,.ptr 0 0),(1,.im (iH op))],[(0,(true,.cells 50 [.im (.sl true 0 [])]))],2⟩) hc ?_ ?_ (by rw[af];exact Cx _) (λa w hc=> ?_)
 .simp(disch:=omega)only[ZA,simprocAttr,BH,sub,Di,D0,BI,entry]
 .simp[Aj.good,Am,Ac,Aq,A9,AV.bel]
 refine wpIn_seq ?_;refine uP CV HV (by decide) (by decide) (s':=⟨[(6,.im (iH op)),(2,.ptr 0 0)],[(0,(true,.cells 50 [.im (.sl true 0 [])]))],2⟩) hc ?_ ?_ (by rw[af];exact Cx _) (λa w hc=> ?_)
 .simp(disch:=omega)only[ZA,simprocAttr,BH,sub]
 .simp[Aj.good,Am,Ac,Aq,A9,AV.bel]
 refine wpIn_block (wpIn_mono (qC CV HV hc (gf:=224) (capt:=[.ref [.mp wS (op.map CL)]]) (X:=XN op) (NX (by kernel_rfl)) (OL op)
  (λ(i:FZ×List Ab)=>(i.2++i.1.map Prod.fst).Perm (op.map Prod.fst)) (fZ _) ?_ (by decide) (by decide) (by decide) (by decide) ?_ (by decide)
  (tm0:=[(6,.im (iH op)),(2,.ptr 0 0)]) (hs:=λ(i:FZ×List Ab)=>[(0,(true,.cells 50 [.own 2])),(2,(true,.arr 96 2 (i.2.map Ab.c)))]) (nx:=3) ⟨[(2,none)],?_⟩ rfl (by simp) ?_ ?_ ?_ ?_) ?_)
 .rintro⟨left,O⟩ x j G ⟨k,p,hk,rfl,rfl⟩;simp only at hk G⊢;have h1:(left.map Prod.fst).Perm (p.1::(left.eraseIdx k).map Prod.fst):=by
   exact (pY left k p hk).map Prod.fst
  refine List.Perm.trans ?_ G;rw[Hr];exact (h1.append_left O).symm
 .rintro⟨left,O⟩ x j G ⟨k,p,hk,rfl,rfl⟩;rfl
 .simp only[Az];simp(disch:=omega)only[ZA,simprocAttr,Xh];exact (trivial:Tz true (.arr 0 0 []))
 .simp[Am,AV.bel]
 .rintro⟨left,O⟩ G;simp[Aj.good,Am,Ac,Aq,A9,AV.bel]
 .intro i o e he hv;rw[VV _ (by rfl) o e he] at hv;cases hv
 .rintro⟨left,O⟩ x j G ⟨k,p,hk,rfl,rfl⟩;have au:O.length<=op.length:=by
   have:=G.length_eq
   simp at this;omega
  simp(disch:=omega)only[ZA,simprocAttr,Ou,Uv,Fs];refine⟨λrow ab=>by rw[BJ] at ab;subst ab;rfl,by omega,[(2,some 5)],?_⟩;simp only[Az];simp(disch:=omega)only[ZA,simprocAttr,Br,GD]
 .rintro e a' w' ⟨⟨left,O⟩,G,ac,hq⟩;simp only[XN] at ac;subst ac;simp only[Hc,D2] at G;cases e<;>simp only[YA] at hq;obtain⟨C2,S2,Dk,rfl,hE,Z,ht,hd,ag,ah,ai,aj,ak⟩:=hq;simp only[Exit.inBlock,Exit.then];have am:a.defers=[]:=by obtain⟨S0,_,h⟩:=hc;rw[h.defers];exact ao
  rw[am] at hd;have hm: ∀a'':Act,a''.defers=C2.ds->tZ C0 C2 a''.defers:=λa'' h=> .inr ⟨Dk,by rw[h,<-hE.defers,hd],ag,ah,ai,aj,ak⟩
  refine wpIn_mono (kN (ro:=none) CV HV _ (by decide) (by decide) (Uq Tryz.prog [ResultVar.tmp 4] (gD op)) _ a' S2.w ?_ ⟨S2,rfl,hE⟩) ?_
  .simp(disch:=omega)only[ZA,simprocAttr,Uq,Pn,gD];exact⟨_,rfl,O,G,2,rfl,rfl⟩
  .intro e a'' w'' hq;cases e<;>simp only[FW] at hq<;>simp only[Po]
   .obtain⟨s',aa,z⟩:=hq;exact⟨s',C2,aa,z,Z,hm a'' (by obtain⟨S0,_,h⟩:=z;exact h.defers)⟩
   .obtain⟨s',aa,z⟩:=hq;exact aa.elim
   .obtain⟨s',aa,z⟩:=hq;exact⟨s',C2,aa,z,Z,hm a'' (by obtain⟨S0,_,h⟩:=z;exact h.defers)⟩
def UV(a:List Ab)(j:Nat):Ao (srtQ.H0 a) j=true↔j<1:=by
 simp only[Ao,srtQ.H0,hget];by_cases z:j=0
 .subst z;simp
 .have:(0==j)=false:=by simpa using λh=>z h.symm
  rw[this];simp;omega
def mX(op:FZ)(S:A8)(v:Value)(w:World):Prop:= ∃(z:AW) (S1:A8) (l:List Ab) (m:Nat),S1.w=w/\z.w=S.w/\z.ok=S.ok/\(∀b,¬z.M b)/\Wf z S1/\l.Perm (op.map Prod.fst)/\S1.h m=some (true,.arr 96 2 (l.map Ab.c))/\Aa S1 (.own m) v
def Xw{op:FZ}(hb:op.length<=1000000){C:AW}{S:A8}{v1:Value}(hW:Wf C S)(hv:EA S [.val (iH op)] [v1]):
 Calls Tryz.prog 222 #[v1] S.w (λe w=> ∃v,e= .returned v/\mX op S v w):=by
 have z:Calls Tryz.prog 255 #[.slice none 0 0,v1] S.w (λe w=> ∃v,e= .returned v/\mX op S v w):=by
  refine gE hb hW ⟨_,_,rfl,?_,hv⟩ (λv G S1 l m g1 g2 O Q Z g6 g7=>⟨v,rfl,G,S1,l,m,rfl,g1,g2,O,Q,Z,g6,g7⟩);exact cZ S (.slice none 0 0)
 go_enter Tryz.func222,Tryz.ntmps222
 go_wp2_with (go_at_call 255;refine z.mono ?_;rintro e w' ⟨v,rfl,h⟩)
 go_ret
 exact⟨v,rfl,h⟩
def PA{Z:AW}{S1:A8}{l:List Ab}{m:Nat}{v Q:Value}{R:Ending->World->Prop}(hW:Wf Z S1)(hd:l.Nodup)(hm:S1.h m=some (true,.arr 96 2 (l.map Ab.c)))(hv:Aa S1 (.own m) v)(ab:Aa S1 (.im (.fn 161 [] [])) Q)
 (G: ∀u S',Wf Z S'->S'.h m=some (true,.arr 96 2 ((BY l).map Ab.c))->Aa S' (.own m) v->R (.returned u) S'.w):
 Calls Tryz.prog 223 #[v,Q] S1.w R:=by
 have O:srtQ.row [.own m,.im (.fn 161 [] [])] S1.h (m+1) (λr E=>E={use:=[m],kill:=[m],new:=[(m,(true,.arr 96 2 ((BY l).map Ab.c)))],cnt:=0}):=by
  refine AF.os l [m] hd (UV l) rfl (by simp[WZ]) ⟨rfl,?_⟩ ?_
  .simp only[srtQ.H0,CO,Cg,Iw];exact⟨hm,trivial⟩
  .rfl
 obtain⟨_,r,E,hT,rfl⟩:=srtQ.ok _ _ _ _ O;have z: ∀n,¬Fr (m+1) 0 n:=λn h=>by have:=h.1;have:=h.2;omega
 refine hT Z S1 #[v,Q] R hW (λn _=>rfl) (λn hn=>(z n hn).elim) (λn e _ k _ hk=>z k hk) ⟨v,[Q],rfl,hv,Q,[],rfl,ab,rfl⟩ ?_;intro u S' aa hh hp _;refine G u S' aa ?_ (Ic hp _ _ (λo _ hf=>z o hf) hv);rw[hh];simp[Bo.appf,hget]
def sorF.ar:List PK->Option FZ
 |[.val (.fn 224 [] [.ref [.mp ⟨true,[.int .i64,.int .i64]⟩ z]]),.val (.fn 161 [] [])]=>Gp (E8 Ab.d) (Qy Cq) z
 |_=>none
def sorF.ae(op:FZ):List PK:=[.val (iH op),.val (.fn 161 [] [])]
def sorF.le: ∀z a,sorF.ar z=some a->BL z (sorF.ae a):=by
 intro z a h;unfold sorF.ar at h;split at h
 .exact⟨V9 ⟨Ra (CF.leP ⟨Ta (Qxb Qwu (rK Dt (λ_=>rfl)) _ _ h),trivial⟩),trivial⟩,Co.refl _,trivial⟩
 .cases h
def sorF.fv(op:FZ):List Ab:=BY (op.map Prod.fst)
def sorF.row:AB:=Lg sorF.ar (λop=>(op.map Prod.fst).Nodup/\op.length<=1000000) (λop=> .sl false 2 ((sorF.fv op).map Ab.c))
def sorF.q:=xS sorF.row rfl
def sorF.ok:AC Tryz.prog 197 sorF.row:=by
 refine Quy (by kernel_rfl) sorF.le (rc:=Qy Ab.d) (re:=λb=> .sl false 2 (b.map Ab.c)) (rK Ab.d_le (λ_=>rfl)) (f:=sorF.fv) (λop Q C S vs RR hW Z O=> ?_);obtain⟨ad,hb⟩:=Q;simp only[sorF.ae,EA] at Z;obtain⟨v1,r1,ai,ag,v2,r2,rfl,ah,rfl⟩:=Z;have ab:vs= #[v1,v2]:=by apply Oj;simpa using ai
 subst ab;have G:=Xw hb hW (v1:=v1) ⟨v1,[],rfl,ag,rfl⟩
 go_enter Tryz.func197,Tryz.ntmps197
 have aa: ∀S1:A8,Aa S1 (.im (.fn 161 [] [])) v2:=λS1=>by simpa only[JJ,Aa,rd,rdl] using ah
 have af: ∀(z:AW) (S1:A8) (l:List Ab) (m:Nat) (v:Value),Wf z S1->l.Perm (op.map Prod.fst)->S1.h m=some (true,.arr 96 2 (l.map Ab.c))->Aa S1 (.own m) v->
  Calls Tryz.prog 223 #[v,v2] S1.w (λe w=> ∃u S',e= .returned u/\S'.w=w/\Wf z S'/\S'.h m=some (true,.arr 96 2 ((sorF.fv op).map Ab.c))/\Aa S' (.own m) v):=by
  intro z S1 l m v g4 g5 g6 g7;refine PA g4 (g5.nodup_iff.2 ad) g6 g7 (aa S1) (λu S' h1 h2 h3=>⟨u,S',rfl,rfl,h1,?_,h3⟩)
  have:BY l=BY (op.map Prod.fst):=cW (NN _) (NN _) (λq=>by rw[JU,JU];exact g5.mem_iff)
  rw[h2,this];rfl
 go_wp2_with (first
  |(go_at_call 222;refine G.mono ?_;rintro e w' ⟨v,rfl,z,S1,l,m,rfl,g1,g2,g3,g4,g5,g6,g7⟩)
  |(go_at_call 223;refine (af z S1 l m v g4 g5 g6 g7).mono ?_;rintro e w' ⟨u,S',rfl,rfl,h1,h2,h3⟩))
 show RR (.returned v) S'.w;obtain⟨d,rfl,ac⟩:=Qzf (K:=λd=>d= .sl false 2 ((sorF.fv op).map Ab.c)) g3 h1 (x:= .own m) (by
  simp only[OD,h2,hC];exact⟨by intro row hr;obtain⟨p,_,rfl⟩:=Bt.1 hr;rfl,trivial⟩) h3
 exact O v z S' _ g1 g2 g3 h1 (by simp only[B4,Qy,Ab.d_R]) ac
def Bm.ca(_:FZ):List AV:=[.mp 0]
def Bm.H0(a:FZ):Aw:=[(0,(true,.map wS (a.map CL)))]
def Bm.H1(_:FZ):Aw:=[(1,(true,.cells 153 [.mp 0]))]
def Bm.r0(_:FZ):AV:= .clo 224 [] [.ptr 1 0]
def Bm.row:AB:=AF Bm.ca Bm.H0 1 (λ_=>True) (λ_=>false) Bm.r0 Bm.H1 1
def Bm.ok:AC Tryz.prog 198 Bm.row:=by
 refine ow tN Tryz.func198 rfl (by kernel_rfl) (exB:=λj=>j==1) (R:=λa r=>r=Bm.r0 a) (λ_=>rfl)
  (λa=>by simp[Bm.ca,Bm.H0,Aq,AV.bel,Ac,A9,BR,Ad.nms,Ao,hget]) (λa p hp=> ?_) (λa r h=>by subst h;exact CJ.refl _) ?_
 rotate_left
 intro a z;simp only[Tryz.f198,Bm.ca,Bm.H0,Bm.H1,Bm.r0];simp(disch:=omega)only[ZA,simprocAttr];simp[Bm.H1] at hp;subst hp;exact .inr ⟨by omega,by omega,rfl,rfl⟩
end Go.Ae
namespace Go.Ae
open Go.Proofs
def Mj{β:Type}{v:β}{p:Ab}: ∀{t:List (Ab×β)},B8 t p=some v->(p,v)∈t
 |(q,w)::r,h=>by
  simp only[B8] at h;split at h
  .rename_i e;obtain rfl:=AD h;rw[e];exact BS ..
  .exact BW _ (Mj h)
def qD{β:Type}{p:Ab}: ∀{t:List (Ab×β)},B8 t p=none->p∉t.map Prod.fst
 |[],_=>by simp
 |(q,w)::r,h=>by
  simp only[B8] at h;split at h
  .cases h
  .rename_i e;simp only[Be,Bk,aC];exact⟨e,qD h⟩
def SQ(a:FZ)(j:Nat):Ao (Bm.H0 a) j=true↔j<1:=by
 simp only[Ao,Bm.H0,hget];by_cases h0:j=0
 .subst h0;simp
 .have z:(0==j)=false:=by simp;omega
  simp[z];omega
def lisC.r0(a:Cj):AV:= .im (.sl false 3 ((GK a.Op).map Ap.c))
def lisC.row:AB:=AF asmC.ca B3 3 (λa=>(a.Op.map Prod.fst).Nodup/\a.Op.length<=1000000/\ ∀q∈a.Op,q.2.length<=1000) (λ_=>false) lisC.r0 (λ_=>[]) 20
def lisC.ok:AC Tryz.prog 155 lisC.row:=by
 refine Pb (tC Bm.ok (tC sorF.ok tN)) Tryz.func155 rfl (by kernel_rfl) (exB:=λ_=>false) (R:=λa r=>r=lisC.r0 a) (λ_=>rfl)
  (λa=>by simp[asmC.ca,B3,BU,Aq,AV.bel,Ac,A9,BR,Ad.nms,AG,AV.nms,Ao,hget]) (λa p hp=> ?_) (λa r h=>by subst h;exact CJ.refl _) ?_
 rotate_left
 intro a ab;simp only[Tryz.f155,asmC.ca,B3,BU];simp(disch:=omega)only[ZA,simprocAttr];obtain⟨Z,aa,af⟩:=ab;refine AF.os a.Op [2] trivial (λj=>SQ _ j) rfl rfl ?_ ?_
 .simp(disch:=omega)only[ZA,simprocAttr,DH,Bm.ca,Bm.H0,Dj];rfl
 simp(disch:=omega)only[ZA,simprocAttr,C8,sorF.q,sorF.ar,sorF.fv,DH,Bm.H1,Bm.r0];obtain⟨L,hL⟩: ∃L,L=BY (a.Op.map Prod.fst):=⟨_,rfl⟩;obtain⟨g,hg⟩: ∃g:Ab->List Int,g=λp=>(B8 a.Op p).getD []:=⟨_,rfl⟩
 have ad:GK a.Op=Cw g L:=by rw[hg,hL];rfl
 refine⟨⟨Z,aa⟩,?_⟩;simp only[<-hL];intro ag;refine AQ.ren ⟨{i:Nat//i<=L.length},λi=>⟨[(15,.im (.int .i64 i.1)),(14,.im (.int .i64 L.length)),(13,.im (.sl false 2 (L.map Ab.c))),(3,.own 6),(0,.ptr 0 0)],[(6,(true,.arr 108 3 ((Ef g L i.1).map Ap.c))),(0,(true,.cells 155 (BU a.Sys))),(1,(true,.map ⟨true,[.int .i64,.int .i64]⟩ (a.Tl.map DJ))),(2,(true,.map ⟨true,[.int .i64,.int .i64]⟩ (a.Op.map CL)))],7⟩,λi=>L.length - i.1,λi=>⟨by simp[Aj.good,Am,Ac,A9,AV.bel,Aq,BU],by simp⟩,⟨⟨0,Cx _⟩,[(6,some 4)],?_⟩,λi=> ?_⟩
 .simp only[Az,BU];simp(disch:=omega)only[ZA,simprocAttr,Br,Ef,Cw]
  try simp
 obtain⟨i,hi⟩:=i;simp only[BU];simp(disch:=omega)only[ZA,simprocAttr,Fy,AO,Yh];have z: ∀p,(g p).length<=1000:=λp=>by
  rw[hg];simp only;cases hq:B8 a.Op p with
  |none=>simp
  |some v=>exact af _ (Mj hq)
 have ah:L.length<=1000000:=by rw[hL,(cY Z).length_eq,GZ];exact aa
 have ai:(Ef g L i).length<=1000000*1000:=by
  have:=Wv z (L.take i)
  have h9:(L.take i).length*1000<=1000000*1000:=HI _ (by simp;omega);simp only[Ef];omega
 refine⟨λO=>⟨O,λp hp=>⟨λv hv=> ?_,λhv=> ?_⟩⟩,λO=> ?_⟩
 .have G:g p=v:=by rw[hg];simp only[hv,AM]
  have ac:=z p;rw[G] at ac;refine AQ.ren ⟨{k:Nat//k<=v.length},λk=>⟨[(26,.im (.int .i64 k.1)),(25,.im (.int .i64 v.length)),(24,.im (.sl false 1 (v.map Ai))),(5,.ptr 7 0),(15,.im (.int .i64 i)),(14,.im (.int .i64 L.length)),(13,.im (.sl false 2 (L.map Ab.c))),(3,.own 8),(0,.ptr 0 0)],[(8,(true,.arr 108 3 ((Ef g L i++(v.take k.1).map (OO p)).map Ap.c))),(7,(true,.cells 96 ((Ab.c p).map .im))),(0,(true,.cells 155 (BU a.Sys))),(1,(true,.map ⟨true,[.int .i64,.int .i64]⟩ (a.Tl.map DJ))),(2,(true,.map ⟨true,[.int .i64,.int .i64]⟩ (a.Op.map CL)))],9⟩,λk=>v.length - k.1,λk=>⟨by simp[Aj.good,Am,Ac,A9,AV.bel,Aq,BU,Ab.c],by simp⟩,⟨⟨0,Cx _⟩,[(8,some 6)],?_⟩,λk=> ?_⟩
  .simp only[Az,BU];simp(disch:=omega)only[ZA,simprocAttr,Br]
   try simp
  obtain⟨k,hk⟩:=k;simp only[BU];simp(disch:=omega)only[ZA,simprocAttr,DH,AO,NJ,NF,xW,Bz,D.one,Df];refine⟨λQ=>⟨Q,λx hx=>⟨?_,⟨k+1,by omega⟩,[(8,some 10)],by simp only;omega,?_⟩⟩,λQ=>⟨⟨i+1,by omega⟩,[(6,some 8)],by simp only;omega,?_⟩⟩
  .have:(v.take k).length<=1000:=by simp;omega
   omega
  .simp only[Az];simp(disch:=omega)only[ZA,simprocAttr,Br];refine⟨by rw[AH (by omega) (by omega)];rfl,?_⟩;rw[Ll hx];simp[OO,Ap.c]
  .obtain rfl:k=v.length:=by omega
   simp only[Az];simp(disch:=omega)only[ZA,simprocAttr,Br];refine⟨by rw[AH (by omega) (by omega)];rfl,?_⟩;rw[pV hp,GC,G]
 .exfalso
  have:p∈L:=AZ hp
  rw[hL,JU] at this;exact qD hv this
 .obtain rfl:i=L.length:=by omega
  have hA:Ef g L L.length=GK a.Op:=by rw[Ef,GC,ad]
  rw[hA];refine⟨[6],[],⟨[(2,.im (.sl false 3 ((GK a.Op).map Ap.c)))],[(0,(true,.cells 155 (BU a.Sys))),(1,(true,.map ⟨true,[.int .i64,.int .i64]⟩ (a.Tl.map DJ))),(2,(true,.map ⟨true,[.int .i64,.int .i64]⟩ (a.Op.map CL)))],3⟩,?_,by simp[Aj.good,Am,Ac,A9,AV.bel,Aq,BU],by simp,?_⟩
  .simp only[Az,BU];simp(disch:=omega)only[ZA,simprocAttr,Br]
  .simp only[BU];simp(disch:=omega)only[ZA,simprocAttr,lisC.r0]
 simp at hp
def schB1.fv(a:Int):Bool:=(Ei) a
def schB1.row:AB:=vK (b1 qI) rB (λa=>True) schB1.fv
def schB1.q:=AT (R:=schB1.row) rfl
def schB1.ok:AC Tryz.prog 101 schB1.row:=by
 refine vw (tC within_.ok tN) Tryz.func101 rfl (by kernel_rfl) ?_;intro a z;simp only[Tryz.f101];simp(disch:=omega)only[ZA,simprocAttr,schB1.fv,within_.q,within_.fv];rfl
def IdxSc.ar:List PK->Option ((List Int)×Unit)
 |[.val (.sl _ _ z),.val (.fn 101 [] [])]=>(AS Cq z).bind λG=>some (G,())
 |_=>none
def IdxSc.ae(a:(List Int)×Unit):List PK:=[.val (.sl false 1 (a.1.map Ai)),.val (.fn 101 [] [])]
def IdxSc.le: ∀z a,IdxSc.ar z=some a->BL z (IdxSc.ae a):=by
 intro z a h;unfold IdxSc.ar at h;split at h
 .simp only[Eg,AJ] at h;obtain⟨G,h0,rfl⟩:=h;exact⟨DE (Dz Dt _ _ h0) (by simp only[Bt];rintro r ⟨y,_,rfl⟩;rfl),Co.refl _,trivial⟩
 .cases h
def IdxSc.fv(a:(List Int)×Unit):Int:=(λl _=>Bp Ei 0 l) (a.1) (a.2)
def IdxSc.row:AB:=Ec IdxSc.ar (λa=>True) (λa=>(D.int .i64) (IdxSc.fv a))
def IdxSc.q:=vq IdxSc.row rfl
def IdxSc.ok:AC Tryz.prog 150 IdxSc.row:=by
 refine Wp CV (tC schB1.ok tN) Tryz.func150 rfl (by kernel_rfl) (by kernel_rfl) (ar:=IdxSc.ar) (ae:=IdxSc.ae) IdxSc.le (n:=2) (λ_=>rfl) (by decide) (rc:=(DC)) (re:=(D.int .i64)) (N3) (f:=IdxSc.fv) ?_;intro a O;simp only[Tryz.f150];simp(disch:=omega)only[ZA,simprocAttr,IdxSc.ae,IdxSc.fv];intro hn;refine AQ.old ⟨{k:Nat//k<=a.1.length/\Bp Ei k (a.1.drop k)=Bp Ei 0 a.1},λk=>⟨[(8,.im (.int .i64 k.1)),(7,.im (.int .i64 a.1.length)),(6,.im (.sl false 1 (a.1.map Ai))),(4,.im (.int .i64 0)),(0,.im (.sl false 1 (a.1.map Ai))),(1,.im (.fn 101 [] []))],[],0⟩,λk=>a.1.length - k.1,λk=>⟨by simp[Aj.good,Am,Ac,A9,AV.bel],AP _⟩,⟨⟨0,by simp⟩,by simp(disch:=omega)only[ZA,simprocAttr,sub]⟩,λk=> ?_⟩;obtain⟨k,Q,z⟩:=k;simp(disch:=omega)only[ZA,simprocAttr,schB1.q,schB1.fv,sub,AO];refine⟨λG=>⟨G,λx Z=> ?_⟩,λG=> ?_⟩
 .rw[Fc Z,Bp] at z;refine⟨λh=> ?_,λh=>G4 G hn ⟨by omega,by rw[<-z,Af (by simpa using h)]⟩⟩;rw[An (by simpa using h)] at z;exact z
 .rw[Dl (by omega),Bp] at z;exact z
def ContSc.ar:List PK->Option ((List Int)×Unit)
 |[.val (.sl _ _ z),.val (.fn 101 [] [])]=>(AS Cq z).bind λG=>some (G,())
 |_=>none
def ContSc.ae(a:(List Int)×Unit):List PK:=[.val (.sl false 1 (a.1.map Ai)),.val (.fn 101 [] [])]
def ContSc.le: ∀z a,ContSc.ar z=some a->BL z (ContSc.ae a):=by
 intro z a h;unfold ContSc.ar at h;split at h
 .simp only[Eg,AJ] at h;obtain⟨G,h0,rfl⟩:=h;exact⟨DE (Dz Dt _ _ h0) (by simp only[Bt];rintro r ⟨y,_,rfl⟩;rfl),Co.refl _,trivial⟩
 .cases h
def ContSc.fv(a:(List Int)×Unit):Bool:=(λl _=>l.any Ei) (a.1) (a.2)
def ContSc.row:AB:=Ec ContSc.ar (λa=>True) (λa=>(D.bool) (ContSc.fv a))
def ContSc.q:=vq ContSc.row rfl
def ContSc.ok:AC Tryz.prog 100 ContSc.row:=by
 refine Wp CV (tC IdxSc.ok tN) Tryz.func100 rfl (by kernel_rfl) (by kernel_rfl) (ar:=ContSc.ar) (ae:=ContSc.ae) ContSc.le (n:=2) (λ_=>rfl) (by decide) (rc:=(Vy)) (re:=(D.bool)) (kA) (f:=ContSc.fv) ?_;intro a z;simp only[Tryz.f100];simp(disch:=omega)only[ZA,simprocAttr,ContSc.ae,ContSc.fv,IdxSc.q,IdxSc.ar,IdxSc.fv];exact Qsr _ _
def vSch_.fv(a:(List Int)):Bool:=(DV) a
def vSch_.row:AB:=vK (b1 (qS Dt C5)) rB (λa=>True) vSch_.fv
def vSch_.q:=AT (R:=vSch_.row) rfl
def vSch_.ok:AC Tryz.prog 52 vSch_.row:=by
 refine vw (tC ContSc.ok tN) Tryz.func52 rfl (by kernel_rfl) ?_;intro a z;simp only[Tryz.f52];simp(disch:=omega)only[ZA,simprocAttr,vSch_.fv,ContSc.q,ContSc.ar,ContSc.fv];intro _;simp only[DV];by_cases c:a.length<=200
 .rw[An (by omega),uZ c,DZ]
 .rw[Af (by omega),ZY c,F5]
def sel1_.fv(a:Int×Int×(List Int)):Int:=(λn k l=>(Gy l n.toNat k.toNat:Int)) (a.1) (a.2.1) (a.2.2)
def sel1_.row:AB:=vK (b3 qI qI (qP 1 eH)) rI (λa=>1<=a.1/\a.1<=1000000/\0<=a.2.1/\a.2.1<=1000/\DV a.2.2=true) sel1_.fv
def sel1_.q:=AT (R:=sel1_.row) rfl
def sel1_.ok:AC Tryz.prog 154 sel1_.row:=by
 refine vw tN Tryz.func154 rfl (by kernel_rfl) ?_;intro a z;simp only[Tryz.f154];simp(disch:=omega)only[ZZ,simprocAttr,sel1_.fv];obtain⟨n,k,l⟩:=a;obtain⟨h1,h2,Q,h4,Z⟩:=z;simp only at h1 h2 Q h4 Z⊢;obtain⟨n,rfl⟩: ∃m:Nat,n=m:=⟨n.toNat,by omega⟩;obtain⟨k,rfl⟩: ∃m:Nat,k=m:=⟨k.toNat,by omega⟩;intro _;by_cases c:(l.length:Int)=0
 .rw[An c];simp only[Gy];rw[An (by omega)];rfl
 rw[Af c];refine⟨c,Zej _ Q,ZdS _ (by omega),λx G=>⟨by omega,?_⟩⟩;have O:=rD Z (AZ G);rw[fN (by omega),<-Int.natCast_emod,Bx] at G;simp only[Gy,Bx];rw[Af (by omega),G,AM,fN O.1,Zek (Int.emod_nonneg _ (by omega))]
def slD:D->Option (List Int)
 | .fn g [] [.ref ds]=>if g=154 then Qh ds else none
 |_=>none
def jO: ∀d b,slD d=some b->Le d (.fn 154 [] [.ref (CG b)]):=by
 intro d b h;unfold slD at h;split at h
 .rename_i g ds;split at h
  .rename_i z;subst z;refine V9 ?_;exact⟨Ra (eH _ _ h).leP,trivial⟩
  .cases h
 .cases h
def sel_.fv(a:(List Int)):List Int:=(λl=>l) a
def sel_.row:AB:=vK (b1 (qS Dt C5)) (RK.mk (slD) (λa=>D.fn 154 [] [.ref (CG a)]) (jO)) (λa=>True) sel_.fv
def sel_.q:=AT (R:=sel_.row) rfl
def sel_.ok:AC Tryz.prog 108 sel_.row:=by
 refine vw tN Tryz.func108 rfl (by kernel_rfl) ?_;intro a z;simp only[Tryz.f108];simp(disch:=omega)only[ZA,simprocAttr,sel_.fv];refine .inl ?_;show (if 154=154 then Qh (CG a) else none)=some a;rw[An rfl,MX]
def asmX.ca(l:List Al):List AV:=[.im (.sl false 3 (l.map Al.c))]
def asmX.H1(l:List Al):Aw:=[(0,(true,.arr 137 3 ((EV l).map Al.c)))]
def asmX.r0(_:List Al):AV:= .agg [.own 0]
def asmX.row:AB:=AF asmX.ca (λ_=>[]) 0 (λl=>(l.map Al.At).Nodup/\l.length<=1000000) (λ_=>false) asmX.r0 asmX.H1 20
def asmX.ok:AC Tryz.prog 111 asmX.row:=by
 refine Pb (tC clonC.ok (tC srt.ok tN)) Tryz.func111 rfl (by kernel_rfl) (exB:=λj=>j==0) (R:=λa r=>r=asmX.r0 a) (λ_=>rfl)
  (λa=>by simp[asmX.ca,Aq,AV.bel,Ac,A9,BR]) (λa p hp=> ?_) (λa r h=>by subst h;exact CJ.refl _) ?_
 rotate_left
 intro a z;simp only[Tryz.f111,asmX.ca,asmX.H1];simp(disch:=omega)only[ZA,simprocAttr];refine AF.os a [] z.2 (λj=>by simp[Ao,hget]) rfl rfl ?_ ?_
 .simp(disch:=omega)only[ZA,simprocAttr,clonC.ca,CO]
 simp(disch:=omega)only[ZA,simprocAttr,clonC.H1];refine AF.os a [1] z.1 (λj=> ?_) rfl rfl ?_ ?_
 .simp only[Ao,srt.H0,hget];by_cases G:j=0
  .subst G;simp
  .have:(0==j)=false:=by simpa using λh=>G h.symm
   rw[this];simp;omega
 .simp(disch:=omega)only[ZA,simprocAttr,DH,srt.ca,srt.H0,CO]
  try exact⟨rfl,rfl⟩
 simp(disch:=omega)only[ZA,simprocAttr,Fy,DH,srt.H1,Dj,EI];refine⟨[],[(1,some 0),(0,some 1)],⟨[(2,.ptr 1 0)],[(1,(true,.cells 39 [.own 0])),(0,(true,.arr 137 3 ((EV a).map Al.c)))],2⟩,?_,by simp[Aj.good,Am,Ac,A9,AV.bel,Aq],by simp,?_⟩
 .simp only[Az];simp(disch:=omega)only[ZA,simprocAttr,Br]
  try simp
 .simp(disch:=omega)only[ZA,simprocAttr,asmX.r0]
 simp[asmX.H1] at hp;subst hp;exact .inr ⟨by omega,by omega,rfl,rfl⟩
def asmXV.ar:List PK->Option (List Al):=a1 (kS Al.d)
def asmXV.row:AB:=EZ asmXV.ar (λl=>(l.map Al.At).Nodup/\l.length<=1000000) asmX.r0 asmX.H1 20
def asmXV.ok:AC Tryz.prog 111 asmXV.row:=
 pD (A:=List Al) (ca:=λ(a:List Al)=>[D.sl false 3 (a.map Al.c)]) (by kernel_rfl) asmX.ok (λ_=>rfl) (aD (SP 3 Al.d_le (λ_=>rfl)))
  (λa=>by simp[asmX.r0,Ix,Eu,AV.nms,AG])
  (λa p hp=>by
   simp only[asmX.H1,BJ] at hp;subst hp;exact⟨by omega,rfl,by simp[JC,Al.c,D.sc],by simp[Ad.nms]⟩)
def EZ.os{A:Type}{ar:List PK->Option A}{pre:A->Prop}{r0:A->AV}{H1:A->Aw}{cnt:Nat}{args:List AV}{h:Nat->Option Au}{nx:Nat}{K:Ah}(ps:List PK)(G:C7 h args=some ps)(a:A)(Q:ar ps=some a)(z:pre a)
 (O:K ((r0 a).ren (Cg (λj=>j) 0 nx)) {use:=Fu h args,new:=AY (Cg (λj=>j) 0 nx) (H1 a),cnt:=cnt}):EZ ar pre r0 H1 cnt args h nx K:=by
 unfold EZ;rw[G];simp only[Wy,Q,El];exact⟨z,O⟩
def xE{h:Nat->Option Au}{o T k:Nat}{z:Bool}{rows:List (List D)}(g:h o=some (z,.arr T k rows)):C7 h [.own o]=some [.val (.sl false k rows)]:=by
 simp only[C7,ER,bk,g,Lm,Ft,I1,CQ]
def asmCX.H1(a:Cj):Aw:=[(1,(false,.map ⟨true,[.int .i64,.int .i64]⟩ (a.Tl.map DJ))),(3,(true,.arr 137 3 ((IG a.Tl).Tiles.map Al.c)))]
def asmCX.row:AB:=AF asmC.ca B3 3 (λa=>(a.Tl.map Prod.fst).Nodup/\a.Tl.length<=100000) mT (λ_=> .agg [.own 3]) asmCX.H1 20
def asmCX.ok:AC Tryz.prog 56 asmCX.row:=by
 refine Pb (tC asmXV.ok tN) Tryz.func56 rfl (by kernel_rfl) (exB:=λj=>j==3) (R:=λ_ r=>r= .agg [.own 3]) (λ_=>rfl)
  (λa=>by simp[asmC.ca,B3,BU,Aq,AV.bel,Ac,A9,BR,Ad.nms,AG,AV.nms,Ao,hget]) (λa p hp=> ?_) (λa r h=>by subst h;exact CJ.refl _) ?_
 rotate_left
 intro a G;simp only[Tryz.f56,asmC.ca,B3,BU,asmCX.H1];simp(disch:=omega)only[ZA,simprocAttr];obtain⟨ab,af⟩:=G;refine AQ.ren ⟨{s:Option (D×D)×List (Ab×Int)×List Al//(s.2.2++s.2.1.map C6).Perm (a.Tl.map C6)},λs=>⟨[(10,.it 5),(3,.own 6),(2,.ptr 3 0),(0,.ptr 0 0)],[(6,(true,.arr 137 3 (s.1.2.2.map Al.c))),(5,(true,.iter s.1.1 (s.1.2.1.map DJ))),(3,(true,.cells 39 [.im (.sl true 0 [])])),(0,(true,.cells 155 (BU a.Sys))),(1,(false,.map ⟨true,[.int .i64,.int .i64]⟩ (a.Tl.map DJ))),(2,(true,.map ⟨true,[.int .i64,.int .i64]⟩ (a.Op.map CL)))],7⟩,λs=>s.1.2.1.length,λs=>⟨by simp[Aj.good,Am,Ac,A9,AV.bel,Aq,BU],by simp⟩,⟨⟨(none,a.Tl,[]),by simp⟩,[(6,some 4)],?_⟩,λs=> ?_⟩
 .simp only[Az,BU];simp(disch:=omega)only[ZA,simprocAttr]
  try simp
 obtain⟨⟨ad,left,z⟩,O⟩:=s;simp only at O;simp only[BU];simp(disch:=omega)only[ZA,simprocAttr];refine⟨λhl=> ?_,λi p hp=> ?_⟩
 .have aa:left=[]:=by simpa using hl
  subst aa;rw[Hc,D2] at O;obtain⟨r1,r2,r3⟩:=rF ab O;refine EZ.os [.val (.sl false 3 (z.map Al.c))] (xE rfl) z (by simp only[asmXV.ar,a1,kS,Al.d_R,Ey]) ⟨r2,by omega⟩ ?_;simp(disch:=omega)only[ZA,simprocAttr,C8,Fy,asmX.r0,asmX.H1,r1];refine⟨[],[(3,some 7),(4,some 3)],⟨[(2,.ptr 4 0)],[(4,(true,.cells 39 [.own 3])),(3,(true,.arr 137 3 ((IG a.Tl).Tiles.map Al.c))),(0,(true,.cells 155 (BU a.Sys))),(1,(false,.map ⟨true,[.int .i64,.int .i64]⟩ (a.Tl.map DJ))),(2,(true,.map ⟨true,[.int .i64,.int .i64]⟩ (a.Op.map CL)))],5⟩,?_,by simp[Aj.good,Am,Ac,A9,AV.bel,Aq,BU],by simp,?_⟩
  .simp only[Az,BU];simp(disch:=omega)only[ZA,simprocAttr,Br]
   try simp[IG]
  .simp only[BU];simp(disch:=omega)only[ZA,simprocAttr,mT]
   try simp
 .rw[D1] at hp;cases hq:left[i]? with
  |none=>rw[hq] at hp;cases hp
  |some q=>
   rw[hq] at hp;obtain rfl:=AD hp;obtain⟨⟨Z,qy⟩,Q⟩:=q;simp only[DJ,Ab.c];simp(disch:=omega)only[ZA,simprocAttr,Jt,Dj,EI];have hi:i<left.length:=by
    rcases Fh i left.length with h|h
    .exact h
    .rw[FE h] at hq;cases hq
   have ac:((⟨Z,qy⟩,Q)::left.eraseIdx i).Perm left:=Qqq _ _ _ hq;have hP:((z++[(⟨⟨Z,qy⟩,Q⟩:Al)])++(left.eraseIdx i).map C6).Perm (a.Tl.map C6):=by
    rw[Hr];refine (ZeO z ?_).trans O;exact ac.map C6
   have hcl:z.length<=a.Tl.length:=by
    have r3:=O.length_eq;simp at r3;omega
   refine⟨by omega,⟨⟨(some (D.agg [.int .i64 Z,.int .i64 qy],D.int .i64 Q),left.eraseIdx i,z++[(⟨⟨Z,qy⟩,Q⟩:Al)]),hP⟩,[(6,some 9)],?_,?_⟩⟩
   .simp only[Zee];rw[An hi];omega
   .simp only[Az];simp(disch:=omega)only[ZA,simprocAttr];simp[Al.c,Qwf]
 simp[asmCX.H1] at hp;rcases hp with rfl|rfl
 .exact .inl ⟨by omega,rfl,rfl⟩
 .exact .inr ⟨by omega,by omega,rfl,rfl⟩
def R2(s:Ax)(b:Ak)(o:Ap):J0 s.Set b o.At o.Tile 4=C4 s.Set (Bb b) o.At o.Tile 4:=(Wk ..).symm
def KN(s:Ax)(l:List Ap):Prop:=BE s.Set/\DM s.Set s.Seed/\s.Set.Tiles.length<=160/\s.Seed.Tiles.length<=1000000/\JN s s.Seed l/\l.length<=500
def W6{d:Nat}(hd:d<4):IntKind.i64.wrap (1*2^min d IntKind.i64.bits)=2^d:=by
 rcases (by omega:d=0\/d=1\/d=2\/d=3) with rfl|rfl|rfl|rfl<;>decide
def cD{d:Nat}(hd:d<4):(2:Int)^d<=8:=by
 rcases (by omega:d=0\/d=1\/d=2\/d=3) with rfl|rfl|rfl|rfl<;>decide
def bW(s:AA)(f:Ab->Int)(p:Ab)(t d:Int):0<Gj s f p t d↔(0<=f (Bs p d)/\0<Gf s t d (f (Bs p d))):=by
 by_cases c:0<=f (Bs p d)
 .have e:Gj s f p t d=Gf s t d (f (Bs p d)):=An c;rw[e];exact⟨λh=>⟨c,h⟩,λh=>h.2⟩
 .have e:Gj s f p t d=0:=Af c;rw[e];exact⟨λh=>by omega,λh=>(c h.1).elim⟩
def Mr(s:AA)(f:Ab->Int)(p:Ab)(t:Int)(d:Nat)(h:0<=f (Bs p d))(z:0<Gf s t d (f (Bs p d))):DT s f p t (d+1)=DT s f p t d+2^d:=by
 simp only[DT];rw[An ((bW ..).2 ⟨h,z⟩)]
def Wm(s:AA)(f:Ab->Int)(p:Ab)(t:Int)(d:Nat)(h: ¬(0<=f (Bs p d)/\0<Gf s t d (f (Bs p d)))):DT s f p t (d+1)=DT s f p t d:=by
 simp only[DT];rw[Af (λq=>h ((bW ..).1 q)),Zfj]
def l10Inputs.fv(a:Ax×(List Ap)):(List Int)×(List Int):=(λs l=>(CD s s.Seed l,C9 s s.Seed l)) (a.1) (a.2)
def l10Inputs.row:AB:=vK (b2 (qP 4 Ax.d_le) (qS Ap.d_le Ap.c_n)) (r2 (rS Dt C5) (rS Dt C5)) (λa=>KN a.1 a.2) l10Inputs.fv
def l10Inputs.q:=AT (R:=l10Inputs.row) rfl
def l10Inputs.ok:AC Tryz.prog 118 l10Inputs.row:=by
 refine vw (tC l03Own.ok (tC l01Step.ok (tC l03At.ok (tC l02Bond.ok (tC l06Binding.ok (tC l03Put.ok tN)))))) Tryz.func118 rfl (by kernel_rfl) ?_;intro a G;simp only[Tryz.f118];simp(disch:=omega)only[ZA,simprocAttr,Ak.d,l10Inputs.fv,l03Own.q,l03Own.fv];obtain⟨s,l⟩:=a;simp only at G⊢;obtain⟨h1,h2,h3,h4,Z,h6⟩:=G;refine⟨h4,?_⟩;refine AQ.ren ⟨{k:Nat//k<=l.length},λk=>⟨[(9,.im (.int .i64 k.1)),(8,.own 7),(7,.own 6),(6,.ptr 3 0),(0,.ptr 0 0),(1,.im (.sl false 3 (l.map Ap.c)))],[(7,(true,.arr 2 1 ((C9 s s.Seed (l.take k.1)).map Ai))),(6,(true,.arr 2 1 ((CD s s.Seed (l.take k.1)).map Ai))),(3,(true,.cells 39 [.im (.sl false 3 ((AX s.Seed (l.take k.1)).Tiles.map Al.c))])),(0,(false,.view (Ax.c s)))],8⟩,λk=>l.length - k.1,λk=>⟨by simp[Aj.good,Am,Ac,A9,AV.bel,Aq],by simp⟩,⟨⟨0,by simp⟩,[(7,some 5),(6,some 4)],?_⟩,λk=> ?_⟩
 .simp only[Az];simp(disch:=omega)only[ZA,simprocAttr,CD,C9,AX]
  try simp
 obtain⟨k,ab⟩:=k;simp(disch:=omega)only[ZA,simprocAttr,AO];intro _;obtain⟨b,hb⟩: ∃b,b=AX s.Seed (l.take k):=⟨_,rfl⟩;have O:DM s.Set b:=by rw[hb];exact JP h3 h2 Z k ab
 rw[<-hb];refine⟨λhk=>⟨hk,λx hx=> ?_⟩,λhk=> ?_⟩
 .have hc:=GI (Z k x hx).1;rw[<-hb] at hc;obtain⟨g1,g2,g3,g4,g5,g6⟩:=hc;refine AQ.old ⟨{d:Nat//d<=4},λd=>⟨[(12,.im (.int .i64 d.1)),(11,.im (.int .i64 (DT s.Set (Bb b) x.At x.Tile d.1))),(10,.ptr 8 0),(9,.im (.int .i64 k)),(8,.own 7),(7,.own 6),(6,.ptr 3 0),(0,.ptr 0 0),(1,.im (.sl false 3 (l.map Ap.c)))],[(8,(true,.cells 108 ((Ap.c x).map .im))),(7,(true,.arr 2 1 ((C9 s s.Seed (l.take k)).map Ai))),(6,(true,.arr 2 1 ((CD s s.Seed (l.take k)).map Ai))),(3,(true,.cells 39 [.im (.sl false 3 (b.Tiles.map Al.c))])),(0,(false,.view (Ax.c s)))],9⟩,λd=>4 - d.1,λd=>⟨by simp[Aj.good,Am,Ac,A9,AV.bel,Aq,Ap.c],by simp⟩,⟨⟨0,by simp⟩,by simp(disch:=omega)only[ZA,simprocAttr,sub,DT]⟩,λd=> ?_⟩;obtain⟨d,ac⟩:=d;simp(disch:=omega)only[ZA,simprocAttr,Ak.d,l01Step.q,l01Step.fv,l03At.q,l03At.fv,l02Bond.q,l02Bond.fv,l06Binding.q,l06Binding.fv,l03Put.q,l03Put.fv,sub,AO];have ad:=cG s.Set (Bb b) x.At x.Tile d;refine⟨λhd=> ?_,λhd=> ?_⟩
  .have z:d<4:=by omega
   have af:=cD z;refine⟨⟨g2,by omega⟩,O.1,λc1=>⟨⟨h1,g5,⟨by omega,by omega⟩,JR O _ c1⟩,λQ=> ?_,λQ=> ?_⟩,λc1=> ?_⟩
   .refine⟨⟨d+1,by omega⟩,by simp only;omega,by rw[AH (by omega) (by omega)];simp only;omega,?_⟩;rw[W6 z,AH (by omega) (by omega),Mr _ _ _ _ _ c1 Q]
   .refine⟨⟨d+1,by omega⟩,by simp only;omega,by rw[AH (by omega) (by omega)];simp only;omega,?_⟩;rw[Wm _ _ _ _ _ (λh=>Q h.2)]
   .refine⟨⟨d+1,by omega⟩,by simp only;omega,by rw[AH (by omega) (by omega)];simp only;omega,?_⟩;rw[Wm _ _ _ _ _ (λh=>c1 h.1)]
  .have z:d=4:=by omega
   subst z;have aa:=(Z k x hx).2;rw[<-hb] at aa;refine⟨by simp[BB,Bz,D.one],by rw[Q9,Ce];omega,⟨h1,O,g2,g5⟩,by simp[BB,Bz,D.one],by rw[QA,Ce];omega,by omega,⟨k+1,by omega⟩,[(7,some 12),(6,some 10)],by simp only;omega,?_⟩;simp only[Az,Ll hx,bQ,bR,Wg,<-hb];simp(disch:=omega)only[ZA,simprocAttr,Br];refine⟨by rw[AH (by omega) (by omega)];omega,?_,?_⟩
   .simp[Ai,R2]
   .simp[Ai]
 .rw[DY (by omega)]
  try trivial
def iE(m:Int)(d:Nat):(Ep m d=true)=(Om .i64 (m.fdiv (2^min d IntKind.i64.bits)) 1=1):=by
 simp only[Ep,BK,Bx];rfl
def QG{p q:Ab}:((p.X==q.X)=true/\(p.Y==q.Y)=true)↔p=q:=by
 cases p;cases q;simp
def MM{s:Ax}{t:List (Ab×Int)}{a:Ak}{k:Nat}{o:Ap}(h:RM t a k)(Z:DM s.Set a)(c1:Dn s a o=true):B8 t o.At=none/\0<=o.Tile:=by
 simp only[Dn,AR,BK] at c1;obtain⟨d1,z,G,_⟩:=c1;have hv:0<=o.Tile:=by
  simp only[Bh,AR,BK] at z;exact z.1
 refine⟨?_,hv⟩;have O:Cp t o.At=Bb a o.At:=congrFun h.at o.At;have h2:=(NO Z.2 o.At).1 G;cases hq:B8 t o.At with
 |none=>rfl
 |some v=>
  exfalso;have Q:=h.pos _ (VZ hq);simp only[Cp,hq,AM] at O;simp only at Q;omega
def xF:D->Option (Option Cl)
 | .ref ds=>(Cl.d (ds.take 8)).map some
 | .nilp=>some none
 |_=>none
def plE:Option Cl->D
 |some x=> .ref (Cl.c x)
 |none=> .nilp
def jB: ∀d b,xF d=some b->Le d (plE b):=by
 intro d b h;unfold xF at h;split at h
 .simp only[Dx] at h;obtain⟨x,z,rfl⟩:=h;exact Ra (G3.trans_take (Cl.d_le _ _ z))
 .obtain rfl:=AD h;exact Le.refl _
 .cases h
def Y2(x:Cl):xF (.ref (Cl.c x))=some (some x):=by
 show (Cl.d (Cl.c x)).map some=_;rw[Cl.d_c];rfl
def Xo(s:AA)(f:Ab->Int)(p:Ab)(t:Int)(d:Nat)(h:0<=f (Bs p d)):C4 s f p t (d+1)=C4 s f p t d+Gf s t d (f (Bs p d)):=by
 have e:Gj s f p t d=Gf s t d (f (Bs p d)):=An h;simp only[C4,e]
def Lz{s:AA}(hs:BE s)(f:Ab->Int)(p:Ab)(t:Int)(d:Nat)(h: ¬(0<=f (Bs p d)/\0<Gf s t d (f (Bs p d)))):C4 s f p t (d+1)=C4 s f p t d:=by
 have z:=fH hs f p t d;have G: ¬0<Gj s f p t d:=λq=>h ((bW ..).1 q)
 simp only[C4];omega
def I6(s:Ax)(l:List Ap):Option Cl×Int:=if (Cs s l).2.2≠0 then (none,(Cs s l).2.2) else (some ⟨s,l,(Cs s l).1,CD s s.Seed l,C9 s s.Seed l⟩,0)
def MS{s:Ax}{l:List Ap}(h:(Cs s l).2.2=0):(Cs s l).1=AX s.Seed l/\KN s l/\F2 s=true:=by
 obtain⟨z,G⟩:=jM h;obtain⟨⟨q1,Q,Z,q4⟩,_⟩:=Hz z;have e:Cs s l=CK s s.Seed l 0:=by
  simp only[Cs];rw[Af (by rw[z];decide),Af (by omega)]
 rw[e] at h⊢;obtain⟨p1,O⟩:=oQ l s.Seed 0 h;exact⟨by rw[p1],⟨q1,Q,Z,q4,O,G⟩,z⟩
def play_.fv(a:Ax×(List Ap)):(Option Cl)×Int:=(I6) (a.1) (a.2)
def play_.row:AB:=vK (b2 (qR Ax.d_le) (qS Ap.d_le Ap.c_n)) (r2 (RK.mk (xF) (plE) (jB)) rI) (λa=>QT a.1.Set) play_.fv
def play_.q:=AT (R:=play_.row) rfl
def play_.ok:AC Tryz.prog 174 play_.row:=by
 refine vw (tC PlayI_.ok (tC newC.ok (tC step_.ok (tC catC.ok (tC bond_.ok (tC putC.ok tN)))))) Tryz.func174 rfl (by kernel_rfl) ?_;intro a O;simp only[Tryz.f174];simp(disch:=omega)only[ZA,simprocAttr,play_.fv,PlayI_.q,PlayI_.fv];obtain⟨s,l⟩:=a;simp only at O⊢;refine⟨O,?_⟩;simp only[YJ];by_cases c0:(Cs s l).2.2=0
 case neg=>
  rw[An c0];simp only[I6,xF,Ey];rw[An c0]
 rw[Af (λh=>h c0)];have eR:I6 s l=(some ⟨s,l,(Cs s l).1,CD s s.Seed l,C9 s s.Seed l⟩,0):=by
  simp only[I6];rw[Af (λh=>h c0)]
 obtain⟨hE,⟨q1,q2,q3,q4,q5,q6⟩,ai⟩:=MS c0;obtain⟨_,q7,q8⟩:=Hz ai;have ad:=tL (s:=s.Set) (a:=s.Seed) (by rw[q7,q8];rfl);have ah:newC.pre (s,s.Seed):=⟨q1,by simp only;omega,λy hy=>⟨q2.2 y hy,ad.1.2.2.2 y hy⟩⟩;obtain⟨e,he⟩: ∃e,e=(Cs s l).1:=⟨_,rfl⟩;rw[eR];simp only[<-he];refine AF.os (s,s.Seed) [] ah (λj=>by simp[Ao,hget]) rfl rfl ?_ ?_
 .simp(disch:=omega)only[ZA,simprocAttr,newC.ca,CO,Ax.c,Ak.c]
 simp(disch:=omega)only[ZA,simprocAttr,newC.H1];intro _;refine AQ.ren ⟨{k:Nat×List (Ab×Int)×List (Ab×List Int)//k.1<=l.length/\ ∃n,RM k.2.1 (AX s.Seed (l.take k.1)) n},λk=>⟨[(39,.im (.int .i64 k.1.1)),(38,.im (.int .i64 l.length)),(37,.im (.sl false 3 (l.map Ap.c))),(10,.ptr 7 0),(9,.ptr 2 0),(5,.im (.int .i64 0)),(2,.ptr 0 0)],[(2,(true,.cells 291 [.im (.sl false 2 (s.Set.Glues.map Ar.c)),.im (.sl false 2 (s.Set.Tiles.map Tile.c)),.im (.sl false 3 (s.Seed.Tiles.map Al.c)),.im (.int .i64 s.Temperature),.im (.sl false 3 (l.map Ap.c)),.im (.sl false 3 (e.Tiles.map Al.c)),.own 8,.own 9])),(9,(true,.arr 2 1 ((C9 s s.Seed (l.take k.1.1)).map Ai))),(8,(true,.arr 2 1 ((CD s s.Seed (l.take k.1.1)).map Ai))),(7,(true,.cells 155 [.im (.sl false 2 (s.Set.Glues.map Ar.c)),.im (.sl false 2 (s.Set.Tiles.map Tile.c)),.im (.sl false 3 (s.Seed.Tiles.map Al.c)),.im (.int .i64 s.Temperature),.mp 5,.mp 6])),
  (5,(true,.map ⟨true,[.int .i64,.int .i64]⟩ (k.1.2.1.map DJ))),(6,(true,.map ⟨true,[.int .i64,.int .i64]⟩ (k.1.2.2.map CL))),(0,(true,.cells 47 ((Ax.c s).map .im)))],10⟩,λk=>l.length - k.1.1,λk=>⟨by simp[Aj.good,Am,Ac,A9,AV.bel,Aq,Ax.c],by simp⟩,⟨⟨(0,(Kf s s.Seed).Tl,(Kf s s.Seed).Op),by simp only;exact⟨Cx _,_,RM.of q2.1 (λx hx=>(q2.2 x hx).1)⟩⟩,[(9,none),(8,none)],?_⟩,λk=> ?_⟩
 .simp only[Az];simp(disch:=omega)only[ZA,simprocAttr,CD,C9]
  try simp
 obtain⟨⟨k,Z,op⟩,ab,n,G⟩:=k;simp only at ab G;simp(disch:=omega)only[ZA,simprocAttr,AO];obtain⟨b,hb⟩: ∃b,b=AX s.Seed (l.take k):=⟨_,rfl⟩;have Q:DM s.Set b:=by rw[hb];exact JP q3 q2 q5 k ab
 rw[<-hb] at G;have aa:=G.at;refine⟨λhk=>⟨hk,λx hx=> ?_⟩,λhk=> ?_⟩
 .obtain⟨cS,cL⟩:=q5 k x hx;rw[<-hb] at cS cL;obtain⟨g1,g2,g3,g4,g5,g6⟩:=GI cS;refine AQ.old ⟨{d:Nat//d<=4},λd=>⟨[(43,.im (.int .i64 d.1)),(14,.im (.int .i64 (C4 s.Set (Bb b) x.At x.Tile d.1))),(13,.im (.int .i64 (DT s.Set (Bb b) x.At x.Tile d.1))),(12,.ptr 10 0),(39,.im (.int .i64 k)),(38,.im (.int .i64 l.length)),(37,.im (.sl false 3 (l.map Ap.c))),(10,.ptr 7 0),(9,.ptr 2 0),(5,.im (.int .i64 0)),(2,.ptr 0 0)],[(10,(true,.cells 108 ((Ap.c x).map .im))),(2,(true,.cells 291 [.im (.sl false 2 (s.Set.Glues.map Ar.c)),.im (.sl false 2 (s.Set.Tiles.map Tile.c)),.im (.sl false 3 (s.Seed.Tiles.map Al.c)),.im (.int .i64 s.Temperature),.im (.sl false 3 (l.map Ap.c)),.im (.sl false 3 (e.Tiles.map Al.c)),.own 8,.own 9])),(9,(true,.arr 2 1 ((C9 s s.Seed (l.take k)).map Ai))),(8,(true,.arr 2 1 ((CD s s.Seed (l.take k)).map Ai))),(7,(true,.cells 155 [.im (.sl false 2 (s.Set.Glues.map Ar.c)),.im (.sl false 2 (s.Set.Tiles.map Tile.c)),.im (.sl false 3 (s.Seed.Tiles.map Al.c)),.im (.int .i64 s.Temperature),.mp 5,.mp 6])),
   (5,(true,.map ⟨true,[.int .i64,.int .i64]⟩ (Z.map DJ))),(6,(true,.map ⟨true,[.int .i64,.int .i64]⟩ (op.map CL))),(0,(true,.cells 47 ((Ax.c s).map .im)))],11⟩,λd=>4 - d.1,λd=>⟨by simp[Aj.good,Am,Ac,A9,AV.bel,Aq,Ax.c,Ap.c],by simp⟩,⟨⟨0,by simp⟩,by simp(disch:=omega)only[ZA,simprocAttr,sub,DT,C4]⟩,λd=> ?_⟩
  obtain⟨d,am⟩:=d;simp(disch:=omega)only[ZA,simprocAttr,C8,step_.q,step_.fv,step_.re,catC.q,catC.fv,bond_.q,bond_.fv,bond_.re,sub,AO,aa];have ac:=cG s.Set (Bb b) x.At x.Tile d;have ak:=uO q1 (Bb b) x.At x.Tile d;have aj:=fH q1 (Bb b) x.At x.Tile d;refine⟨λhd=> ?_,λhd=> ?_⟩
  .have z:d<4:=by omega
   have an:=cD z;refine⟨⟨g2,by omega⟩,λc1=>⟨⟨q1,g5,⟨by omega,by omega⟩,JR Q _ c1⟩,λc2=> ?_,λc2=> ?_⟩,λc1=> ?_⟩
   .have ht:Gj s.Set (Bb b) x.At x.Tile d=Gf s.Set x.Tile d (Bb b (Bs x.At d)):=An c1;rw[ht] at aj;refine⟨⟨d+1,by omega⟩,by simp only;omega,by rw[AH (by omega) (by omega)];simp only;omega,?_,?_⟩
    .rw[AH (by omega) (by omega),Xo _ _ _ _ _ c1]
    .rw[W6 z,TJ z ac.1 ac.2,Mr _ _ _ _ _ c1 c2]
   .refine⟨⟨d+1,by omega⟩,by simp only;omega,by rw[AH (by omega) (by omega)];simp only;omega,?_,?_⟩
    .rw[Lz q1 _ _ _ _ (λh=>c2 h.2)]
    .rw[Wm _ _ _ _ _ (λh=>c2 h.2)]
   .refine⟨⟨d+1,by omega⟩,by simp only;omega,by rw[AH (by omega) (by omega)];simp only;omega,?_,?_⟩
    .rw[Lz q1 _ _ _ _ (λh=>c1 h.1)]
    .rw[Wm _ _ _ _ _ (λh=>c1 h.1)]
  .have z:d=4:=by omega
   subst z;refine⟨by simp[BB,Bz,D.one],by rw[Q9,Ce];omega,by simp[BB,Bz,D.one],by rw[QA,Ce];omega,?_⟩;have ag:SH s.Set (Cp Z):=by rw[aa];exact λp hp=>JR Q p hp
   have af:NG ⟨s,Z,op⟩:=⟨q1,ag,by simp only;omega⟩;obtain⟨f1,f2⟩:=MM G Q cS;refine AF.os (⟨s,Z,op⟩,x.At,x.Tile) [7,5,6] ⟨af,g2,g5⟩ (λj=>Ga _ j) rfl rfl ?_ ?_
   .simp(disch:=omega)only[ZA,simprocAttr,putC.ca,B3,BU,Dj,EI]
   .simp(disch:=omega)only[ZA,simprocAttr,putC.H1,Dq,FN,Dj,EI];refine⟨⟨(k+1,Bf Z x.At x.Tile,Gi s (Cp (Bf Z x.At x.Tile)) (D4 op x.At) x.At 4),by simp only;exact⟨by omega,_,by rw[Ll hx,Wg,<-hb];exact G.put f2 f1⟩⟩,[(9,some 14),(8,some 12)],by simp only;omega,?_⟩;simp only[Az,Ll hx,bQ,bR,<-hb];simp(disch:=omega)only[ZA,simprocAttr,Br];refine⟨by rw[AH (by omega) (by omega)];omega,?_,?_⟩<;>simp[Ai]
 .rw[DY (by omega)]
  have:=Y2 ⟨s,l,e,CD s s.Seed l,C9 s s.Seed l⟩
  simp only[Cl.c] at this;rw[this];rfl
def has_.fv(a:Int×Int):Bool:=(Ep) (a.1) (a.2)
def has_.row:AB:=vK (b2 qI qI) rB (λa=>0<=a.2/\a.2<=62) has_.fv
def has_.q:=AT (R:=has_.row) rfl
def has_.ok:AC Tryz.prog 250 has_.row:=by
 refine vw tN Tryz.func250 rfl (by kernel_rfl) ?_;intro a z;simp only[Tryz.f250];simp(disch:=omega)only[ZA,simprocAttr,has_.fv];exact⟨z.1,rfl⟩
def iA1.fv(a:Ap×Ab):Bool:=(λo p=>decide (o.At=p)) (a.1) (a.2)
def iA1.row:AB:=vK (b2 (qR Ap.d_le) (qP 2 Ab.d_le)) rB (λa=>True) iA1.fv
def iA1.q:=AT (R:=iA1.row) rfl
def iA1.ok:AC Tryz.prog 290 iA1.row:=by
 refine vw tN Tryz.func290 rfl (by kernel_rfl) ?_;intro a G;simp only[Tryz.f290];simp(disch:=omega)only[ZA,simprocAttr,iA1.fv];obtain⟨⟨⟨x,y⟩,u⟩,⟨z,w⟩⟩:=a;rw[VJ];simp
def IdxO_.ar:List PK->Option ((List Ap)×Ab)
 |[.val (.sl _ _ O),.val (.fn 290 [] [.ref z])]=>(AS Ap.d O).bind λQ=>(Ab.d (z.take 2)).bind λG=>some (Q,G)
 |_=>none
def IdxO_.ae(a:(List Ap)×Ab):List PK:=[.val (.sl false 3 (a.1.map Ap.c)),.val (.fn 290 [] [.ref (Ab.c a.2)])]
def IdxO_.le: ∀G a,IdxO_.ar G=some a->BL G (IdxO_.ae a):=by
 intro G a h;unfold IdxO_.ar at h;split at h
 .simp only[Eg,AJ] at h;obtain⟨Q,h0,O,z,rfl⟩:=h;exact⟨DE (Dz Ap.d_le _ _ h0) (by simp only[Bt];rintro r ⟨y,_,rfl⟩;rfl),V9 ⟨Ra (G3.trans_take (Ab.d_le _ _ z)),trivial⟩,trivial⟩
 .cases h
def IdxO_.fv(a:(List Ap)×Ab):Int:=(λl p=>EM l p) (a.1) (a.2)
def IdxO_.row:AB:=Ec IdxO_.ar (λa=>True) (λa=>(D.int .i64) (IdxO_.fv a))
def IdxO_.q:=vq IdxO_.row rfl
def IdxO_.ok:AC Tryz.prog 289 IdxO_.row:=by
 refine Wp CV (tC iA1.ok tN) Tryz.func289 rfl (by kernel_rfl) (by kernel_rfl) (ar:=IdxO_.ar) (ae:=IdxO_.ae) IdxO_.le (n:=2) (λ_=>rfl) (by decide) (rc:=(DC)) (re:=(D.int .i64)) (N3) (f:=IdxO_.fv) ?_;intro a O;simp only[Tryz.f289];simp(disch:=omega)only[ZA,simprocAttr,IdxO_.ae,IdxO_.fv];intro hn;simp only[EM];refine AQ.old ⟨{k:Nat//k<=a.1.length/\Bp (λo:Ap=>decide (o.At=a.2)) k (a.1.drop k)=Bp (λo:Ap=>decide (o.At=a.2)) 0 a.1},λk=>⟨[(8,.im (.int .i64 k.1)),(7,.im (.int .i64 a.1.length)),(6,.im (.sl false 3 (a.1.map Ap.c))),(4,.im (.int .i64 0)),(0,.im (.sl false 3 (a.1.map Ap.c))),(1,.im (.fn 290 [] [.ref (Ab.c a.2)]))],[],0⟩,λk=>a.1.length - k.1,λk=>⟨by simp[Aj.good,Am,Ac,A9,AV.bel],AP _⟩,⟨⟨0,by simp⟩,by simp(disch:=omega)only[ZA,simprocAttr,sub]⟩,λk=> ?_⟩;obtain⟨k,Q,z⟩:=k;simp(disch:=omega)only[ZA,simprocAttr,iA1.q,iA1.fv,sub,AO];refine⟨λG=>⟨G,λx Z=> ?_⟩,λG=> ?_⟩
 .rw[Fc Z,Bp] at z;refine⟨λh=> ?_,λh=>G4 G hn ⟨by omega,by rw[<-z,Af (by simpa using h)]⟩⟩;rw[An (by simpa using h)] at z;exact z
 .rw[Dl (by omega),Bp] at z;exact z
def idxAt_.fv(a:Cl×Ab):Int:=(λx p=>EM x.Seq p) (a.1) (a.2)
def idxAt_.row:AB:=vK (b2 (qP 8 Cl.d_le) (qR Ab.d_le)) rI (λa=>True) idxAt_.fv
def idxAt_.q:=AT (R:=idxAt_.row) rfl
def idxAt_.ok:AC Tryz.prog 272 idxAt_.row:=by
 refine vw (tC IdxO_.ok tN) Tryz.func272 rfl (by kernel_rfl) ?_;intro a z;simp only[Tryz.f272];simp(disch:=omega)only[ZZ,simprocAttr,idxAt_.fv,IdxO_.q,IdxO_.ar,IdxO_.fv]
 skip
def HL(s:Ax)(b:Ak)(c:Cj):Prop:=c.Sys=s/\(∃n,RM c.Tl b n)/\JI s (Cp c.Tl) c.Op/\DM s.Set b/\b.Tiles.length<=500/\BE s.Set/\1<=s.Temperature/\s.Set.Tiles.length<=160
def HL.put{s:Ax}{b:Ak}{c:Cj}(h:HL s b c){o:Ap}(G:Dn s b o=true)(hl:b.Tiles.length<500):HL s (BT b o.At o.Tile) (FN c o.At o.Tile):=by
 obtain⟨rfl,⟨n,z⟩,O,hb,h5,h1,hT,Q⟩:=h;obtain⟨Z,f2⟩:=MM z hb G;obtain⟨z1,z2,z3,z4,z5,z6⟩:=GI G;exact⟨rfl,⟨_,z.put f2 Z⟩,jA O z3,QI Q hb G,by rw[NS];omega,h1,hT,Q⟩
def FG(l:List Int):Nat->Cj->Ak->List Ap->Cj×Ak×List Ap×Bool
 |0,c,b,d=>(c,b,d,true)
 |n+1,c,b,d=>match GG c.Sys l b d.length with
  |none=>(c,b,d,true)
  |some o=>if 500<=b.Tiles.length then (c,b,[],false) else FG l n (FN c o.At o.Tile) (BT b o.At o.Tile) (d++[o])
def LS{s:Ax}{l:List Int}: ∀(n:Nat) (c:Cj) (b:Ak) (d:List Ap),HL s b c->((FG l n c b d).2.2.2=true/\Gr s l n b d=((FG l n c b d).2.2.1,(FG l n c b d).2.1,0)/\HL s (FG l n c b d).2.1 (FG l n c b d).1)\/((FG l n c b d).2.2.2=false/\(FG l n c b d).2.2.1=[]/\Gr s l n b d=([],⟨[]⟩,4))
 |0,c,b,d,h=> .inl ⟨rfl,rfl,h⟩
 |n+1,c,b,d,h=>by
  have G:c.Sys=s:=h.1;rw[FG,Gr,G];cases ho:GG s l b d.length with
  |none=>exact .inl ⟨rfl,rfl,h⟩
  |some o=>
   simp only;by_cases z:500<=b.Tiles.length
   .rw[An z,An z];exact .inr ⟨rfl,rfl,rfl⟩
   .rw[Af z,Af z];exact LS n _ _ _ (h.put (QF h.2.2.2.1 ho) (by omega))
def LW(s:Ax)(l:List Int): ∀(n:Nat) (b:Ak) (d:List Ap),b.Tiles.length<=500->(Gr s l n b d).1.length<=d.length+n/\(Gr s l n b d).2.1.Tiles.length<=500
 |0,b,d,h=>by simp[Gr,h]
 |n+1,b,d,h=>by
  rw[Gr];split
  .exact⟨by simp only;omega,h⟩
  .split
   .simp
   .have:=LW s l n (BT b ‹Ap›.At ‹Ap›.Tile) (d++[‹Ap›]) (by rw[NS];omega)
    simp only[Df,Zdz] at this;exact⟨by omega,this.2⟩
def FK(l:List Int)(c:Cj)(b:Ak)(k:Nat):Cj:=
 match GG c.Sys l b k with
 |none=>c
 |some o=>if 500<=b.Tiles.length then c else FN c o.At o.Tile
def Gv(l:List Int)(c:Cj)(b:Ak)(k:Nat):D:=
 match GG c.Sys l b k with
 |none=> .tup [.agg [.int .i64 0,.int .i64 0,.int .i64 0],.tok 0]
 |some o=>if 500<=b.Tiles.length then .tup [.agg [.int .i64 0,.int .i64 0,.int .i64 0],.tok 1] else .tup [.agg (Ap.c o),.nili]
def nxtC.ca(a:Cj×Ak×List Int×Nat):List AV:=[.ptr 0 0,.im (.fn 154 [] [.ref [.sl false 1 (a.2.2.1.map Ai)]]),.im (.int .i64 a.2.2.2)]
def nxtC.H1(a:Cj×Ak×List Int×Nat):Aw:=[(1,(true,.map ⟨true,[.int .i64,.int .i64]⟩ ((FK a.2.2.1 a.1 a.2.1 a.2.2.2).Tl.map DJ))),(2,(true,.map ⟨true,[.int .i64,.int .i64]⟩ ((FK a.2.2.1 a.1 a.2.1 a.2.2.2).Op.map CL)))]
def nxtC.r0(a:Cj×Ak×List Int×Nat):AV:= .im (Gv a.2.2.1 a.1 a.2.1 a.2.2.2)
def nxtC.row:AB:=AF nxtC.ca (λa=>B3 a.1) 3 (λa=>HL a.1.Sys a.2.1 a.1/\DV a.2.2.1=true/\a.2.2.2<=1000) Dq nxtC.r0 nxtC.H1 0
def nxtC.ok:AC Tryz.prog 109 nxtC.row:=by
 refine ow (tC lisC.ok (tC sel1_.ok (tC putC.ok tN))) Tryz.func109 rfl (by kernel_rfl) (exB:=λ_=>false) (R:=λa r=>r=nxtC.r0 a) (λ_=>rfl)
  (λa=>by simp[nxtC.ca,B3,BU,Aq,AV.bel,Ac,A9,BR,Ad.nms,AG,AV.nms,Ao,hget]) (λa p hp=> ?_) (λa r h=>by subst h;exact CJ.refl _) ?_
 rotate_left
 intro a Q;simp only[Tryz.f109,nxtC.ca,B3,BU,nxtC.H1];simp(disch:=omega)only[ZA,simprocAttr];obtain⟨c,b,l,k⟩:=a;obtain⟨hg,hl,hk⟩:=Q;simp only at hg hl hk⊢;obtain⟨_,⟨n,G⟩,ac,hb,h5,h1,hT,h2⟩:=hg;have z:=ac;rw[G.at] at z;obtain⟨l1,l2,l3⟩:=TE hT h5 h2 z;refine AF.os c [0,1,2] l2 (λj=>Ga _ j) rfl rfl ?_ ?_
 .simp(disch:=omega)only[ZA,simprocAttr,DH,B3,BU,asmC.ca,B3,BU,Dj,EI]
 simp(disch:=omega)only[ZZ,simprocAttr,sel1_.q,sel1_.fv,Dq,lisC.r0,l1];intro _;have ad:=G.size;rw[l1] at l3;split
 .rename_i c1;have aa:=(W7 (s:=c.Sys) (l:=l) (b:=b) (k:=k)).2 (Qj.1 (by omega));simp only[nxtC.r0,Gv,FK,aa];trivial
 rename_i c1;obtain⟨o,ho⟩: ∃o,GG c.Sys l b k=some o:=by
  cases hq:GG c.Sys l b k with
  |none=>exact absurd (by rw[W7.1 hq];rfl) c1
  |some o=>exact⟨o,rfl⟩
 split
 .rename_i c2;simp only[nxtC.r0,Gv,FK,ho];rw[An (by omega),An (by omega)];exact⟨rfl,rfl,rfl⟩
 rename_i c2;intro _;refine⟨⟨by omega,by omega,by omega,hl⟩,MQ (by omega),λx hx=> ?_⟩;obtain rfl:o=x:=AD (ho.symm.trans hx);have cS:=QF hb ho;obtain⟨z1,z2,z3,z4,z5,z6⟩:=GI cS;have O:SH c.Sys.Set (Cp c.Tl):=by rw[G.at];exact λp hp=>JR hb p hp
 have Z:FK l c b k=FN c o.At o.Tile:=by simp only[FK,ho];rw[Af (by omega)]
 have ab:Gv l c b k= .tup [.agg (Ap.c o),.nili]:=by simp only[Gv,ho];rw[Af (by omega)]
 refine AF.os (c,o.At,o.Tile) [0,1,2] ⟨⟨h1,O,by simp only;omega⟩,z2,z5⟩ (λj=>Ga _ j) rfl rfl ?_ ?_
 .simp(disch:=omega)only[ZA,simprocAttr,DH,B3,BU,putC.ca,B3,BU,Dj,EI]
 simp(disch:=omega)only[ZA,simprocAttr,DH,Dq,putC.H1,Dq,Dj,EI,Z,nxtC.r0,ab];simp[nxtC.H1] at hp;rcases hp with rfl|rfl
 .exact .inl ⟨by omega,rfl,rfl⟩
 .exact .inl ⟨by omega,rfl,rfl⟩
def growI.ca(a:Cj×Ak×List Int×Nat):List AV:=[.ptr 0 0,.im (.sl false 1 (a.2.2.1.map Ai)),.im (.int .i64 a.2.2.2)]
def growI.H1(a:Cj×Ak×List Int×Nat):Aw:=[(1,(true,.map ⟨true,[.int .i64,.int .i64]⟩ ((FG a.2.2.1 a.2.2.2 a.1 a.2.1 []).1.Tl.map DJ))),(2,(true,.map ⟨true,[.int .i64,.int .i64]⟩ ((FG a.2.2.1 a.2.2.2 a.1 a.2.1 []).1.Op.map CL))),(3,(true,.arr 108 3 ((FG a.2.2.1 a.2.2.2 a.1 a.2.1 []).2.2.1.map Ap.c)))]
def growI.r0(a:Cj×Ak×List Int×Nat):AV:= .tup [.own 3,.im (.bool (FG a.2.2.1 a.2.2.2 a.1 a.2.1 []).2.2.2)]
def growI.row:AB:=AF growI.ca (λa=>B3 a.1) 3 (λa=>HL a.1.Sys a.2.1 a.1/\DV a.2.2.1=true/\a.2.2.2<=501) Dq growI.r0 growI.H1 20
def growI.ok:AC Tryz.prog 55 growI.row:=by
 refine Pb (tC sel_.ok (tC nxtC.ok (tC errIs.ok tN))) Tryz.func55 rfl (by kernel_rfl) (exB:=λj=>j==3) (R:=λa r=>r=growI.r0 a) (λ_=>rfl)
  (λa=>by simp[growI.ca,B3,BU,Aq,AV.bel,Ac,A9,BR,Ad.nms,AG,AV.nms,Ao,hget]) (λa p hp=> ?_) (λa r h=>by subst h;exact CJ.refl _) ?_
 rotate_left
 intro a aa;simp only[Tryz.f55,growI.ca,B3,BU,growI.H1];simp(disch:=omega)only[ZZ,simprocAttr,sel_.q,sel_.fv];obtain⟨c,b,l,n⟩:=a;obtain⟨hg,hl,hn⟩:=aa;simp only at hg hl hn⊢;refine AQ.ren ⟨{q:Cj×Ak×List Ap//q.2.2.length<=n/\HL c.Sys q.2.1 q.1/\FG l (n - q.2.2.length) q.1 q.2.1 q.2.2=FG l n c b []},λq=>⟨[(9,.own 5),(8,.im (.fn 154 [] [.ref [.sl false 1 (l.map Ai)]])),(7,.im (.bool false)),(6,.own 3),(0,.ptr 0 0),(2,.im (.int .i64 n))],[(5,(true,.arr 108 3 (q.1.2.2.map Ap.c))),(3,(true,.arr 108 3 [])),(0,(true,.cells 155 [.im (.sl false 2 (c.Sys.Set.Glues.map Ar.c)),.im (.sl false 2 (c.Sys.Set.Tiles.map Tile.c)),.im (.sl false 3 (c.Sys.Seed.Tiles.map Al.c)),.im (.int .i64 c.Sys.Temperature),.mp 1,.mp 2])),(1,(true,.map ⟨true,[.int .i64,.int .i64]⟩ (q.1.1.Tl.map DJ))),(2,(true,.map ⟨true,[.int .i64,.int .i64]⟩ (q.1.1.Op.map CL)))],6⟩,λq=>n - q.1.2.2.length,λq=>⟨by simp[Aj.good,Am,Ac,A9,AV.bel,Aq],by simp⟩,⟨⟨(c,b,[]),by simp only;exact⟨Cx _,hg,by rw[Ha,ZX]⟩⟩,[(5,some 4)],?_⟩,λq=> ?_⟩
 .simp only[Az];simp(disch:=omega)only[ZA,simprocAttr,Br]
  try simp
 obtain⟨⟨c1,b1,d⟩,e1,e2,e3⟩:=q;simp only at e1 e2 e3;simp(disch:=omega)only[ZA,simprocAttr,Fy,AO];have hS:c1.Sys=c.Sys:=e2.1;have z: ∀k,GG c1.Sys l b1 k=GG c.Sys l b1 k:=λk=>by rw[hS]
 refine λ_=>⟨λh1 _=> ?_,λh1=> ?_⟩
 .refine AF.os (c1,b1,l,d.length) [0,1,2] ⟨by rw[hS];exact e2,hl,by simp only;omega⟩ (λj=>Ga _ j) rfl rfl ?_ ?_
  .simp(disch:=omega)only[ZA,simprocAttr,DH,B3,BU,nxtC.ca,B3,BU,Dj,EI,hS]
  obtain⟨m,hm⟩: ∃m,n - d.length=m+1:=⟨n - d.length - 1,by omega⟩;cases ho:GG c.Sys l b1 d.length with
  |none=>
   have O:Gv l c1 b1 d.length= .tup [.agg [.int .i64 0,.int .i64 0,.int .i64 0],.tok 0]:=by simp only[Gv,z,ho]
   have G:FK l c1 b1 d.length=c1:=by simp only[FK,z,ho]
   have Q:FG l n c b []=(c1,b1,d,true):=by rw[<-e3,hm,FG,z,ho]
   simp(disch:=omega)only[ZA,simprocAttr,Fy,DH,Dq,nxtC.H1,Dq,Dj,EI,nxtC.r0,O,G,errIs.q,NR,Mb];refine⟨[],[(3,some 5)],⟨[(6,.own 3),(7,.im (.bool true))],[(3,(true,.arr 108 3 (d.map Ap.c))),(0,(true,.cells 155 [.im (.sl false 2 (c.Sys.Set.Glues.map Ar.c)),.im (.sl false 2 (c.Sys.Set.Tiles.map Tile.c)),.im (.sl false 3 (c.Sys.Seed.Tiles.map Al.c)),.im (.int .i64 c.Sys.Temperature),.mp 1,.mp 2])),(1,(true,.map ⟨true,[.int .i64,.int .i64]⟩ (c1.Tl.map DJ))),(2,(true,.map ⟨true,[.int .i64,.int .i64]⟩ (c1.Op.map CL)))],4⟩,?_,by simp[Aj.good,Am,Ac,A9,AV.bel,Aq],by simp,?_⟩
   .simp only[Az];simp(disch:=omega)only[ZA,simprocAttr,Br]
    try simp
   .simp(disch:=omega)only[ZA,simprocAttr,Dq,growI.r0,Q]
  |some o=>
   by_cases Z:500<=b1.Tiles.length
   .have O:Gv l c1 b1 d.length= .tup [.agg [.int .i64 0,.int .i64 0,.int .i64 0],.tok 1]:=by simp only[Gv,z,ho];rw[An Z]
    have G:FK l c1 b1 d.length=c1:=by simp only[FK,z,ho];rw[An Z]
    have Q:FG l n c b []=(c1,b1,[],false):=by rw[<-e3,hm,FG,z,ho];simp only;rw[An Z]
    simp(disch:=omega)only[ZA,simprocAttr,Fy,DH,Dq,nxtC.H1,Dq,Dj,EI,nxtC.r0,O,G,errIs.q,NR,Mb];refine⟨[],[(3,some 7)],⟨[(6,.own 3),(7,.im (.bool false))],[(3,(true,.arr 108 3 (([]:List Ap).map Ap.c))),(0,(true,.cells 155 [.im (.sl false 2 (c.Sys.Set.Glues.map Ar.c)),.im (.sl false 2 (c.Sys.Set.Tiles.map Tile.c)),.im (.sl false 3 (c.Sys.Seed.Tiles.map Al.c)),.im (.int .i64 c.Sys.Temperature),.mp 1,.mp 2])),(1,(true,.map ⟨true,[.int .i64,.int .i64]⟩ (c1.Tl.map DJ))),(2,(true,.map ⟨true,[.int .i64,.int .i64]⟩ (c1.Op.map CL)))],4⟩,?_,by simp[Aj.good,Am,Ac,A9,AV.bel,Aq],by simp,?_⟩
    .simp only[Az];simp(disch:=omega)only[ZA,simprocAttr,Br]
     try simp
    .simp(disch:=omega)only[ZA,simprocAttr,Dq,growI.r0,Q]
   .have O:Gv l c1 b1 d.length= .tup [.agg (Ap.c o),.nili]:=by simp only[Gv,z,ho];rw[Af Z]
    have G:FK l c1 b1 d.length=FN c1 o.At o.Tile:=by simp only[FK,z,ho];rw[Af Z]
    have Q:FG l n c b []=FG l m (FN c1 o.At o.Tile) (BT b1 o.At o.Tile) (d++[o]):=by rw[<-e3,hm,FG,z,ho];simp only;rw[Af Z]
    have ab:=e2.put (QF e2.2.2.2.1 ho) (by omega);simp(disch:=omega)only[ZA,simprocAttr,DH,Dq,nxtC.H1,Dq,Dj,EI,nxtC.r0,O,G,errIs.q,NR,Mb];refine⟨by omega,⟨(FN c1 o.At o.Tile,BT b1 o.At o.Tile,d++[o]),by simp only;exact⟨by simp;omega,ab,by rw[Q,show n - (d++[o]).length=m by simp;omega]⟩⟩,[(5,some 8)],by simp;omega,?_⟩;simp only[Az];simp(disch:=omega)only[ZA,simprocAttr,Br];simp[Ap.c]
 .have Q:FG l n c b []=(c1,b1,d,true):=by rw[<-e3,show n - d.length=0 by omega,FG]
  refine⟨[],[(3,some 5)],⟨[(6,.own 3),(7,.im (.bool true))],[(3,(true,.arr 108 3 (d.map Ap.c))),(0,(true,.cells 155 [.im (.sl false 2 (c.Sys.Set.Glues.map Ar.c)),.im (.sl false 2 (c.Sys.Set.Tiles.map Tile.c)),.im (.sl false 3 (c.Sys.Seed.Tiles.map Al.c)),.im (.int .i64 c.Sys.Temperature),.mp 1,.mp 2])),(1,(true,.map ⟨true,[.int .i64,.int .i64]⟩ (c1.Tl.map DJ))),(2,(true,.map ⟨true,[.int .i64,.int .i64]⟩ (c1.Op.map CL)))],4⟩,?_,by simp[Aj.good,Am,Ac,A9,AV.bel,Aq],by simp,?_⟩
  .simp only[Az];simp(disch:=omega)only[ZA,simprocAttr,Br]
   try simp
  .simp(disch:=omega)only[ZA,simprocAttr,Dq,growI.r0,Q]
 simp[growI.H1] at hp;rcases hp with rfl|rfl|rfl
 .exact .inl ⟨by omega,rfl,rfl⟩
 .exact .inl ⟨by omega,rfl,rfl⟩
 .exact .inr ⟨by omega,by omega,rfl,rfl⟩
def Xx{s:Ax}{a:Ak}(c1:F2 s=true)(O:JW s.Set a=true):newC.pre (s,a)/\HL s a (Kf s a):=by
 obtain⟨⟨q1,q2,q3,_⟩,q5,_⟩:=Hz c1;obtain⟨z,h4⟩:=Zu O;have G:=tL (s:=s.Set) (a:=a) (by rw[q5,O];rfl);have Q:1<=s.Temperature:=by
  simp only[F2,Bh,AR,BK] at c1;exact c1.2.2.2.1.1
 exact⟨⟨q1,by simp only;omega,λy Z=>⟨z.2 y Z,G.1.2.2.2 y Z⟩⟩,rfl,⟨_,RM.of z.1 λx hx=>(z.2 x hx).1⟩,TF Q,z,h4,q1,Q,q3⟩
def Hw(w:List Ap×Ak×Int):Aw:=[(0,(true,.arr 108 3 (w.1.map Ap.c))),(1,(true,.arr 137 3 (w.2.1.Tiles.map Al.c)))]
def Hv(w:List Ap×Ak×Int):AV:= .tup [.own 0,.agg [.own 1],.im (.int .i64 w.2.2)]
def K1(a:Ax×List Int×Nat):List Ap×Ak×Int:=Gr a.1 a.2.1 a.2.2 a.1.Seed []
def grnI.ca(a:Ax×List Int×Nat):List AV:=[.im (.agg (Ax.c a.1)),.im (.sl false 1 (a.2.1.map Ai)),.im (.int .i64 a.2.2)]
def grnI.H1(a:Ax×List Int×Nat):Aw:=Hw (K1 a)
def S7(j:Nat):Bool:=j==0||j==1
def grnI.row:AB:=AF grnI.ca (λ_=>[]) 0 (λa=>F2 a.1=true/\DV a.2.1=true/\a.2.2<=501) (λ_=>false) (λa=>Hv (K1 a)) grnI.H1 20
def grnI.ok:AC Tryz.prog 124 grnI.row:=by
 refine Pb (tC newC.ok (tC growI.ok (tC asmCX.ok tN))) Tryz.func124 rfl (by kernel_rfl) (exB:=S7) (R:=λa r=>r=Hv (K1 a)) (λ_=>rfl)
  (λa=>by simp[grnI.ca,Ax.c,Aq,AV.bel,Ac,A9,BR]) (λa p hp=> ?_) (λa r h=>by subst h;exact CJ.refl _) ?_
 rotate_left
 intro a O;simp only[Tryz.f124,grnI.ca,Ax.c];simp(disch:=omega)only[ZA,simprocAttr];obtain⟨s,l,n⟩:=a;obtain⟨c1,hl,hn⟩:=O;simp only at c1 hl hn⊢;have c2:=(Hz c1).2.2;obtain⟨aa,G⟩:=Xx c1 c2;refine AF.os (s,s.Seed) [] aa (λj=>by simp[Ao,hget]) rfl rfl ?_ ?_
 .simp(disch:=omega)only[ZA,simprocAttr,Ax.c,newC.ca,CO,Ax.c,Ak.c]
 simp(disch:=omega)only[ZA,simprocAttr,newC.H1];obtain⟨w,hw⟩: ∃w,w=FG l n (Kf s s.Seed) s.Seed []:=⟨_,rfl⟩;have z:=LS (l:=l) n (Kf s s.Seed) s.Seed [] G;rw[<-hw] at z;refine AF.os (Kf s s.Seed,s.Seed,l,n) [7,5,6] ⟨G,hl,hn⟩ (λj=>Ga _ j) rfl rfl ?_ ?_
 .simp(disch:=omega)only[ZA,simprocAttr,DH,growI.ca,B3,BU,Dj,EI];exact⟨rfl,rfl,rfl,rfl⟩
 have hS:(Kf s s.Seed).Sys=s:=rfl;rcases z with ⟨g1,g2,Z⟩|⟨g1,g2,Z⟩
 .have hF:K1 (s,l,n)=(w.2.2.1,w.2.1,0):=g2;obtain⟨e1,⟨kk,Q⟩,_,e4,e5,_⟩:=Z;simp(disch:=omega)only[ZA,simprocAttr,DH,growI.H1,Dq,Dj,EI,growI.r0,<-hw,g1];refine AF.os w.1 [7,5,6] ⟨Q.nd,by have:=Q.size;omega⟩ (λj=>Ga _ j) rfl rfl ?_ ?_
  .simp(disch:=omega)only[ZA,simprocAttr,DH,asmC.ca,B3,BU,Dj,EI,e1]
   try exact⟨rfl,rfl,rfl⟩
  simp(disch:=omega)only[ZA,simprocAttr,Fy,DH,asmCX.H1,mT,Dj,EI];have eT:(IG w.1.Tl).Tiles=w.2.1.Tiles:=(CR Ak.Tiles Q.eq).symm;simp only[eT];refine⟨[],[(0,some 8),(1,some 28),(2,some 2)],⟨[(6,.own 0),(7,.ptr 2 0),(8,.im (.int .i64 0))],[(2,(true,.cells 39 [.own 1])),(0,(true,.arr 108 3 (w.2.2.1.map Ap.c))),(1,(true,.arr 137 3 (w.2.1.Tiles.map Al.c)))],3⟩,?_,by simp[Aj.good,Am,Ac,A9,AV.bel,Aq],by simp,?_⟩
  .simp only[Az];simp(disch:=omega)only[ZA,simprocAttr,Br]
   try simp
  .simp(disch:=omega)only[ZA,simprocAttr,S7,Hv,grnI.H1,Hw,hF]
   try simp
 .have hF:K1 (s,l,n)=([],⟨[]⟩,4):=Z;simp(disch:=omega)only[ZA,simprocAttr,Fy,DH,growI.H1,Dq,Dj,EI,growI.r0,<-hw,g1,g2];refine⟨[],[(0,some 28),(1,none),(2,some 2)],⟨[(6,.own 0),(7,.ptr 2 0),(8,.im (.int .i64 4))],[(2,(true,.cells 39 [.own 1])),(0,(true,.arr 108 3 ([]))),(1,(true,.arr 137 3 ([])))],3⟩,?_,by simp[Aj.good,Am,Ac,A9,AV.bel,Aq],by simp,?_⟩
  .simp only[Az];simp(disch:=omega)only[ZA,simprocAttr,Br,Xh]
   try simp
  .simp(disch:=omega)only[ZA,simprocAttr,S7,Hv,grnI.H1,Hw,hF]
   try simp
 simp[grnI.H1,Hw] at hp;rcases hp with rfl|rfl
 .exact .inr ⟨by omega,by omega,rfl,rfl⟩
 .exact .inr ⟨by omega,by omega,rfl,rfl⟩
def UD{s:Ax}(c1:F2 s=true):s.Seed.Tiles.length<=500:=(Zu (Hz c1).2.2).2
def YI{s:Ax}(c1:F2 s=true):1<=s.Seed.Tiles.length:=by
 simp only[F2,AR,Ki,ZdK] at c1;exact fL.2 c1.2.2.1
def grI.ca(a:Ax×List Int):List AV:=[.im (.agg (Ax.c a.1)),.im (.sl false 1 (a.2.map Ai))]
def grI.H1(a:Ax×List Int):Aw:=Hw (Fl a.1 a.2)
def grI.row:AB:=AF grI.ca (λ_=>[]) 0 (λa=>QT a.1.Set) (λ_=>false) (λa=>Hv (Fl a.1 a.2)) grI.H1 20
def grI.ok:AC Tryz.prog 66 grI.row:=by
 refine Pb (tC validI_.ok (tC vSch_.ok (tC grnI.ok tN))) Tryz.func66 rfl (by kernel_rfl) (exB:=S7) (R:=λa r=>r=Hv (Fl a.1 a.2)) (λ_=>rfl)
  (λa=>by simp[grI.ca,Ax.c,Aq,AV.bel,Ac,A9,BR]) (λa p hp=> ?_) (λa r h=>by subst h;exact CJ.refl _) ?_
 rotate_left
 intro a z;simp only[Tryz.f66,grI.ca,Ax.c];simp(disch:=omega)only[ZA,simprocAttr,C8,validI_.q,validI_.fv,vSch_.q,vSch_.fv,Fy,Ax.c];obtain⟨s,l⟩:=a;simp only at z⊢;refine⟨z,?_⟩;simp only[bM];by_cases c1:F2 s=true
 case neg=>
  rw[An (by simpa using c1)];have O:Fl s l=([],⟨[]⟩,1):=by simp only[Fl];rw[An (by simpa using c1)]
  refine⟨[],[(0,some 3),(1,none),(2,some 2)],⟨[(4,.own 0),(5,.ptr 2 0),(6,.im (.int .i64 1))],[(2,(true,.cells 39 [.own 1])),(0,(true,.arr 108 3 ([]))),(1,(true,.arr 137 3 ([])))],3⟩,?_,by simp[Aj.good,Am,Ac,A9,AV.bel,Aq],by simp,?_⟩
  .simp only[Az];simp(disch:=omega)only[ZA,simprocAttr,Br,Xh]
   try simp
  .simp(disch:=omega)only[ZA,simprocAttr,S7,Hv,grI.H1,O,Hw]
   try simp
 rw[Af (by simpa using c1)];by_cases G:DV l=true
 case neg=>
  rw[An (by simpa using G)];have O:Fl s l=([],⟨[]⟩,2):=by simp only[Fl];rw[Af (by simp[c1]),An (by simpa using G)]
  refine⟨[],[(0,some 3),(1,none),(2,some 2)],⟨[(4,.own 0),(5,.ptr 2 0),(6,.im (.int .i64 2))],[(2,(true,.cells 39 [.own 1])),(0,(true,.arr 108 3 ([]))),(1,(true,.arr 137 3 ([])))],3⟩,?_,by simp[Aj.good,Am,Ac,A9,AV.bel,Aq],by simp,?_⟩
  .simp only[Az];simp(disch:=omega)only[ZA,simprocAttr,Br,Xh]
   try simp
  .simp(disch:=omega)only[ZA,simprocAttr,S7,Hv,grI.H1,O,Hw]
   try simp
 rw[Af (by simpa using G)];obtain⟨w,hw⟩: ∃w,w=Fl s l:=⟨_,rfl⟩;have O:K1 (s,l,501)=w:=by
  rw[hw];simp only[K1,Fl];rw[Af (by simp[c1]),Af (by simp[G])];exact rC 500 _ _ (UD c1) (by have:=YI c1;omega)
 refine AF.os (s,l,501) [] ⟨c1,G,AP _⟩ (λj=>by simp[Ao,hget]) rfl rfl ?_ ?_
 .simp(disch:=omega)only[ZA,simprocAttr,Ax.c,grnI.ca,CO,Ax.c]
  try exact⟨rfl,rfl,rfl⟩
 simp(disch:=omega)only[ZA,simprocAttr,Fy,grnI.H1,Hw,Hv,O,<-hw];refine⟨[],[(0,some 3),(1,some 4),(2,some 2)],⟨[(4,.own 0),(5,.ptr 2 0),(6,.im (.int .i64 w.2.2))],[(2,(true,.cells 39 [.own 1])),(0,(true,.arr 108 3 (w.1.map Ap.c))),(1,(true,.arr 137 3 (w.2.1.Tiles.map Al.c)))],3⟩,?_,by simp[Aj.good,Am,Ac,A9,AV.bel,Aq],by simp,?_⟩
 .simp only[Az];simp(disch:=omega)only[ZA,simprocAttr,Br]
  try simp
 .simp(disch:=omega)only[ZA,simprocAttr,S7,grI.H1,<-hw,Hw]
  try simp
 simp[grI.H1,Hw] at hp;rcases hp with rfl|rfl
 .exact .inr ⟨by omega,by omega,rfl,rfl⟩
 .exact .inr ⟨by omega,by omega,rfl,rfl⟩
def SC(s:Ax)(l:List Int):(Fl s l).1.length<=500/\(Fl s l).2.1.Tiles.length<=500:=by
 simp only[Fl];split
 .simp
 rename_i c1;split
 .simp
 have:=LW s l 500 s.Seed [] (UD (by simpa using c1))
 simpa using this
def schS_.fv(a:(List Int)):Bool:=(DV) a
def schS_.row:AB:=vK (b1 (qS Dt C5)) rB (λa=>True) schS_.fv
def schS_.q:=AT (R:=schS_.row) rfl
def schS_.ok:AC Tryz.prog 45 schS_.row:=by
 refine vw (tC l00In.ok tN) Tryz.func45 rfl (by kernel_rfl) ?_;intro a O;simp only[Tryz.f45];simp(disch:=omega)only[ZA,simprocAttr,schS_.fv];intro _;by_cases c:a.length<=200
 case neg=>
  rw[An (by omega)];simp only[DV,ZY c,F5]
 rw[Af (by omega)];have Z:DV a= !a.any Ei:=by simp only[DV,uZ c,DZ]
 rw[Z];refine AQ.old ⟨{k:Nat//k<=a.length/\(a.drop k).any Ei=a.any Ei},λk=>⟨[(3,.im (.int .i64 k.1)),(2,.im (.bool false)),(0,.im (.sl false 1 (a.map Ai)))],[],0⟩,λk=>a.length - k.1,λk=>⟨by simp[Aj.good,Am,Ac,A9,AV.bel],by simp⟩,⟨⟨0,by simp⟩,by simp(disch:=omega)only[ZA,simprocAttr,sub]⟩,λk=> ?_⟩;obtain⟨k,Q,z⟩:=k;simp(disch:=omega)only[ZA,simprocAttr,l00In.q,l00In.fv,sub,AO];intro _;refine⟨λG=>⟨G,λx hx=> ?_⟩,λG=> ?_⟩
 .rw[Fc hx,List.any_cons] at z;refine⟨λh=> ?_,λh=>⟨⟨k+1,by omega,?_⟩,by simp only;omega,by rw[AH (by omega) (by omega)];simp only;omega⟩⟩
  .have:Ei x=true:=by simp only[Ei,h];rfl
   rw[this,fT] at z;rw[<-z];rfl
  .have:Ei x=false:=by simp only[Ei];simpa using h
   rw[this,aA] at z;exact z
 .rw[Dl (by omega)] at z;rw[<-z];rfl
def grwS_.fv(a:Ax×Ak×(List Int)×Int):(List Ap)×Ak×Bool×Int:=(λs b l n=>Ea s l n.toNat b []) (a.1) (a.2.1) (a.2.2.1) (a.2.2.2)
def grwS_.row:AB:=vK (b4 (qP 4 Ax.d_le) (qP 1 Ak.d_le) (qS Dt C5) qI) (r4 (rS Ap.d_le Ap.c_n) (rA Ak.d_le) rB rI) (λa=>BE a.1.Set/\DM a.1.Set a.2.1/\a.2.1.Tiles.length<=500/\a.1.Set.Tiles.length<=160/\DV a.2.2.1=true/\0<=a.2.2.2/\a.2.2.2<=500) grwS_.fv
def grwS_.q:=AT (R:=grwS_.row) rfl
def grwS_.ok:AC Tryz.prog 47 grwS_.row:=by
 refine vw (tC l03Own.ok (tC opsS_.ok (tC l08Attach.ok tN))) Tryz.func47 rfl (by kernel_rfl) ?_;intro a ac;simp only[Tryz.f47];simp(disch:=omega)only[ZA,simprocAttr,Ak.d,grwS_.fv,l03Own.q,l03Own.fv];obtain⟨s,b,l,n⟩:=a;obtain⟨h1,h2,h3,h4,h5,h6,h7⟩:=ac;simp only at h1 h2 h3 h4 h5 h6 h7⊢;refine⟨by omega,?_⟩;refine AQ.ren ⟨{q:Ak×List Ap//q.2.length<=n.toNat/\DM s.Set q.1/\q.1.Tiles.length<=500/\Ea s l (n.toNat - q.2.length) q.1 q.2=Ea s l n.toNat b []},λq=>⟨[(13,.own 6),(12,.ptr 4 0),(11,.im (.int .i64 0)),(10,.im (.bool false)),(9,.ptr 3 0),(8,.own 2),(0,.ptr 0 0),(2,.im (.sl false 1 (l.map Ai))),(3,.im (.int .i64 n))],[(6,(true,.arr 108 3 (q.1.2.map Ap.c))),(4,(true,.cells 39 [.im (.sl false 3 (q.1.1.Tiles.map Al.c))])),(3,(true,.cells 39 [.im (.sl true 0 [])])),(2,(true,.arr 108 3 [])),(0,(false,.view (Ax.c s))),(1,(false,.view (Ak.c b)))],7⟩,λq=>n.toNat - q.1.2.length,λq=>⟨by simp[Aj.good,Am,Ac,A9,AV.bel,Aq],by simp⟩,⟨⟨(b,[]),by simp only;exact⟨Cx _,h2,h3,by rw[Ha,ZX]⟩⟩,[(6,some 5)],?_⟩,λq=> ?_⟩
 .simp only[Az];simp(disch:=omega)only[ZA,simprocAttr,Br]
  try simp
 obtain⟨⟨b1,d⟩,e1,e2,e3,e4⟩:=q;simp only at e1 e2 e3 e4;simp(disch:=omega)only[ZA,simprocAttr,Ak.d,opsS_.q,opsS_.fv,l08Attach.q,l08Attach.fv,AO];have ag:=pP s e3 h4;have hX: ∀m,n.toNat - d.length=m+1-> ∀o,GG s l b1 d.length=some o->Ea s l n.toNat b []=if 500<=b1.Tiles.length then ([],⟨[]⟩,false,4) else Ea s l m (BT b1 o.At o.Tile) (d++[o]):=by
  intro m hm o z;rw[<-e4,hm,Ea,z]
 refine⟨⟨h1,e2,e3,by omega⟩,λ_=>⟨λc1=> ?_,λc1 _=>⟨λc2=> ?_,λc2 _=> ?_⟩⟩⟩
 .have ab:=W7 (s:=s) (l:=l) (b:=b1) (k:=d.length)|>.2 (Qj.1 (by omega))
  rw[<-e4];cases hm:n.toNat - d.length with
  |zero=>rw[Ea,ab];rfl
  |succ m=>rw[Ea,ab]
 .have af:(GG s l b1 d.length).isNone=false:=by
   cases hq:GG s l b1 d.length with
   |none=>exact absurd (by rw[W7.1 hq];rfl) c1
   |some o=>rfl
  rw[<-e4,show n.toNat - d.length=0 by omega,Ea,af]
 have hn:(0:Int)<(Cm s b1).length:=by omega
 obtain⟨m,hm⟩: ∃m,n.toNat - d.length=m+1:=⟨n.toNat - d.length - 1,by omega⟩;have O: ∀o,GG s l b1 d.length=some o-> ¬(Gm b1 o).2=0->([],(⟨[]⟩:Ak),false,(Gm b1 o).2)=Ea s l n.toNat b []:=λo z h=>by
  rw[hX m hm o z];simp only[Gm] at h⊢;split at h
  .rename_i c;rw[An c,An c]
  .simp at h
 have Q: ∀o,GG s l b1 d.length=some o->(Gm b1 o).2=0->b1.Tiles.length<500/\(Gm b1 o).1=BT b1 o.At o.Tile/\DM s.Set (BT b1 o.At o.Tile)/\Ea s l (n.toNat - (d++[o]).length) (BT b1 o.At o.Tile) (d++[o])=Ea s l n.toNat b []:=λo z h=>by
  rw[hX m hm o z];simp only[Gm] at h⊢;split at h
  .simp at h
  .rename_i c;rw[Af c,Af c,show n.toNat - (d++[o]).length=m by simp;omega];exact⟨by omega,rfl,QI h4 e2 (QF e2 z),rfl⟩
 have ad: ∀i:Nat,i=Gy l (Cm s b1).length d.length->GG s l b1 d.length=(Cm s b1)[i]? :=λi hi=>by rw[hi];rfl
 refine⟨λc3 _ _=>⟨by omega,Zej _ (by omega),ZdS _ (by omega),λx hx _=> ?_⟩,λc3=> ?_⟩
 .have aa:=rD h5 (AZ hx);have e5:(x.tmod (Cm s b1).length).toNat=Gy l (Cm s b1).length d.length:=by
   rw[fN (by omega),<-Int.natCast_emod,Bx] at hx;simp only[Gy];rw[Af (by omega),hx,AM,fN aa.1]
  refine⟨c1,Zej _ aa.1,ZdS _ hn,λo z=> ?_⟩;have G:=(ad _ e5).trans z;refine⟨O o G,λc4=>⟨Zej _ aa.1,ZdS _ hn,λo2 Z=> ?_⟩⟩;obtain rfl:o=o2:=AD (z.symm.trans Z);obtain⟨f1,f2,f3,f4⟩:=Q o G (ZeD.1 c4);refine⟨by simp[BB,Bz,D.one],by omega,⟨(BT b1 o.At o.Tile,d++[o]),by simp only;exact⟨by simp;omega,f3,by rw[NS];omega,f4⟩⟩,[(6,some 9)],by simp;omega,?_⟩;simp only[Az,f2];simp(disch:=omega)only[ZA,simprocAttr,Br];simp[Ap.c]
 .have e5:0=Gy l (Cm s b1).length d.length:=by
   simp only[Gy];rw[An (by omega)]
  refine⟨hn,λo z=> ?_⟩;have G:=(ad _ e5).trans z;refine⟨O o G,λc4=>⟨hn,λo2 Z=> ?_⟩⟩;obtain rfl:o=o2:=AD (z.symm.trans Z);obtain⟨f1,f2,f3,f4⟩:=Q o G (ZeD.1 c4);refine⟨by simp[BB,Bz,D.one],by omega,⟨(BT b1 o.At o.Tile,d++[o]),by simp only;exact⟨by simp;omega,f3,by rw[NS];omega,f4⟩⟩,[(6,some 9)],by simp;omega,?_⟩;simp only[Az,f2];simp(disch:=omega)only[ZA,simprocAttr,Br];simp[Ap.c]
def MR{s:Ax}(c1: ¬F2 s=false):BE s.Set/\DM s.Set s.Seed/\s.Seed.Tiles.length<=500/\s.Set.Tiles.length<=160:=by
 rw[FU] at c1;obtain⟨⟨q1,z,G,_⟩,_,O⟩:=Hz c1;exact⟨q1,z,(Zu O).2,G⟩
def GrowS_.fv(a:Ax×(List Int)):(List Ap)×Ak×Int:=(Fl) (a.1) (a.2)
def GrowS_.row:AB:=vK (b2 (qR Ax.d_le) (qS Dt C5)) (r3 (rS Ap.d_le Ap.c_n) (rA Ak.d_le) rI) (λa=>True) GrowS_.fv
def GrowS_.q:=AT (R:=GrowS_.row) rfl
def GrowS_.ok:AC Tryz.prog 64 GrowS_.row:=by
 refine vw (tC l08Ok.ok (tC schS_.ok (tC grwS_.ok tN))) Tryz.func64 rfl (by kernel_rfl) ?_;intro a G;simp only[Tryz.f64];simp(disch:=omega)only[ZA,simprocAttr,Ak.d,GrowS_.fv,l08Ok.q,l08Ok.fv,schS_.q,schS_.fv,grwS_.q,grwS_.fv];obtain⟨s,l⟩:=a;simp only[Fl];by_cases c1:F2 s=false
 .rw[An c1,An c1]
 rw[Af c1,Af c1];by_cases z:DV l=false
 .rw[An z,An z]
 rw[Af z,Af z];rw[FU] at z;obtain⟨q1,O,Q,Z⟩:=MR c1;exact⟨⟨q1,O,Q,Z,z⟩,LV 500 s.Seed []⟩
def Qado(l:List Int)(i:Nat)(x:Int):(l.map Ai).set i [.int .i64 x]=(l.set i x).map Ai:=by rw[Lu];rfl
def VP(k:Int)(n:Nat):List Int:=(List.range n).map λ(i:Nat)=>k+(i:Int)
def bP(k:Int)(n:Nat):(VP k n).length=n:=by simp[VP]
def Tn(k:Int)(n:Nat):VP k (n+1)=VP k n++[k+(n:Int)]:=by simp[VP,mF]
def Hg(k:Int)(l:List Int)(i:Nat):List Int:=VP k i++l.drop i
def Tq{k:Int}{l:List Int}{i:Nat}(h:i<=l.length):(Hg k l i).length=l.length:=by simp[Hg,bP];omega
def Tr{k:Int}{l:List Int}{i:Nat}(h:i<l.length):(Hg k l i).set i (k+(i:Int))=Hg k l (i+1):=by
 have hd:l.drop i=l[i]::l.drop (i+1):=by rw[VE h]
 rw[Hg,mA _ _ (by rw[bP];omega),bP,hd,Hd,ZR,Hg,Tn];simp
def Tp{k:Int}{l:List Int}{i:Nat}(h:i=l.length):Hg k l i=VP k l.length:=by
 subst h;simp[Hg]
def mkIC.ca(a:List Int×Int):List AV:=[.own 0,.im (.int .i64 a.2)]
def mkIC.H0(a:List Int×Int):Aw:=[(0,(true,.arr 2 1 (a.1.map Ai)))]
def mkIC.H1(a:List Int×Int):Aw:=[(0,(true,.arr 2 1 ((VP a.2 a.1.length).map Ai)))]
def mkIC.row:AB:=AF mkIC.ca mkIC.H0 1 (λa=>0<=a.2/\a.2+a.1.length<=1099511627776) (λj=>j==0) (λa=> .im (.int .i64 (a.2+a.1.length))) mkIC.H1 0
def mkIC.ok:AC Tryz.prog 24 mkIC.row:=by
 refine ow tN Tryz.func24 rfl (by kernel_rfl) (exB:=λ_=>false) (R:=λa r=>r= .im (.int .i64 (a.2+a.1.length))) (λ_=>rfl)
  (λa=>by simp[mkIC.ca,mkIC.H0,Aq,AV.bel,Ac,A9,BR,Ad.nms,Ao,hget]) (λa p hp=> ?_) (λa r h=>by subst h;exact CJ.refl _) ?_
 rotate_left
 intro a z;simp only[Tryz.f24,mkIC.ca,mkIC.H0,mkIC.H1];simp(disch:=omega)only[ZA,simprocAttr];obtain⟨l,k⟩:=a;simp only at z⊢;obtain⟨Z,h2⟩:=z;refine AQ.old ⟨{i:Nat//i<=l.length},λi=>⟨[(5,.im (.int .i64 i.1)),(4,.im (.int .i64 0)),(1,.im (.int .i64 (k+i.1))),(0,.own 0)],[(0,(true,.arr 2 1 ((Hg k l i.1).map Ai)))],1⟩,λi=>l.length - i.1,λi=>⟨by simp[Aj.good,Am,Ac,A9,AV.bel],by simp⟩,⟨⟨0,by simp⟩,by simp(disch:=omega)only[ZA,simprocAttr,sub];simp[Hg,VP]⟩,λi=> ?_⟩;obtain⟨i,O⟩:=i;have Q:=Tq (k:=k) O;simp(disch:=omega)only[ZA,simprocAttr,sub,AO,Q];intro _;refine⟨λG=>⟨G,G,λx _=>⟨⟨i+1,by omega⟩,by simp only;omega,⟨?_,?_⟩,?_⟩⟩,λG=>⟨by omega,by rw[Tp (by omega)]⟩⟩
 .rw[AH (by omega) (by omega)];simp only;omega
 .rw[AH (by omega) (by omega)];simp only;omega
 .rw[Qado,Tr G]
 simp[mkIC.H1] at hp;subst hp;exact .inl ⟨by omega,rfl,rfl⟩
def Kr(n:Nat):ByteArray:=if h:n=0 then ByteArray.empty else Kr (n/10)++Hj [IntKind.u8.wrap (48+((n % 10:Nat):Int))] termination_by n
def K7(k:Int):ByteArray:=if k<=0 then "m0".toUTF8 else "m".toUTF8++Kr k.toNat
def mkText.fv(a:Int):ByteArray:=(K7) a
def mkText.row:AB:=vK (b1 qI) rT (λa=>a<=1099511627776) mkText.fv
def mkText.q:=AT (R:=mkText.row) rfl
def mkText.ok:AC Tryz.prog 164 mkText.row:=by
 refine vw tN Tryz.func164 rfl (by kernel_rfl) ?_;intro a Q;simp only[Tryz.f164];simp(disch:=omega)only[ZA,simprocAttr,mkText.fv];by_cases c0:a<=0
 .rw[An c0];simp only[K7];rw[An c0];rfl
 rw[Af c0];have eR:K7 a= "m".toUTF8++Kr a.toNat:=by simp only[K7];rw[Af c0]
 refine AQ.old ⟨{q:Nat×ByteArray//(q.1:Int)<=a/\Kr a.toNat=Kr q.1++q.2/\q.2.size+q.1<=a.toNat},λq=>⟨[(3,.im (.str q.1.2)),(0,.im (.int .i64 q.1.1))],[],0⟩,λq=>q.1.1,λq=>⟨by simp[Aj.good,Am,Ac,A9,AV.bel],by simp⟩,⟨⟨(a.toNat,ByteArray.empty),by simp only;exact⟨by omega,by simp,by simp⟩⟩,by simp(disch:=omega)only[ZA,simprocAttr,sub];exact⟨rfl,by omega⟩⟩,λq=> ?_⟩;obtain⟨⟨q,out⟩,G,z,O⟩:=q;simp only at G z O;simp(disch:=omega)only[ZA,simprocAttr,sub,AO];refine⟨λc1=> ?_,λc1=> ?_⟩
 .have hq:q≠0:=by omega
  have Z:(q:Int).tmod 10=((q % 10:Nat):Int):=by rw[fN (by omega)];omega
  have e2:(q:Int).tdiv 10=((q/10:Nat):Int):=by rw[Zep (by omega)];omega
  have e3:IntKind.i64.wrap (48+(q:Int).tmod 10)=48+((q % 10:Nat):Int):=by rw[Z];exact AH (by omega) (by omega)
  rw[e3,e2];have hs:({data:= #[UInt8.ofNat (IntKind.u8.wrap (48+((q % 10:Nat):Int))).toNat]}:ByteArray)=Hj [IntKind.u8.wrap (48+((q % 10:Nat):Int))]:=rfl;have hz:(Hj [IntKind.u8.wrap (48+((q % 10:Nat):Int))]).size=1:=rfl;rw[hs];refine⟨by omega,⟨(q/10,Hj [IntKind.u8.wrap (48+((q % 10:Nat):Int))]++out),by simp only;omega,?_,?_⟩,by simp only;omega,rfl,by exact AH (by omega) (by omega)⟩
  .simp only;rw[z,Kr,dif_neg hq,ByteArray.append_assoc]
  .simp only[ByteArray.size_append,hz];omega
 .have hq:q=0:=by omega
  subst hq;refine⟨by show 1+out.size<=_;omega,?_⟩;rw[eR,z,Kr,dif_pos rfl,ByteArray.empty_append];rfl
def JD{A:Type}(f:Nat->A)(l:List A)(i:Nat):List A:=(List.range i).map f++l.drop i
def cE{A:Type}{f:Nat->A}{l:List A}{i:Nat}(h:i<=l.length):(JD f l i).length=l.length:=by simp[JD];omega
def bX{A:Type}(f:Nat->A)(l:List A):JD f l 0=l:=by simp[JD]
def cH{A:Type}{f:Nat->A}{l:List A}{i:Nat}(h:i<l.length):(JD f l i).set i (f i)=JD f l (i+1):=by
 have hd:l.drop i=l[i]::l.drop (i+1):=by rw[VE h]
 have z:((List.range i).map f).length=i:=by simp
 rw[JD,mA _ _ (by rw[z];omega),z,hd,Hd,ZR,JD,mF];simp
def DG{A:Type}(f:Nat->A)(n:Nat):List A:=(List.range n).map f
def cJ{A:Type}{f:Nat->A}{l:List A}{i:Nat}(h:i=l.length):JD f l i=DG f l.length:=by
 subst h;simp[JD,DG]
def gF(k:Int)(i:Nat):Ar:=⟨K7 (k+2*i),k+2*i+1⟩
def mkGC.ca(a:List Ar×Int):List AV:=[.own 0,.im (.int .i64 a.2)]
def mkGC.H0(a:List Ar×Int):Aw:=[(0,(true,.arr 204 2 (a.1.map Ar.c)))]
def mkGC.H1(a:List Ar×Int):Aw:=[(0,(true,.arr 204 2 ((DG (gF a.2) a.1.length).map Ar.c)))]
def mkGC.row:AB:=AF mkGC.ca mkGC.H0 1 (λa=>0<=a.2/\a.2+2*a.1.length<=1099511627776) (λj=>j==0) (λa=> .im (.int .i64 (a.2+2*a.1.length))) mkGC.H1 0
def mkGC.ok:AC Tryz.prog 115 mkGC.row:=by
 refine ow (tC mkText.ok tN) Tryz.func115 rfl (by kernel_rfl) (exB:=λ_=>false) (R:=λa r=>r= .im (.int .i64 (a.2+2*a.1.length))) (λ_=>rfl)
  (λa=>by simp[mkGC.ca,mkGC.H0,Aq,AV.bel,Ac,A9,BR,Ad.nms,Ao,hget]) (λa p hp=> ?_) (λa r h=>by subst h;exact CJ.refl _) ?_
 rotate_left
 intro a z;simp only[Tryz.f115,mkGC.ca,mkGC.H0,mkGC.H1];simp(disch:=omega)only[ZA,simprocAttr];obtain⟨l,k⟩:=a;simp only at z⊢;obtain⟨h1,h2⟩:=z;refine AQ.old ⟨{i:Nat//i<=l.length},λi=>⟨[(5,.im (.int .i64 i.1)),(4,.im (.int .i64 0)),(1,.im (.int .i64 (k+2*i.1))),(0,.own 0)],[(0,(true,.arr 204 2 ((JD (gF k) l i.1).map Ar.c)))],1⟩,λi=>l.length - i.1,λi=>⟨by simp[Aj.good,Am,Ac,A9,AV.bel],by simp⟩,⟨⟨0,by simp⟩,by simp(disch:=omega)only[ZA,simprocAttr,sub,bX];simp⟩,λi=> ?_⟩;obtain⟨i,Z⟩:=i;have Q:=cE (f:=gF k) Z;simp(disch:=omega)only[ZA,simprocAttr,mkText.q,mkText.fv,AO,Q];intro _;refine⟨λO=>⟨by omega,O,O,λx hx=> ?_⟩,λO=> ?_⟩
 .have w1:IntKind.i64.wrap (k+2*(i:Int)+1)=k+2*(i:Int)+1:=AH (by omega) (by omega);have G:i<(List.map Ar.c (JD (gF k) l i)).length:=by rw[GZ,Q];exact O
  refine⟨by rw[EX];exact G,by rw[EX];exact G,Jw (Dm G) ?_⟩;simp(disch:=omega)only[ZA,simprocAttr,sub,w1,vI];refine⟨⟨i+1,by omega⟩,by simp only;omega,⟨?_,?_⟩,?_⟩
  .rw[AH (by omega) (by omega)];simp only;omega
  .rw[AH (by omega) (by omega)];simp only;omega
  .simp only;rw[<-cH O,Lu];rfl
 .exact⟨by omega,by rw[cJ (by omega)]⟩
 simp[mkGC.H1] at hp;subst hp;exact .inl ⟨by omega,rfl,rfl⟩
def pF(k:Int)(i:Nat):Al:=⟨⟨k+3*i,k+3*i+1⟩,k+3*i+2⟩
def mkPC.ca(a:List Al×Int):List AV:=[.own 0,.im (.int .i64 a.2)]
def mkPC.H0(a:List Al×Int):Aw:=[(0,(true,.arr 137 3 (a.1.map Al.c)))]
def mkPC.H1(a:List Al×Int):Aw:=[(0,(true,.arr 137 3 ((DG (pF a.2) a.1.length).map Al.c)))]
def mkPC.row:AB:=AF mkPC.ca mkPC.H0 1 (λa=>0<=a.2/\a.2+3*a.1.length<=1099511627776) (λj=>j==0) (λa=> .im (.int .i64 (a.2+3*a.1.length))) mkPC.H1 0
def mkPC.ok:AC Tryz.prog 62 mkPC.row:=by
 refine ow tN Tryz.func62 rfl (by kernel_rfl) (exB:=λ_=>false) (R:=λa r=>r= .im (.int .i64 (a.2+3*a.1.length))) (λ_=>rfl)
  (λa=>by simp[mkPC.ca,mkPC.H0,Aq,AV.bel,Ac,A9,BR,Ad.nms,Ao,hget]) (λa p hp=> ?_) (λa r h=>by subst h;exact CJ.refl _) ?_
 rotate_left
 intro a G;simp only[Tryz.f62,mkPC.ca,mkPC.H0,mkPC.H1];simp(disch:=omega)only[ZA,simprocAttr];obtain⟨l,k⟩:=a;simp only at G⊢;obtain⟨h1,h2⟩:=G;refine AQ.old ⟨{i:Nat//i<=l.length},λi=>⟨[(5,.im (.int .i64 i.1)),(4,.im (.int .i64 0)),(1,.im (.int .i64 (k+3*i.1))),(0,.own 0)],[(0,(true,.arr 137 3 ((JD (pF k) l i.1).map Al.c)))],1⟩,λi=>l.length - i.1,λi=>⟨by simp[Aj.good,Am,Ac,A9,AV.bel],by simp⟩,⟨⟨0,by simp⟩,by simp(disch:=omega)only[ZA,simprocAttr,sub,bX];simp⟩,λi=> ?_⟩;obtain⟨i,Z⟩:=i;have Q:=cE (f:=pF k) Z;simp(disch:=omega)only[ZA,simprocAttr,AO,Q];intro _;refine⟨λO=>⟨O,O,λx hx=> ?_⟩,λO=> ?_⟩
 .have w1:IntKind.i64.wrap (k+3*(i:Int)+1)=k+3*(i:Int)+1:=AH (by omega) (by omega);have w2:IntKind.i64.wrap (k+3*(i:Int)+1+1)=k+3*(i:Int)+2:=(AH (by omega) (by omega)).trans (by omega);have z:i<(List.map Al.c (JD (pF k) l i)).length:=by rw[GZ,Q];exact O
  simp only[w1];refine⟨by rw[EX];exact z,by rw[EX];exact z,Jw (Dm z) ?_⟩;simp(disch:=omega)only[ZA,simprocAttr,w2,vI];refine⟨by rw[EX];exact z,by rw[EX];exact z,Jw (Dm z) ?_⟩;simp(disch:=omega)only[ZA,simprocAttr,sub,vI];refine⟨⟨i+1,by omega⟩,by simp only;omega,⟨?_,?_⟩,?_⟩
  .rw[AH (by omega) (by omega)];simp only;omega
  .rw[AH (by omega) (by omega)];simp only;omega
  .simp only;rw[<-cH O,Lu];rfl
 .exact⟨by omega,by rw[cJ (by omega)]⟩
 simp[mkPC.H1] at hp;subst hp;exact .inl ⟨by omega,rfl,rfl⟩
def oF(k:Int)(i:Nat):Ap:=⟨⟨k+3*i,k+3*i+1⟩,k+3*i+2⟩
def mkOC.ca(a:List Ap×Int):List AV:=[.own 0,.im (.int .i64 a.2)]
def mkOC.H0(a:List Ap×Int):Aw:=[(0,(true,.arr 108 3 (a.1.map Ap.c)))]
def mkOC.H1(a:List Ap×Int):Aw:=[(0,(true,.arr 108 3 ((DG (oF a.2) a.1.length).map Ap.c)))]
def mkOC.row:AB:=AF mkOC.ca mkOC.H0 1 (λa=>0<=a.2/\a.2+3*a.1.length<=1099511627776) (λj=>j==0) (λa=> .im (.int .i64 (a.2+3*a.1.length))) mkOC.H1 0
def mkOC.ok:AC Tryz.prog 25 mkOC.row:=by
 refine ow tN Tryz.func25 rfl (by kernel_rfl) (exB:=λ_=>false) (R:=λa r=>r= .im (.int .i64 (a.2+3*a.1.length))) (λ_=>rfl)
  (λa=>by simp[mkOC.ca,mkOC.H0,Aq,AV.bel,Ac,A9,BR,Ad.nms,Ao,hget]) (λa p hp=> ?_) (λa r h=>by subst h;exact CJ.refl _) ?_
 rotate_left
 intro a G;simp only[Tryz.f25,mkOC.ca,mkOC.H0,mkOC.H1];simp(disch:=omega)only[ZA,simprocAttr];obtain⟨l,k⟩:=a;simp only at G⊢;obtain⟨h1,h2⟩:=G;refine AQ.old ⟨{i:Nat//i<=l.length},λi=>⟨[(5,.im (.int .i64 i.1)),(4,.im (.int .i64 0)),(1,.im (.int .i64 (k+3*i.1))),(0,.own 0)],[(0,(true,.arr 108 3 ((JD (oF k) l i.1).map Ap.c)))],1⟩,λi=>l.length - i.1,λi=>⟨by simp[Aj.good,Am,Ac,A9,AV.bel],by simp⟩,⟨⟨0,by simp⟩,by simp(disch:=omega)only[ZA,simprocAttr,sub,bX];simp⟩,λi=> ?_⟩;obtain⟨i,Z⟩:=i;have Q:=cE (f:=oF k) Z;simp(disch:=omega)only[ZA,simprocAttr,AO,Q];intro _;refine⟨λO=>⟨O,O,λx hx=> ?_⟩,λO=> ?_⟩
 .have w1:IntKind.i64.wrap (k+3*(i:Int)+1)=k+3*(i:Int)+1:=AH (by omega) (by omega);have w2:IntKind.i64.wrap (k+3*(i:Int)+1+1)=k+3*(i:Int)+2:=(AH (by omega) (by omega)).trans (by omega);have z:i<(List.map Ap.c (JD (oF k) l i)).length:=by rw[GZ,Q];exact O
  simp only[w1];refine⟨by rw[EX];exact z,by rw[EX];exact z,Jw (Dm z) ?_⟩;simp(disch:=omega)only[ZA,simprocAttr,w2,vI];refine⟨by rw[EX];exact z,by rw[EX];exact z,Jw (Dm z) ?_⟩;simp(disch:=omega)only[ZA,simprocAttr,sub,vI];refine⟨⟨i+1,by omega⟩,by simp only;omega,⟨?_,?_⟩,?_⟩
  .rw[AH (by omega) (by omega)];simp only;omega
  .rw[AH (by omega) (by omega)];simp only;omega
  .simp only;rw[<-cH O,Lu];rfl
 .exact⟨by omega,by rw[cJ (by omega)]⟩
 simp[mkOC.H1] at hp;subst hp;exact .inl ⟨by omega,rfl,rfl⟩
def toIX.ca(a:List Int):List AV:=[.im (.sl false 1 (a.map Ai))]
def toIX.H1(a:List Int):Aw:=[(1,(true,.arr 2 1 (a.map Ai)))]
def toIX.row:AB:=AF toIX.ca (λ_=>[]) 0 (λa=>a.length<=1073741824) (λ_=>false) (λ_=> .own 1) toIX.H1 2
def toIX.ok:AC Tryz.prog 14 toIX.row:=by
 refine ow tN Tryz.func14 rfl (by kernel_rfl) (exB:=λj=>j==1) (R:=λ_ r=>r= .own 1) (λ_=>rfl)
  (λa=>by simp[toIX.ca,Aq,AV.bel,Ac,A9,BR]) (λa p hp=> ?_) (λa r h=>by subst h;exact CJ.refl _) ?_
 rotate_left
 intro a z;simp only[Tryz.f14,toIX.ca,toIX.H1];simp(disch:=omega)only[ZA,simprocAttr];intro Q;have aa:a.length<=1073741824:=z;refine⟨by omega,?_⟩;refine AQ.old ⟨{k:Nat//k<=a.length},λk=>⟨[(4,.im (.int .i64 k.1)),(3,.own 1),(0,.im (.sl false 1 (a.map Ai)))],[(1,(true,.arr 2 1 ((a.take k.1).map Ai++List.replicate (a.length - k.1) [.int .i64 0])))],2⟩,λk=>a.length - k.1,λk=>⟨by simp[Aj.good,Am,Ac,A9,AV.bel],AP _⟩,⟨⟨0,by omega⟩,by simp(disch:=omega)only[ZA,simprocAttr,sub];simp⟩,λk=> ?_⟩;obtain⟨k,O⟩:=k;simp(disch:=omega)only[ZA,simprocAttr,AO,eN _ _ a k O];intro _;refine⟨λG=> ?_,λG=> ?_⟩
 .refine⟨G,λx Z=>⟨G,G,Jw (eI Ai _ a k x Z) ?_⟩⟩;simp(disch:=omega)only[ZA,simprocAttr,sub];refine⟨⟨k+1,by omega⟩,by simp only;omega,?_,?_⟩
  .rw[AH (by omega) (by omega)];simp only;omega
  .exact eS Ai _ a k x Z
 .rw[eO Ai _ a k (by omega)]
  try trivial
 simp[toIX.H1] at hp;subst hp;exact .inr ⟨by omega,by omega,rfl,rfl⟩
def toGX.ca(a:List Ar):List AV:=[.im (.sl false 2 (a.map Ar.c))]
def toGX.H1(a:List Ar):Aw:=[(1,(true,.arr 204 2 (a.map Ar.c)))]
def toGX.row:AB:=AF toGX.ca (λ_=>[]) 0 (λa=>a.length<=1073741824) (λ_=>false) (λ_=> .own 1) toGX.H1 2
def toGX.ok:AC Tryz.prog 95 toGX.row:=by
 refine ow (tC toGlue.ok tN) Tryz.func95 rfl (by kernel_rfl) (exB:=λj=>j==1) (R:=λ_ r=>r= .own 1) (λ_=>rfl)
  (λa=>by simp[toGX.ca,Aq,AV.bel,Ac,A9,BR]) (λa p hp=> ?_) (λa r h=>by subst h;exact CJ.refl _) ?_
 rotate_left
 intro a z;simp only[Tryz.f95,toGX.ca,toGX.H1];simp(disch:=omega)only[ZA,simprocAttr];intro Q;have aa:a.length<=1073741824:=z;refine⟨by omega,?_⟩;refine AQ.old ⟨{k:Nat//k<=a.length},λk=>⟨[(4,.im (.int .i64 k.1)),(3,.own 1),(0,.im (.sl false 2 (a.map Ar.c)))],[(1,(true,.arr 204 2 ((a.take k.1).map Ar.c++List.replicate (a.length - k.1) [.str ByteArray.empty,.int .i64 0])))],2⟩,λk=>a.length - k.1,λk=>⟨by simp[Aj.good,Am,Ac,A9,AV.bel],AP _⟩,⟨⟨0,by omega⟩,by simp(disch:=omega)only[ZA,simprocAttr,sub];simp⟩,λk=> ?_⟩;obtain⟨k,O⟩:=k;simp(disch:=omega)only[ZA,simprocAttr,toGlue.q,toGlue.fv,AO,eN _ _ a k O];intro _;refine⟨λG=> ?_,λG=> ?_⟩
 .refine⟨G,λx Z=>⟨G,G,Jw (eI Ar.c _ a k x Z) ?_⟩⟩;simp(disch:=omega)only[ZA,simprocAttr,sub];refine⟨⟨k+1,by omega⟩,by simp only;omega,?_,?_⟩
  .rw[AH (by omega) (by omega)];simp only;omega
  .exact eS Ar.c _ a k x Z
 .rw[eO Ar.c _ a k (by omega)]
  try trivial
 simp[toGX.H1] at hp;subst hp;exact .inr ⟨by omega,by omega,rfl,rfl⟩
def toPX.ca(a:List Al):List AV:=[.im (.sl false 3 (a.map Al.c))]
def toPX.H1(a:List Al):Aw:=[(1,(true,.arr 137 3 (a.map Al.c)))]
def toPX.row:AB:=AF toPX.ca (λ_=>[]) 0 (λa=>a.length<=1073741824) (λ_=>false) (λ_=> .own 1) toPX.H1 2
def toPX.ok:AC Tryz.prog 49 toPX.row:=by
 refine ow (tC toPlaced.ok tN) Tryz.func49 rfl (by kernel_rfl) (exB:=λj=>j==1) (R:=λ_ r=>r= .own 1) (λ_=>rfl)
  (λa=>by simp[toPX.ca,Aq,AV.bel,Ac,A9,BR]) (λa p hp=> ?_) (λa r h=>by subst h;exact CJ.refl _) ?_
 rotate_left
 intro a z;simp only[Tryz.f49,toPX.ca,toPX.H1];simp(disch:=omega)only[ZA,simprocAttr];intro Q;have aa:a.length<=1073741824:=z;refine⟨by omega,?_⟩;refine AQ.old ⟨{k:Nat//k<=a.length},λk=>⟨[(4,.im (.int .i64 k.1)),(3,.own 1),(0,.im (.sl false 3 (a.map Al.c)))],[(1,(true,.arr 137 3 ((a.take k.1).map Al.c++List.replicate (a.length - k.1) [.int .i64 0,.int .i64 0,.int .i64 0])))],2⟩,λk=>a.length - k.1,λk=>⟨by simp[Aj.good,Am,Ac,A9,AV.bel],AP _⟩,⟨⟨0,by omega⟩,by simp(disch:=omega)only[ZA,simprocAttr,sub];simp⟩,λk=> ?_⟩;obtain⟨k,O⟩:=k;simp(disch:=omega)only[ZA,simprocAttr,toPlaced.q,toPlaced.fv,AO,eN _ _ a k O];intro _;refine⟨λG=> ?_,λG=> ?_⟩
 .refine⟨G,λx Z=>⟨G,G,Jw (eI Al.c _ a k x Z) ?_⟩⟩;simp(disch:=omega)only[ZA,simprocAttr,sub];refine⟨⟨k+1,by omega⟩,by simp only;omega,?_,?_⟩
  .rw[AH (by omega) (by omega)];simp only;omega
  .exact eS Al.c _ a k x Z
 .rw[eO Al.c _ a k (by omega)]
  try trivial
 simp[toPX.H1] at hp;subst hp;exact .inr ⟨by omega,by omega,rfl,rfl⟩
def toTX.ca(a:Tile):List AV:=[.im (.agg (Tile.c a))]
def toTX.r0(a:Tile):AV:= .agg [.im (.str a.Name),.own 4]
def toTX.H1(a:Tile):Aw:=[(4,(true,.arr 2 1 (a.Sides.map Ai)))]
def toTX.row:AB:=AF toTX.ca (λ_=>[]) 0 (λa=>a.Sides.length<=1073741824) (λ_=>false) toTX.r0 toTX.H1 5
def toTX.ok:AC Tryz.prog 144 toTX.row:=by
 refine ow (tC toIX.ok tN) Tryz.func144 rfl (by kernel_rfl) (exB:=λj=>j==4) (R:=λa r=>r=toTX.r0 a) (λ_=>rfl)
  (λa=>by simp[toTX.ca,Tile.c,Aq,AV.bel,Ac,A9,BR]) (λa p hp=> ?_) (λa r h=>by subst h;exact CJ.refl _) ?_
 rotate_left
 intro a z;simp only[Tryz.f144,toTX.ca,toTX.H1,Tile.c];simp(disch:=omega)only[ZA,simprocAttr];refine AF.os a.Sides [] z (λj=>by simp[Ao,hget]) rfl rfl ?_ ?_
 .simp(disch:=omega)only[ZA,simprocAttr,toIX.ca,CO]
 simp(disch:=omega)only[ZA,simprocAttr,toIX.H1,toTX.r0]
 skip
 simp[toTX.H1] at hp;subst hp;exact .inr ⟨by omega,by omega,rfl,rfl⟩
def E7(a:List Tile)(i:Nat):Au:=(true,.arr 2 1 (((a[i]?.map Tile.Sides).getD []).map Ai))
def Iy(a:List Tile)(i:Nat):List AV:=[.im (.str ((a[i]?.map Tile.Name).getD ByteArray.empty)),.own (2+i)]
def mV:List AV:=[.im (.str ByteArray.empty),.im (.sl true 0 [])]
def Hy(a:List Tile)(k:Nat):List (List AV):=(List.range k).map (Iy a)++List.replicate (a.length - k) mV
def bV{a:List Tile}{k:Nat}(h:k<=a.length):(Hy a k).length=a.length:=by simp[Hy];omega
def Vi{a:List Tile}{k i:Nat}(h:i<k):(Hy a k)[i]? =some (Iy a i):=by
 rw[Hy,EB (by simpa using h),D1,Io h];rfl
def Vh{a:List Tile}{k i:Nat}(h:k<=i)(z:i<a.length):(Hy a k)[i]? =some mV:=by
 rw[Hy,F3 (by simpa using h),Lo,An (by simp;omega)]
def Nr(a:List Tile)(k N:Nat)(h:2+k<=N):(Hy a k).all (Aq N)=true:=by
 rw[Dw];intro r z;rcases Bv.1 z with z|z
 .obtain⟨i,G,rfl⟩:=Bt.1 z
  have:=BA.1 G
  simp[Iy,Aq,AV.bel];omega
 .obtain rfl:=Oh z;simp[mV,Aq,AV.bel]
def Vj(a:List Tile):Hy a 0=Bn (List.replicate a.length [.str ByteArray.empty,.sl true 0 []]):=by
 simp[Hy,Bn,mV]
def NH(h:Nat->Option Au)(F:AV->Option AV)(b:Nat)(f:Nat->Au)(n:Nat)(H: ∀i,i<n->h (b+i)=some (f i))(hc: ∀i,i<n->Cy F (f i).2=some (f i).2):EW h F (AU b n f):=by
 have: ∀(l:List Nat),(∀i∈l,i<n)->EW h F (l.map λi=>(b+i,f i)):=by
  intro l;induction l with
  |nil=>intro _;simp[EW]
  |cons i r ih=>
   intro z;simp only[Be,EW];refine⟨?_,ih (λj O=>z j (BW _ O))⟩;rw[H i (z i (BS ..))];exact⟨rfl,hc i (z i (BS ..))⟩
 exact this _ (λi G=>BA.1 G)
def Zh{h:Nat->Option Au}{kx:Nat->Option Nat}{m:Nat}{a:List Tile}(G: ∀i,i<a.length->kx (2+i)=some (2+i)):A7 (A7 (Bd h kx (m+1))) (Hy a a.length)=some (Hy a a.length):=by
 have e:Hy a a.length=(List.range a.length).map (Iy a):=by simp[Hy]
 rw[e];refine V8 (g:=Iy a) (k:=Iy a) _ λi z=> ?_
 simp only[Iy,A7,Bd,G i (BA.1 z),kp]
def toLX.ca(a:List Tile):List AV:=[.im (.sl false 2 (a.map Tile.c))]
def toLX.H1(a:List Tile):Aw:=(1,(true,.arrA 206 2 (Hy a a.length)))::AU 2 (min a.length 1048576) (E7 a)
def toLX.pre(a:List Tile):Prop:=a.length<=1048576/\ ∀x∈a,x.Sides.length<=1073741824
def toLX.row:AB:=AF toLX.ca (λ_=>[]) 0 toLX.pre (λ_=>false) (λ_=> .own 1) toLX.H1 2000000
def toLX.ok:AC Tryz.prog 96 toLX.row:=by
 refine ow (tC toTX.ok tN) Tryz.func96 rfl (by kernel_rfl) (exB:=λj=>Nat.ble 1 j) (R:=λ_ r=>r= .own 1) (λ_=>rfl)
  (λa=>by simp[toLX.ca,Aq,AV.bel,Ac,A9,BR]) (λa p hp=> ?_) (λa r h=>by subst h;exact CJ.refl _) ?_
 rotate_left
 intro a ah;simp only[Tryz.f96,toLX.ca];simp(disch:=omega)only[ZA,simprocAttr];obtain⟨h1,h2⟩:=ah;intro _;refine⟨by omega,?_⟩;refine AQ.ren ⟨{k:Nat//k<=a.length},λk=>⟨[(4,.im (.int .i64 k.1)),(3,.own 1),(0,.im (.sl false 2 (a.map Tile.c)))],(1,(true,.arrA 206 2 (Hy a k.1)))::AU 2 k.1 (E7 a),2+a.length⟩,λk=>a.length - k.1,λk=>⟨?_,by simp⟩,⟨⟨0,by simp⟩,[],?_⟩,λk=> ?_⟩
 .simp only[Aj.good,Am,Ac,A9,AV.bel,F6,DZ];rw[QY _ _ _ (λi=>by simp[Ac,E7]),QM _ _ _ _ (by omega),Nr _ _ _ (by omega)];simp
  try omega
 .simp only[Az,AU,ZeT,Hc,Vj];simp(disch:=omega)only[ZA,simprocAttr,uB]
  try simp
 .obtain⟨k,ai⟩:=k;have ad:=bV (a:=a) ai;simp(disch:=omega)only[ZA,simprocAttr,AO,BC];intro _;refine⟨λhk=>⟨by omega,hk,λx hx=> ?_⟩,λhk=> ?_⟩
  .refine AF.os x [] (h2 x (AZ hx)) (λj=>by simp[Ao,hget]) rfl rfl ?_ ?_
   .simp(disch:=omega)only[ZA,simprocAttr,toTX.ca,CO,Tile.c]
   simp(disch:=omega)only[ZA,simprocAttr,toTX.H1,toTX.r0,ad,BC];refine⟨⟨by omega,by omega,by omega⟩,hk,by omega,hk,Jw (Vh (AP _) hk) ?_⟩;simp only[mV];simp(disch:=omega)only[ZA,simprocAttr,BC,Bi];rw[Wd 2 k (E7 a) [1] (by simp)];refine⟨⟨?_,by omega⟩,⟨k+1,by omega⟩,[(2+k,some (2+a.length+4))],by simp only;omega,?_⟩
   .rw[Dw];intro r hr;rcases Xd hr with hr|hr
    .exact Dw.1 (Nr a k _ (by omega)) r hr
    .subst hr;simp[Aq,AV.bel]
   obtain⟨g,hg⟩: ∃g,g=pm [(2+k,some (2+a.length+4))]:=⟨_,rfl⟩;have qx:g (2+k)=some (2+a.length+4):=by rw[hg];simp[pm]
   have qo: ∀u,u≠2+k->g u=some u:=by intro u h;rw[hg];simp only[pm];rw[Af (by omega)]
   have q1:pm [(2+k,some (2+a.length+4))] 1=some 1:=by rw[<-hg];exact qo 1 (by omega)
   have aa:=qx;have Z:=qo;rw[hg] at aa Z;refine⟨⟨by omega,trivial⟩,?_,?_,?_⟩
   .rw[eG,<-hg];simp only[Ff,Zx];refine eP _ _ (dQ [1] 2 (k+1) (by simp) (by simp)) ?_;have ac: ∀u∈[1]++(List.range (k+1)).map (2+ ·),u<2+a.length+1:=by
     intro u hu;rcases Bv.1 hu with hu|hu
     .simp at hu;omega
     .obtain⟨i,hi,rfl⟩:=Bt.1 hu
      have:=BA.1 hi
      show 2+i<2+a.length+1;omega
    intro u hu v hv m z G;have ak:=ac u hu;have am:=ac v hv;by_cases O:u=2+k<;>by_cases Q:v=2+k
    .omega
    .rw[O,qx] at z;rw[qo v Q] at G;simp only[AJ] at z G;omega
    .rw[qo u O] at z;rw[Q,qx] at G;simp only[AJ] at z G;omega
    .rw[qo u O] at z;rw[qo v Q] at G;simp only[AJ] at z G;omega
   .simp only[Qi,AE];simp(disch:=omega)only[ZA,simprocAttr,q1];rw[AH (by omega) (by omega)];simp
   .simp only[GV,dY];refine⟨?_,λi hi=> ?_⟩
    .simp(disch:=omega)only[ZA,simprocAttr,q1];rw[eQ];refine⟨by rw[EX,ad,bV (by omega)],λi r1 r2 O Q=> ?_⟩;have af:i<a.length:=by
      have:=(Cd.1 O).1
      rw[bV (by omega)] at this;exact this
     by_cases ab:i=k
     .subst ab;rw[Vi (by omega)] at O;rw[Dm (by rw[ad];exact af)] at Q;obtain rfl:=AD O;obtain rfl:=AD Q;simp only[Iy,hx,CQ,AM,D9,mt,aa,FL,Hs]
     .rw[DF (by omega)] at Q;by_cases ac:i<k
      .rw[Vi (by omega)] at O Q;obtain rfl:=AD O;obtain rfl:=AD Q;simp only[Iy,D9,mt,Z (2+i) (by omega),FL,Hs]
      .rw[Vh (by omega) af] at O Q;obtain rfl:=AD O;obtain rfl:=AD Q;simp only[mV,D9,mt,Hs]
    .show Em _ _ true (.arr 2 1 (((a[i]?.map Tile.Sides).getD []).map Ai)) _;by_cases ab:i=k
     .subst ab;rw[aa];simp(disch:=omega)only[ZA,simprocAttr,hx,AM]
      try simp
     .rw[Z (2+i) (by omega)];simp(disch:=omega)only[ZA,simprocAttr,HA,WN,E7]
      try simp
  .have aj:k=a.length:=by omega
   subst aj;refine⟨by omega,by omega,?_⟩;have ag:min a.length 1048576=a.length:=by omega
   obtain⟨H,hH⟩: ∃H,H=hget ((1,(true,Ad.arrA 206 2 (Hy a a.length)))::AU 2 a.length (E7 a)):=⟨_,rfl⟩;rw[<-hH];have kx: ∀i,i<a.length->(IW [] 0 2000000 λj=>decide (1<=j)) (2+i)=some (2+i):=by
    intro i hi;have hb:(decide (1<=2+i) && (Nat.ble 0 (2+i) && Nat.blt (2+i) (0+2000000)))=true:=by
     simp only[AR,BK,Ht,E3];omega
    simp only[IW,Ao,hget,ZS,aA,hb,Ck]
   have g1:H 1=some (true,.arrA 206 2 (Hy a a.length)):=by rw[hH];rfl
   simp only[toLX.H1,EW,ag];refine⟨?_,NH _ _ _ _ _ (λi hi=> ?_) (λi hi=>rfl)⟩
   .rw[g1];exact⟨rfl,by simp only[Cy];rw[Zh kx];rfl⟩
   .rw[hH];simp only[hget,Bi _ _ (show 1≠2+i by omega),BD];exact HA _ _ _ _ hi
 simp only[toLX.H1,Bk,AU,Bt,BA] at hp;rcases hp with rfl|⟨i,hi,rfl⟩
 .exact .inr ⟨by omega,by omega,rfl,rfl⟩
 .exact .inr ⟨by simp only;omega,by simp only;omega,by simp only[Ht];omega,rfl⟩
def HY(b:Nat)(a:List Tile):List (List AV):=(List.range a.length).map λi=>[.im (.str ((a[i]?.map Tile.Name).getD ByteArray.empty)),.own (b+i)]
def Zi(σ:Nat->Nat)(b:Nat)(a:List Tile)(h: ∀i,i<a.length->σ (2+i)=b+i):(Hy a a.length).map (AL σ)=HY b a:=by
 have e:Hy a a.length=(List.range a.length).map (Iy a):=by simp[Hy]
 rw[e,Rk];refine Og λi z=> ?_
 simp only[Function.comp,Iy,AL,AV.ren,h i (BA.1 z)]
def Ze(σ:Nat->Nat)(b n:Nat)(a:List Tile)(h: ∀i,i<n->σ (2+i)=b+i):AY σ (AU 2 n (E7 a))=AU b n (E7 a):=by
 simp only[AU]
 have: ∀(l:List Nat),(∀i∈l,i<n)->AY σ (l.map λi=>(2+i,E7 a i))=l.map λi=>(b+i,E7 a i):=by
  intro l;induction l with
  |nil=>intro _;rfl
  |cons i r ih=>
   intro z;have e:=ih (λj O=>z j (BW _ O));simp only[Be,AY,h i (z i (BS ..)),E7,Ad.ren] at e⊢;rw[e]
 exact this _ (λi G=>BA.1 G)
def Wc(k:List Nat)(nx cnt:Nat): ∀(H:Aw),(∀p∈H,nx<=p.1/\p.1<nx+cnt)->Hp k nx cnt H=true
 |[],_=>rfl
 |(i,e)::r,h=>by
  have z:=h (i,e) (BS ..);simp only at z;simp only[Hp,JQ,Wc k nx cnt r (λp hp=>h p (BW _ hp)),F6,GY,AR,Ht,E3];exact .inl z
def Nm(b:Nat)(a:List Tile)(N:Nat)(h:b+a.length<=N):(HY b a).all (Aq N)=true:=by
 rw[Dw];intro r G;obtain⟨i,z,rfl⟩:=Bt.1 G
 have:=BA.1 z
 simp[Aq,AV.bel];omega
def Vk{σ:Nat->Nat}{nx:Nat}(a:List Tile)(h: ∀j,σ j=nx+j):AY σ (toLX.H1 a)=(nx+1,(true,.arrA 206 2 (HY (nx+2) a)))::AU (nx+2) (min a.length 1048576) (E7 a):=by
 simp only[toLX.H1,AY,Ad.ren];rw[Zi σ (nx+2) a (λi _=>by rw[h];omega),Ze σ (nx+2) _ a (λi _=>by rw[h];omega),h]
def Wh{b n:Nat}{f:Nat->Au}{r:Aw}{m:Nat}(h:m<b):hget (AU b n f++r) m=hget r m:=by
 rw[Qg,Qmh _ _ _ _ (.inl h)];rfl
def oU(ks:List Nat): ∀(a b:Aw),Bl (a++b) ks=Bl a ks++Bl b ks
 |[],b=>by simp[Bl]
 |(i,e)::r,b=>by
  simp only[CP,Bl,oU ks r b];cases ks.contains i<;>rfl
def bO{b n:Nat}{f:Nat->Au}{r:Aw}{k:Nat}(h:k<b):Bl (AU b n f++r) [k]=AU b n f++Bl r [k]:=by
 rw[oU,Wd _ _ _ _ (λx z=>by rw[BJ] at z;subst z;exact .inl h)]
def Nn{h:Nat->Option Au}{kx:Nat->Option Nat}{m b:Nat}{a:List Tile}(G: ∀i,i<a.length->kx (b+i)=some (b+i)):A7 (A7 (Bd h kx (m+1))) (HY b a)=some (HY b a):=by
 refine V8 (g:=λi=>[AV.im (.str ((a[i]?.map Tile.Name).getD ByteArray.empty)),AV.own (b+i)]) (k:=λi=>[AV.im (.str ((a[i]?.map Tile.Name).getD ByteArray.empty)),AV.own (b+i)]) _ λi z=> ?_
 simp only[A7,Bd,G i (BA.1 z),kp]
def SV{lo cnt m:Nat}(z:lo<=m)(G:m<cnt):(IW [] 0 cnt λj=>decide (lo<=j)) m=some m:=by
 have hb:(decide (lo<=m) && (Nat.ble 0 m && Nat.blt m (0+cnt)))=true:=by
  simp only[AR,BK,Ht,E3];omega
 simp only[IW,Ao,hget,ZS,aA,hb,Ck]
def toSX.ca(a:AA):List AV:=[.im (.agg (AA.c a))]
def toSX.r0:AV:= .agg [.own 4,.own 6]
def toSX.H1(a:AA):Aw:=(4,(true,.arr 204 2 (a.Glues.map Ar.c)))::(6,(true,.arrA 206 2 (HY 7 a.Tiles)))::AU 7 (min a.Tiles.length 1048576) (E7 a.Tiles)
def toSX.pre(a:AA):Prop:=a.Glues.length<=1073741824/\toLX.pre a.Tiles
def toSX.row:AB:=AF toSX.ca (λ_=>[]) 0 toSX.pre (λ_=>false) (λ_=>toSX.r0) toSX.H1 2000005
def toSX.ok:AC Tryz.prog 48 toSX.row:=by
 refine ow (tC toGX.ok (tC toLX.ok tN)) Tryz.func48 rfl (by kernel_rfl) (exB:=λj=>Nat.ble 4 j) (R:=λ_ r=>r=toSX.r0) (λ_=>rfl)
  (λa=>by simp[toSX.ca,AA.c,Aq,AV.bel,Ac,A9,BR]) (λa p hp=> ?_) (λa r h=>by subst h;exact CJ.refl _) ?_
 rotate_left
 intro a O;simp only[Tryz.f48,toSX.ca,AA.c];simp(disch:=omega)only[ZA,simprocAttr];obtain⟨h1,Q⟩:=O;refine AF.os a.Glues [] h1 (λj=>by simp[Ao,hget]) rfl rfl ?_ ?_
 .simp(disch:=omega)only[ZA,simprocAttr,toGX.ca,CO]
 simp(disch:=omega)only[ZA,simprocAttr,toGX.H1];refine AF.os a.Tiles [] Q (λj=>by simp[Ao,hget]) rfl rfl ?_ ?_
 .simp(disch:=omega)only[ZA,simprocAttr,toLX.ca,CO]
 have hσ: ∀j,Cg (Iw []) 0 5 j=5+j:=λj=>by simp[Cg]
 rw[Vk a.Tiles hσ];obtain⟨h3,h4⟩:=Q;have z:min a.Tiles.length 1048576=a.Tiles.length:=by omega
 rw[z];simp only[DP,AV.ren,hσ];refine⟨?_,?_⟩
 .rw[Bo.ok_nr,Wc _ _ _ _ (λp hp=> ?_)]
  .simp only[AV.bel,Ac];rw[QY _ _ _ (λi=>by simp[Ac,E7]),Nm _ _ _ (by omega)];simp
  .rcases Bk.1 hp with rfl|hp
   .exact⟨by simp only;omega,by simp only;omega⟩
   .obtain⟨i,G,rfl⟩:=Bt.1 hp
    have:=BA.1 G
    exact⟨by simp only;omega,by simp only;omega⟩
 simp(disch:=omega)only[ZA,simprocAttr,BC,toSX.r0,Wh,bO];obtain⟨H,hH⟩: ∃H,H=hget ((1,(true,Ad.cells 45 [AV.own 4,AV.own 6]))::(2,(true,Ad.cells 45 [AV.own 4,AV.own 6]))::(6,(true,Ad.arrA 206 2 (HY 7 a.Tiles)))::
  (AU 7 a.Tiles.length (E7 a.Tiles)++[(4,(true,Ad.arr 204 2 (List.map Ar.c a.Glues))),(0,(true,Ad.cells 25 [AV.im (D.sl false 2 (List.map Ar.c a.Glues)),AV.im (D.sl false 2 (List.map Tile.c a.Tiles))]))])):=⟨_,rfl⟩
 rw[<-hH];have Z:H 4=some (true,.arr 204 2 (a.Glues.map Ar.c)):=by rw[hH];simp[hget,Wh]
 have g6:H 6=some (true,.arrA 206 2 (HY 7 a.Tiles)):=by rw[hH];rfl
 have gf: ∀i,i<a.Tiles.length->H (7+i)=some (E7 a.Tiles i):=by
  intro i G;rw[hH];simp only[hget,Bi _ _ (show 1≠7+i by omega),Bi _ _ (show 2≠7+i by omega),Bi _ _ (show 6≠7+i by omega),BD];rw[Qg,HA _ _ _ _ G];rfl
 simp only[toSX.H1,EW,z];refine⟨?_,?_,NH _ _ _ _ _ gf (λi G=>rfl)⟩
 .rw[Z];exact⟨rfl,rfl⟩
 .rw[g6];exact⟨rfl,by simp only[Cy];rw[Nn (λi G=>SV (by omega) (by omega))];rfl⟩
 simp only[toSX.H1,Bk,AU,Bt,BA] at hp;rcases hp with rfl|rfl|⟨i,G,rfl⟩
 .exact .inr ⟨by omega,by simp only;omega,rfl,rfl⟩
 .exact .inr ⟨by omega,by simp only;omega,rfl,rfl⟩
 .exact .inr ⟨by simp only;omega,by simp only;omega,by simp only[Ht];omega,rfl⟩
def toAX.ca(a:Ak):List AV:=[.im (.agg (Ak.c a))]
def toAX.H1(a:Ak):Aw:=[(4,(true,.arr 137 3 (a.Tiles.map Al.c)))]
def toAX.row:AB:=AF toAX.ca (λ_=>[]) 0 (λa=>a.Tiles.length<=1073741824) (λ_=>false) (λ_=> .agg [.own 4]) toAX.H1 5
def toAX.ok:AC Tryz.prog 12 toAX.row:=by
 refine ow (tC toPX.ok tN) Tryz.func12 rfl (by kernel_rfl) (exB:=λj=>j==4) (R:=λ_ r=>r= .agg [.own 4]) (λ_=>rfl)
  (λa=>by simp[toAX.ca,Ak.c,Aq,AV.bel,Ac,A9,BR]) (λa p hp=> ?_) (λa r h=>by subst h;exact CJ.refl _) ?_
 rotate_left
 intro a z;simp only[Tryz.f12,toAX.ca,toAX.H1,Ak.c];simp(disch:=omega)only[ZA,simprocAttr];refine AF.os a.Tiles [] z (λj=>by simp[Ao,hget]) rfl rfl ?_ ?_
 .simp(disch:=omega)only[ZA,simprocAttr,toPX.ca,CO]
 simp(disch:=omega)only[ZA,simprocAttr,toPX.H1]
 skip
 simp[toAX.H1] at hp;subst hp;exact .inr ⟨by omega,by omega,rfl,rfl⟩
def Vl{σ:Nat->Nat}{nx:Nat}(a:AA)(h: ∀j,σ j=nx+j):AY σ (toSX.H1 a)=(nx+4,(true,.arr 204 2 (a.Glues.map Ar.c)))::(nx+6,(true,.arrA 206 2 (HY (nx+7) a.Tiles)))::AU (nx+7) (min a.Tiles.length 1048576) (E7 a.Tiles):=by
 have z:(HY 7 a.Tiles).map (AL σ)=HY (nx+7) a.Tiles:=by
  simp only[HY,Rk];refine Og λi O=> ?_
  simp only[Function.comp,AL,AV.ren,h];rw[show nx+(7+i)=nx+7+i by omega]
 have G: ∀n,AY σ (AU 7 n (E7 a.Tiles))=AU (nx+7) n (E7 a.Tiles):=by
  intro n;simp only[AU]
  have: ∀(l:List Nat),AY σ (l.map λi=>(7+i,E7 a.Tiles i))=l.map λi=>(nx+7+i,E7 a.Tiles i):=by
   intro l;induction l with
   |nil=>rfl
   |cons i r ih=>
    simp only[Be,AY,h,E7,Ad.ren] at ih⊢;rw[ih,show nx+(7+i)=nx+7+i by omega]
  exact this _
 simp only[toSX.H1,AY,Ad.ren,z,G,h]
def toYX.ca(a:Ax):List AV:=[.im (.agg (Ax.c a))]
def toYX.r0(a:Ax):AV:= .agg [.own 7,.own 9,.own 2000012,.im (.int .i64 a.Temperature)]
def toYX.H1(a:Ax):Aw:=(7,(true,.arr 204 2 (a.Set.Glues.map Ar.c)))::(9,(true,.arrA 206 2 (HY 10 a.Set.Tiles)))::(2000012,(true,.arr 137 3 (a.Seed.Tiles.map Al.c)))::AU 10 (min a.Set.Tiles.length 1048576) (E7 a.Set.Tiles)
def toYX.pre(a:Ax):Prop:=toSX.pre a.Set/\a.Seed.Tiles.length<=1073741824
def toYX.row:AB:=AF toYX.ca (λ_=>[]) 0 toYX.pre (λ_=>false) toYX.r0 toYX.H1 2000013
def toYX.ok:AC Tryz.prog 11 toYX.row:=by
 refine ow (tC toSX.ok (tC toAX.ok tN)) Tryz.func11 rfl (by kernel_rfl) (exB:=λj=>Nat.ble 7 j) (R:=λa r=>r=toYX.r0 a) (λ_=>rfl)
  (λa=>by simp[toYX.ca,Ax.c,Aq,AV.bel,Ac,A9,BR]) (λa p hp=> ?_) (λa r h=>by subst h;exact CJ.refl _) ?_
 rotate_left
 intro a O;simp only[Tryz.f11,toYX.ca,Ax.c];simp(disch:=omega)only[ZA,simprocAttr];obtain⟨Q,h2⟩:=O;refine AF.os a.Set [] Q (λj=>by simp[Ao,hget]) rfl rfl ?_ ?_
 .simp(disch:=omega)only[ZA,simprocAttr,toSX.ca,AA.c,CO]
 have hσ: ∀j,Cg (Iw []) 0 3 j=3+j:=λj=>by simp[Cg]
 rw[Vl a.Set hσ];obtain⟨h0,h3,h4⟩:=Q;have z:min a.Set.Tiles.length 1048576=a.Set.Tiles.length:=by omega
 rw[z];simp only[DP,toSX.r0,AV.ren,AL,hσ];refine⟨?_,?_⟩
 .rw[Bo.ok_nr,Wc _ _ _ _ (λp hp=> ?_)]
  .simp only[AV.bel,Aq,Ac];rw[QY _ _ _ (λi=>by simp[Ac,E7]),Nm _ _ _ (by omega)];simp
  .rcases Bk.1 hp with rfl|hp
   .exact⟨by simp only;omega,by simp only;omega⟩
   rcases Bk.1 hp with rfl|hp
   .exact⟨by simp only;omega,by simp only;omega⟩
   .obtain⟨i,G,rfl⟩:=Bt.1 hp
    have:=BA.1 G
    exact⟨by simp only;omega,by simp only;omega⟩
 simp(disch:=omega)only[ZA,simprocAttr,BC,Wh,bO];refine AF.os a.Seed [] h2 (λj=>by simp[Ao,hget]) rfl rfl ?_ ?_
 .simp(disch:=omega)only[ZA,simprocAttr,toAX.ca,Ak.c,CO]
 simp(disch:=omega)only[ZA,simprocAttr,toAX.H1,BC,Wh,bO,toYX.r0];obtain⟨H,hH⟩: ∃H,H=hget ((1,(true,Ad.cells 47 [AV.own 7,AV.own 9,AV.own 2000012,AV.im (D.int IntKind.i64 a.Temperature)]))::(2,(true,Ad.cells 47 [AV.own 7,AV.own 9,AV.own 2000012,AV.im (D.int IntKind.i64 a.Temperature)]))::
  (2000012,(true,Ad.arr 137 3 (List.map Al.c a.Seed.Tiles)))::(7,(true,Ad.arr 204 2 (List.map Ar.c a.Set.Glues)))::(9,(true,Ad.arrA 206 2 (HY 10 a.Set.Tiles)))::
  (AU 10 a.Set.Tiles.length (E7 a.Set.Tiles)++[(0,(true,Ad.cells 30 [AV.im (D.sl false 2 (List.map Ar.c a.Set.Glues)),AV.im (D.sl false 2 (List.map Tile.c a.Set.Tiles)),AV.im (D.sl false 3 (List.map Al.c a.Seed.Tiles)),AV.im (D.int IntKind.i64 a.Temperature)]))])):=⟨_,rfl⟩
 rw[<-hH];have Z:H 7=some (true,.arr 204 2 (a.Set.Glues.map Ar.c)):=by rw[hH];rfl
 have g9:H 9=some (true,.arrA 206 2 (HY 10 a.Set.Tiles)):=by rw[hH];rfl
 have gs:H 2000012=some (true,.arr 137 3 (a.Seed.Tiles.map Al.c)):=by rw[hH];simp[hget]
 have gf: ∀i,i<a.Set.Tiles.length->H (10+i)=some (E7 a.Set.Tiles i):=by
  intro i G;rw[hH];simp only[hget,Bi _ _ (show 1≠10+i by omega),Bi _ _ (show 2≠10+i by omega),Bi _ _ (show 2000012≠10+i by omega),Bi _ _ (show 7≠10+i by omega),Bi _ _ (show 9≠10+i by omega),BD];rw[Qg,HA _ _ _ _ G];rfl
 simp only[toYX.H1,EW,z];refine⟨?_,?_,?_,NH _ _ _ _ _ gf (λi G=>rfl)⟩
 .rw[Z];exact⟨rfl,rfl⟩
 .rw[g9];exact⟨rfl,by simp only[Cy];rw[Nn (λi G=>SV (by omega) (by omega))];rfl⟩
 .rw[gs];exact⟨rfl,rfl⟩
 simp only[toYX.H1,Bk,AU,Bt,BA] at hp;rcases hp with rfl|rfl|rfl|⟨i,G,rfl⟩
 .exact .inr ⟨by omega,by simp only;omega,rfl,rfl⟩
 .exact .inr ⟨by omega,by simp only;omega,rfl,rfl⟩
 .exact .inr ⟨by omega,by simp only;omega,by simp only[Ht];omega,rfl⟩
 .exact .inr ⟨by simp only;omega,by simp only;omega,by simp only[Ht];omega,rfl⟩
def eqInt64SF.fv(a:(List Int)×(List Int)):Bool:=(λa b=>decide (a=b)) (a.1) (a.2)
def eqInt64SF.row:AB:=Dg (b2 (qS Dt C5) (qS Dt C5)) rB (λa=>True) eqInt64SF.fv
def eqInt64SF.ok:AC Tryz.prog 20 eqInt64SF.row:=by
 refine G1 tN Tryz.func20 rfl (by kernel_rfl) ?_;intro a Z;simp only[Tryz.f20];simp(disch:=omega)only[ZA,simprocAttr,eqInt64SF.fv,D.sc,D.scs,B4];intro h1 h2;simp only[AO];refine⟨λG=> ?_,λG=> ?_⟩
 .have:a.1≠a.2:=λh=>G (by rw[h])
  simp[this]
 have G:a.1.length=a.2.length:=by omega
 refine AQ.old ⟨{k:Nat//k<=a.1.length/\a.1.take k=a.2.take k},λk=>⟨[(5,.im (.int .i64 k.1)),(4,.im (.bool false)),(0,.im (.sl false 1 (a.1.map Ai))),(1,.im (.sl false 1 (a.2.map Ai)))],[],0⟩,λk=>a.1.length - k.1,λk=>⟨by simp[Aj.good,Am,Ac,A9,AV.bel],AP _⟩,⟨⟨0,by simp⟩,by simp(disch:=omega)only[ZA,simprocAttr,sub]⟩,λk=> ?_⟩;obtain⟨k,Q,z⟩:=k;simp(disch:=omega)only[ZA,simprocAttr,D.sc,D.scs,B4,sub,AO];intro _;refine⟨λO=>⟨O,λx hx=>⟨by omega,λy hy=> ?_⟩⟩,λO=> ?_⟩
 .obtain⟨g1,g2⟩:=kJ G Q z hx hy;exact⟨λh=>by simp[g2 h],λh=>G4 O h1 ⟨by omega,g1 (by simpa using h)⟩⟩
 .rw[DY (by omega),DY (by omega)] at z;simp[z]
def eqOptionSF.fv(a:(List Ap)×(List Ap)):Bool:=(λa b=>decide (a=b)) (a.1) (a.2)
def eqOptionSF.row:AB:=Dg (b2 (qS Ap.d_le Ap.c_n) (qS Ap.d_le Ap.c_n)) rB (λa=>True) eqOptionSF.fv
def eqOptionSF.ok:AC Tryz.prog 16 eqOptionSF.row:=by
 refine G1 (tC eqOption.ok tN) Tryz.func16 rfl (by kernel_rfl) ?_;intro a Z;simp only[Tryz.f16];simp(disch:=omega)only[ZA,simprocAttr,eqOptionSF.fv,D.sc,D.scs,B4];intro h1 h2;simp only[AO];refine⟨λG=> ?_,λG=> ?_⟩
 .have:a.1≠a.2:=λh=>G (by rw[h])
  simp[this]
 have G:a.1.length=a.2.length:=by omega
 refine AQ.old ⟨{k:Nat//k<=a.1.length/\a.1.take k=a.2.take k},λk=>⟨[(5,.im (.int .i64 k.1)),(4,.im (.bool false)),(0,.im (.sl false 3 (a.1.map Ap.c))),(1,.im (.sl false 3 (a.2.map Ap.c)))],[],0⟩,λk=>a.1.length - k.1,λk=>⟨by simp[Aj.good,Am,Ac,A9,AV.bel],AP _⟩,⟨⟨0,by simp⟩,by simp(disch:=omega)only[ZA,simprocAttr,sub]⟩,λk=> ?_⟩;obtain⟨k,Q,z⟩:=k;simp(disch:=omega)only[ZA,simprocAttr,eqOption.q,eqOption.fv,D.sc,D.scs,B4,sub,AO];intro _;refine⟨λO=>⟨O,λx hx=>⟨by omega,λy hy=> ?_⟩⟩,λO=> ?_⟩
 .obtain⟨g1,g2⟩:=kJ G Q z hx hy;exact⟨λh=>by simp[g2 (show x≠y from h)],λh=>G4 O h1 ⟨by omega,g1 (show x=y from GA.1 h)⟩⟩
 .rw[DY (by omega),DY (by omega)] at z;simp[z]
def eqSystemF.fv(a:Ax×Ax):Bool:=(λa b=>decide (a=b)) (a.1) (a.2)
def eqSystemF.row:AB:=Dg (b2 (qR Ax.d_le) (qR Ax.d_le)) rB (λa=>True) eqSystemF.fv
def eqSystemF.ok:AC Tryz.prog 18 eqSystemF.row:=by
 refine G1 (tC eqTileSet.ok (tC eqAssembly.ok tN)) Tryz.func18 rfl (by kernel_rfl) ?_;intro a G;simp only[Tryz.f18];simp(disch:=omega)only[ZA,simprocAttr,Ak.d,eqSystemF.fv,eqTileSet.q,eqTileSet.fv,eqAssembly.q,eqAssembly.fv,D.sc,D.scs,B4];obtain⟨⟨⟨x,O⟩,⟨y⟩,u⟩,⟨⟨z,Q⟩,⟨w⟩,v⟩⟩:=a;simp only[Ax.mk.injEq,AA.mk.injEq,Ak.mk.injEq]
 grind
def mkAC.ca(a:Ak×Int):List AV:=[.agg [.own 0],.im (.int .i64 a.2)]
def mkAC.H0(a:Ak×Int):Aw:=[(0,(true,.arr 137 3 (a.1.Tiles.map Al.c)))]
def mkAC.H1(a:Ak×Int):Aw:=[(0,(true,.arr 137 3 ((DG (pF a.2) a.1.Tiles.length).map Al.c)))]
def mkAC.row:AB:=AF mkAC.ca mkAC.H0 1 (λa=>0<=a.2/\a.2+3*a.1.Tiles.length<=1099511627776) (λj=>j==0) (λa=> .im (.int .i64 (a.2+3*a.1.Tiles.length))) mkAC.H1 0
def mkAC.ok:AC Tryz.prog 22 mkAC.row:=by
 refine ow (tC mkPC.ok tN) Tryz.func22 rfl (by kernel_rfl) (exB:=λ_=>false) (R:=λa r=>r= .im (.int .i64 (a.2+3*a.1.Tiles.length))) (λ_=>rfl)
  (λa=>by simp[mkAC.ca,mkAC.H0,Aq,AV.bel,Ac,A9,BR,Ad.nms,Ao,hget]) (λa p hp=> ?_) (λa r h=>by subst h;exact CJ.refl _) ?_
 rotate_left
 intro a z;simp only[Tryz.f22,mkAC.ca,mkAC.H0,mkAC.H1];simp(disch:=omega)only[ZA,simprocAttr];refine AF.os (a.1.Tiles,a.2) [0] z (λj=> ?_) rfl rfl ?_ ?_
 .simp only[Ao,mkPC.H0,hget];by_cases G:j=0
  .subst G;simp
  .have:(0==j)=false:=by simpa using λh=>G h.symm
   rw[this];simp;omega
 .simp(disch:=omega)only[ZA,simprocAttr,DH,mkPC.ca,mkPC.H0,CO,Dj]
  try exact⟨rfl,rfl⟩
 simp(disch:=omega)only[ZA,simprocAttr,DH,mkPC.H1,Dj,EI]
 skip
 simp[mkAC.H1] at hp;subst hp;exact .inl ⟨by omega,rfl,rfl⟩
def nT(a:List Tile):Nat:=min a.length 1048576
def sdL(a:List Tile)(i:Nat):List Int:=(a[i]?.map Tile.Sides).getD []
def ET(a:List Tile)(k:Int):Nat->Int
 |0=>k
 |i+1=>ET a k i+1+(sdL a i).length
def Fw(a:List Tile)(k:Int)(i j:Nat):List AV:=if j<i then [.im (.str (K7 (ET a k j))),.own (2+j)] else Iy a j
def FO(a:List Tile)(k:Int)(i j:Nat):Au:=(true,.arr 2 1 ((if j<i then VP (ET a k j+1) (sdL a j).length else sdL a j).map Ai))
def Dr(a:List Tile)(k:Int)(i:Nat):Aw:=(0,(true,.arrA 206 2 ((List.range (nT a)).map (Fw a k i))))::AU 2 (nT a) (FO a k i)
def mkLC.ca(a:List Tile×Int):List AV:=[.own 0,.im (.int .i64 a.2)]
def mkLC.H0(a:List Tile×Int):Aw:=Dr a.1 a.2 0
def mkLC.H1(a:List Tile×Int):Aw:=Dr a.1 a.2 (nT a.1)
def mkLC.r0(a:List Tile×Int):AV:= .im (.int .i64 (ET a.1 a.2 a.1.length))
def mkLC.pre(a:List Tile×Int):Prop:=a.1.length<=1048576/\0<=a.2/\ET a.1 a.2 a.1.length<=1099511627776
def mkLC.row:AB:=AF mkLC.ca mkLC.H0 2000000 mkLC.pre (λ_=>true) mkLC.r0 mkLC.H1 0
def F8(a:List Tile):nT a<=1048576:=fV _ _
def cF(a:List Tile)(k:Int)(i j N:Nat)(h:2+j<N):Aq N (Fw a k i j)=true:=by
 simp only[Fw]
 split<;>simp[Iy,Aq,AV.bel,h]
def bU(a:List Tile)(k:Int)(i j:Nat):AG (Fw a k i j)=[2+j]:=by
 simp only[Fw]
 split<;>simp[Iy,AG,AV.nms]
def pC(a:List Tile)(k:Int)(i N:Nat)(h:2+nT a<N):Ac N (Dr a k i)=true:=by
 simp only[Dr,Ac];rw[QY _ _ _ (λj=>by simp[Ac,FO]),F6,Dw];intro r G;obtain⟨j,z,rfl⟩:=Bt.1 G;exact cF _ _ _ _ _ (by have:=BA.1 z;omega)
def mkLC.hbel(a:List Tile×Int):Aq 2000000 (mkLC.ca a)=true:=by simp[mkLC.ca,Aq,AV.bel]
def mkLC.hbH(a:List Tile×Int):Ac 2000000 (mkLC.H0 a)=true:=pC _ _ _ _ (by have:=F8 a.1;omega)
def mkLC.hkH(a:List Tile×Int):A9 2000000 (mkLC.H0 a)=true:=by
 simp only[mkLC.H0,Dr,A9];rw[QM _ _ _ _ (by have:=F8 a.1;omega)];simp
def I4(a:List Tile)(k:Int)(i j:Nat):Ao (Dr a k i) j=true↔j=0\/(2<=j/\j<2+nT a):=by
 simp only[Ao,Dr,hget,lN];by_cases h0:j=0
 .subst h0;simp
 .have:(0==j)=false:=by simpa using λh=>h0 h.symm
  rw[this];simp only[BD];split
  .rename_i h;simp[h]
  .rename_i h;simp[h0];omega
def mkLC.hnm(a:List Tile×Int):BR (mkLC.H0 a) (mkLC.H0 a):=by
 simp only[mkLC.H0];have G: ∀m,(∃j,j<nT a.1/\m=2+j)->Ao (Dr a.1 a.2 0) m=true:=by
  rintro m ⟨j,O,rfl⟩;exact (I4 _ _ _ _).2 (.inr ⟨by omega,by omega⟩)
 conv=>arg 2;unfold Dr
 simp only[BR];refine⟨λm z=> ?_,oL λi Z m z=>by simp[FO,Ad.nms] at z⟩;simp only[Ad.nms] at z;obtain⟨r,Q,z⟩:=Gc.1 z;obtain⟨j,O,rfl⟩:=Bt.1 Q;rw[bU,BJ] at z;exact G m ⟨j,BA.1 O,z⟩
def Np(a:List Tile)(k:Int)(h:0<=k): ∀i j,i<=j->0<=ET a k i/\ET a k i<=ET a k j:=by
 have pos: ∀i,0<=ET a k i:=by
  intro i;induction i with
  |zero=>exact h
  |succ i ih=>simp only[ET];omega
 intro i j z;refine⟨pos i,?_⟩;induction j with
 |zero=>have:i=0:=by omega
        subst this;exact Lp _
 |succ j ih=>
  by_cases c:i=j+1
  .subst c;exact Lp _
  .have:=ih (by omega)
   simp only[ET];omega
def oX(s:Aj)(b n:Nat)(f:Nat->Au):Ca s (AU b n f)= ∀i,i<n->hget s.h (b+i)=some (f i):=by
 have: ∀(l:List Nat),Ca s (l.map λi=>(b+i,f i))↔ ∀i∈l,hget s.h (b+i)=some (f i):=by
  intro l;induction l with
  |nil=>simp[Ca]
  |cons i r ih=>simp only[Be,Ca,ih,Bk,Zed]
 apply propext;rw[AU,this];simp only[BA]
def cA(a:List Tile)(k:Int)(i j:Nat)(h:j<nT a):hget (Dr a k i) (2+j)=some (FO a k i j):=by
 simp only[Dr,hget,Bi _ _ (show 0≠2+j by omega),BD];exact HA _ _ _ _ h
def mkLC.ok:AC Tryz.prog 116 mkLC.row:=by
 refine ow (tC mkText.ok (tC mkIC.ok tN)) Tryz.func116 rfl (by kernel_rfl) (exB:=λ_=>false) (R:=λa r=>r=mkLC.r0 a) (λ_=>rfl)
  (λa=>⟨mkLC.hbel a,mkLC.hbH a,mkLC.hkH a,mkLC.hnm a⟩) (λa p hp=> ?_) (λa r h=>by subst h;exact CJ.refl _) ?_
 rotate_left
 intro a aa;simp only[Tryz.f116,mkLC.ca];simp(disch:=omega)only[ZA,simprocAttr];obtain⟨l,k⟩:=a;obtain⟨h1,h2,h3⟩:=aa;simp only at h1 h2 h3;have hn:nT l=l.length:=by simp only[nT];omega
 simp only[BC,mkLC.H0,mkLC.H1];refine AQ.old ⟨{i:Nat//i<=l.length},λi=>⟨[(5,.im (.int .i64 i.1)),(4,.im (.int .i64 0)),(0,.own 0),(1,.im (.int .i64 (ET l k i.1)))],Dr l k i.1,2000000⟩,λi=>l.length - i.1,λi=>⟨?_,by simp⟩,⟨⟨0,by simp⟩,?_⟩,λi=> ?_⟩
 .simp only[Aj.good,Am,AV.bel,F6,DZ];rw[pC _ _ _ _ (by omega)];simp only[Dr,A9];rw[QM _ _ _ _ (by omega)];simp
 .simp only[sub];simp(disch:=omega)only[ZA,simprocAttr,ET]
  conv=>arg 2;unfold Dr
  simp only[Ca,oX];exact⟨rfl,λj z=>cA _ _ _ _ z⟩
 .obtain⟨i,ac⟩:=i;have hb:=Np l k h2 i l.length ac;have Q:((List.range (nT l)).map (Fw l k i)).length=l.length:=by simp[hn]
  simp only[Dr];simp(disch:=omega)only[ZA,simprocAttr,mkText.q,mkText.fv,AO,Q,BC];intro _;refine⟨λZ=>⟨by omega,Z,Z,λx hx=> ?_⟩,λZ=> ?_⟩
  .obtain rfl:i=x:=by
    rw[Io (by omega)] at hx;exact AD hx
   have em:Fw l k i i=[.im (.str ((l[i]?.map Tile.Name).getD ByteArray.empty)),.own (2+i)]:=by simp[Fw,Iy]
   have G:((List.range (nT l)).map (Fw l k i)).set i [.im (.str (K7 (ET l k i))),.own (2+i)]=(List.range (nT l)).map (Fw l k (i+1)):=by
    apply Kj;intro j;by_cases z:i=j
    .subst z;rw[Dm (by rw[Q];exact Z),D1,Io (by omega)];simp[Fw]
    .rw[DF z,D1,D1];cases hr:(List.range (nT l))[j]? with
     |none=>rfl
     |some y=>
      have hy:j=y:=by
       have hl:=(Cd.1 hr).1;simp at hl;rw[Io hl] at hr;exact AD hr
      subst hy;simp only[CQ,Fw];by_cases c:j<i
      .rw[An c,An (by omega)]
      .rw[Af c,Af (by omega)]
   rw[em];simp only[Qk,Hq];have O:i<((List.range (nT l)).map (Fw l k i)).length:=by rw[Q];exact Z
   have hw:IntKind.i64.wrap (ET l k i+1)=ET l k i+1:=AH (by omega) (by omega);refine⟨by simp,?_,by rw[EX];exact O,by rw[EX];exact O,Jw (Dm O) ?_⟩
   .rw[G,Dw];intro r hr;obtain⟨j,z,rfl⟩:=Bt.1 hr;exact cF _ _ _ _ _ (by have:=BA.1 z;omega)
   simp(disch:=omega)only[ZA,simprocAttr,G,hw];have ab:=(Np l k h2 (i+1) l.length Z).2;simp only[ET] at ab;refine⟨by omega,?_⟩;simp only[BC];rw[Wd 2 (nT l) (FO l k i) [0] (by simp)];refine AF.os (sdL l i,ET l k i+1) [2+i] ⟨by simp only;omega,by simp only;omega⟩ (λj=> ?_) rfl ?_ ?_ ?_
   .simp only[Ao,mkIC.H0,hget];by_cases z:j=0
    .subst z;simp
    .have:(0==j)=false:=by simpa using λh=>z h.symm
     rw[this];simp;omega
   .simp only[WZ,F6,E3];omega
   .refine⟨by simp[mkIC.ca,AL,AV.ren,Cg,Iw],?_,trivial⟩;have e:Cg (Iw [2+i]) 1 2000000 0=2+i:=by simp[Cg,Iw]
    rw[e]
    have:=cA l k i i (by omega)
    simp only[Dr,FO,hget,Bi _ _ (show 0≠2+i by omega),BD] at this;simp only[hget,Bi _ _ (show 0≠2+i by omega),BD];rw[HA _ _ _ _ (by omega)];simp[FO,Ad.ren]
   simp(disch:=omega)only[ZA,simprocAttr,DH,mkIC.H1,sub,BC,Bi,WN,Dj];refine⟨.inr (by omega),⟨i+1,by omega⟩,by simp only;omega,⟨by rw[AH (by omega) (by omega)];simp only;omega,rfl⟩,rfl,?_⟩;rw[oX];intro j z;by_cases ag:j=i
   .subst ag;simp[hget,FO]
   .simp only[hget,Bi _ _ (show 2+i≠2+j by omega),Bi _ _ (show 0≠2+j by omega),BD];rw[NV _ _ _ (by omega),HA _ _ _ _ z];simp only[FO];by_cases c:j<i
    .rw[An c,An (by omega)]
    .rw[Af c,Af (by omega)]
  .have ad:i=l.length:=by omega
   subst ad;have kx: ∀j,j<nT l->IW ((0,(true,Ad.arrA 206 2 (List.map (Fw l k 0) (List.range (nT l)))))::AU 2 (nT l) (FO l k 0)) 2000000 0 (λ_=>false) (2+j)=some (2+j):=by
    intro j z
    have:=(I4 l k 0 (2+j)).2 (.inr ⟨by omega,by omega⟩)
    simp only[Dr] at this;simp only[IW,this,fT,Ck]
   refine⟨?_,rfl,?_,?_⟩
   .have: ∀(h:Nat->Option Au) (H:Aw),HU h (λ_=>true) H:=by
     intro h H;induction H with
     |nil=>trivial
     |cons x r ih=>obtain⟨j,e⟩:=x;exact⟨trivial,ih⟩
    exact this _ _
   .rw[show Fw l k (nT l)=Fw l k l.length by rw[hn]];rw[V8 (g:=Fw l k l.length) (k:=Fw l k l.length) _ (λj z=> ?_)]
    .rfl
    .have af:=BA.1 z;simp only[Fw,An (show j<l.length by omega),A7,Bd,kx j af,kp]
   .refine NH _ _ _ _ _ (λj z=> ?_) (λj z=>rfl);simp only[hget,Bi _ _ (show 0≠2+j by omega),BD];rw[HA _ _ _ _ z,hn]
 refine .inl ?_;have ah:p.1=0\/(2<=p.1/\p.1<2+nT a.1):=by
  simp only[mkLC.H1,Dr,Bk,AU,Bt,BA] at hp;rcases hp with rfl|⟨j,z,rfl⟩
  .exact .inl rfl
  .exact .inr ⟨by simp only;omega,by simp only;omega⟩
 have:=F8 a.1
 exact⟨by omega,rfl,(I4 _ _ _ _).2 ah⟩
end Go.Ae
