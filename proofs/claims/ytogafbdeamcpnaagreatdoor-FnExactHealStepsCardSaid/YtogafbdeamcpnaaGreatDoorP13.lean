/- Lemmas. Conditions: none. -/
import Derived.Test.YtogafbdeamcpnaaGreatDoorP12
import Derived.Shelf.SlSortCmp.WholeK
import Derived.Shelf.SlicesG.Cmp
import Derived.StillTailTactics
import Derived.Lib.Small
import Derived.Lib.Walk
import Derived.Shelf.SlSortCmp.NoneTotal
set_option linter.all false
set_option maxHeartbeats 8000000
set_option maxRecDepth 100000
namespace Go.Proofs
open Go.Shelf
def Tryz.sortPl_ren:Go.Shelf.Ren:=⟨λ|6=>159|15=>200|14=>199|28=>233|29=>234|20=>225|21=>226|22=>227|23=>228|24=>229|25=>230|26=>231|27=>232|46=>257|47=>258|48=>259|49=>260|50=>261|57=>281|n=>n,λ|22=>37|24=>137|25=>221|3=>3|39=>247|0=>0|53=>312|55=>314|4=>4|46=>306|45=>305|50=>189|5=>5|9=>9|66=>336|70=>340|76=>362|77=>363|n=>n,λ|n=>n⟩
def Tryz.sortPl:Go.Proofs.SlLaysF0.n6 Tryz.prog Tryz.sortPl_ren:={
 mixed:=by kernel_rfl
 f6:=⟨Tryz.f159.name,by decide,Tryz.func159.trans (CL some (by kernel_rfl))⟩
 f14:=⟨Tryz.f199.name,by decide,Tryz.func199.trans (CL some (by kernel_rfl))⟩
 f15:=Tryz.func200.trans (CL some (by kernel_rfl))
 f20:=⟨Tryz.f225.name,by decide,Tryz.func225.trans (CL some (by kernel_rfl))⟩
 f21:=⟨Tryz.f226.name,by decide,Tryz.func226.trans (CL some (by kernel_rfl))⟩
 f22:=⟨Tryz.f227.name,by decide,Tryz.func227.trans (CL some (by kernel_rfl))⟩
 f23:=⟨Tryz.f228.name,by decide,Tryz.func228.trans (CL some (by kernel_rfl))⟩
 f24:=⟨Tryz.f229.name,by decide,Tryz.func229.trans (CL some (by kernel_rfl))⟩
 f25:=⟨Tryz.f230.name,by decide,Tryz.func230.trans (CL some (by kernel_rfl))⟩
 f26:=⟨Tryz.f231.name,by decide,Tryz.func231.trans (CL some (by kernel_rfl))⟩
 f27:=⟨Tryz.f232.name,by decide,Tryz.func232.trans (CL some (by kernel_rfl))⟩
 f28:=Tryz.func233.trans (CL some (by kernel_rfl))
 f29:=Tryz.func234.trans (CL some (by kernel_rfl))
 f46:=⟨Tryz.f257.name,by decide,Tryz.func257.trans (CL some (by kernel_rfl))⟩
 f47:=Tryz.func258.trans (CL some (by kernel_rfl))
 f48:=Tryz.func259.trans (CL some (by kernel_rfl))
 f49:=⟨Tryz.f260.name,by decide,Tryz.func260.trans (CL some (by kernel_rfl))⟩
 f50:=⟨Tryz.f261.name,by decide,Tryz.func261.trans (CL some (by kernel_rfl))⟩
 f57:=⟨Tryz.f281.name,by decide,Tryz.func281.trans (CL some (by kernel_rfl))⟩
 t0:=Tryz.underlying0
 a0:=Tryz.isAgg0
 z0:=Tryz.sizeOf0
 v0:=Tryz.zeroValue0
 t3:=Tryz.underlying3
 a3:=Tryz.isAgg3
 z3:=Tryz.sizeOf3
 v3:=Tryz.zeroValue3
 t4:=Tryz.underlying4
 a4:=Tryz.isAgg4
 z4:=Tryz.sizeOf4
 v4:=Tryz.zeroValue4
 t5:=Tryz.underlying5
 a5:=Tryz.isAgg5
 z5:=Tryz.sizeOf5
 v5:=Tryz.zeroValue5
 t9:=Tryz.underlying9
 a9:=Tryz.isAgg9
 z9:=Tryz.sizeOf9
 v9:=Tryz.zeroValue9
 t22:=Tryz.underlying37
 a22:=Tryz.isAgg37
 z22:=Tryz.sizeOf37
 v22:=Tryz.zeroValue37
 t25:=Tryz.underlying221
 a25:=Tryz.isAgg221
 z25:=Tryz.sizeOf221
 v25:=Tryz.zeroValue221
 t39:=Tryz.underlying247
 a39:=Tryz.isAgg247
 z39:=Tryz.sizeOf247
 v39:=Tryz.zeroValue247
 t45:=Tryz.underlying305
 a45:=Tryz.isAgg305
 z45:=Tryz.sizeOf305
 v45:=Tryz.zeroValue305
 t46:=Tryz.underlying306
 a46:=Tryz.isAgg306
 z46:=Tryz.sizeOf306
 v46:=Tryz.zeroValue306
 t50:=Tryz.underlying189
 a50:=Tryz.isAgg189
 z50:=Tryz.sizeOf189
 v50:=Tryz.zeroValue189
 t53:=Tryz.underlying312
 a53:=Tryz.isAgg312
 z53:=Tryz.sizeOf312
 v53:=Tryz.zeroValue312
 t55:=Tryz.underlying314
 a55:=Tryz.isAgg314
 z55:=Tryz.sizeOf314
 v55:=Tryz.zeroValue314
 t66:=Tryz.underlying336
 a66:=Tryz.isAgg336
 z66:=Tryz.sizeOf336
 v66:=Tryz.zeroValue336
 t70:=Tryz.underlying340
 a70:=Tryz.isAgg340
 z70:=Tryz.sizeOf340
 v70:=Tryz.zeroValue340
 t76:=Tryz.underlying362
 a76:=Tryz.isAgg362
 z76:=Tryz.sizeOf362
 v76:=Tryz.zeroValue362
 t77:=Tryz.underlying363
 a77:=Tryz.isAgg363
 z77:=Tryz.sizeOf363
 v77:=Tryz.zeroValue363}
def Tryz.sortPt_ren:Go.Shelf.Ren:=⟨λ|6=>223|15=>200|14=>256|28=>233|29=>234|20=>273|21=>274|22=>275|23=>276|24=>277|25=>278|26=>279|27=>280|46=>291|47=>258|48=>259|49=>292|50=>293|57=>297|n=>n,λ|22=>50|24=>96|25=>220|3=>3|39=>247|0=>0|53=>312|55=>314|4=>4|46=>306|45=>305|50=>189|5=>5|9=>9|66=>336|70=>340|76=>362|77=>363|n=>n,λ|n=>n⟩
def Tryz.sortPt:Go.Proofs.SlLaysF0.n6 Tryz.prog Tryz.sortPt_ren:={
 mixed:=by kernel_rfl
 f6:=⟨Tryz.f223.name,by decide,Tryz.func223.trans (CL some (by kernel_rfl))⟩
 f14:=⟨Tryz.f256.name,by decide,Tryz.func256.trans (CL some (by kernel_rfl))⟩
 f15:=Tryz.func200.trans (CL some (by kernel_rfl))
 f20:=⟨Tryz.f273.name,by decide,Tryz.func273.trans (CL some (by kernel_rfl))⟩
 f21:=⟨Tryz.f274.name,by decide,Tryz.func274.trans (CL some (by kernel_rfl))⟩
 f22:=⟨Tryz.f275.name,by decide,Tryz.func275.trans (CL some (by kernel_rfl))⟩
 f23:=⟨Tryz.f276.name,by decide,Tryz.func276.trans (CL some (by kernel_rfl))⟩
 f24:=⟨Tryz.f277.name,by decide,Tryz.func277.trans (CL some (by kernel_rfl))⟩
 f25:=⟨Tryz.f278.name,by decide,Tryz.func278.trans (CL some (by kernel_rfl))⟩
 f26:=⟨Tryz.f279.name,by decide,Tryz.func279.trans (CL some (by kernel_rfl))⟩
 f27:=⟨Tryz.f280.name,by decide,Tryz.func280.trans (CL some (by kernel_rfl))⟩
 f28:=Tryz.func233.trans (CL some (by kernel_rfl))
 f29:=Tryz.func234.trans (CL some (by kernel_rfl))
 f46:=⟨Tryz.f291.name,by decide,Tryz.func291.trans (CL some (by kernel_rfl))⟩
 f47:=Tryz.func258.trans (CL some (by kernel_rfl))
 f48:=Tryz.func259.trans (CL some (by kernel_rfl))
 f49:=⟨Tryz.f292.name,by decide,Tryz.func292.trans (CL some (by kernel_rfl))⟩
 f50:=⟨Tryz.f293.name,by decide,Tryz.func293.trans (CL some (by kernel_rfl))⟩
 f57:=⟨Tryz.f297.name,by decide,Tryz.func297.trans (CL some (by kernel_rfl))⟩
 t0:=Tryz.underlying0
 a0:=Tryz.isAgg0
 z0:=Tryz.sizeOf0
 v0:=Tryz.zeroValue0
 t3:=Tryz.underlying3
 a3:=Tryz.isAgg3
 z3:=Tryz.sizeOf3
 v3:=Tryz.zeroValue3
 t4:=Tryz.underlying4
 a4:=Tryz.isAgg4
 z4:=Tryz.sizeOf4
 v4:=Tryz.zeroValue4
 t5:=Tryz.underlying5
 a5:=Tryz.isAgg5
 z5:=Tryz.sizeOf5
 v5:=Tryz.zeroValue5
 t9:=Tryz.underlying9
 a9:=Tryz.isAgg9
 z9:=Tryz.sizeOf9
 v9:=Tryz.zeroValue9
 t22:=Tryz.underlying50
 a22:=Tryz.isAgg50
 z22:=Tryz.sizeOf50
 v22:=Tryz.zeroValue50
 t25:=Tryz.underlying220
 a25:=Tryz.isAgg220
 z25:=Tryz.sizeOf220
 v25:=Tryz.zeroValue220
 t39:=Tryz.underlying247
 a39:=Tryz.isAgg247
 z39:=Tryz.sizeOf247
 v39:=Tryz.zeroValue247
 t45:=Tryz.underlying305
 a45:=Tryz.isAgg305
 z45:=Tryz.sizeOf305
 v45:=Tryz.zeroValue305
 t46:=Tryz.underlying306
 a46:=Tryz.isAgg306
 z46:=Tryz.sizeOf306
 v46:=Tryz.zeroValue306
 t50:=Tryz.underlying189
 a50:=Tryz.isAgg189
 z50:=Tryz.sizeOf189
 v50:=Tryz.zeroValue189
 t53:=Tryz.underlying312
 a53:=Tryz.isAgg312
 z53:=Tryz.sizeOf312
 v53:=Tryz.zeroValue312
 t55:=Tryz.underlying314
 a55:=Tryz.isAgg314
 z55:=Tryz.sizeOf314
 v55:=Tryz.zeroValue314
 t66:=Tryz.underlying336
 a66:=Tryz.isAgg336
 z66:=Tryz.sizeOf336
 v66:=Tryz.zeroValue336
 t70:=Tryz.underlying340
 a70:=Tryz.isAgg340
 z70:=Tryz.sizeOf340
 v70:=Tryz.zeroValue340
 t76:=Tryz.underlying362
 a76:=Tryz.isAgg362
 z76:=Tryz.sizeOf362
 v76:=Tryz.zeroValue362
 t77:=Tryz.underlying363
 a77:=Tryz.isAgg363
 z77:=Tryz.sizeOf363
 v77:=Tryz.zeroValue363}
def Tryz.cmpI64_ren:Go.Shelf.Ren:=⟨λ|5=>202|7=>235|n=>n,λ|22=>2|3=>3|4=>4|n=>n,λ|n=>n⟩
def Tryz.cmpI64:Go.Proofs.SlLaysC2.n5 Tryz.prog Tryz.cmpI64_ren:={
 mixed:=by kernel_rfl
 f5:=⟨Tryz.f202.name,by decide,Tryz.func202.trans (CL some (by kernel_rfl))⟩
 f7:=⟨Tryz.f235.name,by decide,Tryz.func235.trans (CL some (by kernel_rfl))⟩
 t3:=Tryz.underlying3
 a3:=Tryz.isAgg3
 z3:=Tryz.sizeOf3
 v3:=Tryz.zeroValue3
 t4:=Tryz.underlying4
 a4:=Tryz.isAgg4
 z4:=Tryz.sizeOf4
 v4:=Tryz.zeroValue4
 t22:=Tryz.underlying2
 a22:=Tryz.isAgg2
 z22:=Tryz.sizeOf2
 v22:=Tryz.zeroValue2}
end Go.Proofs
namespace Go.Proofs
open Go.Shelf Go.RowKit Go.Lib Go.Sort
def Tryz.cmp64(x y:Int)(W:World):Calls Tryz.prog 202 #[.int .i64 x,.int .i64 y] W λe w'=>e= .returned (.int .i64 (Lib.compareInt x y))/\w'=W:=
 AnyG.cmp_Compare_int Tryz.cmpI64 x y W
def Tryz.orTwo(b:Nat)(x y:Int)(W:World)(h0:W.cell? ⟨b,0,none⟩=some (.int .i64 x))(z:W.cell? ⟨b,1,none⟩=some (.int .i64 y)):
 Calls Tryz.prog 201 #[.slice (some ⟨b,0,none⟩) 2 2] W λe w'=>e= .returned (.int .i64 (if x=0 then y else x))/\w'=W:=by
 go_enter Tryz.func201,Tryz.ntmps201
 go_wp2
 refine wp_loop_rounds 3 ?_;rw[rounds_succ]
 go_wp2
 all_goals (try rw[rounds_succ])
 all_goals (try go_wp2)
 all_goals (try rw[rounds_succ])
 all_goals (try go_wp2)
 all_goals (go_ret;refine⟨?_,rfl⟩;simp_all)
def Pf(W:World)(a b a' b':Value)(T:TypeId):
 let z:=((W.alloc (Obj.cells #[a,b] T)).alloc (Obj.cells #[a',b'] T)).drew
 z.cell? ⟨W.heap.size,0,none⟩=some a/\z.cell? ⟨W.heap.size,1,none⟩=some b/\z.cell? ⟨W.heap.size+1,0,none⟩=some a'/\z.cell? ⟨W.heap.size+1,1,none⟩=some b'/\
  ∃G,z=grow (W.drewN 1) G:=by
 have e:((W.alloc (Obj.cells #[a,b] T)).alloc (Obj.cells #[a',b'] T)).drew=grow (W.drewN 1) #[Obj.cells #[a,b] T,Obj.cells #[a',b'] T]:=by
  rw[alloc_eq_grow,alloc_eq_grow,grow_grow];rfl
 have h0:(W.heap++ #[Obj.cells #[a,b] T,Obj.cells #[a',b'] T])[W.heap.size]? =some (Obj.cells #[a,b] T):=by
  rw[Zeb (AN _),GS];rfl
 have O:(W.heap++ #[Obj.cells #[a,b] T,Obj.cells #[a',b'] T])[W.heap.size+1]? =some (Obj.cells #[a',b'] T):=by
  rw[Zeb (Nat.le_succ _),show W.heap.size.succ - W.heap.size=1 by omega];rfl
 simp only[e];refine⟨?_,?_,?_,?_,_,rfl⟩<;>unfold World.cell? <;>simp only[grow,World.drewN,h0,O]<;>rfl
def Qvb(w:World)(a b:Value)(T:TypeId):(w.alloc (Obj.cells #[a,b] T)).cell? ⟨w.heap.size,0,none⟩=some a/\(w.alloc (Obj.cells #[a,b] T)).cell? ⟨w.heap.size,1,none⟩=some b:=by
 have h0:(w.heap.push (Obj.cells #[a,b] T))[w.heap.size]? =some (Obj.cells #[a,b] T):=by simp
 constructor<;>unfold World.cell? <;>simp only[World.alloc,h0]<;>rfl
def Ib(p q:Int×Int):Int:=if Lib.compareInt p.2 q.2=0 then Lib.compareInt p.1 q.1 else Lib.compareInt p.2 q.2
def Tryz.cmpPoints(x y x' y':Int)(W:World):Calls Tryz.prog 161 #[.agg #[.int .i64 x,.int .i64 y],.agg #[.int .i64 x',.int .i64 y']] W λe w'=>
 e= .returned (.int .i64 (Ib (x,y) (x',y')))/\ ∃q Q,w'=grow (W.drewN q) Q:=by
 have z:=λW'=>Tryz.cmp64 y y' W'
 have G:=λW'=>Tryz.cmp64 x x' W'
 unfold Ib;simp only;generalize Lib.compareInt y y'=r1 at z⊢;generalize Lib.compareInt x x'=r2 at G⊢;have O:=λ(b:Nat) W'=>Tryz.orTwo b r1 r2 W'
 generalize (if r1=0 then r2 else r1)=r at O⊢
 go_enter Tryz.func161,Tryz.ntmps161
 go_wp2
 refine wp_region_still_tail 10 (by kernel_rfl) (by kernel_rfl) ?_;simp only[P9,UQ,P8,GN];obtain⟨d1,d2,d3,d4,Z⟩:=Pf W (.int .i64 x) (.int .i64 y) (.int .i64 x') (.int .i64 y') 96;change wpStill _ _ ((W.alloc (Obj.cells #[Value.int IntKind.i64 x,Value.int IntKind.i64 y] 96)).alloc (Obj.cells #[Value.int IntKind.i64 x',Value.int IntKind.i64 y'] 96)).drew (λa'=>wpList _ _ _ _ a' ((W.alloc (Obj.cells #[Value.int IntKind.i64 x,Value.int IntKind.i64 y] 96)).alloc (Obj.cells #[Value.int IntKind.i64 x',Value.int IntKind.i64 y'] 96)).drew) _ _;generalize ((W.alloc (Obj.cells #[Value.int IntKind.i64 x,Value.int IntKind.i64 y] 96)).alloc (Obj.cells #[Value.int IntKind.i64 x',Value.int IntKind.i64 y'] 96)).drew=w3 at d1 d2 d3 d4 Z⊢
 still_step
 still_step
 still_step
 still_step
 still_call (z _)
 still_step
 still_step
 still_step
 still_step
 still_call (G _)
 refine wpStill_nil ?_
 go_wp2_with (go_at_call 201;refine (O _ _ (Qvb _ _ _ _).1 (Qvb _ _ _ _).2).mono ?_;rintro e w' ⟨rfl,rfl⟩)
 go_ret
 obtain⟨aa,rfl⟩:=Z;exact⟨rfl,1,_,by rw[alloc_eq_grow,grow_grow]⟩
def Tryz.cmpPlaced90(x y t x' y' t':Int)(W:World):Calls Tryz.prog 160 #[.agg #[.int .i64 x,.int .i64 y,.int .i64 t],.agg #[.int .i64 x',.int .i64 y',.int .i64 t']] W λe w'=>
 e= .returned (.int .i64 (Ib (x,y) (x',y')))/\ ∃q G,w'=grow (W.drewN q) G:=by
 have z:=λW'=>Tryz.cmpPoints x y x' y' W'
 generalize Ib (x,y) (x',y')=r at z⊢
 go_enter Tryz.func160,Tryz.ntmps160
 go_wp2_with (go_at_call 161;refine (z _).mono ?_;rintro e w' ⟨rfl,q,G,rfl⟩)
 go_ret
 exact⟨rfl,q,_,by rw[alloc_eq_grow,alloc_eq_grow,grow_grow];show grow (grow (W.drewN q) _) G=_;rw[grow_grow]⟩
end Go.Proofs
namespace Go.Ae
open Go.Proofs Go.Sort Go.Shelf
instance:Inhabited Ak:=⟨⟨⟨0,0⟩,0⟩⟩
def CG(x:Ak):List Value:=[.int .i64 x.At.X,.int .i64 x.At.Y,.int .i64 x.Tile]
def zH(x y:Ak):Int:=Ib (x.At.X,x.At.Y) (y.At.X,y.At.Y)
def yH(x y:Ak):ltOf zH x y=Bf x.At y.At:=by
 simp only[ltOf,zH,Ib,Lib.compareInt,Bf]
 grind
def swoP:SWO (ltOf zH) where
 irrefl x:=by rw[yH];simp only[Bf];grind
 trans x y z h1 h2:=by rw[yH] at*;simp only[Bf] at*;grind
 ntrans x y z h1 h2:=by rw[yH] at*;simp only[Bf] at*;grind
def Fg(l:List Ak):List Ak:=l.foldr (λx r=>DM x.At x.Tile r) []
def pL(x:Ak): ∀(l:List Ak),(DM x.At x.Tile l).Perm (x::l)
 |[]=>dO _
 |y::r=>by
  simp only[DM];split
  .exact dO _
  .exact ((pL x r).cons y).trans (List.Perm.swap x y r)
def Y3: ∀(l:List Ak),(Fg l).Perm l
 |[]=>dO _
 |x::r=>(pL x (Fg r)).trans ((Y3 r).cons x)
def Quq{a b c:Ab}(z:Bf a b=true)(G:Bf c b=false):Bf c a=false:=by
 simp only[Bf] at*;grind
def xV(x:Ak): ∀(l:List Ak),l.Pairwise (λa b=>Bf b.At a.At=false)->(DM x.At x.Tile l).Pairwise (λa b=>Bf b.At a.At=false)
 |[],_=>by simp[DM]
 |y::r,h=>by
  rw[UR] at h;simp only[DM];split
  .rename_i O;rw[UR,UR];refine⟨λz G=> ?_,h⟩;have Q:Bf y.At x.At=false:=by simp only[Bf] at*;grind
   rcases Bi.1 G with rfl|G
   .exact Q
   .have:=h.1 z G
    exact Quq O this
  .rename_i O;rw[UR];refine⟨λz G=> ?_,xV x r h.2⟩;rcases (Qlc _ _ _ _).1 G with rfl|G
   .simpa using O
   .exact h.1 z G
def pN: ∀(l:List Ak),(Fg l).Pairwise (λa b=>Bf b.At a.At=false)
 |[]=>List.Pairwise.nil
 |x::r=>xV x _ (pN r)
def lG(l:List Ak):(Fg l).length=l.length:=(Y3 l).length_eq
def QE{l:List Ak}(h:(l.map Ak.At).Nodup){x y:Ak}(Z:x∈l)(hy:y∈l)(Q:x.At=y.At):x=y:=by
 induction l with
 |nil=>cases Z
 |cons z r ih=>
  rw[Bd,Ip] at h;rcases Bi.1 Z with G|G<;>rcases Bi.1 hy with O|O
  .rw[G,O]
  .exact absurd (show z.At∈r.map Ak.At by rw[<-G,Q];exact rR O) h.1
  .exact absurd (show z.At∈r.map Ak.At by rw[<-O,<-Q];exact rR G) h.1
  .exact ih h.2 G O
def pK{l l':List Ak}(hd:(l.map Ak.At).Nodup)(hp:l'.Perm l)(hs:l'.Pairwise (λa b=>Bf b.At a.At=false)):l'=Fg l:=by
 refine ZeA (le:=λa b=>Bf b.At a.At=false) (λa b Z hb O Q=> ?_) hs (pN l) (hp.trans (Y3 l).symm);refine QE hd (hp.mem_iff.1 Z) ((Y3 l).mem_iff.1 hb) ?_;revert O Q;obtain⟨⟨ax,ay⟩,z⟩:=a;obtain⟨⟨bx,G⟩,bt⟩:=b;simp only[Bf,Ab.mk.injEq]
 grind
def Ry(l:List Ak):List Value:=l.flatMap CG
def Ld(l:List Ak):(Ry l).length=l.length*3:=by
 induction l with
 |nil=>rfl
 |cons x r ih=>simp only[Ry,Gj,Dn,CY] at ih⊢;rw[ih];simp[CG];omega
def Ql5{ok:Nat->Prop}{hp:Nat->Option Obj}: ∀(l:List Ak) (L:List Value),rdr ok hp 3 (l.map Ak.c) L↔ ∃r,L=Ry l++r
 |[],L=>by simp[rdr,Ry]
 |x::r,L=>by
  simp only[Bd,rdr,Ql5 r,Ak.c,rdp,rd,Ry,Gj];constructor
  .rintro⟨_,⟨v,z,rfl,rfl,Q,G,rfl,rfl,Z,O,rfl,rfl,_⟩,q,hq⟩;exact⟨q,by simp only[P8,GN] at hq;rw[hq];rfl⟩
  .rintro⟨q,rfl⟩;exact⟨rfl,⟨_,_,rfl,rfl,_,_,rfl,rfl,_,_,rfl,rfl,trivial⟩,q,rfl⟩
def Lc: ∀(l:List Ak) (t:Nat),t<l.length*3->(Ry l)[t]? =some ((CG (l[t/3]?.getD default))[t % 3]!)
 |[],t,h=>by simp at h
 |x::r,t,h=>by
  by_cases O:t<3
  .have:t=0\/t=1\/t=2:=by omega
   rcases this with rfl|rfl|rfl<;>simp[Ry,CG]
  .obtain⟨u,rfl⟩: ∃u,t=u+3:=⟨t - 3,by omega⟩;have z:(u+3)/3=u/3+1:=by omega
   have G:(u+3) % 3=u % 3:=by omega
   have ih:=Lc r u (by simp at h;omega);rw[z,G,Jd,<-ih];simp[Ry,CG]
def Qvu(l:List Ak):(flatK CG 3 l.toArray).toList=Ry l:=by
 apply JE;intro t;by_cases z:t<l.length*3
 .rw[Lc l t z];have G:t<(flatK CG 3 l.toArray).size:=by simp only[size_flatK,N0];exact z
  have O:=get_flatK CG 3 l.toArray t (by simpa using z);rw[G4,Jc G,<-getElem!_pos (flatK CG 3 l.toArray) t G,O];congr 3;simp[getElem!_def];cases l[t/3]? <;>rfl
 .have a1:(flatK CG 3 l.toArray).toList.length<=t:=by rw[E8,size_flatK,N0];omega
  have a2:(Ry l).length<=t:=by rw[Ld];omega
  rw[F7 a1,F7 a2]
def srt.ca(_:List Ak):List AV:=[.own 0,.im (.fn 160 [] [])]
def srt.H0(a:List Ak):Ap:=[(0,(true,.arr 137 3 (a.map Ak.c)))]
def srt.H1(a:List Ak):Ap:=[(0,(true,.arr 137 3 ((Fg a).map Ak.c)))]
def srt.row:A7:=AF srt.ca srt.H0 1 (λa=>(a.map Ak.At).Nodup) (λ_=>true) (λ_=> .im (.tup [])) srt.H1 0
def srt.ok:AA Tryz.prog 159 srt.row:=by
 rintro args h nx K ⟨a,τ,U,KL,a0,rfl,O,hN,hK⟩;refine⟨Nn (by kernel_rfl),_,_,?_,hK⟩;intro C S vs R hW a9 bb bc aa aw;have ao:BT τ 1 nx 0=τ 0:=Ao (by omega);simp only[srt.ca,AL,AV.ren,ao,AM,Aa,rd,rdl] at aa;obtain⟨v0,r0,hv,⟨ad,ai⟩,v1,r1,bi,⟨ac,cc,bl,aj,ak⟩,bj⟩:=aa;have aj:ac= #[]:=by apply N4;simpa using aj
 have ak:cc= #[]:=by apply N4;simpa using ak
 subst aj ak bj bi bl;have bm:vs= #[v0,.func (UV 160) #[] #[]]:=by apply N4;simpa using hv
 subst bm;have hm:h (τ 0)=some (true,.arr 137 3 (a.map Ak.c)):=by
  have:=O.1
  rwa [ao] at this
 have av:Am (srt.H0 a) 0=true:=rfl;have Q:S.h (τ 0)=some (true,.arr 137 3 (a.map Ak.c)):=by
  rw[a9 (τ 0) (JF _ (hN.u 0 av)),hm]
 have ax: ∀n,n∈KL↔n=τ 0:=by
  intro n;constructor
  .intro hn;obtain⟨j,h1,_,h3⟩:=hN.k1 n hn
   have:j=0:=by
    simp only[Am,srt.H0,hget] at h1;by_cases hj:j=0
    .exact hj
    .have:(0==j)=false:=by simpa using λh=>hj h.symm
     rw[this] at h1;cases h1
   rw[h3,this]
  .rintro rfl;exact hN.k2 0 av rfl
 obtain⟨m,hmm⟩: ∃m,m=τ 0:=⟨_,rfl⟩;rw[<-hmm] at Q ai ax;have aq:=lG a;have fin: ∀(w':World),IZ S m (.arr 137 3 ((Fg a).map Ak.c)) (S.ρ m) [m] w'->
  (Bx (λn=>S.h m≠none\/n≠m) S (S.one m (.arr 137 3 ((Fg a).map Ak.c)) (S.ρ m) [m] w')->Au (S.one m (.arr 137 3 ((Fg a).map Ak.c)) (S.ρ m) [m] w') (S.ρ m) (.arr 137 3 ((Fg a).map Ak.c)))->R (.returned (.tuple #[])) w':=by
  intro w' ad bh;have hp:=bQ hW ad;refine aw (.tuple #[]) _ (iQ hW ad (bh hp)) ?_ ⟨hp.ok,λn _=>hp.nm n (.inl (by rw[Q];simp))⟩ ⟨#[],rfl,rfl⟩;funext n;simp only[Ay.one,Bk.appf,srt.H1,AW,ao,hget,Ad.ren,<-hmm];by_cases hn:n=m
  .subst hn;simp
  .have h1:(m==n)=false:=by simpa using λh=>hn h.symm
   have h2:KL.contains n=false:=by
    rw[<-N3,Gi,ax];exact hn
   simp only[h1,B8,h2,hn,Cy,BE]
 have z:=ai _ Q;have Z:=hW.obj _ _ Q;have az:=λG=>hW.loc m _ G Q
 cases hρ:S.ρ m with
 |none=>
  rw[hρ] at z Z;simp only[Au] at Z;have ha:a=[]:=by simpa using Z.2
  subst ha;simp only at z;rw[z,Wm (by decide)];refine (AnyF.slices_SortFunc_none Tryz.sortPl none 0 (.func (.func 160) #[] #[]) S.w).mono ?_;rintro e w' ⟨rfl,rfl⟩;refine fin S.w (ZQ Q (λl hl=>by rw[hρ] at hl;cases hl) rfl rfl) (λ_=> ?_);rw[hρ];exact⟨CF _,rfl⟩
 |some G=>
  rw[hρ] at z Z;simp only[Au,Ad.len] at Z z;obtain⟨g1,g2,cv,g3,g4,g5⟩:=Z;obtain⟨an,bo⟩:=az G hρ;rw[Ql5] at g5;obtain⟨ba,g5⟩:=g5;simp only[FM] at g1 g2 z;have O:S.w.heap[G.b]? =some (.cells cv 137 (0,0)):=g3;have bn:G.p+a.length*3<=cv.size:=by omega
  have hF:(flatK CG 3 a.toArray).size=a.length*3:=by simp
  have hget: ∀j,j<a.length*3->cv[G.p+j]? =some ((flatK CG 3 a.toArray)[j]!):=by
   intro j hj;have h1:(cv.toList.drop G.p)[j]? =(Ry a++ba)[j]? :=by rw[g5]
   rw[HN,G4,E7 (by rw[Ld];exact hj),<-Qvu,G4] at h1;rw[h1,Jc (by rw[hF];exact hj),getElem!_pos _ _ (by rw[hF];exact hj)]
  have hH:HoldsK CG 3 S.w G.b G.p a.toArray:=by
   intro j hj;rw[hF] at hj;refine⟨?_,?_⟩
   .simp only[World.cell?,O,Zb,CE,Cy,id];exact hget j hj
   .simp only[World.frozen?,O];simp
  have hc:=AnyQ.slices_SortFunc Tryz.sortPl 3 Tryz.isAgg137 Tryz.sizeOf137 CG (λ_=>rfl) (λx v hv=>by simp[CG] at hv;rcases hv with rfl|rfl|rfl<;>rfl) zH swoP 160 #[] G.b G.p G.cap a.toArray S.w
   (oH (Nn (by kernel_rfl))) (λm os dk hs x y=>Tryz.cmpPlaced90 _ _ _ _ _ _ _) hH an (by simp only[N0,Kr] at g1⊢;omega)
  rw[z,Wm (by decide)];refine hc.mono ?_;rintro e w' ⟨rfl,d',n,os,af,au,rfl⟩;have a8:d'.size=a.length:=af.1;have bf:d'.toList=Fg a:=by
   refine pK a0 ?_ ?_
   .have:=af.2.2
    rwa [show d'.extract 0 a.toArray.size=d' by rw[N0,<-a8];exact rU,show a.toArray.extract 0 a.toArray.size=a.toArray from rU] at this
   .rw[ZdF];intro i j hi hj bg
    have:=au i j (CF _) bg (by rw[N0,<-a8];simpa using hj)
    rw[yH,getElem!_pos d' i (by simpa using hi),getElem!_pos d' j (by simpa using hj)] at this;simpa using this
  obtain rfl:d'=(Fg a).toArray:=by apply N4;rw[bf]
  have ah:(flatK CG 3 (Fg a).toArray).size=a.length*3:=by simp[aq]
  have am:(flatK CG 3 (Fg a).toArray).toList.length=a.length*3:=by rw[E8,ah]
  have ag:S.w.heap.size<=(sortWorldK CG 3 S.w G.b G.p n (Fg a).toArray os).heap.size:=by
   simp[sortWorldK,grow,putRowK,Sort.ahead]
  have hb: ∀b,b<S.w.heap.size->(sortWorldK CG 3 S.w G.b G.p n (Fg a).toArray os).heap[b]? =if G.b=b then S.w.heap[b]?.map (onCells (putCells id G.p (flatK CG 3 (Fg a).toArray))) else S.w.heap[b]? :=by
   intro b hb;have e0:b<(putRowK CG 3 (Sort.ahead S.w n) G.b G.p (Fg a).toArray).heap.size:=by simpa[putRowK,Sort.ahead] using hb
   simp only[sortWorldK,grow];rw[ZdC e0];simp only[putRowK,putRow,mapBlock,Sort.ahead,ZdU]
  refine fin _ ⟨rfl,rfl,rfl,ag,?_,.inl (by simp),?_,?_,?_⟩ ?_
  .intro b bd be;rw[hb b bd,Ag (be m _ G (by simp) Q hρ)]
  .intro lo ay;rw[hρ] at ay;obtain rfl:=AE ay;exact⟨FL an ag,.inr ⟨m,_,G,by simp,Q,hρ,rfl⟩⟩
  .intro f hf;rw[Q] at hf;obtain rfl:=AE hf;exact⟨rfl,rfl,by simp[Ad.len,aq]⟩
  .intro n' f _ ab;rw[Q] at ab;cases ab
  .intro _;rw[hρ];simp only[Au,FM,aq];refine⟨g1,g2,putCells id G.p (flatK CG 3 (Fg a).toArray) cv,?_,by simpa[putCells] using g4,?_⟩
   .simp only[Ay.one,Ay.hp];rw[hb G.b an,Ao rfl,O];rfl
   .rw[Ql5];refine⟨(cv.toList.drop (G.p+a.length*3)),?_⟩;apply JE;intro t;rw[HN,G4,putCells,ZeJ,ah,<-Qvu];by_cases ht:t<a.length*3
    .rw[E7 (by rw[am];exact ht),G4,Jc (show G.p+t<cv.size by omega),Jc (by rw[ah];exact ht)];simp only[Ds,id];rw[Ao ⟨by omega,by omega⟩,rL,getElem!_pos _ _ (by rw[ah];exact ht)]
    .rw[Fo (by rw[am];omega),am,HN,G4,show G.p+a.length*3+(t - a.length*3)=G.p+t by omega];cases cv[G.p+t]? with
     |none=>rfl
     |some x=>simp only[Ds];rw[Ag (by omega)]
end Go.Ae
namespace Go.Ae
open Go.Proofs
def Dy(q:Ab×Int):Ak:=⟨q.1,q.2⟩
def Tm(m:Io)(t:List (Ab×Int))(x:Ak):Option (List (Ab×Int)):=
 if (m.Labels[x.Tile.toNat]?.getD 0)<0 then some t
 else if (B7 t (bT x.At m.Scale).1).getD (m.Labels[x.Tile.toNat]?.getD 0)≠(m.Labels[x.Tile.toNat]?.getD 0) then none
 else some (B3 t (bT x.At m.Scale).1 (m.Labels[x.Tile.toNat]?.getD 0))
def NP{l l':List Ak}(hp:l.Perm l')(hd:(l'.map Ak.At).Nodup)(p:Ab):l.find? (λx=>decide (x.At=p))=l'.find? (λx=>decide (x.At=p)):=by
 cases h1:l.find? (λx=>decide (x.At=p)) with
 |none=>
  symm;rw[YY] at h1⊢;exact λx O=>h1 x (hp.mem_iff.2 O)
 |some x=>
  have O:=hp.mem_iff.1 (rJ h1);have z:=Wx h1;cases h2:l'.find? (λx=>decide (x.At=p)) with
  |none=>
   rw[YY] at h2;exact absurd z (h2 x O)
  |some y=>
   have Q:=rJ h2;have G:=Wx h2;rw[QE hd O Q];rw[Ch] at z G;rw[z,G]
def LD(p:Ab): ∀(t:List (Ab×Int)),(((t.map Dy).find? (λx=>decide (x.At=p))).map Ak.Tile)=B7 t p
 |[]=>rfl
 |(k,w)::r=>by
  simp only[Bd,zB,Dy,B7];by_cases h:k=p
  .subst h;simp
  .have z:decide (k=p)=false:=by simpa using h
   have G: ¬p=k:=λO=>h O.symm
   rw[z,Ag G];exact LD p r
def Vn(t:List (Ab×Int)):(t.map Dy).map Ak.At=t.map Prod.fst:=by simp[Dy]
def Z0{t:List (Ab×Int)}(hd:(t.map Prod.fst).Nodup)(p:Ab):Bu ⟨Fg (t.map Dy)⟩ p=(B7 t p).getD (-1):=by
 have z:((t.map Dy).map Ak.At).Nodup:=by rw[Vn];exact hd
 simp only[Bu];rw[NP (Y3 _) z,LD]
def iH{t:List (Ab×Int)}{p:Ab}(v:Int)(h:B7 t p=none):B3 t p v=t++[(p,v)]:=by
 induction t with
 |nil=>rfl
 |cons q r ih=>
  obtain⟨k,w⟩:=q;simp only[B7] at h;split at h
  .cases h
  .rename_i hn;simp only[B3,Ag hn,CX];rw[ih h]
def Pg{t:List (Ab×Int)}{p:Ab}{v:Int}(h:B7 t p=some v):B3 t p v=t:=by
 induction t with
 |nil=>cases h
 |cons q r ih=>
  obtain⟨k,w⟩:=q;simp only[B7] at h;simp only[B3];split at h
  .rename_i z;obtain rfl:=AE h;rw[Ao z,z]
  .rename_i hn;rw[Ag hn,ih h]
def Qyz{t:List (Ab×Int)}{p:Ab}(h:B7 t p=none):p∉t.map Prod.fst:=by
 induction t with
 |nil=>simp
 |cons q r ih=>
  obtain⟨k,w⟩:=q;simp only[B7] at h;split at h
  .cases h
  .rename_i hn;simp only[Bd,Bi,Zl];exact⟨hn,ih h⟩
def ZP{t:List (Ab×Int)}{p:Ab}{v:Int}(h:B7 t p=some v):(p,v)∈t:=by
 induction t with
 |nil=>cases h
 |cons q r ih=>
  obtain⟨k,w⟩:=q;simp only[B7] at h;split at h
  .rename_i z;obtain rfl:=AE h;rw[z];exact BM ..
  .exact BR _ (ih h)
structure RM(t:List (Ab×Int))(o:Ah)(k:Nat):Prop where
 nd:(t.map Prod.fst).Nodup
 pos: ∀q∈t,0<=q.2
 eq:o=⟨Fg (t.map Dy)⟩
 len:t.length<=k
def RM.step{m:Io}{t:List (Ab×Int)}{o:Ah}{k:Nat}(h:RM t o k)(x:Ak):(∃t' o',Tm m t x=some t'/\Tq m o x=some o'/\RM t' o' (k+1))\/(Tm m t x=none/\Tq m o x=none):=by
 obtain⟨nd,pos,rfl,len⟩:=h;simp only[Tm,Tq];generalize m.Labels[x.Tile.toNat]?.getD 0=n;generalize (bT x.At m.Scale).1=p;by_cases c1:n<0
 .rw[Ao c1,Ao c1];exact .inl ⟨_,_,rfl,rfl,nd,pos,rfl,by omega⟩
 rw[Ag c1,Ag c1,Z0 nd];cases hq:B7 t p with
 |none=>
  simp only[Option.getD_none];rw[Ag (by simp),Ag (by omega),Ao (by omega)];refine .inl ⟨_,_,rfl,rfl,?_,?_,?_,?_⟩
  .rw[iH n hq,F9,US];refine⟨nd,by simp,?_⟩;intro a Q b hb z;simp only[Bd,GR,BE] at hb;exact Qyz hq (by rw[<-hb,<-z];exact Q)
  .intro q G;rw[iH n hq] at G;rcases Br.1 G with G|G
   .exact pos q G
   .simp only[BE] at G;subst G;simp only;omega
  .rw[oI,iH n hq];congr 1;have Z:(((t++[(p,n)]).map Dy).map Ak.At).Nodup:=by
    rw[Vn,F9,US];refine⟨nd,by simp,?_⟩;intro a Q b hb z;simp only[Bd,GR,BE] at hb;exact Qyz hq (by rw[<-hb,<-z];exact Q)
   refine pK Z ?_ (xV ⟨p,n⟩ _ (pN _));refine (pL ⟨p,n⟩ _).trans ?_;rw[F9];refine ((Y3 _).cons _).trans ?_;exact (Zem _ _).symm
  .rw[iH n hq];simp;omega
 |some v=>
  simp only[AQ];have hv:=pos _ (ZP hq);simp only at hv;by_cases O:v=n
  .subst O;rw[Ag (by simp),Ag (by simp),Ag (by omega),Pg hq];exact .inl ⟨_,_,rfl,rfl,nd,pos,rfl,by omega⟩
  .rw[Ao O,Ao ⟨hv,O⟩];exact .inr ⟨rfl,rfl⟩
def VB{s:AB}{a:Ah}(h: ∀x∈a.Tiles,Gc s x.Tile)(p:Ab):Bn (λx=>decide (x.At=p)) 0 a.Tiles<0↔Bu a p<0:=by
 simp only[Bu];rcases Px (λx=>decide (x.At=p)) a.Tiles 0 with ⟨z,G⟩|⟨i,x,z,G,O⟩
 .rw[z,G];simp
 .rw[z,G]
  have:=(h x (AY O)).1
  simp only[Ds,AQ];omega
def RM.put{t:List (Ab×Int)}{o:Ah}{k:Nat}(h:RM t o k){p:Ab}{v:Int}(hv:0<=v)(hn:B7 t p=none):RM (B3 t p v) (C7 o p v) (k+1):=by
 obtain⟨nd,pos,rfl,len⟩:=h;have G:((t++[(p,v)]).map Prod.fst).Nodup:=by
  rw[F9,US];refine⟨nd,by simp,?_⟩;intro a Z b hb O;simp only[Bd,GR,BE] at hb;exact Qyz hn (by rw[<-hb,<-O];exact Z)
 rw[iH v hn];refine⟨G,?_,?_,by simp;omega⟩
 .intro q z;rcases Br.1 z with z|z
  .exact pos q z
  .simp only[BE] at z;subst z;exact hv
 .rw[oI];congr 1;have Q:(((t++[(p,v)]).map Dy).map Ak.At).Nodup:=by rw[Vn];exact G
  refine pK Q ?_ (xV ⟨p,v⟩ _ (pN _));refine (pL ⟨p,v⟩ _).trans ?_;rw[F9];refine ((Y3 _).cons _).trans ?_;exact (Zem _ _).symm
def RM.at{t:List (Ab×Int)}{o:Ah}{k:Nat}(h:RM t o k):CA t=Bu o:=by
 funext p;rw[h.eq,Z0 h.nd];rfl
def RM.size{t:List (Ab×Int)}{o:Ah}{k:Nat}(h:RM t o k):o.Tiles.length=t.length:=by
 rw[h.eq];simp only[lG,FM]
def lF: ∀(l t:List Ak),((t++l).map Ak.At).Nodup->l.foldl (λu x=>B3 u x.At x.Tile) (t.map λx=>(x.At,x.Tile))=(t++l).map λx=>(x.At,x.Tile)
 |[],t,_=>by simp
 |x::r,t,h=>by
  have O:B7 (t.map λx=>(x.At,x.Tile)) x.At=none:=by
   cases hq:B7 (t.map λx=>(x.At,x.Tile)) x.At with
   |none=>rfl
   |some v=>
    exfalso;obtain⟨y,Q,G⟩:=Bm.1 (ZP hq);have z:y.At=x.At:=CL Prod.fst G;rw[F9,US] at h;exact h.2.2 _ (rR Q) _ (rR (BM ..)) z
  rw[jG,iH _ O]
  have:=lF r (t++[x]) (by simpa using h)
  simpa using this
def RM.of{a:Ah}(hf:BV none a.Tiles=true)(hp: ∀x∈a.Tiles,0<=x.Tile):RM (CJ a.Tiles) a a.Tiles.length:=by
 have hn:=Qix hf;have e:CJ a.Tiles=a.Tiles.map λx=>(x.At,x.Tile):=by
  have:=lF a.Tiles [] (by simpa using hn)
  simpa[CJ] using this
 have G:(a.Tiles.map λx=>(x.At,x.Tile)).map Dy=a.Tiles:=by
  rw[Q3];exact List.map_id' _
 rw[e];refine⟨by rw[Q3];exact hn,?_,?_,by simp⟩
 .intro q hq;obtain⟨x,hx,rfl⟩:=Bm.1 hq;exact hp x hx
 .rw[G];have Z:=(Y7 _ _ hf).2;have hw:a.Tiles.Pairwise (λx y=>Bf y.At x.At=false):=by
   rw[ZdF];intro i j O Q z
   have:=Z i j a.Tiles[i] a.Tiles[j] z (Bh O) (Bh Q)
   simp only[Bf] at this⊢
   grind
  rw[<-pK hn (dO _) hw]
def eqOption.fv(a:AJ×AJ):Bool:=(λa b=>decide (a=b)) (a.1) (a.2)
def eqOption.row:A7:=vK (b2 (qR AJ.d_le) (qR AJ.d_le)) rB (λa=>True) eqOption.fv
def eqOption.q:=AU (R:=eqOption.row) rfl
def eqOption.ok:AA Tryz.prog 57 eqOption.row:=by
 refine vw (tC eqPoint.ok tN) Tryz.func57 rfl (by kernel_rfl) ?_;intro a G;simp only[Tryz.f57];simp(disch:=omega)only[ZA,simprocAttr,eqOption.fv,eqPoint.q,eqPoint.fv];obtain⟨⟨⟨x,y⟩,u⟩,⟨⟨z,w⟩,v⟩⟩:=a;simp only[AJ.mk.injEq,Ab.mk.injEq]
 grind
def l03Own.fv(a:Ah):Ah:=(λa=>a) a
def l03Own.row:A7:=vK (b1 (qP 1 Ah.d_le)) (rA Ah.d_le) (λa=>a.Tiles.length<=1000000) l03Own.fv
def l03Own.q:=AU (R:=l03Own.row) rfl
def l03Own.ok:AA Tryz.prog 72 l03Own.row:=by
 refine vw tN Tryz.func72 rfl (by kernel_rfl) ?_;intro a z;simp only[Tryz.f72];simp(disch:=omega)only[ZA,simprocAttr,Ah.d,l03Own.fv];exact⟨by simp[BL,BC,D.one,Ak.c],by omega⟩
def QQ{s:Az}{b:Ah}(hs:s.Set.Tiles.length<=160)(Q:Hm s.Set b){o:AJ}(h:FP s b o=true):Hm s.Set (C7 b o.At o.Tile):=by
 simp only[FP,AS,Ch] at h;obtain⟨Z,O,d3,_⟩:=h;have G:=Qma d3;have hw:Bq o.Tile 0 159=true:=by
  simp only[Bq,AS,Ch] at O⊢;omega
 refine⟨?_,?_⟩
 .rw[oI];exact Qki Z hw _ none Q.1 (λq hq=>by cases hq) G
 .intro x z;rw[oI] at z;rcases (Qlc _ _ _ _).1 z with rfl|z
  .simp only[Bq,AS,Ch] at O;exact⟨by simp only;omega,by simp only;omega⟩
  .exact Q.2 x z
def Nb{s:Az}(h:Hl s=true):(Cu s.Set/\Hm s.Set s.Seed/\s.Set.Tiles.length<=160/\s.Seed.Tiles.length<=1000000)/\Fe s.Set=true/\FH s.Set s.Seed=true:=by
 simp only[Hl,AS] at h;obtain⟨z,G,_⟩:=h;have O:=Kz G;have Q:=Qge z;have Z:=z;simp only[Fe,Bq,AS,Ch] at Z;exact⟨⟨Q,O.1,by omega,by omega⟩,z,G⟩
def Qwf{A B:Type}(f:A->B): ∀(l:List A) (i:Nat),(l.map f).eraseIdx i=(l.eraseIdx i).map f
 |[],_=>rfl
 |_::_,0=>rfl
 |x::r,i+1=>by simp only[Bd,iX,Qwf f r i]
def Qqq{A:Type}: ∀(l:List A) (i:Nat) (x:A),l[i]? =some x->(x::l.eraseIdx i).Perm l
 |[],i,x,h=>by simp at h
 |y::r,0,x,h=>by
  simp only[GL,AI] at h;subst h;exact dO _
 |y::r,i+1,x,h=>by
  rw[Jd] at h;rw[iX];exact (List.Perm.swap y x _).trans ((Qqq r i x h).cons y)
def GD(c:BZ)(p:Ab)(t:Int):BZ:=⟨c.Sys,B3 c.Tl p t,G2 c.Sys (CA (B3 c.Tl p t)) (DL c.Op p) p 4⟩
def XC{s:AB}{t:List (Ab×Int)}{p:Ab}{v:Int}(h:Zw s (CA t))(z:Gc s v):Zw s (CA (B3 t p v)):=by
 intro q hq;simp only[CA,iT] at hq⊢;by_cases c:q=p
 .rw[Ao c];exact z
 .rw[Ag c] at hq⊢;exact h q hq
def putC.ca(a:BZ×Ab×Int):List AV:=[.ptr 0 0,.im (.agg [.int .i64 a.2.1.X,.int .i64 a.2.1.Y]),.im (.int .i64 a.2.2)]
def putC.H1(a:BZ×Ab×Int):Ap:=[(1,(true,.map ⟨true,[.int .i64,.int .i64]⟩ ((GD a.1 a.2.1 a.2.2).Tl.map Et))),(2,(true,.map ⟨true,[.int .i64,.int .i64]⟩ ((GD a.1 a.2.1 a.2.2).Op.map CO)))]
def DF(j:Nat):Bool:=j==1||j==2
def putC.row:A7:=AF putC.ca (λa=>BN a.1) 3 (λa=>JJ a.1/\HB a.2.1/\Gc a.1.Sys.Set a.2.2) DF (λ_=> .im (.tup [])) putC.H1 0
def putC.ok:AA Tryz.prog 156 putC.row:=by
 refine ow (tC lookC.ok tN) Tryz.func156 rfl (by kernel_rfl) (exB:=λ_=>false) (R:=λ_ r=>r= .im (.tup [])) (λ_=>rfl)
  (λa=>by simp[putC.ca,BN,Cs,Av,AV.bel,Ac,A9,BK,Ad.nms,AC,AV.nms,Am,hget]) (λa p hp=> ?_) (λa r h=>by subst h;exact C8.refl _) ?_
 rotate_left
 intro a G;simp only[Tryz.f156,putC.ca,BN,Cs,putC.H1];simp(disch:=omega)only[ZA,simprocAttr];obtain⟨z,O,Q⟩:=G;rw[Ux,Rh];have hq:JJ ⟨a.1.Sys,B3 a.1.Tl a.2.1 a.2.2,DL a.1.Op a.2.1⟩:=⟨z.1,XC z.2.1 Q,z.2.2⟩;refine AF.os (⟨a.1.Sys,B3 a.1.Tl a.2.1 a.2.2,DL a.1.Op a.2.1⟩,a.2.1) [0,1,2] ⟨hq,O⟩ (λj=>Jv _ j) rfl rfl ?_ ?_
 .simp(disch:=omega)only[ZA,simprocAttr,D5,BN,Cs,lookC.ca,BN,Cs]
 .simp(disch:=omega)only[ZA,simprocAttr,D5,DF,lookC.H1,tA,GD]
 simp[putC.H1] at hp;rcases hp with rfl|rfl
 .exact .inl ⟨by omega,rfl,rfl⟩
 .exact .inl ⟨by omega,rfl,rfl⟩
def asmC.ca(_:BZ):List AV:=[.ptr 0 0]
def klA(j:Nat):Bool:=j==1
def NB{t:List (Ab×Int)}{l:List Ak}(hd:(t.map Prod.fst).Nodup)(h:l.Perm (t.map Dy)):Fg l=Fg (t.map Dy)/\(l.map Ak.At).Nodup/\l.length=t.length:=by
 have z:((t.map Dy).map Ak.At).Nodup:=by rw[Vn];exact hd
 refine⟨pK z ((Y3 l).trans h) (pN l),(h.map Ak.At).nodup_iff.2 z,by rw[h.length_eq,FM]⟩
def W5(t:List (Ab×Int)):Ah:=⟨Fg (t.map Dy)⟩
end Go.Ae
namespace Go.Ae
end Go.Ae
namespace Go.Ae
open Go.Proofs
def lJ{s:Az}{b:Ah}{o:AJ}(h:FP s b o=true):EP o.At=true/\HB o.At/\0<=o.Tile/\o.Tile<s.Set.Tiles.length/\Gc s.Set o.Tile/\(∀x∈b.Tiles,x.At≠o.At):=by
 simp only[FP,AS,Ch] at h;obtain⟨G,z,O,_⟩:=h;simp only[Bq,AS,Ch] at z;exact⟨G,oW G,z.1,by omega,⟨z.1,by omega⟩,Qma O⟩
def Fv{A:Type}(l:List A):Option (List A):=if l=[] then none else some l
abbrev DR(s:Az)(f:Ab->Int)(q:Ab):List Int:=FK s f q s.Set.Tiles.length
def MP(s:Az)(f:Ab->Int)(op:List (Ab×List Int)):Prop:=(op.map Prod.fst).Nodup/\ ∀q,B7 op q=Fv (DR s f q)
def V2{s:Az}{f:Ab->Int}{q:Ab}(h: ∀k:Int,Nt s f q k=false): ∀n,FK s f q n=[]
 |0=>rfl
 |n+1=>by simp only[FK,V2 h n,h,GM];rfl
def mW{s:Az}{f:Ab->Int}{q:Ab}(h:0<=f q)(n:Nat):FK s f q n=[]:=
 V2 (λk=>by simp only[Nt];rw[dN (show ¬f q<0 by omega)];simp) n
def mG{s:AB}{f:Ab->Int}{q:Ab}{t:Int}(h: ∀d:Nat,d<4->f (Co q d)<0): ∀k,k<=4->EL s f q t k=0
 |0,_=>rfl
 |k+1,z=>by
  have:=h k (by omega)
  simp only[EL,mG h k (by omega),P6];rw[Ag (by omega)];rfl
def mF{s:Az}{f:Ab->Int}{q:Ab}(z:1<=s.Temperature)(h: ∀d:Nat,d<4->f (Co q d)<0)(n:Nat):FK s f q n=[]:=
 V2 (λk=>by simp only[Nt,mG h 4 (AN _)];rw[dN (show ¬s.Temperature<=0 by omega)];simp) n
def mT{s:AB}{f g:Ab->Int}{q:Ab}{t:Int}(h: ∀d:Nat,d<4->f (Co q d)=g (Co q d)): ∀k,k<=4->EL s f q t k=EL s g q t k
 |0,_=>rfl
 |k+1,z=>by simp only[EL,mT h k (by omega),P6,h k (by omega)]
def mS{s:Az}{f g:Ab->Int}{q:Ab}(h0:f q=g q)(h: ∀d:Nat,d<4->f (Co q d)=g (Co q d)): ∀n,FK s f q n=FK s g q n
 |0=>rfl
 |n+1=>by
  have e:Nt s f q n=Nt s g q n:=by simp only[Nt,h0,mT h 4 (AN _)]
  simp only[FK,mS h0 h n,e]
def JU{β:Type}{p:Ab}: ∀{l:List (Ab×β)},p∉l.map Prod.fst->B7 l p=none
 |[],_=>rfl
 |(k,v)::r,h=>by
  simp only[Bd,Bi,Zl] at h;simp only[B7];rw[Ag h.1,JU h.2]
def mD{β:Type}{p:Ab}: ∀{l:List (Ab×β)},p∈l.map Prod.fst-> ∃v,B7 l p=some v/\(p,v)∈l
 |[],h=>by simp at h
 |(k,v)::r,h=>by
  simp only[B7];by_cases c:p=k
  .rw[Ao c,c];exact⟨v,rfl,BM ..⟩
  .rw[Ag c];obtain⟨w,z,G⟩:=mD (l:=r) (by simpa[c] using h);exact⟨w,z,BR _ G⟩
def eQ{β:Type}{p:Ab}{l:List (Ab×β)}:p∈l.map Prod.fst↔B7 l p≠none:=by
 constructor
 .intro h;obtain⟨v,z,_⟩:=mD h;rw[z];simp
 .intro h;apply dD;intro G;exact h (JU G)
def mB{β:Type}{p q:Ab}: ∀{l:List (Ab×β)},q∈(DL l p).map Prod.fst->q∈l.map Prod.fst
 |[],h=>by simp[DL] at h
 |(k,v)::r,h=>by
  simp only[DL] at h;split at h
  .exact BR _ h
  .simp only[Bd,Bi] at h⊢;rcases h with h|h
   .exact .inl h
   .exact .inr (mB h)
def aW{β:Type}{p:Ab}: ∀{l:List (Ab×β)},(l.map Prod.fst).Nodup->((DL l p).map Prod.fst).Nodup
 |[],h=>h
 |(k,v)::r,h=>by
  simp only[Bd,Ip] at h;simp only[DL];split
  .exact h.2
  .simp only[Bd,Ip];exact⟨λz=>h.1 (mB z),aW h.2⟩
def aU{β:Type}{p:Ab}(q:Ab): ∀{l:List (Ab×β)},(l.map Prod.fst).Nodup->B7 (DL l p) q=if q=p then none else B7 l q
 |[],_=>by simp[DL,B7]
 |(k,v)::r,h=>by
  simp only[Bd,Ip] at h;simp only[DL];by_cases c:p=k
  .rw[Ao c];by_cases e:q=p
   .rw[Ao e,e,c];exact JU h.1
   .rw[Ag e];simp only[B7];rw[Ag (λz=>e (z.trans c.symm))]
  .rw[Ag c];simp only[B7];by_cases e:q=k
   .rw[Ao e,Ao e,Ag (λz=>c (z.symm.trans e))]
   .rw[Ag e,Ag e,aU q h.2]
def ME{β:Type}{p q:Ab}{v:β}: ∀{l:List (Ab×β)},q∈(B3 l p v).map Prod.fst↔q=p\/q∈l.map Prod.fst
 |[]=>by simp[B3]
 |(k,w)::r=>by
  simp only[B3];split
  .rename_i c;subst c;simp
  .simp only[Bd,Bi,ME (l:=r)];constructor
   .rintro (h|h|h)
    .exact .inr (.inl h)
    .exact .inl h
    .exact .inr (.inr h)
   .rintro (h|h|h)
    .exact .inr (.inl h)
    .exact .inl h
    .exact .inr (.inr h)
def mC{β:Type}{p:Ab}{v:β}: ∀{l:List (Ab×β)},(l.map Prod.fst).Nodup->((B3 l p v).map Prod.fst).Nodup
 |[],_=>by simp[B3]
 |(k,w)::r,h=>by
  simp only[Bd,Ip] at h;simp only[B3];split
  .rename_i c;subst c;simp only[Bd,Ip];exact h
  .rename_i c;simp only[Bd,Ip];refine⟨λz=> ?_,mC h.2⟩;rcases ME.1 z with e|e
   .exact c e.symm
   .exact h.1 e
def Sk{s:Az}{f:Ab->Int}{op:List (Ab×List Int)}{q:Ab}(h:(op.map Prod.fst).Nodup):((J0 s f op q).map Prod.fst).Nodup:=by
 simp only[J0];split
 .exact aW h
 .exact mC h
def Sj{s:Az}{f:Ab->Int}{op:List (Ab×List Int)}{p:Ab}(h:(op.map Prod.fst).Nodup)(q:Ab):B7 (J0 s f op p) q=if q=p then Fv (DR s f q) else B7 op q:=by
 simp only[J0];by_cases c:FK s f p s.Set.Tiles.length=[]
 .rw[Ao c,aU q h];by_cases e:q=p
  .subst e;rw[Ao rfl,Ao rfl,Fv,Ao c]
  .rw[Ag e,Ag e]
 .rw[Ag c,iT];by_cases e:q=p
  .subst e;rw[Ao rfl,Ao rfl,Fv,Ag c]
  .rw[Ag e,Ag e]
def V9{s:Az}{f:Ab->Int}{op:List (Ab×List Int)}{p:Ab}(h:(op.map Prod.fst).Nodup): ∀k,((G2 s f op p k).map Prod.fst).Nodup
 |0=>h
 |k+1=>Sk (V9 h k)
def Jz(p q:Ab):Prop:= ∃d:Nat,d<4/\Co p d=q
def mM{s:Az}{f:Ab->Int}{op:List (Ab×List Int)}{p:Ab}(h:(op.map Prod.fst).Nodup)(q:Ab): ∀k,(∀d:Nat,d<k->Co p d≠q)/\B7 (G2 s f op p k) q=B7 op q\/(∃d:Nat,d<k/\Co p d=q)/\B7 (G2 s f op p k) q=Fv (DR s f q)
 |0=> .inl ⟨λd hd=>absurd hd (by omega),rfl⟩
 |k+1=>by
  have ih:=mM (s:=s) (f:=f) (p:=p) h q k;simp only[G2,Sj (V9 h k)];by_cases c:q=Co p k
  .rw[Ao c];exact .inr ⟨⟨k,by omega,c.symm⟩,rfl⟩
  .rw[Ag c];rcases ih with ⟨G,z⟩|⟨⟨d,G,z⟩,O⟩
   .refine .inl ⟨λd hd=> ?_,z⟩;by_cases e:d=k
    .subst e;exact λh=>c h.symm
    .exact G d (by omega)
   .exact .inr ⟨⟨d,by omega,z⟩,O⟩
def Z3{s:Az}{f:Ab->Int}{op:List (Ab×List Int)}{p:Ab}(h:(op.map Prod.fst).Nodup)(q:Ab):(¬Jz p q/\B7 (G2 s f op p 4) q=B7 op q)\/(Jz p q/\B7 (G2 s f op p 4) q=Fv (DR s f q)):=by
 rcases mM (s:=s) (f:=f) h q 4 with ⟨z,G⟩|h
 .exact .inl ⟨λ⟨d,hd,e⟩=>z d hd e,G⟩
 .exact .inr h
def OY(p:Ab){d:Nat}(h:d<4):Co (Co p d) ((d+2) % 4:Nat)=p:=by
 rcases (by omega:d=0\/d=1\/d=2\/d=3) with rfl|rfl|rfl|rfl<;>simp[Co]<;>omega
def aN{p q:Ab}(h:Jz p q):Jz q p:=by
 obtain⟨d,hd,rfl⟩:=h;exact⟨(d+2) % 4,by omega,OY p hd⟩
def aI{s:Az}{f:Ab->Int}(q:Ab): ∀(l:List Ak) (op:List (Ab×List Int)),(op.map Prod.fst).Nodup->
 ((l.foldl (λo x=>G2 s f o x.At 4) op).map Prod.fst).Nodup/\((∀x∈l,¬Jz x.At q)/\B7 (l.foldl (λo x=>G2 s f o x.At 4) op) q=B7 op q\/(∃x∈l,Jz x.At q)/\B7 (l.foldl (λo x=>G2 s f o x.At 4) op) q=Fv (DR s f q))
 |[],op,h=>⟨h,.inl ⟨by simp,rfl⟩⟩
 |x::r,op,h=>by
  simp only[jG];obtain⟨G,O⟩:=aI (s:=s) (f:=f) q r (G2 s f op x.At 4) (V9 h 4);refine⟨G,?_⟩;rcases O with ⟨a,b⟩|⟨⟨y,z,a⟩,b⟩
  .rcases Z3 (s:=s) (f:=f) (p:=x.At) h q with ⟨c,e⟩|⟨c,e⟩
   .refine .inl ⟨λy z=> ?_,b.trans e⟩;rcases Bi.1 z with rfl|z
    .exact c
    .exact a y z
   .exact .inr ⟨⟨x,BM ..,c⟩,b.trans e⟩
  .exact .inr ⟨⟨y,BR _ z,a⟩,b⟩
def Ys{l:List Ak}: ∀{q:Ab},0<=CA (CJ l) q-> ∃x∈l,x.At=q:=by
 have G: ∀(l:List Ak) (t:List (Ab×Int)) (q:Ab),B7 (l.foldl (λt x=>B3 t x.At x.Tile) t) q≠none->(∃x∈l,x.At=q)\/B7 t q≠none:=by
  intro l;induction l with
  |nil=>intro t q h;exact .inr h
  |cons x r ih=>
   intro t q h;rcases ih _ q h with ⟨y,O,e⟩|z
   .exact .inl ⟨y,BR _ O,e⟩
   .rw[iT] at z;split at z
    .rename_i e;exact .inl ⟨x,BM ..,e.symm⟩
    .exact .inr z
 intro q h;rcases G l [] q (λe=>by
  simp only[CA,CJ,e,Option.getD_none] at h;omega) with z|z
 .exact z
 .simp[B7] at z
def SI{s:Az}{l:List Ak}(O:1<=s.Temperature):MP s (CA (CJ l)) (Hz s (CA (CJ l)) l):=by
 have hn:(([]:List (Ab×List Int)).map Prod.fst).Nodup:=by simp
 refine⟨(aI ⟨0,0⟩ l [] hn).1,λq=> ?_⟩;rcases (aI (s:=s) (f:=CA (CJ l)) q l [] hn).2 with ⟨G,z⟩|⟨_,z⟩
 .rw[Hz,z]
  have:DR s (CA (CJ l)) q=[]:=by
   refine mF O (λd hd=> ?_) _;apply dD;intro h;obtain⟨x,Q,e⟩:=Ys (l:=l) (q:=Co q d) (by omega);exact G x Q (aN (e▸⟨d,hd,rfl⟩))
  rw[Fv,Ao this];rfl
 .exact z
def fJ{s:Az}{z:List (Ab×Int)}{op:List (Ab×List Int)}{p:Ab}{t:Int}(h:MP s (CA z) op)(ht:0<=t):
 MP s (CA (B3 z p t)) (G2 s (CA (B3 z p t)) (DL op p) p 4):=by
 have hn:=aW (p:=p) h.1;have G: ∀q,CA (B3 z p t) q=if q=p then t else CA z q:=λq=>by
  simp only[CA,iT];split<;>rfl
 refine⟨V9 hn 4,λq=> ?_⟩;rcases Z3 (s:=s) (f:=CA (B3 z p t)) (p:=p) hn q with ⟨Z,O⟩|⟨_,O⟩
 .rw[O,aU q h.1];by_cases e:q=p
  .rw[Ao e,Fv,Ao (mW (by rw[G,Ao e];exact ht) _)]
  .rw[Ag e,h.2 q]
   have:DR s (CA (B3 z p t)) q=DR s (CA z) q:=by
    refine mS (by rw[G,Ag e]) (λd hd=> ?_) _;rw[G,Ag];intro Q;exact Z (aN ⟨d,hd,Q⟩)
   rw[this]
 .exact O
def DE(p:Ab):List Ab->List Ab
 |[]=>[p]
 |y::r=>if Bf y p=true then y::DE p r else if y=p then y::r else p::y::r
def BQ(l:List Ab):List Ab:=l.foldr DE []
abbrev Jk(l:List Ab):Prop:=l.Pairwise λa b=>Bf a b=true
def V6{a b c:Ab}(z:Bf a b=true)(G:Bf b c=true):Bf a c=true:=by simp only[Bf] at*;grind
def lZ(a:Ab):Bf a a=false:=by simp[Bf]
def mE{a b:Ab}(Z:Bf a b=false)(h2:a≠b):Bf b a=true:=by
 obtain⟨G,O⟩:=a;obtain⟨Q,z⟩:=b;simp only[Bf,ne_eq,Ab.mk.injEq] at*
 grind
def V5{p q:Ab}: ∀{l:List Ab},q∈DE p l↔q=p\/q∈l
 |[]=>by simp[DE]
 |y::r=>by
  simp only[DE];split
  .simp only[Bi,V5 (l:=r)];constructor
   .rintro (h|h|h)
    .exact .inr (.inl h)
    .exact .inl h
    .exact .inr (.inr h)
   .rintro (h|h|h)
    .exact .inr (.inl h)
    .exact .inl h
    .exact .inr (.inr h)
  .split
   .rename_i c;subst c;simp
   .simp
def aK{p:Ab}: ∀{l:List Ab},Jk l->Jk (DE p l)
 |[],_=>by simp[DE]
 |y::r,h=>by
  rw[Jk,UR] at h;simp only[DE];split
  .rename_i c;rw[Jk,UR];refine⟨λz G=> ?_,aK h.2⟩;rcases V5.1 G with rfl|G
   .exact c
   .exact h.1 z G
  .rename_i c;split
   .rw[Jk,UR];exact h
   .rename_i e;have O:=mE (by simpa using c) e;rw[Jk,UR,UR];refine⟨λz G=> ?_,h⟩;rcases Bi.1 G with rfl|G
    .exact O
    .exact V6 O (h.1 z G)
def Ni: ∀(l:List Ab),Jk (BQ l)
 |[]=>List.Pairwise.nil
 |_::r=>aK (Ni r)
def J1{q:Ab}: ∀{l:List Ab},q∈BQ l↔q∈l
 |[]=>by simp[BQ]
 |x::r=>by
  have:BQ (x::r)=DE x (BQ r):=rfl
  rw[this,V5,J1 (l:=r),Bi]
def JW{l:List Ab}(h:Jk l):l.Nodup:=by
 refine Zez (λ{a b} z e=> ?_) h;rw[e,lZ] at z;cases z
def aP{l m:List Ab}(z:Jk l)(G:Jk m)(h: ∀q,q∈l↔q∈m):l=m:=by
 have hp:l.Perm m:=(Zen (JW z) (JW G)).2 h;refine ZeA (le:=λa b=>Bf a b=true) (λa b _ _ g1 g2=> ?_) z G hp
 have:=V6 g1 g2
 rw[lZ] at this;cases this
def D6(a:Ah)(p:Ab)(l:List Ab):Nat->List Ab
 |0=>l
 |k+1=>if EP (Co p k)=true/\Bu a (Co p k)<0 then DE (Co p k) (D6 a p l k) else D6 a p l k
def Cp(a:Ah):Nat->List Ab
 |0=>[]
 |i+1=>D6 a ((a.Tiles[i]?.map Ak.At).getD ⟨0,0⟩) (Cp a i) 4
def V4{a:Ah}{p:Ab}{l:List Ab}(h:Jk l): ∀k,Jk (D6 a p l k)
 |0=>h
 |k+1=>by
  simp only[D6];split
  .exact aK (V4 h k)
  .exact V4 h k
def aO(a:Ah): ∀i,Jk (Cp a i)
 |0=>List.Pairwise.nil
 |i+1=>V4 (aO a i) 4
def mI{a:Ah}{p q:Ab}{l:List Ab}: ∀k,q∈D6 a p l k↔q∈l\/(EP q=true/\Bu a q<0)/\ ∃d:Nat,d<k/\Co p d=q
 |0=>by simp[D6]
 |k+1=>by
  simp only[D6];have ih:=mI (a:=a) (p:=p) (q:=q) (l:=l) k;split
  .rename_i c;rw[V5,ih];constructor
   .rintro (rfl|h|⟨h,d,G,z⟩)
    .exact .inr ⟨c,k,by omega,rfl⟩
    .exact .inl h
    .exact .inr ⟨h,d,by omega,z⟩
   .rintro (h|⟨h,d,G,z⟩)
    .exact .inr (.inl h)
    .by_cases e:d=k
     .subst e;exact .inl z.symm
     .exact .inr (.inr ⟨h,d,by omega,z⟩)
  .rename_i c;rw[ih];constructor
   .rintro (h|⟨h,d,G,z⟩)
    .exact .inl h
    .exact .inr ⟨h,d,by omega,z⟩
   .rintro (h|⟨h,d,G,z⟩)
    .exact .inl h
    .by_cases e:d=k
     .subst e;subst z;exact absurd h c
     .exact .inr ⟨h,d,by omega,z⟩
def PT{a:Ah}{q:Ab}: ∀i,i<=a.Tiles.length->(q∈Cp a i↔(EP q=true/\Bu a q<0)/\ ∃x∈a.Tiles.take i,Jz x.At q)
 |0,_=>by simp[Cp]
 |i+1,Q=>by
  have O:a.Tiles[i]? =some (a.Tiles[i]'(by omega)):=Bh (by omega);simp only[Cp];rw[mI,PT i (by omega),YV O,O,Ds,AQ];constructor
  .rintro (⟨h,x,z,G⟩|⟨h,G⟩)
   .exact⟨h,x,JF _ z,G⟩
   .exact⟨h,_,Qw _ (BM ..),G⟩
  .rintro⟨h,x,z,G⟩;rcases Br.1 z with z|z
   .exact .inl ⟨h,x,z,G⟩
   .rw[BE] at z;subst z;exact .inr ⟨h,G⟩
def FN(s:Az)(f:Ab->Int)(q:Ab):Nat->List Int
 |0=>[]
 |k+1=>FN s f q k++(if s.Temperature<=EL s.Set f q k 4 then [(k:Int)] else [])
def VA(s:Az)(f:Ab->Int)(q:Ab): ∀k,(FN s f q k).length<=k
 |0=>by simp[FN]
 |k+1=>by
  have:=VA s f q k
  simp only[FN,Dn]
  split<;>simp<;>omega
def mO{s:Az}{f:Ab->Int}{q:Ab}(z:EP q=true)(G:f q<0): ∀n,FK s f q n=FN s f q n
 |0=>rfl
 |n+1=>by
  simp only[FK,FN,mO z G n,Nt,z,Zh G,CP,Ch]
def Of(p:Ab)(k:Int):AJ:=⟨p,k⟩
def Cq(g:Ab->List Int)(l:List Ab):List AJ:=l.flatMap λp=>(g p).map (Of p)
def Db(s:Az)(a:Ah):List AJ:=Cq (λp=>FN s (Bu a) p s.Set.Tiles.length) (Cp a a.Tiles.length)
def Gq(op:List (Ab×List Int)):List AJ:=Cq (λp=>(B7 op p).getD []) (BQ (op.map Prod.fst))
def mA{g:Ab->List Int}: ∀(l:List Ab),Cq g (l.filter λp=> !(g p).isEmpty)=Cq g l
 |[]=>rfl
 |p::r=>by
  have ih:=mA (g:=g) r;simp only[Cq] at ih;simp only[Cq,jE];split
  .simp only[Gj,ih]
  .rename_i c
   have:g p=[]:=by simpa using c
   simp only[Gj,ih,this,GR,GM]
def aH{g h:Ab->List Int}: ∀(l:List Ab),(∀p∈l,g p=h p)->Cq g l=Cq h l
 |[],_=>rfl
 |p::r,z=>by
  simp only[Cq,Gj];rw[z p (BM ..)]
  have:=aH r λq hq=>z q (BR _ hq)
  simp only[Cq] at this;rw[this]
def W6{a:Ah}{q:Ab}(h:0<=Bu a q): ∃x∈a.Tiles,x.At=q:=by
 simp only[Bu] at h;cases e:a.Tiles.find? (λx=>decide (x.At=q)) with
 |none=>rw[e] at h;simp at h
 |some x=>exact⟨x,rJ e,by simpa using Wx e⟩
def SK{s:Az}{a:Ah}{op:List (Ab×List Int)}(hT:1<=s.Temperature)(h:MP s (Bu a) op):Gq op=Db s a:=by
 have G: ∀q,DR s (Bu a) q≠[]->q∈Cp a a.Tiles.length:=λq hq=>by
  rw[PT _ (AN _),HJ];have h0:Bu a q<0:=by
   apply dD;intro c;exact hq (mW (by omega) _)
  have hp:EP q=true:=by
   apply dD;intro c;exact hq (V2 (λk=>by simp only[Nt];rw[N3] at c;rw[c];rfl) _)
  refine⟨⟨hp,h0⟩,?_⟩;apply dD;intro c;refine hq (mF hT (λd hd=> ?_) _);apply dD;intro c2;obtain⟨x,hx,e⟩:=W6 (a:=a) (q:=Co q d) (by omega);exact c ⟨x,hx,aN ⟨d,hd,e.symm⟩⟩
 have Q: ∀q∈Cp a a.Tiles.length,FN s (Bu a) q s.Set.Tiles.length=DR s (Bu a) q:=λq hq=>by
  rw[PT _ (AN _)] at hq;exact (mO hq.1.1 hq.1.2 _).symm
 have O: ∀q,(B7 op q).getD []=DR s (Bu a) q:=λq=>by
  rw[h.2 q,Fv];split
  .rename_i e;rw[e];rfl
  .rfl
 have Z:Db s a=Cq (DR s (Bu a)) (Cp a a.Tiles.length):=aH _ Q;have e2:Gq op=Cq (DR s (Bu a)) (BQ (op.map Prod.fst)):=aH _ λq _=>O q
 rw[Z,e2,<-mA (Cp a a.Tiles.length)];congr 1;refine aP (Ni _) ((aO a _).filter _) (λq=> ?_);rw[J1,eQ,h.2 q,Fv,KD];constructor
 .intro hq;have z:DR s (Bu a) q≠[]:=λe=>hq (Ao e)
  exact⟨G q z,by simpa using z⟩
 .rintro⟨_,hq⟩;have z:DR s (Bu a) q≠[]:=by simpa using hq
  rw[Ag z];simp
def Eo(p:Ab)(l:List Ab):Nat:=(l.takeWhile λy=>Bf y p).length
def mN(p:Ab): ∀(l:List Ab),DE p l=if l[Eo p l]? =some p then l else l.take (Eo p l)++p::l.drop (Eo p l)
 |[]=>by simp[DE,Eo]
 |y::r=>by
  have ih:=mN p r;simp only[DE];by_cases c:Bf y p=true
  .have e:Eo p (y::r)=Eo p r+1:=by simp[Eo,c]
   rw[Ao c,ih,e,Jd];split
   .rfl
   .simp
  .have e:Eo p (y::r)=0:=by simp[Eo,c]
   rw[Ag c,e];simp
def LY{p:Ab}: ∀{l:List Ab} {k:Nat},Jk l->k<=l.length->(∀(i:Nat) (y:Ab),k<=i->l[i]? =some y->Bf y p=false)->(∀y,k≠0->l[k - 1]? =some y->Bf y p=true)->Eo p l=k
 |[],k,_,G,_,_=>by simp at G;simp[Eo,G]
 |y::r,0,_,_,O,_=>by
  have:=O 0 y (AN _) rfl
  simp[Eo,this]
 |y::r,k+1,Z,G,O,Q=>by
  rw[Jk,UR] at Z;have hy:Bf y p=true:=by
   cases k with
   |zero=>exact Q y (by omega) rfl
   |succ k=>
    have aa:k+1<(y::r).length:=by simp at G⊢;omega
    have h3:=Q _ (by omega) (Bh (l:=y::r) (i:=k+1) aa);refine V6 (Z.1 _ ?_) h3;simp
  have ih:=LY (p:=p) (l:=r) (k:=k) Z.2 (by simpa using G) (λi z hi hz=>O (i+1) z (by omega) (by simpa using hz)) (λz ab hz=>Q z (by omega) (by
   obtain⟨m,rfl⟩: ∃m,k=m+1:=⟨k - 1,by omega⟩;simpa using hz))
  simp only[Eo] at ih;simp[Eo,hy,ih]
def Mr(p:Ab)(l:List Ab)(i:Nat):List Ab:=(l++[p]).take (i+1)++l.drop i
def aL{p:Ab}{l:List Ab}{i:Nat}(h:i<=l.length):(Mr p l i).length=l.length+1:=by simp[Mr];omega
def XS(p:Ab)(l:List Ab):Mr p l l.length=l++[p]:=by simp[Mr,DB]
def TL{p x:Ab}{l:List Ab}{i:Nat}(h:i+1<=l.length)(Z:(Mr p l (i+1))[i]? =some x):(Mr p l (i+1)).set (i+1) x=Mr p l i:=by
 have z:l[i]? =some x:=by
  rw[<-Z,Mr,E7 (by simp;omega),YZ,Ao (by omega),E7 (by omega)]
 apply JE;intro j;have Q:((l++[p]).take (i+1+1)).length=i+2:=by simp;omega
 have G:((l++[p]).take (i+1)).length=i+1:=by simp;omega
 by_cases c:j=i+1
 .subst c;rw[Da (by rw[aL h];omega),Mr,Fo (by omega),G,GS,HN,N2,z]
 .rw[D4 (E9 c)];simp only[Mr];by_cases O:j<i+1
  .rw[E7 (by omega),E7 (by omega),YZ,YZ,Ao (by omega),Ao O]
  .rw[Fo (by omega),Fo (by omega),Q,G,HN,HN];congr 1;omega
def XT{p:Ab}{l:List Ab}{k:Nat}(h:k<=l.length):(Mr p l k).set k p=l.take k++p::l.drop k:=by
 apply JE;intro j;have O:((l++[p]).take (k+1)).length=k+1:=by simp;omega
 have z:(l.take k).length=k:=by simp;omega
 by_cases c:j=k
 .subst c;rw[Da (by rw[aL h];omega),Fo (by omega),z,GS];simp
 .rw[D4 (E9 c)];simp only[Mr];by_cases G:j<k
  .rw[E7 (by omega),E7 (by omega),YZ,YZ,Ao (by omega),Ao G,E7 (by omega)]
  .obtain⟨m,rfl⟩: ∃m,j=k+1+m:=⟨j - (k+1),by omega⟩;rw[Fo (by omega),Fo (by omega),O,z,HN,show k+1+m - k=m+1 by omega,Jd,HN];congr 1;omega
def Ke{p q:Ab}:((p.X==q.X)=true/\(p.Y==q.Y)=true)↔p=q:=by
 obtain⟨z,G⟩:=p;obtain⟨O,Q⟩:=q;simp
def putQ.ca(a:List Ab×Ab):List AV:=[.own 0,.im (.agg [.int .i64 a.2.X,.int .i64 a.2.Y])]
def putQ.H0(a:List Ab×Ab):Ap:=[(0,(true,.arr 96 2 (a.1.map Ab.c)))]
def putQ.H1(a:List Ab×Ab):Ap:=[(1,(true,.arr 96 2 ((DE a.2 a.1).map Ab.c)))]
def sZ(j:Nat):Bool:=j==0
def putQ.row:A7:=AF putQ.ca putQ.H0 1 (λa=>Jk a.1/\a.1.length<=1000000) sZ (λ_=> .own 1) putQ.H1 1
def putQ.ok:AA Tryz.prog 189 putQ.row:=by
 refine SR (tC l_LessPoint.ok tN) Tryz.func189 rfl (by kernel_rfl) (exB:=λj=>j==1) (R:=λ_ r=>r= .own 1) (λ_=>rfl)
  (λa=>by simp[putQ.ca,putQ.H0,Av,AV.bel,Ac,A9,BK,Ad.nms,Am,hget]) (λa p hp=> ?_) (λa r h=>by subst h;exact C8.refl _) ?_
 rotate_left
 intro a af;simp only[Tryz.f189,putQ.ca,putQ.H0,putQ.H1];simp(disch:=omega)only[ZA,simprocAttr];rotate_left
 .simp[putQ.H1] at hp;subst hp;exact .inr ⟨by omega,by omega,rfl,rfl⟩
 obtain⟨l,p⟩:=a;obtain⟨hl,hn⟩:=af;simp only at hl hn⊢;intro _;refine AR.old ⟨{k:Nat//k<=l.length/\ ∀(i:Nat) (y:Ab),k<=i->l[i]? =some y->Bf y p=false},λk=>⟨[(5,.im (.int .i64 k.1)),(3,.ptr 1 0),(0,.own 0)],[(1,(true,.cells 96 [.im (.int .i64 p.X),.im (.int .i64 p.Y)])),(0,(true,.arr 96 2 (l.map Ab.c)))],3⟩,λk=>k.1,λk=>⟨by simp[Aj.good,An,Ac,A9,AV.bel,Av],by simp⟩,⟨⟨l.length,AN _,λi y hi Z=>by rw[F7 hi] at Z;cases Z⟩,by simp(disch:=omega)only[ZA,simprocAttr,sub]⟩,λk=> ?_⟩;obtain⟨k,hk,ac⟩:=k;simp(disch:=omega)only[ZA,simprocAttr,l_LessPoint.q,l_LessPoint.fv,F3,D5,sub,AP];have Q:0<k->IntKind.i64.wrap ((k:Int) - 1)=((k - 1:Nat):Int):=λh=>by rw[AG (by omega) (by omega)];omega
 refine⟨λab=>⟨by rw[Q (by omega)];omega,by rw[Q (by omega)];omega,by rw[Q (by omega)];omega,λx hx=>⟨λaa=> ?r,λaa=>⟨λO=>⟨O,O,λy Z=>⟨λe=> ?a1,λe=> ?b1⟩⟩,λO=> ?b2⟩⟩⟩,λab=>⟨λO=>⟨O,O,λy Z=>⟨λe=> ?a2,λe=> ?b3⟩⟩,λO=> ?b4⟩⟩
 case r=>
  rw[Q (by omega),Bt] at hx;refine⟨⟨k - 1,by omega,λi y hi Z=> ?_⟩,by simp only;omega,by rw[Q (by omega)]⟩;by_cases c:i=k - 1
  .subst c;obtain rfl:=AE (hx.symm.trans Z);exact aa
  .exact ac i y (by omega) Z
 all_goals
  have ad:Eo p l=k:=LY hl hk ac (λy aq Z=>by
   first
    |(rw[Q (by omega),Bt] at hx;obtain rfl:=AE (hx.symm.trans Z);simpa using aa)
    |(exact absurd (by omega) ab))
  have G:=mN p l;rw[ad] at G
 case a1=>
  have ey:y=p:=Ke.1 e;rw[Z,ey,Ao rfl] at G;refine⟨[],[(1,some 0)],⟨[(4,.own 1)],putQ.H1 (l,p),2⟩,?_,by simp[putQ.H1,Aj.good,An,Ac,A9,AV.bel],by simp,?_⟩
  .simp only[A8,putQ.H1,G];simp(disch:=omega)only[ZA,simprocAttr]
  .simp(disch:=omega)only[ZA,simprocAttr,putQ.H1,sZ,putQ.H1]
 case a2=>
  have ey:y=p:=Ke.1 e;rw[Z,ey,Ao rfl] at G;refine⟨[],[(1,some 0)],⟨[(4,.own 1)],putQ.H1 (l,p),2⟩,?_,by simp[putQ.H1,Aj.good,An,Ac,A9,AV.bel],by simp,?_⟩
  .simp only[A8,putQ.H1,G];simp(disch:=omega)only[ZA,simprocAttr]
  .simp(disch:=omega)only[ZA,simprocAttr,putQ.H1,sZ,putQ.H1]
 all_goals
  have am:l[k]? ≠some p:=λh=>by
   first
    |(obtain rfl:=AE (Z.symm.trans h);exact e (Ke.2 rfl))
    |(rw[F7 (by omega)] at h;cases h)
  rw[Ag am] at G;have ah:l.map Ab.c++[[D.int .i64 p.X,D.int .i64 p.Y]]=(l++[p]).map Ab.c:=by rw[F9];rfl
  rw[ah];refine⟨by omega,λ_=> ?_⟩;refine AR.old ⟨{i:Nat//k<=i/\i<=l.length},λi=>⟨[(6,.im (.int .i64 i.1)),(5,.im (.int .i64 k)),(0,.own 4),(3,.ptr 1 0)],[(4,(true,.arr 96 2 ((Mr p l i.1).map Ab.c))),(1,(true,.cells 96 [.im (.int .i64 p.X),.im (.int .i64 p.Y)]))],5⟩,λi=>i.1,λi=>⟨by simp[Aj.good,An,Ac,A9,AV.bel,Av],by simp⟩,⟨⟨l.length,hk,AN _⟩,?_⟩,λi=> ?_⟩
  .simp(disch:=omega)only[ZA,simprocAttr,sub,XS];rw[Dn,ZdX,AG (by omega) (by omega)];omega
  obtain⟨i,au,ai⟩:=i;have ao:=aL (p:=p) ai;simp(disch:=omega)only[ZA,simprocAttr,F3,sub,AP,ao];refine⟨λak=> ?_,λak=>⟨by omega,by omega,λx hx=> ?_⟩⟩
  .have aj:IntKind.i64.wrap ((i:Int) - 1)=((i - 1:Nat):Int):=by rw[AG (by omega) (by omega)];omega
   rw[aj,Bt];refine⟨by omega,by omega,by omega,λx hx=>⟨by omega,by omega,λz hz=>⟨⟨i - 1,by omega,by omega⟩,by simp only;omega,rfl,?_⟩⟩⟩;have ag:=TL (p:=p) (x:=x) (l:=l) (i:=i - 1) (by omega) (by rwa [show i - 1+1=i by omega]);rw[show i - 1+1=i by omega] at ag;rw[<-ag,JG];rfl
  .obtain rfl:i=k:=by omega
   have an:((Mr p l i).map Ab.c).set i [D.int .i64 p.X,D.int .i64 p.Y]=(DE p l).map Ab.c:=by
    rw[G,<-XT hk,JG];rfl
   refine⟨[],[(1,some 4)],⟨[(4,.own 1)],putQ.H1 (l,p),2⟩,?_,by simp[putQ.H1,Aj.good,An,Ac,A9,AV.bel],by simp,?_⟩
   .simp only[A8,putQ.H1,an];simp(disch:=omega)only[ZA,simprocAttr]
   .simp(disch:=omega)only[ZA,simprocAttr,putQ.H1,sZ,putQ.H1]
def SZ(a:List Ab×Ab)(j:Nat):Am (putQ.H0 a) j=true↔j<1:=by
 simp only[Am,putQ.H0,hget];by_cases z:j=0
 .subst z;simp
 .have:(0==j)=false:=by simpa using λh=>z h.symm
  rw[this];simp;omega
def mP(p:Ab): ∀(l:List Ab),(DE p l).length<=l.length+1
 |[]=>by simp[DE]
 |y::r=>by
  have:=mP p r
  simp only[DE];split
  .simp only[CY];omega
  .split<;>simp
def aM(a:Ah)(p:Ab)(l:List Ab): ∀k,(D6 a p l k).length<=l.length+k
 |0=>by simp[D6]
 |k+1=>by
  have:=aM a p l k
  simp only[D6];split
  .have:=mP (Co p k) (D6 a p l k);omega
  .omega
def V3(a:Ah): ∀i,(Cp a i).length<=4*i
 |0=>by simp[Cp]
 |i+1=>by
  have:=V3 a i
  have:=aM a ((a.Tiles[i]?.map Ak.At).getD ⟨0,0⟩) (Cp a i) 4
  simp only[Cp];omega
def nearS_.fv(a:Ah):List Ab:=(λa=>Cp a a.Tiles.length) a
def nearS_.row:A7:=vK (b1 (qP 1 Ah.d_le)) (rS Ab.d_le Ab.c_n) (λa=>BV none a.Tiles=true/\a.Tiles.length<=1000/\ ∃s,∀x∈a.Tiles,Gc s x.Tile) nearS_.fv
def nearS_.q:=AU (R:=nearS_.row) rfl
def nearS_.ok:AA Tryz.prog 142 nearS_.row:=by
 refine vw (tC l01Step.ok (tC l01Point.ok (tC l03Index.ok (tC putQ.ok tN)))) Tryz.func142 rfl (by kernel_rfl) ?_;intro a Z;simp only[Tryz.f142];simp(disch:=omega)only[ZA,simprocAttr,nearS_.fv];obtain⟨h1,h2,s0,h3⟩:=Z;refine AR.ren ⟨{i:Nat//i<=a.Tiles.length},λi=>⟨[(4,.im (.int .i64 i.1)),(3,.own 3),(0,.ptr 0 0)],[(3,(true,.arr 96 2 ((Cp a i.1).map Ab.c))),(0,(false,.view (Ah.c a)))],4⟩,λi=>a.Tiles.length - i.1,λi=>⟨by simp[Aj.good,An,Ac,A9,AV.bel],by simp⟩,⟨⟨0,CF _⟩,[(3,some 2)],?_⟩,λi=> ?_⟩
 .simp only[A8];simp(disch:=omega)only[ZA,simprocAttr,Bz,Cp]
  try simp
 obtain⟨i,hi⟩:=i;simp(disch:=omega)only[ZA,simprocAttr,AP];intro _;refine⟨λz=> ?_,λz=> ?_⟩;rotate_left
 .obtain rfl:i=a.Tiles.length:=by omega
  rfl
 obtain⟨x,hx⟩: ∃x,a.Tiles[i]? =some x:=⟨_,Bh z⟩;have af:=(uV _ _ h1 x (AY hx)).1;have e1:Cp a (i+1)=D6 a x.At (Cp a i) 4:=by simp only[Cp,hx];rfl
 have ag:=V3 a i;have ac:=aO a i;refine AR.ren ⟨{d:Nat//d<=4},λd=>⟨[(5,.im (.int .i64 d.1)),(4,.im (.int .i64 i)),(3,.own 4),(0,.ptr 0 0)],[(4,(true,.arr 96 2 ((D6 a x.At (Cp a i) d.1).map Ab.c))),(0,(false,.view (Ah.c a)))],5⟩,λd=>4 - d.1,λd=>⟨by simp[Aj.good,An,Ac,A9,AV.bel],by simp⟩,⟨⟨0,CF _⟩,[(4,some 3)],?_⟩,λd=> ?_⟩
 .simp only[A8];simp(disch:=omega)only[ZA,simprocAttr,Bz,D6]
  try simp
 obtain⟨d,hd⟩:=d;have ah:=aM a x.At (Cp a i) d;have ad:=V4 (a:=a) (p:=x.At) ac d;simp(disch:=omega)only[ZA,simprocAttr,Ah.d,l01Step.q,l01Step.fv,l01Point.q,l01Point.fv,l03Index.q,l03Index.fv,AP];have Q:IntKind.i64.wrap ((d:Int)+1)=((d+1:Nat):Int):=by rw[AG (by omega) (by omega)];omega
 refine⟨λab=>⟨z,λy hy=> ?_⟩,λab=> ?_⟩;rotate_left
 .obtain rfl:d=4:=by omega
  refine⟨⟨i+1,by omega⟩,[(3,some 4)],by simp only;omega,?_⟩;simp only[A8];simp(disch:=omega)only[ZA,simprocAttr,Bz,e1];rw[AG (by omega) (by omega)];rfl
 obtain rfl:=AE (hx.symm.trans hy);refine⟨⟨oW af,by omega⟩,λO=>⟨h1,λG=> ?_,λG=> ?_⟩,λO=> ?_⟩
 .have aa:=(VB h3 (Co x.At d)).1 G;refine AF.os (D6 a x.At (Cp a i) d,Co x.At d) [4] ⟨ad,by simp only;omega⟩ (SZ _) rfl rfl ?_ ?_
  .simp(disch:=omega)only[ZA,simprocAttr,putQ.ca,putQ.H0,D3,Eh]
  simp(disch:=omega)only[ZA,simprocAttr,putQ.H1,sZ];refine⟨⟨d+1,by omega⟩,[(4,some 6)],by simp only;omega,?_⟩;simp only[A8];simp(disch:=omega)only[ZA,simprocAttr,Bz,D6];rw[Ao ⟨O,aa⟩];exact⟨Q,rfl⟩
 all_goals
  refine⟨⟨d+1,by omega⟩,[(4,some 4)],by simp only;omega,?_⟩;simp only[A8];simp(disch:=omega)only[ZA,simprocAttr,Bz,D6];refine⟨Q,?_⟩;rw[Ag];rintro⟨g1,g2⟩
  first
   |exact G ((VB h3 _).2 g2)
   |exact O g1
def RB(s:AB)(a:Ah)(p:Ab):Nat->List Int
 |0=>[]
 |k+1=>RB s a p k++[if Bu a (Co p k)<0 then 0 else JB s (Bu a (Co p k)) (((k:Int)+2) % 4)]
def Nh(s:AB)(a:Ah)(p:Ab): ∀k,(RB s a p k).length=k
 |0=>rfl
 |k+1=>by simp[RB,Nh s a p k]
def aJ{s:AB}{a:Ah}{p:Ab}: ∀{n k:Nat},k<n->(RB s a p n)[k]? =some (if Bu a (Co p k)<0 then 0 else JB s (Bu a (Co p k)) (((k:Int)+2) % 4))
 |0,k,h=>by omega
 |n+1,k,h=>by
  simp only[RB];by_cases c:k<n
  .rw[E7 (by rw[Nh];exact c),aJ c]
  .obtain rfl:k=n:=by omega
   rw[Fo (by rw[Nh];omega),Nh,GS];rfl
def Yl{s:AB}{a:Ah}{p:Ab}{i:Int}{k:Nat}{g:Int}(z:g=if Bu a (Co p k)<0 then 0 else JB s (Bu a (Co p k)) (((k:Int)+2) % 4)):(if JB s i k=g then Pu s g else 0)=P6 s (Bu a) p i k:=by
 simp only[P6,K3];by_cases c:Bu a (Co p k)<0
 .rw[Ao c] at z;subst z;rw[Ag (show ¬0<=Bu a (Co p k) by omega),Ln (by omega)]
  split<;>rfl
 .rw[Ag c] at z;rw[Ao (show 0<=Bu a (Co p k) by omega),<-z];split
  .rename_i e;rw[e]
  .rfl
def fV{s:AB}(h:Cu s){t:Int}{d:Int}:0<=JB s t d/\JB s t d<=s.Glues.length:=by
 simp only[JB];cases e:s.Tiles[t.toNat]? with
 |none=>simp
 |some x=>
  simp only[Ds,AQ];cases e2:x.Sides[d.toNat]? with
  |none=>simp
  |some g=>
   simp only[AQ];exact (h.2.1 x (AY e)).2 g (AY e2)
def atQ_.fv(a:AB×Ah×Ab×Int):List Int:=(λs a p t=>FN ⟨s,a,t⟩ (Bu a) p s.Tiles.length) (a.1) (a.2.1) (a.2.2.1) (a.2.2.2)
def atQ_.row:A7:=vK (b4 (qP 2 AB.d_le) (qP 1 Ah.d_le) (qR Ab.d_le) qI) (rS DU Dc) (λa=>Cu a.1/\Hm a.1 a.2.1/\HB a.2.2.1/\a.1.Tiles.length<=1000000) atQ_.fv
def atQ_.q:=AU (R:=atQ_.row) rfl
def atQ_.ok:AA Tryz.prog 122 atQ_.row:=by
 refine vw (tC l01Step.ok (tC l03At.ok (tC Opposite_.ok (tC l02Strength.ok tN)))) Tryz.func122 rfl (by kernel_rfl) ?_;intro a af;simp only[Tryz.f122];simp(disch:=omega)only[ZA,simprocAttr,atQ_.fv];obtain⟨s,a,p,t⟩:=a;obtain⟨Q,h2,h3,h4⟩:=af;simp only at Q h2 h3 h4⊢;refine AR.ren ⟨{d:Nat//d<=4},λd=>⟨[(10,.im (.int .i64 d.1)),(9,.own 5),(6,.ptr 2 0),(0,.ptr 0 0),(1,.ptr 1 0),(3,.im (.int .i64 t))],[(5,(true,.arr 2 1 ((RB s a p d.1).map Al))),(2,(true,.cells 96 [.im (.int .i64 p.X),.im (.int .i64 p.Y)])),(0,(false,.view (AB.c s))),(1,(false,.view (Ah.c a)))],6⟩,λd=>4 - d.1,λd=>⟨by simp[Aj.good,An,Ac,A9,AV.bel,Av],by simp⟩,⟨⟨0,CF _⟩,[(5,some 4)],?_⟩,λd=> ?_⟩
 .simp only[A8];simp(disch:=omega)only[ZA,simprocAttr,Bz,RB]
  try simp
 obtain⟨d,hd⟩:=d;have ak:=Nh s a p d;simp(disch:=omega)only[ZA,simprocAttr,Ah.d,l01Step.q,l01Step.fv,l03At.q,l03At.fv,Opposite_.q,Opposite_.fv,AP,Nf,Na,BC,D.one];have Z:IntKind.i64.wrap ((d:Int)+1)=((d+1:Nat):Int):=by rw[AG (by omega) (by omega)];omega
 refine⟨λaa=>⟨⟨h3,by omega⟩,h2.1,λhn=>⟨by omega,⟨d+1,by omega⟩,[(5,some 7)],by simp only;omega,?_⟩,λhn=> ?_⟩,λaa=> ?_⟩
 .simp only[A8];simp(disch:=omega)only[ZA,simprocAttr,Bz,RB];rw[Ao hn];refine⟨Z,by simp[Al]⟩
 .obtain⟨b1,b2⟩:=QD h2 (Co p d) (by omega);refine⟨b1,b2,λx hx=>⟨by omega,by omega,by rw[(Q.2.1 x (AY hx)).1];omega,λg hg=>⟨by omega,⟨d+1,by omega⟩,[(5,some 7)],by simp only;omega,?_⟩⟩⟩;have O:JB s (Bu a (Co p d)) (((d:Int)+2) % 4)=g:=cK hx hg;simp only[A8];simp(disch:=omega)only[ZA,simprocAttr,Bz,RB];rw[Ag hn,O];refine⟨Z,by simp[Al]⟩
 obtain rfl:d=4:=by omega
 clear Z aa hd;obtain⟨S,hS⟩: ∃S:Az,S=⟨s,a,t⟩:=⟨_,rfl⟩;rw[<-hS];refine AR.ren ⟨{i:Nat//i<=s.Tiles.length},λi=>⟨[(13,.im (.int .i64 i.1)),(12,.own 7),(9,.own 5),(0,.ptr 0 0),(3,.im (.int .i64 t))],[(7,(true,.arr 2 1 ((FN S (Bu a) p i.1).map Al))),(5,(true,.arr 2 1 ((RB s a p 4).map Al))),(0,(false,.view (AB.c s))),(1,(false,.view (Ah.c a)))],8⟩,λi=>s.Tiles.length - i.1,λi=>⟨by simp[Aj.good,An,Ac,A9,AV.bel],by simp⟩,⟨⟨0,CF _⟩,[(7,some 6)],?_⟩,λi=> ?_⟩
 .simp only[A8];simp(disch:=omega)only[ZA,simprocAttr,Bz,FN]
  try simp
 obtain⟨i,hi⟩:=i;have an:=VA S (Bu a) p i;simp(disch:=omega)only[ZA,simprocAttr,AP];intro _;refine⟨λab=> ?_,λab=> ?_⟩;rotate_left
 .obtain rfl:i=s.Tiles.length:=by omega
  rfl
 refine AR.old ⟨{k:Nat//k<=4},λk=>⟨[(15,.im (.int .i64 k.1)),(14,.im (.int .i64 (EL s (Bu a) p i k.1))),(13,.im (.int .i64 i)),(12,.own 7),(9,.own 5),(0,.ptr 0 0),(3,.im (.int .i64 t))],[(7,(true,.arr 2 1 ((FN S (Bu a) p i).map Al))),(5,(true,.arr 2 1 ((RB s a p 4).map Al))),(0,(false,.view (AB.c s))),(1,(false,.view (Ah.c a)))],8⟩,λk=>4 - k.1,λk=>⟨by simp[Aj.good,An,Ac,A9,AV.bel],by simp⟩,⟨⟨0,CF _⟩,?_⟩,λk=> ?_⟩
 .simp(disch:=omega)only[ZA,simprocAttr,sub,EL]
 obtain⟨k,hk⟩:=k;simp(disch:=omega)only[ZA,simprocAttr,l02Strength.q,l02Strength.fv,sub,AP,Nf,Na,BC,D.one];have ad:IntKind.i64.wrap ((k:Int)+1)=((k+1:Nat):Int):=by rw[AG (by omega) (by omega)];omega
 have aj:=xU Q (Bu a) p i k;have am:=xX Q (Bu a) p i k;have ah:=Nh s a p 4;rw[ah];refine⟨λai=>⟨ab,λx hx=>⟨by rw[(Q.2.1 x (AY hx)).1];omega,λg hg=>⟨by omega,by omega,λy hy=> ?_⟩⟩⟩,λai=> ?_⟩
 .have O:JB s i k=g:=cK (by simpa using hx) (by simpa using hg);rw[aJ (by omega),AI] at hy;have G:=Yl (i:=i) hy.symm;rw[O] at G;refine⟨λe=>⟨by omega,by omega,λz hz=> ?_⟩,λe=>⟨⟨k+1,by omega⟩,by simp only;omega,ad,?_⟩⟩
  .rw[aJ (by omega),AI] at hz;obtain rfl:y=z:=hy.symm.trans hz;rw[Ao e] at G;have ag:0<=y/\y<=s.Glues.length:=by
    have:=fV Q (t:=i) (d:=k)
    rw[O,e] at this;exact this
   refine⟨⟨ag.1,ag.2,Q.1⟩,⟨k+1,by omega⟩,by simp only;omega,ad,?_⟩;rw[G,AG (by omega) (by omega)];rfl
  .rw[Ag e] at G;simp only[EL,<-G];omega
 .obtain rfl:k=4:=by omega
  have ac:IntKind.i64.wrap ((i:Int)+1)=((i+1:Nat):Int):=by rw[AG (by omega) (by omega)];omega
  have e1:S.Temperature=t:=by rw[hS]
  have e2:S.Set=s:=by rw[hS]
  refine⟨λe=>⟨by omega,⟨i+1,by omega⟩,[(7,some 9)],by simp only;omega,?_⟩,λe=>⟨⟨i+1,by omega⟩,[(7,some 7)],by simp only;omega,?_⟩⟩
  .simp only[A8];simp(disch:=omega)only[ZA,simprocAttr,Bz,FN,e1,e2];rw[Ao e];exact⟨ac,by simp[Al]⟩
  .simp only[A8];simp(disch:=omega)only[ZA,simprocAttr,Bz,FN,e1,e2];rw[Ag e,DA];exact⟨ac,rfl⟩
def Zq(s:Az)(a b:Ah)(f:Ab->Int)(p:Ab): ∀n,FN ⟨s.Set,a,s.Temperature⟩ f p n=FN s f p n
 |0=>rfl
 |n+1=>by simp only[FN,Zq s a b f p n]
def DS(g:Ab->List Int)(l:List Ab)(i:Nat):List AJ:=Cq g (l.take i)
def mQ{g:Ab->List Int}{l:List Ab}{i:Nat}{p:Ab}(h:l[i]? =some p):DS g l (i+1)=DS g l i++(g p).map (Of p):=by
 simp only[DS,Cq,YV h,yO,Gj,ZeG,DA]
def V8{g:Ab->List Int}{m:Nat}(z: ∀p,(g p).length<=m): ∀(l:List Ab),(Cq g l).length<=l.length*m
 |[]=>by simp[Cq]
 |p::r=>by
  have ih:=V8 z r
  have:=z p
  simp only[Cq] at ih;simp only[Cq,Gj,Dn,FM,CY,yY];omega
def opsS_.fv(a:Az×Ah):List AJ:=(Db) (a.1) (a.2)
def opsS_.row:A7:=vK (b2 (qP 4 Az.d_le) (qP 1 Ah.d_le)) (rS AJ.d_le AJ.c_n) (λa=>Cu a.1.Set/\Hm a.1.Set a.2/\a.2.Tiles.length<=500/\a.1.Set.Tiles.length<=1000) opsS_.fv
def opsS_.q:=AU (R:=opsS_.row) rfl
def opsS_.ok:AA Tryz.prog 93 opsS_.row:=by
 refine vw (tC nearS_.ok (tC atQ_.ok tN)) Tryz.func93 rfl (by kernel_rfl) ?_;intro a Q;simp only[Tryz.f93];simp(disch:=omega)only[ZA,simprocAttr,Ah.d,opsS_.fv,nearS_.q,nearS_.fv];obtain⟨s,a⟩:=a;obtain⟨h1,Z,h3,h4⟩:=Q;simp only at h1 Z h3 h4⊢;refine⟨⟨Z.1,by omega,s.Set,Z.2⟩,?_⟩;obtain⟨L,hL⟩: ∃L,L=Cp a a.Tiles.length:=⟨_,rfl⟩;obtain⟨g,hg⟩: ∃g,g=λp=>FN s (Bu a) p s.Set.Tiles.length:=⟨_,rfl⟩
 have ac:Db s a=Cq g L:=by rw[hg,hL];rfl
 rw[ac];have af:L.length<=2000:=by have:=V3 a a.Tiles.length;rw[hL];omega
 have G: ∀p,(g p).length<=1000:=λp=>by have:=VA s (Bu a) p s.Set.Tiles.length;rw[hg];simp only;omega
 have aa: ∀p∈L,EP p=true:=λp hp=>by
  rw[hL,PT _ (AN _)] at hp;exact hp.1.1
 simp only[<-hL];refine AR.ren ⟨{i:Nat//i<=L.length},λi=>⟨[(7,.im (.int .i64 i.1)),(6,.im (.sl false 2 (L.map Ab.c))),(5,.own 4),(0,.ptr 0 0),(1,.ptr 1 0)],[(4,(true,.arr 108 3 ((DS g L i.1).map AJ.c))),(0,(false,.view (Az.c s))),(1,(false,.view (Ah.c a)))],5⟩,λi=>L.length - i.1,λi=>⟨by simp[Aj.good,An,Ac,A9,AV.bel],by simp⟩,⟨⟨0,CF _⟩,[(4,some 3)],?_⟩,λi=> ?_⟩
 .simp only[A8];simp(disch:=omega)only[ZA,simprocAttr,Bz,DS,Cq]
  try simp
 obtain⟨i,hi⟩:=i;simp(disch:=omega)only[ZA,simprocAttr,Ah.d,atQ_.q,atQ_.fv,AP];intro _;refine⟨λz=> ?_,λz=> ?_⟩;rotate_left
 .obtain rfl:i=L.length:=by omega
  rw[DS,HJ]
 have ah:(DS g L i).length<=2000*1000:=by
  have:=V8 G (L.take i)
  have h9:(L.take i).length*1000<=2000*1000:=Hq _ (by simp;omega);simp only[DS];omega
 refine⟨z,λp hp=> ?_⟩;have ad:=aa p (AY hp);refine⟨⟨h1,Z,oW ad,by omega⟩,?_⟩;have ab:FN ⟨s.Set,a,s.Temperature⟩ (Bu a) p s.Set.Tiles.length=g p:=by rw[Zq _ _ a,hg]
 rw[ab];have ag:=G p;refine AR.ren ⟨{k:Nat//k<=(g p).length},λk=>⟨[(9,.im (.int .i64 k.1)),(8,.im (.sl false 1 ((g p).map Al))),(7,.im (.int .i64 i)),(6,.im (.sl false 2 (L.map Ab.c))),(5,.own 5),(0,.ptr 0 0),(1,.ptr 1 0)],[(5,(true,.arr 108 3 ((DS g L i++((g p).take k.1).map (Of p)).map AJ.c))),(0,(false,.view (Az.c s))),(1,(false,.view (Ah.c a)))],6⟩,λk=>(g p).length - k.1,λk=>⟨by simp[Aj.good,An,Ac,A9,AV.bel],by simp⟩,⟨⟨0,CF _⟩,[(5,some 4)],?_⟩,λk=> ?_⟩
 .simp only[A8];simp(disch:=omega)only[ZA,simprocAttr,Bz]
  try simp
 obtain⟨k,hk⟩:=k;simp(disch:=omega)only[ZA,simprocAttr,AP,Nf,Na,BC,D.one,Dn];intro _;refine⟨λO=>⟨z,λq hq=>⟨O,λx hx=>⟨?_,⟨k+1,by omega⟩,[(5,some 7)],by simp only;omega,?_⟩⟩⟩,λO=>⟨⟨i+1,by omega⟩,[(4,some 5)],by simp only;omega,?_⟩⟩
 .have:((g p).take k).length<=1000:=by simp;omega
  omega
 .obtain rfl:=AE (hp.symm.trans hq);simp only[A8];simp(disch:=omega)only[ZA,simprocAttr,Bz];refine⟨by rw[AG (by omega) (by omega)];rfl,?_⟩;rw[YV hx];simp[Of,AJ.c]
 .obtain rfl:k=(g p).length:=by omega
  simp only[A8];simp(disch:=omega)only[ZA,simprocAttr,Bz];refine⟨by rw[AG (by omega) (by omega)];rfl,?_⟩;rw[mQ hp,HJ]
end Go.Ae
namespace Go.Ae
open Go.Proofs Go.Sort Go.Shelf
instance:Inhabited Ab:=⟨⟨0,0⟩⟩
def CH(x:Ab):List Value:=[.int .i64 x.X,.int .i64 x.Y]
def zI(x y:Ab):Int:=Ib (x.X,x.Y) (y.X,y.Y)
def VE(x y:Ab):ltOf zI x y=Bf x y:=by
 simp only[ltOf,zI,Ib,Lib.compareInt,Bf]
 grind
def swoQ:SWO (ltOf zI) where
 irrefl x:=by rw[VE];simp only[Bf];grind
 trans x y z h1 h2:=by rw[VE] at*;simp only[Bf] at*;grind
 ntrans x y z h1 h2:=by rw[VE] at*;simp only[Bf] at*;grind
def aS{l:List Ab}(hd:l.Nodup):(BQ l).Perm l:=(Zen (JW (Ni l)) hd).2 λ_=>J1
def Qamw{l l':List Ab}(hd:l.Nodup)(hp:l'.Perm l)(hs:l'.Pairwise (λa b=>Bf b a=false)):l'=BQ l:=by
 refine aP ?_ (Ni l) (λq=>by rw[J1,hp.mem_iff]);have hn:l'.Nodup:=hp.nodup_iff.2 hd;refine Zez (λ{a b} h=> ?_) (List.pairwise_and_iff.2 ⟨hs,hn⟩);exact mE h.1 λe=>h.2 e.symm
def OT{l:List Ab}(hd:l.Nodup):(BQ l).length=l.length:=(aS hd).length_eq
def Rz(l:List Ab):List Value:=l.flatMap CH
def Lh(l:List Ab):(Rz l).length=l.length*2:=by
 induction l with
 |nil=>rfl
 |cons x r ih=>simp only[Rz,Gj,Dn,CY] at ih⊢;rw[ih];simp[CH];omega
def aV{ok:Nat->Prop}{hp:Nat->Option Obj}: ∀(l:List Ab) (L:List Value),rdr ok hp 2 (l.map Ab.c) L↔ ∃r,L=Rz l++r
 |[],L=>by simp[rdr,Rz]
 |x::r,L=>by
  simp only[Bd,rdr,aV r,Ab.c,rdp,rd,Rz,Gj];constructor
  .rintro⟨_,⟨v,z,rfl,rfl,O,G,rfl,rfl,_⟩,q,hq⟩;exact⟨q,by simp only[P8,GN] at hq;rw[hq];rfl⟩
  .rintro⟨q,rfl⟩;exact⟨rfl,⟨_,_,rfl,rfl,_,_,rfl,rfl,trivial⟩,q,rfl⟩
def Lg: ∀(l:List Ab) (t:Nat),t<l.length*2->(Rz l)[t]? =some ((CH (l[t/2]?.getD default))[t % 2]!)
 |[],t,h=>by simp at h
 |x::r,t,h=>by
  by_cases O:t<2
  .have:t=0\/t=1:=by omega
   rcases this with rfl|rfl<;>simp[Rz,CH]
  .obtain⟨u,rfl⟩: ∃u,t=u+2:=⟨t - 2,by omega⟩;have z:(u+2)/2=u/2+1:=by omega
   have G:(u+2) % 2=u % 2:=by omega
   have ih:=Lg r u (by simp at h;omega);rw[z,G,Jd,<-ih];simp[Rz,CH]
def mV(l:List Ab):(flatK CH 2 l.toArray).toList=Rz l:=by
 apply JE;intro t;by_cases z:t<l.length*2
 .rw[Lg l t z];have G:t<(flatK CH 2 l.toArray).size:=by simp only[size_flatK,N0];exact z
  have O:=get_flatK CH 2 l.toArray t (by simpa using z);rw[G4,Jc G,<-getElem!_pos (flatK CH 2 l.toArray) t G,O];congr 3;simp[getElem!_def];cases l[t/2]? <;>rfl
 .have a1:(flatK CH 2 l.toArray).toList.length<=t:=by rw[E8,size_flatK,N0];omega
  have a2:(Rz l).length<=t:=by rw[Lh];omega
  rw[F7 a1,F7 a2]
def srtQ.ca(_:List Ab):List AV:=[.own 0,.im (.fn 161 [] [])]
def srtQ.H0(a:List Ab):Ap:=[(0,(true,.arr 96 2 (a.map Ab.c)))]
def srtQ.H1(a:List Ab):Ap:=[(0,(true,.arr 96 2 ((BQ a).map Ab.c)))]
def srtQ.row:A7:=AF srtQ.ca srtQ.H0 1 (λa=>a.Nodup) (λ_=>true) (λ_=> .im (.tup [])) srtQ.H1 0
def srtQ.ok:AA Tryz.prog 223 srtQ.row:=by
 rintro args h nx K ⟨a,τ,U,KL,aj,rfl,O,hN,hK⟩;refine⟨Nn (by kernel_rfl),_,_,?_,hK⟩;intro C S vs R hW a9 bb bc aa ax;have aq:BT τ 1 nx 0=τ 0:=Ao (by omega);simp only[srtQ.ca,AL,AV.ren,aq,AM,Aa,rd,rdl] at aa;obtain⟨v0,r0,hv,⟨ad,ai⟩,v1,r1,bi,⟨ac,cc,bl,ak,am⟩,bj⟩:=aa;have ak:ac= #[]:=by apply N4;simpa using ak
 have am:cc= #[]:=by apply N4;simpa using am
 subst ak am bj bi bl;have bm:vs= #[v0,.func (UV 161) #[] #[]]:=by apply N4;simpa using hv
 subst bm;have hm:h (τ 0)=some (true,.arr 96 2 (a.map Ab.c)):=by
  have:=O.1
  rwa [aq] at this
 have aw:Am (srtQ.H0 a) 0=true:=rfl;have Q:S.h (τ 0)=some (true,.arr 96 2 (a.map Ab.c)):=by
  rw[a9 (τ 0) (JF _ (hN.u 0 aw)),hm]
 have ay: ∀n,n∈KL↔n=τ 0:=by
  intro n;constructor
  .intro hn;obtain⟨j,h1,_,h3⟩:=hN.k1 n hn
   have:j=0:=by
    simp only[Am,srtQ.H0,hget] at h1;by_cases hj:j=0
    .exact hj
    .have:(0==j)=false:=by simpa using λh=>hj h.symm
     rw[this] at h1;cases h1
   rw[h3,this]
  .rintro rfl;exact hN.k2 0 aw rfl
 obtain⟨m,hmm⟩: ∃m,m=τ 0:=⟨_,rfl⟩;rw[<-hmm] at Q ai ay;have au:=OT aj;have fin: ∀(w':World),IZ S m (.arr 96 2 ((BQ a).map Ab.c)) (S.ρ m) [m] w'->
  (Bx (λn=>S.h m≠none\/n≠m) S (S.one m (.arr 96 2 ((BQ a).map Ab.c)) (S.ρ m) [m] w')->Au (S.one m (.arr 96 2 ((BQ a).map Ab.c)) (S.ρ m) [m] w') (S.ρ m) (.arr 96 2 ((BQ a).map Ab.c)))->R (.returned (.tuple #[])) w':=by
  intro w' ad bh;have hp:=bQ hW ad;refine ax (.tuple #[]) _ (iQ hW ad (bh hp)) ?_ ⟨hp.ok,λn _=>hp.nm n (.inl (by rw[Q];simp))⟩ ⟨#[],rfl,rfl⟩;funext n;simp only[Ay.one,Bk.appf,srtQ.H1,AW,aq,hget,Ad.ren,<-hmm];by_cases hn:n=m
  .subst hn;simp
  .have h1:(m==n)=false:=by simpa using λh=>hn h.symm
   have h2:KL.contains n=false:=by
    rw[<-N3,Gi,ay];exact hn
   simp only[h1,B8,h2,hn,Cy,BE]
 have z:=ai _ Q;have Z:=hW.obj _ _ Q;have a0:=λG=>hW.loc m _ G Q
 cases hρ:S.ρ m with
 |none=>
  rw[hρ] at z Z;simp only[Au] at Z;have ha:a=[]:=by simpa using Z.2
  subst ha;simp only at z;rw[z,Wm (by decide)];refine (AnyF.slices_SortFunc_none Tryz.sortPt none 0 (.func (.func 161) #[] #[]) S.w).mono ?_;rintro e w' ⟨rfl,rfl⟩;refine fin S.w (ZQ Q (λl hl=>by rw[hρ] at hl;cases hl) rfl rfl) (λ_=> ?_);rw[hρ];exact⟨CF _,rfl⟩
 |some G=>
  rw[hρ] at z Z;simp only[Au,Ad.len] at Z z;obtain⟨g1,g2,cv,g3,g4,g5⟩:=Z;obtain⟨ao,bo⟩:=a0 G hρ;rw[aV] at g5;obtain⟨ba,g5⟩:=g5;simp only[FM] at g1 g2 z;have O:S.w.heap[G.b]? =some (.cells cv 96 (0,0)):=g3;have bn:G.p+a.length*2<=cv.size:=by omega
  have hF:(flatK CH 2 a.toArray).size=a.length*2:=by simp
  have hget: ∀j,j<a.length*2->cv[G.p+j]? =some ((flatK CH 2 a.toArray)[j]!):=by
   intro j hj;have h1:(cv.toList.drop G.p)[j]? =(Rz a++ba)[j]? :=by rw[g5]
   rw[HN,G4,E7 (by rw[Lh];exact hj),<-mV,G4] at h1;rw[h1,Jc (by rw[hF];exact hj),getElem!_pos _ _ (by rw[hF];exact hj)]
  have hH:HoldsK CH 2 S.w G.b G.p a.toArray:=by
   intro j hj;rw[hF] at hj;refine⟨?_,?_⟩
   .simp only[World.cell?,O,Zb,CE,Cy,id];exact hget j hj
   .simp only[World.frozen?,O];simp
  have hc:=AnyQ.slices_SortFunc Tryz.sortPt 2 Tryz.isAgg96 Tryz.sizeOf96 CH (λ_=>rfl) (λx v hv=>by simp[CH] at hv;rcases hv with rfl|rfl<;>rfl) zI swoQ 161 #[] G.b G.p G.cap a.toArray S.w
   (oH (Nn (by kernel_rfl))) (λm os dk hs x y=>Tryz.cmpPoints _ _ _ _ _) hH ao (by simp only[N0,Kr] at g1⊢;omega)
  rw[z,Wm (by decide)];refine hc.mono ?_;rintro e w' ⟨rfl,d',n,os,af,av,rfl⟩;have a8:d'.size=a.length:=af.1;have bf:d'.toList=BQ a:=by
   refine Qamw aj ?_ ?_
   .have:=af.2.2
    rwa [show d'.extract 0 a.toArray.size=d' by rw[N0,<-a8];exact rU,show a.toArray.extract 0 a.toArray.size=a.toArray from rU] at this
   .rw[ZdF];intro i j hi hj bg
    have:=av i j (CF _) bg (by rw[N0,<-a8];simpa using hj)
    rw[VE,getElem!_pos d' i (by simpa using hi),getElem!_pos d' j (by simpa using hj)] at this;simpa using this
  obtain rfl:d'=(BQ a).toArray:=by apply N4;rw[bf]
  have ah:(flatK CH 2 (BQ a).toArray).size=a.length*2:=by simp[au]
  have an:(flatK CH 2 (BQ a).toArray).toList.length=a.length*2:=by rw[E8,ah]
  have ag:S.w.heap.size<=(sortWorldK CH 2 S.w G.b G.p n (BQ a).toArray os).heap.size:=by
   simp[sortWorldK,grow,putRowK,Sort.ahead]
  have hb: ∀b,b<S.w.heap.size->(sortWorldK CH 2 S.w G.b G.p n (BQ a).toArray os).heap[b]? =if G.b=b then S.w.heap[b]?.map (onCells (putCells id G.p (flatK CH 2 (BQ a).toArray))) else S.w.heap[b]? :=by
   intro b hb;have e0:b<(putRowK CH 2 (Sort.ahead S.w n) G.b G.p (BQ a).toArray).heap.size:=by simpa[putRowK,Sort.ahead] using hb
   simp only[sortWorldK,grow];rw[ZdC e0];simp only[putRowK,putRow,mapBlock,Sort.ahead,ZdU]
  refine fin _ ⟨rfl,rfl,rfl,ag,?_,.inl (by simp),?_,?_,?_⟩ ?_
  .intro b bd be;rw[hb b bd,Ag (be m _ G (by simp) Q hρ)]
  .intro lo az;rw[hρ] at az;obtain rfl:=AE az;exact⟨FL ao ag,.inr ⟨m,_,G,by simp,Q,hρ,rfl⟩⟩
  .intro f hf;rw[Q] at hf;obtain rfl:=AE hf;exact⟨rfl,rfl,by simp[Ad.len,au]⟩
  .intro n' f _ ab;rw[Q] at ab;cases ab
  .intro _;rw[hρ];simp only[Au,FM,au];refine⟨g1,g2,putCells id G.p (flatK CH 2 (BQ a).toArray) cv,?_,by simpa[putCells] using g4,?_⟩
   .simp only[Ay.one,Ay.hp];rw[hb G.b ao,Ao rfl,O];rfl
   .rw[aV];refine⟨(cv.toList.drop (G.p+a.length*2)),?_⟩;apply JE;intro t;rw[HN,G4,putCells,ZeJ,ah,<-mV];by_cases ht:t<a.length*2
    .rw[E7 (by rw[an];exact ht),G4,Jc (show G.p+t<cv.size by omega),Jc (by rw[ah];exact ht)];simp only[Ds,id];rw[Ao ⟨by omega,by omega⟩,rL,getElem!_pos _ _ (by rw[ah];exact ht)]
    .rw[Fo (by rw[an];omega),an,HN,G4,show G.p+a.length*2+(t - a.length*2)=G.p+t by omega];cases cv[G.p+t]? with
     |none=>rfl
     |some x=>simp only[Ds];rw[Ag (by omega)]
end Go.Ae
namespace Go.Ae
open Go.Proofs
def WF(op:List (Ab×List Int)):Nat:=(op.map λq=>q.2.length).sum
def JV{β:Type}: ∀{l:List (Ab×β)} {q:Ab×β},(l.map Prod.fst).Nodup->q∈l->B7 l q.1=some q.2
 |x::r,q,hn,hq=>by
  obtain⟨p,v⟩:=x;rw[Bd,Ip] at hn;simp only[B7];rcases Bi.1 hq with rfl|hq
  .rw[Ao rfl]
  .have:q.1≠p:=λe=>hn.1 (by rw[<-e];exact Bm.2 ⟨q,hq,rfl⟩)
   rw[Ag this];exact JV hn.2 hq
def mJ{g:Ab->List Int}: ∀(l:List Ab),(Cq g l).length=(l.map λp=>(g p).length).sum
 |[]=>rfl
 |p::r=>by
  have:=mJ (g:=g) r
  simp only[Cq] at this;simp only[Cq,Gj,Dn,FM,Bd,KE,this]
def Ox{op:List (Ab×List Int)}(h:(op.map Prod.fst).Nodup):(Gq op).length=WF op:=by
 rw[Gq,mJ,((aS h).map _).sum_nat,Q3];congr 1;refine Nx λq hq=> ?_
 simp only[Function.comp,JV h hq,AQ]
def QU: ∀{l:List (Ab×List Int)},(∀q∈l,q.2≠[])->l.length<=WF l
 |[],_=>CF _
 |x::r,h=>by
  have G:0<x.2.length:=jA.2 (h x (BM ..));have z:=QU λq hq=>h q (BR x hq)
  simp only[WF,Bd,KE,CY] at z⊢;omega
def mK(s:Az){b:Ah}(O:b.Tiles.length<=500)(Q:s.Set.Tiles.length<=160):(Db s b).length<=320000:=by
 have z:=V8 (g:=λp=>FN s (Bu b) p s.Set.Tiles.length) (m:=160) (λp=>Dt (VA s (Bu b) p _) (by omega)) (Cp b b.Tiles.length);have Z:=V3 b b.Tiles.length;have G:(Cp b b.Tiles.length).length*160<=2000*160:=Hq _ (by omega);exact Dt z G
def fI{s:Az}{b:Ah}{op:List (Ab×List Int)}(hT:1<=s.Temperature)(h1:b.Tiles.length<=500)(h2:s.Set.Tiles.length<=160)(G:MP s (Bu b) op):
 Gq op=Db s b/\((op.map Prod.fst).Nodup/\op.length<=1000000/\ ∀q∈op,q.2.length<=1000)/\(Gq op).length<=320000:=by
 have z:=SK hT G;have O:=Ox G.1;rw[z] at O;have Q: ∀q∈op,q.2=DR s (Bu b) q.1/\q.2≠[]:=λq hq=>by
  have Z:=JV G.1 hq;rw[G.2,Fv] at Z;split at Z
  .cases Z
  .rename_i c;have h6:=AE Z;exact⟨h6.symm,by rw[<-h6];exact c⟩
 have h6:op.length<=WF op:=QU λq hq=>(Q q hq).2
 have h7:=mK s h1 h2;refine⟨z,⟨G.1,by omega,λq hq=> ?_⟩,by rw[z];exact h7⟩;rw[(Q q hq).1];exact Dt (Qus s _ _ _) (by omega)
def DX(n:Int):Bool:= !Bq n 0 1000
def DT(l:List Int):Bool:=decide (l.length<=200) && !l.any DX
def FW(l:List Int)(n k:Nat):Nat:=if l.length=0 then 0 else (((l[k % l.length]?).getD 0) % (n:Int)).toNat
def nK{l:List Int}(h:DT l=true){x:Int}(G:x∈l):0<=x/\x<=1000:=by
 simp only[DT,AS,Nz] at h;have z:DX x=false:=by
  cases hb:DX x with
  |false=>rfl
  |true=>rw[rN.2 ⟨x,G,hb⟩] at h;cases h.2
 simpa[DX,Bq] using z
def Mq{l:List Int}{n k:Nat}(hn:0<n):FW l n k<n:=by
 simp only[FW];split
 .exact hn
 .have z:=Int.emod_nonneg ((l[k % l.length]?).getD 0) (b:=(n:Int)) (by omega);have G:=Int.emod_lt_of_pos ((l[k % l.length]?).getD 0) (b:=(n:Int)) (by omega);omega
def Gl(s:Az)(l:List Int)(b:Ah)(k:Nat):Option AJ:=(Db s b)[FW l (Db s b).length k]?
def PX{s:Az}{l:List Int}{b:Ah}{k:Nat}:Gl s l b k=none↔Db s b=[]:=by
 simp only[Gl,Zev];constructor
 .intro h;cases he:Db s b with
  |nil=>rfl
  |cons x r=>
   have:=Mq (l:=l) (k:=k) (n:=(Db s b).length) (by rw[he];simp)
   omega
 .intro h;rw[h];simp
def FA(s:Az)(l:List Int):Nat->Ah->List AJ->List AJ×Ah×Int
 |0,b,d=>(d,b,0)
 |n+1,b,d=>match Gl s l b d.length with
  |none=>(d,b,0)
  |some o=>if 500<=b.Tiles.length then ([],⟨[]⟩,4) else FA s l n (C7 b o.At o.Tile) (d++[o])
def Nk(b:Ah)(p:Ab)(t:Int):(C7 b p t).Tiles.length=b.Tiles.length+1:=by
 rw[oI];rw[(pL ⟨p,t⟩ b.Tiles).length_eq,CY]
def nJ{s:Az}{l:List Int}: ∀(n:Nat) (b:Ah) (d:List AJ),b.Tiles.length<=500->501<=b.Tiles.length+n->FA s l (n+1) b d=FA s l n b d
 |0,b,d,z,G=>by omega
 |n+1,b,d,z,G=>by
  rw[FA,FA];split
  .rfl
  .split
   .rfl
   .rename_i o _ c;exact nJ n _ _ (by rw[Nk];omega) (by rw[Nk];omega)
def X6{s:Az}{b:Ah}(hb:Hm s.Set b){o:AJ}(h:o∈Db s b):FP s b o=true:=by
 rw[Db,Cq,ZeH] at h;obtain⟨p,hp,h⟩:=h;obtain⟨t,Q,rfl⟩:=Bm.1 h;rw[PT _ (AN _)] at hp;obtain⟨⟨G,O⟩,_⟩:=hp;have z: ∀n,t∈FN s (Bu b) p n->0<=t/\t<n/\s.Temperature<=EL s.Set (Bu b) p t 4:=by
  intro n;induction n with
  |zero=>intro h;simp[FN] at h
  |succ n ih=>
   intro h;simp only[FN,Br] at h;rcases h with h|h
   .have:=ih h;exact⟨this.1,by omega,this.2.2⟩
   .split at h
    .rename_i c;simp only[BE] at h;subst h;exact⟨by omega,by omega,c⟩
    .cases h
 obtain⟨k1,k2,Z⟩:=z _ Q;show FP s b ⟨p,t⟩=true;simp only[FP,Bq,AS,Ch];exact⟨G,⟨k1,by omega⟩,(VB hb.2 p).2 O,by rw[<-KJ];exact Z⟩
def VH{s:Az}{l:List Int}{b:Ah}{k:Nat}(hb:Hm s.Set b){o:AJ}(h:Gl s l b k=some o):FP s b o=true:=X6 hb (AY h)
def DC(s:Az)(l:List Int):Nat->Ah->List AJ->List AJ×Ah×Bool×Int
 |0,b,d=>(d,b,(Gl s l b d.length).isNone,0)
 |n+1,b,d=>match Gl s l b d.length with
  |none=>(d,b,true,0)
  |some o=>if 500<=b.Tiles.length then ([],⟨[]⟩,false,4) else DC s l n (C7 b o.At o.Tile) (d++[o])
def Ls{s:Az}{l:List Int}: ∀(n:Nat) (b:Ah) (d:List AJ),((DC s l n b d).1,(DC s l n b d).2.1,(DC s l n b d).2.2.2)=FA s l n b d
 |0,b,d=>rfl
 |n+1,b,d=>by
  rw[DC,FA];split
  .rfl
  .split
   .rfl
   .exact Ls n _ _
def Xk{ι:Type}{P:Program}{V:CK}{N:Nat}{J:ι->(Nat->Prop)->World->Prop}{base:Nat}{ok0:Nat->Prop}{i j:ι}(HV:GI P V)(O:Ns base J){ab:ι->List D->ι->Prop}{l:Nat}(hY: ∀i x j args Pr W,ab i x j->(∀ok hp,rdl ok hp x args.toList)->J i Pr W->YieldAt Fence.wide 0 P l args W λe W'=>e= .returned (.bool true)/\ ∃Pr',J j Pr' W'/\HZ ok0 Pr W Pr' W')
 {id:Nat}{ops:Array Oper}(k1:Nat)(ao:List.range ops.size=List.range' 0 (ops.toList.take k1).length++(k1::(List.range' (k1+1) (ops.toList.drop (k1+1)).length++[])))(ac:Jb N (ops.toList.take k1)=true)(ad:Jb N (ops.toList.drop (k1+1))=true)(z:VZ ops=true)
 {o:Oper}{c:Call}{f:Operand}{x:List D}(s1:Aj){s s2:Aj}{a:Act}{w:World}{Q:Exit->Act->World->Prop}(ho:ops[k1]? =some o)(am:o.op= .call c)(Z:c.callee= .value f)(ah:o.guard=none)
 (hf:Aw s1.tm f= .im (.fn (1000000000+l) [] []))(G:Du s1.tm c.args.toList=x.map .im)(an:x.all D.scs=true)(hx:ab i x j)(ak: ∀n e,hget s1.h n=some e->e.2.isView=false)(hd: ∀d,o.dst=some d->d<N)(af:s1.good=true)(ag:s2.good=true)
 (h:It J base ok0 N i s a w)(ai:Ki P V (FJ ops (ops.toList.take k1)) (λs=>sub s s1) s)(aj:Ki P V (FJ ops (ops.toList.drop (k1+1))) (λs=>sub s s2) (s1.put o.dst (.im (.bool true))))
 (aa: ∀a w,It J base ok0 N j s2 a w->Q .normal a w):(Code.region id ops false).wpIn Fence.wide 0 P Q a w:=by
 refine wpIn_region ?_;rw[ao];refine VF HV O (seg:=ops.toList.take k1) (more:=ops.toList.drop k1) (by rw[GN,KA]) ac z ai h (λs a w h1 h2=> ?_);have h3:=F4 h2 h1 af O;have hw:Region.wanted o (yielded ops a.tmps)=true:=by simp[Region.wanted,ah]
 refine mZ O hY ho hw am Z hf G an hx ak hd h3 (λa w h4=> ?_);refine VF HV O (seg:=ops.toList.drop (k1+1)) (more:=[]) (by rw[DA]) ad z aj h4 (λs a w h5 h6=> ?_);exact aa a w (F4 h6 h5 ag O)
abbrev FE:=List (Ab×List Int)
def Xa(op:FE):jV:=⟨FE×List Ab,(op,[]),λi x j=> ∃(k:Nat) (p:Ab×List Int),i.1[k]? =some p/\x=[.agg (Ab.c p.1)]/\j=(i.1.eraseIdx k,i.2++[p.1]),λi=>i.1=[]⟩
def Hy(l:Nat)(left:FE)(z:Option (D×D)):Aj:=⟨[(5,.it 0),(0,.im (.fn (1000000000+l) [] []))],[(0,(true,.iter z (left.map CO)))],1⟩
def tD(l:Nat)(left:FE)(p:Ab×List Int):Aj:=⟨[(3,.ptr 1 0),(5,.it 0),(0,.im (.fn (1000000000+l) [] []))],[(0,(true,.iter (some (CO p)) (left.map CO))),(1,(true,.cells 96 [.im (.int .i64 p.1.X),.im (.int .i64 p.1.Y)]))],2⟩
def aQ(l:Nat)(left:FE)(z:Option (D×D)):(Hy l left z).good=true:=by simp[Hy,Aj.good,An,Ac,A9,AV.bel]
def Sc(l:Nat)(left:FE)(p:Ab×List Int):(tD l left p).good=true:=by simp[tD,Aj.good,An,Ac,Av,A9,AV.bel]
def nA:Ja Tryz.prog (PI []):=PQ [] (by simp)
def Ob(op:FE):Kq Tryz.prog 224 [.ref [.mp tB (op.map CO)]] (Xa op):=by
 refine RU Tryz.func224 rfl rfl (by simp) ?_;intro l J base ok0 z hY a w aa;have HV:=cM nA;obtain⟨R,hR⟩: ∃R,R=(λ(e:Exit) (a:Act) (w:World)=> ∃i,(Xa op).fin i/\RT J base ok0 Tryz.f224.ntmps i (λe _=>e= .normal\/e= .ret) e a w):=⟨_,rfl⟩;rw[<-hR];simp only[Tryz.f224] at aa⊢;refine K7 C9 HV z (by decide) (by decide) aa (Qx:=BD (Hy l op none)) ?_ (λs a w G Q=> ?_) (λ_ _ _ _ h=>h.elim) (λ_ _ _ h=>h.elim)
 .simp(disch:=omega)only[ZA,simprocAttr,BD,Hy,entry,sub,tB]
 have h3:=F4 Q G (aQ _ _ _) z;clear G Q aa;refine wpIn_block (wpIn_loop_ghost (λm a w=> ∃(i:FE×List Ab) (O:Option (D×D)),m=i.1.length/\It J base ok0 14 i (Hy l i.1 O) a w) op.length ⟨(op,[]),none,rfl,h3⟩ ?_);clear h3;rintro m a w ⟨⟨left,Z⟩,O,hm,h⟩;simp only at hm h;refine K7 C9 HV z (by decide) (by decide) h (Qx:=λe s=>match e with
  | .normal=>(left=[]/\sub s ⟨(7,.im (.bool false))::(Hy l left O).tm,(Hy l left O).h,1⟩)\/ ∃(k:Nat) (p:Ab×List Int),left[k]? =some p/\sub s ⟨(7,.im (.bool true))::(Hy l left O).tm,(Hy l (left.eraseIdx k) (some (CO p))).h,1⟩
  |_=>False) ?_ (λs a w G Q=> ?_) (λ_ _ _ _ h=>h.elim) (λ_ _ _ h=>h.elim)
 .simp(disch:=omega)only[ZA,simprocAttr,Hy,sub,Qwf];refine⟨λh=> .inl (by simpa using h),λi p hp=> ?_⟩;rw[D9] at hp;obtain⟨q,hq,rfl⟩:=Df.1 hp;exact .inr ⟨i,q,hq,rfl⟩
 simp only at G;rcases G with ⟨hl,hs⟩|⟨k,p,hk,hs⟩
 .have h3:=F4 Q hs (by simp[Hy,Aj.good,An,Ac,A9,AV.bel]) z;refine K7 C9 HV z (by decide) (by decide) h3 (Qx:=I1 (Hy l left O) False True 0) ?_ (λs a w G Q=>G.1.elim) (λid s a w G Q=> ?_) (λ_ _ _ h=>h.elim)
  .simp(disch:=omega)only[ZA,simprocAttr,I1,Hy,sub]
  .obtain⟨rfl,_,G⟩:=G;simp only[Exit.then,Exit.inBlock,BI,hR,RT];exact⟨(left,Z),hl,s,.inl trivial,Q⟩
 have h3:=F4 Q hs (by simp[Hy,Aj.good,An,Ac,A9,AV.bel]) z;clear Q h hs;refine K7 C9 HV z (by decide) (by decide) h3 (Qx:=I1 (Hy l (left.eraseIdx k) (some (CO p))) True False 0) ?_ (λs a w G Q=> ?_) (λid s a w G Q=>G.2.1.elim) (λ_ _ _ h=>h.elim)
 .simp(disch:=omega)only[ZA,simprocAttr,I1,Hy,sub]
 have h:=F4 Q G.2 (aQ _ _ _) z;clear G Q h3;refine wpIn_block ?_;refine K7 C9 HV z (by decide) (by decide) h (Qx:=BD (tD l (left.eraseIdx k) p)) ?_ (λs a w G Q=> ?_) (λ_ _ _ _ h=>h.elim) (λ_ _ _ h=>h.elim)
 .simp(disch:=omega)only[ZA,simprocAttr,BD,Hy,tD,sub,CO,Ab.c]
  trace_state
 have h3:=F4 Q G (Sc _ _ _) z;clear G Q h;have ab:=(Cd.1 hk).1;obtain⟨F,hF⟩: ∃F:AV,F= .im (.fn (1000000000+l) [] []):=⟨_,rfl⟩;obtain⟨E,hE⟩: ∃E:Aq,E=(true,.iter (some (CO p)) ((left.eraseIdx k).map CO)):=⟨_,rfl⟩;refine wpIn_seq (Xk HV z hY (i:=(left,Z)) (j:=(left.eraseIdx k,Z++[p.1])) (x:=[.agg (Ab.c p.1)]) 2 (by decide) (by decide) (by decide) (by decide)
  (⟨[(11,.im (.agg (Ab.c p.1))),(10,F),(5,.it 0),(0,F)],[(0,E)],2⟩:Aj) (s2:=⟨[(13,.im (.bool false)),(5,.it 0),(0,F)],[(0,E)],2⟩) rfl rfl rfl rfl (by rw[hF];rfl) rfl (by rfl) ⟨k,p,hk,rfl,rfl⟩ ?_ (by decide) (by rw[hE,hF];simp[Aj.good,An,Ac,A9,AV.bel]) (by rw[hE,hF];simp[Aj.good,An,Ac,A9,AV.bel]) h3 ?_ ?_ (λa w h4=> ?_))
 .exact λn e he=>Vj _ (by rw[hE];rfl) n e he
 .simp(disch:=omega)only[ZA,simprocAttr,tD,sub,hE,hF,Ab.c,FJ,Wr,List.take]
 .simp(disch:=omega)only[ZA,simprocAttr,sub,hE,hF,Ab.c,FJ,Wr,List.drop]
 simp only[Exit.then];refine qK C9 HV z (by decide) (by decide) h4 (Qx:=BD (Hy l (left.eraseIdx k) (some (CO p)))) ?_ (λs a w G Q=> ?_) (λ_ _ _ _ h=>h.elim) (λ_ _ _ h=>h.elim)
 .simp(disch:=omega)only[ZA,simprocAttr,BD,Hy,sub,hE,hF]
 simp only[Exit.inBlock,Exit.then];exact⟨(left.eraseIdx k).length,by rw[ZeY,Ao ab];omega,(left.eraseIdx k,Z++[p.1]),_,rfl,F4 Q G (aQ _ _ _) z⟩
end Go.Ae
namespace Go.Ae
open Go.Proofs Go.RowKit Go.Lib Go.Sort
def mU{A:Type}: ∀(l:List A) (k:Nat) (x:A),l[k]? =some x->l.Perm (x::l.eraseIdx k)
 |[],k,x,h=>by simp at h
 |y::r,0,x,h=>by
  simp only[GL,AI] at h;subst h;exact dO _
 |y::r,k+1,x,h=>by
  rw[Jd] at h;rw[iX];exact ((mU r k x h).cons y).trans (List.Perm.swap x y _)
def dR(op:FE)(s:Aj)(xs:List AV):Prop:= ∃l:List Ab,l.Perm (op.map Prod.fst)/\ ∃m,xs=[.own m]/\hget s.h m=some (true,.arr 96 2 (l.map Ab.c))
def eO(op:FE):D:= .fn 224 [] [.ref [.mp tB (op.map CO)]]
def dS{op:FE}(hb:op.length<=1000000){C:AX}{S:Ay}{vs:Array Value}{RR:Ending->World->Prop}(hW:Wf C S)(aq:Es S [.val (.sl true 0 []),.val (eO op)] vs.toList)
 (ad: ∀(v:Value) (C0:AX) (S1:Ay) (l:List Ab) (m:Nat),C0.w=S.w->C0.ok=S.ok->(∀b,¬C0.M b)->Wf C0 S1->l.Perm (op.map Prod.fst)->S1.h m=some (true,.arr 96 2 (l.map Ab.c))->Aa S1 (.own m) v->RR (.returned v) S1.w):
 Calls Tryz.prog 255 vs S.w RR:=by
 have HV:=cM nA;refine mL Tryz.func255 rfl (ps:=[.val (.sl true 0 []),.val (eO op)]) (show 2<=13 by decide) (Q:=dR op) ?_ hW aq ?_;rotate_left
 .rintro v C0 S1 s xs g1 g2 g3 g4 g5 ⟨l,hl,m,rfl,hm⟩ g7;exact ad v C0 S1 l m g1 g2 g3 g4 hl ((g5 m).trans hm) g7
 intro C0 a w hw af hc an;have ao:C0.ds=[]:=by obtain⟨S0,_,h⟩:=hc;rw[<-h.defers];exact an
 simp only[Tryz.f255] at hc⊢;refine rF C9 HV (by decide) (by decide) (s':=⟨[(2,.ptr 0 0),(1,.im (eO op))],[(0,(true,.cells 50 [.im (.sl true 0 [])]))],2⟩) hc ?_ ?_ (by rw[af];exact CF _) (λa w hc=> ?_)
 .simp(disch:=omega)only[ZA,simprocAttr,BD,sub,De,Dr,BF,entry]
 .simp[Aj.good,An,Ac,Av,A9,AV.bel]
 refine wpIn_seq ?_;refine rF C9 HV (by decide) (by decide) (s':=⟨[(6,.im (eO op)),(2,.ptr 0 0)],[(0,(true,.cells 50 [.im (.sl true 0 [])]))],2⟩) hc ?_ ?_ (by rw[af];exact CF _) (λa w hc=> ?_)
 .simp(disch:=omega)only[ZA,simprocAttr,BD,sub]
 .simp[Aj.good,An,Ac,Av,A9,AV.bel]
 refine wpIn_block (wpIn_mono (mX C9 HV hc (gf:=224) (capt:=[.ref [.mp tB (op.map CO)]]) (X:=Xa op) (Nn (by kernel_rfl)) (Ob op)
  (λ(i:FE×List Ab)=>(i.2++i.1.map Prod.fst).Perm (op.map Prod.fst)) (dO _) ?_ (by decide) (by decide) (by decide) (by decide) ?_ (by decide)
  (tm0:=[(6,.im (eO op)),(2,.ptr 0 0)]) (hs:=λ(i:FE×List Ab)=>[(0,(true,.cells 50 [.own 2])),(2,(true,.arr 96 2 (i.2.map Ab.c)))]) (nx:=3) ⟨[(2,none)],?_⟩ rfl (by simp) ?_ ?_ ?_ ?_) ?_)
 .rintro⟨left,O⟩ x j G ⟨k,p,hk,rfl,rfl⟩;simp only at hk G⊢;have h1:(left.map Prod.fst).Perm (p.1::(left.eraseIdx k).map Prod.fst):=by
   exact (mU left k p hk).map Prod.fst
  refine List.Perm.trans ?_ G;rw[HP];exact (h1.append_left O).symm
 .rintro⟨left,O⟩ x j G ⟨k,p,hk,rfl,rfl⟩;rfl
 .simp only[A8];simp(disch:=omega)only[ZA,simprocAttr,cW];exact (trivial:S8 true (.arr 0 0 []))
 .simp[An,AV.bel]
 .rintro⟨left,O⟩ G;simp[Aj.good,An,Ac,Av,A9,AV.bel]
 .intro i o e he hv;rw[Vj _ (by rfl) o e he] at hv;cases hv
 .rintro⟨left,O⟩ x j G ⟨k,p,hk,rfl,rfl⟩;have au:O.length<=op.length:=by
   have:=G.length_eq
   simp at this;omega
  simp(disch:=omega)only[ZA,simprocAttr,NA,Ty,EY];refine⟨λrow ab=>by rw[BE] at ab;subst ab;rfl,by omega,[(2,some 5)],?_⟩;simp only[A8];simp(disch:=omega)only[ZA,simprocAttr,Bz,F9]
 .rintro e a' w' ⟨⟨left,O⟩,G,ac,hq⟩;simp only[Xa] at ac;subst ac;simp only[GR,DA] at G;cases e<;>simp only[XK] at hq;obtain⟨C2,S2,Dk,rfl,hE,Z,ht,hd,ag,ah,ai,aj,ak⟩:=hq;simp only[Exit.inBlock,Exit.then];have am:a.defers=[]:=by obtain⟨S0,_,h⟩:=hc;rw[h.defers];exact ao
  rw[am] at hd;have hm: ∀a'':Act,a''.defers=C2.ds->qJ C0 C2 a''.defers:=λa'' h=> .inr ⟨Dk,by rw[h,<-hE.defers,hd],ag,ah,ai,aj,ak⟩
  refine wpIn_mono (gP (ro:=none) C9 HV _ (by decide) (by decide) (Tu Tryz.prog [ResultVar.tmp 4] (dR op)) _ a' S2.w ?_ ⟨S2,rfl,hE⟩) ?_
  .simp(disch:=omega)only[ZA,simprocAttr,Tu,O8,dR];exact⟨_,rfl,O,G,2,rfl,rfl⟩
  .intro e a'' w'' hq;cases e<;>simp only[FB] at hq<;>simp only[O9]
   .obtain⟨s',aa,z⟩:=hq;exact⟨s',C2,aa,z,Z,hm a'' (by obtain⟨S0,_,h⟩:=z;exact h.defers)⟩
   .obtain⟨s',aa,z⟩:=hq;exact aa.elim
   .obtain⟨s',aa,z⟩:=hq;exact⟨s',C2,aa,z,Z,hm a'' (by obtain⟨S0,_,h⟩:=z;exact h.defers)⟩
def Ud(a:List Ab)(j:Nat):Am (srtQ.H0 a) j=true↔j<1:=by
 simp only[Am,srtQ.H0,hget];by_cases z:j=0
 .subst z;simp
 .have:(0==j)=false:=by simpa using λh=>z h.symm
  rw[this];simp;omega
def jS(op:FE)(S:Ay)(v:Value)(w:World):Prop:= ∃(z:AX) (S1:Ay) (l:List Ab) (m:Nat),S1.w=w/\z.w=S.w/\z.ok=S.ok/\(∀b,¬z.M b)/\Wf z S1/\l.Perm (op.map Prod.fst)/\S1.h m=some (true,.arr 96 2 (l.map Ab.c))/\Aa S1 (.own m) v
def WG{op:FE}(hb:op.length<=1000000){C:AX}{S:Ay}{v1:Value}(hW:Wf C S)(hv:Es S [.val (eO op)] [v1]):
 Calls Tryz.prog 222 #[v1] S.w (λe w=> ∃v,e= .returned v/\jS op S v w):=by
 have z:Calls Tryz.prog 255 #[.slice none 0 0,v1] S.w (λe w=> ∃v,e= .returned v/\jS op S v w):=by
  refine dS hb hW ⟨_,_,rfl,?_,hv⟩ (λv G S1 l m g1 g2 O Q Z g6 g7=>⟨v,rfl,G,S1,l,m,rfl,g1,g2,O,Q,Z,g6,g7⟩);exact aT S (.slice none 0 0)
 go_enter Tryz.func222,Tryz.ntmps222
 go_wp2_with (go_at_call 255;refine z.mono ?_;rintro e w' ⟨v,rfl,h⟩)
 go_ret
 exact⟨v,rfl,h⟩
def OU{Z:AX}{S1:Ay}{l:List Ab}{m:Nat}{v Q:Value}{R:Ending->World->Prop}(hW:Wf Z S1)(hd:l.Nodup)(hm:S1.h m=some (true,.arr 96 2 (l.map Ab.c)))(hv:Aa S1 (.own m) v)(ab:Aa S1 (.im (.fn 161 [] [])) Q)
 (G: ∀u S',Wf Z S'->S'.h m=some (true,.arr 96 2 ((BQ l).map Ab.c))->Aa S' (.own m) v->R (.returned u) S'.w):
 Calls Tryz.prog 223 #[v,Q] S1.w R:=by
 have O:srtQ.row [.own m,.im (.fn 161 [] [])] S1.h (m+1) (λr E=>E={use:=[m],kill:=[m],new:=[(m,(true,.arr 96 2 ((BQ l).map Ab.c)))],cnt:=0}):=by
  refine AF.os l [m] hd (Ud l) rfl (by simp[Ws]) ⟨rfl,?_⟩ ?_
  .simp only[srtQ.H0,D3,BT,HT];exact⟨hm,trivial⟩
  .rfl
 obtain⟨_,r,E,hT,rfl⟩:=srtQ.ok _ _ _ _ O;have z: ∀n,¬Fr (m+1) 0 n:=λn h=>by have:=h.1;have:=h.2;omega
 refine hT Z S1 #[v,Q] R hW (λn _=>rfl) (λn hn=>(z n hn).elim) (λn e _ k _ hk=>z k hk) ⟨v,[Q],rfl,hv,Q,[],rfl,ab,rfl⟩ ?_;intro u S' aa hh hp _;refine G u S' aa ?_ (H9 hp _ _ (λo _ hf=>z o hf) hv);rw[hh];simp[Bk.appf,hget]
def sorF.ar:List PK->Option FE
 |[.val (.fn 224 [] [.ref [.mp ⟨true,[.int .i64,.int .i64]⟩ z]]),.val (.fn 161 [] [])]=>FQ (Er Ab.d) (PL Ck) z
 |_=>none
def sorF.ae(op:FE):List PK:=[.val (eO op),.val (.fn 161 [] [])]
def sorF.le: ∀z a,sorF.ar z=some a->BA z (sorF.ae a):=by
 intro z a h;unfold sorF.ar at h;split at h
 .exact⟨Qq ⟨Qm (C6.leP ⟨Sf (xW Qwu (nU DU (λ_=>rfl)) _ _ h),trivial⟩),trivial⟩,Cg.refl _,trivial⟩
 .cases h
def sorF.fv(op:FE):List Ab:=BQ (op.map Prod.fst)
def sorF.row:A7:=K2 sorF.ar (λop=>(op.map Prod.fst).Nodup/\op.length<=1000000) (λop=> .sl false 2 ((sorF.fv op).map Ab.c))
def sorF.q:=uH sorF.row rfl
def sorF.ok:AA Tryz.prog 197 sorF.row:=by
 refine Quy (by kernel_rfl) sorF.le (rc:=PL Ab.d) (re:=λb=> .sl false 2 (b.map Ab.c)) (nU Ab.d_le (λ_=>rfl)) (f:=sorF.fv) (λop Q C S vs RR hW Z O=> ?_);obtain⟨ad,hb⟩:=Q;simp only[sorF.ae,Es] at Z;obtain⟨v1,r1,ai,ag,v2,r2,rfl,ah,rfl⟩:=Z;have ab:vs= #[v1,v2]:=by apply N4;simpa using ai
 subst ab;have G:=WG hb hW (v1:=v1) ⟨v1,[],rfl,ag,rfl⟩
 go_enter Tryz.func197,Tryz.ntmps197
 have aa: ∀S1:Ay,Aa S1 (.im (.fn 161 [] [])) v2:=λS1=>by simpa only[Js,Aa,rd,rdl] using ah
 have af: ∀(z:AX) (S1:Ay) (l:List Ab) (m:Nat) (v:Value),Wf z S1->l.Perm (op.map Prod.fst)->S1.h m=some (true,.arr 96 2 (l.map Ab.c))->Aa S1 (.own m) v->
  Calls Tryz.prog 223 #[v,v2] S1.w (λe w=> ∃u S',e= .returned u/\S'.w=w/\Wf z S'/\S'.h m=some (true,.arr 96 2 ((sorF.fv op).map Ab.c))/\Aa S' (.own m) v):=by
  intro z S1 l m v g4 g5 g6 g7;refine OU g4 (g5.nodup_iff.2 ad) g6 g7 (aa S1) (λu S' h1 h2 h3=>⟨u,S',rfl,rfl,h1,?_,h3⟩)
  have:BQ l=BQ (op.map Prod.fst):=aP (Ni _) (Ni _) (λq=>by rw[J1,J1];exact g5.mem_iff)
  rw[h2,this];rfl
 go_wp2_with (first
  |(go_at_call 222;refine G.mono ?_;rintro e w' ⟨v,rfl,z,S1,l,m,rfl,g1,g2,g3,g4,g5,g6,g7⟩)
  |(go_at_call 223;refine (af z S1 l m v g4 g5 g6 g7).mono ?_;rintro e w' ⟨u,S',rfl,rfl,h1,h2,h3⟩))
 show RR (.returned v) S'.w;obtain⟨d,rfl,ac⟩:=Qzf (K:=λd=>d= .sl false 2 ((sorF.fv op).map Ab.c)) g3 h1 (x:= .own m) (by
  simp only[NU,h2,eF];exact⟨by intro row hr;obtain⟨p,_,rfl⟩:=Bm.1 hr;rfl,trivial⟩) h3
 exact O v z S' _ g1 g2 g3 h1 (by simp only[Bv,PL,Ab.d_R]) ac
def Bj.ca(_:FE):List AV:=[.mp 0]
def Bj.H0(a:FE):Ap:=[(0,(true,.map tB (a.map CO)))]
def Bj.H1(_:FE):Ap:=[(1,(true,.cells 153 [.mp 0]))]
def Bj.r0(_:FE):AV:= .clo 224 [] [.ptr 1 0]
def Bj.row:A7:=AF Bj.ca Bj.H0 1 (λ_=>True) (λ_=>false) Bj.r0 Bj.H1 1
def Bj.ok:AA Tryz.prog 198 Bj.row:=by
 refine ow tN Tryz.func198 rfl (by kernel_rfl) (exB:=λj=>j==1) (R:=λa r=>r=Bj.r0 a) (λ_=>rfl)
  (λa=>by simp[Bj.ca,Bj.H0,Av,AV.bel,Ac,A9,BK,Ad.nms,Am,hget]) (λa p hp=> ?_) (λa r h=>by subst h;exact C8.refl _) ?_
 rotate_left
 intro a z;simp only[Tryz.f198,Bj.ca,Bj.H0,Bj.H1,Bj.r0];simp(disch:=omega)only[ZA,simprocAttr];simp[Bj.H1] at hp;subst hp;exact .inr ⟨by omega,by omega,rfl,rfl⟩
end Go.Ae
namespace Go.Ae
open Go.Proofs
def LA{β:Type}{v:β}{p:Ab}: ∀{t:List (Ab×β)},B7 t p=some v->(p,v)∈t
 |(q,w)::r,h=>by
  simp only[B7] at h;split at h
  .rename_i e;obtain rfl:=AE h;rw[e];exact BM ..
  .exact BR _ (LA h)
def mY{β:Type}{p:Ab}: ∀{t:List (Ab×β)},B7 t p=none->p∉t.map Prod.fst
 |[],_=>by simp
 |(q,w)::r,h=>by
  simp only[B7] at h;split at h
  .cases h
  .rename_i e;simp only[Bd,Bi,Zl];exact⟨e,mY h⟩
def RX(a:FE)(j:Nat):Am (Bj.H0 a) j=true↔j<1:=by
 simp only[Am,Bj.H0,hget];by_cases h0:j=0
 .subst h0;simp
 .have z:(0==j)=false:=by simp;omega
  simp[z];omega
def lisC.r0(a:BZ):AV:= .im (.sl false 3 ((Gq a.Op).map AJ.c))
def lisC.row:A7:=AF asmC.ca BN 3 (λa=>(a.Op.map Prod.fst).Nodup/\a.Op.length<=1000000/\ ∀q∈a.Op,q.2.length<=1000) (λ_=>false) lisC.r0 (λ_=>[]) 20
def lisC.ok:AA Tryz.prog 155 lisC.row:=by
 refine SR (tC Bj.ok (tC sorF.ok tN)) Tryz.func155 rfl (by kernel_rfl) (exB:=λ_=>false) (R:=λa r=>r=lisC.r0 a) (λ_=>rfl)
  (λa=>by simp[asmC.ca,BN,Cs,Av,AV.bel,Ac,A9,BK,Ad.nms,AC,AV.nms,Am,hget]) (λa p hp=> ?_) (λa r h=>by subst h;exact C8.refl _) ?_
 rotate_left
 intro a ab;simp only[Tryz.f155,asmC.ca,BN,Cs];simp(disch:=omega)only[ZA,simprocAttr];obtain⟨Z,aa,af⟩:=ab;refine AF.os a.Op [2] trivial (λj=>RX _ j) rfl rfl ?_ ?_
 .simp(disch:=omega)only[ZA,simprocAttr,D5,Bj.ca,Bj.H0,Eh];rfl
 simp(disch:=omega)only[ZA,simprocAttr,CB,sorF.q,sorF.ar,sorF.fv,D5,Bj.H1,Bj.r0];obtain⟨L,hL⟩: ∃L,L=BQ (a.Op.map Prod.fst):=⟨_,rfl⟩;obtain⟨g,hg⟩: ∃g:Ab->List Int,g=λp=>(B7 a.Op p).getD []:=⟨_,rfl⟩
 have ad:Gq a.Op=Cq g L:=by rw[hg,hL];rfl
 refine⟨⟨Z,aa⟩,?_⟩;simp only[<-hL];intro ag;refine AR.ren ⟨{i:Nat//i<=L.length},λi=>⟨[(15,.im (.int .i64 i.1)),(14,.im (.int .i64 L.length)),(13,.im (.sl false 2 (L.map Ab.c))),(3,.own 6),(0,.ptr 0 0)],[(6,(true,.arr 108 3 ((DS g L i.1).map AJ.c))),(0,(true,.cells 155 (Cs a.Sys))),(1,(true,.map ⟨true,[.int .i64,.int .i64]⟩ (a.Tl.map Et))),(2,(true,.map ⟨true,[.int .i64,.int .i64]⟩ (a.Op.map CO)))],7⟩,λi=>L.length - i.1,λi=>⟨by simp[Aj.good,An,Ac,A9,AV.bel,Av,Cs],by simp⟩,⟨⟨0,CF _⟩,[(6,some 4)],?_⟩,λi=> ?_⟩
 .simp only[A8,Cs];simp(disch:=omega)only[ZA,simprocAttr,Bz,DS,Cq]
  try simp
 obtain⟨i,hi⟩:=i;simp only[Cs];simp(disch:=omega)only[ZA,simprocAttr,F3,AP,Xt];have z: ∀p,(g p).length<=1000:=λp=>by
  rw[hg];simp only;cases hq:B7 a.Op p with
  |none=>simp
  |some v=>exact af _ (LA hq)
 have ah:L.length<=1000000:=by rw[hL,(aS Z).length_eq,FM];exact aa
 have ai:(DS g L i).length<=1000000*1000:=by
  have:=V8 z (L.take i)
  have h9:(L.take i).length*1000<=1000000*1000:=Hq _ (by simp;omega);simp only[DS];omega
 refine⟨λO=>⟨O,λp hp=>⟨λv hv=> ?_,λhv=> ?_⟩⟩,λO=> ?_⟩
 .have G:g p=v:=by rw[hg];simp only[hv,AQ]
  have ac:=z p;rw[G] at ac;refine AR.ren ⟨{k:Nat//k<=v.length},λk=>⟨[(26,.im (.int .i64 k.1)),(25,.im (.int .i64 v.length)),(24,.im (.sl false 1 (v.map Al))),(5,.ptr 7 0),(15,.im (.int .i64 i)),(14,.im (.int .i64 L.length)),(13,.im (.sl false 2 (L.map Ab.c))),(3,.own 8),(0,.ptr 0 0)],[(8,(true,.arr 108 3 ((DS g L i++(v.take k.1).map (Of p)).map AJ.c))),(7,(true,.cells 96 ((Ab.c p).map .im))),(0,(true,.cells 155 (Cs a.Sys))),(1,(true,.map ⟨true,[.int .i64,.int .i64]⟩ (a.Tl.map Et))),(2,(true,.map ⟨true,[.int .i64,.int .i64]⟩ (a.Op.map CO)))],9⟩,λk=>v.length - k.1,λk=>⟨by simp[Aj.good,An,Ac,A9,AV.bel,Av,Cs,Ab.c],by simp⟩,⟨⟨0,CF _⟩,[(8,some 6)],?_⟩,λk=> ?_⟩
  .simp only[A8,Cs];simp(disch:=omega)only[ZA,simprocAttr,Bz]
   try simp
  obtain⟨k,hk⟩:=k;simp only[Cs];simp(disch:=omega)only[ZA,simprocAttr,D5,AP,Nf,Na,uL,BC,D.one,Dn];refine⟨λQ=>⟨Q,λx hx=>⟨?_,⟨k+1,by omega⟩,[(8,some 10)],by simp only;omega,?_⟩⟩,λQ=>⟨⟨i+1,by omega⟩,[(6,some 8)],by simp only;omega,?_⟩⟩
  .have:(v.take k).length<=1000:=by simp;omega
   omega
  .simp only[A8];simp(disch:=omega)only[ZA,simprocAttr,Bz];refine⟨by rw[AG (by omega) (by omega)];rfl,?_⟩;rw[YV hx];simp[Of,AJ.c]
  .obtain rfl:k=v.length:=by omega
   simp only[A8];simp(disch:=omega)only[ZA,simprocAttr,Bz];refine⟨by rw[AG (by omega) (by omega)];rfl,?_⟩;rw[mQ hp,HJ,G]
 .exfalso
  have:p∈L:=AY hp
  rw[hL,J1] at this;exact mY hv this
 .obtain rfl:i=L.length:=by omega
  have hA:DS g L L.length=Gq a.Op:=by rw[DS,HJ,ad]
  rw[hA];refine⟨[6],[],⟨[(2,.im (.sl false 3 ((Gq a.Op).map AJ.c)))],[(0,(true,.cells 155 (Cs a.Sys))),(1,(true,.map ⟨true,[.int .i64,.int .i64]⟩ (a.Tl.map Et))),(2,(true,.map ⟨true,[.int .i64,.int .i64]⟩ (a.Op.map CO)))],3⟩,?_,by simp[Aj.good,An,Ac,A9,AV.bel,Av,Cs],by simp,?_⟩
  .simp only[A8,Cs];simp(disch:=omega)only[ZA,simprocAttr,Bz]
  .simp only[Cs];simp(disch:=omega)only[ZA,simprocAttr,lisC.r0]
 simp at hp
def schB1.fv(a:Int):Bool:=(DX) a
def schB1.row:A7:=vK (b1 qI) rB (λa=>True) schB1.fv
def schB1.q:=AU (R:=schB1.row) rfl
def schB1.ok:AA Tryz.prog 101 schB1.row:=by
 refine vw (tC within_.ok tN) Tryz.func101 rfl (by kernel_rfl) ?_;intro a z;simp only[Tryz.f101];simp(disch:=omega)only[ZA,simprocAttr,schB1.fv,within_.q,within_.fv];rfl
def IdxSc.ar:List PK->Option ((List Int)×Unit)
 |[.val (.sl _ _ z),.val (.fn 101 [] [])]=>(AO Ck z).bind λG=>some (G,())
 |_=>none
def IdxSc.ae(a:(List Int)×Unit):List PK:=[.val (.sl false 1 (a.1.map Al)),.val (.fn 101 [] [])]
def IdxSc.le: ∀z a,IdxSc.ar z=some a->BA z (IdxSc.ae a):=by
 intro z a h;unfold IdxSc.ar at h;split at h
 .simp only[Eg,AI] at h;obtain⟨G,h0,rfl⟩:=h;exact⟨DV (DP DU _ _ h0) (by simp only[Bm];rintro r ⟨y,_,rfl⟩;rfl),Cg.refl _,trivial⟩
 .cases h
def IdxSc.fv(a:(List Int)×Unit):Int:=(λl _=>Bn DX 0 l) (a.1) (a.2)
def IdxSc.row:A7:=CU IdxSc.ar (λa=>True) (λa=>(D.int .i64) (IdxSc.fv a))
def IdxSc.q:=vq IdxSc.row rfl
def IdxSc.ok:AA Tryz.prog 150 IdxSc.row:=by
 refine PS C9 (tC schB1.ok tN) Tryz.func150 rfl (by kernel_rfl) (by kernel_rfl) (ar:=IdxSc.ar) (ae:=IdxSc.ae) IdxSc.le (n:=2) (λ_=>rfl) (by decide) (rc:=(Dj)) (re:=(D.int .i64)) (Kt) (f:=IdxSc.fv) ?_;intro a O;simp only[Tryz.f150];simp(disch:=omega)only[ZA,simprocAttr,IdxSc.ae,IdxSc.fv];intro hn;refine AR.old ⟨{k:Nat//k<=a.1.length/\Bn DX k (a.1.drop k)=Bn DX 0 a.1},λk=>⟨[(8,.im (.int .i64 k.1)),(7,.im (.int .i64 a.1.length)),(6,.im (.sl false 1 (a.1.map Al))),(4,.im (.int .i64 0)),(0,.im (.sl false 1 (a.1.map Al))),(1,.im (.fn 101 [] []))],[],0⟩,λk=>a.1.length - k.1,λk=>⟨by simp[Aj.good,An,Ac,A9,AV.bel],AN _⟩,⟨⟨0,by simp⟩,by simp(disch:=omega)only[ZA,simprocAttr,sub]⟩,λk=> ?_⟩;obtain⟨k,Q,z⟩:=k;simp(disch:=omega)only[ZA,simprocAttr,schB1.q,schB1.fv,sub,AP];refine⟨λG=>⟨G,λx Z=> ?_⟩,λG=> ?_⟩
 .rw[Eu Z,Bn] at z;refine⟨λh=> ?_,λh=>F2 G hn ⟨by omega,by rw[<-z,Ag (by simpa using h)]⟩⟩;rw[Ao (by simpa using h)] at z;exact z
 .rw[CZ (by omega),Bn] at z;exact z
def ContSc.ar:List PK->Option ((List Int)×Unit)
 |[.val (.sl _ _ z),.val (.fn 101 [] [])]=>(AO Ck z).bind λG=>some (G,())
 |_=>none
def ContSc.ae(a:(List Int)×Unit):List PK:=[.val (.sl false 1 (a.1.map Al)),.val (.fn 101 [] [])]
def ContSc.le: ∀z a,ContSc.ar z=some a->BA z (ContSc.ae a):=by
 intro z a h;unfold ContSc.ar at h;split at h
 .simp only[Eg,AI] at h;obtain⟨G,h0,rfl⟩:=h;exact⟨DV (DP DU _ _ h0) (by simp only[Bm];rintro r ⟨y,_,rfl⟩;rfl),Cg.refl _,trivial⟩
 .cases h
def ContSc.fv(a:(List Int)×Unit):Bool:=(λl _=>l.any DX) (a.1) (a.2)
def ContSc.row:A7:=CU ContSc.ar (λa=>True) (λa=>(D.bool) (ContSc.fv a))
def ContSc.q:=vq ContSc.row rfl
def ContSc.ok:AA Tryz.prog 100 ContSc.row:=by
 refine PS C9 (tC IdxSc.ok tN) Tryz.func100 rfl (by kernel_rfl) (by kernel_rfl) (ar:=ContSc.ar) (ae:=ContSc.ae) ContSc.le (n:=2) (λ_=>rfl) (by decide) (rc:=(Po)) (re:=(D.bool)) (Y0) (f:=ContSc.fv) ?_;intro a z;simp only[Tryz.f100];simp(disch:=omega)only[ZA,simprocAttr,ContSc.ae,ContSc.fv,IdxSc.q,IdxSc.ar,IdxSc.fv];exact xM _ _
def vSch_.fv(a:(List Int)):Bool:=(DT) a
def vSch_.row:A7:=vK (b1 (qS DU Dc)) rB (λa=>True) vSch_.fv
def vSch_.q:=AU (R:=vSch_.row) rfl
def vSch_.ok:AA Tryz.prog 52 vSch_.row:=by
 refine vw (tC ContSc.ok tN) Tryz.func52 rfl (by kernel_rfl) ?_;intro a z;simp only[Tryz.f52];simp(disch:=omega)only[ZA,simprocAttr,vSch_.fv,ContSc.q,ContSc.ar,ContSc.fv];intro _;simp only[DT];by_cases c:a.length<=200
 .rw[Ao (by omega),Zh c,CP]
 .rw[Ag (by omega),dN c,Ei]
def sel1_.fv(a:Int×Int×(List Int)):Int:=(λn k l=>(FW l n.toNat k.toNat:Int)) (a.1) (a.2.1) (a.2.2)
def sel1_.row:A7:=vK (b3 qI qI (qP 1 cB)) rI (λa=>1<=a.1/\a.1<=1000000/\0<=a.2.1/\a.2.1<=1000/\DT a.2.2=true) sel1_.fv
def sel1_.q:=AU (R:=sel1_.row) rfl
def sel1_.ok:AA Tryz.prog 154 sel1_.row:=by
 refine vw tN Tryz.func154 rfl (by kernel_rfl) ?_;intro a z;simp only[Tryz.f154];simp(disch:=omega)only[ZZ,simprocAttr,sel1_.fv];obtain⟨n,k,l⟩:=a;obtain⟨h1,h2,Q,h4,Z⟩:=z;simp only at h1 h2 Q h4 Z⊢;obtain⟨n,rfl⟩: ∃m:Nat,n=m:=⟨n.toNat,by omega⟩;obtain⟨k,rfl⟩: ∃m:Nat,k=m:=⟨k.toNat,by omega⟩;intro _;by_cases c:(l.length:Int)=0
 .rw[Ao c];simp only[FW];rw[Ao (by omega)];rfl
 rw[Ag c];refine⟨c,zA _ Q,yP _ (by omega),λx G=>⟨by omega,?_⟩⟩;have O:=nK Z (AY G);rw[dC (by omega),<-Int.natCast_emod,Bt] at G;simp only[FW,Bt];rw[Ag (by omega),G,AQ,dC O.1,Int.toNat_of_nonneg (Int.emod_nonneg _ (by omega))]
def slD:D->Option (List Int)
 | .fn g [] [.ref ds]=>if g=154 then P3 ds else none
 |_=>none
def fW: ∀d b,slD d=some b->Le d (.fn 154 [] [.ref (C4 b)]):=by
 intro d b h;unfold slD at h;split at h
 .rename_i g ds;split at h
  .rename_i z;subst z;refine Qq ?_;exact⟨Qm (cB _ _ h).leP,trivial⟩
  .cases h
 .cases h
def sel_.fv(a:(List Int)):List Int:=(λl=>l) a
def sel_.row:A7:=vK (b1 (qS DU Dc)) (RK.mk (slD) (λa=>D.fn 154 [] [.ref (C4 a)]) (fW)) (λa=>True) sel_.fv
def sel_.q:=AU (R:=sel_.row) rfl
def sel_.ok:AA Tryz.prog 108 sel_.row:=by
 refine vw tN Tryz.func108 rfl (by kernel_rfl) ?_;intro a z;simp only[Tryz.f108];simp(disch:=omega)only[ZA,simprocAttr,sel_.fv];refine .inl ?_;show (if 154=154 then P3 (C4 a) else none)=some a;rw[Ao rfl,Mv]
def asmX.ca(l:List Ak):List AV:=[.im (.sl false 3 (l.map Ak.c))]
def asmX.H1(l:List Ak):Ap:=[(0,(true,.arr 137 3 ((Fg l).map Ak.c)))]
def asmX.r0(_:List Ak):AV:= .agg [.own 0]
def asmX.row:A7:=AF asmX.ca (λ_=>[]) 0 (λl=>(l.map Ak.At).Nodup/\l.length<=1000000) (λ_=>false) asmX.r0 asmX.H1 20
def asmX.ok:AA Tryz.prog 111 asmX.row:=by
 refine SR (tC clonC.ok (tC srt.ok tN)) Tryz.func111 rfl (by kernel_rfl) (exB:=λj=>j==0) (R:=λa r=>r=asmX.r0 a) (λ_=>rfl)
  (λa=>by simp[asmX.ca,Av,AV.bel,Ac,A9,BK]) (λa p hp=> ?_) (λa r h=>by subst h;exact C8.refl _) ?_
 rotate_left
 intro a z;simp only[Tryz.f111,asmX.ca,asmX.H1];simp(disch:=omega)only[ZA,simprocAttr];refine AF.os a [] z.2 (λj=>by simp[Am,hget]) rfl rfl ?_ ?_
 .simp(disch:=omega)only[ZA,simprocAttr,clonC.ca,D3]
 simp(disch:=omega)only[ZA,simprocAttr,clonC.H1];refine AF.os a [1] z.1 (λj=> ?_) rfl rfl ?_ ?_
 .simp only[Am,srt.H0,hget];by_cases G:j=0
  .subst G;simp
  .have:(0==j)=false:=by simpa using λh=>G h.symm
   rw[this];simp;omega
 .simp(disch:=omega)only[ZA,simprocAttr,D5,srt.ca,srt.H0,D3]
  try exact⟨rfl,rfl⟩
 simp(disch:=omega)only[ZA,simprocAttr,F3,D5,srt.H1,Eh,G6];refine⟨[],[(1,some 0),(0,some 1)],⟨[(2,.ptr 1 0)],[(1,(true,.cells 39 [.own 0])),(0,(true,.arr 137 3 ((Fg a).map Ak.c)))],2⟩,?_,by simp[Aj.good,An,Ac,A9,AV.bel,Av],by simp,?_⟩
 .simp only[A8];simp(disch:=omega)only[ZA,simprocAttr,Bz]
  try simp
 .simp(disch:=omega)only[ZA,simprocAttr,asmX.r0]
 simp[asmX.H1] at hp;subst hp;exact .inr ⟨by omega,by omega,rfl,rfl⟩
def asmXV.ar:List PK->Option (List Ak):=a1 (kS Ak.d)
def asmXV.row:A7:=DQ asmXV.ar (λl=>(l.map Ak.At).Nodup/\l.length<=1000000) asmX.r0 asmX.H1 20
def asmXV.ok:AA Tryz.prog 111 asmXV.row:=
 lY (A:=List Ak) (ca:=λ(a:List Ak)=>[D.sl false 3 (a.map Ak.c)]) (by kernel_rfl) asmX.ok (λ_=>rfl) (Zm (L5 3 Ak.d_le (λ_=>rfl)))
  (λa=>by simp[asmX.r0,HU,Ee,AV.nms,AC])
  (λa p hp=>by
   simp only[asmX.H1,BE] at hp;subst hp;exact⟨by omega,rfl,by simp[Jm,Ak.c,D.sc],by simp[Ad.nms]⟩)
def DQ.os{A:Type}{ar:List PK->Option A}{pre:A->Prop}{r0:A->AV}{H1:A->Ap}{cnt:Nat}{args:List AV}{h:Nat->Option Aq}{nx:Nat}{K:Ai}(ps:List PK)(G:Ce h args=some ps)(a:A)(Q:ar ps=some a)(z:pre a)
 (O:K ((r0 a).ren (BT (λj=>j) 0 nx)) {use:=EG h args,new:=AW (BT (λj=>j) 0 nx) (H1 a),cnt:=cnt}):DQ ar pre r0 H1 cnt args h nx K:=by
 unfold DQ;rw[G];simp only[PW,Q,DK];exact⟨z,O⟩
def tQ{h:Nat->Option Aq}{o T k:Nat}{z:Bool}{rows:List (List D)}(g:h o=some (z,.arr T k rows)):Ce h [.own o]=some [.val (.sl false k rows)]:=by
 simp only[Ce,Ed,bk,g,K9,EZ,GY,Ds]
def asmCX.H1(a:BZ):Ap:=[(1,(false,.map ⟨true,[.int .i64,.int .i64]⟩ (a.Tl.map Et))),(3,(true,.arr 137 3 ((W5 a.Tl).Tiles.map Ak.c)))]
def asmCX.row:A7:=AF asmC.ca BN 3 (λa=>(a.Tl.map Prod.fst).Nodup/\a.Tl.length<=100000) klA (λ_=> .agg [.own 3]) asmCX.H1 20
def asmCX.ok:AA Tryz.prog 56 asmCX.row:=by
 refine SR (tC asmXV.ok tN) Tryz.func56 rfl (by kernel_rfl) (exB:=λj=>j==3) (R:=λ_ r=>r= .agg [.own 3]) (λ_=>rfl)
  (λa=>by simp[asmC.ca,BN,Cs,Av,AV.bel,Ac,A9,BK,Ad.nms,AC,AV.nms,Am,hget]) (λa p hp=> ?_) (λa r h=>by subst h;exact C8.refl _) ?_
 rotate_left
 intro a G;simp only[Tryz.f56,asmC.ca,BN,Cs,asmCX.H1];simp(disch:=omega)only[ZA,simprocAttr];obtain⟨ab,af⟩:=G;refine AR.ren ⟨{s:Option (D×D)×List (Ab×Int)×List Ak//(s.2.2++s.2.1.map Dy).Perm (a.Tl.map Dy)},λs=>⟨[(10,.it 5),(3,.own 6),(2,.ptr 3 0),(0,.ptr 0 0)],[(6,(true,.arr 137 3 (s.1.2.2.map Ak.c))),(5,(true,.iter s.1.1 (s.1.2.1.map Et))),(3,(true,.cells 39 [.im (.sl true 0 [])])),(0,(true,.cells 155 (Cs a.Sys))),(1,(false,.map ⟨true,[.int .i64,.int .i64]⟩ (a.Tl.map Et))),(2,(true,.map ⟨true,[.int .i64,.int .i64]⟩ (a.Op.map CO)))],7⟩,λs=>s.1.2.1.length,λs=>⟨by simp[Aj.good,An,Ac,A9,AV.bel,Av,Cs],by simp⟩,⟨⟨(none,a.Tl,[]),by simp⟩,[(6,some 4)],?_⟩,λs=> ?_⟩
 .simp only[A8,Cs];simp(disch:=omega)only[ZA,simprocAttr]
  try simp
 obtain⟨⟨ad,left,z⟩,O⟩:=s;simp only at O;simp only[Cs];simp(disch:=omega)only[ZA,simprocAttr];refine⟨λhl=> ?_,λi p hp=> ?_⟩
 .have aa:left=[]:=by simpa using hl
  subst aa;rw[GR,DA] at O;obtain⟨r1,r2,r3⟩:=NB ab O;refine DQ.os [.val (.sl false 3 (z.map Ak.c))] (tQ rfl) z (by simp only[asmXV.ar,a1,kS,Ak.d_R,EN]) ⟨r2,by omega⟩ ?_;simp(disch:=omega)only[ZA,simprocAttr,CB,F3,asmX.r0,asmX.H1,r1];refine⟨[],[(3,some 7),(4,some 3)],⟨[(2,.ptr 4 0)],[(4,(true,.cells 39 [.own 3])),(3,(true,.arr 137 3 ((W5 a.Tl).Tiles.map Ak.c))),(0,(true,.cells 155 (Cs a.Sys))),(1,(false,.map ⟨true,[.int .i64,.int .i64]⟩ (a.Tl.map Et))),(2,(true,.map ⟨true,[.int .i64,.int .i64]⟩ (a.Op.map CO)))],5⟩,?_,by simp[Aj.good,An,Ac,A9,AV.bel,Av,Cs],by simp,?_⟩
  .simp only[A8,Cs];simp(disch:=omega)only[ZA,simprocAttr,Bz]
   try simp[W5]
  .simp only[Cs];simp(disch:=omega)only[ZA,simprocAttr,klA]
   try simp
 .rw[D9] at hp;cases hq:left[i]? with
  |none=>rw[hq] at hp;cases hp
  |some q=>
   rw[hq] at hp;obtain rfl:=AE hp;obtain⟨⟨Z,qy⟩,Q⟩:=q;simp only[Et,Ab.c];simp(disch:=omega)only[ZA,simprocAttr,Jq,Eh,G6];have hi:i<left.length:=by
    rcases EO i left.length with h|h
    .exact h
    .rw[F7 h] at hq;cases hq
   have ac:((⟨Z,qy⟩,Q)::left.eraseIdx i).Perm left:=Qqq _ _ _ hq;have hP:((z++[(⟨⟨Z,qy⟩,Q⟩:Ak)])++(left.eraseIdx i).map Dy).Perm (a.Tl.map Dy):=by
    rw[HP];refine (List.Perm.append_left z ?_).trans O;exact ac.map Dy
   have hcl:z.length<=a.Tl.length:=by
    have r3:=O.length_eq;simp at r3;omega
   refine⟨by omega,⟨⟨(some (D.agg [.int .i64 Z,.int .i64 qy],D.int .i64 Q),left.eraseIdx i,z++[(⟨⟨Z,qy⟩,Q⟩:Ak)]),hP⟩,[(6,some 9)],?_,?_⟩⟩
   .simp only[ZeY];rw[Ao hi];omega
   .simp only[A8];simp(disch:=omega)only[ZA,simprocAttr];simp[Ak.c,Qwf]
 simp[asmCX.H1] at hp;rcases hp with rfl|rfl
 .exact .inl ⟨by omega,rfl,rfl⟩
 .exact .inr ⟨by omega,by omega,rfl,rfl⟩
def XJ{s:Az}{t:List (Ab×Int)}{a:Ah}{k:Nat}{o:AJ}(h:RM t a k)(Z:Hm s.Set a)(c1:FP s a o=true):B7 t o.At=none/\0<=o.Tile:=by
 simp only[FP,AS,Ch] at c1;obtain⟨d1,z,G,_⟩:=c1;have hv:0<=o.Tile:=by
  simp only[Bq,AS,Ch] at z;exact z.1
 refine⟨?_,hv⟩;have O:CA t o.At=Bu a o.At:=congrFun h.at o.At;have h2:=(VB Z.2 o.At).1 G;cases hq:B7 t o.At with
 |none=>rfl
 |some v=>
  exfalso;have Q:=h.pos _ (ZP hq);simp only[CA,hq,AQ] at O;simp only at Q;omega
def G9(s:Az)(b:Ah)(c:BZ):Prop:=c.Sys=s/\(∃n,RM c.Tl b n)/\MP s (CA c.Tl) c.Op/\Hm s.Set b/\b.Tiles.length<=500/\Cu s.Set/\1<=s.Temperature/\s.Set.Tiles.length<=160
def G9.put{s:Az}{b:Ah}{c:BZ}(h:G9 s b c){o:AJ}(G:FP s b o=true)(hl:b.Tiles.length<500):G9 s (C7 b o.At o.Tile) (GD c o.At o.Tile):=by
 obtain⟨rfl,⟨n,z⟩,O,hb,h5,h1,hT,Q⟩:=h;obtain⟨Z,f2⟩:=XJ z hb G;obtain⟨z1,z2,z3,z4,z5,z6⟩:=lJ G;exact⟨rfl,⟨_,z.put f2 Z⟩,fJ O z3,QQ Q hb G,by rw[Nk];omega,h1,hT,Q⟩
def Fs(l:List Int):Nat->BZ->Ah->List AJ->BZ×Ah×List AJ×Bool
 |0,c,b,d=>(c,b,d,true)
 |n+1,c,b,d=>match Gl c.Sys l b d.length with
  |none=>(c,b,d,true)
  |some o=>if 500<=b.Tiles.length then (c,b,[],false) else Fs l n (GD c o.At o.Tile) (C7 b o.At o.Tile) (d++[o])
def Lp{s:Az}{l:List Int}: ∀(n:Nat) (c:BZ) (b:Ah) (d:List AJ),G9 s b c->((Fs l n c b d).2.2.2=true/\FA s l n b d=((Fs l n c b d).2.2.1,(Fs l n c b d).2.1,0)/\G9 s (Fs l n c b d).2.1 (Fs l n c b d).1)\/((Fs l n c b d).2.2.2=false/\(Fs l n c b d).2.2.1=[]/\FA s l n b d=([],⟨[]⟩,4))
 |0,c,b,d,h=> .inl ⟨rfl,rfl,h⟩
 |n+1,c,b,d,h=>by
  have G:c.Sys=s:=h.1;rw[Fs,FA,G];cases ho:Gl s l b d.length with
  |none=>exact .inl ⟨rfl,rfl,h⟩
  |some o=>
   simp only;by_cases z:500<=b.Tiles.length
   .rw[Ao z,Ao z];exact .inr ⟨rfl,rfl,rfl⟩
   .rw[Ag z,Ag z];exact Lp n _ _ _ (h.put (VH h.2.2.2.1 ho) (by omega))
def Lv(s:Az)(l:List Int): ∀(n:Nat) (b:Ah) (d:List AJ),b.Tiles.length<=500->(FA s l n b d).1.length<=d.length+n/\(FA s l n b d).2.1.Tiles.length<=500
 |0,b,d,h=>by simp[FA,h]
 |n+1,b,d,h=>by
  rw[FA];split
  .exact⟨by simp only;omega,h⟩
  .split
   .simp
   .have:=Lv s l n (C7 b ‹AJ›.At ‹AJ›.Tile) (d++[‹AJ›]) (by rw[Nk];omega)
    simp only[Dn,ZdX] at this;exact⟨by omega,this.2⟩
def Fw(l:List Int)(c:BZ)(b:Ah)(k:Nat):BZ:=
 match Gl c.Sys l b k with
 |none=>c
 |some o=>if 500<=b.Tiles.length then c else GD c o.At o.Tile
def FT(l:List Int)(c:BZ)(b:Ah)(k:Nat):D:=
 match Gl c.Sys l b k with
 |none=> .tup [.agg [.int .i64 0,.int .i64 0,.int .i64 0],.tok 0]
 |some o=>if 500<=b.Tiles.length then .tup [.agg [.int .i64 0,.int .i64 0,.int .i64 0],.tok 1] else .tup [.agg (AJ.c o),.nili]
def nxtC.ca(a:BZ×Ah×List Int×Nat):List AV:=[.ptr 0 0,.im (.fn 154 [] [.ref [.sl false 1 (a.2.2.1.map Al)]]),.im (.int .i64 a.2.2.2)]
def nxtC.H1(a:BZ×Ah×List Int×Nat):Ap:=[(1,(true,.map ⟨true,[.int .i64,.int .i64]⟩ ((Fw a.2.2.1 a.1 a.2.1 a.2.2.2).Tl.map Et))),(2,(true,.map ⟨true,[.int .i64,.int .i64]⟩ ((Fw a.2.2.1 a.1 a.2.1 a.2.2.2).Op.map CO)))]
def nxtC.r0(a:BZ×Ah×List Int×Nat):AV:= .im (FT a.2.2.1 a.1 a.2.1 a.2.2.2)
def nxtC.row:A7:=AF nxtC.ca (λa=>BN a.1) 3 (λa=>G9 a.1.Sys a.2.1 a.1/\DT a.2.2.1=true/\a.2.2.2<=1000) DF nxtC.r0 nxtC.H1 0
def nxtC.ok:AA Tryz.prog 109 nxtC.row:=by
 refine ow (tC lisC.ok (tC sel1_.ok (tC putC.ok tN))) Tryz.func109 rfl (by kernel_rfl) (exB:=λ_=>false) (R:=λa r=>r=nxtC.r0 a) (λ_=>rfl)
  (λa=>by simp[nxtC.ca,BN,Cs,Av,AV.bel,Ac,A9,BK,Ad.nms,AC,AV.nms,Am,hget]) (λa p hp=> ?_) (λa r h=>by subst h;exact C8.refl _) ?_
 rotate_left
 intro a Q;simp only[Tryz.f109,nxtC.ca,BN,Cs,nxtC.H1];simp(disch:=omega)only[ZA,simprocAttr];obtain⟨c,b,l,k⟩:=a;obtain⟨hg,hl,hk⟩:=Q;simp only at hg hl hk⊢;obtain⟨_,⟨n,G⟩,ac,hb,h5,h1,hT,h2⟩:=hg;have z:=ac;rw[G.at] at z;obtain⟨l1,l2,l3⟩:=fI hT h5 h2 z;refine AF.os c [0,1,2] l2 (λj=>Jv _ j) rfl rfl ?_ ?_
 .simp(disch:=omega)only[ZA,simprocAttr,D5,BN,Cs,asmC.ca,BN,Cs,Eh,G6]
 simp(disch:=omega)only[ZZ,simprocAttr,sel1_.q,sel1_.fv,DF,lisC.r0,l1];intro _;have ad:=G.size;rw[l1] at l3;split
 .rename_i c1;have aa:=(PX (s:=c.Sys) (l:=l) (b:=b) (k:=k)).2 (Qv.1 (by omega));simp only[nxtC.r0,FT,Fw,aa];trivial
 rename_i c1;obtain⟨o,ho⟩: ∃o,Gl c.Sys l b k=some o:=by
  cases hq:Gl c.Sys l b k with
  |none=>exact absurd (by rw[PX.1 hq];rfl) c1
  |some o=>exact⟨o,rfl⟩
 split
 .rename_i c2;simp only[nxtC.r0,FT,Fw,ho];rw[Ao (by omega),Ao (by omega)];exact⟨rfl,rfl,rfl⟩
 rename_i c2;intro _;refine⟨⟨by omega,by omega,by omega,hl⟩,Mq (by omega),λx hx=> ?_⟩;obtain rfl:o=x:=AE (ho.symm.trans hx);have cS:=VH hb ho;obtain⟨z1,z2,z3,z4,z5,z6⟩:=lJ cS;have O:Zw c.Sys.Set (CA c.Tl):=by rw[G.at];exact λp hp=>QD hb p hp
 have Z:Fw l c b k=GD c o.At o.Tile:=by simp only[Fw,ho];rw[Ag (by omega)]
 have ab:FT l c b k= .tup [.agg (AJ.c o),.nili]:=by simp only[FT,ho];rw[Ag (by omega)]
 refine AF.os (c,o.At,o.Tile) [0,1,2] ⟨⟨h1,O,by simp only;omega⟩,z2,z5⟩ (λj=>Jv _ j) rfl rfl ?_ ?_
 .simp(disch:=omega)only[ZA,simprocAttr,D5,BN,Cs,putC.ca,BN,Cs,Eh,G6]
 simp(disch:=omega)only[ZA,simprocAttr,D5,DF,putC.H1,DF,Eh,G6,Z,nxtC.r0,ab];simp[nxtC.H1] at hp;rcases hp with rfl|rfl
 .exact .inl ⟨by omega,rfl,rfl⟩
 .exact .inl ⟨by omega,rfl,rfl⟩
def growI.ca(a:BZ×Ah×List Int×Nat):List AV:=[.ptr 0 0,.im (.sl false 1 (a.2.2.1.map Al)),.im (.int .i64 a.2.2.2)]
def growI.H1(a:BZ×Ah×List Int×Nat):Ap:=[(1,(true,.map ⟨true,[.int .i64,.int .i64]⟩ ((Fs a.2.2.1 a.2.2.2 a.1 a.2.1 []).1.Tl.map Et))),(2,(true,.map ⟨true,[.int .i64,.int .i64]⟩ ((Fs a.2.2.1 a.2.2.2 a.1 a.2.1 []).1.Op.map CO))),(3,(true,.arr 108 3 ((Fs a.2.2.1 a.2.2.2 a.1 a.2.1 []).2.2.1.map AJ.c)))]
def growI.r0(a:BZ×Ah×List Int×Nat):AV:= .tup [.own 3,.im (.bool (Fs a.2.2.1 a.2.2.2 a.1 a.2.1 []).2.2.2)]
def growI.row:A7:=AF growI.ca (λa=>BN a.1) 3 (λa=>G9 a.1.Sys a.2.1 a.1/\DT a.2.2.1=true/\a.2.2.2<=501) DF growI.r0 growI.H1 20
def growI.ok:AA Tryz.prog 55 growI.row:=by
 refine SR (tC sel_.ok (tC nxtC.ok (tC errIs.ok tN))) Tryz.func55 rfl (by kernel_rfl) (exB:=λj=>j==3) (R:=λa r=>r=growI.r0 a) (λ_=>rfl)
  (λa=>by simp[growI.ca,BN,Cs,Av,AV.bel,Ac,A9,BK,Ad.nms,AC,AV.nms,Am,hget]) (λa p hp=> ?_) (λa r h=>by subst h;exact C8.refl _) ?_
 rotate_left
 intro a aa;simp only[Tryz.f55,growI.ca,BN,Cs,growI.H1];simp(disch:=omega)only[ZZ,simprocAttr,sel_.q,sel_.fv];obtain⟨c,b,l,n⟩:=a;obtain⟨hg,hl,hn⟩:=aa;simp only at hg hl hn⊢;refine AR.ren ⟨{q:BZ×Ah×List AJ//q.2.2.length<=n/\G9 c.Sys q.2.1 q.1/\Fs l (n - q.2.2.length) q.1 q.2.1 q.2.2=Fs l n c b []},λq=>⟨[(9,.own 5),(8,.im (.fn 154 [] [.ref [.sl false 1 (l.map Al)]])),(7,.im (.bool false)),(6,.own 3),(0,.ptr 0 0),(2,.im (.int .i64 n))],[(5,(true,.arr 108 3 (q.1.2.2.map AJ.c))),(3,(true,.arr 108 3 [])),(0,(true,.cells 155 [.im (.sl false 2 (c.Sys.Set.Glues.map Ar.c)),.im (.sl false 2 (c.Sys.Set.Tiles.map Tile.c)),.im (.sl false 3 (c.Sys.Seed.Tiles.map Ak.c)),.im (.int .i64 c.Sys.Temperature),.mp 1,.mp 2])),(1,(true,.map ⟨true,[.int .i64,.int .i64]⟩ (q.1.1.Tl.map Et))),(2,(true,.map ⟨true,[.int .i64,.int .i64]⟩ (q.1.1.Op.map CO)))],6⟩,λq=>n - q.1.2.2.length,λq=>⟨by simp[Aj.good,An,Ac,A9,AV.bel,Av],by simp⟩,⟨⟨(c,b,[]),by simp only;exact⟨CF _,hg,by rw[G5,Zf]⟩⟩,[(5,some 4)],?_⟩,λq=> ?_⟩
 .simp only[A8];simp(disch:=omega)only[ZA,simprocAttr,Bz]
  try simp
 obtain⟨⟨c1,b1,d⟩,e1,e2,e3⟩:=q;simp only at e1 e2 e3;simp(disch:=omega)only[ZA,simprocAttr,F3,AP];have hS:c1.Sys=c.Sys:=e2.1;have z: ∀k,Gl c1.Sys l b1 k=Gl c.Sys l b1 k:=λk=>by rw[hS]
 refine λ_=>⟨λh1 _=> ?_,λh1=> ?_⟩
 .refine AF.os (c1,b1,l,d.length) [0,1,2] ⟨by rw[hS];exact e2,hl,by simp only;omega⟩ (λj=>Jv _ j) rfl rfl ?_ ?_
  .simp(disch:=omega)only[ZA,simprocAttr,D5,BN,Cs,nxtC.ca,BN,Cs,Eh,G6,hS]
  obtain⟨m,hm⟩: ∃m,n - d.length=m+1:=⟨n - d.length - 1,by omega⟩;cases ho:Gl c.Sys l b1 d.length with
  |none=>
   have O:FT l c1 b1 d.length= .tup [.agg [.int .i64 0,.int .i64 0,.int .i64 0],.tok 0]:=by simp only[FT,z,ho]
   have G:Fw l c1 b1 d.length=c1:=by simp only[Fw,z,ho]
   have Q:Fs l n c b []=(c1,b1,d,true):=by rw[<-e3,hm,Fs,z,ho]
   simp(disch:=omega)only[ZA,simprocAttr,F3,D5,DF,nxtC.H1,DF,Eh,G6,nxtC.r0,O,G,errIs.q,Nj,L3];refine⟨[],[(3,some 5)],⟨[(6,.own 3),(7,.im (.bool true))],[(3,(true,.arr 108 3 (d.map AJ.c))),(0,(true,.cells 155 [.im (.sl false 2 (c.Sys.Set.Glues.map Ar.c)),.im (.sl false 2 (c.Sys.Set.Tiles.map Tile.c)),.im (.sl false 3 (c.Sys.Seed.Tiles.map Ak.c)),.im (.int .i64 c.Sys.Temperature),.mp 1,.mp 2])),(1,(true,.map ⟨true,[.int .i64,.int .i64]⟩ (c1.Tl.map Et))),(2,(true,.map ⟨true,[.int .i64,.int .i64]⟩ (c1.Op.map CO)))],4⟩,?_,by simp[Aj.good,An,Ac,A9,AV.bel,Av],by simp,?_⟩
   .simp only[A8];simp(disch:=omega)only[ZA,simprocAttr,Bz]
    try simp
   .simp(disch:=omega)only[ZA,simprocAttr,DF,growI.r0,Q]
  |some o=>
   by_cases Z:500<=b1.Tiles.length
   .have O:FT l c1 b1 d.length= .tup [.agg [.int .i64 0,.int .i64 0,.int .i64 0],.tok 1]:=by simp only[FT,z,ho];rw[Ao Z]
    have G:Fw l c1 b1 d.length=c1:=by simp only[Fw,z,ho];rw[Ao Z]
    have Q:Fs l n c b []=(c1,b1,[],false):=by rw[<-e3,hm,Fs,z,ho];simp only;rw[Ao Z]
    simp(disch:=omega)only[ZA,simprocAttr,F3,D5,DF,nxtC.H1,DF,Eh,G6,nxtC.r0,O,G,errIs.q,Nj,L3];refine⟨[],[(3,some 7)],⟨[(6,.own 3),(7,.im (.bool false))],[(3,(true,.arr 108 3 (([]:List AJ).map AJ.c))),(0,(true,.cells 155 [.im (.sl false 2 (c.Sys.Set.Glues.map Ar.c)),.im (.sl false 2 (c.Sys.Set.Tiles.map Tile.c)),.im (.sl false 3 (c.Sys.Seed.Tiles.map Ak.c)),.im (.int .i64 c.Sys.Temperature),.mp 1,.mp 2])),(1,(true,.map ⟨true,[.int .i64,.int .i64]⟩ (c1.Tl.map Et))),(2,(true,.map ⟨true,[.int .i64,.int .i64]⟩ (c1.Op.map CO)))],4⟩,?_,by simp[Aj.good,An,Ac,A9,AV.bel,Av],by simp,?_⟩
    .simp only[A8];simp(disch:=omega)only[ZA,simprocAttr,Bz]
     try simp
    .simp(disch:=omega)only[ZA,simprocAttr,DF,growI.r0,Q]
   .have O:FT l c1 b1 d.length= .tup [.agg (AJ.c o),.nili]:=by simp only[FT,z,ho];rw[Ag Z]
    have G:Fw l c1 b1 d.length=GD c1 o.At o.Tile:=by simp only[Fw,z,ho];rw[Ag Z]
    have Q:Fs l n c b []=Fs l m (GD c1 o.At o.Tile) (C7 b1 o.At o.Tile) (d++[o]):=by rw[<-e3,hm,Fs,z,ho];simp only;rw[Ag Z]
    have ab:=e2.put (VH e2.2.2.2.1 ho) (by omega);simp(disch:=omega)only[ZA,simprocAttr,D5,DF,nxtC.H1,DF,Eh,G6,nxtC.r0,O,G,errIs.q,Nj,L3];refine⟨by omega,⟨(GD c1 o.At o.Tile,C7 b1 o.At o.Tile,d++[o]),by simp only;exact⟨by simp;omega,ab,by rw[Q,show n - (d++[o]).length=m by simp;omega]⟩⟩,[(5,some 8)],by simp;omega,?_⟩;simp only[A8];simp(disch:=omega)only[ZA,simprocAttr,Bz];simp[AJ.c]
 .have Q:Fs l n c b []=(c1,b1,d,true):=by rw[<-e3,show n - d.length=0 by omega,Fs]
  refine⟨[],[(3,some 5)],⟨[(6,.own 3),(7,.im (.bool true))],[(3,(true,.arr 108 3 (d.map AJ.c))),(0,(true,.cells 155 [.im (.sl false 2 (c.Sys.Set.Glues.map Ar.c)),.im (.sl false 2 (c.Sys.Set.Tiles.map Tile.c)),.im (.sl false 3 (c.Sys.Seed.Tiles.map Ak.c)),.im (.int .i64 c.Sys.Temperature),.mp 1,.mp 2])),(1,(true,.map ⟨true,[.int .i64,.int .i64]⟩ (c1.Tl.map Et))),(2,(true,.map ⟨true,[.int .i64,.int .i64]⟩ (c1.Op.map CO)))],4⟩,?_,by simp[Aj.good,An,Ac,A9,AV.bel,Av],by simp,?_⟩
  .simp only[A8];simp(disch:=omega)only[ZA,simprocAttr,Bz]
   try simp
  .simp(disch:=omega)only[ZA,simprocAttr,DF,growI.r0,Q]
 simp[growI.H1] at hp;rcases hp with rfl|rfl|rfl
 .exact .inl ⟨by omega,rfl,rfl⟩
 .exact .inl ⟨by omega,rfl,rfl⟩
 .exact .inr ⟨by omega,by omega,rfl,rfl⟩
def KU{s:Az}{a:Ah}(c1:Hl s=true)(O:FH s.Set a=true):newC.pre (s,a)/\G9 s a (YR s a):=by
 obtain⟨⟨q1,q2,q3,_⟩,q5,_⟩:=Nb c1;obtain⟨z,h4⟩:=Kz O;have G:=Qof (s:=s.Set) (a:=a) (by rw[q5,O];rfl);have Q:1<=s.Temperature:=by
  simp only[Hl,Bq,AS,Ch] at c1;exact c1.2.2.2.1.1
 exact⟨⟨q1,by simp only;omega,λy Z=>⟨z.2 y Z,G.1.2.2.2 y Z⟩⟩,rfl,⟨_,RM.of z.1 λx hx=>(z.2 x hx).1⟩,SI Q,z,h4,q1,Q,q3⟩
def UX(w:List AJ×Ah×Int):Ap:=[(0,(true,.arr 108 3 (w.1.map AJ.c))),(1,(true,.arr 137 3 (w.2.1.Tiles.map Ak.c)))]
def Lq(w:List AJ×Ah×Int):AV:= .tup [.own 0,.agg [.own 1],.im (.int .i64 w.2.2)]
def sM(j:Nat):Bool:=j==0||j==1
def schS_.fv(a:(List Int)):Bool:=(DT) a
def schS_.row:A7:=vK (b1 (qS DU Dc)) rB (λa=>True) schS_.fv
def schS_.q:=AU (R:=schS_.row) rfl
def schS_.ok:AA Tryz.prog 45 schS_.row:=by
 refine vw (tC l00In.ok tN) Tryz.func45 rfl (by kernel_rfl) ?_;intro a O;simp only[Tryz.f45];simp(disch:=omega)only[ZA,simprocAttr,schS_.fv];intro _;by_cases c:a.length<=200
 case neg=>
  rw[Ao (by omega)];simp only[DT,dN c,Ei]
 rw[Ag (by omega)];have Z:DT a= !a.any DX:=by simp only[DT,Zh c,CP]
 rw[Z];refine AR.old ⟨{k:Nat//k<=a.length/\(a.drop k).any DX=a.any DX},λk=>⟨[(3,.im (.int .i64 k.1)),(2,.im (.bool false)),(0,.im (.sl false 1 (a.map Al)))],[],0⟩,λk=>a.length - k.1,λk=>⟨by simp[Aj.good,An,Ac,A9,AV.bel],by simp⟩,⟨⟨0,by simp⟩,by simp(disch:=omega)only[ZA,simprocAttr,sub]⟩,λk=> ?_⟩;obtain⟨k,Q,z⟩:=k;simp(disch:=omega)only[ZA,simprocAttr,l00In.q,l00In.fv,sub,AP];intro _;refine⟨λG=>⟨G,λx hx=> ?_⟩,λG=> ?_⟩
 .rw[Eu hx,List.any_cons] at z;refine⟨λh=> ?_,λh=>⟨⟨k+1,by omega,?_⟩,by simp only;omega,by rw[AG (by omega) (by omega)];simp only;omega⟩⟩
  .have:DX x=true:=by simp only[DX,h];rfl
   rw[this,dJ] at z;rw[<-z];rfl
  .have:DX x=false:=by simp only[DX];simpa using h
   rw[this,iY] at z;exact z
 .rw[CZ (by omega)] at z;rw[<-z];rfl
def grwS_.fv(a:Az×Ah×(List Int)×Int):(List AJ)×Ah×Bool×Int:=(λs b l n=>DC s l n.toNat b []) (a.1) (a.2.1) (a.2.2.1) (a.2.2.2)
def grwS_.row:A7:=vK (b4 (qP 4 Az.d_le) (qP 1 Ah.d_le) (qS DU Dc) qI) (r4 (rS AJ.d_le AJ.c_n) (rA Ah.d_le) rB rI) (λa=>Cu a.1.Set/\Hm a.1.Set a.2.1/\a.2.1.Tiles.length<=500/\a.1.Set.Tiles.length<=160/\DT a.2.2.1=true/\0<=a.2.2.2/\a.2.2.2<=500) grwS_.fv
def grwS_.q:=AU (R:=grwS_.row) rfl
def grwS_.ok:AA Tryz.prog 47 grwS_.row:=by
 refine vw (tC l03Own.ok (tC opsS_.ok (tC l08Attach.ok tN))) Tryz.func47 rfl (by kernel_rfl) ?_;intro a ac;simp only[Tryz.f47];simp(disch:=omega)only[ZA,simprocAttr,Ah.d,grwS_.fv,l03Own.q,l03Own.fv];obtain⟨s,b,l,n⟩:=a;obtain⟨h1,h2,h3,h4,h5,h6,h7⟩:=ac;simp only at h1 h2 h3 h4 h5 h6 h7⊢;refine⟨by omega,?_⟩;refine AR.ren ⟨{q:Ah×List AJ//q.2.length<=n.toNat/\Hm s.Set q.1/\q.1.Tiles.length<=500/\DC s l (n.toNat - q.2.length) q.1 q.2=DC s l n.toNat b []},λq=>⟨[(13,.own 6),(12,.ptr 4 0),(11,.im (.int .i64 0)),(10,.im (.bool false)),(9,.ptr 3 0),(8,.own 2),(0,.ptr 0 0),(2,.im (.sl false 1 (l.map Al))),(3,.im (.int .i64 n))],[(6,(true,.arr 108 3 (q.1.2.map AJ.c))),(4,(true,.cells 39 [.im (.sl false 3 (q.1.1.Tiles.map Ak.c))])),(3,(true,.cells 39 [.im (.sl true 0 [])])),(2,(true,.arr 108 3 [])),(0,(false,.view (Az.c s))),(1,(false,.view (Ah.c b)))],7⟩,λq=>n.toNat - q.1.2.length,λq=>⟨by simp[Aj.good,An,Ac,A9,AV.bel,Av],by simp⟩,⟨⟨(b,[]),by simp only;exact⟨CF _,h2,h3,by rw[G5,Zf]⟩⟩,[(6,some 5)],?_⟩,λq=> ?_⟩
 .simp only[A8];simp(disch:=omega)only[ZA,simprocAttr,Bz]
  try simp
 obtain⟨⟨b1,d⟩,e1,e2,e3,e4⟩:=q;simp only at e1 e2 e3 e4;simp(disch:=omega)only[ZA,simprocAttr,Ah.d,opsS_.q,opsS_.fv,l08Attach.q,l08Attach.fv,AP];have ag:=mK s e3 h4;have hX: ∀m,n.toNat - d.length=m+1-> ∀o,Gl s l b1 d.length=some o->DC s l n.toNat b []=if 500<=b1.Tiles.length then ([],⟨[]⟩,false,4) else DC s l m (C7 b1 o.At o.Tile) (d++[o]):=by
  intro m hm o z;rw[<-e4,hm,DC,z]
 refine⟨⟨h1,e2,e3,by omega⟩,λ_=>⟨λc1=> ?_,λc1 _=>⟨λc2=> ?_,λc2 _=> ?_⟩⟩⟩
 .have ab:=PX (s:=s) (l:=l) (b:=b1) (k:=d.length)|>.2 (Qv.1 (by omega))
  rw[<-e4];cases hm:n.toNat - d.length with
  |zero=>rw[DC,ab];rfl
  |succ m=>rw[DC,ab]
 .have af:(Gl s l b1 d.length).isNone=false:=by
   cases hq:Gl s l b1 d.length with
   |none=>exact absurd (by rw[PX.1 hq];rfl) c1
   |some o=>rfl
  rw[<-e4,show n.toNat - d.length=0 by omega,DC,af]
 have hn:(0:Int)<(Db s b1).length:=by omega
 obtain⟨m,hm⟩: ∃m,n.toNat - d.length=m+1:=⟨n.toNat - d.length - 1,by omega⟩;have O: ∀o,Gl s l b1 d.length=some o-> ¬(Hr b1 o).2=0->([],(⟨[]⟩:Ah),false,(Hr b1 o).2)=DC s l n.toNat b []:=λo z h=>by
  rw[hX m hm o z];simp only[Hr] at h⊢;split at h
  .rename_i c;rw[Ao c,Ao c]
  .simp at h
 have Q: ∀o,Gl s l b1 d.length=some o->(Hr b1 o).2=0->b1.Tiles.length<500/\(Hr b1 o).1=C7 b1 o.At o.Tile/\Hm s.Set (C7 b1 o.At o.Tile)/\DC s l (n.toNat - (d++[o]).length) (C7 b1 o.At o.Tile) (d++[o])=DC s l n.toNat b []:=λo z h=>by
  rw[hX m hm o z];simp only[Hr] at h⊢;split at h
  .simp at h
  .rename_i c;rw[Ag c,Ag c,show n.toNat - (d++[o]).length=m by simp;omega];exact⟨by omega,rfl,QQ h4 e2 (VH e2 z),rfl⟩
 have ad: ∀i:Nat,i=FW l (Db s b1).length d.length->Gl s l b1 d.length=(Db s b1)[i]? :=λi hi=>by rw[hi];rfl
 refine⟨λc3 _ _=>⟨by omega,zA _ (by omega),yP _ (by omega),λx hx _=> ?_⟩,λc3=> ?_⟩
 .have aa:=nK h5 (AY hx);have e5:(x.tmod (Db s b1).length).toNat=FW l (Db s b1).length d.length:=by
   rw[dC (by omega),<-Int.natCast_emod,Bt] at hx;simp only[FW];rw[Ag (by omega),hx,AQ,dC aa.1]
  refine⟨c1,zA _ aa.1,yP _ hn,λo z=> ?_⟩;have G:=(ad _ e5).trans z;refine⟨O o G,λc4=>⟨zA _ aa.1,yP _ hn,λo2 Z=> ?_⟩⟩;obtain rfl:o=o2:=AE (z.symm.trans Z);obtain⟨f1,f2,f3,f4⟩:=Q o G (Zey.1 c4);refine⟨by simp[BL,BC,D.one],by omega,⟨(C7 b1 o.At o.Tile,d++[o]),by simp only;exact⟨by simp;omega,f3,by rw[Nk];omega,f4⟩⟩,[(6,some 9)],by simp;omega,?_⟩;simp only[A8,f2];simp(disch:=omega)only[ZA,simprocAttr,Bz];simp[AJ.c]
 .have e5:0=FW l (Db s b1).length d.length:=by
   simp only[FW];rw[Ao (by omega)]
  refine⟨hn,λo z=> ?_⟩;have G:=(ad _ e5).trans z;refine⟨O o G,λc4=>⟨hn,λo2 Z=> ?_⟩⟩;obtain rfl:o=o2:=AE (z.symm.trans Z);obtain⟨f1,f2,f3,f4⟩:=Q o G (Zey.1 c4);refine⟨by simp[BL,BC,D.one],by omega,⟨(C7 b1 o.At o.Tile,d++[o]),by simp only;exact⟨by simp;omega,f3,by rw[Nk];omega,f4⟩⟩,[(6,some 9)],by simp;omega,?_⟩;simp only[A8,f2];simp(disch:=omega)only[ZA,simprocAttr,Bz];simp[AJ.c]
def Qado(l:List Int)(i:Nat)(x:Int):(l.map Al).set i [.int .i64 x]=(l.set i x).map Al:=by rw[JG];rfl
def Vb(k:Int)(n:Nat):List Int:=(List.range n).map λ(i:Nat)=>k+(i:Int)
def ZS(k:Int)(n:Nat):(Vb k n).length=n:=by simp[Vb]
def Sr(k:Int)(n:Nat):Vb k (n+1)=Vb k n++[k+(n:Int)]:=by simp[Vb,jH]
def GA(k:Int)(l:List Int)(i:Nat):List Int:=Vb k i++l.drop i
def St{k:Int}{l:List Int}{i:Nat}(h:i<=l.length):(GA k l i).length=l.length:=by simp[GA,ZS];omega
def Su{k:Int}{l:List Int}{i:Nat}(h:i<l.length):(GA k l i).set i (k+(i:Int))=GA k l (i+1):=by
 have hd:l.drop i=l[i]::l.drop (i+1):=by rw[UP h]
 rw[GA,iV _ _ (by rw[ZS];omega),ZS,hd,GS,Za,GA,Sr];simp
def Ss{k:Int}{l:List Int}{i:Nat}(h:i=l.length):GA k l i=Vb k l.length:=by
 subst h;simp[GA]
def mkIC.ca(a:List Int×Int):List AV:=[.own 0,.im (.int .i64 a.2)]
def mkIC.H0(a:List Int×Int):Ap:=[(0,(true,.arr 2 1 (a.1.map Al)))]
def mkIC.H1(a:List Int×Int):Ap:=[(0,(true,.arr 2 1 ((Vb a.2 a.1.length).map Al)))]
def mkIC.row:A7:=AF mkIC.ca mkIC.H0 1 (λa=>0<=a.2/\a.2+a.1.length<=1099511627776) (λj=>j==0) (λa=> .im (.int .i64 (a.2+a.1.length))) mkIC.H1 0
def mkIC.ok:AA Tryz.prog 24 mkIC.row:=by
 refine ow tN Tryz.func24 rfl (by kernel_rfl) (exB:=λ_=>false) (R:=λa r=>r= .im (.int .i64 (a.2+a.1.length))) (λ_=>rfl)
  (λa=>by simp[mkIC.ca,mkIC.H0,Av,AV.bel,Ac,A9,BK,Ad.nms,Am,hget]) (λa p hp=> ?_) (λa r h=>by subst h;exact C8.refl _) ?_
 rotate_left
 intro a z;simp only[Tryz.f24,mkIC.ca,mkIC.H0,mkIC.H1];simp(disch:=omega)only[ZA,simprocAttr];obtain⟨l,k⟩:=a;simp only at z⊢;obtain⟨Z,h2⟩:=z;refine AR.old ⟨{i:Nat//i<=l.length},λi=>⟨[(5,.im (.int .i64 i.1)),(4,.im (.int .i64 0)),(1,.im (.int .i64 (k+i.1))),(0,.own 0)],[(0,(true,.arr 2 1 ((GA k l i.1).map Al)))],1⟩,λi=>l.length - i.1,λi=>⟨by simp[Aj.good,An,Ac,A9,AV.bel],by simp⟩,⟨⟨0,by simp⟩,by simp(disch:=omega)only[ZA,simprocAttr,sub];simp[GA,Vb]⟩,λi=> ?_⟩;obtain⟨i,O⟩:=i;have Q:=St (k:=k) O;simp(disch:=omega)only[ZA,simprocAttr,sub,AP,Q];intro _;refine⟨λG=>⟨G,G,λx _=>⟨⟨i+1,by omega⟩,by simp only;omega,⟨?_,?_⟩,?_⟩⟩,λG=>⟨by omega,by rw[Ss (by omega)]⟩⟩
 .rw[AG (by omega) (by omega)];simp only;omega
 .rw[AG (by omega) (by omega)];simp only;omega
 .rw[Qado,Su G]
 simp[mkIC.H1] at hp;subst hp;exact .inl ⟨by omega,rfl,rfl⟩
def JK(n:Nat):ByteArray:=if h:n=0 then ByteArray.empty else JK (n/10)++GF [IntKind.u8.wrap (48+((n % 10:Nat):Int))] termination_by n
def JX(k:Int):ByteArray:=if k<=0 then "m0".toUTF8 else "m".toUTF8++JK k.toNat
def mkText.fv(a:Int):ByteArray:=(JX) a
def mkText.row:A7:=vK (b1 qI) rT (λa=>a<=1099511627776) mkText.fv
def mkText.q:=AU (R:=mkText.row) rfl
def mkText.ok:AA Tryz.prog 164 mkText.row:=by
 refine vw tN Tryz.func164 rfl (by kernel_rfl) ?_;intro a Q;simp only[Tryz.f164];simp(disch:=omega)only[ZA,simprocAttr,mkText.fv];by_cases c0:a<=0
 .rw[Ao c0];simp only[JX];rw[Ao c0];rfl
 rw[Ag c0];have eR:JX a= "m".toUTF8++JK a.toNat:=by simp only[JX];rw[Ag c0]
 refine AR.old ⟨{q:Nat×ByteArray//(q.1:Int)<=a/\JK a.toNat=JK q.1++q.2/\q.2.size+q.1<=a.toNat},λq=>⟨[(3,.im (.str q.1.2)),(0,.im (.int .i64 q.1.1))],[],0⟩,λq=>q.1.1,λq=>⟨by simp[Aj.good,An,Ac,A9,AV.bel],by simp⟩,⟨⟨(a.toNat,ByteArray.empty),by simp only;exact⟨by omega,by simp,by simp⟩⟩,by simp(disch:=omega)only[ZA,simprocAttr,sub];exact⟨rfl,by omega⟩⟩,λq=> ?_⟩;obtain⟨⟨q,out⟩,G,z,O⟩:=q;simp only at G z O;simp(disch:=omega)only[ZA,simprocAttr,sub,AP];refine⟨λc1=> ?_,λc1=> ?_⟩
 .have hq:q≠0:=by omega
  have Z:(q:Int).tmod 10=((q % 10:Nat):Int):=by rw[dC (by omega)];omega
  have e2:(q:Int).tdiv 10=((q/10:Nat):Int):=by rw[Zej (by omega)];omega
  have e3:IntKind.i64.wrap (48+(q:Int).tmod 10)=48+((q % 10:Nat):Int):=by rw[Z];exact AG (by omega) (by omega)
  rw[e3,e2];have hs:({data:= #[UInt8.ofNat (IntKind.u8.wrap (48+((q % 10:Nat):Int))).toNat]}:ByteArray)=GF [IntKind.u8.wrap (48+((q % 10:Nat):Int))]:=rfl;have hz:(GF [IntKind.u8.wrap (48+((q % 10:Nat):Int))]).size=1:=rfl;rw[hs];refine⟨by omega,⟨(q/10,GF [IntKind.u8.wrap (48+((q % 10:Nat):Int))]++out),by simp only;omega,?_,?_⟩,by simp only;omega,rfl,by exact AG (by omega) (by omega)⟩
  .simp only;rw[z,JK,dif_neg hq,ByteArray.append_assoc]
  .simp only[ByteArray.size_append,hz];omega
 .have hq:q=0:=by omega
  subst hq;refine⟨by show 1+out.size<=_;omega,?_⟩;rw[eR,z,JK,dif_pos rfl,ByteArray.empty_append];rfl
def HY{A:Type}(f:Nat->A)(l:List A)(i:Nat):List A:=(List.range i).map f++l.drop i
def Vx{A:Type}{f:Nat->A}{l:List A}{i:Nat}(h:i<=l.length):(HY f l i).length=l.length:=by simp[HY];omega
def Vv{A:Type}(f:Nat->A)(l:List A):HY f l 0=l:=by simp[HY]
def Vy{A:Type}{f:Nat->A}{l:List A}{i:Nat}(h:i<l.length):(HY f l i).set i (f i)=HY f l (i+1):=by
 have hd:l.drop i=l[i]::l.drop (i+1):=by rw[UP h]
 have z:((List.range i).map f).length=i:=by simp
 rw[HY,iV _ _ (by rw[z];omega),z,hd,GS,Za,HY,jH];simp
def D2{A:Type}(f:Nat->A)(n:Nat):List A:=(List.range n).map f
def Vz{A:Type}{f:Nat->A}{l:List A}{i:Nat}(h:i=l.length):HY f l i=D2 f l.length:=by
 subst h;simp[HY,D2]
def gF(k:Int)(i:Nat):Ar:=⟨JX (k+2*i),k+2*i+1⟩
def mkGC.ca(a:List Ar×Int):List AV:=[.own 0,.im (.int .i64 a.2)]
def mkGC.H0(a:List Ar×Int):Ap:=[(0,(true,.arr 204 2 (a.1.map Ar.c)))]
def mkGC.H1(a:List Ar×Int):Ap:=[(0,(true,.arr 204 2 ((D2 (gF a.2) a.1.length).map Ar.c)))]
def mkGC.row:A7:=AF mkGC.ca mkGC.H0 1 (λa=>0<=a.2/\a.2+2*a.1.length<=1099511627776) (λj=>j==0) (λa=> .im (.int .i64 (a.2+2*a.1.length))) mkGC.H1 0
def mkGC.ok:AA Tryz.prog 115 mkGC.row:=by
 refine ow (tC mkText.ok tN) Tryz.func115 rfl (by kernel_rfl) (exB:=λ_=>false) (R:=λa r=>r= .im (.int .i64 (a.2+2*a.1.length))) (λ_=>rfl)
  (λa=>by simp[mkGC.ca,mkGC.H0,Av,AV.bel,Ac,A9,BK,Ad.nms,Am,hget]) (λa p hp=> ?_) (λa r h=>by subst h;exact C8.refl _) ?_
 rotate_left
 intro a z;simp only[Tryz.f115,mkGC.ca,mkGC.H0,mkGC.H1];simp(disch:=omega)only[ZA,simprocAttr];obtain⟨l,k⟩:=a;simp only at z⊢;obtain⟨h1,h2⟩:=z;refine AR.old ⟨{i:Nat//i<=l.length},λi=>⟨[(5,.im (.int .i64 i.1)),(4,.im (.int .i64 0)),(1,.im (.int .i64 (k+2*i.1))),(0,.own 0)],[(0,(true,.arr 204 2 ((HY (gF k) l i.1).map Ar.c)))],1⟩,λi=>l.length - i.1,λi=>⟨by simp[Aj.good,An,Ac,A9,AV.bel],by simp⟩,⟨⟨0,by simp⟩,by simp(disch:=omega)only[ZA,simprocAttr,sub,Vv];simp⟩,λi=> ?_⟩;obtain⟨i,Z⟩:=i;have Q:=Vx (f:=gF k) Z;simp(disch:=omega)only[ZA,simprocAttr,mkText.q,mkText.fv,AP,Q];intro _;refine⟨λO=>⟨by omega,O,O,λx hx=> ?_⟩,λO=> ?_⟩
 .have w1:IntKind.i64.wrap (k+2*(i:Int)+1)=k+2*(i:Int)+1:=AG (by omega) (by omega);have G:i<(List.map Ar.c (HY (gF k) l i)).length:=by rw[FM,Q];exact O
  refine⟨by rw[Ew];exact G,by rw[Ew];exact G,Hj (Da G) ?_⟩;simp(disch:=omega)only[ZA,simprocAttr,sub,w1,iZ];refine⟨⟨i+1,by omega⟩,by simp only;omega,⟨?_,?_⟩,?_⟩
  .rw[AG (by omega) (by omega)];simp only;omega
  .rw[AG (by omega) (by omega)];simp only;omega
  .simp only;rw[<-Vy O,JG];rfl
 .exact⟨by omega,by rw[Vz (by omega)]⟩
 simp[mkGC.H1] at hp;subst hp;exact .inl ⟨by omega,rfl,rfl⟩
def pF(k:Int)(i:Nat):Ak:=⟨⟨k+3*i,k+3*i+1⟩,k+3*i+2⟩
def mkPC.ca(a:List Ak×Int):List AV:=[.own 0,.im (.int .i64 a.2)]
def mkPC.H0(a:List Ak×Int):Ap:=[(0,(true,.arr 137 3 (a.1.map Ak.c)))]
def mkPC.H1(a:List Ak×Int):Ap:=[(0,(true,.arr 137 3 ((D2 (pF a.2) a.1.length).map Ak.c)))]
def mkPC.row:A7:=AF mkPC.ca mkPC.H0 1 (λa=>0<=a.2/\a.2+3*a.1.length<=1099511627776) (λj=>j==0) (λa=> .im (.int .i64 (a.2+3*a.1.length))) mkPC.H1 0
def mkPC.ok:AA Tryz.prog 62 mkPC.row:=by
 refine ow tN Tryz.func62 rfl (by kernel_rfl) (exB:=λ_=>false) (R:=λa r=>r= .im (.int .i64 (a.2+3*a.1.length))) (λ_=>rfl)
  (λa=>by simp[mkPC.ca,mkPC.H0,Av,AV.bel,Ac,A9,BK,Ad.nms,Am,hget]) (λa p hp=> ?_) (λa r h=>by subst h;exact C8.refl _) ?_
 rotate_left
 intro a G;simp only[Tryz.f62,mkPC.ca,mkPC.H0,mkPC.H1];simp(disch:=omega)only[ZA,simprocAttr];obtain⟨l,k⟩:=a;simp only at G⊢;obtain⟨h1,h2⟩:=G;refine AR.old ⟨{i:Nat//i<=l.length},λi=>⟨[(5,.im (.int .i64 i.1)),(4,.im (.int .i64 0)),(1,.im (.int .i64 (k+3*i.1))),(0,.own 0)],[(0,(true,.arr 137 3 ((HY (pF k) l i.1).map Ak.c)))],1⟩,λi=>l.length - i.1,λi=>⟨by simp[Aj.good,An,Ac,A9,AV.bel],by simp⟩,⟨⟨0,by simp⟩,by simp(disch:=omega)only[ZA,simprocAttr,sub,Vv];simp⟩,λi=> ?_⟩;obtain⟨i,Z⟩:=i;have Q:=Vx (f:=pF k) Z;simp(disch:=omega)only[ZA,simprocAttr,AP,Q];intro _;refine⟨λO=>⟨O,O,λx hx=> ?_⟩,λO=> ?_⟩
 .have w1:IntKind.i64.wrap (k+3*(i:Int)+1)=k+3*(i:Int)+1:=AG (by omega) (by omega);have w2:IntKind.i64.wrap (k+3*(i:Int)+1+1)=k+3*(i:Int)+2:=(AG (by omega) (by omega)).trans (by omega);have z:i<(List.map Ak.c (HY (pF k) l i)).length:=by rw[FM,Q];exact O
  simp only[w1];refine⟨by rw[Ew];exact z,by rw[Ew];exact z,Hj (Da z) ?_⟩;simp(disch:=omega)only[ZA,simprocAttr,w2,iZ];refine⟨by rw[Ew];exact z,by rw[Ew];exact z,Hj (Da z) ?_⟩;simp(disch:=omega)only[ZA,simprocAttr,sub,iZ];refine⟨⟨i+1,by omega⟩,by simp only;omega,⟨?_,?_⟩,?_⟩
  .rw[AG (by omega) (by omega)];simp only;omega
  .rw[AG (by omega) (by omega)];simp only;omega
  .simp only;rw[<-Vy O,JG];rfl
 .exact⟨by omega,by rw[Vz (by omega)]⟩
 simp[mkPC.H1] at hp;subst hp;exact .inl ⟨by omega,rfl,rfl⟩
def oF(k:Int)(i:Nat):AJ:=⟨⟨k+3*i,k+3*i+1⟩,k+3*i+2⟩
def mkOC.ca(a:List AJ×Int):List AV:=[.own 0,.im (.int .i64 a.2)]
def mkOC.H0(a:List AJ×Int):Ap:=[(0,(true,.arr 108 3 (a.1.map AJ.c)))]
def mkOC.H1(a:List AJ×Int):Ap:=[(0,(true,.arr 108 3 ((D2 (oF a.2) a.1.length).map AJ.c)))]
def mkOC.row:A7:=AF mkOC.ca mkOC.H0 1 (λa=>0<=a.2/\a.2+3*a.1.length<=1099511627776) (λj=>j==0) (λa=> .im (.int .i64 (a.2+3*a.1.length))) mkOC.H1 0
def mkOC.ok:AA Tryz.prog 25 mkOC.row:=by
 refine ow tN Tryz.func25 rfl (by kernel_rfl) (exB:=λ_=>false) (R:=λa r=>r= .im (.int .i64 (a.2+3*a.1.length))) (λ_=>rfl)
  (λa=>by simp[mkOC.ca,mkOC.H0,Av,AV.bel,Ac,A9,BK,Ad.nms,Am,hget]) (λa p hp=> ?_) (λa r h=>by subst h;exact C8.refl _) ?_
 rotate_left
 intro a G;simp only[Tryz.f25,mkOC.ca,mkOC.H0,mkOC.H1];simp(disch:=omega)only[ZA,simprocAttr];obtain⟨l,k⟩:=a;simp only at G⊢;obtain⟨h1,h2⟩:=G;refine AR.old ⟨{i:Nat//i<=l.length},λi=>⟨[(5,.im (.int .i64 i.1)),(4,.im (.int .i64 0)),(1,.im (.int .i64 (k+3*i.1))),(0,.own 0)],[(0,(true,.arr 108 3 ((HY (oF k) l i.1).map AJ.c)))],1⟩,λi=>l.length - i.1,λi=>⟨by simp[Aj.good,An,Ac,A9,AV.bel],by simp⟩,⟨⟨0,by simp⟩,by simp(disch:=omega)only[ZA,simprocAttr,sub,Vv];simp⟩,λi=> ?_⟩;obtain⟨i,Z⟩:=i;have Q:=Vx (f:=oF k) Z;simp(disch:=omega)only[ZA,simprocAttr,AP,Q];intro _;refine⟨λO=>⟨O,O,λx hx=> ?_⟩,λO=> ?_⟩
 .have w1:IntKind.i64.wrap (k+3*(i:Int)+1)=k+3*(i:Int)+1:=AG (by omega) (by omega);have w2:IntKind.i64.wrap (k+3*(i:Int)+1+1)=k+3*(i:Int)+2:=(AG (by omega) (by omega)).trans (by omega);have z:i<(List.map AJ.c (HY (oF k) l i)).length:=by rw[FM,Q];exact O
  simp only[w1];refine⟨by rw[Ew];exact z,by rw[Ew];exact z,Hj (Da z) ?_⟩;simp(disch:=omega)only[ZA,simprocAttr,w2,iZ];refine⟨by rw[Ew];exact z,by rw[Ew];exact z,Hj (Da z) ?_⟩;simp(disch:=omega)only[ZA,simprocAttr,sub,iZ];refine⟨⟨i+1,by omega⟩,by simp only;omega,⟨?_,?_⟩,?_⟩
  .rw[AG (by omega) (by omega)];simp only;omega
  .rw[AG (by omega) (by omega)];simp only;omega
  .simp only;rw[<-Vy O,JG];rfl
 .exact⟨by omega,by rw[Vz (by omega)]⟩
 simp[mkOC.H1] at hp;subst hp;exact .inl ⟨by omega,rfl,rfl⟩
def toIX.ca(a:List Int):List AV:=[.im (.sl false 1 (a.map Al))]
def toIX.H1(a:List Int):Ap:=[(1,(true,.arr 2 1 (a.map Al)))]
def toIX.row:A7:=AF toIX.ca (λ_=>[]) 0 (λa=>a.length<=1073741824) (λ_=>false) (λ_=> .own 1) toIX.H1 2
def toIX.ok:AA Tryz.prog 14 toIX.row:=by
 refine ow tN Tryz.func14 rfl (by kernel_rfl) (exB:=λj=>j==1) (R:=λ_ r=>r= .own 1) (λ_=>rfl)
  (λa=>by simp[toIX.ca,Av,AV.bel,Ac,A9,BK]) (λa p hp=> ?_) (λa r h=>by subst h;exact C8.refl _) ?_
 rotate_left
 intro a z;simp only[Tryz.f14,toIX.ca,toIX.H1];simp(disch:=omega)only[ZA,simprocAttr];intro Q;have aa:a.length<=1073741824:=z;refine⟨by omega,?_⟩;refine AR.old ⟨{k:Nat//k<=a.length},λk=>⟨[(4,.im (.int .i64 k.1)),(3,.own 1),(0,.im (.sl false 1 (a.map Al)))],[(1,(true,.arr 2 1 ((a.take k.1).map Al++List.replicate (a.length - k.1) [.int .i64 0])))],2⟩,λk=>a.length - k.1,λk=>⟨by simp[Aj.good,An,Ac,A9,AV.bel],AN _⟩,⟨⟨0,by omega⟩,by simp(disch:=omega)only[ZA,simprocAttr,sub];simp⟩,λk=> ?_⟩;obtain⟨k,O⟩:=k;simp(disch:=omega)only[ZA,simprocAttr,AP,Wc _ _ a k O];intro _;refine⟨λG=> ?_,λG=> ?_⟩
 .refine⟨G,λx Z=>⟨G,G,Hj (Wa Al _ a k x Z) ?_⟩⟩;simp(disch:=omega)only[ZA,simprocAttr,sub];refine⟨⟨k+1,by omega⟩,by simp only;omega,?_,?_⟩
  .rw[AG (by omega) (by omega)];simp only;omega
  .exact Wl Al _ a k x Z
 .rw[Wh Al _ a k (by omega)]
  try trivial
 simp[toIX.H1] at hp;subst hp;exact .inr ⟨by omega,by omega,rfl,rfl⟩
def toGX.ca(a:List Ar):List AV:=[.im (.sl false 2 (a.map Ar.c))]
def toGX.H1(a:List Ar):Ap:=[(1,(true,.arr 204 2 (a.map Ar.c)))]
def toGX.row:A7:=AF toGX.ca (λ_=>[]) 0 (λa=>a.length<=1073741824) (λ_=>false) (λ_=> .own 1) toGX.H1 2
def toGX.ok:AA Tryz.prog 95 toGX.row:=by
 refine ow (tC toGlue.ok tN) Tryz.func95 rfl (by kernel_rfl) (exB:=λj=>j==1) (R:=λ_ r=>r= .own 1) (λ_=>rfl)
  (λa=>by simp[toGX.ca,Av,AV.bel,Ac,A9,BK]) (λa p hp=> ?_) (λa r h=>by subst h;exact C8.refl _) ?_
 rotate_left
 intro a z;simp only[Tryz.f95,toGX.ca,toGX.H1];simp(disch:=omega)only[ZA,simprocAttr];intro Q;have aa:a.length<=1073741824:=z;refine⟨by omega,?_⟩;refine AR.old ⟨{k:Nat//k<=a.length},λk=>⟨[(4,.im (.int .i64 k.1)),(3,.own 1),(0,.im (.sl false 2 (a.map Ar.c)))],[(1,(true,.arr 204 2 ((a.take k.1).map Ar.c++List.replicate (a.length - k.1) [.str ByteArray.empty,.int .i64 0])))],2⟩,λk=>a.length - k.1,λk=>⟨by simp[Aj.good,An,Ac,A9,AV.bel],AN _⟩,⟨⟨0,by omega⟩,by simp(disch:=omega)only[ZA,simprocAttr,sub];simp⟩,λk=> ?_⟩;obtain⟨k,O⟩:=k;simp(disch:=omega)only[ZA,simprocAttr,toGlue.q,toGlue.fv,AP,Wc _ _ a k O];intro _;refine⟨λG=> ?_,λG=> ?_⟩
 .refine⟨G,λx Z=>⟨G,G,Hj (Wa Ar.c _ a k x Z) ?_⟩⟩;simp(disch:=omega)only[ZA,simprocAttr,sub];refine⟨⟨k+1,by omega⟩,by simp only;omega,?_,?_⟩
  .rw[AG (by omega) (by omega)];simp only;omega
  .exact Wl Ar.c _ a k x Z
 .rw[Wh Ar.c _ a k (by omega)]
  try trivial
 simp[toGX.H1] at hp;subst hp;exact .inr ⟨by omega,by omega,rfl,rfl⟩
def toPX.ca(a:List Ak):List AV:=[.im (.sl false 3 (a.map Ak.c))]
def toPX.H1(a:List Ak):Ap:=[(1,(true,.arr 137 3 (a.map Ak.c)))]
def toPX.row:A7:=AF toPX.ca (λ_=>[]) 0 (λa=>a.length<=1073741824) (λ_=>false) (λ_=> .own 1) toPX.H1 2
def toPX.ok:AA Tryz.prog 49 toPX.row:=by
 refine ow (tC toPlaced.ok tN) Tryz.func49 rfl (by kernel_rfl) (exB:=λj=>j==1) (R:=λ_ r=>r= .own 1) (λ_=>rfl)
  (λa=>by simp[toPX.ca,Av,AV.bel,Ac,A9,BK]) (λa p hp=> ?_) (λa r h=>by subst h;exact C8.refl _) ?_
 rotate_left
 intro a z;simp only[Tryz.f49,toPX.ca,toPX.H1];simp(disch:=omega)only[ZA,simprocAttr];intro Q;have aa:a.length<=1073741824:=z;refine⟨by omega,?_⟩;refine AR.old ⟨{k:Nat//k<=a.length},λk=>⟨[(4,.im (.int .i64 k.1)),(3,.own 1),(0,.im (.sl false 3 (a.map Ak.c)))],[(1,(true,.arr 137 3 ((a.take k.1).map Ak.c++List.replicate (a.length - k.1) [.int .i64 0,.int .i64 0,.int .i64 0])))],2⟩,λk=>a.length - k.1,λk=>⟨by simp[Aj.good,An,Ac,A9,AV.bel],AN _⟩,⟨⟨0,by omega⟩,by simp(disch:=omega)only[ZA,simprocAttr,sub];simp⟩,λk=> ?_⟩;obtain⟨k,O⟩:=k;simp(disch:=omega)only[ZA,simprocAttr,toPlaced.q,toPlaced.fv,AP,Wc _ _ a k O];intro _;refine⟨λG=> ?_,λG=> ?_⟩
 .refine⟨G,λx Z=>⟨G,G,Hj (Wa Ak.c _ a k x Z) ?_⟩⟩;simp(disch:=omega)only[ZA,simprocAttr,sub];refine⟨⟨k+1,by omega⟩,by simp only;omega,?_,?_⟩
  .rw[AG (by omega) (by omega)];simp only;omega
  .exact Wl Ak.c _ a k x Z
 .rw[Wh Ak.c _ a k (by omega)]
  try trivial
 simp[toPX.H1] at hp;subst hp;exact .inr ⟨by omega,by omega,rfl,rfl⟩
def toTX.ca(a:Tile):List AV:=[.im (.agg (Tile.c a))]
def toTX.r0(a:Tile):AV:= .agg [.im (.str a.Name),.own 4]
def toTX.H1(a:Tile):Ap:=[(4,(true,.arr 2 1 (a.Sides.map Al)))]
def toTX.row:A7:=AF toTX.ca (λ_=>[]) 0 (λa=>a.Sides.length<=1073741824) (λ_=>false) toTX.r0 toTX.H1 5
def toTX.ok:AA Tryz.prog 144 toTX.row:=by
 refine ow (tC toIX.ok tN) Tryz.func144 rfl (by kernel_rfl) (exB:=λj=>j==4) (R:=λa r=>r=toTX.r0 a) (λ_=>rfl)
  (λa=>by simp[toTX.ca,Tile.c,Av,AV.bel,Ac,A9,BK]) (λa p hp=> ?_) (λa r h=>by subst h;exact C8.refl _) ?_
 rotate_left
 intro a z;simp only[Tryz.f144,toTX.ca,toTX.H1,Tile.c];simp(disch:=omega)only[ZA,simprocAttr];refine AF.os a.Sides [] z (λj=>by simp[Am,hget]) rfl rfl ?_ ?_
 .simp(disch:=omega)only[ZA,simprocAttr,toIX.ca,D3]
 simp(disch:=omega)only[ZA,simprocAttr,toIX.H1,toTX.r0]
 skip
 simp[toTX.H1] at hp;subst hp;exact .inr ⟨by omega,by omega,rfl,rfl⟩
def Ep(a:List Tile)(i:Nat):Aq:=(true,.arr 2 1 (((a[i]?.map Tile.Sides).getD []).map Al))
def HW(a:List Tile)(i:Nat):List AV:=[.im (.str ((a[i]?.map Tile.Name).getD ByteArray.empty)),.own (2+i)]
def jQ:List AV:=[.im (.str ByteArray.empty),.im (.sl true 0 [])]
def GX(a:List Tile)(k:Nat):List (List AV):=(List.range k).map (HW a)++List.replicate (a.length - k) jQ
def ZW{a:List Tile}{k:Nat}(h:k<=a.length):(GX a k).length=a.length:=by simp[GX];omega
def Ut{a:List Tile}{k i:Nat}(h:i<k):(GX a k)[i]? =some (HW a i):=by
 rw[GX,E7 (by simpa using h),D9,HK h];rfl
def Ur{a:List Tile}{k i:Nat}(h:k<=i)(z:i<a.length):(GX a k)[i]? =some jQ:=by
 rw[GX,Fo (by simpa using h),KB,Ao (by simp;omega)]
def MC(a:List Tile)(k N:Nat)(h:2+k<=N):(GX a k).all (Av N)=true:=by
 rw[Dp];intro r z;rcases Br.1 z with z|z
 .obtain⟨i,G,rfl⟩:=Bm.1 z
  have:=B6.1 G
  simp[HW,Av,AV.bel];omega
 .obtain rfl:=N1 z;simp[jQ,Av,AV.bel]
def Uu(a:List Tile):GX a 0=Bl (List.replicate a.length [.str ByteArray.empty,.sl true 0 []]):=by
 simp[GX,Bl,jQ]
def Nc(h:Nat->Option Aq)(F:AV->Option AV)(b:Nat)(f:Nat->Aq)(n:Nat)(H: ∀i,i<n->h (b+i)=some (f i))(hc: ∀i,i<n->Ct F (f i).2=some (f i).2):EK h F (AT b n f):=by
 have: ∀(l:List Nat),(∀i∈l,i<n)->EK h F (l.map λi=>(b+i,f i)):=by
  intro l;induction l with
  |nil=>intro _;simp[EK]
  |cons i r ih=>
   intro z;simp only[Bd,EK];refine⟨?_,ih (λj O=>z j (BR _ O))⟩;rw[H i (z i (BM ..))];exact⟨rfl,hc i (z i (BM ..))⟩
 exact this _ (λi G=>B6.1 G)
def Yq{h:Nat->Option Aq}{kx:Nat->Option Nat}{m:Nat}{a:List Tile}(G: ∀i,i<a.length->kx (2+i)=some (2+i)):Ax (Ax (Bb h kx (m+1))) (GX a a.length)=some (GX a a.length):=by
 have e:GX a a.length=(List.range a.length).map (HW a):=by simp[GX]
 rw[e];refine UK (g:=HW a) (k:=HW a) _ λi z=> ?_
 simp only[HW,Ax,Bb,G i (B6.1 z),kp]
def toLX.ca(a:List Tile):List AV:=[.im (.sl false 2 (a.map Tile.c))]
def toLX.H1(a:List Tile):Ap:=(1,(true,.arrA 206 2 (GX a a.length)))::AT 2 (min a.length 1048576) (Ep a)
def toLX.pre(a:List Tile):Prop:=a.length<=1048576/\ ∀x∈a,x.Sides.length<=1073741824
def toLX.row:A7:=AF toLX.ca (λ_=>[]) 0 toLX.pre (λ_=>false) (λ_=> .own 1) toLX.H1 2000000
def toLX.ok:AA Tryz.prog 96 toLX.row:=by
 refine ow (tC toTX.ok tN) Tryz.func96 rfl (by kernel_rfl) (exB:=λj=>Nat.ble 1 j) (R:=λ_ r=>r= .own 1) (λ_=>rfl)
  (λa=>by simp[toLX.ca,Av,AV.bel,Ac,A9,BK]) (λa p hp=> ?_) (λa r h=>by subst h;exact C8.refl _) ?_
 rotate_left
 intro a ah;simp only[Tryz.f96,toLX.ca];simp(disch:=omega)only[ZA,simprocAttr];obtain⟨h1,h2⟩:=ah;intro _;refine⟨by omega,?_⟩;refine AR.ren ⟨{k:Nat//k<=a.length},λk=>⟨[(4,.im (.int .i64 k.1)),(3,.own 1),(0,.im (.sl false 2 (a.map Tile.c)))],(1,(true,.arrA 206 2 (GX a k.1)))::AT 2 k.1 (Ep a),2+a.length⟩,λk=>a.length - k.1,λk=>⟨?_,by simp⟩,⟨⟨0,by simp⟩,[],?_⟩,λk=> ?_⟩
 .simp only[Aj.good,An,Ac,A9,AV.bel,ET,CP];rw[Qk _ _ _ (λi=>by simp[Ac,Ep]),Qa _ _ _ _ (by omega),MC _ _ _ (by omega)];simp
  try omega
 .simp only[A8,AT,ZeQ,GR,Uu];simp(disch:=omega)only[ZA,simprocAttr,qL]
  try simp
 .obtain⟨k,ai⟩:=k;have ad:=ZW (a:=a) ai;simp(disch:=omega)only[ZA,simprocAttr,AP,Bo];intro _;refine⟨λhk=>⟨by omega,hk,λx hx=> ?_⟩,λhk=> ?_⟩
  .refine AF.os x [] (h2 x (AY hx)) (λj=>by simp[Am,hget]) rfl rfl ?_ ?_
   .simp(disch:=omega)only[ZA,simprocAttr,toTX.ca,D3,Tile.c]
   simp(disch:=omega)only[ZA,simprocAttr,toTX.H1,toTX.r0,ad,Bo];refine⟨⟨by omega,by omega,by omega⟩,hk,by omega,hk,Hj (Ur (AN _) hk) ?_⟩;simp only[jQ];simp(disch:=omega)only[ZA,simprocAttr,Bo,Be];rw[Vq 2 k (Ep a) [1] (by simp)];refine⟨⟨?_,by omega⟩,⟨k+1,by omega⟩,[(2+k,some (2+a.length+4))],by simp only;omega,?_⟩
   .rw[Dp];intro r hr;rcases Ww hr with hr|hr
    .exact Dp.1 (MC a k _ (by omega)) r hr
    .subst hr;simp[Av,AV.bel]
   obtain⟨g,hg⟩: ∃g,g=pm [(2+k,some (2+a.length+4))]:=⟨_,rfl⟩;have qx:g (2+k)=some (2+a.length+4):=by rw[hg];simp[pm]
   have qo: ∀u,u≠2+k->g u=some u:=by intro u h;rw[hg];simp only[pm];rw[Ag (by omega)]
   have q1:pm [(2+k,some (2+a.length+4))] 1=some 1:=by rw[<-hg];exact qo 1 (by omega)
   have aa:=qx;have Z:=qo;rw[hg] at aa Z;refine⟨⟨by omega,trivial⟩,?_,?_,?_⟩
   .rw[cA,<-hg];simp only[ES,Y6];refine cE _ _ (bI [1] 2 (k+1) (by simp) (by simp)) ?_;have ac: ∀u∈[1]++(List.range (k+1)).map (2+ ·),u<2+a.length+1:=by
     intro u hu;rcases Br.1 hu with hu|hu
     .simp at hu;omega
     .obtain⟨i,hi,rfl⟩:=Bm.1 hu
      have:=B6.1 hi
      show 2+i<2+a.length+1;omega
    intro u hu v hv m z G;have ak:=ac u hu;have am:=ac v hv;by_cases O:u=2+k<;>by_cases Q:v=2+k
    .omega
    .rw[O,qx] at z;rw[qo v Q] at G;simp only[AI] at z G;omega
    .rw[qo u O] at z;rw[Q,qx] at G;simp only[AI] at z G;omega
    .rw[qo u O] at z;rw[qo v Q] at G;simp only[AI] at z G;omega
   .simp only[P4,AD];simp(disch:=omega)only[ZA,simprocAttr,q1];rw[AG (by omega) (by omega)];simp
   .simp only[G0,bS];refine⟨?_,λi hi=> ?_⟩
    .simp(disch:=omega)only[ZA,simprocAttr,q1];rw[cF];refine⟨by rw[Ew,ad,ZW (by omega)],λi r1 r2 O Q=> ?_⟩;have af:i<a.length:=by
      have:=(Cd.1 O).1
      rw[ZW (by omega)] at this;exact this
     by_cases ab:i=k
     .subst ab;rw[Ut (by omega)] at O;rw[Da (by rw[ad];exact af)] at Q;obtain rfl:=AE O;obtain rfl:=AE Q;simp only[HW,hx,Ds,AQ,Dz,mt,aa,Fy,GQ]
     .rw[D4 (by omega)] at Q;by_cases ac:i<k
      .rw[Ut (by omega)] at O Q;obtain rfl:=AE O;obtain rfl:=AE Q;simp only[HW,Dz,mt,Z (2+i) (by omega),Fy,GQ]
      .rw[Ur (by omega) af] at O Q;obtain rfl:=AE O;obtain rfl:=AE Q;simp only[jQ,Dz,mt,GQ]
    .show Ea _ _ true (.arr 2 1 (((a[i]?.map Tile.Sides).getD []).map Al)) _;by_cases ab:i=k
     .subst ab;rw[aa];simp(disch:=omega)only[ZA,simprocAttr,hx,AQ]
      try simp
     .rw[Z (2+i) (by omega)];simp(disch:=omega)only[ZA,simprocAttr,Hh,Wb,Ep]
      try simp
  .have aj:k=a.length:=by omega
   subst aj;refine⟨by omega,by omega,?_⟩;have ag:min a.length 1048576=a.length:=by omega
   obtain⟨H,hH⟩: ∃H,H=hget ((1,(true,Ad.arrA 206 2 (GX a a.length)))::AT 2 a.length (Ep a)):=⟨_,rfl⟩;rw[<-hH];have kx: ∀i,i<a.length->(I8 [] 0 2000000 λj=>decide (1<=j)) (2+i)=some (2+i):=by
    intro i hi;have hb:(decide (1<=2+i) && (Nat.ble 0 (2+i) && Nat.blt (2+i) (0+2000000)))=true:=by
     simp only[AS,Ch,GU,El];omega
    simp only[I8,Am,hget,Zb,iY,hb,Ca]
   have g1:H 1=some (true,.arrA 206 2 (GX a a.length)):=by rw[hH];rfl
   simp only[toLX.H1,EK,ag];refine⟨?_,Nc _ _ _ _ _ (λi hi=> ?_) (λi hi=>rfl)⟩
   .rw[g1];exact⟨rfl,by simp only[Ct];rw[Yq kx];rfl⟩
   .rw[hH];simp only[hget,Be _ _ (show 1≠2+i by omega),B8];exact Hh _ _ _ _ hi
 simp only[toLX.H1,Bi,AT,Bm,B6] at hp;rcases hp with rfl|⟨i,hi,rfl⟩
 .exact .inr ⟨by omega,by omega,rfl,rfl⟩
 .exact .inr ⟨by simp only;omega,by simp only;omega,by simp only[GU];omega,rfl⟩
def H5(b:Nat)(a:List Tile):List (List AV):=(List.range a.length).map λi=>[.im (.str ((a[i]?.map Tile.Name).getD ByteArray.empty)),.own (b+i)]
def Yr(σ:Nat->Nat)(b:Nat)(a:List Tile)(h: ∀i,i<a.length->σ (2+i)=b+i):(GX a a.length).map (AL σ)=H5 b a:=by
 have e:GX a a.length=(List.range a.length).map (HW a):=by simp[GX]
 rw[e,Q3];refine Nx λi z=> ?_
 simp only[Function.comp,HW,AL,AV.ren,h i (B6.1 z)]
def Yn(σ:Nat->Nat)(b n:Nat)(a:List Tile)(h: ∀i,i<n->σ (2+i)=b+i):AW σ (AT 2 n (Ep a))=AT b n (Ep a):=by
 simp only[AT]
 have: ∀(l:List Nat),(∀i∈l,i<n)->AW σ (l.map λi=>(2+i,Ep a i))=l.map λi=>(b+i,Ep a i):=by
  intro l;induction l with
  |nil=>intro _;rfl
  |cons i r ih=>
   intro z;have e:=ih (λj O=>z j (BR _ O));simp only[Bd,AW,h i (z i (BM ..)),Ep,Ad.ren] at e⊢;rw[e]
 exact this _ (λi G=>B6.1 G)
def Vp(k:List Nat)(nx cnt:Nat): ∀(H:Ap),(∀p∈H,nx<=p.1/\p.1<nx+cnt)->G1 k nx cnt H=true
 |[],_=>rfl
 |(i,e)::r,h=>by
  have z:=h (i,e) (BM ..);simp only at z;simp only[G1,Jy,Vp k nx cnt r (λp hp=>h p (BR _ hp)),ET,Hp,AS,GU,El];exact .inl z
def M8(b:Nat)(a:List Tile)(N:Nat)(h:b+a.length<=N):(H5 b a).all (Av N)=true:=by
 rw[Dp];intro r G;obtain⟨i,z,rfl⟩:=Bm.1 G
 have:=B6.1 z
 simp[Av,AV.bel];omega
def Uv{σ:Nat->Nat}{nx:Nat}(a:List Tile)(h: ∀j,σ j=nx+j):AW σ (toLX.H1 a)=(nx+1,(true,.arrA 206 2 (H5 (nx+2) a)))::AT (nx+2) (min a.length 1048576) (Ep a):=by
 simp only[toLX.H1,AW,Ad.ren];rw[Yr σ (nx+2) a (λi _=>by rw[h];omega),Yn σ (nx+2) _ a (λi _=>by rw[h];omega),h]
def Vs{b n:Nat}{f:Nat->Aq}{r:Ap}{m:Nat}(h:m<b):hget (AT b n f++r) m=hget r m:=by
 rw[P2,Qmh _ _ _ _ (.inl h)];rfl
def lR(ks:List Nat): ∀(a b:Ap),Bg (a++b) ks=Bg a ks++Bg b ks
 |[],b=>by simp[Bg]
 |(i,e)::r,b=>by
  simp only[CX,Bg,lR ks r b];cases ks.contains i<;>rfl
def ZR{b n:Nat}{f:Nat->Aq}{r:Ap}{k:Nat}(h:k<b):Bg (AT b n f++r) [k]=AT b n f++Bg r [k]:=by
 rw[lR,Vq _ _ _ _ (λx z=>by rw[BE] at z;subst z;exact .inl h)]
def M9{h:Nat->Option Aq}{kx:Nat->Option Nat}{m b:Nat}{a:List Tile}(G: ∀i,i<a.length->kx (b+i)=some (b+i)):Ax (Ax (Bb h kx (m+1))) (H5 b a)=some (H5 b a):=by
 refine UK (g:=λi=>[AV.im (.str ((a[i]?.map Tile.Name).getD ByteArray.empty)),AV.own (b+i)]) (k:=λi=>[AV.im (.str ((a[i]?.map Tile.Name).getD ByteArray.empty)),AV.own (b+i)]) _ λi z=> ?_
 simp only[Ax,Bb,G i (B6.1 z),kp]
def Sb{lo cnt m:Nat}(z:lo<=m)(G:m<cnt):(I8 [] 0 cnt λj=>decide (lo<=j)) m=some m:=by
 have hb:(decide (lo<=m) && (Nat.ble 0 m && Nat.blt m (0+cnt)))=true:=by
  simp only[AS,Ch,GU,El];omega
 simp only[I8,Am,hget,Zb,iY,hb,Ca]
def toSX.ca(a:AB):List AV:=[.im (.agg (AB.c a))]
def toSX.r0:AV:= .agg [.own 4,.own 6]
def toSX.H1(a:AB):Ap:=(4,(true,.arr 204 2 (a.Glues.map Ar.c)))::(6,(true,.arrA 206 2 (H5 7 a.Tiles)))::AT 7 (min a.Tiles.length 1048576) (Ep a.Tiles)
def toSX.pre(a:AB):Prop:=a.Glues.length<=1073741824/\toLX.pre a.Tiles
def toSX.row:A7:=AF toSX.ca (λ_=>[]) 0 toSX.pre (λ_=>false) (λ_=>toSX.r0) toSX.H1 2000005
def toSX.ok:AA Tryz.prog 48 toSX.row:=by
 refine ow (tC toGX.ok (tC toLX.ok tN)) Tryz.func48 rfl (by kernel_rfl) (exB:=λj=>Nat.ble 4 j) (R:=λ_ r=>r=toSX.r0) (λ_=>rfl)
  (λa=>by simp[toSX.ca,AB.c,Av,AV.bel,Ac,A9,BK]) (λa p hp=> ?_) (λa r h=>by subst h;exact C8.refl _) ?_
 rotate_left
 intro a O;simp only[Tryz.f48,toSX.ca,AB.c];simp(disch:=omega)only[ZA,simprocAttr];obtain⟨h1,Q⟩:=O;refine AF.os a.Glues [] h1 (λj=>by simp[Am,hget]) rfl rfl ?_ ?_
 .simp(disch:=omega)only[ZA,simprocAttr,toGX.ca,D3]
 simp(disch:=omega)only[ZA,simprocAttr,toGX.H1];refine AF.os a.Tiles [] Q (λj=>by simp[Am,hget]) rfl rfl ?_ ?_
 .simp(disch:=omega)only[ZA,simprocAttr,toLX.ca,D3]
 have hσ: ∀j,BT (HT []) 0 5 j=5+j:=λj=>by simp[BT]
 rw[Uv a.Tiles hσ];obtain⟨h3,h4⟩:=Q;have z:min a.Tiles.length 1048576=a.Tiles.length:=by omega
 rw[z];simp only[CR,AV.ren,hσ];refine⟨?_,?_⟩
 .rw[Bk.ok_nr,Vp _ _ _ _ (λp hp=> ?_)]
  .simp only[AV.bel,Ac];rw[Qk _ _ _ (λi=>by simp[Ac,Ep]),M8 _ _ _ (by omega)];simp
  .rcases Bi.1 hp with rfl|hp
   .exact⟨by simp only;omega,by simp only;omega⟩
   .obtain⟨i,G,rfl⟩:=Bm.1 hp
    have:=B6.1 G
    exact⟨by simp only;omega,by simp only;omega⟩
 simp(disch:=omega)only[ZA,simprocAttr,Bo,toSX.r0,Vs,ZR];obtain⟨H,hH⟩: ∃H,H=hget ((1,(true,Ad.cells 45 [AV.own 4,AV.own 6]))::(2,(true,Ad.cells 45 [AV.own 4,AV.own 6]))::(6,(true,Ad.arrA 206 2 (H5 7 a.Tiles)))::
  (AT 7 a.Tiles.length (Ep a.Tiles)++[(4,(true,Ad.arr 204 2 (List.map Ar.c a.Glues))),(0,(true,Ad.cells 25 [AV.im (D.sl false 2 (List.map Ar.c a.Glues)),AV.im (D.sl false 2 (List.map Tile.c a.Tiles))]))])):=⟨_,rfl⟩
 rw[<-hH];have Z:H 4=some (true,.arr 204 2 (a.Glues.map Ar.c)):=by rw[hH];simp[hget,Vs]
 have g6:H 6=some (true,.arrA 206 2 (H5 7 a.Tiles)):=by rw[hH];rfl
 have gf: ∀i,i<a.Tiles.length->H (7+i)=some (Ep a.Tiles i):=by
  intro i G;rw[hH];simp only[hget,Be _ _ (show 1≠7+i by omega),Be _ _ (show 2≠7+i by omega),Be _ _ (show 6≠7+i by omega),B8];rw[P2,Hh _ _ _ _ G];rfl
 simp only[toSX.H1,EK,z];refine⟨?_,?_,Nc _ _ _ _ _ gf (λi G=>rfl)⟩
 .rw[Z];exact⟨rfl,rfl⟩
 .rw[g6];exact⟨rfl,by simp only[Ct];rw[M9 (λi G=>Sb (by omega) (by omega))];rfl⟩
 simp only[toSX.H1,Bi,AT,Bm,B6] at hp;rcases hp with rfl|rfl|⟨i,G,rfl⟩
 .exact .inr ⟨by omega,by simp only;omega,rfl,rfl⟩
 .exact .inr ⟨by omega,by simp only;omega,rfl,rfl⟩
 .exact .inr ⟨by simp only;omega,by simp only;omega,by simp only[GU];omega,rfl⟩
def toAX.ca(a:Ah):List AV:=[.im (.agg (Ah.c a))]
def toAX.H1(a:Ah):Ap:=[(4,(true,.arr 137 3 (a.Tiles.map Ak.c)))]
def toAX.row:A7:=AF toAX.ca (λ_=>[]) 0 (λa=>a.Tiles.length<=1073741824) (λ_=>false) (λ_=> .agg [.own 4]) toAX.H1 5
def toAX.ok:AA Tryz.prog 12 toAX.row:=by
 refine ow (tC toPX.ok tN) Tryz.func12 rfl (by kernel_rfl) (exB:=λj=>j==4) (R:=λ_ r=>r= .agg [.own 4]) (λ_=>rfl)
  (λa=>by simp[toAX.ca,Ah.c,Av,AV.bel,Ac,A9,BK]) (λa p hp=> ?_) (λa r h=>by subst h;exact C8.refl _) ?_
 rotate_left
 intro a z;simp only[Tryz.f12,toAX.ca,toAX.H1,Ah.c];simp(disch:=omega)only[ZA,simprocAttr];refine AF.os a.Tiles [] z (λj=>by simp[Am,hget]) rfl rfl ?_ ?_
 .simp(disch:=omega)only[ZA,simprocAttr,toPX.ca,D3]
 simp(disch:=omega)only[ZA,simprocAttr,toPX.H1]
 skip
 simp[toAX.H1] at hp;subst hp;exact .inr ⟨by omega,by omega,rfl,rfl⟩
def Uw{σ:Nat->Nat}{nx:Nat}(a:AB)(h: ∀j,σ j=nx+j):AW σ (toSX.H1 a)=(nx+4,(true,.arr 204 2 (a.Glues.map Ar.c)))::(nx+6,(true,.arrA 206 2 (H5 (nx+7) a.Tiles)))::AT (nx+7) (min a.Tiles.length 1048576) (Ep a.Tiles):=by
 have z:(H5 7 a.Tiles).map (AL σ)=H5 (nx+7) a.Tiles:=by
  simp only[H5,Q3];refine Nx λi O=> ?_
  simp only[Function.comp,AL,AV.ren,h];rw[show nx+(7+i)=nx+7+i by omega]
 have G: ∀n,AW σ (AT 7 n (Ep a.Tiles))=AT (nx+7) n (Ep a.Tiles):=by
  intro n;simp only[AT]
  have: ∀(l:List Nat),AW σ (l.map λi=>(7+i,Ep a.Tiles i))=l.map λi=>(nx+7+i,Ep a.Tiles i):=by
   intro l;induction l with
   |nil=>rfl
   |cons i r ih=>
    simp only[Bd,AW,h,Ep,Ad.ren] at ih⊢;rw[ih,show nx+(7+i)=nx+7+i by omega]
  exact this _
 simp only[toSX.H1,AW,Ad.ren,z,G,h]
def toYX.ca(a:Az):List AV:=[.im (.agg (Az.c a))]
def toYX.r0(a:Az):AV:= .agg [.own 7,.own 9,.own 2000012,.im (.int .i64 a.Temperature)]
def toYX.H1(a:Az):Ap:=(7,(true,.arr 204 2 (a.Set.Glues.map Ar.c)))::(9,(true,.arrA 206 2 (H5 10 a.Set.Tiles)))::(2000012,(true,.arr 137 3 (a.Seed.Tiles.map Ak.c)))::AT 10 (min a.Set.Tiles.length 1048576) (Ep a.Set.Tiles)
def toYX.pre(a:Az):Prop:=toSX.pre a.Set/\a.Seed.Tiles.length<=1073741824
def toYX.row:A7:=AF toYX.ca (λ_=>[]) 0 toYX.pre (λ_=>false) toYX.r0 toYX.H1 2000013
def toYX.ok:AA Tryz.prog 11 toYX.row:=by
 refine ow (tC toSX.ok (tC toAX.ok tN)) Tryz.func11 rfl (by kernel_rfl) (exB:=λj=>Nat.ble 7 j) (R:=λa r=>r=toYX.r0 a) (λ_=>rfl)
  (λa=>by simp[toYX.ca,Az.c,Av,AV.bel,Ac,A9,BK]) (λa p hp=> ?_) (λa r h=>by subst h;exact C8.refl _) ?_
 rotate_left
 intro a O;simp only[Tryz.f11,toYX.ca,Az.c];simp(disch:=omega)only[ZA,simprocAttr];obtain⟨Q,h2⟩:=O;refine AF.os a.Set [] Q (λj=>by simp[Am,hget]) rfl rfl ?_ ?_
 .simp(disch:=omega)only[ZA,simprocAttr,toSX.ca,AB.c,D3]
 have hσ: ∀j,BT (HT []) 0 3 j=3+j:=λj=>by simp[BT]
 rw[Uw a.Set hσ];obtain⟨h0,h3,h4⟩:=Q;have z:min a.Set.Tiles.length 1048576=a.Set.Tiles.length:=by omega
 rw[z];simp only[CR,toSX.r0,AV.ren,AL,hσ];refine⟨?_,?_⟩
 .rw[Bk.ok_nr,Vp _ _ _ _ (λp hp=> ?_)]
  .simp only[AV.bel,Av,Ac];rw[Qk _ _ _ (λi=>by simp[Ac,Ep]),M8 _ _ _ (by omega)];simp
  .rcases Bi.1 hp with rfl|hp
   .exact⟨by simp only;omega,by simp only;omega⟩
   rcases Bi.1 hp with rfl|hp
   .exact⟨by simp only;omega,by simp only;omega⟩
   .obtain⟨i,G,rfl⟩:=Bm.1 hp
    have:=B6.1 G
    exact⟨by simp only;omega,by simp only;omega⟩
 simp(disch:=omega)only[ZA,simprocAttr,Bo,Vs,ZR];refine AF.os a.Seed [] h2 (λj=>by simp[Am,hget]) rfl rfl ?_ ?_
 .simp(disch:=omega)only[ZA,simprocAttr,toAX.ca,Ah.c,D3]
 simp(disch:=omega)only[ZA,simprocAttr,toAX.H1,Bo,Vs,ZR,toYX.r0];obtain⟨H,hH⟩: ∃H,H=hget ((1,(true,Ad.cells 47 [AV.own 7,AV.own 9,AV.own 2000012,AV.im (D.int IntKind.i64 a.Temperature)]))::(2,(true,Ad.cells 47 [AV.own 7,AV.own 9,AV.own 2000012,AV.im (D.int IntKind.i64 a.Temperature)]))::
  (2000012,(true,Ad.arr 137 3 (List.map Ak.c a.Seed.Tiles)))::(7,(true,Ad.arr 204 2 (List.map Ar.c a.Set.Glues)))::(9,(true,Ad.arrA 206 2 (H5 10 a.Set.Tiles)))::
  (AT 10 a.Set.Tiles.length (Ep a.Set.Tiles)++[(0,(true,Ad.cells 30 [AV.im (D.sl false 2 (List.map Ar.c a.Set.Glues)),AV.im (D.sl false 2 (List.map Tile.c a.Set.Tiles)),AV.im (D.sl false 3 (List.map Ak.c a.Seed.Tiles)),AV.im (D.int IntKind.i64 a.Temperature)]))])):=⟨_,rfl⟩
 rw[<-hH];have Z:H 7=some (true,.arr 204 2 (a.Set.Glues.map Ar.c)):=by rw[hH];rfl
 have g9:H 9=some (true,.arrA 206 2 (H5 10 a.Set.Tiles)):=by rw[hH];rfl
 have gs:H 2000012=some (true,.arr 137 3 (a.Seed.Tiles.map Ak.c)):=by rw[hH];simp[hget]
 have gf: ∀i,i<a.Set.Tiles.length->H (10+i)=some (Ep a.Set.Tiles i):=by
  intro i G;rw[hH];simp only[hget,Be _ _ (show 1≠10+i by omega),Be _ _ (show 2≠10+i by omega),Be _ _ (show 2000012≠10+i by omega),Be _ _ (show 7≠10+i by omega),Be _ _ (show 9≠10+i by omega),B8];rw[P2,Hh _ _ _ _ G];rfl
 simp only[toYX.H1,EK,z];refine⟨?_,?_,?_,Nc _ _ _ _ _ gf (λi G=>rfl)⟩
 .rw[Z];exact⟨rfl,rfl⟩
 .rw[g9];exact⟨rfl,by simp only[Ct];rw[M9 (λi G=>Sb (by omega) (by omega))];rfl⟩
 .rw[gs];exact⟨rfl,rfl⟩
 simp only[toYX.H1,Bi,AT,Bm,B6] at hp;rcases hp with rfl|rfl|rfl|⟨i,G,rfl⟩
 .exact .inr ⟨by omega,by simp only;omega,rfl,rfl⟩
 .exact .inr ⟨by omega,by simp only;omega,rfl,rfl⟩
 .exact .inr ⟨by omega,by simp only;omega,by simp only[GU];omega,rfl⟩
 .exact .inr ⟨by simp only;omega,by simp only;omega,by simp only[GU];omega,rfl⟩
def eqInt64SF.fv(a:(List Int)×(List Int)):Bool:=(λa b=>decide (a=b)) (a.1) (a.2)
def eqInt64SF.row:A7:=CN (b2 (qS DU Dc) (qS DU Dc)) rB (λa=>True) eqInt64SF.fv
def eqInt64SF.ok:AA Tryz.prog 20 eqInt64SF.row:=by
 refine FZ tN Tryz.func20 rfl (by kernel_rfl) ?_;intro a Z;simp only[Tryz.f20];simp(disch:=omega)only[ZA,simprocAttr,eqInt64SF.fv,D.sc,D.scs,Bv];intro h1 h2;simp only[AP];refine⟨λG=> ?_,λG=> ?_⟩
 .have:a.1≠a.2:=λh=>G (by rw[h])
  simp[this]
 have G:a.1.length=a.2.length:=by omega
 refine AR.old ⟨{k:Nat//k<=a.1.length/\a.1.take k=a.2.take k},λk=>⟨[(5,.im (.int .i64 k.1)),(4,.im (.bool false)),(0,.im (.sl false 1 (a.1.map Al))),(1,.im (.sl false 1 (a.2.map Al)))],[],0⟩,λk=>a.1.length - k.1,λk=>⟨by simp[Aj.good,An,Ac,A9,AV.bel],AN _⟩,⟨⟨0,by simp⟩,by simp(disch:=omega)only[ZA,simprocAttr,sub]⟩,λk=> ?_⟩;obtain⟨k,Q,z⟩:=k;simp(disch:=omega)only[ZA,simprocAttr,D.sc,D.scs,Bv,sub,AP];intro _;refine⟨λO=>⟨O,λx hx=>⟨by omega,λy hy=> ?_⟩⟩,λO=> ?_⟩
 .obtain⟨g1,g2⟩:=bJ G Q z hx hy;exact⟨λh=>by simp[g2 h],λh=>F2 O h1 ⟨by omega,g1 (by simpa using h)⟩⟩
 .rw[DB (by omega),DB (by omega)] at z;simp[z]
def eqOptionSF.fv(a:(List AJ)×(List AJ)):Bool:=(λa b=>decide (a=b)) (a.1) (a.2)
def eqOptionSF.row:A7:=CN (b2 (qS AJ.d_le AJ.c_n) (qS AJ.d_le AJ.c_n)) rB (λa=>True) eqOptionSF.fv
def eqOptionSF.ok:AA Tryz.prog 16 eqOptionSF.row:=by
 refine FZ (tC eqOption.ok tN) Tryz.func16 rfl (by kernel_rfl) ?_;intro a Z;simp only[Tryz.f16];simp(disch:=omega)only[ZA,simprocAttr,eqOptionSF.fv,D.sc,D.scs,Bv];intro h1 h2;simp only[AP];refine⟨λG=> ?_,λG=> ?_⟩
 .have:a.1≠a.2:=λh=>G (by rw[h])
  simp[this]
 have G:a.1.length=a.2.length:=by omega
 refine AR.old ⟨{k:Nat//k<=a.1.length/\a.1.take k=a.2.take k},λk=>⟨[(5,.im (.int .i64 k.1)),(4,.im (.bool false)),(0,.im (.sl false 3 (a.1.map AJ.c))),(1,.im (.sl false 3 (a.2.map AJ.c)))],[],0⟩,λk=>a.1.length - k.1,λk=>⟨by simp[Aj.good,An,Ac,A9,AV.bel],AN _⟩,⟨⟨0,by simp⟩,by simp(disch:=omega)only[ZA,simprocAttr,sub]⟩,λk=> ?_⟩;obtain⟨k,Q,z⟩:=k;simp(disch:=omega)only[ZA,simprocAttr,eqOption.q,eqOption.fv,D.sc,D.scs,Bv,sub,AP];intro _;refine⟨λO=>⟨O,λx hx=>⟨by omega,λy hy=> ?_⟩⟩,λO=> ?_⟩
 .obtain⟨g1,g2⟩:=bJ G Q z hx hy;exact⟨λh=>by simp[g2 (show x≠y from h)],λh=>F2 O h1 ⟨by omega,g1 (show x=y from F8.1 h)⟩⟩
 .rw[DB (by omega),DB (by omega)] at z;simp[z]
def eqSystemF.fv(a:Az×Az):Bool:=(λa b=>decide (a=b)) (a.1) (a.2)
def eqSystemF.row:A7:=CN (b2 (qR Az.d_le) (qR Az.d_le)) rB (λa=>True) eqSystemF.fv
def eqSystemF.ok:AA Tryz.prog 18 eqSystemF.row:=by
 refine FZ (tC eqTileSet.ok (tC eqAssembly.ok tN)) Tryz.func18 rfl (by kernel_rfl) ?_;intro a G;simp only[Tryz.f18];simp(disch:=omega)only[ZA,simprocAttr,Ah.d,eqSystemF.fv,eqTileSet.q,eqTileSet.fv,eqAssembly.q,eqAssembly.fv,D.sc,D.scs,Bv];obtain⟨⟨⟨x,O⟩,⟨y⟩,u⟩,⟨⟨z,Q⟩,⟨w⟩,v⟩⟩:=a;simp only[Az.mk.injEq,AB.mk.injEq,Ah.mk.injEq]
 grind
def mkAC.ca(a:Ah×Int):List AV:=[.agg [.own 0],.im (.int .i64 a.2)]
def mkAC.H0(a:Ah×Int):Ap:=[(0,(true,.arr 137 3 (a.1.Tiles.map Ak.c)))]
def mkAC.H1(a:Ah×Int):Ap:=[(0,(true,.arr 137 3 ((D2 (pF a.2) a.1.Tiles.length).map Ak.c)))]
def mkAC.row:A7:=AF mkAC.ca mkAC.H0 1 (λa=>0<=a.2/\a.2+3*a.1.Tiles.length<=1099511627776) (λj=>j==0) (λa=> .im (.int .i64 (a.2+3*a.1.Tiles.length))) mkAC.H1 0
def mkAC.ok:AA Tryz.prog 22 mkAC.row:=by
 refine ow (tC mkPC.ok tN) Tryz.func22 rfl (by kernel_rfl) (exB:=λ_=>false) (R:=λa r=>r= .im (.int .i64 (a.2+3*a.1.Tiles.length))) (λ_=>rfl)
  (λa=>by simp[mkAC.ca,mkAC.H0,Av,AV.bel,Ac,A9,BK,Ad.nms,Am,hget]) (λa p hp=> ?_) (λa r h=>by subst h;exact C8.refl _) ?_
 rotate_left
 intro a z;simp only[Tryz.f22,mkAC.ca,mkAC.H0,mkAC.H1];simp(disch:=omega)only[ZA,simprocAttr];refine AF.os (a.1.Tiles,a.2) [0] z (λj=> ?_) rfl rfl ?_ ?_
 .simp only[Am,mkPC.H0,hget];by_cases G:j=0
  .subst G;simp
  .have:(0==j)=false:=by simpa using λh=>G h.symm
   rw[this];simp;omega
 .simp(disch:=omega)only[ZA,simprocAttr,D5,mkPC.ca,mkPC.H0,D3,Eh]
  try exact⟨rfl,rfl⟩
 simp(disch:=omega)only[ZA,simprocAttr,D5,mkPC.H1,Eh,G6]
 skip
 simp[mkAC.H1] at hp;subst hp;exact .inl ⟨by omega,rfl,rfl⟩
def nT(a:List Tile):Nat:=min a.length 1048576
def zW(a:List Tile)(i:Nat):List Int:=(a[i]?.map Tile.Sides).getD []
def EI(a:List Tile)(k:Int):Nat->Int
 |0=>k
 |i+1=>EI a k i+1+(zW a i).length
def Fb(a:List Tile)(k:Int)(i j:Nat):List AV:=if j<i then [.im (.str (JX (EI a k j))),.own (2+j)] else HW a j
def F1(a:List Tile)(k:Int)(i j:Nat):Aq:=(true,.arr 2 1 ((if j<i then Vb (EI a k j+1) (zW a j).length else zW a j).map Al))
def Dh(a:List Tile)(k:Int)(i:Nat):Ap:=(0,(true,.arrA 206 2 ((List.range (nT a)).map (Fb a k i))))::AT 2 (nT a) (F1 a k i)
def mkLC.ca(a:List Tile×Int):List AV:=[.own 0,.im (.int .i64 a.2)]
def mkLC.H0(a:List Tile×Int):Ap:=Dh a.1 a.2 0
def mkLC.H1(a:List Tile×Int):Ap:=Dh a.1 a.2 (nT a.1)
def mkLC.r0(a:List Tile×Int):AV:= .im (.int .i64 (EI a.1 a.2 a.1.length))
def mkLC.pre(a:List Tile×Int):Prop:=a.1.length<=1048576/\0<=a.2/\EI a.1 a.2 a.1.length<=1099511627776
def mkLC.row:A7:=AF mkLC.ca mkLC.H0 2000000 mkLC.pre (λ_=>true) mkLC.r0 mkLC.H1 0
def Fk(a:List Tile):nT a<=1048576:=dL _ _
def aC(a:List Tile)(k:Int)(i j N:Nat)(h:2+j<N):Av N (Fb a k i j)=true:=by
 simp only[Fb]
 split<;>simp[HW,Av,AV.bel,h]
def ZV(a:List Tile)(k:Int)(i j:Nat):AC (Fb a k i j)=[2+j]:=by
 simp only[Fb]
 split<;>simp[HW,AC,AV.nms]
def lX(a:List Tile)(k:Int)(i N:Nat)(h:2+nT a<N):Ac N (Dh a k i)=true:=by
 simp only[Dh,Ac];rw[Qk _ _ _ (λj=>by simp[Ac,F1]),ET,Dp];intro r G;obtain⟨j,z,rfl⟩:=Bm.1 G;exact aC _ _ _ _ _ (by have:=B6.1 z;omega)
def mkLC.hbel(a:List Tile×Int):Av 2000000 (mkLC.ca a)=true:=by simp[mkLC.ca,Av,AV.bel]
def mkLC.hbH(a:List Tile×Int):Ac 2000000 (mkLC.H0 a)=true:=lX _ _ _ _ (by have:=Fk a.1;omega)
def mkLC.hkH(a:List Tile×Int):A9 2000000 (mkLC.H0 a)=true:=by
 simp only[mkLC.H0,Dh,A9];rw[Qa _ _ _ _ (by have:=Fk a.1;omega)];simp
def Ic(a:List Tile)(k:Int)(i j:Nat):Am (Dh a k i) j=true↔j=0\/(2<=j/\j<2+nT a):=by
 simp only[Am,Dh,hget,iI];by_cases h0:j=0
 .subst h0;simp
 .have:(0==j)=false:=by simpa using λh=>h0 h.symm
  rw[this];simp only[B8];split
  .rename_i h;simp[h]
  .rename_i h;simp[h0];omega
def mkLC.hnm(a:List Tile×Int):BK (mkLC.H0 a) (mkLC.H0 a):=by
 simp only[mkLC.H0];have G: ∀m,(∃j,j<nT a.1/\m=2+j)->Am (Dh a.1 a.2 0) m=true:=by
  rintro m ⟨j,O,rfl⟩;exact (Ic _ _ _ _).2 (.inr ⟨by omega,by omega⟩)
 conv=>arg 2;unfold Dh
 simp only[BK];refine⟨λm z=> ?_,lK λi Z m z=>by simp[F1,Ad.nms] at z⟩;simp only[Ad.nms] at z;obtain⟨r,Q,z⟩:=FF.1 z;obtain⟨j,O,rfl⟩:=Bm.1 Q;rw[ZV,BE] at z;exact G m ⟨j,B6.1 O,z⟩
def MA(a:List Tile)(k:Int)(h:0<=k): ∀i j,i<=j->0<=EI a k i/\EI a k i<=EI a k j:=by
 have pos: ∀i,0<=EI a k i:=by
  intro i;induction i with
  |zero=>exact h
  |succ i ih=>simp only[EI];omega
 intro i j z;refine⟨pos i,?_⟩;induction j with
 |zero=>have:i=0:=by omega
        subst this;exact PB _
 |succ j ih=>
  by_cases c:i=j+1
  .subst c;exact PB _
  .have:=ih (by omega)
   simp only[EI];omega
def lT(s:Aj)(b n:Nat)(f:Nat->Aq):BU s (AT b n f)= ∀i,i<n->hget s.h (b+i)=some (f i):=by
 have: ∀(l:List Nat),BU s (l.map λi=>(b+i,f i))↔ ∀i∈l,hget s.h (b+i)=some (f i):=by
  intro l;induction l with
  |nil=>simp[BU]
  |cons i r ih=>simp only[Bd,BU,ih,Bi,yT]
 apply propext;rw[AT,this];simp only[B6]
def ZY(a:List Tile)(k:Int)(i j:Nat)(h:j<nT a):hget (Dh a k i) (2+j)=some (F1 a k i j):=by
 simp only[Dh,hget,Be _ _ (show 0≠2+j by omega),B8];exact Hh _ _ _ _ h
def mkLC.ok:AA Tryz.prog 116 mkLC.row:=by
 refine ow (tC mkText.ok (tC mkIC.ok tN)) Tryz.func116 rfl (by kernel_rfl) (exB:=λ_=>false) (R:=λa r=>r=mkLC.r0 a) (λ_=>rfl)
  (λa=>⟨mkLC.hbel a,mkLC.hbH a,mkLC.hkH a,mkLC.hnm a⟩) (λa p hp=> ?_) (λa r h=>by subst h;exact C8.refl _) ?_
 rotate_left
 intro a aa;simp only[Tryz.f116,mkLC.ca];simp(disch:=omega)only[ZA,simprocAttr];obtain⟨l,k⟩:=a;obtain⟨h1,h2,h3⟩:=aa;simp only at h1 h2 h3;have hn:nT l=l.length:=by simp only[nT];omega
 simp only[Bo,mkLC.H0,mkLC.H1];refine AR.old ⟨{i:Nat//i<=l.length},λi=>⟨[(5,.im (.int .i64 i.1)),(4,.im (.int .i64 0)),(0,.own 0),(1,.im (.int .i64 (EI l k i.1)))],Dh l k i.1,2000000⟩,λi=>l.length - i.1,λi=>⟨?_,by simp⟩,⟨⟨0,by simp⟩,?_⟩,λi=> ?_⟩
 .simp only[Aj.good,An,AV.bel,ET,CP];rw[lX _ _ _ _ (by omega)];simp only[Dh,A9];rw[Qa _ _ _ _ (by omega)];simp
 .simp only[sub];simp(disch:=omega)only[ZA,simprocAttr,EI]
  conv=>arg 2;unfold Dh
  simp only[BU,lT];exact⟨rfl,λj z=>ZY _ _ _ _ z⟩
 .obtain⟨i,ac⟩:=i;have hb:=MA l k h2 i l.length ac;have Q:((List.range (nT l)).map (Fb l k i)).length=l.length:=by simp[hn]
  simp only[Dh];simp(disch:=omega)only[ZA,simprocAttr,mkText.q,mkText.fv,AP,Q,Bo];intro _;refine⟨λZ=>⟨by omega,Z,Z,λx hx=> ?_⟩,λZ=> ?_⟩
  .obtain rfl:i=x:=by
    rw[HK (by omega)] at hx;exact AE hx
   have em:Fb l k i i=[.im (.str ((l[i]?.map Tile.Name).getD ByteArray.empty)),.own (2+i)]:=by simp[Fb,HW]
   have G:((List.range (nT l)).map (Fb l k i)).set i [.im (.str (JX (EI l k i))),.own (2+i)]=(List.range (nT l)).map (Fb l k (i+1)):=by
    apply JE;intro j;by_cases z:i=j
    .subst z;rw[Da (by rw[Q];exact Z),D9,HK (by omega)];simp[Fb]
    .rw[D4 z,D9,D9];cases hr:(List.range (nT l))[j]? with
     |none=>rfl
     |some y=>
      have hy:j=y:=by
       have hl:=(Cd.1 hr).1;simp at hl;rw[HK hl] at hr;exact AE hr
      subst hy;simp only[Ds,Fb];by_cases c:j<i
      .rw[Ao c,Ao (by omega)]
      .rw[Ag c,Ag (by omega)]
   rw[em];simp only[P8,GN];have O:i<((List.range (nT l)).map (Fb l k i)).length:=by rw[Q];exact Z
   have hw:IntKind.i64.wrap (EI l k i+1)=EI l k i+1:=AG (by omega) (by omega);refine⟨by simp,?_,by rw[Ew];exact O,by rw[Ew];exact O,Hj (Da O) ?_⟩
   .rw[G,Dp];intro r hr;obtain⟨j,z,rfl⟩:=Bm.1 hr;exact aC _ _ _ _ _ (by have:=B6.1 z;omega)
   simp(disch:=omega)only[ZA,simprocAttr,G,hw];have ab:=(MA l k h2 (i+1) l.length Z).2;simp only[EI] at ab;refine⟨by omega,?_⟩;simp only[Bo];rw[Vq 2 (nT l) (F1 l k i) [0] (by simp)];refine AF.os (zW l i,EI l k i+1) [2+i] ⟨by simp only;omega,by simp only;omega⟩ (λj=> ?_) rfl ?_ ?_ ?_
   .simp only[Am,mkIC.H0,hget];by_cases z:j=0
    .subst z;simp
    .have:(0==j)=false:=by simpa using λh=>z h.symm
     rw[this];simp;omega
   .simp only[Ws,ET,El];omega
   .refine⟨by simp[mkIC.ca,AL,AV.ren,BT,HT],?_,trivial⟩;have e:BT (HT [2+i]) 1 2000000 0=2+i:=by simp[BT,HT]
    rw[e]
    have:=ZY l k i i (by omega)
    simp only[Dh,F1,hget,Be _ _ (show 0≠2+i by omega),B8] at this;simp only[hget,Be _ _ (show 0≠2+i by omega),B8];rw[Hh _ _ _ _ (by omega)];simp[F1,Ad.ren]
   simp(disch:=omega)only[ZA,simprocAttr,D5,mkIC.H1,sub,Bo,Be,Wb,Eh];refine⟨.inr (by omega),⟨i+1,by omega⟩,by simp only;omega,⟨by rw[AG (by omega) (by omega)];simp only;omega,rfl⟩,rfl,?_⟩;rw[lT];intro j z;by_cases ag:j=i
   .subst ag;simp[hget,F1]
   .simp only[hget,Be _ _ (show 2+i≠2+j by omega),Be _ _ (show 0≠2+j by omega),B8];rw[Kx _ _ _ (by omega),Hh _ _ _ _ z];simp only[F1];by_cases c:j<i
    .rw[Ao c,Ao (by omega)]
    .rw[Ag c,Ag (by omega)]
  .have ad:i=l.length:=by omega
   subst ad;have kx: ∀j,j<nT l->I8 ((0,(true,Ad.arrA 206 2 (List.map (Fb l k 0) (List.range (nT l)))))::AT 2 (nT l) (F1 l k 0)) 2000000 0 (λ_=>false) (2+j)=some (2+j):=by
    intro j z
    have:=(Ic l k 0 (2+j)).2 (.inr ⟨by omega,by omega⟩)
    simp only[Dh] at this;simp only[I8,this,dJ,Ca]
   refine⟨?_,rfl,?_,?_⟩
   .have: ∀(h:Nat->Option Aq) (H:Ap),H3 h (λ_=>true) H:=by
     intro h H;induction H with
     |nil=>trivial
     |cons x r ih=>obtain⟨j,e⟩:=x;exact⟨trivial,ih⟩
    exact this _ _
   .rw[show Fb l k (nT l)=Fb l k l.length by rw[hn]];rw[UK (g:=Fb l k l.length) (k:=Fb l k l.length) _ (λj z=> ?_)]
    .rfl
    .have af:=B6.1 z;simp only[Fb,Ao (show j<l.length by omega),Ax,Bb,kx j af,kp]
   .refine Nc _ _ _ _ _ (λj z=> ?_) (λj z=>rfl);simp only[hget,Be _ _ (show 0≠2+j by omega),B8];rw[Hh _ _ _ _ z,hn]
 refine .inl ?_;have ah:p.1=0\/(2<=p.1/\p.1<2+nT a.1):=by
  simp only[mkLC.H1,Dh,Bi,AT,Bm,B6] at hp;rcases hp with rfl|⟨j,z,rfl⟩
  .exact .inl rfl
  .exact .inr ⟨by simp only;omega,by simp only;omega⟩
 have:=Fk a.1
 exact⟨by omega,rfl,(Ic _ _ _ _).2 ah⟩
def Oa{H:Ap}{j:Nat}:j∈ES H↔Am H j=true:=by
 induction H with
 |nil=>simp[ES,Am,hget]
 |cons e r ih=>
  obtain⟨i,e⟩:=e;simp only[ES,Bi,Am,hget];by_cases z:i=j
  .subst z;simp
  .have:(i==j)=false:=by simpa using z
   rw[this];simp only[B8];exact⟨λh=>ih.1 (h.resolve_left λh=>z h.symm),λh=> .inr (ih.2 h)⟩
mutual
def ZU{n:Nat}: ∀x:AV,(∀m∈x.nms,m<n)->x.bel n=true
 | .any,_=>rfl
 | .im _,_=>rfl
 | .agg z,h=>by simp only[AV.nms] at h;simp only[AV.bel];exact Jw z h
 | .tup z,h=>by simp only[AV.nms] at h;simp only[AV.bel];exact Jw z h
 | .ptr o _,h=>by simp only[AV.bel,El];exact h o (by simp[AV.nms])
 | .eptr o _ _,h=>by simp only[AV.bel,El];exact h o (by simp[AV.nms])
 | .own o,h=>by simp only[AV.bel,El];exact h o (by simp[AV.nms])
 | .mp o,h=>by simp only[AV.bel,El];exact h o (by simp[AV.nms])
 | .ch o,h=>by simp only[AV.bel,El];exact h o (by simp[AV.nms])
 | .it o,h=>by simp only[AV.bel,El];exact h o (by simp[AV.nms])
 | .osl o _ _,h=>by simp only[AV.bel,El];exact h o (by simp[AV.nms])
 | .clo _ a c,h=>by
   simp only[AV.nms,Br] at h;simp only[AV.bel,Jw a λm G=>h m (.inl G),Jw c λm G=>h m (.inr G),Zi]
def Jw{n:Nat}: ∀xs:List AV,(∀m∈AC xs,m<n)->Av n xs=true
 |[],_=>rfl
 |x::r,h=>by
  simp only[AC,Br] at h;simp only[Av,ZU x λm z=>h m (.inl z),Jw r λm z=>h m (.inr z),Zi]
end
def lH{n:Nat}: ∀H:Ap,(∀p∈H,∀m∈p.2.2.nms,m<n)->Ac n H=true
 |[],_=>rfl
 |(i,(Q,e))::r,h=>by
  have z:=h _ (BM ..);have ih:=lH r λp hp=>h p (BR _ hp)
  cases e with
  |cells T G=>simp only[Ac,ih,ET];exact Jw G (by simpa[Ad.nms] using z)
  |arrA T k rows=>
   simp only[Ac,ih,ET,Dp];refine λq hq=>Jw q λm O=>z m ?_
   simp only[Ad.nms];exact FF.2 ⟨q,hq,O⟩
  |_=>simp only[Ac,ih]
mutual
def aD(σ:Nat->Nat): ∀x:AV,(x.ren σ).nms=x.nms.map σ
 | .any=>rfl
 | .im _=>rfl
 | .agg z=>by simp only[AV.ren,AV.nms];exact Jx σ z
 | .tup z=>by simp only[AV.ren,AV.nms];exact Jx σ z
 | .ptr o _=>rfl
 | .eptr o _ _=>rfl
 | .own o=>rfl
 | .mp o=>rfl
 | .ch o=>rfl
 | .it o=>rfl
 | .osl o _ _=>rfl
 | .clo _ a c=>by simp only[AV.ren,AV.nms,Jx σ a,Jx σ c,F9]
def Jx(σ:Nat->Nat): ∀xs:List AV,AC (AL σ xs)=(AC xs).map σ
 |[]=>rfl
 |x::r=>by simp only[AL,AC,aD σ x,Jx σ r,F9]
end
def Qafh(σ:Nat->Nat)(e:Ad): ∀m∈(e.ren σ).nms,∃j∈e.nms,m=σ j:=by
 intro m z;cases e with
 |cells T Q=>
  simp only[Ad.ren,Ad.nms,Jx,Bm] at z⊢;obtain⟨j,G,rfl⟩:=z;exact⟨j,G,rfl⟩
 |arrA T k rows=>
  simp only[Ad.ren,Ad.nms] at z⊢;obtain⟨r,O,z⟩:=FF.1 z;obtain⟨q,hq,rfl⟩:=Bm.1 O;rw[Jx,Bm] at z;obtain⟨j,G,rfl⟩:=z;exact⟨j,FF.2 ⟨q,hq,G⟩,rfl⟩
 |_=>simp[Ad.ren,Ad.nms] at z
def lQ{σ:Nat->Nat}{N:Nat}(H:Ap)(h: ∀p∈H,∀m∈p.2.2.nms,σ m<N):Ac N (AW σ H)=true:=by
 refine lH _ ?_;induction H with
 |nil=>intro p hp;cases hp
 |cons x r ih=>
  obtain⟨i,O,e⟩:=x;intro p hp m z;rcases Bi.1 hp with rfl|hp
  .obtain⟨j,G,rfl⟩:=Qafh σ e m z;exact h _ (BM ..) j G
  .exact ih (λp hp=>h p (BR _ hp)) p hp m z
def AF.tau{A:Type}{ca:A->List AV}{H0:A->Ap}{k:Nat}{pre:A->Prop}{klB:Nat->Bool}{r0:A->AV}{H1:A->Ap}{args:List AV}{tm:List (Nat×AV)}{h:Ap}{nx:Nat}{dst:Option Nat}{go:Aj->Prop}(a:A)(τ:Nat->Nat)(ac:pre a)(ai: ∀j,Am (H0 a) j=true->klB j=true)
 (hd: ∀j,Am (H0 a) j=true->j<k/\τ j<nx)(aa: ∀i j,Am (H0 a) i=true->Am (H0 a) j=true->τ i=τ j->i=j)
 (hcl: ∀p∈H1 a,Am (H0 a) p.1=true/\ ∀m∈p.2.2.nms,Am (H0 a) m=true)
 (hx:args=AL (BT τ k nx) (ca a)/\D3 (hget h) (BT τ k nx) (H0 a))
 (hb: ∀m∈(r0 a).nms,Am (H0 a) m=true)
 (ag: ∀HH:Ap,(∀j e,hget (H1 a) j=some e->hget HH (τ j)=some (e.1,e.2.ren (BT τ k nx)))->(∀m,(∀j,Am (H0 a) j=true->τ j≠m)->hget HH m=hget h m)->go ((⟨tm,HH,nx⟩:Aj).put dst ((r0 a).ren (BT τ k nx)))):
 AF ca H0 k pre klB r0 H1 0 args (hget h) nx (CR go ⟨tm,h,nx⟩ dst):=by
 have hσ: ∀j,Am (H0 a) j=true->BT τ k nx j=τ j:=λj z=>Ao (hd j z).1
 have ah: ∀i j,Am (H0 a) i=true->Am (H0 a) j=true->BT τ k nx i=BT τ k nx j->i=j:=λi j hi z h=>aa i j hi z (by rwa [hσ i hi,hσ j z] at h)
 have G: ∀m,m∈(ES (H0 a)).map τ↔ ∃j,Am (H0 a) j=true/\τ j=m:=λm=>by simp only[Bm,Oa]
 have Q: ∀p∈H1 a,Am (H0 a) p.1=true:=λp hp=>(hcl p hp).1
 refine⟨a,τ,(ES (H0 a)).map τ,(ES (H0 a)).map τ,ac,hx.1,hx.2,⟨aa,λj z=>(hd j z).2,λj z=>(G _).2 ⟨j,z,rfl⟩,λm Z=> ?_,λj z _=>(G _).2 ⟨j,z,rfl⟩⟩,?_⟩
 .obtain⟨j,z,rfl⟩:=(G m).1 Z;exact⟨j,z,ai j z,rfl⟩
 refine⟨?_,?_⟩
 .have ad:((r0 a).ren (BT τ k nx)).bel nx=true:=by
   refine ZU _ λm Z=> ?_
   rw[aD,Bm] at Z;obtain⟨j,z,rfl⟩:=Z;rw[hσ j (hb j z)];exact (hd j (hb j z)).2
  have af:Ac nx (AW (BT τ k nx) (H1 a))=true:=lQ _ λp hp m Z=>by
   have:=(hcl p hp).2 m Z
   rw[hσ m this];exact (hd m this).2
  rw[Bk.ok_nr,N2,ad,af,CP,CP]
  have: ∀H:Ap,(∀p∈H,Am (H0 a) p.1=true)->G1 ((ES (H0 a)).map τ) nx 0 (AW (BT τ k nx) H)=true:=by
   intro H;induction H with
   |nil=>intro _;rfl
   |cons e r ih=>
    obtain⟨i,mu,e⟩:=e;intro hp;have O:=hp _ (BM ..);simp only at O;simp only[AW,G1,Jy,AS,Hp,GU,El];refine⟨.inr ⟨?_,?_⟩,ih λp h=>hp p (BR _ h)⟩
    .rw[Gi,hσ i O];exact (G _).2 ⟨i,O,rfl⟩
    .rw[hσ i O];exact (hd i O).2
  exact this _ Q
 rw[Aj.app_nr,N2];refine ag _ (λj e he=> ?_) (λm Z=> ?_)
 .have z:Am (H0 a) j=true:=by
   have: ∀H:Ap,hget H j=some e-> ∃p∈H,p.1=j:=by
    intro H;induction H with
    |nil=>intro h;cases h
    |cons x r ih=>
     obtain⟨i,x⟩:=x;intro h;by_cases ab:i=j
     .exact⟨_,BM ..,ab⟩
     .have hb:(i==j)=false:=by simpa using ab
      simp only[hget,hb,B8] at h;obtain⟨p,O,h2⟩:=ih h;exact⟨p,BR _ O,h2⟩
   obtain⟨p,O,rfl⟩:=this _ he;exact Q p O
  rw[P2,<-hσ j z,Qv5 (D:=λj=>Am (H0 a) j=true) ah (H1 a) Q j z,he];rfl
 .rw[P2];cases hq:hget (AW (BT τ k nx) (H1 a)) m with
  |some e=>
   obtain⟨j,e0,O,h2,_⟩:=rG hq;have z:=Q _ O;rw[hσ j z] at h2;exact absurd h2 (Z j z)
  |none=>
   rw[VQ,Ag]
   .rfl
   .rw[Gi];intro h;obtain⟨j,z,h2⟩:=(G m).1 h;exact Z j z h2
def aG{go:Aj->Prop}{tm:List (Nat×AV)}{h:Ap}{nx:Nat}{dst:Option Nat}{σ:Nat->Nat}(hσ: ∀j,σ j=nx+j){r0:AV}{H1:Ap}{cnt:Nat}{u kl:List Nat}(aa:kl=[])
 (hcl: ∀p∈H1,p.1<cnt/\ ∀m∈p.2.2.nms,m<cnt)(hb: ∀m∈r0.nms,m<cnt)
 (Z: ∀G:Ap,(∀j e,hget H1 j=some e->hget G (nx+j)=some (e.1,e.2.ren σ))->(∀m,m<nx->hget G m=hget h m)->go ((⟨tm,G,nx+cnt⟩:Aj).put dst (r0.ren σ))):
 CR go ⟨tm,h,nx⟩ dst (r0.ren σ) {use:=u,kill:=kl,new:=AW σ H1,cnt:=cnt}:=by
 subst aa;refine⟨?_,?_⟩
 .have O:(r0.ren σ).bel (nx+cnt)=true:=by
   refine ZU _ λm z=> ?_
   rw[aD,Bm] at z;obtain⟨j,hj,rfl⟩:=z
   have:=hb j hj
   rw[hσ];omega
  have Q:Ac (nx+cnt) (AW σ H1)=true:=lQ _ λp hp m z=>by
   have:=(hcl p hp).2 m z
   rw[hσ];omega
  rw[Bk.ok_nr,O,Q,CP,CP];refine Vp _ _ _ _ λp hp=> ?_
  have: ∀H:Ap,(∀p∈H,p.1<cnt)-> ∀p∈AW σ H,nx<=p.1/\p.1<nx+cnt:=by
   intro H;induction H with
   |nil=>intro _ p hp;cases hp
   |cons x r ih=>
    obtain⟨i,mu,e⟩:=x;intro hx p hp;have h1:=hx _ (BM ..);simp only at h1;simp only[AW,Bi] at hp;rcases hp with rfl|hp
    .simp only;rw[hσ];omega
    .exact ih (λp h=>hx p (BR _ h)) p hp
  exact this _ (λp hp=>(hcl p hp).1) p hp
 rw[Aj.app_nr,Bo];refine Z _ (λj e he=> ?_) (λm z=> ?_)
 .rw[P2,<-hσ j,lU (λi j h=>by rw[hσ,hσ] at h;omega),he];rfl
 .rw[P2];cases hq:hget (AW σ H1) m with
  |some e=>
   obtain⟨j,e0,_,h2,_⟩:=rG hq;rw[hσ] at h2;omega
  |none=>rfl
def AF.nw{A:Type}{ca:A->List AV}{H0:A->Ap}{pre:A->Prop}{klB:Nat->Bool}{r0:A->AV}{H1:A->Ap}{cnt:Nat}{args:List AV}{tm:List (Nat×AV)}{h:Ap}{nx:Nat}{dst:Option Nat}{Q:Aj->Prop}(a:A)(z:pre a)(h0:H0 a=[])
 (Z:args=AL (λj=>nx+j) (ca a))(hcl: ∀p∈H1 a,p.1<cnt/\ ∀m∈p.2.2.nms,m<cnt)(hb: ∀m∈(r0 a).nms,m<cnt)
 (O: ∀G:Ap,(∀j e,hget (H1 a) j=some e->hget G (nx+j)=some (e.1,e.2.ren λj=>nx+j))->(∀m,m<nx->hget G m=hget h m)->Q ((⟨tm,G,nx+cnt⟩:Aj).put dst ((r0 a).ren λj=>nx+j))):
 AF ca H0 0 pre klB r0 H1 cnt args (hget h) nx (CR Q ⟨tm,h,nx⟩ dst):=by
 have e:BT (HT []) 0 nx=λj=>nx+j:=funext λj=>by simp[BT]
 refine AF.os a [] z (λj=>by rw[h0];simp[Am,hget]) rfl rfl ⟨by rw[e];exact Z,by rw[h0];trivial⟩ ?_;rw[e];exact aG (λ_=>rfl) rfl hcl hb O
def DQ.nw{A:Type}{ar:List PK->Option A}{pre:A->Prop}{r0:A->AV}{H1:A->Ap}{cnt:Nat}{args:List AV}{tm:List (Nat×AV)}{h:Ap}{nx:Nat}{dst:Option Nat}{Z:Aj->Prop}(ps:List PK)(Q:Ce (hget h) args=some ps)(a:A)(ha:ar ps=some a)(z:pre a)
 (hcl: ∀p∈H1 a,p.1<cnt/\ ∀m∈p.2.2.nms,m<cnt)(hb: ∀m∈(r0 a).nms,m<cnt)
 (O: ∀G:Ap,(∀j e,hget (H1 a) j=some e->hget G (nx+j)=some (e.1,e.2.ren λj=>nx+j))->(∀m,m<nx->hget G m=hget h m)->Z ((⟨tm,G,nx+cnt⟩:Aj).put dst ((r0 a).ren λj=>nx+j))):
 DQ ar pre r0 H1 cnt args (hget h) nx (CR Z ⟨tm,h,nx⟩ dst):=by
 have e:BT (λj=>j) 0 nx=λj=>nx+j:=funext λj=>by simp[BT]
 unfold DQ;rw[Q];simp only[PW,ha,DK];rw[e];exact⟨z,aG (λ_=>rfl) rfl hcl hb O⟩
def vF.call{A:Type}{ar:List PK->Option A}{pre:A->Prop}{re:A->D}{args:List AV}{tm:List (Nat×AV)}{h:Ap}{nx:Nat}{dst:Option Nat}{Q:Aj->Prop}(ps:List PK)(O:Ce (hget h) args=some ps)(a:A)(Z:ar ps=some a)(z:pre a)
 (G:Q ((⟨tm,h,nx⟩:Aj).put dst (.im (re a)))):K2 ar pre re args (hget h) nx (CR Q ⟨tm,h,nx⟩ dst):=by
 unfold K2;rw[O];simp only[VN,Z,DK];refine⟨z,?_,?_⟩
 .rw[Bk.ok_nr];simp[AV.bel,Ac,G1]
 .rw[Aj.app_nr,Bo,N2];exact G
def GW(G:List Ar)(rows:List (List AV))(n:Nat)(f:Nat->Aq):Ap:=(0,(true,.arr 204 2 (G.map Ar.c)))::(1,(true,.arrA 206 2 rows))::AT 2 n f
def Ie(G:List Ar)(rows:List (List AV))(n:Nat)(f:Nat->Aq)(j:Nat):Am (GW G rows n f) j=true↔j<2+n:=by
 simp only[Am,GW,hget,iI];by_cases h0:j=0
 .subst h0;simp;omega
 by_cases z:j=1
 .subst z;simp;omega
 rw[Be _ _ (λh=>h0 h.symm),Be _ _ (λh=>z h.symm)];simp only[B8];split
 .rename_i h;simp;omega
 .rename_i h;simp;omega
def gC{G:List Ar}{rows:List (List AV)}{n:Nat}{f:Nat->Aq}{p:Nat×Aq}(hp:p∈GW G rows n f):p.1<2+n:=by
 simp only[GW,Bi,AT,Bm,B6] at hp;rcases hp with rfl|rfl|⟨j,z,rfl⟩<;>simp only<;>omega
def Di(a:List Tile)(k:Int)(i:Nat):List (List AV):=(List.range (nT a)).map (Fb a k i)
def Uq(a:List Tile)(k:Int)(i N:Nat)(h:2+nT a<=N):(Di a k i).all (Av N)=true:=by
 rw[Dp];intro r G;obtain⟨j,z,rfl⟩:=Bm.1 G;exact aC _ _ _ _ _ (by have:=B6.1 z;omega)
def Yp(a:List Tile)(k:Int)(i j:Nat)(σ:Nat->Nat)(h:σ (2+j)=2+j):AL σ (Fb a k i j)=Fb a k i j:=by
 simp only[Fb]
 split<;>simp[HW,AL,AV.ren,h]
def Vo(a:List Tile)(k:Int)(i:Nat)(σ:Nat->Nat)(h: ∀j,j<nT a->σ (2+j)=2+j):(Di a k i).map (AL σ)=Di a k i:=by
 rw[Di,Q3];exact Nx λj z=>Yp _ _ _ _ _ (h j (B6.1 z))
def M6{G:List Ar}{a:List Tile}{k:Int}{i N:Nat}{f:Nat->Aq}(h:2+nT a<=N)(hf: ∀i,Ac N [(2+i,f i)]=true):Ac N (GW G (Di a k i) (nT a) f)=true:=by
 simp only[GW,Ac];rw[Qk _ _ _ hf,Uq _ _ _ _ h];rfl
def lW{G:List Ar}{a:List Tile}{k:Int}{i N:Nat}{f:Nat->Aq}(h:2+nT a<=N):A9 N (GW G (Di a k i) (nT a) f)=true:=by
 simp only[GW,A9];rw[Qa _ _ _ _ (by omega)];simp;omega
def aE{G:List Ar}{a:List Tile}{k:Int}{i:Nat}{f:Nat->Aq}(hf: ∀j,(f j).2.nms=[]){p:Nat×Aq}(hp:p∈GW G (Di a k i) (nT a) f){m:Nat}(z:m∈p.2.2.nms):m<2+nT a:=by
 simp only[GW,Bi,AT,Bm,B6] at hp;rcases hp with rfl|rfl|⟨j,O,rfl⟩
 .simp[Ad.nms] at z
 .simp only[Ad.nms] at z;obtain⟨r,Q,z⟩:=FF.1 z;obtain⟨j,O,rfl⟩:=Bm.1 Q;rw[ZV,BE] at z
  have:=B6.1 O
  omega
 .rw[hf] at z;cases z
def aA{H0:Ap}: ∀{H:Ap},(∀p∈H,∀m∈p.2.2.nms,Am H0 m=true)->BK H0 H
 |[],_=>trivial
 |(_,(_,_))::r,h=>⟨h _ (BM ..),aA λp hp=>h p (BR _ hp)⟩
def EJ(a:AB×Int):Int:=a.2+2*a.1.Glues.length
def mkTS.ca(a:AB×Int):List AV:=[.agg [.own 0,.own 1],.im (.int .i64 a.2)]
def mkTS.H0(a:AB×Int):Ap:=GW a.1.Glues (Di a.1.Tiles (EJ a) 0) (nT a.1.Tiles) (F1 a.1.Tiles (EJ a) 0)
def mkTS.H1(a:AB×Int):Ap:=GW (D2 (gF a.2) a.1.Glues.length) (Di a.1.Tiles (EJ a) (nT a.1.Tiles)) (nT a.1.Tiles) (F1 a.1.Tiles (EJ a) (nT a.1.Tiles))
def mkTS.r0(a:AB×Int):AV:= .im (.int .i64 (EI a.1.Tiles (EJ a) a.1.Tiles.length))
def mkTS.pre(a:AB×Int):Prop:=0<=a.2/\a.1.Tiles.length<=1048576/\EI a.1.Tiles (EJ a) a.1.Tiles.length<=1099511627776
def mkTS.row:A7:=AF mkTS.ca mkTS.H0 2000000 mkTS.pre (λ_=>true) mkTS.r0 mkTS.H1 0
def mkTS.hbel(a:AB×Int):Av 2000000 (mkTS.ca a)=true:=by simp[mkTS.ca,Av,AV.bel]
def mkTS.hbH(a:AB×Int):Ac 2000000 (mkTS.H0 a)=true:=M6 (by have:=Fk a.1.Tiles;omega) (λi=>by simp[Ac,F1])
def mkTS.hkH(a:AB×Int):A9 2000000 (mkTS.H0 a)=true:=lW (by have:=Fk a.1.Tiles;omega)
def mkTS.hnm(a:AB×Int):BK (mkTS.H0 a) (mkTS.H0 a):=
 aA λp hp m z=>(Ie _ _ _ _ _).2 (aE (λj=>by simp[F1,Ad.nms]) hp z)
def ZX(h:Nat->Option Aq): ∀(H:Ap),H3 h (λ_=>true) H
 |[]=>trivial
 |(j,e)::r=>⟨trivial,ZX h r⟩
def L7{H0:Ap}{k cnt:Nat}{exB:Nat->Bool}{j:Nat}(h:Am H0 j=true):I8 H0 k cnt exB j=some j:=by
 simp only[I8,h,dJ,Ca]
def Yo{h:Nat->Option Aq}{kx:Nat->Option Nat}{m:Nat}{a:List Tile}{k:Int}{i j:Nat}(z:kx (2+j)=some (2+j)):Ax (Bb h kx (m+1)) (Fb a k i j)=some (Fb a k i j):=by
 simp only[Fb]
 split<;>simp only[HW,Ax,Bb,z,kp]
def lV{h:Nat->Option Aq}{kx:Nat->Option Nat}{m:Nat}{a:List Tile}{k:Int}{i:Nat}(G: ∀j,j<nT a->kx (2+j)=some (2+j)):Ax (Ax (Bb h kx (m+1))) (Di a k i)=some (Di a k i):=
 UK _ λj z=>Yo (G j (B6.1 z))
def mkLC.hcl(a:List Tile×Int): ∀p∈mkLC.H1 a,Am (mkLC.H0 a) p.1=true/\ ∀m∈p.2.2.nms,Am (mkLC.H0 a) m=true:=by
 intro p hp;simp only[mkLC.H0,Ic];simp only[mkLC.H1,Dh,Bi,AT,Bm,B6] at hp;rcases hp with rfl|⟨j,G,rfl⟩
 .refine⟨.inl rfl,λm z=> ?_⟩;simp only[Ad.nms] at z;obtain⟨r,O,z⟩:=FF.1 z;obtain⟨j,G,rfl⟩:=Bm.1 O;rw[ZV,BE] at z
  have:=B6.1 G
  exact .inr ⟨by omega,by omega⟩
 .exact⟨.inr ⟨by simp only;omega,by simp only;omega⟩,λm z=>by simp[F1,Ad.nms] at z⟩
def mkTS.hcl(a:AB×Int): ∀p∈mkTS.H1 a,Am (mkTS.H0 a) p.1=true/\ ∀m∈p.2.2.nms,Am (mkTS.H0 a) m=true:=
 λp hp=>⟨(Ie _ _ _ _ _).2 (gC hp),λm z=>(Ie _ _ _ _ _).2 (aE (λj=>by simp[F1,Ad.nms]) hp z)⟩
def mkTS.ok:AA Tryz.prog 61 mkTS.row:=by
 refine ow (tC mkGC.ok (tC mkLC.ok tN)) Tryz.func61 rfl (by kernel_rfl) (exB:=λ_=>false) (R:=λa r=>r=mkTS.r0 a) (λ_=>rfl)
  (λa=>⟨mkTS.hbel a,mkTS.hbH a,mkTS.hkH a,mkTS.hnm a⟩) (λa p hp=> ?_) (λa r h=>by subst h;exact C8.refl _) ?_
 rotate_left
 intro a Q;simp only[Tryz.f61,mkTS.ca];simp(disch:=omega)only[ZA,simprocAttr];obtain⟨S,k⟩:=a;obtain⟨h1,h2,h3⟩:=Q;simp only at h1 h2 h3;have hk:=MA S.Tiles (EJ (S,k)) (by simp only[EJ];omega) 0 S.Tiles.length (by omega);have O:EJ (S,k)<=1099511627776:=by simp only[EI] at hk;omega
 simp only[EJ] at O;have hn:=Fk S.Tiles;simp only[Bo,mkTS.H0,GW];refine AF.os (S.Glues,k) [0] ⟨h1,O⟩ (λj=> ?_) rfl rfl ?_ ?_
 .simp only[Am,mkGC.H0,hget];by_cases z:j=0
  .subst z;simp
  .have:(0==j)=false:=by simpa using λh=>z h.symm
   rw[this];simp;omega
 .simp(disch:=omega)only[ZA,simprocAttr,D5,mkGC.ca,mkGC.H0,D3,Eh]
  try exact⟨rfl,rfl⟩
 simp(disch:=omega)only[ZA,simprocAttr,D5,mkGC.H1,Bo,Eh,G6];rw[Vq 2 (nT S.Tiles) (F1 S.Tiles (EJ (S,k)) 0) [0] (by simp)];have hσ: ∀j,j<nT S.Tiles->BT (λj=>if j=0 then 1 else j) 2000000 2000001 (2+j)=2+j:=λj z=>by
  simp only[BT];rw[Ao (by omega),Ag (by omega)]
 have hσ0:BT (λj=>if j=0 then 1 else j) 2000000 2000001 0=1:=rfl;refine AF.tau (S.Tiles,EJ (S,k)) (λj=>if j=0 then 1 else j) ⟨h2,by simp only[EJ];omega,h3⟩ (λ_ _=>rfl) (λj z=> ?_) (λi j G z h=> ?_) (mkLC.hcl _) ⟨?_,?_⟩ (by simp[mkLC.r0,AV.nms]) (λZ hH1 aa=> ?_)
 .have z:=(Ic _ _ _ _).1 z;simp only at z⊢
  split<;>omega
 .have G:=(Ic _ _ _ _).1 G;have z:=(Ic _ _ _ _).1 z;simp only at G z h;split at h<;>split at h<;>omega
 .simp only[mkLC.ca,AL,AV.ren,hσ0,EJ]
 .simp only[mkLC.H0,Dh,D3,hσ0,Ad.ren];refine⟨?_,Vu λi G=> ?_⟩
  .simp only[hget,Be _ _ (show 0≠1 by omega),Be _ _ (show 2000000≠1 by omega),B8,rO,Ca];rw[<-Di,Vo _ _ _ _ hσ]
  .rw[hσ i G];simp only[hget,Be _ _ (show 0≠2+i by omega),Be _ _ (show 2000000≠2+i by omega),Be _ _ (show 1≠2+i by omega),B8];rw[Hh _ _ _ _ G];rfl
 have g0:hget Z 0=some (true,.arr 204 2 ((D2 (gF k) S.Glues.length).map Ar.c)):=by
  rw[aa 0 (λj z=>by
   have z:=(Ic _ _ _ _).1 z;simp only at z⊢
   split<;>omega)]
  rfl
 have g1:hget Z 1=some (true,.arrA 206 2 (Di S.Tiles (EJ (S,k)) (nT S.Tiles))):=by
  have g:=hH1 0 _ rfl;rw[Ao rfl] at g;rw[g];simp only[Ad.ren];rw[<-Di,Vo _ _ _ _ hσ]
 have g2: ∀j,j<nT S.Tiles->hget Z (2+j)=some (F1 S.Tiles (EJ (S,k)) (nT S.Tiles) j):=λj z=>by
  have:=hH1 (2+j) _ (ZY _ _ _ j z)
  simp only[Ag (show 2+j≠0 by omega)] at this;rw[this];rfl
 simp only[mkLC.r0,AV.ren];simp(disch:=omega)only[ZA,simprocAttr,mkTS.r0,EJ,Bo,mkTS.H1,GW];have ab: ∀j,j<nT S.Tiles->Am ((0,(true,Ad.arr 204 2 (List.map Ar.c S.Glues)))::(1,(true,Ad.arrA 206 2 (Di S.Tiles (k+2*S.Glues.length) 0)))::AT 2 (nT S.Tiles) (F1 S.Tiles (k+2*S.Glues.length) 0)) (2+j)=true:=λj z=>(Ie _ _ _ _ _).2 (by omega)
 refine⟨ZX _ _,?_,?_,?_⟩
 .rw[g0];exact⟨rfl,rfl⟩
 .rw[g1];refine⟨rfl,?_⟩;simp only[Ct];rw[lV (λj z=>L7 (ab j z))];rfl
 .exact Nc _ _ _ _ _ (λj z=>g2 j z) (λj z=>rfl)
 obtain⟨q1,_⟩:=mkTS.hcl _ p hp
 have:=(Ie _ _ _ _ _).1 q1
 have:=Fk a.1.Tiles
 exact .inl ⟨by omega,rfl,q1⟩
def Qo{n:Nat}{l:Int}(h:0<=Cj n l):(n:Int)<=l/\Cj n l<=l/\0<=l:=by
 simp only[Cj] at h⊢;split at h
 .omega
 .rename_i c;rw[Ag c];omega
def Qu5: ∀(a:List Tile) (l:Int),0<=l->l<=1048576->0<=FI Ff a l-> ∀x∈a,x.Sides.length<=1073741824
 |[],_,_,_,_=>by intro x z;cases z
 |y::r,l,h0,Q,h=>by
  simp only[FI] at h;split at h
  .omega
  .rename_i c;have G:0<=Ff y l:=by omega
   have O:0<=Cj y.Name.size l:=by
    simp only[Ff] at G;split at G
    .omega
    .omega
   have e:Ff y l=Cj y.Sides.length (Cj y.Name.size l):=by
    simp only[Ff];rw[Ag (by omega)]
   rw[e] at G h;obtain⟨a1,a2,a3⟩:=Qo G;obtain⟨b1,b2,b3⟩:=Qo O;intro x z;rcases Bi.1 z with rfl|z
   .omega
   .exact Qu5 r _ G (by omega) h x z
def Ul{s:AB}{l:Int}(Q: -1<=l)(Z:l<=1048576)(h:0<=P5 s l):TO s:=by
 have hg:=wQ s.Glues l Q;simp only[P5] at h;split at h
 .omega
 rename_i c;have z:0<=GH s.Glues l:=by omega
 have O:0<=Cj s.Glues.length l:=by
  simp only[GH] at z;split at z
  .omega
  .omega
 have G:0<=Cj s.Tiles.length (GH s.Glues l):=by
  simp only[K1] at h;split at h
  .omega
  .omega
 have e:K1 s.Tiles (GH s.Glues l)=FI Ff s.Tiles (Cj s.Tiles.length (GH s.Glues l)):=by
  simp only[K1];rw[Ag (by omega)]
 rw[e] at h;obtain⟨a1,a2,a3⟩:=Qo O;obtain⟨b1,b2,b3⟩:=Qo G;exact⟨by omega,by omega,Qu5 s.Tiles _ G (by omega) h⟩
def Um{s:Az}{l:Int}(G: -1<=l)(z:l<=1048576)(h:0<=K8 s l):ZG s:=by
 have hb:=xY s.Set l G;simp only[K8] at h;split at h
 .omega
 rename_i c;obtain⟨a1,a2,a3⟩:=Qo h;exact⟨Ul G z (by omega),by omega⟩
def syK(a:Az×Int):Int:=EI a.1.Set.Tiles (EJ (a.1.Set,a.2)) a.1.Set.Tiles.length
def mkSy.ca(a:Az×Int):List AV:=[.agg [.own 0,.own 1,.own 2000000,.im (.int .i64 a.1.Temperature)],.im (.int .i64 a.2)]
def mkSy.H0(a:Az×Int):Ap:=(2000000,(true,.arr 137 3 (a.1.Seed.Tiles.map Ak.c)))::mkTS.H0 (a.1.Set,a.2)
def mkSy.H1(a:Az×Int):Ap:=(2000000,(true,.arr 137 3 ((D2 (pF (syK a)) a.1.Seed.Tiles.length).map Ak.c)))::mkTS.H1 (a.1.Set,a.2)
def mkSy.r0(a:Az×Int):AV:= .im (.int .i64 (syK a+3*a.1.Seed.Tiles.length))
def mkSy.pre(a:Az×Int):Prop:=0<=a.2/\a.1.Set.Tiles.length<=1048576/\syK a+3*a.1.Seed.Tiles.length<=1099511627776
def mkSy.row:A7:=AF mkSy.ca mkSy.H0 2000001 mkSy.pre (λ_=>true) mkSy.r0 mkSy.H1 0
def mkSy.dom0(a:Az×Int)(j:Nat):Am (mkSy.H0 a) j=true↔j=2000000\/j<2+nT a.1.Set.Tiles:=by
 by_cases h:j=2000000
 .subst h;simp[Am,mkSy.H0,hget]
 .have z:(2000000==j)=false:=by simpa using λq=>h q.symm
  have:Am (mkSy.H0 a) j=Am (mkTS.H0 (a.1.Set,a.2)) j:=by simp only[Am,mkSy.H0,hget,z,B8]
  rw[this];simp only[mkTS.H0,Ie,h,false_or]
def mkSy.hcl(a:Az×Int): ∀p∈mkSy.H1 a,Am (mkSy.H0 a) p.1=true/\ ∀m∈p.2.2.nms,Am (mkSy.H0 a) m=true:=by
 intro p hp;simp only[mkSy.dom0];rcases Bi.1 hp with rfl|hp
 .exact⟨.inl rfl,λm z=>by simp[Ad.nms] at z⟩
 .have:=mkTS.hcl _ p hp
  simp only[mkTS.H0,Ie] at this;exact⟨.inr this.1,λm z=> .inr (this.2 m z)⟩
def mkSy.hbel(a:Az×Int):Av 2000001 (mkSy.ca a)=true:=by simp[mkSy.ca,Av,AV.bel]
def mkSy.hbH(a:Az×Int):Ac 2000001 (mkSy.H0 a)=true:=by
 simp only[mkSy.H0,Ac];exact M6 (by have:=Fk a.1.Set.Tiles;simp only;omega) (λi=>by simp[Ac,F1])
def mkSy.hkH(a:Az×Int):A9 2000001 (mkSy.H0 a)=true:=by
 simp only[mkSy.H0,A9]
 have:=lW (G:=a.1.Set.Glues) (a:=a.1.Set.Tiles) (k:=EJ (a.1.Set,a.2)) (i:=0) (N:=2000001) (f:=F1 a.1.Set.Tiles (EJ (a.1.Set,a.2)) 0) (by have:=Fk a.1.Set.Tiles;omega)
 simp only[mkTS.H0,this,ET];simp
def mkSy.hnm(a:Az×Int):BK (mkSy.H0 a) (mkSy.H0 a):=by
 refine aA λp hp m z=>(mkSy.dom0 _ _).2 ?_
 rcases Bi.1 hp with rfl|hp
 .simp[Ad.nms] at z
 .exact .inr (aE (λj=>by simp[F1,Ad.nms]) hp z)
def Ui{G:List Ar}{rows:List (List AV)}{n:Nat}{f:Nat->Aq}(i:Nat)(h:i<n):hget (GW G rows n f) (2+i)=some (f i):=by
 simp only[GW,hget,Be _ _ (show 0≠2+i by omega),Be _ _ (show 1≠2+i by omega),B8];exact Hh _ _ _ _ h
def SP{h:Nat->Option Aq}{kx:Nat->Option Nat}{m:Nat}{G:List Ar}{a:List Tile}{k:Int}{i:Nat}{f:Nat->Aq}(h0:h 0=some (true,.arr 204 2 (G.map Ar.c)))(z:h 1=some (true,.arrA 206 2 (Di a k i)))(O: ∀j,j<nT a->h (2+j)=some (f j))
 (hf: ∀j,Ct (Bb h kx (m+1)) (f j).2=some (f j).2)(Q: ∀j,j<nT a->kx (2+j)=some (2+j)):EK h (Bb h kx (m+1)) (GW G (Di a k i) (nT a) f):=by
 simp only[GW,EK];refine⟨?_,?_,Nc _ _ _ _ _ O (λj _=>hf j)⟩
 .rw[h0];exact⟨rfl,rfl⟩
 .rw[z];refine⟨rfl,?_⟩;simp only[Ct];rw[lV Q];rfl
def mkSy.ok:AA Tryz.prog 21 mkSy.row:=by
 refine ow (tC mkTS.ok (tC mkAC.ok tN)) Tryz.func21 rfl (by kernel_rfl) (exB:=λ_=>false) (R:=λa r=>r=mkSy.r0 a) (λ_=>rfl)
  (λa=>⟨mkSy.hbel a,mkSy.hbH a,mkSy.hkH a,mkSy.hnm a⟩) (λa p hp=> ?_) (λa r h=>by subst h;exact C8.refl _) ?_
 rotate_left
 intro a Z;simp only[Tryz.f21,mkSy.ca];simp(disch:=omega)only[ZA,simprocAttr];obtain⟨S,k⟩:=a;obtain⟨h1,h2,h3⟩:=Z;simp only at h1 h2 h3;simp only[Bo,mkSy.H0];have hn:=Fk S.Set.Tiles;have hk:=MA S.Set.Tiles (EJ (S.Set,k)) (by simp only[EJ];omega) 0 S.Set.Tiles.length (by omega);have aa:0<=syK (S,k):=by simp only[syK];omega
 have hσ: ∀j,j<2+nT S.Set.Tiles->BT (λj=>j) 2000000 2000002 j=j:=λj z=>Ao (by omega)
 have O:=λj=>(Ie S.Set.Glues (Di S.Set.Tiles (EJ (S.Set,k)) 0) (nT S.Set.Tiles) (F1 S.Set.Tiles (EJ (S.Set,k)) 0) j)
 refine AF.tau (S.Set,k) (λj=>j) ⟨h1,h2,by simp only[syK] at h3;simp only;omega⟩ (λ_ _=>rfl) (λj z=> ?_) (λi j _ _ h=>h) (mkTS.hcl _) ⟨?_,?_⟩ (by simp[mkTS.r0,AV.nms]) (λG hH1 Q=> ?_)
 .have z:=(O j).1 z;omega
 .simp only[mkTS.ca,AL,AV.ren,hσ 0 (by omega),hσ 1 (by omega)]
 .simp only[mkTS.H0,GW,D3,hσ 0 (by omega),hσ 1 (by omega),Ad.ren];rw[Vo _ _ _ _ (λj z=>hσ _ (by omega))];refine⟨rfl,rfl,Vu λi hi=> ?_⟩;rw[hσ _ (by omega)];simp only[hget,Be _ _ (show 2000001≠2+i by omega),Be _ _ (show 2000000≠2+i by omega),Be _ _ (show 0≠2+i by omega),Be _ _ (show 1≠2+i by omega),B8];rw[Hh _ _ _ _ hi];rfl
 have hu: ∀m,m=2000000\/m=2000001-> ∀j,Am (mkTS.H0 (S.Set,k)) j=true->j≠m:=λm hm j z=>by
  have z:=(O j).1 z;omega
 have gs:hget G 2000000=some (true,.arr 137 3 (S.Seed.Tiles.map Ak.c)):=by rw[Q _ (hu _ (.inl rfl))];rfl
 have gp:hget G 2000001=some (true,.cells 47 [.own 0,.own 1,.own 2000000,.im (.int .i64 S.Temperature)]):=by rw[Q _ (hu _ (.inr rfl))];rfl
 have g0:hget G 0=some (true,.arr 204 2 ((D2 (gF k) S.Set.Glues.length).map Ar.c)):=hH1 0 _ rfl;have g1:hget G 1=some (true,.arrA 206 2 (Di S.Set.Tiles (EJ (S.Set,k)) (nT S.Set.Tiles))):=by
  rw[hH1 1 _ rfl];simp only[Ad.ren];rw[Vo _ _ _ _ (λj z=>hσ _ (by omega))]
 have g2: ∀j,j<nT S.Set.Tiles->hget G (2+j)=some (F1 S.Set.Tiles (EJ (S.Set,k)) (nT S.Set.Tiles) j):=λj z=>by
  have e:hget (mkTS.H1 (S.Set,k)) (2+j)=some (F1 S.Set.Tiles (EJ (S.Set,k)) (nT S.Set.Tiles) j):=Ui j z;rw[hH1 (2+j) _ e];rfl
 have eK:EI S.Set.Tiles (EJ (S.Set,k)) S.Set.Tiles.length=syK (S,k):=rfl;simp only[mkTS.r0,AV.ren,eK];simp(disch:=omega)only[ZA,simprocAttr,Bo,gp]
 skip
 refine AF.os (S.Seed,syK (S,k)) [2000000] ⟨aa,h3⟩ (λj=> ?_) rfl rfl ?_ ?_
 .simp only[Am,mkAC.H0,hget];by_cases z:j=0
  .subst z;simp
  .have:(0==j)=false:=by simpa using λh=>z h.symm
   rw[this];simp;omega
 .simp(disch:=omega)only[ZA,simprocAttr,D5,mkAC.ca,mkAC.H0,D3,Eh,gs]
  try exact⟨rfl,rfl⟩
 simp(disch:=omega)only[ZA,simprocAttr,D5,mkAC.H1,Bo,Eh,G6,mkSy.r0,mkSy.H1];obtain⟨HX,hHX⟩: ∃HX,HX=hget ((2000000,(true,Ad.arr 137 3 (List.map Ak.c (D2 (pF (syK (S,k))) S.Seed.Tiles.length))))::Bg G [2000000]):=⟨_,rfl⟩;rw[<-hHX];have gx: ∀m,m≠2000000->HX m=hget G m:=λm hm=>by
  rw[hHX];simp only[hget,Be _ _ (λh=>hm h.symm:2000000≠m),B8];exact Kx _ _ _ (λh=>hm h.symm)
 refine⟨ZX _ _,SP (by rw[gx 0 (by omega)];exact g0) (by rw[gx 1 (by omega)];exact g1) (λj z=>by simp only at z;rw[gx _ (by omega)];exact g2 j z) (λj=>rfl) (λj z=>L7 ?_)⟩;simp only at z
 have:=(mkSy.dom0 (S,k) (2+j)).2 (.inr (by simp only;omega))
 simpa only[mkSy.H0] using this
 obtain⟨q1,_⟩:=mkSy.hcl _ p hp
 have:=(mkSy.dom0 _ _).1 q1
 have:=Fk a.1.Set.Tiles
 exact .inl ⟨by omega,rfl,q1⟩
def Hb(a:List Tile):Nat:=(a.map λx=>x.Sides.length).sum
def lP(y:Tile)(r:List Tile)(k:Int): ∀i,EI (y::r) k (i+1)=EI r (k+1+y.Sides.length) i
 |0=>rfl
 |i+1=>by
  rw[EI,lP y r k i,EI];rfl
def MB: ∀(a:List Tile) (k:Int),EI a k a.length=k+a.length+Hb a
 |[],k=>by simp[EI,Hb]
 |y::r,k=>by
  rw[CY,lP,MB r];simp only[Hb,Bd,KE];omega
def Uk{n:Nat}{l:Int}(h:0<=Cj n l):Cj n l=l - n:=by
 simp only[Cj] at h⊢;split at h
 .omega
 .rename_i c;rw[Ag c]
def lL: ∀(a:List Tile) (l:Int),0<=l->0<=FI Ff a l->(Hb a:Int)+FI Ff a l<=l
 |[],l,h0,_=>by simp[Hb,FI]
 |y::r,l,h0,h=>by
  simp only[FI] at h⊢;by_cases c:Ff y l<0
  .rw[Ao c] at h;omega
  .rw[Ag c] at h⊢;have z:0<=Ff y l:=by omega
   have G:0<=Cj y.Name.size l:=by
    simp only[Ff] at z;split at z<;>omega
   have e:Ff y l=Cj y.Sides.length (Cj y.Name.size l):=by
    simp only[Ff];rw[Ag (by omega)]
   rw[e] at z h⊢;have q1:=Qo G;have O:=Uk z;have ih:=lL r _ z h;simp only[Hb,Bd,KE] at ih⊢;omega
structure G3(s:Az):Prop where
 g:s.Set.Glues.length<=1048576
 t:s.Set.Tiles.length<=1048576
 d:Hb s.Set.Tiles<=1048576
 p:s.Seed.Tiles.length<=1048576
def Yj{s:Az}{l:Int}(Z: -1<=l)(aa:l<=1048576)(h:0<=K8 s l):G3 s:=by
 have hb:=xY s.Set l Z;simp only[K8] at h;split at h
 .omega
 rename_i c;obtain⟨a1,_,_⟩:=Qo h;have z:0<=P5 s.Set l:=by omega
 have hg:=wQ s.Set.Glues l Z;simp only[P5] at z;split at z
 .omega
 have G:0<=GH s.Set.Glues l:=by omega
 have Q:0<=Cj s.Set.Glues.length l:=by
  simp only[GH] at G;split at G<;>omega
 have O:0<=Cj s.Set.Tiles.length (GH s.Set.Glues l):=by
  simp only[K1] at z;split at z<;>omega
 have e:K1 s.Set.Tiles (GH s.Set.Glues l)=FI Ff s.Set.Tiles (Cj s.Set.Tiles.length (GH s.Set.Glues l)):=by
  simp only[K1];rw[Ag (by omega)]
 rw[e] at z;obtain⟨b1,_,_⟩:=Qo Q;obtain⟨d1,d2,_⟩:=Qo O
 have:=lL s.Set.Tiles _ O z
 exact⟨by omega,by omega,by omega,by omega⟩
def fU{a:List Tile}{x:Tile}(h:x∈a):x.Sides.length<=Hb a:=by
 induction a with
 |nil=>cases h
 |cons y r ih=>
  simp only[Hb,Bd,KE] at ih⊢;rcases Bi.1 h with rfl|h
  .omega
  .have:=ih h;omega
def G3.yx{s:Az}(h:G3 s):toYX.pre s:=⟨⟨by have:=h.g;omega,⟨h.t,λx z=>by have:=fU z;have:=h.d;omega⟩⟩,by have:=h.p;omega⟩
def G3.syK{s:Az}(h:G3 s){k:Int}(G:0<=k)(z:k<=1048576):0<=syK (s,k)/\Go.Ae.syK (s,k)+3*s.Seed.Tiles.length<=9437184:=by
 simp only[Go.Ae.syK,MB,EJ]
 have:=h.g;have:=h.t;have:=h.d;have:=h.p
 omega
def G3.mkp{s:Az}(h:G3 s){k:Int}(G:0<=k)(z:k<=1048576):mkSy.pre (s,k):=⟨G,h.t,by have:=(h.syK G z).2;simp only;omega⟩
structure Ek(h:Nat->Option Aq)(g t p f:Nat)(s:Az):Prop where
 g:h g=some (true,.arr 204 2 (s.Set.Glues.map Ar.c))
 t:h t=some (true,.arrA 206 2 (H5 f s.Set.Tiles))
 p:h p=some (true,.arr 137 3 (s.Seed.Tiles.map Ak.c))
 f: ∀i,i<s.Set.Tiles.length->h (f+i)=some (Ep s.Set.Tiles i)
def Un{h:Nat->Option Aq}{n f:Nat}{a:List Tile}(hf: ∀i,i<a.length->h (f+i)=some (Ep a i)):Ax (Ax (bk h (n+1))) (H5 f a)=some (a.map Tile.c):=by
 have e:a.map Tile.c=(List.range a.length).map λi=>((a[i]?.map Tile.c).getD []):=by
  apply JE;intro i;rw[D9,D9];by_cases z:i<a.length
  .rw[HK z,Bh z];simp[z]
  .rw[F7 (by omega),F7 (by simp;omega)];rfl
 rw[e];refine UK _ λi z=> ?_
 have z:=B6.1 z;have G:a[i]? =some a[i]:=Bh z;simp only[Ax,bk,hf i z,Ep,K9,G,Ds,AQ,Tile.c]
def Ek.bk{h:Nat->Option Aq}{g t p f n:Nat}{s:Az}(hs:Ek h g t p f s):Go.Ae.bk h (n+3) (.agg [.own g,.own t,.own p,.im (.int .i64 s.Temperature)])=some (.agg (Az.c s)):=by
 simp only[Go.Ae.bk,Ax,hs.g,hs.t,hs.p,K9,Un hs.f,Ds,Az.c]
def Ek.pk{h:Nat->Option Aq}{g t p f:Nat}{s:Az}(hs:Ek h g t p f s):Ed h (.agg [.own g,.own t,.own p,.im (.int .i64 s.Temperature)])=some (.val (.agg (Az.c s))):=by
 simp only[Ed,hs.bk (n:=6),EZ,Ds]
def vN.call{A:Type}{ar:List PK->Option A}{pre:A->Prop}{re:A->D}{args:List AV}{tm:List (Nat×AV)}{h:Ap}{nx:Nat}{dst:Option Nat}{Q:Aj->Prop}(ps:List PK)(O:IH (hget h) args=some (ps,[]))(a:A)(Z:ar ps=some a)(z:pre a)
 (G:Q ((⟨tm,h,nx⟩:Aj).put dst (.im (re a)))):CU ar pre re args (hget h) nx (CR Q ⟨tm,h,nx⟩ dst):=by
 unfold CU;rw[O];simp only[Vi,Z,DK,PD];refine⟨z,?_,?_⟩
 .rw[Bk.ok_nr];simp[AV.bel,Ac,G1]
 .rw[Aj.app_nr,Bo,N2];exact G
def Uj(s:Az):a1 (kR Az.d) [.val (.agg (Az.c s))]=some s:=by simp only[a1,kR,Az.d_c,EN]
def uC(s t:Az):a2 (kR Az.d) (kR Az.d) [.val (.agg (Az.c s)),.val (.agg (Az.c t))]=some (s,t):=by simp only[a2,kR,Az.d_c,EN]
def SJ(l m:List AJ):a2 (kS AJ.d) (kS AJ.d) [.val (.sl false 3 (l.map AJ.c)),.val (.sl false 3 (m.map AJ.c))]=some (l,m):=by simp only[a2,kS,AJ.d_R,EN]
def sO(l m:List Int):a2 (kS Ck) (kS Ck) [.val (.sl false 1 (l.map Al)),.val (.sl false 1 (m.map Al))]=some (l,m):=by simp only[a2,kS,Ku V1,EN]
def toYR.row:A7:=fK toSystem.row toYX.row
def toYR.ok:AA Tryz.prog 11 toYR.row:=PV toSystem.ok toYX.ok
def uK{s:Az}(hs:G3 s): ∀p∈toYX.H1 s,p.1<2000013/\ ∀m∈p.2.2.nms,m<2000013:=by
 have z:min s.Set.Tiles.length 1048576<=1048576:=dL _ _;have Z:=hs.t;intro p hp;simp only[toYX.H1,Bi,AT,Bm,B6] at hp;rcases hp with rfl|rfl|rfl|⟨i,Q,rfl⟩
 .exact⟨by omega,by simp[Ad.nms]⟩
 .refine⟨by omega,λm z=> ?_⟩;simp only[Ad.nms] at z;obtain⟨r,O,z⟩:=FF.1 z;obtain⟨j,G,rfl⟩:=Bm.1 O
  have:=B6.1 G
  simp[AC,AV.nms] at z;omega
 .exact⟨by omega,by simp[Ad.nms]⟩
 .exact⟨by simp only;omega,by simp[Ep,Ad.nms]⟩
def Ek.mono{h h':Nat->Option Aq}{g t p f:Nat}{s:Az}(hs:Ek h g t p f s)(z: ∀m,(m=g\/m=t\/m=p\/(f<=m/\m<f+s.Set.Tiles.length))->h' m=h m):Ek h' g t p f s:=
 ⟨by rw[z g (.inl rfl)];exact hs.g,by rw[z t (.inr (.inl rfl))];exact hs.t,by rw[z p (.inr (.inr (.inl rfl)))];exact hs.p,λi G=>by rw[z _ (.inr (.inr (.inr ⟨by omega,by omega⟩)))];exact hs.f i G⟩
def uJ{s:Az}(hs:G3 s){nx:Nat}{z:Ap}(h: ∀j e,hget (toYX.H1 s) j=some e->hget z (nx+j)=some (e.1,e.2.ren λj=>nx+j)):Ek (hget z) (nx+7) (nx+9) (nx+2000012) (nx+10) s:=by
 have Q:=hs.t;have O:min s.Set.Tiles.length 1048576=s.Set.Tiles.length:=by omega
 refine⟨h 7 _ rfl,?_,h 2000012 _ rfl,λi G=> ?_⟩
 .rw[h 9 _ rfl];simp only[Ad.ren];congr 3;simp only[H5,Q3];refine Nx λi G=> ?_
  simp only[Function.comp,AL,AV.ren];rw[PA]
 .have e:hget (toYX.H1 s) (10+i)=some (Ep s.Set.Tiles i):=by
   simp only[toYX.H1,hget,Be _ _ (show 7≠10+i by omega),Be _ _ (show 9≠10+i by omega),Be _ _ (show 2000012≠10+i by omega),B8];rw[O];exact Hh _ _ _ _ G
  rw[PA,h _ _ e];rfl
def FG{H:Ap}(e:Aq)(k m:Nat)(h:k≠m):hget ((k,e)::Bg H [k]) m=hget H m:=by
 simp only[hget,Be _ _ h,B8];exact Kx _ _ _ h
def LW{h:Nat->Option Aq}{x y:AV}{p q:PK}(z:Ed h x=some p)(G:Ed h y=some q):Ce h [x,y]=some [p,q]:=by simp only[Ce,z,G,GY]
def Ha{h:Nat->Option Aq}{o T k:Nat}{z:Bool}{rows:List (List D)}(g:h o=some (z,.arr T k rows)):Ed h (.own o)=some (.val (.sl false k rows)):=by simp only[Ed,bk,g,K9,EZ,Ds]
def lM: ∀l:List Nat,HI l []=true
 |[]=>rfl
 |x::r=>by simp[HI,lM r]
def Hc:List Fp->Bool
 |[]=>true
 |f::r=>f.touch.isEmpty && Hc r
def Vr(cl:List (List Nat))(i:Nat)(use:List Nat): ∀acc:List Fp,Hc acc=true->Gp cl i use [] [] acc=true
 |[],_=>rfl
 |f::r,h=>by
  simp only[Hc,AS,List.isEmpty_iff] at h;simp only[Gp,dX,h.1,DA,lM,HI,Fx,Zi,Ca,Vr cl i use r h.2]
def vN.callA{A:Type}{ar:List PK->Option A}{pre:A->Prop}{re:A->D}{args:List AV}{tm:List (Nat×AV)}{h:Ap}{nx:Nat}{dst:Option Nat}{Q:MN}{cl:List (List Nat)}{i:Nat}{acc:List Fp}(ps:List PK)(O:IH (hget h) args=some (ps,[]))(a:A)(Z:ar ps=some a)(z:pre a)(hq:Hc acc=true)
 (G: ∀u,Q (⟨i,u,[],nx,0⟩::acc) ((⟨tm,h,nx⟩:Aj).put dst (.im (re a)))):CU ar pre re args (hget h) nx (Hd cl i acc Q ⟨tm,h,nx⟩ dst):=by
 unfold CU;rw[O];simp only[Vi,Z,DK,PD];refine⟨z,?_,?_,?_⟩
 .rw[Bk.ok_nr];simp[AV.bel,Ac,G1]
 .exact Vr _ _ _ _ hq
 .rw[Aj.app_nr,Bo,N2];exact G _
def vF.callA{A:Type}{ar:List PK->Option A}{pre:A->Prop}{re:A->D}{args:List AV}{tm:List (Nat×AV)}{h:Ap}{nx:Nat}{dst:Option Nat}{Q:MN}{cl:List (List Nat)}{i:Nat}{acc:List Fp}(ps:List PK)(O:Ce (hget h) args=some ps)(a:A)(Z:ar ps=some a)(z:pre a)(hq:Hc acc=true)
 (G: ∀u,Q (⟨i,u,[],nx,0⟩::acc) ((⟨tm,h,nx⟩:Aj).put dst (.im (re a)))):K2 ar pre re args (hget h) nx (Hd cl i acc Q ⟨tm,h,nx⟩ dst):=by
 unfold K2;rw[O];simp only[VN,Z,DK];refine⟨z,?_,?_,?_⟩
 .rw[Bk.ok_nr];simp[AV.bel,Ac,G1]
 .exact Vr _ _ _ _ hq
 .rw[Aj.app_nr,Bo,N2];exact G _
def Oi{N nx:Nat}{tm:List (Nat×AV)}{h:Ap}{dst:Option Nat}{go:Aj->Prop}{s:Az}{k:Int}(hB:G3 s)(hk:0<=k)(ac:k<=1048576)(Z:Ek (hget h) (N+7) (N+9) (N+2000012) (N+10) s)(ad:N+2000013<=nx)
 (ab: ∀Q:Ap,(∀m,m<N+7\/N+2000013<=m->hget Q m=hget h m)->go ((⟨tm,Q,nx⟩:Aj).put dst (.im (.int .i64 (syK (s,k)+3*s.Seed.Tiles.length))))):
 mkSy.row [.agg [.own (N+7),.own (N+9),.own (N+2000012),.im (.int .i64 s.Temperature)],.im (.int .i64 k)] (hget h) nx (CR go ⟨tm,h,nx⟩ dst):=by
 have ht:=hB.t;have hn:=Fk s.Set.Tiles;have O:nT s.Set.Tiles=s.Set.Tiles.length:=by simp only[nT];omega
 obtain⟨τ,hτ⟩: ∃τ:Nat->Nat,τ=λj=>if j=2000000 then N+2000012 else if j=0 then N+7 else N+8+j:=⟨_,rfl⟩
 have t0:τ 0=N+7:=by rw[hτ];rfl
 have t1:τ 1=N+9:=by rw[hτ];rfl
 have t2: ∀j,j<1048576->τ (2+j)=N+10+j:=λj z=>by rw[hτ];simp only;rw[Ag (by omega),Ag (by omega)];omega
 have tp:τ 2000000=N+2000012:=by rw[hτ];exact Ao rfl
 have hσ: ∀j,j<2000001->BT τ 2000001 nx j=τ j:=λj z=>Ao z
 have d0: ∀j,Am (mkSy.H0 (s,k)) j=true->j=2000000\/j<2+s.Set.Tiles.length:=λj z=>by
  have:=(mkSy.dom0 _ _).1 z
  simp only[O] at this;exact this
 have rg: ∀j,Am (mkSy.H0 (s,k)) j=true->N+7<=τ j/\τ j<N+2000013:=λj z=>by
  rcases d0 j z with rfl|z
  .rw[tp];omega
  .rw[hτ];simp only;rw[Ag (by omega)]
   split<;>omega
 refine AF.tau (s,k) τ (hB.mkp hk ac) (λ_ _=>rfl) (λj z=> ?_) (λi j G z h=> ?_) (mkSy.hcl _) ⟨?_,?_⟩ (by simp[mkSy.r0,AV.nms]) (λQ _ aa=> ?_)
 .have h1:=d0 j z;have h2:=rg j z;omega
 .have h1:=d0 i G;have h2:=d0 j z;have tv: ∀j,(j=2000000/\τ j=N+2000012)\/(j=0/\τ j=N+7)\/(j≠2000000/\j≠0/\τ j=N+8+j):=λj=>by
   rw[hτ];simp only;split
   .exact .inl ⟨by assumption,rfl⟩
   split
   .exact .inr (.inl ⟨by assumption,rfl⟩)
   .exact .inr (.inr ⟨by assumption,by assumption,rfl⟩)
  have v1:=tv i;have v2:=tv j;omega
 .simp only[mkSy.ca,AL,AV.ren,hσ 0 (by omega),hσ 1 (by omega),hσ 2000000 (by omega),t0,t1,tp]
 .simp only[mkSy.H0,mkTS.H0,GW,D3,hσ 0 (by omega),hσ 1 (by omega),hσ 2000000 (by omega),t0,t1,tp,Ad.ren];refine⟨Z.p,Z.g,?_,Vu λi G=> ?_⟩
  .rw[Z.t];congr 3;simp only[H5,Di,Q3,O];refine Nx λi G=> ?_
   have G:=B6.1 G;simp only[Function.comp,Fb,jI,Cy,HW,AL,AV.ren];rw[hσ _ (by omega),t2 i (by omega)]
  .rw[O] at G;rw[hσ _ (by omega),t2 i (by omega),Z.f i G];rfl
 exact ab Q λm hm=>aa m λj z=>by have:=rg j z;omega
def mkOC.d0(a:List AJ×Int)(j:Nat)(z:Am (mkOC.H0 a) j=true):j=0:=by
 simp only[Am,mkOC.H0,hget] at z;by_cases h:j=0
 .exact h
 .rw[Be _ _ (λq=>h q.symm)] at z;cases z
def Og{nx o:Nat}{tm:List (Nat×AV)}{h:Ap}{dst:Option Nat}{go:Aj->Prop}{l:List AJ}{k:Int}(hk:0<=k)(Z:k+3*l.length<=1099511627776)(hS:hget h o=some (true,.arr 108 3 (l.map AJ.c)))(aa:o<nx)
 (Q: ∀G:Ap,(∀j e,hget (mkOC.H1 (l,k)) j=some e->hget G o=some (e.1,e.2.ren (BT (λ_=>o) 1 nx)))->(∀m,m≠o->hget G m=hget h m)->go ((⟨tm,G,nx⟩:Aj).put dst (.im (.int .i64 (k+3*l.length))))):
 mkOC.row [.own o,.im (.int .i64 k)] (hget h) nx (CR go ⟨tm,h,nx⟩ dst):=by
 refine AF.tau (l,k) (λ_=>o) ⟨hk,Z⟩ (λj z=>by rw[mkOC.d0 _ j z];rfl) (λj z=>⟨by rw[mkOC.d0 _ j z];omega,aa⟩) (λi j hi z _=>by rw[mkOC.d0 _ i hi,mkOC.d0 _ j z]) (λp hp=> ?_) ⟨rfl,hS,trivial⟩ (by simp[AV.nms]) (λG hH1 O=>Q G hH1 λm hm=>O m λj z h=>hm h.symm);simp only[mkOC.H1,BE] at hp;subst hp;exact⟨rfl,λm hm=>by simp[Ad.nms] at hm⟩
def mkIC.d0(a:List Int×Int)(j:Nat)(z:Am (mkIC.H0 a) j=true):j=0:=by
 simp only[Am,mkIC.H0,hget] at z;by_cases h:j=0
 .exact h
 .rw[Be _ _ (λq=>h q.symm)] at z;cases z
def Oe{nx o:Nat}{tm:List (Nat×AV)}{h:Ap}{dst:Option Nat}{go:Aj->Prop}{l:List Int}{k:Int}(hk:0<=k)(Z:k+l.length<=1099511627776)(hS:hget h o=some (true,.arr 2 1 (l.map Al)))(aa:o<nx)
 (Q: ∀G:Ap,(∀j e,hget (mkIC.H1 (l,k)) j=some e->hget G o=some (e.1,e.2.ren (BT (λ_=>o) 1 nx)))->(∀m,m≠o->hget G m=hget h m)->go ((⟨tm,G,nx⟩:Aj).put dst (.im (.int .i64 (k+l.length))))):
 mkIC.row [.own o,.im (.int .i64 k)] (hget h) nx (CR go ⟨tm,h,nx⟩ dst):=by
 refine AF.tau (l,k) (λ_=>o) ⟨hk,Z⟩ (λj z=>by rw[mkIC.d0 _ j z];rfl) (λj z=>⟨by rw[mkIC.d0 _ j z];omega,aa⟩) (λi j hi z _=>by rw[mkIC.d0 _ i hi,mkIC.d0 _ j z]) (λp hp=> ?_) ⟨rfl,hS,trivial⟩ (by simp[AV.nms]) (λG hH1 O=>Q G hH1 λm hm=>O m λj z h=>hm h.symm);simp only[mkIC.H1,BE] at hp;subst hp;exact⟨rfl,λm hm=>by simp[Ad.nms] at hm⟩
def needX.pre(a:Jt):Prop:=(∀o∈a.Seq,HB o.At)/\a.Inputs.length=a.Seq.length/\a.Seq.length<=500
structure PN(h:Nat->Option Aq)(o b:Nat)(M:List (List Int)):Prop where
 r:h o=some (true,.arrA 32 1 (CW b M.length))
 f: ∀i,i<M.length->h (b+i)=some (true,.arr 2 1 ((M[i]?.getD []).map Al))
def PN.mono{h h':Nat->Option Aq}{o b:Nat}{M:List (List Int)}(hs:PN h o b M)(z: ∀m,(m=o\/(b<=m/\m<b+M.length))->h' m=h m):PN h' o b M:=
 ⟨by rw[z o (.inl rfl)];exact hs.r,λi G=>by rw[z _ (.inr ⟨by omega,by omega⟩)];exact hs.f i G⟩
def PN.pk{h:Nat->Option Aq}{o b:Nat}{M:List (List Int)}(hs:PN h o b M):Ed h (.own o)=some (.val (.sl false 1 (M.map C4))):=by
 have e:Ax (Ax (bk h 8)) (CW b M.length)=some (M.map C4):=by
  have G:M.map C4=(List.range M.length).map λi=>C4 (M[i]?.getD []):=by
   apply JE;intro i;rw[D9,D9];by_cases z:i<M.length
   .rw[HK z,Bh z];simp[z]
   .rw[F7 (by omega),F7 (by simp;omega)];rfl
  rw[G];refine UK _ λi z=> ?_
  have z:=B6.1 z;simp only[Ax,bk,hs.f i z,K9,C4]
 simp only[Ed,bk,hs.r,K9,e,Ds,EZ]
def VG{A:Type}(f:Nat->A)(n:Nat):(D2 f n).length=n:=by simp[D2]
def Ng(l:List AJ)(k:Int):Int:=if l=D2 (oF k) l.length then k+3*l.length else -1
def RJ(k:Int)(n:Nat):Ng (D2 (oF k) n) k=k+3*n:=by
 simp only[Ng,VG,BI]
def nL{A:Type}(f:Nat->A)(n:Nat):D2 f (n+1)=D2 f n++[f n]:=by simp[D2,jH]
def MJ{A:Type}{f:Nat->A}{n i:Nat}(h:i<n):(D2 f n)[i]? =some (f i):=by simp only[D2,D9];rw[HK h];rfl
def heldO_.fv(a:(List AJ)×Int):Int:=(Ng) (a.1) (a.2)
def heldO_.row:A7:=CN (b2 (qS AJ.d_le AJ.c_n) qI) rI (λa=>0<=a.2/\a.2+3*a.1.length<=1099511627776) heldO_.fv
def heldO_.ok:AA Tryz.prog 26 heldO_.row:=by
 refine FZ tN Tryz.func26 rfl (by kernel_rfl) ?_;intro a z;simp only[Tryz.f26];simp(disch:=omega)only[ZA,simprocAttr,heldO_.fv];obtain⟨l,k⟩:=a;simp only at z⊢;obtain⟨h1,h2⟩:=z;refine AR.old ⟨{i:Nat//i<=l.length/\l.take i=D2 (oF k) i},λi=>⟨[(5,.im (.int .i64 i.1)),(4,.im (.int .i64 0)),(1,.im (.int .i64 (k+3*i.1))),(0,.im (.sl false 3 (l.map AJ.c)))],[],0⟩,λi=>l.length - i.1,λi=>⟨by simp[Aj.good,An,Ac,A9,AV.bel],by simp⟩,⟨⟨0,by simp[D2]⟩,by simp(disch:=omega)only[ZA,simprocAttr,sub];simp⟩,λi=> ?_⟩;obtain⟨i,ab,G⟩:=i;simp(disch:=omega)only[ZA,simprocAttr,D.sc,D.scs,Bv,sub,AP];intro _;have w1:IntKind.i64.wrap (k+3*(i:Int)+1)=k+3*(i:Int)+1\/ ¬i<l.length:=by
  by_cases c:i<l.length
  .exact .inl (AG (by omega) (by omega))
  .exact .inr c
 refine⟨λQ=>⟨Q,λx Z=> ?_⟩,λQ=> ?_⟩
 .have w1:IntKind.i64.wrap (k+3*(i:Int)+1)=k+3*(i:Int)+1:=AG (by omega) (by omega);have w2:IntKind.i64.wrap (k+3*(i:Int)+1+1)=k+3*(i:Int)+2:=(AG (by omega) (by omega)).trans (by omega);have w3:IntKind.i64.wrap (k+3*(i:Int)+2+1)=k+3*((i+1:Nat):Int):=(AG (by omega) (by omega)).trans (by omega);simp only[w1,w2,w3];have O:x≠oF k i-> -1=Ng l k:=λc=>by
   simp only[Ng];rw[Ag λh=> ?_];rw[h,MJ Q] at Z;exact c (AE Z).symm
  refine⟨λc=>O λh=>c (by rw[h];rfl),λc1=>⟨Q,λy hy=> ?_⟩⟩;obtain rfl:x=y:=AE (Z.symm.trans hy);refine⟨λc=>O λh=>c (by rw[h];rfl),λc2=>⟨Q,λy hy=> ?_⟩⟩;obtain rfl:x=y:=AE (Z.symm.trans hy);refine⟨λc=>O λh=>c (by rw[h];rfl),λc3=>⟨⟨i+1,by omega,?_⟩,by simp only;omega,by rw[AG (by omega) (by omega)];simp only;omega,rfl⟩⟩;have e:x=oF k i:=by
   obtain⟨⟨u,v⟩,t⟩:=x;simp only[F8] at c1 c2 c3;simp only[oF,c1,c2,c3]
  rw[YV Z,G,nL,e]
 .have aa:i=l.length:=by omega
  subst aa;rw[HJ] at G;simp only[Ng];rw[Ao G]
def totO(M:List (List AJ)):Nat:=(M.map List.length).sum
def mkOO.pre(a:List (List AJ)×Int):Prop:=a.1.length<=1048576/\0<=a.2/\a.2+3*totO a.1<=1099511627776
end Go.Ae
