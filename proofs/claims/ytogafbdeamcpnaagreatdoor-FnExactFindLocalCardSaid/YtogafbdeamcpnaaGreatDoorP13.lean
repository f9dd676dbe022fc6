/- Lemmas. Conditions: none. -/
import Derived.Test.YtogafbdeamcpnaaGreatDoorP12
import Derived.Shelf.SlSortCmp.WholeK
import Derived.Shelf.SlicesG.Cmp
import Derived.StillTailTactics
import Derived.Lib.Small
import Derived.Lib.Walk
import Derived.Shelf.SlSortCmp.NoneTotal
set_option linter.all false
set_option maxHeartbeats 8000000
set_option maxRecDepth 100000
namespace Go.Proofs
open Go.Shelf
def Tryz.sortPl_ren:Go.Shelf.Ren:=⟨λ|6=>159|15=>200|14=>199|28=>233|29=>234|20=>225|21=>226|22=>227|23=>228|24=>229|25=>230|26=>231|27=>232|46=>257|47=>258|48=>259|49=>260|50=>261|57=>281|n=>n,λ|22=>37|24=>137|25=>221|3=>3|39=>247|0=>0|53=>312|55=>314|4=>4|46=>306|45=>305|50=>189|5=>5|9=>9|66=>336|70=>340|76=>362|77=>363|n=>n,λ|n=>n⟩
def Tryz.sortPl:Go.Proofs.SlLaysF0.n6 Tryz.prog Tryz.sortPl_ren:={
 mixed:=by kernel_rfl
 f6:=⟨Tryz.f159.name,by decide,Tryz.func159.trans (Bx some (by kernel_rfl))⟩
 f14:=⟨Tryz.f199.name,by decide,Tryz.func199.trans (Bx some (by kernel_rfl))⟩
 f15:=Tryz.func200.trans (Bx some (by kernel_rfl))
 f20:=⟨Tryz.f225.name,by decide,Tryz.func225.trans (Bx some (by kernel_rfl))⟩
 f21:=⟨Tryz.f226.name,by decide,Tryz.func226.trans (Bx some (by kernel_rfl))⟩
 f22:=⟨Tryz.f227.name,by decide,Tryz.func227.trans (Bx some (by kernel_rfl))⟩
 f23:=⟨Tryz.f228.name,by decide,Tryz.func228.trans (Bx some (by kernel_rfl))⟩
 f24:=⟨Tryz.f229.name,by decide,Tryz.func229.trans (Bx some (by kernel_rfl))⟩
 f25:=⟨Tryz.f230.name,by decide,Tryz.func230.trans (Bx some (by kernel_rfl))⟩
 f26:=⟨Tryz.f231.name,by decide,Tryz.func231.trans (Bx some (by kernel_rfl))⟩
 f27:=⟨Tryz.f232.name,by decide,Tryz.func232.trans (Bx some (by kernel_rfl))⟩
 f28:=Tryz.func233.trans (Bx some (by kernel_rfl))
 f29:=Tryz.func234.trans (Bx some (by kernel_rfl))
 f46:=⟨Tryz.f257.name,by decide,Tryz.func257.trans (Bx some (by kernel_rfl))⟩
 f47:=Tryz.func258.trans (Bx some (by kernel_rfl))
 f48:=Tryz.func259.trans (Bx some (by kernel_rfl))
 f49:=⟨Tryz.f260.name,by decide,Tryz.func260.trans (Bx some (by kernel_rfl))⟩
 f50:=⟨Tryz.f261.name,by decide,Tryz.func261.trans (Bx some (by kernel_rfl))⟩
 f57:=⟨Tryz.f281.name,by decide,Tryz.func281.trans (Bx some (by kernel_rfl))⟩
 t0:=Tryz.underlying0
 a0:=Tryz.isAgg0
 z0:=Tryz.sizeOf0
 v0:=Tryz.zeroValue0
 t3:=Tryz.underlying3
 a3:=Tryz.isAgg3
 z3:=Tryz.sizeOf3
 v3:=Tryz.zeroValue3
 t4:=Tryz.underlying4
 a4:=Tryz.isAgg4
 z4:=Tryz.sizeOf4
 v4:=Tryz.zeroValue4
 t5:=Tryz.underlying5
 a5:=Tryz.isAgg5
 z5:=Tryz.sizeOf5
 v5:=Tryz.zeroValue5
 t9:=Tryz.underlying9
 a9:=Tryz.isAgg9
 z9:=Tryz.sizeOf9
 v9:=Tryz.zeroValue9
 t22:=Tryz.underlying37
 a22:=Tryz.isAgg37
 z22:=Tryz.sizeOf37
 v22:=Tryz.zeroValue37
 t25:=Tryz.underlying221
 a25:=Tryz.isAgg221
 z25:=Tryz.sizeOf221
 v25:=Tryz.zeroValue221
 t39:=Tryz.underlying247
 a39:=Tryz.isAgg247
 z39:=Tryz.sizeOf247
 v39:=Tryz.zeroValue247
 t45:=Tryz.underlying305
 a45:=Tryz.isAgg305
 z45:=Tryz.sizeOf305
 v45:=Tryz.zeroValue305
 t46:=Tryz.underlying306
 a46:=Tryz.isAgg306
 z46:=Tryz.sizeOf306
 v46:=Tryz.zeroValue306
 t50:=Tryz.underlying189
 a50:=Tryz.isAgg189
 z50:=Tryz.sizeOf189
 v50:=Tryz.zeroValue189
 t53:=Tryz.underlying312
 a53:=Tryz.isAgg312
 z53:=Tryz.sizeOf312
 v53:=Tryz.zeroValue312
 t55:=Tryz.underlying314
 a55:=Tryz.isAgg314
 z55:=Tryz.sizeOf314
 v55:=Tryz.zeroValue314
 t66:=Tryz.underlying336
 a66:=Tryz.isAgg336
 z66:=Tryz.sizeOf336
 v66:=Tryz.zeroValue336
 t70:=Tryz.underlying340
 a70:=Tryz.isAgg340
 z70:=Tryz.sizeOf340
 v70:=Tryz.zeroValue340
 t76:=Tryz.underlying362
 a76:=Tryz.isAgg362
 z76:=Tryz.sizeOf362
 v76:=Tryz.zeroValue362
 t77:=Tryz.underlying363
 a77:=Tryz.isAgg363
 z77:=Tryz.sizeOf363
 v77:=Tryz.zeroValue363}
def Tryz.sortPt_ren:Go.Shelf.Ren:=⟨λ|6=>223|15=>200|14=>256|28=>233|29=>234|20=>273|21=>274|22=>275|23=>276|24=>277|25=>278|26=>279|27=>280|46=>291|47=>258|48=>259|49=>292|50=>293|57=>297|n=>n,λ|22=>50|24=>96|25=>220|3=>3|39=>247|0=>0|53=>312|55=>314|4=>4|46=>306|45=>305|50=>189|5=>5|9=>9|66=>336|70=>340|76=>362|77=>363|n=>n,λ|n=>n⟩
def Tryz.sortPt:Go.Proofs.SlLaysF0.n6 Tryz.prog Tryz.sortPt_ren:={
 mixed:=by kernel_rfl
 f6:=⟨Tryz.f223.name,by decide,Tryz.func223.trans (Bx some (by kernel_rfl))⟩
 f14:=⟨Tryz.f256.name,by decide,Tryz.func256.trans (Bx some (by kernel_rfl))⟩
 f15:=Tryz.func200.trans (Bx some (by kernel_rfl))
 f20:=⟨Tryz.f273.name,by decide,Tryz.func273.trans (Bx some (by kernel_rfl))⟩
 f21:=⟨Tryz.f274.name,by decide,Tryz.func274.trans (Bx some (by kernel_rfl))⟩
 f22:=⟨Tryz.f275.name,by decide,Tryz.func275.trans (Bx some (by kernel_rfl))⟩
 f23:=⟨Tryz.f276.name,by decide,Tryz.func276.trans (Bx some (by kernel_rfl))⟩
 f24:=⟨Tryz.f277.name,by decide,Tryz.func277.trans (Bx some (by kernel_rfl))⟩
 f25:=⟨Tryz.f278.name,by decide,Tryz.func278.trans (Bx some (by kernel_rfl))⟩
 f26:=⟨Tryz.f279.name,by decide,Tryz.func279.trans (Bx some (by kernel_rfl))⟩
 f27:=⟨Tryz.f280.name,by decide,Tryz.func280.trans (Bx some (by kernel_rfl))⟩
 f28:=Tryz.func233.trans (Bx some (by kernel_rfl))
 f29:=Tryz.func234.trans (Bx some (by kernel_rfl))
 f46:=⟨Tryz.f291.name,by decide,Tryz.func291.trans (Bx some (by kernel_rfl))⟩
 f47:=Tryz.func258.trans (Bx some (by kernel_rfl))
 f48:=Tryz.func259.trans (Bx some (by kernel_rfl))
 f49:=⟨Tryz.f292.name,by decide,Tryz.func292.trans (Bx some (by kernel_rfl))⟩
 f50:=⟨Tryz.f293.name,by decide,Tryz.func293.trans (Bx some (by kernel_rfl))⟩
 f57:=⟨Tryz.f297.name,by decide,Tryz.func297.trans (Bx some (by kernel_rfl))⟩
 t0:=Tryz.underlying0
 a0:=Tryz.isAgg0
 z0:=Tryz.sizeOf0
 v0:=Tryz.zeroValue0
 t3:=Tryz.underlying3
 a3:=Tryz.isAgg3
 z3:=Tryz.sizeOf3
 v3:=Tryz.zeroValue3
 t4:=Tryz.underlying4
 a4:=Tryz.isAgg4
 z4:=Tryz.sizeOf4
 v4:=Tryz.zeroValue4
 t5:=Tryz.underlying5
 a5:=Tryz.isAgg5
 z5:=Tryz.sizeOf5
 v5:=Tryz.zeroValue5
 t9:=Tryz.underlying9
 a9:=Tryz.isAgg9
 z9:=Tryz.sizeOf9
 v9:=Tryz.zeroValue9
 t22:=Tryz.underlying50
 a22:=Tryz.isAgg50
 z22:=Tryz.sizeOf50
 v22:=Tryz.zeroValue50
 t25:=Tryz.underlying220
 a25:=Tryz.isAgg220
 z25:=Tryz.sizeOf220
 v25:=Tryz.zeroValue220
 t39:=Tryz.underlying247
 a39:=Tryz.isAgg247
 z39:=Tryz.sizeOf247
 v39:=Tryz.zeroValue247
 t45:=Tryz.underlying305
 a45:=Tryz.isAgg305
 z45:=Tryz.sizeOf305
 v45:=Tryz.zeroValue305
 t46:=Tryz.underlying306
 a46:=Tryz.isAgg306
 z46:=Tryz.sizeOf306
 v46:=Tryz.zeroValue306
 t50:=Tryz.underlying189
 a50:=Tryz.isAgg189
 z50:=Tryz.sizeOf189
 v50:=Tryz.zeroValue189
 t53:=Tryz.underlying312
 a53:=Tryz.isAgg312
 z53:=Tryz.sizeOf312
 v53:=Tryz.zeroValue312
 t55:=Tryz.underlying314
 a55:=Tryz.isAgg314
 z55:=Tryz.sizeOf314
 v55:=Tryz.zeroValue314
 t66:=Tryz.underlying336
 a66:=Tryz.isAgg336
 z66:=Tryz.sizeOf336
 v66:=Tryz.zeroValue336
 t70:=Tryz.underlying340
 a70:=Tryz.isAgg340
 z70:=Tryz.sizeOf340
 v70:=Tryz.zeroValue340
 t76:=Tryz.underlying362
 a76:=Tryz.isAgg362
 z76:=Tryz.sizeOf362
 v76:=Tryz.zeroValue362
 t77:=Tryz.underlying363
 a77:=Tryz.isAgg363
 z77:=Tryz.sizeOf363
 v77:=Tryz.zeroValue363}
def Tryz.cmpI64_ren:Go.Shelf.Ren:=⟨λ|5=>202|7=>235|n=>n,λ|22=>2|3=>3|4=>4|n=>n,λ|n=>n⟩
def Tryz.cmpI64:Go.Proofs.SlLaysC2.n5 Tryz.prog Tryz.cmpI64_ren:={
 mixed:=by kernel_rfl
 f5:=⟨Tryz.f202.name,by decide,Tryz.func202.trans (Bx some (by kernel_rfl))⟩
 f7:=⟨Tryz.f235.name,by decide,Tryz.func235.trans (Bx some (by kernel_rfl))⟩
 t3:=Tryz.underlying3
 a3:=Tryz.isAgg3
 z3:=Tryz.sizeOf3
 v3:=Tryz.zeroValue3
 t4:=Tryz.underlying4
 a4:=Tryz.isAgg4
 z4:=Tryz.sizeOf4
 v4:=Tryz.zeroValue4
 t22:=Tryz.underlying2
 a22:=Tryz.isAgg2
 z22:=Tryz.sizeOf2
 v22:=Tryz.zeroValue2}
end Go.Proofs
namespace Go.Proofs
open Go.Shelf Go.RowKit Go.Lib Go.Sort
def Tryz.cmp64(x y:Int)(W:World):Calls Tryz.prog 202 #[.int .i64 x,.int .i64 y] W λe w'=>e= .returned (.int .i64 (Lib.compareInt x y))/\w'=W:=
 AnyG.cmp_Compare_int Tryz.cmpI64 x y W
def Tryz.orTwo(b:Nat)(x y:Int)(W:World)(h0:W.cell? ⟨b,0,none⟩=some (.int .i64 x))(z:W.cell? ⟨b,1,none⟩=some (.int .i64 y)):
 Calls Tryz.prog 201 #[.slice (some ⟨b,0,none⟩) 2 2] W λe w'=>e= .returned (.int .i64 (if x=0 then y else x))/\w'=W:=by
 go_enter Tryz.func201,Tryz.ntmps201
 go_wp2
 refine wp_loop_rounds 3 ?_;rw[rounds_succ]
 go_wp2
 all_goals (try rw[rounds_succ])
 all_goals (try go_wp2)
 all_goals (try rw[rounds_succ])
 all_goals (try go_wp2)
 all_goals (go_ret;refine⟨?_,rfl⟩;simp_all)
def two_cells(W:World)(a b a' b':Value)(T:TypeId):
 let z:=((W.alloc (Obj.cells #[a,b] T)).alloc (Obj.cells #[a',b'] T)).drew
 z.cell? ⟨W.heap.size,0,none⟩=some a/\z.cell? ⟨W.heap.size,1,none⟩=some b/\z.cell? ⟨W.heap.size+1,0,none⟩=some a'/\z.cell? ⟨W.heap.size+1,1,none⟩=some b'/\
  ∃G,z=grow (W.drewN 1) G:=by
 have e:((W.alloc (Obj.cells #[a,b] T)).alloc (Obj.cells #[a',b'] T)).drew=grow (W.drewN 1) #[Obj.cells #[a,b] T,Obj.cells #[a',b'] T]:=by
  rw[alloc_eq_grow,alloc_eq_grow,grow_grow];rfl
 have h0:(W.heap++ #[Obj.cells #[a,b] T,Obj.cells #[a',b'] T])[W.heap.size]? =some (Obj.cells #[a,b] T):=by
  rw[Ye (Ar _),D3];rfl
 have O:(W.heap++ #[Obj.cells #[a,b] T,Obj.cells #[a',b'] T])[W.heap.size+1]? =some (Obj.cells #[a',b'] T):=by
  rw[Ye (Nat.le_succ _),show W.heap.size.succ - W.heap.size=1 by omega];rfl
 simp only[e];refine⟨?_,?_,?_,?_,_,rfl⟩<;>unfold World.cell? <;>simp only[grow,World.drewN,h0,O]<;>rfl
def WZ(w:World)(a b:Value)(T:TypeId):(w.alloc (Obj.cells #[a,b] T)).cell? ⟨w.heap.size,0,none⟩=some a/\(w.alloc (Obj.cells #[a,b] T)).cell? ⟨w.heap.size,1,none⟩=some b:=by
 have h0:(w.heap.push (Obj.cells #[a,b] T))[w.heap.size]? =some (Obj.cells #[a,b] T):=by simp
 constructor<;>unfold World.cell? <;>simp only[World.alloc,h0]<;>rfl
def Ej(p q:Int×Int):Int:=if Lib.compareInt p.2 q.2=0 then Lib.compareInt p.1 q.1 else Lib.compareInt p.2 q.2
def Tryz.cmpPoints(x y x' y':Int)(W:World):Calls Tryz.prog 161 #[.agg #[.int .i64 x,.int .i64 y],.agg #[.int .i64 x',.int .i64 y']] W λe w'=>
 e= .returned (.int .i64 (Ej (x,y) (x',y')))/\ ∃q Q,w'=grow (W.drewN q) Q:=by
 have z:=λW'=>Tryz.cmp64 y y' W'
 have G:=λW'=>Tryz.cmp64 x x' W'
 unfold Ej;simp only;generalize Lib.compareInt y y'=r1 at z⊢;generalize Lib.compareInt x x'=r2 at G⊢;have O:=λ(b:Nat) W'=>Tryz.orTwo b r1 r2 W'
 generalize (if r1=0 then r2 else r1)=r at O⊢
 go_enter Tryz.func161,Tryz.ntmps161
 go_wp2
 refine wp_region_still_tail 10 (by kernel_rfl) (by kernel_rfl) ?_;simp only[Ft,Hm,Gz,D9];obtain⟨d1,d2,d3,d4,Z⟩:=two_cells W (.int .i64 x) (.int .i64 y) (.int .i64 x') (.int .i64 y') 96;change wpStill _ _ ((W.alloc (Obj.cells #[Value.int IntKind.i64 x,Value.int IntKind.i64 y] 96)).alloc (Obj.cells #[Value.int IntKind.i64 x',Value.int IntKind.i64 y'] 96)).drew (λa'=>wpList _ _ _ _ a' ((W.alloc (Obj.cells #[Value.int IntKind.i64 x,Value.int IntKind.i64 y] 96)).alloc (Obj.cells #[Value.int IntKind.i64 x',Value.int IntKind.i64 y'] 96)).drew) _ _;generalize ((W.alloc (Obj.cells #[Value.int IntKind.i64 x,Value.int IntKind.i64 y] 96)).alloc (Obj.cells #[Value.int IntKind.i64 x',Value.int IntKind.i64 y'] 96)).drew=w3 at d1 d2 d3 d4 Z⊢
 still_step
 still_step
 still_step
 still_step
 still_call (z _)
 still_step
 still_step
 still_step
 still_step
 still_call (G _)
 refine wpStill_nil ?_
 go_wp2_with (go_at_call 201;refine (O _ _ (WZ _ _ _ _).1 (WZ _ _ _ _).2).mono ?_;rintro e w' ⟨rfl,rfl⟩)
 go_ret
 obtain⟨aa,rfl⟩:=Z;exact⟨rfl,1,_,by rw[alloc_eq_grow,grow_grow]⟩
def Tryz.cmpPlaced90(x y t x' y' t':Int)(W:World):Calls Tryz.prog 160 #[.agg #[.int .i64 x,.int .i64 y,.int .i64 t],.agg #[.int .i64 x',.int .i64 y',.int .i64 t']] W λe w'=>
 e= .returned (.int .i64 (Ej (x,y) (x',y')))/\ ∃q G,w'=grow (W.drewN q) G:=by
 have z:=λW'=>Tryz.cmpPoints x y x' y' W'
 generalize Ej (x,y) (x',y')=r at z⊢
 go_enter Tryz.func160,Tryz.ntmps160
 go_wp2_with (go_at_call 161;refine (z _).mono ?_;rintro e w' ⟨rfl,q,G,rfl⟩)
 go_ret
 exact⟨rfl,q,_,by rw[alloc_eq_grow,alloc_eq_grow,grow_grow];show grow (grow (W.drewN q) _) G=_;rw[grow_grow]⟩
end Go.Proofs
namespace Go.Ae
open Go.Proofs Go.Sort Go.Shelf
instance:Inhabited Ad:=⟨⟨⟨0,0⟩,0⟩⟩
def encP(x:Ad):List Value:=[.int .i64 x.At.X,.int .i64 x.At.Y,.int .i64 x.Tile]
def cfP(x y:Ad):Int:=Ej (x.At.X,x.At.Y) (y.At.X,y.At.Y)
def Rq(x y:Ad):ltOf cfP x y=AB x.At y.At:=by
 simp only[ltOf,cfP,Ej,Lib.compareInt,AB]
 grind
def swoP:SWO (ltOf cfP) where
 irrefl x:=by rw[Rq];simp only[AB];grind
 trans x y z h1 h2:=by rw[Rq] at*;simp only[AB] at*;grind
 ntrans x y z h1 h2:=by rw[Rq] at*;simp only[AB] at*;grind
def Cp(l:List Ad):List Ad:=l.foldr (λx r=>insT x.At x.Tile r) []
def Mn(x:Ad): ∀(l:List Ad),(insT x.At x.Tile l).Perm (x::l)
 |[]=>LB _
 |y::r=>by
  simp only[insT];split
  .exact LB _
  .exact ((Mn x r).cons y).trans (List.Perm.swap x y r)
def IY: ∀(l:List Ad),(Cp l).Perm l
 |[]=>LB _
 |x::r=>(Mn x (Cp r)).trans ((IY r).cons x)
def Y7{a b c:Aa}(z:AB a b=true)(G:AB c b=false):AB c a=false:=by
 simp only[AB] at*;grind
def Ri(x:Ad): ∀(l:List Ad),l.Pairwise (λa b=>AB b.At a.At=false)->(insT x.At x.Tile l).Pairwise (λa b=>AB b.At a.At=false)
 |[],_=>by simp[insT]
 |y::r,h=>by
  rw[H7] at h;simp only[insT];split
  .rename_i O;rw[H7,H7];refine⟨λz G=> ?_,h⟩;have Q:AB y.At x.At=false:=by simp only[AB] at*;grind
   rcases A9.1 G with rfl|G
   .exact Q
   .have:=h.1 z G
    exact Y7 O this
  .rename_i O;rw[H7];refine⟨λz G=> ?_,Ri x r h.2⟩;rcases (OK _ _ _ _).1 G with rfl|G
   .simpa using O
   .exact h.1 z G
def OQ: ∀(l:List Ad),(Cp l).Pairwise (λa b=>AB b.At a.At=false)
 |[]=>List.Pairwise.nil
 |x::r=>Ri x _ (OQ r)
def Na(l:List Ad):(Cp l).length=l.length:=(IY l).length_eq
def at_inj{l:List Ad}(h:(l.map Ad.At).Nodup){x y:Ad}(Z:x∈l)(hy:y∈l)(Q:x.At=y.At):x=y:=by
 induction l with
 |nil=>cases Z
 |cons z r ih=>
  rw[Ay,Ed] at h;rcases A9.1 Z with G|G<;>rcases A9.1 hy with O|O
  .rw[G,O]
  .exact absurd (show z.At∈r.map Ad.At by rw[<-G,Q];exact PB O) h.1
  .exact absurd (show z.At∈r.map Ad.At by rw[<-O,<-Q];exact PB G) h.1
  .exact ih h.2 G O
def OO{l l':List Ad}(hd:(l.map Ad.At).Nodup)(hp:l'.Perm l)(hs:l'.Pairwise (λa b=>AB b.At a.At=false)):l'=Cp l:=by
 refine XV (le:=λa b=>AB b.At a.At=false) (λa b Z hb O Q=> ?_) hs (OQ l) (hp.trans (IY l).symm);refine at_inj hd (hp.mem_iff.1 Z) ((IY l).mem_iff.1 hb) ?_;revert O Q;obtain⟨⟨ax,ay⟩,z⟩:=a;obtain⟨⟨bx,G⟩,bt⟩:=b;simp only[AB,Aa.mk.injEq]
 grind
def flP(l:List Ad):List Value:=l.flatMap encP
def flP_len(l:List Ad):(flP l).length=l.length*3:=by
 induction l with
 |nil=>rfl
 |cons x r ih=>simp only[flP,Dg,B5,Bs] at ih⊢;rw[ih];simp[encP];omega
def SE{ok:Nat->Prop}{hp:Nat->Option Obj}: ∀(l:List Ad) (L:List Value),rdr ok hp 3 (l.map Ad.c) L↔ ∃r,L=flP l++r
 |[],L=>by simp[rdr,flP]
 |x::r,L=>by
  simp only[Ay,rdr,SE r,Ad.c,rdp,rd,flP,Dg];constructor
  .rintro⟨_,⟨v,z,rfl,rfl,Q,G,rfl,rfl,Z,O,rfl,rfl,_⟩,q,hq⟩;exact⟨q,by simp only[Gz,D9] at hq;rw[hq];rfl⟩
  .rintro⟨q,rfl⟩;exact⟨rfl,⟨_,_,rfl,rfl,_,_,rfl,rfl,_,_,rfl,rfl,trivial⟩,q,rfl⟩
def flP_get: ∀(l:List Ad) (t:Nat),t<l.length*3->(flP l)[t]? =some ((encP (l[t/3]?.getD default))[t % 3]!)
 |[],t,h=>by simp at h
 |x::r,t,h=>by
  by_cases O:t<3
  .have:t=0\/t=1\/t=2:=by omega
   rcases this with rfl|rfl|rfl<;>simp[flP,encP]
  .obtain⟨u,rfl⟩: ∃u,t=u+3:=⟨t - 3,by omega⟩;have z:(u+3)/3=u/3+1:=by omega
   have G:(u+3) % 3=u % 3:=by omega
   have ih:=flP_get r u (by simp at h;omega);rw[z,G,DP,<-ih];simp[flP,encP]
def Xk(l:List Ad):(flatK encP 3 l.toArray).toList=flP l:=by
 apply EY;intro t;by_cases z:t<l.length*3
 .rw[flP_get l t z];have G:t<(flatK encP 3 l.toArray).size:=by simp only[size_flatK,Gg];exact z
  have O:=get_flatK encP 3 l.toArray t (by simpa using z);rw[Dx,EA G,<-getElem!_pos (flatK encP 3 l.toArray) t G,O];congr 3;simp[getElem!_def];cases l[t/3]? <;>rfl
 .have a1:(flatK encP 3 l.toArray).toList.length<=t:=by rw[Cm,size_flatK,Gg];omega
  have a2:(flP l).length<=t:=by rw[flP_len];omega
  rw[CH a1,CH a2]
def srt.ca(_:List Ad):List AV:=[.own 0,.im (.fn 160 [] [])]
def srt.H0(a:List Ad):Ag:=[(0,(true,.arr 137 3 (a.map Ad.c)))]
def srt.H1(a:List Ad):Ag:=[(0,(true,.arr 137 3 ((Cp a).map Ad.c)))]
def srt.row:Row:=orow srt.ca srt.H0 1 (λa=>(a.map Ad.At).Nodup) (λ_=>true) (λ_=> .im (.tup [])) srt.H1 0
def srt.ok:Ak Tryz.prog 159 srt.row:=by
 rintro args h nx K ⟨a,τ,U,KL,az,rfl,O,hN,hK⟩;refine⟨FW (by kernel_rfl),_,_,?_,hK⟩;intro C S vs R hW a8 ba bb aa av;have ao:sgx τ 1 nx 0=τ 0:=Af (by omega);simp only[srt.ca,renL,AV.ren,ao,Ap,conc,rd,rdl] at aa;obtain⟨v0,r0,hv,⟨ad,ai⟩,v1,r1,bh,⟨ac,cc,bj,aj,ak⟩,bi⟩:=aa;have aj:ac= #[]:=by apply Gh;simpa using aj
 have ak:cc= #[]:=by apply Gh;simpa using ak
 subst aj ak bi bh bj;have bl:vs= #[v0,.func (fnV 160) #[] #[]]:=by apply Gh;simpa using hv
 subst bl;have hm:h (τ 0)=some (true,.arr 137 3 (a.map Ad.c)):=by
  have:=O.1
  rwa [ao] at this
 have au:domB (srt.H0 a) 0=true:=rfl;have Q:S.h (τ 0)=some (true,.arr 137 3 (a.map Ad.c)):=by
  rw[a8 (τ 0) (Fb _ (hN.u 0 au)),hm]
 have aw: ∀n,n∈KL↔n=τ 0:=by
  intro n;constructor
  .intro hn;obtain⟨j,h1,_,h3⟩:=hN.k1 n hn
   have:j=0:=by
    simp only[domB,srt.H0,hget] at h1;by_cases hj:j=0
    .exact hj
    .have:(0==j)=false:=by simpa using λh=>hj h.symm
     rw[this] at h1;cases h1
   rw[h3,this]
  .rintro rfl;exact hN.k2 0 au rfl
 obtain⟨m,hmm⟩: ∃m,m=τ 0:=⟨_,rfl⟩;rw[<-hmm] at Q ai aw;have aq:=Na a;have fin: ∀(w':World),E5 S m (.arr 137 3 ((Cp a).map Ad.c)) (S.ρ m) [m] w'->
  (Pres (λn=>S.h m≠none\/n≠m) S (S.one m (.arr 137 3 ((Cp a).map Ad.c)) (S.ρ m) [m] w')->objc (S.one m (.arr 137 3 ((Cp a).map Ad.c)) (S.ρ m) [m] w') (S.ρ m) (.arr 137 3 ((Cp a).map Ad.c)))->R (.returned (.tuple #[])) w':=by
  intro w' ad bg;have hp:=KE hW ad;refine av (.tuple #[]) _ (Ms hW ad (bg hp)) ?_ ⟨hp.ok,λn _=>hp.nm n (.inl (by rw[Q];simp))⟩ ⟨#[],rfl,rfl⟩;funext n;simp only[Env.one,Eff.appf,srt.H1,renH,ao,hget,AObj.ren,<-hmm];by_cases hn:n=m
  .subst hn;simp
  .have h1:(m==n)=false:=by simpa using λh=>hn h.symm
   have h2:KL.contains n=false:=by
    rw[<-Fw,DQ,aw];exact hn
   simp only[h1,AM,h2,hn,Bp,AO]
 have z:=ai _ Q;have Z:=hW.obj _ _ Q;have ay:=λG=>hW.loc m _ G Q
 cases hρ:S.ρ m with
 |none=>
  rw[hρ] at z Z;simp only[objc] at Z;have ha:a=[]:=by simpa using Z.2
  subst ha;simp only at z;rw[z,II (by decide)];refine (AnyF.slices_SortFunc_none Tryz.sortPl none 0 (.func (.func 160) #[] #[]) S.w).mono ?_;rintro e w' ⟨rfl,rfl⟩;refine fin S.w (JI Q (λl hl=>by rw[hρ] at hl;cases hl) rfl rfl) (λ_=> ?_);rw[hρ];exact⟨Bj _,rfl⟩
 |some G=>
  rw[hρ] at z Z;simp only[objc,AObj.len] at Z z;obtain⟨g1,g2,cv,g3,g4,g5⟩:=Z;obtain⟨an,bn⟩:=ay G hρ;rw[SE] at g5;obtain⟨a9,g5⟩:=g5;simp only[Dz] at g1 g2 z;have O:S.w.heap[G.b]? =some (.cells cv 137 (0,0)):=g3;have bm:G.p+a.length*3<=cv.size:=by omega
  have hF:(flatK encP 3 a.toArray).size=a.length*3:=by simp
  have hget: ∀j,j<a.length*3->cv[G.p+j]? =some ((flatK encP 3 a.toArray)[j]!):=by
   intro j hj;have h1:(cv.toList.drop G.p)[j]? =(flP a++a9)[j]? :=by rw[g5]
   rw[Eg,Dx,Ci (by rw[flP_len];exact hj),<-Xk,Dx] at h1;rw[h1,EA (by rw[hF];exact hj),getElem!_pos _ _ (by rw[hF];exact hj)]
  have hH:HoldsK encP 3 S.w G.b G.p a.toArray:=by
   intro j hj;rw[hF] at hj;refine⟨?_,?_⟩
   .simp only[World.cell?,O,J6,B1,Bp,id];exact hget j hj
   .simp only[World.frozen?,O];simp
  have hc:=AnyQ.slices_SortFunc Tryz.sortPl 3 Tryz.isAgg137 Tryz.sizeOf137 encP (λ_=>rfl) (λx v hv=>by simp[encP] at hv;rcases hv with rfl|rfl|rfl<;>rfl) cfP swoP 160 #[] G.b G.p G.cap a.toArray S.w
   (Oz (FW (by kernel_rfl))) (λm os dk hs x y=>Tryz.cmpPlaced90 _ _ _ _ _ _ _) hH an (by simp only[Gg,LIM] at g1⊢;omega)
  rw[z,II (by decide)];refine hc.mono ?_;rintro e w' ⟨rfl,d',n,os,af,as,rfl⟩;have a0:d'.size=a.length:=af.1;have be:d'.toList=Cp a:=by
   refine OO az ?_ ?_
   .have:=af.2.2
    rwa [show d'.extract 0 a.toArray.size=d' by rw[Gg,<-a0];exact PC,show a.toArray.extract 0 a.toArray.size=a.toArray from PC] at this
   .rw[R1];intro i j hi hj bf
    have:=as i j (Bj _) bf (by rw[Gg,<-a0];simpa using hj)
    rw[Rq,getElem!_pos d' i (by simpa using hi),getElem!_pos d' j (by simpa using hj)] at this;simpa using this
  obtain rfl:d'=(Cp a).toArray:=by apply Gh;rw[be]
  have ah:(flatK encP 3 (Cp a).toArray).size=a.length*3:=by simp[aq]
  have am:(flatK encP 3 (Cp a).toArray).toList.length=a.length*3:=by rw[Cm,ah]
  have ag:S.w.heap.size<=(sortWorldK encP 3 S.w G.b G.p n (Cp a).toArray os).heap.size:=by
   simp[sortWorldK,grow,putRowK,Sort.ahead]
  have hb: ∀b,b<S.w.heap.size->(sortWorldK encP 3 S.w G.b G.p n (Cp a).toArray os).heap[b]? =if G.b=b then S.w.heap[b]?.map (onCells (putCells id G.p (flatK encP 3 (Cp a).toArray))) else S.w.heap[b]? :=by
   intro b hb;have e0:b<(putRowK encP 3 (Sort.ahead S.w n) G.b G.p (Cp a).toArray).heap.size:=by simpa[putRowK,Sort.ahead] using hb
   simp only[sortWorldK,grow];rw[UQ e0];simp only[putRowK,putRow,mapBlock,Sort.ahead,UY]
  refine fin _ ⟨rfl,rfl,rfl,ag,?_,.inl (by simp),?_,?_,?_⟩ ?_
  .intro b bc bd;rw[hb b bc,Ab (bd m _ G (by simp) Q hρ)]
  .intro lo ax;rw[hρ] at ax;obtain rfl:=Al ax;exact⟨CY an ag,.inr ⟨m,_,G,by simp,Q,hρ,rfl⟩⟩
  .intro f hf;rw[Q] at hf;obtain rfl:=Al hf;exact⟨rfl,rfl,by simp[AObj.len,aq]⟩
  .intro n' f _ ab;rw[Q] at ab;cases ab
  .intro _;rw[hρ];simp only[objc,Dz,aq];refine⟨g1,g2,putCells id G.p (flatK encP 3 (Cp a).toArray) cv,?_,by simpa[putCells] using g4,?_⟩
   .simp only[Env.one,Env.hp];rw[hb G.b an,Af rfl,O];rfl
   .rw[SE];refine⟨(cv.toList.drop (G.p+a.length*3)),?_⟩;apply EY;intro t;rw[Eg,Dx,putCells,XY,ah,<-Xk];by_cases ht:t<a.length*3
    .rw[Ci (by rw[am];exact ht),Dx,EA (show G.p+t<cv.size by omega),EA (by rw[ah];exact ht)];simp only[Bw,id];rw[Af ⟨by omega,by omega⟩,P3,getElem!_pos _ _ (by rw[ah];exact ht)]
    .rw[C8 (by rw[am];omega),am,Eg,Dx,show G.p+a.length*3+(t - a.length*3)=G.p+t by omega];cases cv[G.p+t]? with
     |none=>rfl
     |some x=>simp only[Bw];rw[Ab (by omega)]
end Go.Ae
namespace Go.Ae
open Go.Proofs
def asmOf.fv(a:(List Ad)):Asm:=(λl=>⟨Cp l⟩) a
def asmOf.row:Row:=vK (b1 (qS Ad.d_le Ad.c_n)) (rA Asm.d_le) (λa=>(a.map Ad.At).Nodup/\a.length<=1000000) asmOf.fv
def asmOf.q:=vKq (R:=asmOf.row) rfl
def asmOf.ok:Ak Tryz.prog 111 asmOf.row:=by
 refine vw (tC clonC.ok (tC srt.ok tN)) Tryz.func111 rfl (by kernel_rfl) ?_;intro a z;simp only[Tryz.f111];simp(disch:=omega)only[ZA,simprocAttr,asmOf.fv];refine orow.os a [] z.2 (λj=>by simp[domB,hget]) rfl rfl ?_ ?_
 .simp(disch:=omega)only[ZA,simprocAttr,clonC.ca,Bu]
 simp(disch:=omega)only[ZA,simprocAttr,clonC.H1];refine orow.os a [1] z.1 (λj=> ?_) rfl rfl ?_ ?_
 .simp only[domB,srt.H0,hget];by_cases G:j=0
  .subst G;simp
  .have:(0==j)=false:=by simpa using λh=>G h.symm
   rw[this];simp;omega
 .simp(disch:=omega)only[ZA,simprocAttr,srt.ca,srt.H0,Bu];exact⟨rfl,rfl⟩
 simp(disch:=omega)only[ZA,simprocAttr,Asm.d,srt.H1,B8]
def mkPl(q:Aa×Int):Ad:=⟨q.1,q.2⟩
def repM1(m:Sim)(t:List (Aa×Int))(x:Ad):Option (List (Aa×Int)):=
 if (m.Labels[x.Tile.toNat]?.getD 0)<0 then some t
 else if (lkP t (KH x.At m.Scale).1).getD (m.Labels[x.Tile.toNat]?.getD 0)≠(m.Labels[x.Tile.toNat]?.getD 0) then none
 else some (updP t (KH x.At m.Scale).1 (m.Labels[x.Tile.toNat]?.getD 0))
def find_perm{l l':List Ad}(hp:l.Perm l')(hd:(l'.map Ad.At).Nodup)(p:Aa):l.find? (λx=>decide (x.At=p))=l'.find? (λx=>decide (x.At=p)):=by
 cases h1:l.find? (λx=>decide (x.At=p)) with
 |none=>
  symm;rw[J3] at h1⊢;exact λx O=>h1 x (hp.mem_iff.2 O)
 |some x=>
  have O:=hp.mem_iff.1 (M2 h1);have z:=Hl h1;cases h2:l'.find? (λx=>decide (x.At=p)) with
  |none=>
   rw[J3] at h2;exact absurd z (h2 x O)
  |some y=>
   have Q:=M2 h2;have G:=Hl h2;rw[at_inj hd O Q];rw[AP] at z G;rw[z,G]
def lk_find(p:Aa): ∀(t:List (Aa×Int)),(((t.map mkPl).find? (λx=>decide (x.At=p))).map Ad.Tile)=lkP t p
 |[]=>rfl
 |(k,w)::r=>by
  simp only[Ay,RH,mkPl,lkP];by_cases h:k=p
  .subst h;simp
  .have z:decide (k=p)=false:=by simpa using h
   have G: ¬p=k:=λO=>h O.symm
   rw[z,Ab G];exact lk_find p r
def HK(t:List (Aa×Int)):(t.map mkPl).map Ad.At=t.map Prod.fst:=by simp[mkPl]
def lk_at{t:List (Aa×Int)}(hd:(t.map Prod.fst).Nodup)(p:Aa):atA ⟨Cp (t.map mkPl)⟩ p=(lkP t p).getD (-1):=by
 have z:((t.map mkPl).map Ad.At).Nodup:=by rw[HK];exact hd
 simp only[atA];rw[find_perm (IY _) z,lk_find]
def Mj{t:List (Aa×Int)}{p:Aa}(v:Int)(h:lkP t p=none):updP t p v=t++[(p,v)]:=by
 induction t with
 |nil=>rfl
 |cons q r ih=>
  obtain⟨k,w⟩:=q;simp only[lkP] at h;split at h
  .cases h
  .rename_i hn;simp only[updP,Ab hn,Bv];rw[ih h]
def updP_same{t:List (Aa×Int)}{p:Aa}{v:Int}(h:lkP t p=some v):updP t p v=t:=by
 induction t with
 |nil=>cases h
 |cons q r ih=>
  obtain⟨k,w⟩:=q;simp only[lkP] at h;simp only[updP];split at h
  .rename_i z;obtain rfl:=Al h;rw[Af z,z]
  .rename_i hn;rw[Ab hn,ih h]
def UM{t:List (Aa×Int)}{p:Aa}(h:lkP t p=none):p∉t.map Prod.fst:=by
 induction t with
 |nil=>simp
 |cons q r ih=>
  obtain⟨k,w⟩:=q;simp only[lkP] at h;split at h
  .cases h
  .rename_i hn;simp only[Ay,A9,JE];exact⟨hn,ih h⟩
def HJ{t:List (Aa×Int)}{p:Aa}{v:Int}(h:lkP t p=some v):(p,v)∈t:=by
 induction t with
 |nil=>cases h
 |cons q r ih=>
  obtain⟨k,w⟩:=q;simp only[lkP] at h;split at h
  .rename_i z;obtain rfl:=Al h;rw[z];exact AU ..
  .exact AX _ (ih h)
structure RM(t:List (Aa×Int))(o:Asm)(k:Nat):Prop where
 nd:(t.map Prod.fst).Nodup
 pos: ∀q∈t,0<=q.2
 eq:o=⟨Cp (t.map mkPl)⟩
 len:t.length<=k
def RM.step{m:Sim}{t:List (Aa×Int)}{o:Asm}{k:Nat}(h:RM t o k)(x:Ad):(∃t' o',repM1 m t x=some t'/\repS1 m o x=some o'/\RM t' o' (k+1))\/(repM1 m t x=none/\repS1 m o x=none):=by
 obtain⟨nd,pos,rfl,len⟩:=h;simp only[repM1,repS1];generalize m.Labels[x.Tile.toNat]?.getD 0=n;generalize (KH x.At m.Scale).1=p;by_cases c1:n<0
 .rw[Af c1,Af c1];exact .inl ⟨_,_,rfl,rfl,nd,pos,rfl,by omega⟩
 rw[Ab c1,Ab c1,lk_at nd];cases hq:lkP t p with
 |none=>
  simp only[Option.getD_none];rw[Ab (by simp),Ab (by omega),Af (by omega)];refine .inl ⟨_,_,rfl,rfl,?_,?_,?_,?_⟩
  .rw[Mj n hq,Di,H9];refine⟨nd,by simp,?_⟩;intro a Q b hb z;simp only[Ay,D2,AO] at hb;exact UM hq (by rw[<-hb,<-z];exact Q)
  .intro q G;rw[Mj n hq] at G;rcases AG.1 G with G|G
   .exact pos q G
   .simp only[AO] at G;subst G;simp only;omega
  .rw[IB,Mj n hq];congr 1;have Z:(((t++[(p,n)]).map mkPl).map Ad.At).Nodup:=by
    rw[HK,Di,H9];refine⟨nd,by simp,?_⟩;intro a Q b hb z;simp only[Ay,D2,AO] at hb;exact UM hq (by rw[<-hb,<-z];exact Q)
   refine OO Z ?_ (Ri ⟨p,n⟩ _ (OQ _));refine (Mn ⟨p,n⟩ _).trans ?_;rw[Di];refine ((IY _).cons _).trans ?_;exact (Yi _ _).symm
  .rw[Mj n hq];simp;omega
 |some v=>
  simp only[Ao];have hv:=pos _ (HJ hq);simp only at hv;by_cases O:v=n
  .subst O;rw[Ab (by simp),Ab (by simp),Ab (by omega),updP_same hq];exact .inl ⟨_,_,rfl,rfl,nd,pos,rfl,by omega⟩
  .rw[Af O,Af ⟨hv,O⟩];exact .inr ⟨rfl,rfl⟩
def nodup_at{l:List Ad}(h:(l.map Ad.At).Nodup): ∀x∈l,∀y∈l,x.At=y.At->x=y:=by
 induction l with
 |nil=>intro x Q;cases Q
 |cons z r ih=>
  simp only[Ay,Ed] at h;intro x Q y hy e;rcases A9.1 Q with ex|G<;>rcases A9.1 hy with Z|O
  .rw[ex,Z]
  .exact absurd (AF.2 ⟨y,O,by rw[<-e,ex]⟩) h.1
  .exact absurd (AF.2 ⟨x,G,by rw[e,Z]⟩) h.1
  .exact ih h.2 x G y O e
def FN{s:Aj}{a:Asm}(h: ∀x∈a.Tiles,CI s x.Tile)(p:Aa):AA (λx=>decide (x.At=p)) 0 a.Tiles<0↔atA a p<0:=by
 simp only[atA];rcases GR (λx=>decide (x.At=p)) a.Tiles 0 with ⟨z,G⟩|⟨i,x,z,G,O⟩
 .rw[z,G];simp
 .rw[z,G]
  have:=(h x (Ax O)).1
  simp only[Bw,Ao];omega
def RM.put{t:List (Aa×Int)}{o:Asm}{k:Nat}(h:RM t o k){p:Aa}{v:Int}(hv:0<=v)(hn:lkP t p=none):RM (updP t p v) (putA o p v) (k+1):=by
 obtain⟨nd,pos,rfl,len⟩:=h;have G:((t++[(p,v)]).map Prod.fst).Nodup:=by
  rw[Di,H9];refine⟨nd,by simp,?_⟩;intro a Z b hb O;simp only[Ay,D2,AO] at hb;exact UM hn (by rw[<-hb,<-O];exact Z)
 rw[Mj v hn];refine⟨G,?_,?_,by simp;omega⟩
 .intro q z;rcases AG.1 z with z|z
  .exact pos q z
  .simp only[AO] at z;subst z;exact hv
 .rw[IB];congr 1;have Q:(((t++[(p,v)]).map mkPl).map Ad.At).Nodup:=by rw[HK];exact G
  refine OO Q ?_ (Ri ⟨p,v⟩ _ (OQ _));refine (Mn ⟨p,v⟩ _).trans ?_;rw[Di];refine ((IY _).cons _).trans ?_;exact (Yi _ _).symm
def RM.at{t:List (Aa×Int)}{o:Asm}{k:Nat}(h:RM t o k):Bf t=atA o:=by
 funext p;rw[h.eq,lk_at h.nd];rfl
def RM.size{t:List (Aa×Int)}{o:Asm}{k:Nat}(h:RM t o k):o.Tiles.length=t.length:=by
 rw[h.eq];simp only[Na,Dz]
def MY: ∀(l t:List Ad),((t++l).map Ad.At).Nodup->l.foldl (λu x=>updP u x.At x.Tile) (t.map λx=>(x.At,x.Tile))=(t++l).map λx=>(x.At,x.Tile)
 |[],t,_=>by simp
 |x::r,t,h=>by
  have O:lkP (t.map λx=>(x.At,x.Tile)) x.At=none:=by
   cases hq:lkP (t.map λx=>(x.At,x.Tile)) x.At with
   |none=>rfl
   |some v=>
    exfalso;obtain⟨y,Q,G⟩:=AF.1 (HJ hq);have z:y.At=x.At:=Bx Prod.fst G;rw[Di,H9] at h;exact h.2.2 _ (PB Q) _ (PB (AU ..)) z
  rw[L9,Mj _ O]
  have:=MY r (t++[x]) (by simpa using h)
  simpa using this
def RM.of{a:Asm}(hf:B2 none a.Tiles=true)(hp: ∀x∈a.Tiles,0<=x.Tile):RM (tlUp a.Tiles) a a.Tiles.length:=by
 have hn:=V1 hf;have e:tlUp a.Tiles=a.Tiles.map λx=>(x.At,x.Tile):=by
  have:=MY a.Tiles [] (by simpa using hn)
  simpa[tlUp] using this
 have G:(a.Tiles.map λx=>(x.At,x.Tile)).map mkPl=a.Tiles:=by
  rw[Hj];exact List.map_id' _
 rw[e];refine⟨by rw[Hj];exact hn,?_,?_,by simp⟩
 .intro q hq;obtain⟨x,hx,rfl⟩:=AF.1 hq;exact hp x hx
 .rw[G];have Z:=(LH _ _ hf).2;have hw:a.Tiles.Pairwise (λx y=>AB y.At x.At=false):=by
   rw[R1];intro i j O Q z
   have:=Z i j a.Tiles[i] a.Tiles[j] z (A8 O) (A8 Q)
   simp only[AB] at this⊢
   grind
  rw[<-OO hn (LB _) hw]
def fit_at{s:Ah}{a:Asm}(h:BR s.Set a)(o:Opt):(AE o.Tile 0 (s.Set.Tiles.length - 1) && Eb s (atA a) o.At o.Tile)=canS s a o:=by
 have z:decide (atA a o.At<0)=decide (AA (λx=>decide (x.At=o.At)) 0 a.Tiles<0):=by rw[decide_eq_decide];exact (FN h.2 o.At).symm
 simp only[Eb,canS,HT];rw[z];cases Cg o.At<;>cases AE o.Tile 0 (s.Set.Tiles.length - 1)<;>simp
def CP(s:Ah):List (Aa×Int)->List Opt->Nat->Asm×Int×Int
 |t,[],_=>(⟨Cp (t.map mkPl)⟩,0,0)
 |t,o::r,i=>if (AE o.Tile 0 (s.Set.Tiles.length - 1) && Eb s (Bf t) o.At o.Tile)=false then (⟨[]⟩,(i:Int),5) else if 500<=t.length then (⟨[]⟩,0,4) else CP s (updP t o.At o.Tile) r (i+1)
def Bq(s:Ah):Asm->List Opt->Nat->Asm×Int×Int
 |a,[],_=>(a,0,0)
 |a,o::r,i=>if canS s a o=false then (⟨[]⟩,(i:Int),5) else if 500<=a.Tiles.length then (⟨[]⟩,0,4) else Bq s (putA a o.At o.Tile) r (i+1)
def MZ{s:Ah}(hs:s.Set.Tiles.length<=160): ∀(l:List Opt) (t:List (Aa×Int)) (a:Asm) (k i:Nat),RM t a k->BR s.Set a->CP s t l i=Bq s a l i
 |[],t,a,k,i,h,_=>by simp only[CP,Bq,h.eq]
 |o::r,t,a,k,i,h,O=>by
  simp only[CP,Bq];rw[h.at,fit_at O,<-h.size];by_cases c1:canS s a o=false
  .rw[Af c1,Af c1]
  rw[Ab c1,Ab c1];by_cases z:500<=a.Tiles.length
  .rw[Af z,Af z]
  rw[Ab z,Ab z];rw[CN] at c1;simp only[canS,Av,AP] at c1;obtain⟨d1,G,d3,_⟩:=c1;have aa:=SP d3;have hv:0<=o.Tile:=by
   simp only[AE,Av,AP] at G;exact G.1
  have Z:lkP t o.At=none:=by
   have h1:Bf t o.At=atA a o.At:=congrFun h.at o.At;have h2:=(FN O.2 o.At).1 d3;cases hq:lkP t o.At with
   |none=>rfl
   |some v=>
    exfalso;have h3:=h.pos _ (HJ hq);simp only[Bf,hq,Ao] at h1;simp only at h3;omega
  have hw:AE o.Tile 0 159=true:=by
   simp only[AE,Av,AP] at G⊢;omega
  refine MZ hs r _ _ (k+1) (i+1) (h.put hv Z) ⟨?_,?_⟩
  .rw[IB];exact SA d1 hw _ none O.1 (λq hq=>by cases hq) aa
  .intro x Q;rw[IB] at Q;rcases (OK _ _ _ _).1 Q with rfl|Q
   .simp only[AE,Av,AP] at G;exact⟨hv,by simp only;omega⟩
   .exact O.2 x Q
def eqOption.fv(a:Opt×Opt):Bool:=(λa b=>decide (a=b)) (a.1) (a.2)
def eqOption.row:Row:=vK (b2 (qR Opt.d_le) (qR Opt.d_le)) rB (λa=>True) eqOption.fv
def eqOption.q:=vKq (R:=eqOption.row) rfl
def eqOption.ok:Ak Tryz.prog 57 eqOption.row:=by
 refine vw (tC eqPoint.ok tN) Tryz.func57 rfl (by kernel_rfl) ?_;intro a G;simp only[Tryz.f57];simp(disch:=omega)only[ZA,simprocAttr,eqOption.fv,eqPoint.q,eqPoint.fv];obtain⟨⟨⟨x,y⟩,u⟩,⟨⟨z,w⟩,v⟩⟩:=a;simp only[Opt.mk.injEq,Aa.mk.injEq]
 grind
def l03Own.fv(a:Asm):Asm:=(λa=>a) a
def l03Own.row:Row:=vK (b1 (qP 1 Asm.d_le)) (rA Asm.d_le) (λa=>a.Tiles.length<=1000000) l03Own.fv
def l03Own.q:=vKq (R:=l03Own.row) rfl
def l03Own.ok:Ak Tryz.prog 72 l03Own.row:=by
 refine vw tN Tryz.func72 rfl (by kernel_rfl) ?_;intro a z;simp only[Tryz.f72];simp(disch:=omega)only[ZA,simprocAttr,Asm.d,l03Own.fv];exact⟨by simp[OneR,allD,D.one,Ad.c],by omega⟩
def Sh{s:Ah}{l:List Opt}{i:Nat}{o:Opt}(z:l[i]? =some o)(b:Asm):Bq s b (l.drop i) i=if canS s b o=false then (⟨[]⟩,(i:Int),5) else if 500<=b.Tiles.length then (⟨[]⟩,0,4) else Bq s (putA b o.At o.Tile) (l.drop (i+1)) (i+1):=by
 rw[Cw z,Bq]
def GH{s:Ah}{b:Asm}(hs:s.Set.Tiles.length<=160)(Q:BR s.Set b){o:Opt}(h:canS s b o=true):BR s.Set (putA b o.At o.Tile):=by
 simp only[canS,Av,AP] at h;obtain⟨Z,O,d3,_⟩:=h;have G:=SP d3;have hw:AE o.Tile 0 159=true:=by
  simp only[AE,Av,AP] at O⊢;omega
 refine⟨?_,?_⟩
 .rw[IB];exact SA Z hw _ none Q.1 (λq hq=>by cases hq) G
 .intro x z;rw[IB] at z;rcases (OK _ _ _ _).1 z with rfl|z
  .simp only[AE,Av,AP] at O;exact⟨by simp only;omega,by simp only;omega⟩
  .exact Q.2 x z
def l08Play.fv(a:Ah×(List Opt)):Asm×Int×Int:=(λs l=>Bq s s.Seed l 0) (a.1) (a.2)
def l08Play.row:Row:=vK (b2 (qP 4 Ah.d_le) (qS Opt.d_le Opt.c_n)) (r3 (rA Asm.d_le) rI rI) (λa=>setP a.1.Set/\BR a.1.Set a.1.Seed/\a.1.Set.Tiles.length<=160/\a.1.Seed.Tiles.length<=1000000) l08Play.fv
def l08Play.q:=vKq (R:=l08Play.row) rfl
def l08Play.ok:Ak Tryz.prog 120 l08Play.row:=by
 refine vw (tC l03Own.ok (tC l08Can.ok (tC l08Attach.ok tN))) Tryz.func120 rfl (by kernel_rfl) ?_;intro a G;simp only[Tryz.f120];simp(disch:=omega)only[ZA,simprocAttr,Asm.d,l08Play.fv,l03Own.q,l03Own.fv];obtain⟨s,l⟩:=a;simp only at G⊢;obtain⟨h1,h2,h3,h4⟩:=G;refine⟨h4,?_⟩;refine Au.old ⟨{k:Nat×Asm//k.1<=l.length/\BR s.Set k.2/\Bq s s.Seed l 0=Bq s k.2 (l.drop k.1) k.1},λk=>⟨[(8,.im (.int .i64 k.1.1)),(7,.ptr 2 0),(6,.im (.int .i64 0)),(5,.im (.int .i64 0)),(4,.ptr 1 0),(0,.ptr 0 0),(1,.im (.sl false 3 (l.map Opt.c)))],[(2,(true,.cells 39 [.im (.sl false 3 (k.1.2.Tiles.map Ad.c))])),(1,(true,.cells 39 [.im (.sl true 0 [])])),(0,(false,.view (Ah.c s)))],3⟩,λk=>l.length - k.1.1,λk=>⟨by simp[Ac.good,belT,belH,Ai,AV.bel,belL],Ar _⟩,⟨⟨(0,s.Seed),by simp[h2]⟩,by simp(disch:=omega)only[ZA,simprocAttr,sub]⟩,λk=> ?_⟩;obtain⟨⟨k,b⟩,aa,O,z⟩:=k;simp only at aa O z;simp(disch:=omega)only[ZA,simprocAttr,Asm.d,l08Can.q,l08Can.fv,l08Attach.q,l08Attach.fv,sub,Aq];intro hn;refine⟨λZ=>⟨Z,λx hx=>⟨⟨h1,O⟩,?_⟩⟩,λZ=> ?_⟩
 .rw[Sh hx] at z;have e:(Cg x.At && (AE x.Tile 0 ((s.Set.Tiles.length:Int) - 1) && (decide (AA (λy=>decide (y.At=x.At)) 0 b.Tiles<0) && decide (s.Temperature<=E6 s.Set b x.At x.Tile 4))))=canS s b x:=rfl;simp only[e];refine⟨λc1=> ?_,λc1=>⟨Z,λy hy=> ?_⟩⟩
  .rw[z,Af c1]
  obtain rfl:x=y:=Al (hx.symm.trans hy);rw[Ab c1] at z;by_cases Q:500<=b.Tiles.length
  .have q:attA b x=(⟨[]⟩,4):=Af Q;rw[q,z,Af Q];exact⟨λ_=>rfl,λh=>(h (by decide)).elim⟩
  .have q:attA b x=(putA b x.At x.Tile,0):=Ab Q;rw[q];rw[Ab Q] at z;rw[CN] at c1;exact⟨λh=>(h rfl).elim,λ_=>⟨⟨(k+1,putA b x.At x.Tile),by simp only;omega,GH h3 O c1,z⟩,by simp only;omega,by rw[Am (by omega) (by omega)];simp only;omega,rfl⟩⟩
 .rw[z,B9 (by omega),Bq]
def seqS(s:Ah)(l:List Opt):Asm×Int×Int:=if C7 s=false then (⟨[]⟩,0,1) else if 500<l.length then (⟨[]⟩,0,2) else Bq s s.Seed l 0
def DE{s:Ah}(h:C7 s=true):(setP s.Set/\BR s.Set s.Seed/\s.Set.Tiles.length<=160/\s.Seed.Tiles.length<=1000000)/\C5 s.Set=true/\EN s.Set s.Seed=true:=by
 simp only[C7,Av] at h;obtain⟨z,G,_⟩:=h;have O:=IZ G;have Q:=St z;have Z:=z;simp only[C5,AE,Av,AP] at Z;exact⟨⟨Q,O.1,by omega,by omega⟩,z,G⟩
def seq_ok{s:Ah}{l:List Opt}(h:(seqS s l).2.2=0):C7 s=true/\l.length<=500:=by
 simp only[seqS] at h;split at h
 .simp at h
 rename_i c1;split at h
 .simp at h
 .rw[CN] at c1;exact⟨c1,by omega⟩
def Rh{A B:Type}(f:A->B): ∀(l:List A) (i:Nat),(l.map f).eraseIdx i=(l.eraseIdx i).map f
 |[],_=>rfl
 |_::_,0=>rfl
 |x::r,i+1=>by simp only[Ay,P2,Rh f r i]
def Tu{A:Type}: ∀(l:List A) (i:Nat) (x:A),l[i]? =some x->(x::l.eraseIdx i).Perm l
 |[],i,x,h=>by simp at h
 |y::r,0,x,h=>by
  simp only[De,An] at h;subst h;exact LB _
 |y::r,i+1,x,h=>by
  rw[DP] at h;rw[P2];exact (List.Perm.swap y x _).trans ((Tu r i x h).cons y)
def putT(c:Cry)(p:Aa)(t:Int):Cry:=⟨c.Sys,updP c.Tl p t,CW c.Sys (Bf (updP c.Tl p t)) (delP c.Op p) p 4⟩
def putT_in{s:Aj}{t:List (Aa×Int)}{p:Aa}{v:Int}(h:inF s (Bf t))(z:CI s v):inF s (Bf (updP t p v)):=by
 intro q hq;simp only[Bf,Mu] at hq⊢;by_cases c:q=p
 .rw[Af c];exact z
 .rw[Ab c] at hq⊢;exact h q hq
def putC.ca(a:Cry×Aa×Int):List AV:=[.ptr 0 0,.im (.agg [.int .i64 a.2.1.X,.int .i64 a.2.1.Y]),.im (.int .i64 a.2.2)]
def putC.H1(a:Cry×Aa×Int):Ag:=[(1,(true,.map ⟨true,[.int .i64,.int .i64]⟩ ((putT a.1 a.2.1 a.2.2).Tl.map BO))),(2,(true,.map ⟨true,[.int .i64,.int .i64]⟩ ((putT a.1 a.2.1 a.2.2).Op.map Br)))]
def kl12(j:Nat):Bool:=j==1||j==2
def putC.row:Row:=orow putC.ca (λa=>cryH a.1) 3 (λa=>FF a.1/\CE a.2.1/\CI a.1.Sys.Set a.2.2) kl12 (λ_=> .im (.tup [])) putC.H1 0
def putC.ok:Ak Tryz.prog 156 putC.row:=by
 refine ow (tC lookC.ok tN) Tryz.func156 rfl (by kernel_rfl) (exB:=λ_=>false) (R:=λ_ r=>r= .im (.tup [])) (λ_=>rfl)
  (λa=>by simp[putC.ca,cryH,AW,belL,AV.bel,belH,Ai,AT,AObj.nms,nmsL,AV.nms,domB,hget]) (λa p hp=> ?_) (λa r h=>by subst h;exact LeV.refl _) ?_
 rotate_left
 intro a G;simp only[Tryz.f156,putC.ca,cryH,AW,putC.H1];simp(disch:=omega)only[ZA,simprocAttr];obtain⟨z,O,Q⟩:=G;rw[upd_pi,del_ps];have hq:FF ⟨a.1.Sys,updP a.1.Tl a.2.1 a.2.2,delP a.1.Op a.2.1⟩:=⟨z.1,putT_in z.2.1 Q,z.2.2⟩;refine orow.os (⟨a.1.Sys,updP a.1.Tl a.2.1 a.2.2,delP a.1.Op a.2.1⟩,a.2.1) [0,1,2] ⟨hq,O⟩ (λj=>CO _ j) rfl rfl ?_ ?_
 .simp(disch:=omega)only[ZA,simprocAttr,ORB,cryH,AW,lookC.ca,cryH,AW]
 .simp(disch:=omega)only[ZA,simprocAttr,ORB,kl12,lookC.H1,kl2,putT]
 simp[putC.H1] at hp;rcases hp with rfl|rfl
 .exact .inl ⟨by omega,rfl,rfl⟩
 .exact .inl ⟨by omega,rfl,rfl⟩
def asmC.ca(_:Cry):List AV:=[.ptr 0 0]
def asmC.H1(a:Cry):Ag:=[(1,(false,.map ⟨true,[.int .i64,.int .i64]⟩ (a.Tl.map BO)))]
def klA(j:Nat):Bool:=j==1
def Od{t:List (Aa×Int)}{l:List Ad}(hd:(t.map Prod.fst).Nodup)(h:l.Perm (t.map mkPl)):Cp l=Cp (t.map mkPl)/\(l.map Ad.At).Nodup/\l.length=t.length:=by
 have z:((t.map mkPl).map Ad.At).Nodup:=by rw[HK];exact hd
 refine⟨OO z ((IY l).trans h) (OQ l),(h.map Ad.At).nodup_iff.2 z,by rw[h.length_eq,Dz]⟩
def asmT(t:List (Aa×Int)):Asm:=⟨Cp (t.map mkPl)⟩
def asmC.row:Row:=orow asmC.ca cryH 3 (λa=>(a.Tl.map Prod.fst).Nodup/\a.Tl.length<=100000) klA (λa=> .im (.agg (Asm.c (asmT a.Tl)))) asmC.H1 0
def asmC.ok:Ak Tryz.prog 56 asmC.row:=by
 refine ow (tC asmOf.ok tN) Tryz.func56 rfl (by kernel_rfl) (exB:=λ_=>false) (R:=λa r=>r= .im (.agg (Asm.c (asmT a.Tl)))) (λ_=>rfl)
  (λa=>by simp[asmC.ca,cryH,AW,belL,AV.bel,belH,Ai,AT,AObj.nms,nmsL,AV.nms,domB,hget]) (λa p hp=> ?_) (λa r h=>by subst h;exact LeV.refl _) ?_
 rotate_left
 intro a G;simp only[Tryz.f56,asmC.ca,cryH,AW,asmC.H1];simp(disch:=omega)only[ZA,simprocAttr];obtain⟨ab,af⟩:=G;refine Au.ren ⟨{s:Option (D×D)×List (Aa×Int)×List Ad//(s.2.2++s.2.1.map mkPl).Perm (a.Tl.map mkPl)},λs=>⟨[(10,.it 5),(3,.own 6),(2,.ptr 3 0),(0,.ptr 0 0)],[(6,(true,.arr 137 3 (s.1.2.2.map Ad.c))),(5,(true,.iter s.1.1 (s.1.2.1.map BO))),(3,(true,.cells 39 [.im (.sl true 0 [])])),(0,(true,.cells 155 (AW a.Sys))),(1,(false,.map ⟨true,[.int .i64,.int .i64]⟩ (a.Tl.map BO))),(2,(true,.map ⟨true,[.int .i64,.int .i64]⟩ (a.Op.map Br)))],7⟩,λs=>s.1.2.1.length,λs=>⟨by simp[Ac.good,belT,belH,Ai,AV.bel,belL,AW],by simp⟩,⟨⟨(none,a.Tl,[]),by simp⟩,[(6,some 4)],?_⟩,λs=> ?_⟩
 .simp only[subP,AW];simp(disch:=omega)only[ZA,simprocAttr]
  try simp
 obtain⟨⟨ad,left,z⟩,O⟩:=s;simp only at O;simp only[AW];simp(disch:=omega)only[ZA,simprocAttr,asmOf.q,asmOf.fv,klA];refine⟨λhl=> ?_,λi p hp=> ?_⟩
 .have aa:left=[]:=by simpa using hl
  subst aa;rw[D2,BJ] at O;obtain⟨r1,r2,r3⟩:=Od ab O;exact⟨⟨r2,by omega⟩,by simp only[asmT,r1]⟩
 .rw[BI] at hp;cases hq:left[i]? with
  |none=>rw[hq] at hp;cases hp
  |some q=>
   rw[hq] at hp;obtain rfl:=Al hp;obtain⟨⟨Z,qy⟩,Q⟩:=q;simp only[BO,Aa.c];simp(disch:=omega)only[ZA,simprocAttr,ORC,B8,Cn];have hi:i<left.length:=by
    rcases Cz i left.length with h|h
    .exact h
    .rw[CH h] at hq;cases hq
   have ac:((⟨Z,qy⟩,Q)::left.eraseIdx i).Perm left:=Tu _ _ _ hq;have hP:((z++[(⟨⟨Z,qy⟩,Q⟩:Ad)])++(left.eraseIdx i).map mkPl).Perm (a.Tl.map mkPl):=by
    rw[DA];refine (Ya z ?_).trans O;exact ac.map mkPl
   have hcl:z.length<=a.Tl.length:=by
    have r3:=O.length_eq;simp at r3;omega
   refine⟨by omega,⟨⟨(some (D.agg [.int .i64 Z,.int .i64 qy],D.int .i64 Q),left.eraseIdx i,z++[(⟨⟨Z,qy⟩,Q⟩:Ad)]),hP⟩,[(6,some 9)],?_,?_⟩⟩
   .simp only[Vj];rw[Af hi];omega
   .simp only[subP];simp(disch:=omega)only[ZA,simprocAttr];simp[Ad.c,Rh]
 simp[asmC.H1] at hp;subst hp;exact .inl ⟨by omega,rfl,rfl⟩
def seqI(s:Ah)(l:List Opt):Asm×Int×Int:=if KW s=false then (⟨[]⟩,0,1) else if 500<l.length then (⟨[]⟩,0,2) else CP s (tlUp s.Seed.Tiles) l 0
def JG{β:Type}(p:Aa)(v:β): ∀(t:List (Aa×β)),(t.map Prod.fst).Nodup->((updP t p v).map Prod.fst).Nodup/\(∀q,q∈(updP t p v).map Prod.fst->q=p\/q∈t.map Prod.fst)/\(updP t p v).length<=t.length+1
 |[],_=>by simp[updP]
 |(k,w)::r,h=>by
  rw[Ay,Ed] at h;simp only[updP];by_cases c:p=k
  .subst c;rw[Af rfl];refine⟨by rw[Ay,Ed];exact h,λq hq=> .inr hq,by simp⟩
  .rw[Ab c];obtain⟨O,G,Q⟩:=JG p v r h.2;refine⟨?_,?_,by simp only[Bs];omega⟩
   .rw[Ay,Ed];refine⟨λz=> ?_,O⟩;rcases G _ z with z|z
    .exact c z.symm
    .exact h.1 z
   .intro q hq;rw[Ay] at hq⊢;rcases A9.1 hq with rfl|hq
    .exact .inr (AU ..)
    .rcases G _ hq with hq|hq
     .exact .inl hq
     .exact .inr (AX _ hq)
def tlUp_keys(l:List Ad):((tlUp l).map Prod.fst).Nodup/\(tlUp l).length<=l.length:=by
 have z: ∀(l:List Ad) (t:List (Aa×Int)),(t.map Prod.fst).Nodup->((l.foldl (λt x=>updP t x.At x.Tile) t).map Prod.fst).Nodup/\(l.foldl (λt x=>updP t x.At x.Tile) t).length<=t.length+l.length:=by
  intro l;induction l with
  |nil=>intro t h;exact⟨h,by simp⟩
  |cons x r ih=>
   intro t h;obtain⟨G,_,Z⟩:=JG x.At x.Tile t h;obtain⟨O,Q⟩:=ih _ G;exact⟨O,by simp only[L9,Bs] at Q⊢;omega⟩
 have:=z l [] (by simp)
 exact⟨this.1,by simpa[tlUp] using this.2⟩
def Sg{s:Ah}{l:List Opt}{i:Nat}{o:Opt}(z:l[i]? =some o)(t:List (Aa×Int)):CP s t (l.drop i) i=if (AE o.Tile 0 (s.Set.Tiles.length - 1) && Eb s (Bf t) o.At o.Tile)=false then (⟨[]⟩,(i:Int),5) else if 500<=t.length then (⟨[]⟩,0,4) else CP s (updP t o.At o.Tile) (l.drop (i+1)) (i+1):=by
 rw[Cw z,CP]
def PlayI_.fv(a:Ah×(List Opt)):Asm×Int×Int:=(seqI) (a.1) (a.2)
def PlayI_.row:Row:=vK (b2 (qR Ah.d_le) (qS Opt.d_le Opt.c_n)) (r3 (rA Asm.d_le) rI rI) (λa=>GS a.1.Set) PlayI_.fv
def PlayI_.q:=vKq (R:=PlayI_.row) rfl
def PlayI_.ok:Ak Tryz.prog 212 PlayI_.row:=by
 refine vw (tC validI_.ok (tC newC.ok (tC isTile.ok (tC fitsC.ok (tC putC.ok (tC asmC.ok tN)))))) Tryz.func212 rfl (by kernel_rfl) ?_;intro a O;simp only[Tryz.f212];simp(disch:=omega)only[ZA,simprocAttr,Asm.d,rch,PlayI_.fv,validI_.q,validI_.fv];obtain⟨s,l⟩:=a;simp only at O⊢;refine⟨O,?_⟩;by_cases c1:KW s=false
 .rw[Af c1];simp only[seqI];rw[Af c1]
 rw[Ab c1];intro _;by_cases c2:500<l.length
 .rw[Af (by omega)];simp only[seqI];rw[Ab c1,Af c2]
 rw[Ab (by omega)];have eR:seqI s l=CP s (tlUp s.Seed.Tiles) l 0:=by simp only[seqI];rw[Ab c1,Ab c2]
 rw[CN,JH] at c1;obtain⟨⟨q1,q2,q3,_⟩,q5,q6⟩:=DE c1;have af:=OY (s:=s.Set) (a:=s.Seed) (by rw[q5,q6];rfl);have ad:newC.pre (s,s.Seed):=⟨q1,by simp only;omega,λy hy=>⟨q2.2 y hy,af.1.2.2.2 y hy⟩⟩;have ag:=cryOf_pre ad;have ac:=tlUp_keys s.Seed.Tiles;refine orow.os (s,s.Seed) [] ad (λj=>by simp[domB,hget]) rfl rfl ?_ ?_
 .simp(disch:=omega)only[ZA,simprocAttr,newC.ca,Bu,Ah.c,Asm.c]
 simp(disch:=omega)only[ZA,simprocAttr,newC.H1];intro _;refine Au.old ⟨{k:Nat×List (Aa×Int)×List (Aa×List Int)//k.1<=l.length/\inF s.Set (Bf k.2.1)/\(k.2.1.map Prod.fst).Nodup/\k.2.1.length<=1000/\seqI s l=CP s k.2.1 (l.drop k.1) k.1},λk=>⟨[(26,.im (.int .i64 k.1.1)),(25,.im (.int .i64 l.length)),(24,.im (.sl false 3 (l.map Opt.c))),(7,.ptr 6 0),(6,.im (.int .i64 0)),(5,.im (.int .i64 0)),(4,.ptr 1 0),(2,.ptr 0 0)],[(6,(true,.cells 155 [.im (.sl false 2 (s.Set.Glues.map Glue.c)),.im (.sl false 2 (s.Set.Tiles.map Tile.c)),.im (.sl false 3 (s.Seed.Tiles.map Ad.c)),.im (.int .i64 s.Temperature),.mp 4,.mp 5])),
  (4,(true,.map ⟨true,[.int .i64,.int .i64]⟩ (k.1.2.1.map BO))),(5,(true,.map ⟨true,[.int .i64,.int .i64]⟩ (k.1.2.2.map Br))),(1,(true,.cells 39 [.im (.sl true 0 [])])),(0,(true,.cells 47 ((Ah.c s).map .im)))],7⟩,λk=>l.length - k.1.1,λk=>⟨by simp[Ac.good,belT,belH,Ai,AV.bel,belL,Ah.c],by simp⟩,⟨⟨(0,(EW s s.Seed).Tl,(EW s s.Seed).Op),by simp only;exact⟨Bj _,ag.2.1,ac.1,BK ac.2 (by omega),eR⟩⟩,by simp(disch:=omega)only[ZA,simprocAttr,sub]⟩,λk=> ?_⟩
 obtain⟨⟨k,tl,op⟩,ai,G,aa,aj,z⟩:=k;simp only at ai G aa aj z;simp(disch:=omega)only[ZA,simprocAttr,Asm.d,rch,isTile.q,isTile.fv,fitsC.q,fitsC.fv,Aq];refine⟨λhk=>⟨hk,λx hx=> ?_⟩,λhk=> ?_⟩
 .rw[Sg hx] at z;by_cases Q:AE x.Tile 0 ((s.Set.Tiles.length:Int) - 1)=true
  case neg=>
   refine⟨λh=>(Q h).elim,λ_=> ?_⟩;rw[Fw] at Q;rw[z,Q,CA,Af rfl]
  refine⟨λ_=> ?_,λh=>(h Q).elim⟩;have ab:CI s.Set x.Tile:=by
   simp only[AE,Av,AP] at Q;exact⟨Q.1,by omega⟩
  rw[Q,BY] at z;refine⟨⟨q1,G,ab⟩,λZ=> ?_,λZ=>⟨λd3=> ?_,λd3=> ?_⟩⟩
  .rw[z,Af Z]
  .rw[z,Ab Z,Af (by omega)]
  .rw[Ab Z,Ab (by omega)] at z;have ak:CE x.At:=by
    rw[CN] at Z;simp only[Eb,Av] at Z;exact Jo Z.1
   have ah:FF ⟨s,tl,op⟩:=⟨q1,G,by simp only;omega⟩;obtain⟨u1,_,u3⟩:=JG x.At x.Tile tl aa;refine orow.os (⟨s,tl,op⟩,x.At,x.Tile) [6,4,5] ⟨ah,ak,ab⟩ (λj=>CO _ j) rfl rfl ?_ ?_
   .simp(disch:=omega)only[ZA,simprocAttr,putC.ca,cryH,AW,B8,Cn]
   .simp(disch:=omega)only[ZA,simprocAttr,putC.H1,kl12,sub,putT,B8,Cn];exact⟨⟨(k+1,updP tl x.At x.Tile,CW s (Bf (updP tl x.At x.Tile)) (delP op x.At) x.At 4),by simp only;exact⟨by omega,putT_in G ab,u1,by omega,z⟩⟩,by simp only;omega,by rw[Am (by omega) (by omega)];simp only;omega,rfl,rfl⟩
 .rw[B9 (by omega),CP] at z;refine orow.os ⟨s,tl,op⟩ [6,4,5] ⟨aa,by simp only;omega⟩ (λj=>CO _ j) rfl rfl ?_ ?_
  .simp(disch:=omega)only[ZA,simprocAttr,asmC.ca,cryH,AW,B8,Cn]
  .simp(disch:=omega)only[ZA,simprocAttr,Asm.d,asmC.H1,klA,asmT,B8,Cn];rw[z]
end Go.Ae
namespace Go.Ae
end Go.Ae
namespace Go.Ae
open Go.Proofs
def seq_law(s:Ah)(l:List Opt):seqI s l=seqS s l:=by
 simp only[seqI,seqS,JH];by_cases c1:C7 s=false
 .rw[Af c1,Af c1]
 rw[Ab c1,Ab c1];rw[CN] at c1;obtain⟨⟨q1,z,O,_⟩,_⟩:=DE c1;rw[MZ O l (tlUp s.Seed.Tiles) s.Seed s.Seed.Tiles.length 0 (RM.of z.1 (λx G=>(z.2 x G).1)) z]
def BS(s:Aj)(f:Aa->Int)(p:Aa)(t:Int):Nat->Int
 |0=>0
 |k+1=>BS s f p t k+(if 0<CX s f p t k then 2^k else 0)
def Kb(s:Aj)(f:Aa->Int)(p:Aa)(t:Int): ∀k,0<=BS s f p t k/\BS s f p t k<2^k
 |0=>by simp[BS]
 |k+1=>by
  have:=Kb s f p t k
  have e:(2:Int)^(k+1)=2^k*2:=Int.pow_succ ..;simp only[BS]
  split<;>omega
def Aw:Asm->List Opt->Asm
 |b,[]=>b
 |b,o::r=>Aw (putA b o.At o.Tile) r
def HP: ∀(l:List Opt) (b:Asm) (o:Opt),Aw b (l++[o])=putA (Aw b l) o.At o.Tile
 |[],_,_=>rfl
 |x::r,b,o=>by simp only[Bv,Aw,HP r]
def insS(s:Ah):Asm->List Opt->List Int
 |_,[]=>[]
 |b,o::r=>BS s.Set (atA b) o.At o.Tile 4::insS s (putA b o.At o.Tile) r
def smsS(s:Ah):Asm->List Opt->List Int
 |_,[]=>[]
 |b,o::r=>Bl s.Set (atA b) o.At o.Tile 4::smsS s (putA b o.At o.Tile) r
def JL(s:Ah): ∀(l:List Opt) (b:Asm) (o:Opt),insS s b (l++[o])=insS s b l++[BS s.Set (atA (Aw b l)) o.At o.Tile 4]
 |[],_,_=>rfl
 |x::r,b,o=>by simp only[Bv,insS,JL s r,Aw]
def JM(s:Ah): ∀(l:List Opt) (b:Asm) (o:Opt),smsS s b (l++[o])=smsS s b l++[Bl s.Set (atA (Aw b l)) o.At o.Tile 4]
 |[],_,_=>rfl
 |x::r,b,o=>by simp only[Bv,smsS,JM s r,Aw]
def G7(s:Ah): ∀(l:List Opt) (b:Asm),(insS s b l).length=l.length
 |[],_=>rfl
 |x::r,b=>by simp only[insS,Bs,G7 s r]
def G8(s:Ah): ∀(l:List Opt) (b:Asm),(smsS s b l).length=l.length
 |[],_=>rfl
 |x::r,b=>by simp only[smsS,Bs,G8 s r]
def EE(s:Ah)(b:Asm)(l:List Opt):Prop:= ∀k o,l[k]? =some o->canS s (Aw b (l.take k)) o=true/\(Aw b (l.take k)).Tiles.length<500
def Nj{s:Ah}: ∀(l:List Opt) (b:Asm) (i:Nat),(Bq s b l i).2.2=0->Bq s b l i=(Aw b l,0,0)/\EE s b l
 |[],b,i,_=>⟨rfl,λk o h=>by simp at h⟩
 |x::r,b,i,h=>by
  simp only[Bq] at h⊢;by_cases c1:canS s b x=false
  .rw[Af c1] at h;simp at h
  rw[Ab c1] at h⊢;by_cases G:500<=b.Tiles.length
  .rw[Af G] at h;simp at h
  rw[Ab G] at h⊢;obtain⟨O,Q⟩:=Nj r _ _ h;refine⟨O,λk o z=> ?_⟩;cases k with
  |zero=>
   simp only[De,An] at z;subst z;rw[CN] at c1;exact⟨by simpa[Aw] using c1,by simp only[Hm,Aw];omega⟩
  |succ k=>
   rw[DP] at z;simp only[Ft,Aw];exact Q k o z
def EG{s:Ah}(hs:s.Set.Tiles.length<=160){b:Asm}(hb:BR s.Set b){l:List Opt}(h:EE s b l): ∀k,k<=l.length->BR s.Set (Aw b (l.take k))
 |0,_=>by simpa[Aw] using hb
 |k+1,z=>by
  obtain⟨o,ho⟩: ∃o,l[k]? =some o:=⟨_,A8 (by omega)⟩;rw[Fq ho,HP];exact GH hs (EG hs hb h k (by omega)) (h k o ho).1
def Dj{s:Ah}{b:Asm}{o:Opt}(h:canS s b o=true):Cg o.At=true/\CE o.At/\0<=o.Tile/\o.Tile<s.Set.Tiles.length/\CI s.Set o.Tile/\(∀x∈b.Tiles,x.At≠o.At):=by
 simp only[canS,Av,AP] at h;obtain⟨G,z,O,_⟩:=h;simp only[AE,Av,AP] at z;exact⟨G,Jo G,z.1,by omega,⟨z.1,by omega⟩,SP O⟩
def hasI(m d:Int):Bool:=decide (andI .i64 (m.fdiv (2^min d.toNat 64)) 1=1)
def bitN(b:Bool)(k:Nat):Int:=if b=true then 2^k else 0
def has_bits: ∀z b1 b2 b3:Bool,hasI (0+bitN z 0+bitN b1 1+bitN b2 2+bitN b3 3) 0=z/\hasI (0+bitN z 0+bitN b1 1+bitN b2 2+bitN b3 3) 1=b1/\hasI (0+bitN z 0+bitN b1 1+bitN b2 2+bitN b3 3) 2=b2/\hasI (0+bitN z 0+bitN b1 1+bitN b2 2+bitN b3 3) 3=b3:=by
 intro z b1 b2 b3;cases z<;>cases b1<;>cases b2<;>cases b3<;>decide
def or_bit{m:Int}{k:Nat}(G:k<4)(h0:0<=m)(z:m<2^k):orI .i64 m (2^k)=m+2^k:=by
 rcases (by omega:k=0\/k=1\/k=2\/k=3) with rfl|rfl|rfl|rfl
 .obtain rfl:m=0:=by omega
  decide
 .rcases (by omega:m=0\/m=1) with rfl|rfl<;>decide
 .rcases (by omega:m=0\/m=1\/m=2\/m=3) with rfl|rfl|rfl|rfl<;>decide
 .rcases (by omega:m=0\/m=1\/m=2\/m=3\/m=4\/m=5\/m=6\/m=7) with rfl|rfl|rfl|rfl|rfl|rfl|rfl|rfl<;>decide
def idxO(l:List Opt)(q:Aa):Int:=AA (λo:Opt=>decide (o.At=q)) 0 l
def K0{l:List Opt}(hd:(l.map Opt.At).Nodup){q:Aa}{k:Nat}(h:l[k]?.map Opt.At=some q):idxO l q=k:=by
 rcases GR (λo:Opt=>decide (o.At=q)) l 0 with ⟨z,O⟩|⟨i,x,z,O,h3⟩
 .exfalso;cases hx:l[k]? with
  |none=>rw[hx] at h;cases h
  |some y=>
   rw[hx] at h
   have:=J3.1 z y (Ax hx)
   simp at this h;exact this h
 .have G:x.At=q:=by simpa using Hl z
  simp only[idxO,O]
  have:i=k:=by
   have Q:(l.map Opt.At)[i]? =some q:=by rw[BI,h3];simp[G]
   have Z:(l.map Opt.At)[k]? =some q:=by rw[BI];exact h
   obtain⟨g1,f1⟩:=Ba.1 Q;obtain⟨g2,f2⟩:=Ba.1 Z;exact (List.getElem_inj hd).1 (f1.trans f2.symm)
  omega
def idxO_at{l:List Opt}{q:Aa}{k:Int}(h:idxO l q=k)(h0:0<=k):l[k.toNat]?.map Opt.At=some q:=by
 rcases GR (λo:Opt=>decide (o.At=q)) l 0 with ⟨O,z⟩|⟨i,x,O,z,Q⟩
 .simp only[idxO,z] at h;omega
 .have G:x.At=q:=by simpa using Hl O
  simp only[idxO,z] at h;rw[show k.toNat=i by omega,Q];simp[G]
def JU{x:Ad}: ∀(l:List Opt) (b:Asm),x∈(Aw b l).Tiles↔x∈b.Tiles\/ ∃o∈l,x=⟨o.At,o.Tile⟩
 |[],b=>by simp[Aw]
 |o::r,b=>by
  simp only[Aw,JU r,IB,OK,A9];constructor
  .rintro ((h|h)|⟨y,z,h⟩)
   .exact .inr ⟨o,.inl rfl,h⟩
   .exact .inl h
   .exact .inr ⟨y,.inr z,h⟩
  .rintro (h|⟨y,rfl|z,h⟩)
   .exact .inl (.inr h)
   .exact .inl (.inl h)
   .exact .inr ⟨y,z,h⟩
def Nn{s:Ah}{b:Asm}{l:List Opt}(h:EE s b l):(l.map Opt.At).Nodup:=by
 rw[US,List.pairwise_map,R1];intro i j Q Z G z;have O:=(Dj (h j l[j] (A8 Z)).1).2.2.2.2.2;refine O ⟨l[i].At,l[i].Tile⟩ ?_ z;rw[JU];refine .inr ⟨l[i],?_,rfl⟩;rw[Fa];exact⟨i,by rw[UV G];exact A8 Q⟩
def at_mem{a:Asm}{q:Aa}(h:0<=atA a q): ∃x∈a.Tiles,x.At=q:=by
 simp only[atA] at h;cases hf:a.Tiles.find? (λx=>decide (x.At=q)) with
 |none=>rw[hf] at h;simp at h
 |some x=>exact⟨x,M2 hf,by simpa using Hl hf⟩
def nonE{A:Type}(l:List A):Option (List A):=if l=[] then none else some l
abbrev BZ(s:Ah)(f:Aa->Int)(q:Aa):List Int:=CV s f q s.Set.Tiles.length
def OpOk(s:Ah)(f:Aa->Int)(op:List (Aa×List Int)):Prop:=(op.map Prod.fst).Nodup/\ ∀q,lkP op q=nonE (BZ s f q)
def Ib{s:Ah}{f:Aa->Int}{q:Aa}(h: ∀k:Int,Eb s f q k=false): ∀n,CV s f q n=[]
 |0=>rfl
 |n+1=>by simp only[CV,Ib h n,h,D1];rfl
def NI{s:Ah}{f:Aa->Int}{q:Aa}(h:0<=f q)(n:Nat):CV s f q n=[]:=
 Ib (λk=>by simp only[Eb];rw[JB (show ¬f q<0 by omega)];simp) n
def N4{s:Aj}{f:Aa->Int}{q:Aa}{t:Int}(h: ∀d:Nat,d<4->f (AD q d)<0): ∀k,k<=4->Bl s f q t k=0
 |0,_=>rfl
 |k+1,z=>by
  have:=h k (by omega)
  simp only[Bl,N4 h k (by omega),CX];rw[Ab (by omega)];rfl
def N3{s:Ah}{f:Aa->Int}{q:Aa}(z:1<=s.Temperature)(h: ∀d:Nat,d<4->f (AD q d)<0)(n:Nat):CV s f q n=[]:=
 Ib (λk=>by simp only[Eb,N4 h 4 (Ar _)];rw[JB (show ¬s.Temperature<=0 by omega)];simp) n
def NF{s:Aj}{f g:Aa->Int}{q:Aa}{t:Int}(h: ∀d:Nat,d<4->f (AD q d)=g (AD q d)): ∀k,k<=4->Bl s f q t k=Bl s g q t k
 |0,_=>rfl
 |k+1,z=>by simp only[Bl,NF h k (by omega),CX,h k (by omega)]
def NE{s:Ah}{f g:Aa->Int}{q:Aa}(h0:f q=g q)(h: ∀d:Nat,d<4->f (AD q d)=g (AD q d)): ∀n,CV s f q n=CV s g q n
 |0=>rfl
 |n+1=>by
  have e:Eb s f q n=Eb s g q n:=by simp only[Eb,h0,NF h 4 (Ar _)]
  simp only[CV,NE h0 h n,e]
def lkP_no{β:Type}{p:Aa}: ∀{l:List (Aa×β)},p∉l.map Prod.fst->lkP l p=none
 |[],_=>rfl
 |(k,v)::r,h=>by
  simp only[Ay,A9,JE] at h;simp only[lkP];rw[Ab h.1,lkP_no h.2]
def N1{β:Type}{p:Aa}: ∀{l:List (Aa×β)},p∈l.map Prod.fst-> ∃v,lkP l p=some v/\(p,v)∈l
 |[],h=>by simp at h
 |(k,v)::r,h=>by
  simp only[lkP];by_cases c:p=k
  .rw[Af c,c];exact⟨v,rfl,AU ..⟩
  .rw[Ab c];obtain⟨w,z,G⟩:=N1 (l:=r) (by simpa[c] using h);exact⟨w,z,AX _ G⟩
def lkP_in{β:Type}{p:Aa}{l:List (Aa×β)}:p∈l.map Prod.fst↔lkP l p≠none:=by
 constructor
 .intro h;obtain⟨v,z,_⟩:=N1 h;rw[z];simp
 .intro h;apply Lz;intro G;exact h (lkP_no G)
def Nz{β:Type}{p q:Aa}: ∀{l:List (Aa×β)},q∈(delP l p).map Prod.fst->q∈l.map Prod.fst
 |[],h=>by simp[delP] at h
 |(k,v)::r,h=>by
  simp only[delP] at h;split at h
  .exact AX _ h
  .simp only[Ay,A9] at h⊢;rcases h with h|h
   .exact .inl h
   .exact .inr (Nz h)
def Kw{β:Type}{p:Aa}: ∀{l:List (Aa×β)},(l.map Prod.fst).Nodup->((delP l p).map Prod.fst).Nodup
 |[],h=>h
 |(k,v)::r,h=>by
  simp only[Ay,Ed] at h;simp only[delP];split
  .exact h.2
  .simp only[Ay,Ed];exact⟨λz=>h.1 (Nz z),Kw h.2⟩
def Ku{β:Type}{p:Aa}(q:Aa): ∀{l:List (Aa×β)},(l.map Prod.fst).Nodup->lkP (delP l p) q=if q=p then none else lkP l q
 |[],_=>by simp[delP,lkP]
 |(k,v)::r,h=>by
  simp only[Ay,Ed] at h;simp only[delP];by_cases c:p=k
  .rw[Af c];by_cases e:q=p
   .rw[Af e,e,c];exact lkP_no h.1
   .rw[Ab e];simp only[lkP];rw[Ab (λz=>e (z.trans c.symm))]
  .rw[Ab c];simp only[lkP];by_cases e:q=k
   .rw[Af e,Af e,Ab (λz=>c (z.symm.trans e))]
   .rw[Ab e,Ab e,Ku q h.2]
def updP_ky{β:Type}{p q:Aa}{v:β}: ∀{l:List (Aa×β)},q∈(updP l p v).map Prod.fst↔q=p\/q∈l.map Prod.fst
 |[]=>by simp[updP]
 |(k,w)::r=>by
  simp only[updP];split
  .rename_i c;subst c;simp
  .simp only[Ay,A9,updP_ky (l:=r)];constructor
   .rintro (h|h|h)
    .exact .inr (.inl h)
    .exact .inl h
    .exact .inr (.inr h)
   .rintro (h|h|h)
    .exact .inr (.inl h)
    .exact .inl h
    .exact .inr (.inr h)
def N0{β:Type}{p:Aa}{v:β}: ∀{l:List (Aa×β)},(l.map Prod.fst).Nodup->((updP l p v).map Prod.fst).Nodup
 |[],_=>by simp[updP]
 |(k,w)::r,h=>by
  simp only[Ay,Ed] at h;simp only[updP];split
  .rename_i c;subst c;simp only[Ay,Ed];exact h
  .rename_i c;simp only[Ay,Ed];refine⟨λz=> ?_,N0 h.2⟩;rcases updP_ky.1 z with e|e
   .exact c e.symm
   .exact h.1 e
def lookS_nd{s:Ah}{f:Aa->Int}{op:List (Aa×List Int)}{q:Aa}(h:(op.map Prod.fst).Nodup):((EK s f op q).map Prod.fst).Nodup:=by
 simp only[EK];split
 .exact Kw h
 .exact N0 h
def lookS_lk{s:Ah}{f:Aa->Int}{op:List (Aa×List Int)}{p:Aa}(h:(op.map Prod.fst).Nodup)(q:Aa):lkP (EK s f op p) q=if q=p then nonE (BZ s f q) else lkP op q:=by
 simp only[EK];by_cases c:CV s f p s.Set.Tiles.length=[]
 .rw[Af c,Ku q h];by_cases e:q=p
  .subst e;rw[Af rfl,Af rfl,nonE,Af c]
  .rw[Ab e,Ab e]
 .rw[Ab c,Mu];by_cases e:q=p
  .subst e;rw[Af rfl,Af rfl,nonE,Ab c]
  .rw[Ab e,Ab e]
def Ij{s:Ah}{f:Aa->Int}{op:List (Aa×List Int)}{p:Aa}(h:(op.map Prod.fst).Nodup): ∀k,((CW s f op p k).map Prod.fst).Nodup
 |0=>h
 |k+1=>lookS_nd (Ij h k)
def EJ(p q:Aa):Prop:= ∃d:Nat,d<4/\AD p d=q
def N9{s:Ah}{f:Aa->Int}{op:List (Aa×List Int)}{p:Aa}(h:(op.map Prod.fst).Nodup)(q:Aa): ∀k,(∀d:Nat,d<k->AD p d≠q)/\lkP (CW s f op p k) q=lkP op q\/(∃d:Nat,d<k/\AD p d=q)/\lkP (CW s f op p k) q=nonE (BZ s f q)
 |0=> .inl ⟨λd hd=>absurd hd (by omega),rfl⟩
 |k+1=>by
  have ih:=N9 (s:=s) (f:=f) (p:=p) h q k;simp only[CW,lookS_lk (Ij h k)];by_cases c:q=AD p k
  .rw[Af c];exact .inr ⟨⟨k,by omega,c.symm⟩,rfl⟩
  .rw[Ab c];rcases ih with ⟨G,z⟩|⟨⟨d,G,z⟩,O⟩
   .refine .inl ⟨λd hd=> ?_,z⟩;by_cases e:d=k
    .subst e;exact λh=>c h.symm
    .exact G d (by omega)
   .exact .inr ⟨⟨d,by omega,z⟩,O⟩
def look4{s:Ah}{f:Aa->Int}{op:List (Aa×List Int)}{p:Aa}(h:(op.map Prod.fst).Nodup)(q:Aa):(¬EJ p q/\lkP (CW s f op p 4) q=lkP op q)\/(EJ p q/\lkP (CW s f op p 4) q=nonE (BZ s f q)):=by
 rcases N9 (s:=s) (f:=f) h q 4 with ⟨z,G⟩|h
 .exact .inl ⟨λ⟨d,hd,e⟩=>z d hd e,G⟩
 .exact .inr h
def step_back(p:Aa){d:Nat}(h:d<4):AD (AD p d) ((d+2) % 4:Nat)=p:=by
 rcases (by omega:d=0\/d=1\/d=2\/d=3) with rfl|rfl|rfl|rfl<;>simp[AD]<;>omega
def Km{p q:Aa}(h:EJ p q):EJ q p:=by
 obtain⟨d,hd,rfl⟩:=h;exact⟨(d+2) % 4,by omega,step_back p hd⟩
def Kh{s:Ah}{f:Aa->Int}(q:Aa): ∀(l:List Ad) (op:List (Aa×List Int)),(op.map Prod.fst).Nodup->
 ((l.foldl (λo x=>CW s f o x.At 4) op).map Prod.fst).Nodup/\((∀x∈l,¬EJ x.At q)/\lkP (l.foldl (λo x=>CW s f o x.At 4) op) q=lkP op q\/(∃x∈l,EJ x.At q)/\lkP (l.foldl (λo x=>CW s f o x.At 4) op) q=nonE (BZ s f q))
 |[],op,h=>⟨h,.inl ⟨by simp,rfl⟩⟩
 |x::r,op,h=>by
  simp only[L9];obtain⟨G,O⟩:=Kh (s:=s) (f:=f) q r (CW s f op x.At 4) (Ij h 4);refine⟨G,?_⟩;rcases O with ⟨a,b⟩|⟨⟨y,z,a⟩,b⟩
  .rcases look4 (s:=s) (f:=f) (p:=x.At) h q with ⟨c,e⟩|⟨c,e⟩
   .refine .inl ⟨λy z=> ?_,b.trans e⟩;rcases A9.1 z with rfl|z
    .exact c
    .exact a y z
   .exact .inr ⟨⟨x,AU ..,c⟩,b.trans e⟩
  .exact .inr ⟨⟨y,AX _ z,a⟩,b⟩
def tlUp_at{l:List Ad}: ∀{q:Aa},0<=Bf (tlUp l) q-> ∃x∈l,x.At=q:=by
 have G: ∀(l:List Ad) (t:List (Aa×Int)) (q:Aa),lkP (l.foldl (λt x=>updP t x.At x.Tile) t) q≠none->(∃x∈l,x.At=q)\/lkP t q≠none:=by
  intro l;induction l with
  |nil=>intro t q h;exact .inr h
  |cons x r ih=>
   intro t q h;rcases ih _ q h with ⟨y,O,e⟩|z
   .exact .inl ⟨y,AX _ O,e⟩
   .rw[Mu] at z;split at z
    .rename_i e;exact .inl ⟨x,AU ..,e.symm⟩
    .exact .inr z
 intro q h;rcases G l [] q (λe=>by
  simp only[Bf,tlUp,e,Option.getD_none] at h;omega) with z|z
 .exact z
 .simp[lkP] at z
def op_new{s:Ah}{l:List Ad}(O:1<=s.Temperature):OpOk s (Bf (tlUp l)) (opUp s (Bf (tlUp l)) l):=by
 have hn:(([]:List (Aa×List Int)).map Prod.fst).Nodup:=by simp
 refine⟨(Kh ⟨0,0⟩ l [] hn).1,λq=> ?_⟩;rcases (Kh (s:=s) (f:=Bf (tlUp l)) q l [] hn).2 with ⟨G,z⟩|⟨_,z⟩
 .rw[opUp,z]
  have:BZ s (Bf (tlUp l)) q=[]:=by
   refine N3 O (λd hd=> ?_) _;apply Lz;intro h;obtain⟨x,Q,e⟩:=tlUp_at (l:=l) (q:=AD q d) (by omega);exact G x Q (Km (e▸⟨d,hd,rfl⟩))
  rw[nonE,Af this];rfl
 .exact z
def op_put{s:Ah}{z:List (Aa×Int)}{op:List (Aa×List Int)}{p:Aa}{t:Int}(h:OpOk s (Bf z) op)(ht:0<=t):
 OpOk s (Bf (updP z p t)) (CW s (Bf (updP z p t)) (delP op p) p 4):=by
 have hn:=Kw (p:=p) h.1;have G: ∀q,Bf (updP z p t) q=if q=p then t else Bf z q:=λq=>by
  simp only[Bf,Mu];split<;>rfl
 refine⟨Ij hn 4,λq=> ?_⟩;rcases look4 (s:=s) (f:=Bf (updP z p t)) (p:=p) hn q with ⟨Z,O⟩|⟨_,O⟩
 .rw[O,Ku q h.1];by_cases e:q=p
  .rw[Af e,nonE,Af (NI (by rw[G,Af e];exact ht) _)]
  .rw[Ab e,h.2 q]
   have:BZ s (Bf (updP z p t)) q=BZ s (Bf z) q:=by
    refine NE (by rw[G,Ab e]) (λd hd=> ?_) _;rw[G,Ab];intro Q;exact Z (Km ⟨d,hd,Q⟩)
   rw[this]
 .exact O
def insQ(p:Aa):List Aa->List Aa
 |[]=>[p]
 |y::r=>if AB y p=true then y::insQ p r else if y=p then y::r else p::y::r
def AZ(l:List Aa):List Aa:=l.foldr insQ []
abbrev ltQ(l:List Aa):Prop:=l.Pairwise λa b=>AB a b=true
def Ih{a b c:Aa}(z:AB a b=true)(G:AB b c=true):AB a c=true:=by simp only[AB] at*;grind
def Nx(a:Aa):AB a a=false:=by simp[AB]
def N2{a b:Aa}(Z:AB a b=false)(h2:a≠b):AB b a=true:=by
 obtain⟨G,O⟩:=a;obtain⟨Q,z⟩:=b;simp only[AB,ne_eq,Aa.mk.injEq] at*
 grind
def Ig{p q:Aa}: ∀{l:List Aa},q∈insQ p l↔q=p\/q∈l
 |[]=>by simp[insQ]
 |y::r=>by
  simp only[insQ];split
  .simp only[A9,Ig (l:=r)];constructor
   .rintro (h|h|h)
    .exact .inr (.inl h)
    .exact .inl h
    .exact .inr (.inr h)
   .rintro (h|h|h)
    .exact .inr (.inl h)
    .exact .inl h
    .exact .inr (.inr h)
  .split
   .rename_i c;subst c;simp
   .simp
def Kj{p:Aa}: ∀{l:List Aa},ltQ l->ltQ (insQ p l)
 |[],_=>by simp[insQ]
 |y::r,h=>by
  rw[ltQ,H7] at h;simp only[insQ];split
  .rename_i c;rw[ltQ,H7];refine⟨λz G=> ?_,Kj h.2⟩;rcases Ig.1 G with rfl|G
   .exact c
   .exact h.1 z G
  .rename_i c;split
   .rw[ltQ,H7];exact h
   .rename_i e;have O:=N2 (by simpa using c) e;rw[ltQ,H7,H7];refine⟨λz G=> ?_,h⟩;rcases A9.1 G with rfl|G
    .exact O
    .exact Ih O (h.1 z G)
def FM: ∀(l:List Aa),ltQ (AZ l)
 |[]=>List.Pairwise.nil
 |_::r=>Kj (FM r)
def EL{q:Aa}: ∀{l:List Aa},q∈AZ l↔q∈l
 |[]=>by simp[AZ]
 |x::r=>by
  have:AZ (x::r)=insQ x (AZ r):=rfl
  rw[this,Ig,EL (l:=r),A9]
def ltQ_nd{l:List Aa}(h:ltQ l):l.Nodup:=by
 refine Vb (λ{a b} z e=> ?_) h;rw[e,Nx] at z;cases z
def Kp{l m:List Aa}(z:ltQ l)(G:ltQ m)(h: ∀q,q∈l↔q∈m):l=m:=by
 have hp:l.Perm m:=(Yj (ltQ_nd z) (ltQ_nd G)).2 h;refine XV (le:=λa b=>AB a b=true) (λa b _ _ g1 g2=> ?_) z G hp
 have:=Ih g1 g2
 rw[Nx] at this;cases this
def BN(a:Asm)(p:Aa)(l:List Aa):Nat->List Aa
 |0=>l
 |k+1=>if Cg (AD p k)=true/\atA a (AD p k)<0 then insQ (AD p k) (BN a p l k) else BN a p l k
def Bh(a:Asm):Nat->List Aa
 |0=>[]
 |i+1=>BN a ((a.Tiles[i]?.map Ad.At).getD ⟨0,0⟩) (Bh a i) 4
def Ie{a:Asm}{p:Aa}{l:List Aa}(h:ltQ l): ∀k,ltQ (BN a p l k)
 |0=>h
 |k+1=>by
  simp only[BN];split
  .exact Kj (Ie h k)
  .exact Ie h k
def Ko(a:Asm): ∀i,ltQ (Bh a i)
 |0=>List.Pairwise.nil
 |i+1=>Ie (Ko a i) 4
def N5{a:Asm}{p q:Aa}{l:List Aa}: ∀k,q∈BN a p l k↔q∈l\/(Cg q=true/\atA a q<0)/\ ∃d:Nat,d<k/\AD p d=q
 |0=>by simp[BN]
 |k+1=>by
  simp only[BN];have ih:=N5 (a:=a) (p:=p) (q:=q) (l:=l) k;split
  .rename_i c;rw[Ig,ih];constructor
   .rintro (rfl|h|⟨h,d,G,z⟩)
    .exact .inr ⟨c,k,by omega,rfl⟩
    .exact .inl h
    .exact .inr ⟨h,d,by omega,z⟩
   .rintro (h|⟨h,d,G,z⟩)
    .exact .inr (.inl h)
    .by_cases e:d=k
     .subst e;exact .inl z.symm
     .exact .inr (.inr ⟨h,d,by omega,z⟩)
  .rename_i c;rw[ih];constructor
   .rintro (h|⟨h,d,G,z⟩)
    .exact .inl h
    .exact .inr ⟨h,d,by omega,z⟩
   .rintro (h|⟨h,d,G,z⟩)
    .exact .inl h
    .by_cases e:d=k
     .subst e;subst z;exact absurd h c
     .exact .inr ⟨h,d,by omega,z⟩
def GA{a:Asm}{q:Aa}: ∀i,i<=a.Tiles.length->(q∈Bh a i↔(Cg q=true/\atA a q<0)/\ ∃x∈a.Tiles.take i,EJ x.At q)
 |0,_=>by simp[Bh]
 |i+1,Q=>by
  have O:a.Tiles[i]? =some (a.Tiles[i]'(by omega)):=A8 (by omega);simp only[Bh];rw[N5,GA i (by omega),Fq O,O,Bw,Ao];constructor
  .rintro (⟨h,x,z,G⟩|⟨h,G⟩)
   .exact⟨h,x,Fb _ z,G⟩
   .exact⟨h,_,Hh _ (AU ..),G⟩
  .rintro⟨h,x,z,G⟩;rcases AG.1 z with z|z
   .exact .inl ⟨h,x,z,G⟩
   .rw[AO] at z;subst z;exact .inr ⟨h,G⟩
def atU(s:Ah)(f:Aa->Int)(q:Aa):Nat->List Int
 |0=>[]
 |k+1=>atU s f q k++(if s.Temperature<=Bl s.Set f q k 4 then [(k:Int)] else [])
def Ik(s:Ah)(f:Aa->Int)(q:Aa): ∀k,(atU s f q k).length<=k
 |0=>by simp[atU]
 |k+1=>by
  have:=Ik s f q k
  simp only[atU,B5]
  split<;>simp<;>omega
def NB{s:Ah}{f:Aa->Int}{q:Aa}(z:Cg q=true)(G:f q<0): ∀n,CV s f q n=atU s f q n
 |0=>rfl
 |n+1=>by
  simp only[CV,atU,NB z G n,Eb,z,P8 G,BY,AP]
def mkO2(p:Aa)(k:Int):Opt:=⟨p,k⟩
def Bi(g:Aa->List Int)(l:List Aa):List Opt:=l.flatMap λp=>(g p).map (mkO2 p)
def Bd(s:Ah)(a:Asm):List Opt:=Bi (λp=>atU s (atA a) p s.Set.Tiles.length) (Bh a a.Tiles.length)
def Dm(op:List (Aa×List Int)):List Opt:=Bi (λp=>(lkP op p).getD []) (AZ (op.map Prod.fst))
def Ny{g:Aa->List Int}: ∀(l:List Aa),Bi g (l.filter λp=> !(g p).isEmpty)=Bi g l
 |[]=>rfl
 |p::r=>by
  have ih:=Ny (g:=g) r;simp only[Bi] at ih;simp only[Bi,RE];split
  .simp only[Dg,ih]
  .rename_i c
   have:g p=[]:=by simpa using c
   simp only[Dg,ih,this,D2,D1]
def Kg{g h:Aa->List Int}: ∀(l:List Aa),(∀p∈l,g p=h p)->Bi g l=Bi h l
 |[],_=>rfl
 |p::r,z=>by
  simp only[Bi,Dg];rw[z p (AU ..)]
  have:=Kg r λq hq=>z q (AX _ hq)
  simp only[Bi] at this;rw[this]
def atA_mem{a:Asm}{q:Aa}(h:0<=atA a q): ∃x∈a.Tiles,x.At=q:=by
 simp only[atA] at h;cases e:a.Tiles.find? (λx=>decide (x.At=q)) with
 |none=>rw[e] at h;simp at h
 |some x=>exact⟨x,M2 e,by simpa using Hl e⟩
def opts_law{s:Ah}{a:Asm}{op:List (Aa×List Int)}(hT:1<=s.Temperature)(h:OpOk s (atA a) op):Dm op=Bd s a:=by
 have G: ∀q,BZ s (atA a) q≠[]->q∈Bh a a.Tiles.length:=λq hq=>by
  rw[GA _ (Ar _),Dh];have h0:atA a q<0:=by
   apply Lz;intro c;exact hq (NI (by omega) _)
  have hp:Cg q=true:=by
   apply Lz;intro c;exact hq (Ib (λk=>by simp only[Eb];rw[Fw] at c;rw[c];rfl) _)
  refine⟨⟨hp,h0⟩,?_⟩;apply Lz;intro c;refine hq (N3 hT (λd hd=> ?_) _);apply Lz;intro c2;obtain⟨x,hx,e⟩:=atA_mem (a:=a) (q:=AD q d) (by omega);exact c ⟨x,hx,Km ⟨d,hd,e.symm⟩⟩
 have Q: ∀q∈Bh a a.Tiles.length,atU s (atA a) q s.Set.Tiles.length=BZ s (atA a) q:=λq hq=>by
  rw[GA _ (Ar _)] at hq;exact (NB hq.1.1 hq.1.2 _).symm
 have O: ∀q,(lkP op q).getD []=BZ s (atA a) q:=λq=>by
  rw[h.2 q,nonE];split
  .rename_i e;rw[e];rfl
  .rfl
 have Z:Bd s a=Bi (BZ s (atA a)) (Bh a a.Tiles.length):=Kg _ Q;have e2:Dm op=Bi (BZ s (atA a)) (AZ (op.map Prod.fst)):=Kg _ λq _=>O q
 rw[Z,e2,<-Ny (Bh a a.Tiles.length)];congr 1;refine Kp (FM _) ((Ko a _).filter _) (λq=> ?_);rw[EL,lkP_in,h.2 q,nonE,IR];constructor
 .intro hq;have z:BZ s (atA a) q≠[]:=λe=>hq (Af e)
  exact⟨G q z,by simpa using z⟩
 .rintro⟨_,hq⟩;have z:BZ s (atA a) q≠[]:=by simpa using hq
  rw[Ab z];simp
def posQ(p:Aa)(l:List Aa):Nat:=(l.takeWhile λy=>AB y p).length
def NA(p:Aa): ∀(l:List Aa),insQ p l=if l[posQ p l]? =some p then l else l.take (posQ p l)++p::l.drop (posQ p l)
 |[]=>by simp[insQ,posQ]
 |y::r=>by
  have ih:=NA p r;simp only[insQ];by_cases c:AB y p=true
  .have e:posQ p (y::r)=posQ p r+1:=by simp[posQ,c]
   rw[Af c,ih,e,DP];split
   .rfl
   .simp
  .have e:posQ p (y::r)=0:=by simp[posQ,c]
   rw[Ab c,e];simp
def posQ_eq{p:Aa}: ∀{l:List Aa} {k:Nat},ltQ l->k<=l.length->(∀(i:Nat) (y:Aa),k<=i->l[i]? =some y->AB y p=false)->(∀y,k≠0->l[k - 1]? =some y->AB y p=true)->posQ p l=k
 |[],k,_,G,_,_=>by simp at G;simp[posQ,G]
 |y::r,0,_,_,O,_=>by
  have:=O 0 y (Ar _) rfl
  simp[posQ,this]
 |y::r,k+1,Z,G,O,Q=>by
  rw[ltQ,H7] at Z;have hy:AB y p=true:=by
   cases k with
   |zero=>exact Q y (by omega) rfl
   |succ k=>
    have aa:k+1<(y::r).length:=by simp at G⊢;omega
    have h3:=Q _ (by omega) (A8 (l:=y::r) (i:=k+1) aa);refine Ih (Z.1 _ ?_) h3;simp
  have ih:=posQ_eq (p:=p) (l:=r) (k:=k) Z.2 (by simpa using G) (λi z hi hz=>O (i+1) z (by omega) (by simpa using hz)) (λz ab hz=>Q z (by omega) (by
   obtain⟨m,rfl⟩: ∃m,k=m+1:=⟨k - 1,by omega⟩;simpa using hz))
  simp only[posQ] at ih;simp[posQ,hy,ih]
def shQ(p:Aa)(l:List Aa)(i:Nat):List Aa:=(l++[p]).take (i+1)++l.drop i
def Kk{p:Aa}{l:List Aa}{i:Nat}(h:i<=l.length):(shQ p l i).length=l.length+1:=by simp[shQ];omega
def shQ_all(p:Aa)(l:List Aa):shQ p l l.length=l++[p]:=by simp[shQ,BX]
def shQ_step{p x:Aa}{l:List Aa}{i:Nat}(h:i+1<=l.length)(Z:(shQ p l (i+1))[i]? =some x):(shQ p l (i+1)).set (i+1) x=shQ p l i:=by
 have z:l[i]? =some x:=by
  rw[<-Z,shQ,Ci (by simp;omega),J4,Af (by omega),Ci (by omega)]
 apply EY;intro j;have Q:((l++[p]).take (i+1+1)).length=i+2:=by simp;omega
 have G:((l++[p]).take (i+1)).length=i+1:=by simp;omega
 by_cases c:j=i+1
 .subst c;rw[BA (by rw[Kk h];omega),shQ,C8 (by omega),G,D3,Eg,G1,z]
 .rw[BM (Co c)];simp only[shQ];by_cases O:j<i+1
  .rw[Ci (by omega),Ci (by omega),J4,J4,Af (by omega),Af O]
  .rw[C8 (by omega),C8 (by omega),Q,G,Eg,Eg];congr 1;omega
def shQ_end{p:Aa}{l:List Aa}{k:Nat}(h:k<=l.length):(shQ p l k).set k p=l.take k++p::l.drop k:=by
 apply EY;intro j;have O:((l++[p]).take (k+1)).length=k+1:=by simp;omega
 have z:(l.take k).length=k:=by simp;omega
 by_cases c:j=k
 .subst c;rw[BA (by rw[Kk h];omega),C8 (by omega),z,D3];simp
 .rw[BM (Co c)];simp only[shQ];by_cases G:j<k
  .rw[Ci (by omega),Ci (by omega),J4,J4,Af (by omega),Af G,Ci (by omega)]
  .obtain⟨m,rfl⟩: ∃m,j=k+1+m:=⟨j - (k+1),by omega⟩;rw[C8 (by omega),C8 (by omega),O,z,Eg,show k+1+m - k=m+1 by omega,DP,Eg];congr 1;omega
def pt_eq3{p q:Aa}:((p.X==q.X)=true/\(p.Y==q.Y)=true)↔p=q:=by
 obtain⟨z,G⟩:=p;obtain⟨O,Q⟩:=q;simp
def putQ.ca(a:List Aa×Aa):List AV:=[.own 0,.im (.agg [.int .i64 a.2.X,.int .i64 a.2.Y])]
def putQ.H0(a:List Aa×Aa):Ag:=[(0,(true,.arr 96 2 (a.1.map Aa.c)))]
def putQ.H1(a:List Aa×Aa):Ag:=[(1,(true,.arr 96 2 ((insQ a.2 a.1).map Aa.c)))]
def kl0(j:Nat):Bool:=j==0
def putQ.row:Row:=orow putQ.ca putQ.H0 1 (λa=>ltQ a.1/\a.1.length<=1000000) kl0 (λ_=> .own 1) putQ.H1 1
def putQ.ok:Ak Tryz.prog 189 putQ.row:=by
 refine owN (tC l_LessPoint.ok tN) Tryz.func189 rfl (by kernel_rfl) (exB:=λj=>j==1) (R:=λ_ r=>r= .own 1) (λ_=>rfl)
  (λa=>by simp[putQ.ca,putQ.H0,belL,AV.bel,belH,Ai,AT,AObj.nms,domB,hget]) (λa p hp=> ?_) (λa r h=>by subst h;exact LeV.refl _) ?_
 rotate_left
 intro a af;simp only[Tryz.f189,putQ.ca,putQ.H0,putQ.H1];simp(disch:=omega)only[ZA,simprocAttr];rotate_left
 .simp[putQ.H1] at hp;subst hp;exact .inr ⟨by omega,by omega,rfl,rfl⟩
 obtain⟨l,p⟩:=a;obtain⟨hl,hn⟩:=af;simp only at hl hn⊢;intro _;refine Au.old ⟨{k:Nat//k<=l.length/\ ∀(i:Nat) (y:Aa),k<=i->l[i]? =some y->AB y p=false},λk=>⟨[(5,.im (.int .i64 k.1)),(3,.ptr 1 0),(0,.own 0)],[(1,(true,.cells 96 [.im (.int .i64 p.X),.im (.int .i64 p.Y)])),(0,(true,.arr 96 2 (l.map Aa.c)))],3⟩,λk=>k.1,λk=>⟨by simp[Ac.good,belT,belH,Ai,AV.bel,belL],by simp⟩,⟨⟨l.length,Ar _,λi y hi Z=>by rw[CH hi] at Z;cases Z⟩,by simp(disch:=omega)only[ZA,simprocAttr,sub]⟩,λk=> ?_⟩;obtain⟨k,hk,ac⟩:=k;simp(disch:=omega)only[ZA,simprocAttr,l_LessPoint.q,l_LessPoint.fv,C4,ORB,sub,Aq];have Q:0<k->IntKind.i64.wrap ((k:Int) - 1)=((k - 1:Nat):Int):=λh=>by rw[Am (by omega) (by omega)];omega
 refine⟨λab=>⟨by rw[Q (by omega)];omega,by rw[Q (by omega)];omega,by rw[Q (by omega)];omega,λx hx=>⟨λaa=> ?r,λaa=>⟨λO=>⟨O,O,λy Z=>⟨λe=> ?a1,λe=> ?b1⟩⟩,λO=> ?b2⟩⟩⟩,λab=>⟨λO=>⟨O,O,λy Z=>⟨λe=> ?a2,λe=> ?b3⟩⟩,λO=> ?b4⟩⟩
 case r=>
  rw[Q (by omega),AH] at hx;refine⟨⟨k - 1,by omega,λi y hi Z=> ?_⟩,by simp only;omega,by rw[Q (by omega)]⟩;by_cases c:i=k - 1
  .subst c;obtain rfl:=Al (hx.symm.trans Z);exact aa
  .exact ac i y (by omega) Z
 all_goals
  have ad:posQ p l=k:=posQ_eq hl hk ac (λy aq Z=>by
   first
    |(rw[Q (by omega),AH] at hx;obtain rfl:=Al (hx.symm.trans Z);simpa using aa)
    |(exact absurd (by omega) ab))
  have G:=NA p l;rw[ad] at G
 case a1=>
  have ey:y=p:=pt_eq3.1 e;rw[Z,ey,Af rfl] at G;refine⟨[],[(1,some 0)],⟨[(4,.own 1)],putQ.H1 (l,p),2⟩,?_,by simp[putQ.H1,Ac.good,belT,belH,Ai,AV.bel],by simp,?_⟩
  .simp only[subP,putQ.H1,G];simp(disch:=omega)only[ZA,simprocAttr]
  .simp(disch:=omega)only[ZA,simprocAttr,putQ.H1,kl0,putQ.H1]
 case a2=>
  have ey:y=p:=pt_eq3.1 e;rw[Z,ey,Af rfl] at G;refine⟨[],[(1,some 0)],⟨[(4,.own 1)],putQ.H1 (l,p),2⟩,?_,by simp[putQ.H1,Ac.good,belT,belH,Ai,AV.bel],by simp,?_⟩
  .simp only[subP,putQ.H1,G];simp(disch:=omega)only[ZA,simprocAttr]
  .simp(disch:=omega)only[ZA,simprocAttr,putQ.H1,kl0,putQ.H1]
 all_goals
  have am:l[k]? ≠some p:=λh=>by
   first
    |(obtain rfl:=Al (Z.symm.trans h);exact e (pt_eq3.2 rfl))
    |(rw[CH (by omega)] at h;cases h)
  rw[Ab am] at G;have ah:l.map Aa.c++[[D.int .i64 p.X,D.int .i64 p.Y]]=(l++[p]).map Aa.c:=by rw[Di];rfl
  rw[ah];refine⟨by omega,λ_=> ?_⟩;refine Au.old ⟨{i:Nat//k<=i/\i<=l.length},λi=>⟨[(6,.im (.int .i64 i.1)),(5,.im (.int .i64 k)),(0,.own 4),(3,.ptr 1 0)],[(4,(true,.arr 96 2 ((shQ p l i.1).map Aa.c))),(1,(true,.cells 96 [.im (.int .i64 p.X),.im (.int .i64 p.Y)]))],5⟩,λi=>i.1,λi=>⟨by simp[Ac.good,belT,belH,Ai,AV.bel,belL],by simp⟩,⟨⟨l.length,hk,Ar _⟩,?_⟩,λi=> ?_⟩
  .simp(disch:=omega)only[ZA,simprocAttr,sub,shQ_all];rw[B5,R5,Am (by omega) (by omega)];omega
  obtain⟨i,as,ai⟩:=i;have ao:=Kk (p:=p) ai;simp(disch:=omega)only[ZA,simprocAttr,C4,sub,Aq,ao];refine⟨λak=> ?_,λak=>⟨by omega,by omega,λx hx=> ?_⟩⟩
  .have aj:IntKind.i64.wrap ((i:Int) - 1)=((i - 1:Nat):Int):=by rw[Am (by omega) (by omega)];omega
   rw[aj,AH];refine⟨by omega,by omega,by omega,λx hx=>⟨by omega,by omega,λz hz=>⟨⟨i - 1,by omega,by omega⟩,by simp only;omega,rfl,?_⟩⟩⟩;have ag:=shQ_step (p:=p) (x:=x) (l:=l) (i:=i - 1) (by omega) (by rwa [show i - 1+1=i by omega]);rw[show i - 1+1=i by omega] at ag;rw[<-ag,Fz];rfl
  .obtain rfl:i=k:=by omega
   have an:((shQ p l i).map Aa.c).set i [D.int .i64 p.X,D.int .i64 p.Y]=(insQ p l).map Aa.c:=by
    rw[G,<-shQ_end hk,Fz];rfl
   refine⟨[],[(1,some 4)],⟨[(4,.own 1)],putQ.H1 (l,p),2⟩,?_,by simp[putQ.H1,Ac.good,belT,belH,Ai,AV.bel],by simp,?_⟩
   .simp only[subP,putQ.H1,an];simp(disch:=omega)only[ZA,simprocAttr]
   .simp(disch:=omega)only[ZA,simprocAttr,putQ.H1,kl0,putQ.H1]
def putQ_dom(a:List Aa×Aa)(j:Nat):domB (putQ.H0 a) j=true↔j<1:=by
 simp only[domB,putQ.H0,hget];by_cases z:j=0
 .subst z;simp
 .have:(0==j)=false:=by simpa using λh=>z h.symm
  rw[this];simp;omega
def NC(p:Aa): ∀(l:List Aa),(insQ p l).length<=l.length+1
 |[]=>by simp[insQ]
 |y::r=>by
  have:=NC p r
  simp only[insQ];split
  .simp only[Bs];omega
  .split<;>simp
def Kl(a:Asm)(p:Aa)(l:List Aa): ∀k,(BN a p l k).length<=l.length+k
 |0=>by simp[BN]
 |k+1=>by
  have:=Kl a p l k
  simp only[BN];split
  .have:=NC (AD p k) (BN a p l k);omega
  .omega
def Ic(a:Asm): ∀i,(Bh a i).length<=4*i
 |0=>by simp[Bh]
 |i+1=>by
  have:=Ic a i
  have:=Kl a ((a.Tiles[i]?.map Ad.At).getD ⟨0,0⟩) (Bh a i) 4
  simp only[Bh];omega
def nearS_.fv(a:Asm):List Aa:=(λa=>Bh a a.Tiles.length) a
def nearS_.row:Row:=vK (b1 (qP 1 Asm.d_le)) (rS Aa.d_le Aa.c_n) (λa=>B2 none a.Tiles=true/\a.Tiles.length<=1000/\ ∃s,∀x∈a.Tiles,CI s x.Tile) nearS_.fv
def nearS_.q:=vKq (R:=nearS_.row) rfl
def nearS_.ok:Ak Tryz.prog 142 nearS_.row:=by
 refine vw (tC l01Step.ok (tC l01Point.ok (tC l03Index.ok (tC putQ.ok tN)))) Tryz.func142 rfl (by kernel_rfl) ?_;intro a Z;simp only[Tryz.f142];simp(disch:=omega)only[ZA,simprocAttr,nearS_.fv];obtain⟨h1,h2,s0,h3⟩:=Z;refine Au.ren ⟨{i:Nat//i<=a.Tiles.length},λi=>⟨[(4,.im (.int .i64 i.1)),(3,.own 3),(0,.ptr 0 0)],[(3,(true,.arr 96 2 ((Bh a i.1).map Aa.c))),(0,(false,.view (Asm.c a)))],4⟩,λi=>a.Tiles.length - i.1,λi=>⟨by simp[Ac.good,belT,belH,Ai,AV.bel],by simp⟩,⟨⟨0,Bj _⟩,[(3,some 2)],?_⟩,λi=> ?_⟩
 .simp only[subP];simp(disch:=omega)only[ZA,simprocAttr,AC,Bh]
  try simp
 obtain⟨i,hi⟩:=i;simp(disch:=omega)only[ZA,simprocAttr,Aq];intro _;refine⟨λz=> ?_,λz=> ?_⟩;rotate_left
 .obtain rfl:i=a.Tiles.length:=by omega
  rfl
 obtain⟨x,hx⟩: ∃x,a.Tiles[i]? =some x:=⟨_,A8 z⟩;have af:=(Ow _ _ h1 x (Ax hx)).1;have e1:Bh a (i+1)=BN a x.At (Bh a i) 4:=by simp only[Bh,hx];rfl
 have ag:=Ic a i;have ac:=Ko a i;refine Au.ren ⟨{d:Nat//d<=4},λd=>⟨[(5,.im (.int .i64 d.1)),(4,.im (.int .i64 i)),(3,.own 4),(0,.ptr 0 0)],[(4,(true,.arr 96 2 ((BN a x.At (Bh a i) d.1).map Aa.c))),(0,(false,.view (Asm.c a)))],5⟩,λd=>4 - d.1,λd=>⟨by simp[Ac.good,belT,belH,Ai,AV.bel],by simp⟩,⟨⟨0,Bj _⟩,[(4,some 3)],?_⟩,λd=> ?_⟩
 .simp only[subP];simp(disch:=omega)only[ZA,simprocAttr,AC,BN]
  try simp
 obtain⟨d,hd⟩:=d;have ah:=Kl a x.At (Bh a i) d;have ad:=Ie (a:=a) (p:=x.At) ac d;simp(disch:=omega)only[ZA,simprocAttr,Asm.d,l01Step.q,l01Step.fv,l01Point.q,l01Point.fv,l03Index.q,l03Index.fv,Aq];have Q:IntKind.i64.wrap ((d:Int)+1)=((d+1:Nat):Int):=by rw[Am (by omega) (by omega)];omega
 refine⟨λab=>⟨z,λy hy=> ?_⟩,λab=> ?_⟩;rotate_left
 .obtain rfl:d=4:=by omega
  refine⟨⟨i+1,by omega⟩,[(3,some 4)],by simp only;omega,?_⟩;simp only[subP];simp(disch:=omega)only[ZA,simprocAttr,AC,e1];rw[Am (by omega) (by omega)];rfl
 obtain rfl:=Al (hx.symm.trans hy);refine⟨⟨Jo af,by omega⟩,λO=>⟨h1,λG=> ?_,λG=> ?_⟩,λO=> ?_⟩
 .have aa:=(FN h3 (AD x.At d)).1 G;refine orow.os (BN a x.At (Bh a i) d,AD x.At d) [4] ⟨ad,by simp only;omega⟩ (putQ_dom _) rfl rfl ?_ ?_
  .simp(disch:=omega)only[ZA,simprocAttr,putQ.ca,putQ.H0,Bu,B8]
  simp(disch:=omega)only[ZA,simprocAttr,putQ.H1,kl0];refine⟨⟨d+1,by omega⟩,[(4,some 6)],by simp only;omega,?_⟩;simp only[subP];simp(disch:=omega)only[ZA,simprocAttr,AC,BN];rw[Af ⟨O,aa⟩];exact⟨Q,rfl⟩
 all_goals
  refine⟨⟨d+1,by omega⟩,[(4,some 4)],by simp only;omega,?_⟩;simp only[subP];simp(disch:=omega)only[ZA,simprocAttr,AC,BN];refine⟨Q,?_⟩;rw[Ab];rintro⟨g1,g2⟩
  first
   |exact G ((FN h3 _).2 g2)
   |exact O g1
def glQ(s:Aj)(a:Asm)(p:Aa):Nat->List Int
 |0=>[]
 |k+1=>glQ s a p k++[if atA a (AD p k)<0 then 0 else EV s (atA a (AD p k)) (((k:Int)+2) % 4)]
def FK(s:Aj)(a:Asm)(p:Aa): ∀k,(glQ s a p k).length=k
 |0=>rfl
 |k+1=>by simp[glQ,FK s a p k]
def Ki{s:Aj}{a:Asm}{p:Aa}: ∀{n k:Nat},k<n->(glQ s a p n)[k]? =some (if atA a (AD p k)<0 then 0 else EV s (atA a (AD p k)) (((k:Int)+2) % 4))
 |0,k,h=>by omega
 |n+1,k,h=>by
  simp only[glQ];by_cases c:k<n
  .rw[Ci (by rw[FK];exact c),Ki c]
  .obtain rfl:k=n:=by omega
   rw[C8 (by rw[FK];omega),FK,D3];rfl
def term_gl{s:Aj}{a:Asm}{p:Aa}{i:Int}{k:Nat}{g:Int}(z:g=if atA a (AD p k)<0 then 0 else EV s (atA a (AD p k)) (((k:Int)+2) % 4)):(if EV s i k=g then Gm s g else 0)=CX s (atA a) p i k:=by
 simp only[CX,CT];by_cases c:atA a (AD p k)<0
 .rw[Af c] at z;subst z;rw[Ab (show ¬0<=atA a (AD p k) by omega),glue_no (by omega)]
  split<;>rfl
 .rw[Ab c] at z;rw[Af (show 0<=atA a (AD p k) by omega),<-z];split
  .rename_i e;rw[e]
  .rfl
def side_b{s:Aj}(h:setP s){t:Int}{d:Int}:0<=EV s t d/\EV s t d<=s.Glues.length:=by
 simp only[EV];cases e:s.Tiles[t.toNat]? with
 |none=>simp
 |some x=>
  simp only[Bw,Ao];cases e2:x.Sides[d.toNat]? with
  |none=>simp
  |some g=>
   simp only[Ao];exact (h.2.1 x (Ax e)).2 g (Ax e2)
def atQ_.fv(a:Aj×Asm×Aa×Int):List Int:=(λs a p t=>atU ⟨s,a,t⟩ (atA a) p s.Tiles.length) (a.1) (a.2.1) (a.2.2.1) (a.2.2.2)
def atQ_.row:Row:=vK (b4 (qP 2 Aj.d_le) (qP 1 Asm.d_le) (qR Aa.d_le) qI) (rS BB Bm) (λa=>setP a.1/\BR a.1 a.2.1/\CE a.2.2.1/\a.1.Tiles.length<=1000000) atQ_.fv
def atQ_.q:=vKq (R:=atQ_.row) rfl
def atQ_.ok:Ak Tryz.prog 122 atQ_.row:=by
 refine vw (tC l01Step.ok (tC l03At.ok (tC Opposite_.ok (tC l02Strength.ok tN)))) Tryz.func122 rfl (by kernel_rfl) ?_;intro a af;simp only[Tryz.f122];simp(disch:=omega)only[ZA,simprocAttr,atQ_.fv];obtain⟨s,a,p,t⟩:=a;obtain⟨Q,h2,h3,h4⟩:=af;simp only at Q h2 h3 h4⊢;refine Au.ren ⟨{d:Nat//d<=4},λd=>⟨[(10,.im (.int .i64 d.1)),(9,.own 5),(6,.ptr 2 0),(0,.ptr 0 0),(1,.ptr 1 0),(3,.im (.int .i64 t))],[(5,(true,.arr 2 1 ((glQ s a p d.1).map intC))),(2,(true,.cells 96 [.im (.int .i64 p.X),.im (.int .i64 p.Y)])),(0,(false,.view (Aj.c s))),(1,(false,.view (Asm.c a)))],6⟩,λd=>4 - d.1,λd=>⟨by simp[Ac.good,belT,belH,Ai,AV.bel,belL],by simp⟩,⟨⟨0,Bj _⟩,[(5,some 4)],?_⟩,λd=> ?_⟩
 .simp only[subP];simp(disch:=omega)only[ZA,simprocAttr,AC,glQ]
  try simp
 obtain⟨d,hd⟩:=d;have ak:=FK s a p d;simp(disch:=omega)only[ZA,simprocAttr,Asm.d,l01Step.q,l01Step.fv,l03At.q,l03At.fv,Opposite_.q,Opposite_.fv,Aq,FI,FE,allD,D.one];have Z:IntKind.i64.wrap ((d:Int)+1)=((d+1:Nat):Int):=by rw[Am (by omega) (by omega)];omega
 refine⟨λaa=>⟨⟨h3,by omega⟩,h2.1,λhn=>⟨by omega,⟨d+1,by omega⟩,[(5,some 7)],by simp only;omega,?_⟩,λhn=> ?_⟩,λaa=> ?_⟩
 .simp only[subP];simp(disch:=omega)only[ZA,simprocAttr,AC,glQ];rw[Af hn];refine⟨Z,by simp[intC]⟩
 .obtain⟨b1,b2⟩:=EI h2 (AD p d) (by omega);refine⟨b1,b2,λx hx=>⟨by omega,by omega,by rw[(Q.2.1 x (Ax hx)).1];omega,λg hg=>⟨by omega,⟨d+1,by omega⟩,[(5,some 7)],by simp only;omega,?_⟩⟩⟩;have O:EV s (atA a (AD p d)) (((d:Int)+2) % 4)=g:=Lj hx hg;simp only[subP];simp(disch:=omega)only[ZA,simprocAttr,AC,glQ];rw[Ab hn,O];refine⟨Z,by simp[intC]⟩
 obtain rfl:d=4:=by omega
 clear Z aa hd;obtain⟨S,hS⟩: ∃S:Ah,S=⟨s,a,t⟩:=⟨_,rfl⟩;rw[<-hS];refine Au.ren ⟨{i:Nat//i<=s.Tiles.length},λi=>⟨[(13,.im (.int .i64 i.1)),(12,.own 7),(9,.own 5),(0,.ptr 0 0),(3,.im (.int .i64 t))],[(7,(true,.arr 2 1 ((atU S (atA a) p i.1).map intC))),(5,(true,.arr 2 1 ((glQ s a p 4).map intC))),(0,(false,.view (Aj.c s))),(1,(false,.view (Asm.c a)))],8⟩,λi=>s.Tiles.length - i.1,λi=>⟨by simp[Ac.good,belT,belH,Ai,AV.bel],by simp⟩,⟨⟨0,Bj _⟩,[(7,some 6)],?_⟩,λi=> ?_⟩
 .simp only[subP];simp(disch:=omega)only[ZA,simprocAttr,AC,atU]
  try simp
 obtain⟨i,hi⟩:=i;have an:=Ik S (atA a) p i;simp(disch:=omega)only[ZA,simprocAttr,Aq];intro _;refine⟨λab=> ?_,λab=> ?_⟩;rotate_left
 .obtain rfl:i=s.Tiles.length:=by omega
  rfl
 refine Au.old ⟨{k:Nat//k<=4},λk=>⟨[(15,.im (.int .i64 k.1)),(14,.im (.int .i64 (Bl s (atA a) p i k.1))),(13,.im (.int .i64 i)),(12,.own 7),(9,.own 5),(0,.ptr 0 0),(3,.im (.int .i64 t))],[(7,(true,.arr 2 1 ((atU S (atA a) p i).map intC))),(5,(true,.arr 2 1 ((glQ s a p 4).map intC))),(0,(false,.view (Aj.c s))),(1,(false,.view (Asm.c a)))],8⟩,λk=>4 - k.1,λk=>⟨by simp[Ac.good,belT,belH,Ai,AV.bel],by simp⟩,⟨⟨0,Bj _⟩,?_⟩,λk=> ?_⟩
 .simp(disch:=omega)only[ZA,simprocAttr,sub,Bl]
 obtain⟨k,hk⟩:=k;simp(disch:=omega)only[ZA,simprocAttr,l02Strength.q,l02Strength.fv,sub,Aq,FI,FE,allD,D.one];have ad:IntKind.i64.wrap ((k:Int)+1)=((k+1:Nat):Int):=by rw[Am (by omega) (by omega)];omega
 have aj:=Pz Q (atA a) p i k;have am:=Lr Q (atA a) p i k;have ah:=FK s a p 4;rw[ah];refine⟨λai=>⟨ab,λx hx=>⟨by rw[(Q.2.1 x (Ax hx)).1];omega,λg hg=>⟨by omega,by omega,λy hy=> ?_⟩⟩⟩,λai=> ?_⟩
 .have O:EV s i k=g:=Lj (by simpa using hx) (by simpa using hg);rw[Ki (by omega),An] at hy;have G:=term_gl (i:=i) hy.symm;rw[O] at G;refine⟨λe=>⟨by omega,by omega,λz hz=> ?_⟩,λe=>⟨⟨k+1,by omega⟩,by simp only;omega,ad,?_⟩⟩
  .rw[Ki (by omega),An] at hz;obtain rfl:y=z:=hy.symm.trans hz;rw[Af e] at G;have ag:0<=y/\y<=s.Glues.length:=by
    have:=side_b Q (t:=i) (d:=k)
    rw[O,e] at this;exact this
   refine⟨⟨ag.1,ag.2,Q.1⟩,⟨k+1,by omega⟩,by simp only;omega,ad,?_⟩;rw[G,Am (by omega) (by omega)];rfl
  .rw[Ab e] at G;simp only[Bl,<-G];omega
 .obtain rfl:k=4:=by omega
  have ac:IntKind.i64.wrap ((i:Int)+1)=((i+1:Nat):Int):=by rw[Am (by omega) (by omega)];omega
  have e1:S.Temperature=t:=by rw[hS]
  have e2:S.Set=s:=by rw[hS]
  refine⟨λe=>⟨by omega,⟨i+1,by omega⟩,[(7,some 9)],by simp only;omega,?_⟩,λe=>⟨⟨i+1,by omega⟩,[(7,some 7)],by simp only;omega,?_⟩⟩
  .simp only[subP];simp(disch:=omega)only[ZA,simprocAttr,AC,atU,e1,e2];rw[Af e];exact⟨ac,by simp[intC]⟩
  .simp only[subP];simp(disch:=omega)only[ZA,simprocAttr,AC,atU,e1,e2];rw[Ab e,BJ];exact⟨ac,rfl⟩
def atU_S(s:Ah)(a b:Asm)(f:Aa->Int)(p:Aa): ∀n,atU ⟨s.Set,a,s.Temperature⟩ f p n=atU s f p n
 |0=>rfl
 |n+1=>by simp only[atU,atU_S s a b f p n]
def Ca(g:Aa->List Int)(l:List Aa)(i:Nat):List Opt:=Bi g (l.take i)
def ND{g:Aa->List Int}{l:List Aa}{i:Nat}{p:Aa}(h:l[i]? =some p):Ca g l (i+1)=Ca g l i++(g p).map (mkO2 p):=by
 simp only[Ca,Bi,Fq h,Rx,Dg,Vd,BJ]
def Ii{g:Aa->List Int}{m:Nat}(z: ∀p,(g p).length<=m): ∀(l:List Aa),(Bi g l).length<=l.length*m
 |[]=>by simp[Bi]
 |p::r=>by
  have ih:=Ii z r
  have:=z p
  simp only[Bi] at ih;simp only[Bi,Dg,B5,Dz,Bs,RB];omega
def opsS_.fv(a:Ah×Asm):List Opt:=(Bd) (a.1) (a.2)
def opsS_.row:Row:=vK (b2 (qP 4 Ah.d_le) (qP 1 Asm.d_le)) (rS Opt.d_le Opt.c_n) (λa=>setP a.1.Set/\BR a.1.Set a.2/\a.2.Tiles.length<=500/\a.1.Set.Tiles.length<=1000) opsS_.fv
def opsS_.q:=vKq (R:=opsS_.row) rfl
def opsS_.ok:Ak Tryz.prog 93 opsS_.row:=by
 refine vw (tC nearS_.ok (tC atQ_.ok tN)) Tryz.func93 rfl (by kernel_rfl) ?_;intro a Q;simp only[Tryz.f93];simp(disch:=omega)only[ZA,simprocAttr,Asm.d,opsS_.fv,nearS_.q,nearS_.fv];obtain⟨s,a⟩:=a;obtain⟨h1,Z,h3,h4⟩:=Q;simp only at h1 Z h3 h4⊢;refine⟨⟨Z.1,by omega,s.Set,Z.2⟩,?_⟩;obtain⟨L,hL⟩: ∃L,L=Bh a a.Tiles.length:=⟨_,rfl⟩;obtain⟨g,hg⟩: ∃g,g=λp=>atU s (atA a) p s.Set.Tiles.length:=⟨_,rfl⟩
 have ac:Bd s a=Bi g L:=by rw[hg,hL];rfl
 rw[ac];have af:L.length<=2000:=by have:=Ic a a.Tiles.length;rw[hL];omega
 have G: ∀p,(g p).length<=1000:=λp=>by have:=Ik s (atA a) p s.Set.Tiles.length;rw[hg];simp only;omega
 have aa: ∀p∈L,Cg p=true:=λp hp=>by
  rw[hL,GA _ (Ar _)] at hp;exact hp.1.1
 simp only[<-hL];refine Au.ren ⟨{i:Nat//i<=L.length},λi=>⟨[(7,.im (.int .i64 i.1)),(6,.im (.sl false 2 (L.map Aa.c))),(5,.own 4),(0,.ptr 0 0),(1,.ptr 1 0)],[(4,(true,.arr 108 3 ((Ca g L i.1).map Opt.c))),(0,(false,.view (Ah.c s))),(1,(false,.view (Asm.c a)))],5⟩,λi=>L.length - i.1,λi=>⟨by simp[Ac.good,belT,belH,Ai,AV.bel],by simp⟩,⟨⟨0,Bj _⟩,[(4,some 3)],?_⟩,λi=> ?_⟩
 .simp only[subP];simp(disch:=omega)only[ZA,simprocAttr,AC,Ca,Bi]
  try simp
 obtain⟨i,hi⟩:=i;simp(disch:=omega)only[ZA,simprocAttr,Asm.d,atQ_.q,atQ_.fv,Aq];intro _;refine⟨λz=> ?_,λz=> ?_⟩;rotate_left
 .obtain rfl:i=L.length:=by omega
  rw[Ca,Dh]
 have ah:(Ca g L i).length<=2000*1000:=by
  have:=Ii G (L.take i)
  have h9:(L.take i).length*1000<=2000*1000:=DR _ (by simp;omega);simp only[Ca];omega
 refine⟨z,λp hp=> ?_⟩;have ad:=aa p (Ax hp);refine⟨⟨h1,Z,Jo ad,by omega⟩,?_⟩;have ab:atU ⟨s.Set,a,s.Temperature⟩ (atA a) p s.Set.Tiles.length=g p:=by rw[atU_S _ _ a,hg]
 rw[ab];have ag:=G p;refine Au.ren ⟨{k:Nat//k<=(g p).length},λk=>⟨[(9,.im (.int .i64 k.1)),(8,.im (.sl false 1 ((g p).map intC))),(7,.im (.int .i64 i)),(6,.im (.sl false 2 (L.map Aa.c))),(5,.own 5),(0,.ptr 0 0),(1,.ptr 1 0)],[(5,(true,.arr 108 3 ((Ca g L i++((g p).take k.1).map (mkO2 p)).map Opt.c))),(0,(false,.view (Ah.c s))),(1,(false,.view (Asm.c a)))],6⟩,λk=>(g p).length - k.1,λk=>⟨by simp[Ac.good,belT,belH,Ai,AV.bel],by simp⟩,⟨⟨0,Bj _⟩,[(5,some 4)],?_⟩,λk=> ?_⟩
 .simp only[subP];simp(disch:=omega)only[ZA,simprocAttr,AC]
  try simp
 obtain⟨k,hk⟩:=k;simp(disch:=omega)only[ZA,simprocAttr,Aq,FI,FE,allD,D.one,B5];intro _;refine⟨λO=>⟨z,λq hq=>⟨O,λx hx=>⟨?_,⟨k+1,by omega⟩,[(5,some 7)],by simp only;omega,?_⟩⟩⟩,λO=>⟨⟨i+1,by omega⟩,[(4,some 5)],by simp only;omega,?_⟩⟩
 .have:((g p).take k).length<=1000:=by simp;omega
  omega
 .obtain rfl:=Al (hp.symm.trans hq);simp only[subP];simp(disch:=omega)only[ZA,simprocAttr,AC];refine⟨by rw[Am (by omega) (by omega)];rfl,?_⟩;rw[Fq hx];simp[mkO2,Opt.c]
 .obtain rfl:k=(g p).length:=by omega
  simp only[subP];simp(disch:=omega)only[ZA,simprocAttr,AC];refine⟨by rw[Am (by omega) (by omega)];rfl,?_⟩;rw[ND hp,Dh]
end Go.Ae
namespace Go.Ae
open Go.Proofs Go.Sort Go.Shelf
instance:Inhabited Aa:=⟨⟨0,0⟩⟩
def encQ(x:Aa):List Value:=[.int .i64 x.X,.int .i64 x.Y]
def cfQ(x y:Aa):Int:=Ej (x.X,x.Y) (y.X,y.Y)
def Ip(x y:Aa):ltOf cfQ x y=AB x y:=by
 simp only[ltOf,cfQ,Ej,Lib.compareInt,AB]
 grind
def swoQ:SWO (ltOf cfQ) where
 irrefl x:=by rw[Ip];simp only[AB];grind
 trans x y z h1 h2:=by rw[Ip] at*;simp only[AB] at*;grind
 ntrans x y z h1 h2:=by rw[Ip] at*;simp only[AB] at*;grind
def Kr{l:List Aa}(hd:l.Nodup):(AZ l).Perm l:=(Yj (ltQ_nd (FM l)) hd).2 λ_=>EL
def Sm{l l':List Aa}(hd:l.Nodup)(hp:l'.Perm l)(hs:l'.Pairwise (λa b=>AB b a=false)):l'=AZ l:=by
 refine Kp ?_ (FM l) (λq=>by rw[EL,hp.mem_iff]);have hn:l'.Nodup:=hp.nodup_iff.2 hd;refine Vb (λ{a b} h=> ?_) (List.pairwise_and_iff.2 ⟨hs,hn⟩);exact N2 h.1 λe=>h.2 e.symm
def sortQ_len{l:List Aa}(hd:l.Nodup):(AZ l).length=l.length:=(Kr hd).length_eq
def flQ(l:List Aa):List Value:=l.flatMap encQ
def flQ_len(l:List Aa):(flQ l).length=l.length*2:=by
 induction l with
 |nil=>rfl
 |cons x r ih=>simp only[flQ,Dg,B5,Bs] at ih⊢;rw[ih];simp[encQ];omega
def Kv{ok:Nat->Prop}{hp:Nat->Option Obj}: ∀(l:List Aa) (L:List Value),rdr ok hp 2 (l.map Aa.c) L↔ ∃r,L=flQ l++r
 |[],L=>by simp[rdr,flQ]
 |x::r,L=>by
  simp only[Ay,rdr,Kv r,Aa.c,rdp,rd,flQ,Dg];constructor
  .rintro⟨_,⟨v,z,rfl,rfl,O,G,rfl,rfl,_⟩,q,hq⟩;exact⟨q,by simp only[Gz,D9] at hq;rw[hq];rfl⟩
  .rintro⟨q,rfl⟩;exact⟨rfl,⟨_,_,rfl,rfl,_,_,rfl,rfl,trivial⟩,q,rfl⟩
def flQ_get: ∀(l:List Aa) (t:Nat),t<l.length*2->(flQ l)[t]? =some ((encQ (l[t/2]?.getD default))[t % 2]!)
 |[],t,h=>by simp at h
 |x::r,t,h=>by
  by_cases O:t<2
  .have:t=0\/t=1:=by omega
   rcases this with rfl|rfl<;>simp[flQ,encQ]
  .obtain⟨u,rfl⟩: ∃u,t=u+2:=⟨t - 2,by omega⟩;have z:(u+2)/2=u/2+1:=by omega
   have G:(u+2) % 2=u % 2:=by omega
   have ih:=flQ_get r u (by simp at h;omega);rw[z,G,DP,<-ih];simp[flQ,encQ]
def NH(l:List Aa):(flatK encQ 2 l.toArray).toList=flQ l:=by
 apply EY;intro t;by_cases z:t<l.length*2
 .rw[flQ_get l t z];have G:t<(flatK encQ 2 l.toArray).size:=by simp only[size_flatK,Gg];exact z
  have O:=get_flatK encQ 2 l.toArray t (by simpa using z);rw[Dx,EA G,<-getElem!_pos (flatK encQ 2 l.toArray) t G,O];congr 3;simp[getElem!_def];cases l[t/2]? <;>rfl
 .have a1:(flatK encQ 2 l.toArray).toList.length<=t:=by rw[Cm,size_flatK,Gg];omega
  have a2:(flQ l).length<=t:=by rw[flQ_len];omega
  rw[CH a1,CH a2]
def srtQ.ca(_:List Aa):List AV:=[.own 0,.im (.fn 161 [] [])]
def srtQ.H0(a:List Aa):Ag:=[(0,(true,.arr 96 2 (a.map Aa.c)))]
def srtQ.H1(a:List Aa):Ag:=[(0,(true,.arr 96 2 ((AZ a).map Aa.c)))]
def srtQ.row:Row:=orow srtQ.ca srtQ.H0 1 (λa=>a.Nodup) (λ_=>true) (λ_=> .im (.tup [])) srtQ.H1 0
def srtQ.ok:Ak Tryz.prog 223 srtQ.row:=by
 rintro args h nx K ⟨a,τ,U,KL,aj,rfl,O,hN,hK⟩;refine⟨FW (by kernel_rfl),_,_,?_,hK⟩;intro C S vs R hW a8 ba bb aa aw;have aq:sgx τ 1 nx 0=τ 0:=Af (by omega);simp only[srtQ.ca,renL,AV.ren,aq,Ap,conc,rd,rdl] at aa;obtain⟨v0,r0,hv,⟨ad,ai⟩,v1,r1,bh,⟨ac,cc,bj,ak,am⟩,bi⟩:=aa;have ak:ac= #[]:=by apply Gh;simpa using ak
 have am:cc= #[]:=by apply Gh;simpa using am
 subst ak am bi bh bj;have bl:vs= #[v0,.func (fnV 161) #[] #[]]:=by apply Gh;simpa using hv
 subst bl;have hm:h (τ 0)=some (true,.arr 96 2 (a.map Aa.c)):=by
  have:=O.1
  rwa [aq] at this
 have av:domB (srtQ.H0 a) 0=true:=rfl;have Q:S.h (τ 0)=some (true,.arr 96 2 (a.map Aa.c)):=by
  rw[a8 (τ 0) (Fb _ (hN.u 0 av)),hm]
 have ax: ∀n,n∈KL↔n=τ 0:=by
  intro n;constructor
  .intro hn;obtain⟨j,h1,_,h3⟩:=hN.k1 n hn
   have:j=0:=by
    simp only[domB,srtQ.H0,hget] at h1;by_cases hj:j=0
    .exact hj
    .have:(0==j)=false:=by simpa using λh=>hj h.symm
     rw[this] at h1;cases h1
   rw[h3,this]
  .rintro rfl;exact hN.k2 0 av rfl
 obtain⟨m,hmm⟩: ∃m,m=τ 0:=⟨_,rfl⟩;rw[<-hmm] at Q ai ax;have as:=sortQ_len aj;have fin: ∀(w':World),E5 S m (.arr 96 2 ((AZ a).map Aa.c)) (S.ρ m) [m] w'->
  (Pres (λn=>S.h m≠none\/n≠m) S (S.one m (.arr 96 2 ((AZ a).map Aa.c)) (S.ρ m) [m] w')->objc (S.one m (.arr 96 2 ((AZ a).map Aa.c)) (S.ρ m) [m] w') (S.ρ m) (.arr 96 2 ((AZ a).map Aa.c)))->R (.returned (.tuple #[])) w':=by
  intro w' ad bg;have hp:=KE hW ad;refine aw (.tuple #[]) _ (Ms hW ad (bg hp)) ?_ ⟨hp.ok,λn _=>hp.nm n (.inl (by rw[Q];simp))⟩ ⟨#[],rfl,rfl⟩;funext n;simp only[Env.one,Eff.appf,srtQ.H1,renH,aq,hget,AObj.ren,<-hmm];by_cases hn:n=m
  .subst hn;simp
  .have h1:(m==n)=false:=by simpa using λh=>hn h.symm
   have h2:KL.contains n=false:=by
    rw[<-Fw,DQ,ax];exact hn
   simp only[h1,AM,h2,hn,Bp,AO]
 have z:=ai _ Q;have Z:=hW.obj _ _ Q;have az:=λG=>hW.loc m _ G Q
 cases hρ:S.ρ m with
 |none=>
  rw[hρ] at z Z;simp only[objc] at Z;have ha:a=[]:=by simpa using Z.2
  subst ha;simp only at z;rw[z,II (by decide)];refine (AnyF.slices_SortFunc_none Tryz.sortPt none 0 (.func (.func 161) #[] #[]) S.w).mono ?_;rintro e w' ⟨rfl,rfl⟩;refine fin S.w (JI Q (λl hl=>by rw[hρ] at hl;cases hl) rfl rfl) (λ_=> ?_);rw[hρ];exact⟨Bj _,rfl⟩
 |some G=>
  rw[hρ] at z Z;simp only[objc,AObj.len] at Z z;obtain⟨g1,g2,cv,g3,g4,g5⟩:=Z;obtain⟨ao,bn⟩:=az G hρ;rw[Kv] at g5;obtain⟨a9,g5⟩:=g5;simp only[Dz] at g1 g2 z;have O:S.w.heap[G.b]? =some (.cells cv 96 (0,0)):=g3;have bm:G.p+a.length*2<=cv.size:=by omega
  have hF:(flatK encQ 2 a.toArray).size=a.length*2:=by simp
  have hget: ∀j,j<a.length*2->cv[G.p+j]? =some ((flatK encQ 2 a.toArray)[j]!):=by
   intro j hj;have h1:(cv.toList.drop G.p)[j]? =(flQ a++a9)[j]? :=by rw[g5]
   rw[Eg,Dx,Ci (by rw[flQ_len];exact hj),<-NH,Dx] at h1;rw[h1,EA (by rw[hF];exact hj),getElem!_pos _ _ (by rw[hF];exact hj)]
  have hH:HoldsK encQ 2 S.w G.b G.p a.toArray:=by
   intro j hj;rw[hF] at hj;refine⟨?_,?_⟩
   .simp only[World.cell?,O,J6,B1,Bp,id];exact hget j hj
   .simp only[World.frozen?,O];simp
  have hc:=AnyQ.slices_SortFunc Tryz.sortPt 2 Tryz.isAgg96 Tryz.sizeOf96 encQ (λ_=>rfl) (λx v hv=>by simp[encQ] at hv;rcases hv with rfl|rfl<;>rfl) cfQ swoQ 161 #[] G.b G.p G.cap a.toArray S.w
   (Oz (FW (by kernel_rfl))) (λm os dk hs x y=>Tryz.cmpPoints _ _ _ _ _) hH ao (by simp only[Gg,LIM] at g1⊢;omega)
  rw[z,II (by decide)];refine hc.mono ?_;rintro e w' ⟨rfl,d',n,os,af,au,rfl⟩;have a0:d'.size=a.length:=af.1;have be:d'.toList=AZ a:=by
   refine Sm aj ?_ ?_
   .have:=af.2.2
    rwa [show d'.extract 0 a.toArray.size=d' by rw[Gg,<-a0];exact PC,show a.toArray.extract 0 a.toArray.size=a.toArray from PC] at this
   .rw[R1];intro i j hi hj bf
    have:=au i j (Bj _) bf (by rw[Gg,<-a0];simpa using hj)
    rw[Ip,getElem!_pos d' i (by simpa using hi),getElem!_pos d' j (by simpa using hj)] at this;simpa using this
  obtain rfl:d'=(AZ a).toArray:=by apply Gh;rw[be]
  have ah:(flatK encQ 2 (AZ a).toArray).size=a.length*2:=by simp[as]
  have an:(flatK encQ 2 (AZ a).toArray).toList.length=a.length*2:=by rw[Cm,ah]
  have ag:S.w.heap.size<=(sortWorldK encQ 2 S.w G.b G.p n (AZ a).toArray os).heap.size:=by
   simp[sortWorldK,grow,putRowK,Sort.ahead]
  have hb: ∀b,b<S.w.heap.size->(sortWorldK encQ 2 S.w G.b G.p n (AZ a).toArray os).heap[b]? =if G.b=b then S.w.heap[b]?.map (onCells (putCells id G.p (flatK encQ 2 (AZ a).toArray))) else S.w.heap[b]? :=by
   intro b hb;have e0:b<(putRowK encQ 2 (Sort.ahead S.w n) G.b G.p (AZ a).toArray).heap.size:=by simpa[putRowK,Sort.ahead] using hb
   simp only[sortWorldK,grow];rw[UQ e0];simp only[putRowK,putRow,mapBlock,Sort.ahead,UY]
  refine fin _ ⟨rfl,rfl,rfl,ag,?_,.inl (by simp),?_,?_,?_⟩ ?_
  .intro b bc bd;rw[hb b bc,Ab (bd m _ G (by simp) Q hρ)]
  .intro lo ay;rw[hρ] at ay;obtain rfl:=Al ay;exact⟨CY ao ag,.inr ⟨m,_,G,by simp,Q,hρ,rfl⟩⟩
  .intro f hf;rw[Q] at hf;obtain rfl:=Al hf;exact⟨rfl,rfl,by simp[AObj.len,as]⟩
  .intro n' f _ ab;rw[Q] at ab;cases ab
  .intro _;rw[hρ];simp only[objc,Dz,as];refine⟨g1,g2,putCells id G.p (flatK encQ 2 (AZ a).toArray) cv,?_,by simpa[putCells] using g4,?_⟩
   .simp only[Env.one,Env.hp];rw[hb G.b ao,Af rfl,O];rfl
   .rw[Kv];refine⟨(cv.toList.drop (G.p+a.length*2)),?_⟩;apply EY;intro t;rw[Eg,Dx,putCells,XY,ah,<-NH];by_cases ht:t<a.length*2
    .rw[Ci (by rw[an];exact ht),Dx,EA (show G.p+t<cv.size by omega),EA (by rw[ah];exact ht)];simp only[Bw,id];rw[Af ⟨by omega,by omega⟩,P3,getElem!_pos _ _ (by rw[ah];exact ht)]
    .rw[C8 (by rw[an];omega),an,Eg,Dx,show G.p+a.length*2+(t - a.length*2)=G.p+t by omega];cases cv[G.p+t]? with
     |none=>rfl
     |some x=>simp only[Bw];rw[Ab (by omega)]
end Go.Ae
namespace Go.Ae
open Go.Proofs
def cntO(op:List (Aa×List Int)):Nat:=(op.map λq=>q.2.length).sum
def lkP_of{β:Type}: ∀{l:List (Aa×β)} {q:Aa×β},(l.map Prod.fst).Nodup->q∈l->lkP l q.1=some q.2
 |x::r,q,hn,hq=>by
  obtain⟨p,v⟩:=x;rw[Ay,Ed] at hn;simp only[lkP];rcases A9.1 hq with rfl|hq
  .rw[Af rfl]
  .have:q.1≠p:=λe=>hn.1 (by rw[<-e];exact AF.2 ⟨q,hq,rfl⟩)
   rw[Ab this];exact lkP_of hn.2 hq
def N6{g:Aa->List Int}: ∀(l:List Aa),(Bi g l).length=(l.map λp=>(g p).length).sum
 |[]=>rfl
 |p::r=>by
  have:=N6 (g:=g) r
  simp only[Bi] at this;simp only[Bi,Dg,B5,Dz,Ay,Fy,this]
def optsC_len{op:List (Aa×List Int)}(h:(op.map Prod.fst).Nodup):(Dm op).length=cntO op:=by
 rw[Dm,N6,((Kr h).map _).sum_nat,Hj];congr 1;refine Gd λq hq=> ?_
 simp only[Function.comp,lkP_of h hq,Ao]
def cnt_ge: ∀{l:List (Aa×List Int)},(∀q∈l,q.2≠[])->l.length<=cntO l
 |[],_=>Bj _
 |x::r,h=>by
  have G:0<x.2.length:=Lw.2 (h x (AU ..));have z:=cnt_ge λq hq=>h q (AX x hq)
  simp only[cntO,Ay,Fy,Bs] at z⊢;omega
def N7(s:Ah){b:Asm}(O:b.Tiles.length<=500)(Q:s.Set.Tiles.length<=160):(Bd s b).length<=320000:=by
 have z:=Ii (g:=λp=>atU s (atA b) p s.Set.Tiles.length) (m:=160) (λp=>BK (Ik s (atA b) p _) (by omega)) (Bh b b.Tiles.length);have Z:=Ic b b.Tiles.length;have G:(Bh b b.Tiles.length).length*160<=2000*160:=DR _ (by omega);exact BK z G
def op_lim{s:Ah}{b:Asm}{op:List (Aa×List Int)}(hT:1<=s.Temperature)(h1:b.Tiles.length<=500)(h2:s.Set.Tiles.length<=160)(G:OpOk s (atA b) op):
 Dm op=Bd s b/\((op.map Prod.fst).Nodup/\op.length<=1000000/\ ∀q∈op,q.2.length<=1000)/\(Dm op).length<=320000:=by
 have z:=opts_law hT G;have O:=optsC_len G.1;rw[z] at O;have Q: ∀q∈op,q.2=BZ s (atA b) q.1/\q.2≠[]:=λq hq=>by
  have Z:=lkP_of G.1 hq;rw[G.2,nonE] at Z;split at Z
  .cases Z
  .rename_i c;have h6:=Al Z;exact⟨h6.symm,by rw[<-h6];exact c⟩
 have h6:op.length<=cntO op:=cnt_ge λq hq=>(Q q hq).2
 have h7:=N7 s h1 h2;refine⟨z,⟨G.1,by omega,λq hq=> ?_⟩,by rw[z];exact h7⟩;rw[(Q q hq).1];exact BK (Ug s _ _ _) (by omega)
def badS(n:Int):Bool:= !Qau n 0 1000
def BU(l:List Int):Bool:=decide (l.length<=200) && !l.any badS
def schN(l:List Int)(n k:Nat):Nat:=if l.length=0 then 0 else (((l[k % l.length]?).getD 0) % (n:Int)).toNat
def Ob{l:List Int}(h:BU l=true){x:Int}(G:x∈l):0<=x/\x<=1000:=by
 simp only[BU,Av,EX] at h;have z:badS x=false:=by
  cases hb:badS x with
  |false=>rfl
  |true=>rw[RD.2 ⟨x,G,hb⟩] at h;cases h.2
 simpa[badS,AE] using z
def schN_lt{l:List Int}{n k:Nat}(hn:0<n):schN l n k<n:=by
 simp only[schN];split
 .exact hn
 .have z:=Int.emod_nonneg ((l[k % l.length]?).getD 0) (b:=(n:Int)) (by omega);have G:=Int.emod_lt_of_pos ((l[k % l.length]?).getD 0) (b:=(n:Int)) (by omega);omega
def nxO(s:Ah)(l:List Int)(b:Asm)(k:Nat):Option Opt:=(Bd s b)[schN l (Bd s b).length k]?
def Iw{s:Ah}{l:List Int}{b:Asm}{k:Nat}:nxO s l b k=none↔Bd s b=[]:=by
 simp only[nxO,XU];constructor
 .intro h;cases he:Bd s b with
  |nil=>rfl
  |cons x r=>
   have:=schN_lt (l:=l) (k:=k) (n:=(Bd s b).length) (by rw[he];simp)
   omega
 .intro h;rw[h];simp
def grw(s:Ah)(l:List Int):Nat->Asm->List Opt->List Opt×Asm×Int
 |0,b,d=>(d,b,0)
 |n+1,b,d=>match nxO s l b d.length with
  |none=>(d,b,0)
  |some o=>if 500<=b.Tiles.length then ([],⟨[]⟩,4) else grw s l n (putA b o.At o.Tile) (d++[o])
def FR(b:Asm)(p:Aa)(t:Int):(putA b p t).Tiles.length=b.Tiles.length+1:=by
 rw[IB];rw[(Mn ⟨p,t⟩ b.Tiles).length_eq,Bs]
def Oa{s:Ah}{l:List Int}: ∀(n:Nat) (b:Asm) (d:List Opt),b.Tiles.length<=500->501<=b.Tiles.length+n->grw s l (n+1) b d=grw s l n b d
 |0,b,d,z,G=>by omega
 |n+1,b,d,z,G=>by
  rw[grw,grw];split
  .rfl
  .split
   .rfl
   .rename_i o _ c;exact Oa n _ _ (by rw[FR];omega) (by rw[FR];omega)
def gwR(s:Ah)(l:List Int):List Opt×Asm×Int:=if C7 s=false then ([],⟨[]⟩,1) else if BU l=false then ([],⟨[]⟩,2) else grw s l 500 s.Seed []
def opt_can{s:Ah}{b:Asm}(hb:BR s.Set b){o:Opt}(h:o∈Bd s b):canS s b o=true:=by
 rw[Bd,Bi,Ve] at h;obtain⟨p,hp,h⟩:=h;obtain⟨t,Q,rfl⟩:=AF.1 h;rw[GA _ (Ar _)] at hp;obtain⟨⟨G,O⟩,_⟩:=hp;have z: ∀n,t∈atU s (atA b) p n->0<=t/\t<n/\s.Temperature<=Bl s.Set (atA b) p t 4:=by
  intro n;induction n with
  |zero=>intro h;simp[atU] at h
  |succ n ih=>
   intro h;simp only[atU,AG] at h;rcases h with h|h
   .have:=ih h;exact⟨this.1,by omega,this.2.2⟩
   .split at h
    .rename_i c;simp only[AO] at h;subst h;exact⟨by omega,by omega,c⟩
    .cases h
 obtain⟨k1,k2,Z⟩:=z _ Q;show canS s b ⟨p,t⟩=true;simp only[canS,AE,Av,AP];exact⟨G,⟨k1,by omega⟩,(FN hb.2 p).2 O,by rw[<-HT];exact Z⟩
def GD{s:Ah}{l:List Int}{b:Asm}{k:Nat}(hb:BR s.Set b){o:Opt}(h:nxO s l b k=some o):canS s b o=true:=opt_can hb (Ax h)
def grwX(s:Ah)(l:List Int):Nat->Asm->List Opt->List Opt×Asm×Bool×Int
 |0,b,d=>(d,b,(nxO s l b d.length).isNone,0)
 |n+1,b,d=>match nxO s l b d.length with
  |none=>(d,b,true,0)
  |some o=>if 500<=b.Tiles.length then ([],⟨[]⟩,false,4) else grwX s l n (putA b o.At o.Tile) (d++[o])
def grwX_eq{s:Ah}{l:List Int}: ∀(n:Nat) (b:Asm) (d:List Opt),((grwX s l n b d).1,(grwX s l n b d).2.1,(grwX s l n b d).2.2.2)=grw s l n b d
 |0,b,d=>rfl
 |n+1,b,d=>by
  rw[grwX,grw];split
  .rfl
  .split
   .rfl
   .exact grwX_eq n _ _
def it_regU{ι:Type}{P:Program}{V:B0}{N:Nat}{J:ι->(Nat->Prop)->World->Prop}{base:Nat}{ok0:Nat->Prop}{i j:ι}(HV:D5 P V)(O:Ga base J){ab:ι->List D->ι->Prop}{l:Nat}(hY: ∀i x j args Pr W,ab i x j->(∀ok hp,rdl ok hp x args.toList)->J i Pr W->YieldAt Fence.wide 0 P l args W λe W'=>e= .returned (.bool true)/\ ∃Pr',J j Pr' W'/\Move ok0 Pr W Pr' W')
 {id:Nat}{ops:Array Oper}(k1:Nat)(ao:List.range ops.size=List.range' 0 (ops.toList.take k1).length++(k1::(List.range' (k1+1) (ops.toList.drop (k1+1)).length++[])))(ac:E8 N (ops.toList.take k1)=true)(ad:E8 N (ops.toList.drop (k1+1))=true)(z:IA ops=true)
 {o:Oper}{c:Call}{f:Operand}{x:List D}(s1:Ac){s s2:Ac}{a:Act}{w:World}{Q:Exit->Act->World->Prop}(ho:ops[k1]? =some o)(am:o.op= .call c)(Z:c.callee= .value f)(ah:o.guard=none)
 (hf:evO s1.tm f= .im (.fn (1000000000+l) [] []))(G:evL s1.tm c.args.toList=x.map .im)(an:x.all D.scs=true)(hx:ab i x j)(ak: ∀n e,hget s1.h n=some e->e.2.isView=false)(hd: ∀d,o.dst=some d->d<N)(af:s1.good=true)(ag:s2.good=true)
 (h:It J base ok0 N i s a w)(ai:rgS P V (CU ops (ops.toList.take k1)) (λs=>sub s s1) s)(aj:rgS P V (CU ops (ops.toList.drop (k1+1))) (λs=>sub s s2) (s1.put o.dst (.im (.bool true))))
 (aa: ∀a w,It J base ok0 N j s2 a w->Q .normal a w):(Code.region id ops false).wpIn Fence.wide 0 P Q a w:=by
 refine wpIn_region ?_;rw[ao];refine Iq HV O (seg:=ops.toList.take k1) (more:=ops.toList.drop k1) (by rw[D9,Gc]) ac z ai h (λs a w h1 h2=> ?_);have h3:=CJ h2 h1 af O;have hw:Region.wanted o (yielded ops a.tmps)=true:=by simp[Region.wanted,ah]
 refine NL O hY ho hw am Z hf G an hx ak hd h3 (λa w h4=> ?_);refine Iq HV O (seg:=ops.toList.drop (k1+1)) (more:=[]) (by rw[BJ]) ad z aj h4 (λs a w h5 h6=> ?_);exact aa a w (CJ h6 h5 ag O)
abbrev OpM:=List (Aa×List Int)
def givK(op:OpM):Giv:=⟨OpM×List Aa,(op,[]),λi x j=> ∃(k:Nat) (p:Aa×List Int),i.1[k]? =some p/\x=[.agg (Aa.c p.1)]/\j=(i.1.eraseIdx k,i.2++[p.1]),λi=>i.1=[]⟩
def kyS(l:Nat)(left:OpM)(z:Option (D×D)):Ac:=⟨[(5,.it 0),(0,.im (.fn (1000000000+l) [] []))],[(0,(true,.iter z (left.map Br)))],1⟩
def kyB(l:Nat)(left:OpM)(p:Aa×List Int):Ac:=⟨[(3,.ptr 1 0),(5,.it 0),(0,.im (.fn (1000000000+l) [] []))],[(0,(true,.iter (some (Br p)) (left.map Br))),(1,(true,.cells 96 [.im (.int .i64 p.1.X),.im (.int .i64 p.1.Y)]))],2⟩
def Kq(l:Nat)(left:OpM)(z:Option (D×D)):(kyS l left z).good=true:=by simp[kyS,Ac.good,belT,belH,Ai,AV.bel]
def kyB_good(l:Nat)(left:OpM)(p:Aa×List Int):(kyB l left p).good=true:=by simp[kyB,Ac.good,belT,belH,belL,Ai,AV.bel]
def NM:E7 Tryz.prog (tab []):=G5 [] (by simp)
def keys_iter(op:OpM):IterG Tryz.prog 224 [.ref [.mp ktP (op.map Br)]] (givK op):=by
 refine it_fnG Tryz.func224 rfl rfl (by simp) ?_;intro l J base ok0 z hY a w ab;have HV:=Ll NM;obtain⟨R,hR⟩: ∃R,R=(λ(e:Z) (a:Act) (w:World)=> ∃i,(givK op).fin i/\itQ J base ok0 Tryz.f224.ntmps i (λe _=>e= .normal\/e= .ret) e a w):=⟨_,rfl⟩;rw[<-hR];simp only[Tryz.f224] at ab⊢;refine Fo Bz HV z (by decide) (by decide) ab (Qx:=endS (kyS l op none)) ?_ (λs a w G Q=> ?_) (λ_ _ _ _ h=>h.elim) (λ_ _ _ h=>h.elim)
 .simp(disch:=omega)only[ZA,simprocAttr,endS,kyS,entry,sub,ktP]
 have h3:=CJ Q G (Kq _ _ _) z;clear G Q ab;refine wpIn_block (wpIn_loop_ghost (λm a w=> ∃(i:OpM×List Aa) (O:Option (D×D)),m=i.1.length/\It J base ok0 14 i (kyS l i.1 O) a w) op.length ⟨(op,[]),none,rfl,h3⟩ ?_);clear h3;rintro m a w ⟨⟨left,aa⟩,O,hm,h⟩;simp only at hm h;refine Fo Bz HV z (by decide) (by decide) h (Qx:=λe s=>match e with
  | .normal=>(left=[]/\sub s ⟨(7,.im (.bool false))::(kyS l left O).tm,(kyS l left O).h,1⟩)\/ ∃(k:Nat) (p:Aa×List Int),left[k]? =some p/\sub s ⟨(7,.im (.bool true))::(kyS l left O).tm,(kyS l (left.eraseIdx k) (some (Br p))).h,1⟩
  |_=>False) ?_ (λs a w G Q=> ?_) (λ_ _ _ _ h=>h.elim) (λ_ _ _ h=>h.elim)
 .simp(disch:=omega)only[ZA,simprocAttr,kyS,sub,Rh];refine⟨λh=> .inl (by simpa using h),λi p hp=> ?_⟩;rw[BI] at hp;obtain⟨q,hq,rfl⟩:=BF.1 hp;exact .inr ⟨i,q,hq,rfl⟩
 simp only at G;rcases G with ⟨hl,hs⟩|⟨k,p,hk,hs⟩
 .have h3:=CJ Q hs (by simp[kyS,Ac.good,belT,belH,Ai,AV.bel]) z;refine Fo Bz HV z (by decide) (by decide) h3 (Qx:=endC (kyS l left O) False True 0) ?_ (λs a w G Q=>G.1.elim) (λid s a w G Q=> ?_) (λ_ _ _ h=>h.elim)
  .simp(disch:=omega)only[ZA,simprocAttr,endC,kyS,sub]
  .obtain⟨rfl,_,G⟩:=G;simp only[Z.then,Z.inBlock,AQ,hR,itQ];exact⟨(left,aa),hl,s,.inl trivial,Q⟩
 have h3:=CJ Q hs (by simp[kyS,Ac.good,belT,belH,Ai,AV.bel]) z;clear Q h hs;refine Fo Bz HV z (by decide) (by decide) h3 (Qx:=endC (kyS l (left.eraseIdx k) (some (Br p))) True False 0) ?_ (λs a w G Q=> ?_) (λid s a w G Q=>G.2.1.elim) (λ_ _ _ h=>h.elim)
 .simp(disch:=omega)only[ZA,simprocAttr,endC,kyS,sub]
 have h:=CJ Q G.2 (Kq _ _ _) z;clear G Q h3;refine wpIn_block ?_;refine Fo Bz HV z (by decide) (by decide) h (Qx:=endS (kyB l (left.eraseIdx k) p)) ?_ (λs a w G Q=> ?_) (λ_ _ _ _ h=>h.elim) (λ_ _ _ h=>h.elim)
 .simp(disch:=omega)only[ZA,simprocAttr,endS,kyS,kyB,sub,Br,Aa.c]
  trace_state
 have h3:=CJ Q G (kyB_good _ _ _) z;clear G Q h;have ac:=(Ba.1 hk).1;obtain⟨F,hF⟩: ∃F:AV,F= .im (.fn (1000000000+l) [] []):=⟨_,rfl⟩;obtain⟨E,hE⟩: ∃E:Ent,E=(true,.iter (some (Br p)) ((left.eraseIdx k).map Br)):=⟨_,rfl⟩;refine wpIn_seq (it_regU HV z hY (i:=(left,aa)) (j:=(left.eraseIdx k,aa++[p.1])) (x:=[.agg (Aa.c p.1)]) 2 (by decide) (by decide) (by decide) (by decide)
  (⟨[(11,.im (.agg (Aa.c p.1))),(10,F),(5,.it 0),(0,F)],[(0,E)],2⟩:Ac) (s2:=⟨[(13,.im (.bool false)),(5,.it 0),(0,F)],[(0,E)],2⟩) rfl rfl rfl rfl (by rw[hF];rfl) rfl (by rfl) ⟨k,p,hk,rfl,rfl⟩ ?_ (by decide) (by rw[hE,hF];simp[Ac.good,belT,belH,Ai,AV.bel]) (by rw[hE,hF];simp[Ac.good,belT,belH,Ai,AV.bel]) h3 ?_ ?_ (λa w h4=> ?_))
 .exact λn e he=>HE _ (by rw[hE];rfl) n e he
 .simp(disch:=omega)only[ZA,simprocAttr,kyB,sub,hE,hF,Aa.c,CU,IN,List.take]
 .simp(disch:=omega)only[ZA,simprocAttr,sub,hE,hF,Aa.c,CU,IN,List.drop]
 simp only[Z.then];refine Pl Bz HV z (by decide) (by decide) h4 (Qx:=endS (kyS l (left.eraseIdx k) (some (Br p)))) ?_ (λs a w G Q=> ?_) (λ_ _ _ _ h=>h.elim) (λ_ _ _ h=>h.elim)
 .simp(disch:=omega)only[ZA,simprocAttr,endS,kyS,sub,hE,hF]
 simp only[Z.inBlock,Z.then];exact⟨(left.eraseIdx k).length,by rw[Vj,Af ac];omega,(left.eraseIdx k,aa++[p.1]),_,rfl,CJ Q G (Kq _ _ _) z⟩
end Go.Ae
namespace Go.Ae
open Go.Proofs Go.RowKit Go.Lib Go.Sort
def NG{A:Type}: ∀(l:List A) (k:Nat) (x:A),l[k]? =some x->l.Perm (x::l.eraseIdx k)
 |[],k,x,h=>by simp at h
 |y::r,0,x,h=>by
  simp only[De,An] at h;subst h;exact LB _
 |y::r,k+1,x,h=>by
  rw[DP] at h;rw[P2];exact ((NG r k x h).cons y).trans (List.Perm.swap x y _)
def appQ(op:OpM)(s:Ac)(xs:List AV):Prop:= ∃l:List Aa,l.Perm (op.map Prod.fst)/\ ∃m,xs=[.own m]/\hget s.h m=some (true,.arr 96 2 (l.map Aa.c))
def kyF(op:OpM):D:= .fn 224 [] [.ref [.mp ktP (op.map Br)]]
def appSeq{op:OpM}(hb:op.length<=1000000){C:Ctx}{S:Env}{vs:Array Value}{RR:Ending->World->Prop}(hW:Wf C S)(aq:PKL S [.val (.sl true 0 []),.val (kyF op)] vs.toList)
 (ad: ∀(v:Value) (C0:Ctx) (S1:Env) (l:List Aa) (m:Nat),C0.w=S.w->C0.ok=S.ok->(∀b,¬C0.M b)->Wf C0 S1->l.Perm (op.map Prod.fst)->S1.h m=some (true,.arr 96 2 (l.map Aa.c))->conc S1 (.own m) v->RR (.returned v) S1.w):
 Calls Tryz.prog 255 vs S.w RR:=by
 have HV:=Ll NM;refine N8 Tryz.func255 rfl (ps:=[.val (.sl true 0 []),.val (kyF op)]) (show 2<=13 by decide) (Q:=appQ op) ?_ hW aq ?_;rotate_left
 .rintro v C0 S1 s xs g1 g2 g3 g4 g5 ⟨l,hl,m,rfl,hm⟩ g7;exact ad v C0 S1 l m g1 g2 g3 g4 hl ((g5 m).trans hm) g7
 intro C0 a w hw af hc an;have ao:C0.ds=[]:=by obtain⟨S0,_,h⟩:=hc;rw[<-h.defers];exact an
 simp only[Tryz.f255] at hc⊢;refine P0 Bz HV (by decide) (by decide) (s':=⟨[(2,.ptr 0 0),(1,.im (kyF op))],[(0,(true,.cells 50 [.im (.sl true 0 [])]))],2⟩) hc ?_ ?_ (by rw[af];exact Bj _) (λa w hc=> ?_)
 .simp(disch:=omega)only[ZA,simprocAttr,endS,sub,B7,BH,cnum,entry]
 .simp[Ac.good,belT,belH,belL,Ai,AV.bel]
 refine wpIn_seq ?_;refine P0 Bz HV (by decide) (by decide) (s':=⟨[(6,.im (kyF op)),(2,.ptr 0 0)],[(0,(true,.cells 50 [.im (.sl true 0 [])]))],2⟩) hc ?_ ?_ (by rw[af];exact Bj _) (λa w hc=> ?_)
 .simp(disch:=omega)only[ZA,simprocAttr,endS,sub]
 .simp[Ac.good,belT,belH,belL,Ai,AV.bel]
 refine wpIn_block (wpIn_mono (NJ Bz HV hc (gf:=224) (capt:=[.ref [.mp ktP (op.map Br)]]) (X:=givK op) (FW (by kernel_rfl)) (keys_iter op)
  (λ(i:OpM×List Aa)=>(i.2++i.1.map Prod.fst).Perm (op.map Prod.fst)) (LB _) ?_ (by decide) (by decide) (by decide) (by decide) ?_ (by decide)
  (tm0:=[(6,.im (kyF op)),(2,.ptr 0 0)]) (hs:=λ(i:OpM×List Aa)=>[(0,(true,.cells 50 [.own 2])),(2,(true,.arr 96 2 (i.2.map Aa.c)))]) (nx:=3) ⟨[(2,none)],?_⟩ rfl (by simp) ?_ ?_ ?_ ?_) ?_)
 .rintro⟨left,O⟩ x j G ⟨k,p,hk,rfl,rfl⟩;simp only at hk G⊢;have h1:(left.map Prod.fst).Perm (p.1::(left.eraseIdx k).map Prod.fst):=by
   exact (NG left k p hk).map Prod.fst
  refine List.Perm.trans ?_ G;rw[DA];exact (h1.append_left O).symm
 .rintro⟨left,O⟩ x j G ⟨k,p,hk,rfl,rfl⟩;rfl
 .simp only[subP];simp(disch:=omega)only[ZA,simprocAttr,IU];exact (trivial:nilE true (.arr 0 0 []))
 .simp[belT,AV.bel]
 .rintro⟨left,O⟩ G;simp[Ac.good,belT,belH,belL,Ai,AV.bel]
 .intro i o e he hv;rw[HE _ (by rfl) o e he] at hv;cases hv
 .rintro⟨left,O⟩ x j G ⟨k,p,hk,rfl,rfl⟩;have as:O.length<=op.length:=by
   have:=G.length_eq
   simp at this;omega
  simp(disch:=omega)only[ZA,simprocAttr,asgQ,rndQ,parT];refine⟨λrow ab=>by rw[AO] at ab;subst ab;rfl,by omega,[(2,some 5)],?_⟩;simp only[subP];simp(disch:=omega)only[ZA,simprocAttr,AC,Di]
 .rintro e a' w' ⟨⟨left,O⟩,G,ac,hq⟩;simp only[givK] at ac;subst ac;simp only[D2,BJ] at G;cases e<;>simp only[rngQ] at hq;obtain⟨C2,S2,Dk,rfl,hE,Z,ht,hd,ag,ah,ai,aj,ak⟩:=hq;simp only[Exit.inBlock,Exit.then];have am:a.defers=[]:=by obtain⟨S0,_,h⟩:=hc;rw[h.defers];exact ao
  rw[am] at hd;have hm: ∀a'':Act,a''.defers=C2.ds->Pk C0 C2 a''.defers:=λa'' h=> .inr ⟨Dk,by rw[h,<-hE.defers,hd],ag,ah,ai,aj,ak⟩
  refine wpIn_mono (LP (ro:=none) Bz HV _ (by decide) (by decide) (retXQ Tryz.prog [ResultVar.tmp 4] (appQ op)) _ a' S2.w ?_ ⟨S2,rfl,hE⟩) ?_
  .simp(disch:=omega)only[ZA,simprocAttr,retXQ,retX,appQ];exact⟨_,rfl,O,G,2,rfl,rfl⟩
  .intro e a'' w'' hq;cases e<;>simp only[toQ] at hq<;>simp only[rngP]
   .obtain⟨s',aa,z⟩:=hq;exact⟨s',C2,aa,z,Z,hm a'' (by obtain⟨S0,_,h⟩:=z;exact h.defers)⟩
   .obtain⟨s',aa,z⟩:=hq;exact aa.elim
   .obtain⟨s',aa,z⟩:=hq;exact⟨s',C2,aa,z,Z,hm a'' (by obtain⟨S0,_,h⟩:=z;exact h.defers)⟩
def srtQ_dom(a:List Aa)(j:Nat):domB (srtQ.H0 a) j=true↔j<1:=by
 simp only[domB,srtQ.H0,hget];by_cases z:j=0
 .subst z;simp
 .have:(0==j)=false:=by simpa using λh=>z h.symm
  rw[this];simp;omega
def ColQ(op:OpM)(S:Env)(v:Value)(w:World):Prop:= ∃(z:Ctx) (S1:Env) (l:List Aa) (m:Nat),S1.w=w/\z.w=S.w/\z.ok=S.ok/\(∀b,¬z.M b)/\Wf z S1/\l.Perm (op.map Prod.fst)/\S1.h m=some (true,.arr 96 2 (l.map Aa.c))/\conc S1 (.own m) v
def collect{op:OpM}(hb:op.length<=1000000){C:Ctx}{S:Env}{v1:Value}(hW:Wf C S)(hv:PKL S [.val (kyF op)] [v1]):
 Calls Tryz.prog 222 #[v1] S.w (λe w=> ∃v,e= .returned v/\ColQ op S v w):=by
 have z:Calls Tryz.prog 255 #[.slice none 0 0,v1] S.w (λe w=> ∃v,e= .returned v/\ColQ op S v w):=by
  refine appSeq hb hW ⟨_,_,rfl,?_,hv⟩ (λv G S1 l m g1 g2 O Q Z g6 g7=>⟨v,rfl,G,S1,l,m,rfl,g1,g2,O,Q,Z,g6,g7⟩);exact Kt S (.slice none 0 0)
 go_enter Tryz.func222,Tryz.ntmps222
 go_wp2_with (go_at_call 255;refine z.mono ?_;rintro e w' ⟨v,rfl,h⟩)
 go_ret
 exact⟨v,rfl,h⟩
def sort_call{Z:Ctx}{S1:Env}{l:List Aa}{m:Nat}{v Q:Value}{R:Ending->World->Prop}(hW:Wf Z S1)(hd:l.Nodup)(hm:S1.h m=some (true,.arr 96 2 (l.map Aa.c)))(hv:conc S1 (.own m) v)(ab:conc S1 (.im (.fn 161 [] [])) Q)
 (G: ∀u S',Wf Z S'->S'.h m=some (true,.arr 96 2 ((AZ l).map Aa.c))->conc S' (.own m) v->R (.returned u) S'.w):
 Calls Tryz.prog 223 #[v,Q] S1.w R:=by
 have O:srtQ.row [.own m,.im (.fn 161 [] [])] S1.h (m+1) (λr E=>E={use:=[m],kill:=[m],new:=[(m,(true,.arr 96 2 ((AZ l).map Aa.c)))],cnt:=0}):=by
  refine orow.os l [m] hd (srtQ_dom l) rfl (by simp[IP]) ⟨rfl,?_⟩ ?_
  .simp only[srtQ.H0,Bu,sgx,osn];exact⟨hm,trivial⟩
  .rfl
 obtain⟨_,r,E,hT,rfl⟩:=srtQ.ok _ _ _ _ O;have z: ∀n,¬Fr (m+1) 0 n:=λn h=>by have:=h.1;have:=h.2;omega
 refine hT Z S1 #[v,Q] R hW (λn _=>rfl) (λn hn=>(z n hn).elim) (λn e _ k _ hk=>z k hk) ⟨v,[Q],rfl,hv,Q,[],rfl,ab,rfl⟩ ?_;intro u S' aa hh hp _;refine G u S' aa ?_ (DV hp _ _ (λo _ hf=>z o hf) hv);rw[hh];simp[Eff.appf,hget]
def sorF.ar:List PK->Option OpM
 |[.val (.fn 224 [] [.ref [.mp ⟨true,[.int .i64,.int .i64]⟩ z]]),.val (.fn 161 [] [])]=>decM (vAgg Aa.d) (vSl intD) z
 |_=>none
def sorF.ae(op:OpM):List PK:=[.val (kyF op),.val (.fn 161 [] [])]
def sorF.le: ∀z a,sorF.ar z=some a->LeKL z (sorF.ae a):=by
 intro z a h;unfold sorF.ar at h;split at h
 .exact⟨Hy ⟨Ha (LeS.leP ⟨le_mp (Rj Uo (Oh BB (λ_=>rfl)) _ _ h),trivial⟩),trivial⟩,LeK.refl _,trivial⟩
 .cases h
def sorF.fv(op:OpM):List Aa:=AZ (op.map Prod.fst)
def sorF.row:Row:=Fj sorF.ar (λop=>(op.map Prod.fst).Nodup/\op.length<=1000000) (λop=> .sl false 2 ((sorF.fv op).map Aa.c))
def sorF.q:=vqF sorF.row rfl
def sorF.ok:Ak Tryz.prog 197 sorF.row:=by
 refine Uh (by kernel_rfl) sorF.le (rc:=vSl Aa.d) (re:=λb=> .sl false 2 (b.map Aa.c)) (Oh Aa.d_le (λ_=>rfl)) (f:=sorF.fv) (λop Q C S vs RR hW Z O=> ?_);obtain⟨ad,hb⟩:=Q;simp only[sorF.ae,PKL] at Z;obtain⟨v1,r1,ai,ag,v2,r2,rfl,ah,rfl⟩:=Z;have ab:vs= #[v1,v2]:=by apply Gh;simpa using ai
 subst ab;have G:=collect hb hW (v1:=v1) ⟨v1,[],rfl,ag,rfl⟩
 go_enter Tryz.func197,Tryz.ntmps197
 have aa: ∀S1:Env,conc S1 (.im (.fn 161 [] [])) v2:=λS1=>by simpa only[PKc,conc,rd,rdl] using ah
 have af: ∀(z:Ctx) (S1:Env) (l:List Aa) (m:Nat) (v:Value),Wf z S1->l.Perm (op.map Prod.fst)->S1.h m=some (true,.arr 96 2 (l.map Aa.c))->conc S1 (.own m) v->
  Calls Tryz.prog 223 #[v,v2] S1.w (λe w=> ∃u S',e= .returned u/\S'.w=w/\Wf z S'/\S'.h m=some (true,.arr 96 2 ((sorF.fv op).map Aa.c))/\conc S' (.own m) v):=by
  intro z S1 l m v g4 g5 g6 g7;refine sort_call g4 (g5.nodup_iff.2 ad) g6 g7 (aa S1) (λu S' h1 h2 h3=>⟨u,S',rfl,rfl,h1,?_,h3⟩)
  have:AZ l=AZ (op.map Prod.fst):=Kp (FM _) (FM _) (λq=>by rw[EL,EL];exact g5.mem_iff)
  rw[h2,this];rfl
 go_wp2_with (first
  |(go_at_call 222;refine G.mono ?_;rintro e w' ⟨v,rfl,z,S1,l,m,rfl,g1,g2,g3,g4,g5,g6,g7⟩)
  |(go_at_call 223;refine (af z S1 l m v g4 g5 g6 g7).mono ?_;rintro e w' ⟨u,S',rfl,rfl,h1,h2,h3⟩))
 show RR (.returned v) S'.w;obtain⟨d,rfl,ac⟩:=UN (K:=λd=>d= .sl false 2 ((sorF.fv op).map Aa.c)) g3 h1 (x:= .own m) (by
  simp only[frP,h2,frO];exact⟨by intro row hr;obtain⟨p,_,rfl⟩:=AF.1 hr;rfl,trivial⟩) h3
 exact O v z S' _ g1 g2 g3 h1 (by simp only[decD,vSl,Aa.d_R]) ac
def keyC.ca(_:OpM):List AV:=[.mp 0]
def keyC.H0(a:OpM):Ag:=[(0,(true,.map ktP (a.map Br)))]
def keyC.H1(_:OpM):Ag:=[(1,(true,.cells 153 [.mp 0]))]
def keyC.r0(_:OpM):AV:= .clo 224 [] [.ptr 1 0]
def keyC.row:Row:=orow keyC.ca keyC.H0 1 (λ_=>True) (λ_=>false) keyC.r0 keyC.H1 1
def keyC.ok:Ak Tryz.prog 198 keyC.row:=by
 refine ow tN Tryz.func198 rfl (by kernel_rfl) (exB:=λj=>j==1) (R:=λa r=>r=keyC.r0 a) (λ_=>rfl)
  (λa=>by simp[keyC.ca,keyC.H0,belL,AV.bel,belH,Ai,AT,AObj.nms,domB,hget]) (λa p hp=> ?_) (λa r h=>by subst h;exact LeV.refl _) ?_
 rotate_left
 intro a z;simp only[Tryz.f198,keyC.ca,keyC.H0,keyC.H1,keyC.r0];simp(disch:=omega)only[ZA,simprocAttr];simp[keyC.H1] at hp;subst hp;exact .inr ⟨by omega,by omega,rfl,rfl⟩
end Go.Ae
namespace Go.Ae
open Go.Proofs
def lkG_mem{β:Type}{v:β}{p:Aa}: ∀{t:List (Aa×β)},lkP t p=some v->(p,v)∈t
 |(q,w)::r,h=>by
  simp only[lkP] at h;split at h
  .rename_i e;obtain rfl:=Al h;rw[e];exact AU ..
  .exact AX _ (lkG_mem h)
def NK{β:Type}{p:Aa}: ∀{t:List (Aa×β)},lkP t p=none->p∉t.map Prod.fst
 |[],_=>by simp
 |(q,w)::r,h=>by
  simp only[lkP] at h;split at h
  .cases h
  .rename_i e;simp only[Ay,A9,JE];exact⟨e,NK h⟩
def keyC_dom(a:OpM)(j:Nat):domB (keyC.H0 a) j=true↔j<1:=by
 simp only[domB,keyC.H0,hget];by_cases h0:j=0
 .subst h0;simp
 .have z:(0==j)=false:=by simp;omega
  simp[z];omega
def lisC.r0(a:Cry):AV:= .im (.sl false 3 ((Dm a.Op).map Opt.c))
def lisC.row:Row:=orow asmC.ca cryH 3 (λa=>(a.Op.map Prod.fst).Nodup/\a.Op.length<=1000000/\ ∀q∈a.Op,q.2.length<=1000) (λ_=>false) lisC.r0 (λ_=>[]) 20
def lisC.ok:Ak Tryz.prog 155 lisC.row:=by
 refine owN (tC keyC.ok (tC sorF.ok tN)) Tryz.func155 rfl (by kernel_rfl) (exB:=λ_=>false) (R:=λa r=>r=lisC.r0 a) (λ_=>rfl)
  (λa=>by simp[asmC.ca,cryH,AW,belL,AV.bel,belH,Ai,AT,AObj.nms,nmsL,AV.nms,domB,hget]) (λa p hp=> ?_) (λa r h=>by subst h;exact LeV.refl _) ?_
 rotate_left
 intro a ab;simp only[Tryz.f155,asmC.ca,cryH,AW];simp(disch:=omega)only[ZA,simprocAttr];obtain⟨Z,aa,af⟩:=ab;refine orow.os a.Op [2] trivial (λj=>keyC_dom _ j) rfl rfl ?_ ?_
 .simp(disch:=omega)only[ZA,simprocAttr,ORB,keyC.ca,keyC.H0,B8];rfl
 simp(disch:=omega)only[ZA,simprocAttr,rch,sorF.q,sorF.ar,sorF.fv,ORB,keyC.H1,keyC.r0];obtain⟨L,hL⟩: ∃L,L=AZ (a.Op.map Prod.fst):=⟨_,rfl⟩;obtain⟨g,hg⟩: ∃g:Aa->List Int,g=λp=>(lkP a.Op p).getD []:=⟨_,rfl⟩
 have ad:Dm a.Op=Bi g L:=by rw[hg,hL];rfl
 refine⟨⟨Z,aa⟩,?_⟩;simp only[<-hL];intro ag;refine Au.ren ⟨{i:Nat//i<=L.length},λi=>⟨[(15,.im (.int .i64 i.1)),(14,.im (.int .i64 L.length)),(13,.im (.sl false 2 (L.map Aa.c))),(3,.own 6),(0,.ptr 0 0)],[(6,(true,.arr 108 3 ((Ca g L i.1).map Opt.c))),(0,(true,.cells 155 (AW a.Sys))),(1,(true,.map ⟨true,[.int .i64,.int .i64]⟩ (a.Tl.map BO))),(2,(true,.map ⟨true,[.int .i64,.int .i64]⟩ (a.Op.map Br)))],7⟩,λi=>L.length - i.1,λi=>⟨by simp[Ac.good,belT,belH,Ai,AV.bel,belL,AW],by simp⟩,⟨⟨0,Bj _⟩,[(6,some 4)],?_⟩,λi=> ?_⟩
 .simp only[subP,AW];simp(disch:=omega)only[ZA,simprocAttr,AC,Ca,Bi]
  try simp
 obtain⟨i,hi⟩:=i;simp only[AW];simp(disch:=omega)only[ZA,simprocAttr,C4,Aq,lkVC_ps];have z: ∀p,(g p).length<=1000:=λp=>by
  rw[hg];simp only;cases hq:lkP a.Op p with
  |none=>simp
  |some v=>exact af _ (lkG_mem hq)
 have ah:L.length<=1000000:=by rw[hL,(Kr Z).length_eq,Dz];exact aa
 have ai:(Ca g L i).length<=1000000*1000:=by
  have:=Ii z (L.take i)
  have h9:(L.take i).length*1000<=1000000*1000:=DR _ (by simp;omega);simp only[Ca];omega
 refine⟨λO=>⟨O,λp hp=>⟨λv hv=> ?_,λhv=> ?_⟩⟩,λO=> ?_⟩
 .have G:g p=v:=by rw[hg];simp only[hv,Ao]
  have ac:=z p;rw[G] at ac;refine Au.ren ⟨{k:Nat//k<=v.length},λk=>⟨[(26,.im (.int .i64 k.1)),(25,.im (.int .i64 v.length)),(24,.im (.sl false 1 (v.map intC))),(5,.ptr 7 0),(15,.im (.int .i64 i)),(14,.im (.int .i64 L.length)),(13,.im (.sl false 2 (L.map Aa.c))),(3,.own 8),(0,.ptr 0 0)],[(8,(true,.arr 108 3 ((Ca g L i++(v.take k.1).map (mkO2 p)).map Opt.c))),(7,(true,.cells 96 ((Aa.c p).map .im))),(0,(true,.cells 155 (AW a.Sys))),(1,(true,.map ⟨true,[.int .i64,.int .i64]⟩ (a.Tl.map BO))),(2,(true,.map ⟨true,[.int .i64,.int .i64]⟩ (a.Op.map Br)))],9⟩,λk=>v.length - k.1,λk=>⟨by simp[Ac.good,belT,belH,Ai,AV.bel,belL,AW,Aa.c],by simp⟩,⟨⟨0,Bj _⟩,[(8,some 6)],?_⟩,λk=> ?_⟩
  .simp only[subP,AW];simp(disch:=omega)only[ZA,simprocAttr,AC]
   try simp
  obtain⟨k,hk⟩:=k;simp only[AW];simp(disch:=omega)only[ZA,simprocAttr,ORB,Aq,FI,FE,PJ,allD,D.one,B5];refine⟨λQ=>⟨Q,λx hx=>⟨?_,⟨k+1,by omega⟩,[(8,some 10)],by simp only;omega,?_⟩⟩,λQ=>⟨⟨i+1,by omega⟩,[(6,some 8)],by simp only;omega,?_⟩⟩
  .have:(v.take k).length<=1000:=by simp;omega
   omega
  .simp only[subP];simp(disch:=omega)only[ZA,simprocAttr,AC];refine⟨by rw[Am (by omega) (by omega)];rfl,?_⟩;rw[Fq hx];simp[mkO2,Opt.c]
  .obtain rfl:k=v.length:=by omega
   simp only[subP];simp(disch:=omega)only[ZA,simprocAttr,AC];refine⟨by rw[Am (by omega) (by omega)];rfl,?_⟩;rw[ND hp,Dh,G]
 .exfalso
  have:p∈L:=Ax hp
  rw[hL,EL] at this;exact NK hv this
 .obtain rfl:i=L.length:=by omega
  have hA:Ca g L L.length=Dm a.Op:=by rw[Ca,Dh,ad]
  rw[hA];refine⟨[6],[],⟨[(2,.im (.sl false 3 ((Dm a.Op).map Opt.c)))],[(0,(true,.cells 155 (AW a.Sys))),(1,(true,.map ⟨true,[.int .i64,.int .i64]⟩ (a.Tl.map BO))),(2,(true,.map ⟨true,[.int .i64,.int .i64]⟩ (a.Op.map Br)))],3⟩,?_,by simp[Ac.good,belT,belH,Ai,AV.bel,belL,AW],by simp,?_⟩
  .simp only[subP,AW];simp(disch:=omega)only[ZA,simprocAttr,AC]
  .simp only[AW];simp(disch:=omega)only[ZA,simprocAttr,lisC.r0]
 simp at hp
def schB1.fv(a:Int):Bool:=(badS) a
def schB1.row:Row:=vK (b1 qI) rB (λa=>True) schB1.fv
def schB1.q:=vKq (R:=schB1.row) rfl
def schB1.ok:Ak Tryz.prog 101 schB1.row:=by
 refine vw (tC within_.ok tN) Tryz.func101 rfl (by kernel_rfl) ?_;intro a z;simp only[Tryz.f101];simp(disch:=omega)only[ZA,simprocAttr,schB1.fv,within_.q,within_.fv];rfl
def IdxSc.ar:List PK->Option ((List Int)×Unit)
 |[.val (.sl _ _ z),.val (.fn 101 [] [])]=>(decR intD z).bind λG=>some (G,())
 |_=>none
def IdxSc.ae(a:(List Int)×Unit):List PK:=[.val (.sl false 1 (a.1.map intC)),.val (.fn 101 [] [])]
def IdxSc.le: ∀z a,IdxSc.ar z=some a->LeKL z (IdxSc.ae a):=by
 intro z a h;unfold IdxSc.ar at h;split at h
 .simp only[Cb,An] at h;obtain⟨G,h0,rfl⟩:=h;exact⟨BL (BG BB _ _ h0) (by simp only[AF];rintro r ⟨y,_,rfl⟩;rfl),LeK.refl _,trivial⟩
 .cases h
def IdxSc.fv(a:(List Int)×Unit):Int:=(λl _=>AA badS 0 l) (a.1) (a.2)
def IdxSc.row:Row:=vrow IdxSc.ar (λa=>True) (λa=>(D.int .i64) (IdxSc.fv a))
def IdxSc.q:=vq IdxSc.row rfl
def IdxSc.ok:Ak Tryz.prog 150 IdxSc.row:=by
 refine Ia Bz (tC schB1.ok tN) Tryz.func150 rfl (by kernel_rfl) (by kernel_rfl) (ar:=IdxSc.ar) (ae:=IdxSc.ae) IdxSc.le (n:=2) (λ_=>rfl) (by decide) (rc:=(vInt)) (re:=(D.int .i64)) (F2) (f:=IdxSc.fv) ?_;intro a O;simp only[Tryz.f150];simp(disch:=omega)only[ZA,simprocAttr,IdxSc.ae,IdxSc.fv];intro hn;refine Au.old ⟨{k:Nat//k<=a.1.length/\AA badS k (a.1.drop k)=AA badS 0 a.1},λk=>⟨[(8,.im (.int .i64 k.1)),(7,.im (.int .i64 a.1.length)),(6,.im (.sl false 1 (a.1.map intC))),(4,.im (.int .i64 0)),(0,.im (.sl false 1 (a.1.map intC))),(1,.im (.fn 101 [] []))],[],0⟩,λk=>a.1.length - k.1,λk=>⟨by simp[Ac.good,belT,belH,Ai,AV.bel],Ar _⟩,⟨⟨0,by simp⟩,by simp(disch:=omega)only[ZA,simprocAttr,sub]⟩,λk=> ?_⟩;obtain⟨k,Q,z⟩:=k;simp(disch:=omega)only[ZA,simprocAttr,schB1.q,schB1.fv,sub,Aq];refine⟨λG=>⟨G,λx Z=> ?_⟩,λG=> ?_⟩
 .rw[Cw Z,AA] at z;refine⟨λh=> ?_,λh=>CZ G hn ⟨by omega,by rw[<-z,Ab (by simpa using h)]⟩⟩;rw[Af (by simpa using h)] at z;exact z
 .rw[B9 (by omega),AA] at z;exact z
def ContSc.ar:List PK->Option ((List Int)×Unit)
 |[.val (.sl _ _ z),.val (.fn 101 [] [])]=>(decR intD z).bind λG=>some (G,())
 |_=>none
def ContSc.ae(a:(List Int)×Unit):List PK:=[.val (.sl false 1 (a.1.map intC)),.val (.fn 101 [] [])]
def ContSc.le: ∀z a,ContSc.ar z=some a->LeKL z (ContSc.ae a):=by
 intro z a h;unfold ContSc.ar at h;split at h
 .simp only[Cb,An] at h;obtain⟨G,h0,rfl⟩:=h;exact⟨BL (BG BB _ _ h0) (by simp only[AF];rintro r ⟨y,_,rfl⟩;rfl),LeK.refl _,trivial⟩
 .cases h
def ContSc.fv(a:(List Int)×Unit):Bool:=(λl _=>l.any badS) (a.1) (a.2)
def ContSc.row:Row:=vrow ContSc.ar (λa=>True) (λa=>(D.bool) (ContSc.fv a))
def ContSc.q:=vq ContSc.row rfl
def ContSc.ok:Ak Tryz.prog 100 ContSc.row:=by
 refine Ia Bz (tC IdxSc.ok tN) Tryz.func100 rfl (by kernel_rfl) (by kernel_rfl) (ar:=ContSc.ar) (ae:=ContSc.ae) ContSc.le (n:=2) (λ_=>rfl) (by decide) (rc:=(Hn)) (re:=(D.bool)) (LF) (f:=ContSc.fv) ?_;intro a z;simp only[Tryz.f100];simp(disch:=omega)only[ZA,simprocAttr,ContSc.ae,ContSc.fv,IdxSc.q,IdxSc.ar,IdxSc.fv];exact TN _ _
def vSch_.fv(a:(List Int)):Bool:=(BU) a
def vSch_.row:Row:=vK (b1 (qS BB Bm)) rB (λa=>True) vSch_.fv
def vSch_.q:=vKq (R:=vSch_.row) rfl
def vSch_.ok:Ak Tryz.prog 52 vSch_.row:=by
 refine vw (tC ContSc.ok tN) Tryz.func52 rfl (by kernel_rfl) ?_;intro a z;simp only[Tryz.f52];simp(disch:=omega)only[ZA,simprocAttr,vSch_.fv,ContSc.q,ContSc.ar,ContSc.fv];intro _;simp only[BU];by_cases c:a.length<=200
 .rw[Af (by omega),P8 c,BY]
 .rw[Ab (by omega),JB c,CA]
def sel1_.fv(a:Int×Int×(List Int)):Int:=(λn k l=>(schN l n.toNat k.toNat:Int)) (a.1) (a.2.1) (a.2.2)
def sel1_.row:Row:=vK (b3 qI qI (qP 1 KR)) rI (λa=>1<=a.1/\a.1<=1000000/\0<=a.2.1/\a.2.1<=1000/\BU a.2.2=true) sel1_.fv
def sel1_.q:=vKq (R:=sel1_.row) rfl
def sel1_.ok:Ak Tryz.prog 154 sel1_.row:=by
 refine vw tN Tryz.func154 rfl (by kernel_rfl) ?_;intro a z;simp only[Tryz.f154];simp(disch:=omega)only[ZZ,simprocAttr,sel1_.fv];obtain⟨n,k,l⟩:=a;obtain⟨h1,h2,Q,h4,Z⟩:=z;simp only at h1 h2 Q h4 Z⊢;obtain⟨n,rfl⟩: ∃m:Nat,n=m:=⟨n.toNat,by omega⟩;obtain⟨k,rfl⟩: ∃m:Nat,k=m:=⟨k.toNat,by omega⟩;intro _;by_cases c:(l.length:Int)=0
 .rw[Af c];simp only[schN];rw[Af (by omega)];rfl
 rw[Ab c];refine⟨c,RG _ Q,Ry _ (by omega),λx G=>⟨by omega,?_⟩⟩;have O:=Ob Z (Ax G);rw[Ly (by omega),<-Int.natCast_emod,AH] at G;simp only[schN,AH];rw[Ab (by omega),G,Ao,Ly O.1,Vn (Int.emod_nonneg _ (by omega))]
def slD:D->Option (List Int)
 | .fn g [] [.ref ds]=>if g=154 then Gw ds else none
 |_=>none
def slD_le: ∀d b,slD d=some b->Le d (.fn 154 [] [.ref (Bo b)]):=by
 intro d b h;unfold slD at h;split at h
 .rename_i g ds;split at h
  .rename_i z;subst z;refine Hy ?_;exact⟨Ha (KR _ _ h).leP,trivial⟩
  .cases h
 .cases h
def sel_.fv(a:(List Int)):List Int:=(λl=>l) a
def sel_.row:Row:=vK (b1 (qS BB Bm)) (RK.mk (slD) (λa=>D.fn 154 [] [.ref (Bo a)]) (slD_le)) (λa=>True) sel_.fv
def sel_.q:=vKq (R:=sel_.row) rfl
def sel_.ok:Ak Tryz.prog 108 sel_.row:=by
 refine vw tN Tryz.func108 rfl (by kernel_rfl) ?_;intro a z;simp only[Tryz.f108];simp(disch:=omega)only[ZA,simprocAttr,sel_.fv];refine .inl ?_;show (if 154=154 then Gw (Bo a) else none)=some a;rw[Af rfl,sintD_c]
def asmX.ca(l:List Ad):List AV:=[.im (.sl false 3 (l.map Ad.c))]
def asmX.H1(l:List Ad):Ag:=[(0,(true,.arr 137 3 ((Cp l).map Ad.c)))]
def asmX.r0(_:List Ad):AV:= .agg [.own 0]
def asmX.row:Row:=orow asmX.ca (λ_=>[]) 0 (λl=>(l.map Ad.At).Nodup/\l.length<=1000000) (λ_=>false) asmX.r0 asmX.H1 20
def asmX.ok:Ak Tryz.prog 111 asmX.row:=by
 refine owN (tC clonC.ok (tC srt.ok tN)) Tryz.func111 rfl (by kernel_rfl) (exB:=λj=>j==0) (R:=λa r=>r=asmX.r0 a) (λ_=>rfl)
  (λa=>by simp[asmX.ca,belL,AV.bel,belH,Ai,AT]) (λa p hp=> ?_) (λa r h=>by subst h;exact LeV.refl _) ?_
 rotate_left
 intro a z;simp only[Tryz.f111,asmX.ca,asmX.H1];simp(disch:=omega)only[ZA,simprocAttr];refine orow.os a [] z.2 (λj=>by simp[domB,hget]) rfl rfl ?_ ?_
 .simp(disch:=omega)only[ZA,simprocAttr,clonC.ca,Bu]
 simp(disch:=omega)only[ZA,simprocAttr,clonC.H1];refine orow.os a [1] z.1 (λj=> ?_) rfl rfl ?_ ?_
 .simp only[domB,srt.H0,hget];by_cases G:j=0
  .subst G;simp
  .have:(0==j)=false:=by simpa using λh=>G h.symm
   rw[this];simp;omega
 .simp(disch:=omega)only[ZA,simprocAttr,ORB,srt.ca,srt.H0,Bu]
  try exact⟨rfl,rfl⟩
 simp(disch:=omega)only[ZA,simprocAttr,C4,ORB,srt.H1,B8,Cn];refine⟨[],[(1,some 0),(0,some 1)],⟨[(2,.ptr 1 0)],[(1,(true,.cells 39 [.own 0])),(0,(true,.arr 137 3 ((Cp a).map Ad.c)))],2⟩,?_,by simp[Ac.good,belT,belH,Ai,AV.bel,belL],by simp,?_⟩
 .simp only[subP];simp(disch:=omega)only[ZA,simprocAttr,AC]
  try simp
 .simp(disch:=omega)only[ZA,simprocAttr,asmX.r0]
 simp[asmX.H1] at hp;subst hp;exact .inr ⟨by omega,by omega,rfl,rfl⟩
def asmXV.ar:List PK->Option (List Ad):=a1 (kS Ad.d)
def asmXV.row:Row:=Ct asmXV.ar (λl=>(l.map Ad.At).Nodup/\l.length<=1000000) asmX.r0 asmX.H1 20
def asmXV.ok:Ak Tryz.prog 111 asmXV.row:=
 Nw (A:=List Ad) (ca:=λ(a:List Ad)=>[D.sl false 3 (a.map Ad.c)]) (by kernel_rfl) asmX.ok (λ_=>rfl) (a1_le (kS_le 3 Ad.d_le (λ_=>rfl)))
  (λa=>by simp[asmX.r0,scV,scVL,AV.nms,nmsL])
  (λa p hp=>by
   simp only[asmX.H1,AO] at hp;subst hp;exact⟨by omega,rfl,by simp[scO,Ad.c,D.sc],by simp[AObj.nms]⟩)
def Ct.os{A:Type}{ar:List PK->Option A}{pre:A->Prop}{r0:A->AV}{H1:A->Ag}{cnt:Nat}{args:List AV}{h:Nat->Option Ent}{nx:Nat}{K:Kont}(ps:List PK)(G:pkFL h args=some ps)(a:A)(Q:ar ps=some a)(z:pre a)
 (O:K ((r0 a).ren (sgx (λj=>j) 0 nx)) {use:=rchL h args,new:=renH (sgx (λj=>j) 0 nx) (H1 a),cnt:=cnt}):Ct ar pre r0 H1 cnt args h nx K:=by
 unfold Ct;rw[G];simp only[Il,Q,decK];exact⟨z,O⟩
def pkOne{h:Nat->Option Ent}{o T k:Nat}{z:Bool}{rows:List (List D)}(g:h o=some (z,.arr T k rows)):pkFL h [.own o]=some [.val (.sl false k rows)]:=by
 simp only[pkFL,pkF,bk,g,Fs,pkFV,Ei,Bw]
def asmCX.H1(a:Cry):Ag:=[(1,(false,.map ⟨true,[.int .i64,.int .i64]⟩ (a.Tl.map BO))),(3,(true,.arr 137 3 ((asmT a.Tl).Tiles.map Ad.c)))]
def asmCX.row:Row:=orow asmC.ca cryH 3 (λa=>(a.Tl.map Prod.fst).Nodup/\a.Tl.length<=100000) klA (λ_=> .agg [.own 3]) asmCX.H1 20
def asmCX.ok:Ak Tryz.prog 56 asmCX.row:=by
 refine owN (tC asmXV.ok tN) Tryz.func56 rfl (by kernel_rfl) (exB:=λj=>j==3) (R:=λ_ r=>r= .agg [.own 3]) (λ_=>rfl)
  (λa=>by simp[asmC.ca,cryH,AW,belL,AV.bel,belH,Ai,AT,AObj.nms,nmsL,AV.nms,domB,hget]) (λa p hp=> ?_) (λa r h=>by subst h;exact LeV.refl _) ?_
 rotate_left
 intro a G;simp only[Tryz.f56,asmC.ca,cryH,AW,asmCX.H1];simp(disch:=omega)only[ZA,simprocAttr];obtain⟨ab,af⟩:=G;refine Au.ren ⟨{s:Option (D×D)×List (Aa×Int)×List Ad//(s.2.2++s.2.1.map mkPl).Perm (a.Tl.map mkPl)},λs=>⟨[(10,.it 5),(3,.own 6),(2,.ptr 3 0),(0,.ptr 0 0)],[(6,(true,.arr 137 3 (s.1.2.2.map Ad.c))),(5,(true,.iter s.1.1 (s.1.2.1.map BO))),(3,(true,.cells 39 [.im (.sl true 0 [])])),(0,(true,.cells 155 (AW a.Sys))),(1,(false,.map ⟨true,[.int .i64,.int .i64]⟩ (a.Tl.map BO))),(2,(true,.map ⟨true,[.int .i64,.int .i64]⟩ (a.Op.map Br)))],7⟩,λs=>s.1.2.1.length,λs=>⟨by simp[Ac.good,belT,belH,Ai,AV.bel,belL,AW],by simp⟩,⟨⟨(none,a.Tl,[]),by simp⟩,[(6,some 4)],?_⟩,λs=> ?_⟩
 .simp only[subP,AW];simp(disch:=omega)only[ZA,simprocAttr]
  try simp
 obtain⟨⟨ad,left,z⟩,O⟩:=s;simp only at O;simp only[AW];simp(disch:=omega)only[ZA,simprocAttr];refine⟨λhl=> ?_,λi p hp=> ?_⟩
 .have aa:left=[]:=by simpa using hl
  subst aa;rw[D2,BJ] at O;obtain⟨r1,r2,r3⟩:=Od ab O;refine Ct.os [.val (.sl false 3 (z.map Ad.c))] (pkOne rfl) z (by simp only[asmXV.ar,a1,kS,Ad.d_R,Ce]) ⟨r2,by omega⟩ ?_;simp(disch:=omega)only[ZA,simprocAttr,rch,C4,asmX.r0,asmX.H1,r1];refine⟨[],[(3,some 7),(4,some 3)],⟨[(2,.ptr 4 0)],[(4,(true,.cells 39 [.own 3])),(3,(true,.arr 137 3 ((asmT a.Tl).Tiles.map Ad.c))),(0,(true,.cells 155 (AW a.Sys))),(1,(false,.map ⟨true,[.int .i64,.int .i64]⟩ (a.Tl.map BO))),(2,(true,.map ⟨true,[.int .i64,.int .i64]⟩ (a.Op.map Br)))],5⟩,?_,by simp[Ac.good,belT,belH,Ai,AV.bel,belL,AW],by simp,?_⟩
  .simp only[subP,AW];simp(disch:=omega)only[ZA,simprocAttr,AC]
   try simp[asmT]
  .simp only[AW];simp(disch:=omega)only[ZA,simprocAttr,klA]
   try simp
 .rw[BI] at hp;cases hq:left[i]? with
  |none=>rw[hq] at hp;cases hp
  |some q=>
   rw[hq] at hp;obtain rfl:=Al hp;obtain⟨⟨Z,qy⟩,Q⟩:=q;simp only[BO,Aa.c];simp(disch:=omega)only[ZA,simprocAttr,ORC,B8,Cn];have hi:i<left.length:=by
    rcases Cz i left.length with h|h
    .exact h
    .rw[CH h] at hq;cases hq
   have ac:((⟨Z,qy⟩,Q)::left.eraseIdx i).Perm left:=Tu _ _ _ hq;have hP:((z++[(⟨⟨Z,qy⟩,Q⟩:Ad)])++(left.eraseIdx i).map mkPl).Perm (a.Tl.map mkPl):=by
    rw[DA];refine (Ya z ?_).trans O;exact ac.map mkPl
   have hcl:z.length<=a.Tl.length:=by
    have r3:=O.length_eq;simp at r3;omega
   refine⟨by omega,⟨⟨(some (D.agg [.int .i64 Z,.int .i64 qy],D.int .i64 Q),left.eraseIdx i,z++[(⟨⟨Z,qy⟩,Q⟩:Ad)]),hP⟩,[(6,some 9)],?_,?_⟩⟩
   .simp only[Vj];rw[Af hi];omega
   .simp only[subP];simp(disch:=omega)only[ZA,simprocAttr];simp[Ad.c,Rh]
 simp[asmCX.H1] at hp;rcases hp with rfl|rfl
 .exact .inl ⟨by omega,rfl,rfl⟩
 .exact .inr ⟨by omega,by omega,rfl,rfl⟩
def bind_law(s:Ah)(b:Asm)(o:Opt):E6 s.Set b o.At o.Tile 4=Bl s.Set (atA b) o.At o.Tile 4:=(HT ..).symm
def seqP(s:Ah)(l:List Opt):Prop:=setP s.Set/\BR s.Set s.Seed/\s.Set.Tiles.length<=160/\s.Seed.Tiles.length<=1000000/\EE s s.Seed l/\l.length<=500
def Iv{d:Nat}(hd:d<4):IntKind.i64.wrap (1*2^min d IntKind.i64.bits)=2^d:=by
 rcases (by omega:d=0\/d=1\/d=2\/d=3) with rfl|rfl|rfl|rfl<;>decide
def JY{d:Nat}(hd:d<4):(2:Int)^d<=8:=by
 rcases (by omega:d=0\/d=1\/d=2\/d=3) with rfl|rfl|rfl|rfl<;>decide
def JR(s:Aj)(f:Aa->Int)(p:Aa)(t d:Int):0<CX s f p t d↔(0<=f (AD p d)/\0<CT s t d (f (AD p d))):=by
 by_cases c:0<=f (AD p d)
 .have e:CX s f p t d=CT s t d (f (AD p d)):=Af c;rw[e];exact⟨λh=>⟨c,h⟩,λh=>h.2⟩
 .have e:CX s f p t d=0:=Ab c;rw[e];exact⟨λh=>by omega,λh=>(c h.1).elim⟩
def maskF_s(s:Aj)(f:Aa->Int)(p:Aa)(t:Int)(d:Nat)(h:0<=f (AD p d))(z:0<CT s t d (f (AD p d))):BS s f p t (d+1)=BS s f p t d+2^d:=by
 simp only[BS];rw[Af ((JR ..).2 ⟨h,z⟩)]
def HW(s:Aj)(f:Aa->Int)(p:Aa)(t:Int)(d:Nat)(h: ¬(0<=f (AD p d)/\0<CT s t d (f (AD p d)))):BS s f p t (d+1)=BS s f p t d:=by
 simp only[BS];rw[Ab (λq=>h ((JR ..).1 q)),Vy]
def l10Inputs.fv(a:Ah×(List Opt)):(List Int)×(List Int):=(λs l=>(insS s s.Seed l,smsS s s.Seed l)) (a.1) (a.2)
def l10Inputs.row:Row:=vK (b2 (qP 4 Ah.d_le) (qS Opt.d_le Opt.c_n)) (r2 (rS BB Bm) (rS BB Bm)) (λa=>seqP a.1 a.2) l10Inputs.fv
def l10Inputs.q:=vKq (R:=l10Inputs.row) rfl
def l10Inputs.ok:Ak Tryz.prog 118 l10Inputs.row:=by
 refine vw (tC l03Own.ok (tC l01Step.ok (tC l03At.ok (tC l02Bond.ok (tC l06Binding.ok (tC l03Put.ok tN)))))) Tryz.func118 rfl (by kernel_rfl) ?_;intro a G;simp only[Tryz.f118];simp(disch:=omega)only[ZA,simprocAttr,Asm.d,l10Inputs.fv,l03Own.q,l03Own.fv];obtain⟨s,l⟩:=a;simp only at G⊢;obtain⟨h1,h2,h3,h4,Z,h6⟩:=G;refine⟨h4,?_⟩;refine Au.ren ⟨{k:Nat//k<=l.length},λk=>⟨[(9,.im (.int .i64 k.1)),(8,.own 7),(7,.own 6),(6,.ptr 3 0),(0,.ptr 0 0),(1,.im (.sl false 3 (l.map Opt.c)))],[(7,(true,.arr 2 1 ((smsS s s.Seed (l.take k.1)).map intC))),(6,(true,.arr 2 1 ((insS s s.Seed (l.take k.1)).map intC))),(3,(true,.cells 39 [.im (.sl false 3 ((Aw s.Seed (l.take k.1)).Tiles.map Ad.c))])),(0,(false,.view (Ah.c s)))],8⟩,λk=>l.length - k.1,λk=>⟨by simp[Ac.good,belT,belH,Ai,AV.bel,belL],by simp⟩,⟨⟨0,by simp⟩,[(7,some 5),(6,some 4)],?_⟩,λk=> ?_⟩
 .simp only[subP];simp(disch:=omega)only[ZA,simprocAttr,insS,smsS,Aw]
  try simp
 obtain⟨k,ab⟩:=k;simp(disch:=omega)only[ZA,simprocAttr,Aq];intro _;obtain⟨b,hb⟩: ∃b,b=Aw s.Seed (l.take k):=⟨_,rfl⟩;have O:BR s.Set b:=by rw[hb];exact EG h3 h2 Z k ab
 rw[<-hb];refine⟨λhk=>⟨hk,λx hx=> ?_⟩,λhk=> ?_⟩
 .have hc:=Dj (Z k x hx).1;rw[<-hb] at hc;obtain⟨g1,g2,g3,g4,g5,g6⟩:=hc;refine Au.old ⟨{d:Nat//d<=4},λd=>⟨[(12,.im (.int .i64 d.1)),(11,.im (.int .i64 (BS s.Set (atA b) x.At x.Tile d.1))),(10,.ptr 8 0),(9,.im (.int .i64 k)),(8,.own 7),(7,.own 6),(6,.ptr 3 0),(0,.ptr 0 0),(1,.im (.sl false 3 (l.map Opt.c)))],[(8,(true,.cells 108 ((Opt.c x).map .im))),(7,(true,.arr 2 1 ((smsS s s.Seed (l.take k)).map intC))),(6,(true,.arr 2 1 ((insS s s.Seed (l.take k)).map intC))),(3,(true,.cells 39 [.im (.sl false 3 (b.Tiles.map Ad.c))])),(0,(false,.view (Ah.c s)))],9⟩,λd=>4 - d.1,λd=>⟨by simp[Ac.good,belT,belH,Ai,AV.bel,belL,Opt.c],by simp⟩,⟨⟨0,by simp⟩,by simp(disch:=omega)only[ZA,simprocAttr,sub,BS]⟩,λd=> ?_⟩;obtain⟨d,ac⟩:=d;simp(disch:=omega)only[ZA,simprocAttr,Asm.d,l01Step.q,l01Step.fv,l03At.q,l03At.fv,l02Bond.q,l02Bond.fv,l06Binding.q,l06Binding.fv,l03Put.q,l03Put.fv,sub,Aq];have ad:=Kb s.Set (atA b) x.At x.Tile d;refine⟨λhd=> ?_,λhd=> ?_⟩
  .have z:d<4:=by omega
   have af:=JY z;refine⟨⟨g2,by omega⟩,O.1,λc1=>⟨⟨h1,g5,⟨by omega,by omega⟩,EI O _ c1⟩,λQ=> ?_,λQ=> ?_⟩,λc1=> ?_⟩
   .refine⟨⟨d+1,by omega⟩,by simp only;omega,by rw[Am (by omega) (by omega)];simp only;omega,?_⟩;rw[Iv z,Am (by omega) (by omega),maskF_s _ _ _ _ _ c1 Q]
   .refine⟨⟨d+1,by omega⟩,by simp only;omega,by rw[Am (by omega) (by omega)];simp only;omega,?_⟩;rw[HW _ _ _ _ _ (λh=>Q h.2)]
   .refine⟨⟨d+1,by omega⟩,by simp only;omega,by rw[Am (by omega) (by omega)];simp only;omega,?_⟩;rw[HW _ _ _ _ _ (λh=>c1 h.1)]
  .have z:d=4:=by omega
   subst z;have aa:=(Z k x hx).2;rw[<-hb] at aa;refine⟨by simp[OneR,allD,D.one],by rw[G7,Bb];omega,⟨h1,O,g2,g5⟩,by simp[OneR,allD,D.one],by rw[G8,Bb];omega,by omega,⟨k+1,by omega⟩,[(7,some 12),(6,some 10)],by simp only;omega,?_⟩;simp only[subP,Fq hx,JL,JM,HP,<-hb];simp(disch:=omega)only[ZA,simprocAttr,AC];refine⟨by rw[Am (by omega) (by omega)];omega,?_,?_⟩
   .simp[intC,bind_law]
   .simp[intC]
 .rw[BX (by omega)]
  try trivial
def has_eq(m:Int)(d:Nat):(hasI m d=true)=(andI .i64 (m.fdiv (2^min d IntKind.i64.bits)) 1=1):=by
 simp only[hasI,AP,AH];rfl
def GF{p q:Aa}:((p.X==q.X)=true/\(p.Y==q.Y)=true)↔p=q:=by
 cases p;cases q;simp
def rm_free{s:Ah}{t:List (Aa×Int)}{a:Asm}{k:Nat}{o:Opt}(h:RM t a k)(Z:BR s.Set a)(c1:canS s a o=true):lkP t o.At=none/\0<=o.Tile:=by
 simp only[canS,Av,AP] at c1;obtain⟨d1,z,G,_⟩:=c1;have hv:0<=o.Tile:=by
  simp only[AE,Av,AP] at z;exact z.1
 refine⟨?_,hv⟩;have O:Bf t o.At=atA a o.At:=congrFun h.at o.At;have h2:=(FN Z.2 o.At).1 G;cases hq:lkP t o.At with
 |none=>rfl
 |some v=>
  exfalso;have Q:=h.pos _ (HJ hq);simp only[Bf,hq,Ao] at O;simp only at Q;omega
def plD:D->Option (Option Pld)
 | .ref ds=>(Pld.d (ds.take 8)).map some
 | .nilp=>some none
 |_=>none
def plE:Option Pld->D
 |some x=> .ref (Pld.c x)
 |none=> .nilp
def plD_le: ∀d b,plD d=some b->Le d (plE b):=by
 intro d b h;unfold plD at h;split at h
 .simp only[BF] at h;obtain⟨x,z,rfl⟩:=h;exact Ha (LeP.trans_take (Pld.d_le _ _ z))
 .obtain rfl:=Al h;exact Le.refl _
 .cases h
def plD_ref(x:Pld):plD (.ref (Pld.c x))=some (some x):=by
 show (Pld.d (Pld.c x)).map some=_;rw[Pld.d_c];rfl
def bindF_s(s:Aj)(f:Aa->Int)(p:Aa)(t:Int)(d:Nat)(h:0<=f (AD p d)):Bl s f p t (d+1)=Bl s f p t d+CT s t d (f (AD p d)):=by
 have e:CX s f p t d=CT s t d (f (AD p d)):=Af h;simp only[Bl,e]
def bindF_n{s:Aj}(hs:setP s)(f:Aa->Int)(p:Aa)(t:Int)(d:Nat)(h: ¬(0<=f (AD p d)/\0<CT s t d (f (AD p d)))):Bl s f p t (d+1)=Bl s f p t d:=by
 have z:=Lr hs f p t d;have G: ¬0<CX s f p t d:=λq=>h ((JR ..).1 q)
 simp only[Bl];omega
def En(s:Ah)(l:List Opt):Option Pld×Int:=if (seqS s l).2.2≠0 then (none,(seqS s l).2.2) else (some ⟨s,l,(seqS s l).1,insS s s.Seed l,smsS s s.Seed l⟩,0)
def seqS_ok{s:Ah}{l:List Opt}(h:(seqS s l).2.2=0):(seqS s l).1=Aw s.Seed l/\seqP s l/\C7 s=true:=by
 obtain⟨z,G⟩:=seq_ok h;obtain⟨⟨q1,Q,Z,q4⟩,_⟩:=DE z;have e:seqS s l=Bq s s.Seed l 0:=by
  simp only[seqS];rw[Ab (by rw[z];decide),Ab (by omega)]
 rw[e] at h⊢;obtain⟨p1,O⟩:=Nj l s.Seed 0 h;exact⟨by rw[p1],⟨q1,Q,Z,q4,O,G⟩,z⟩
def play_.fv(a:Ah×(List Opt)):(Option Pld)×Int:=(En) (a.1) (a.2)
def play_.row:Row:=vK (b2 (qR Ah.d_le) (qS Opt.d_le Opt.c_n)) (r2 (RK.mk (plD) (plE) (plD_le)) rI) (λa=>GS a.1.Set) play_.fv
def play_.q:=vKq (R:=play_.row) rfl
def play_.ok:Ak Tryz.prog 174 play_.row:=by
 refine vw (tC PlayI_.ok (tC newC.ok (tC step_.ok (tC catC.ok (tC bond_.ok (tC putC.ok tN)))))) Tryz.func174 rfl (by kernel_rfl) ?_;intro a O;simp only[Tryz.f174];simp(disch:=omega)only[ZA,simprocAttr,play_.fv,PlayI_.q,PlayI_.fv];obtain⟨s,l⟩:=a;simp only at O⊢;refine⟨O,?_⟩;simp only[seq_law];by_cases c0:(seqS s l).2.2=0
 case neg=>
  rw[Af c0];simp only[En,plD,Ce];rw[Af c0]
 rw[Ab (λh=>h c0)];have eR:En s l=(some ⟨s,l,(seqS s l).1,insS s s.Seed l,smsS s s.Seed l⟩,0):=by
  simp only[En];rw[Ab (λh=>h c0)]
 obtain⟨hE,⟨q1,q2,q3,q4,q5,q6⟩,ai⟩:=seqS_ok c0;obtain⟨_,q7,q8⟩:=DE ai;have ad:=OY (s:=s.Set) (a:=s.Seed) (by rw[q7,q8];rfl);have ah:newC.pre (s,s.Seed):=⟨q1,by simp only;omega,λy hy=>⟨q2.2 y hy,ad.1.2.2.2 y hy⟩⟩;obtain⟨e,he⟩: ∃e,e=(seqS s l).1:=⟨_,rfl⟩;rw[eR];simp only[<-he];refine orow.os (s,s.Seed) [] ah (λj=>by simp[domB,hget]) rfl rfl ?_ ?_
 .simp(disch:=omega)only[ZA,simprocAttr,newC.ca,Bu,Ah.c,Asm.c]
 simp(disch:=omega)only[ZA,simprocAttr,newC.H1];intro _;refine Au.ren ⟨{k:Nat×List (Aa×Int)×List (Aa×List Int)//k.1<=l.length/\ ∃n,RM k.2.1 (Aw s.Seed (l.take k.1)) n},λk=>⟨[(39,.im (.int .i64 k.1.1)),(38,.im (.int .i64 l.length)),(37,.im (.sl false 3 (l.map Opt.c))),(10,.ptr 7 0),(9,.ptr 2 0),(5,.im (.int .i64 0)),(2,.ptr 0 0)],[(2,(true,.cells 291 [.im (.sl false 2 (s.Set.Glues.map Glue.c)),.im (.sl false 2 (s.Set.Tiles.map Tile.c)),.im (.sl false 3 (s.Seed.Tiles.map Ad.c)),.im (.int .i64 s.Temperature),.im (.sl false 3 (l.map Opt.c)),.im (.sl false 3 (e.Tiles.map Ad.c)),.own 8,.own 9])),(9,(true,.arr 2 1 ((smsS s s.Seed (l.take k.1.1)).map intC))),(8,(true,.arr 2 1 ((insS s s.Seed (l.take k.1.1)).map intC))),(7,(true,.cells 155 [.im (.sl false 2 (s.Set.Glues.map Glue.c)),.im (.sl false 2 (s.Set.Tiles.map Tile.c)),.im (.sl false 3 (s.Seed.Tiles.map Ad.c)),.im (.int .i64 s.Temperature),.mp 5,.mp 6])),
  (5,(true,.map ⟨true,[.int .i64,.int .i64]⟩ (k.1.2.1.map BO))),(6,(true,.map ⟨true,[.int .i64,.int .i64]⟩ (k.1.2.2.map Br))),(0,(true,.cells 47 ((Ah.c s).map .im)))],10⟩,λk=>l.length - k.1.1,λk=>⟨by simp[Ac.good,belT,belH,Ai,AV.bel,belL,Ah.c],by simp⟩,⟨⟨(0,(EW s s.Seed).Tl,(EW s s.Seed).Op),by simp only;exact⟨Bj _,_,RM.of q2.1 (λx hx=>(q2.2 x hx).1)⟩⟩,[(9,none),(8,none)],?_⟩,λk=> ?_⟩
 .simp only[subP];simp(disch:=omega)only[ZA,simprocAttr,insS,smsS]
  try simp
 obtain⟨⟨k,Z,op⟩,ab,n,G⟩:=k;simp only at ab G;simp(disch:=omega)only[ZA,simprocAttr,Aq];obtain⟨b,hb⟩: ∃b,b=Aw s.Seed (l.take k):=⟨_,rfl⟩;have Q:BR s.Set b:=by rw[hb];exact EG q3 q2 q5 k ab
 rw[<-hb] at G;have aa:=G.at;refine⟨λhk=>⟨hk,λx hx=> ?_⟩,λhk=> ?_⟩
 .obtain⟨cS,cL⟩:=q5 k x hx;rw[<-hb] at cS cL;obtain⟨g1,g2,g3,g4,g5,g6⟩:=Dj cS;refine Au.old ⟨{d:Nat//d<=4},λd=>⟨[(43,.im (.int .i64 d.1)),(14,.im (.int .i64 (Bl s.Set (atA b) x.At x.Tile d.1))),(13,.im (.int .i64 (BS s.Set (atA b) x.At x.Tile d.1))),(12,.ptr 10 0),(39,.im (.int .i64 k)),(38,.im (.int .i64 l.length)),(37,.im (.sl false 3 (l.map Opt.c))),(10,.ptr 7 0),(9,.ptr 2 0),(5,.im (.int .i64 0)),(2,.ptr 0 0)],[(10,(true,.cells 108 ((Opt.c x).map .im))),(2,(true,.cells 291 [.im (.sl false 2 (s.Set.Glues.map Glue.c)),.im (.sl false 2 (s.Set.Tiles.map Tile.c)),.im (.sl false 3 (s.Seed.Tiles.map Ad.c)),.im (.int .i64 s.Temperature),.im (.sl false 3 (l.map Opt.c)),.im (.sl false 3 (e.Tiles.map Ad.c)),.own 8,.own 9])),(9,(true,.arr 2 1 ((smsS s s.Seed (l.take k)).map intC))),(8,(true,.arr 2 1 ((insS s s.Seed (l.take k)).map intC))),(7,(true,.cells 155 [.im (.sl false 2 (s.Set.Glues.map Glue.c)),.im (.sl false 2 (s.Set.Tiles.map Tile.c)),.im (.sl false 3 (s.Seed.Tiles.map Ad.c)),.im (.int .i64 s.Temperature),.mp 5,.mp 6])),
   (5,(true,.map ⟨true,[.int .i64,.int .i64]⟩ (Z.map BO))),(6,(true,.map ⟨true,[.int .i64,.int .i64]⟩ (op.map Br))),(0,(true,.cells 47 ((Ah.c s).map .im)))],11⟩,λd=>4 - d.1,λd=>⟨by simp[Ac.good,belT,belH,Ai,AV.bel,belL,Ah.c,Opt.c],by simp⟩,⟨⟨0,by simp⟩,by simp(disch:=omega)only[ZA,simprocAttr,sub,BS,Bl]⟩,λd=> ?_⟩
  obtain⟨d,am⟩:=d;simp(disch:=omega)only[ZA,simprocAttr,rch,step_.q,step_.fv,step_.re,catC.q,catC.fv,bond_.q,bond_.fv,bond_.re,sub,Aq,aa];have ac:=Kb s.Set (atA b) x.At x.Tile d;have ak:=Pz q1 (atA b) x.At x.Tile d;have aj:=Lr q1 (atA b) x.At x.Tile d;refine⟨λhd=> ?_,λhd=> ?_⟩
  .have z:d<4:=by omega
   have an:=JY z;refine⟨⟨g2,by omega⟩,λc1=>⟨⟨q1,g5,⟨by omega,by omega⟩,EI Q _ c1⟩,λc2=> ?_,λc2=> ?_⟩,λc1=> ?_⟩
   .have ht:CX s.Set (atA b) x.At x.Tile d=CT s.Set x.Tile d (atA b (AD x.At d)):=Af c1;rw[ht] at aj;refine⟨⟨d+1,by omega⟩,by simp only;omega,by rw[Am (by omega) (by omega)];simp only;omega,?_,?_⟩
    .rw[Am (by omega) (by omega),bindF_s _ _ _ _ _ c1]
    .rw[Iv z,or_bit z ac.1 ac.2,maskF_s _ _ _ _ _ c1 c2]
   .refine⟨⟨d+1,by omega⟩,by simp only;omega,by rw[Am (by omega) (by omega)];simp only;omega,?_,?_⟩
    .rw[bindF_n q1 _ _ _ _ (λh=>c2 h.2)]
    .rw[HW _ _ _ _ _ (λh=>c2 h.2)]
   .refine⟨⟨d+1,by omega⟩,by simp only;omega,by rw[Am (by omega) (by omega)];simp only;omega,?_,?_⟩
    .rw[bindF_n q1 _ _ _ _ (λh=>c1 h.1)]
    .rw[HW _ _ _ _ _ (λh=>c1 h.1)]
  .have z:d=4:=by omega
   subst z;refine⟨by simp[OneR,allD,D.one],by rw[G7,Bb];omega,by simp[OneR,allD,D.one],by rw[G8,Bb];omega,?_⟩;have ag:inF s.Set (Bf Z):=by rw[aa];exact λp hp=>EI Q p hp
   have af:FF ⟨s,Z,op⟩:=⟨q1,ag,by simp only;omega⟩;obtain⟨f1,f2⟩:=rm_free G Q cS;refine orow.os (⟨s,Z,op⟩,x.At,x.Tile) [7,5,6] ⟨af,g2,g5⟩ (λj=>CO _ j) rfl rfl ?_ ?_
   .simp(disch:=omega)only[ZA,simprocAttr,putC.ca,cryH,AW,B8,Cn]
   .simp(disch:=omega)only[ZA,simprocAttr,putC.H1,kl12,putT,B8,Cn];refine⟨⟨(k+1,updP Z x.At x.Tile,CW s (Bf (updP Z x.At x.Tile)) (delP op x.At) x.At 4),by simp only;exact⟨by omega,_,by rw[Fq hx,HP,<-hb];exact G.put f2 f1⟩⟩,[(9,some 14),(8,some 12)],by simp only;omega,?_⟩;simp only[subP,Fq hx,JL,JM,<-hb];simp(disch:=omega)only[ZA,simprocAttr,AC];refine⟨by rw[Am (by omega) (by omega)];omega,?_,?_⟩<;>simp[intC]
 .rw[BX (by omega)]
  have:=plD_ref ⟨s,l,e,insS s s.Seed l,smsS s s.Seed l⟩
  simp only[Pld.c] at this;rw[this];rfl
def has_.fv(a:Int×Int):Bool:=(hasI) (a.1) (a.2)
def has_.row:Row:=vK (b2 qI qI) rB (λa=>0<=a.2/\a.2<=62) has_.fv
def has_.q:=vKq (R:=has_.row) rfl
def has_.ok:Ak Tryz.prog 250 has_.row:=by
 refine vw tN Tryz.func250 rfl (by kernel_rfl) ?_;intro a z;simp only[Tryz.f250];simp(disch:=omega)only[ZA,simprocAttr,has_.fv];exact⟨z.1,rfl⟩
def iA1.fv(a:Opt×Aa):Bool:=(λo p=>decide (o.At=p)) (a.1) (a.2)
def iA1.row:Row:=vK (b2 (qR Opt.d_le) (qP 2 Aa.d_le)) rB (λa=>True) iA1.fv
def iA1.q:=vKq (R:=iA1.row) rfl
def iA1.ok:Ak Tryz.prog 290 iA1.row:=by
 refine vw tN Tryz.func290 rfl (by kernel_rfl) ?_;intro a G;simp only[Tryz.f290];simp(disch:=omega)only[ZA,simprocAttr,iA1.fv];obtain⟨⟨⟨x,y⟩,u⟩,⟨z,w⟩⟩:=a;rw[HC];simp
def IdxO_.ar:List PK->Option ((List Opt)×Aa)
 |[.val (.sl _ _ O),.val (.fn 290 [] [.ref z])]=>(decR Opt.d O).bind λQ=>(Aa.d (z.take 2)).bind λG=>some (Q,G)
 |_=>none
def IdxO_.ae(a:(List Opt)×Aa):List PK:=[.val (.sl false 3 (a.1.map Opt.c)),.val (.fn 290 [] [.ref (Aa.c a.2)])]
def IdxO_.le: ∀G a,IdxO_.ar G=some a->LeKL G (IdxO_.ae a):=by
 intro G a h;unfold IdxO_.ar at h;split at h
 .simp only[Cb,An] at h;obtain⟨Q,h0,O,z,rfl⟩:=h;exact⟨BL (BG Opt.d_le _ _ h0) (by simp only[AF];rintro r ⟨y,_,rfl⟩;rfl),Hy ⟨Ha (LeP.trans_take (Aa.d_le _ _ z)),trivial⟩,trivial⟩
 .cases h
def IdxO_.fv(a:(List Opt)×Aa):Int:=(λl p=>idxO l p) (a.1) (a.2)
def IdxO_.row:Row:=vrow IdxO_.ar (λa=>True) (λa=>(D.int .i64) (IdxO_.fv a))
def IdxO_.q:=vq IdxO_.row rfl
def IdxO_.ok:Ak Tryz.prog 289 IdxO_.row:=by
 refine Ia Bz (tC iA1.ok tN) Tryz.func289 rfl (by kernel_rfl) (by kernel_rfl) (ar:=IdxO_.ar) (ae:=IdxO_.ae) IdxO_.le (n:=2) (λ_=>rfl) (by decide) (rc:=(vInt)) (re:=(D.int .i64)) (F2) (f:=IdxO_.fv) ?_;intro a O;simp only[Tryz.f289];simp(disch:=omega)only[ZA,simprocAttr,IdxO_.ae,IdxO_.fv];intro hn;simp only[idxO];refine Au.old ⟨{k:Nat//k<=a.1.length/\AA (λo:Opt=>decide (o.At=a.2)) k (a.1.drop k)=AA (λo:Opt=>decide (o.At=a.2)) 0 a.1},λk=>⟨[(8,.im (.int .i64 k.1)),(7,.im (.int .i64 a.1.length)),(6,.im (.sl false 3 (a.1.map Opt.c))),(4,.im (.int .i64 0)),(0,.im (.sl false 3 (a.1.map Opt.c))),(1,.im (.fn 290 [] [.ref (Aa.c a.2)]))],[],0⟩,λk=>a.1.length - k.1,λk=>⟨by simp[Ac.good,belT,belH,Ai,AV.bel],Ar _⟩,⟨⟨0,by simp⟩,by simp(disch:=omega)only[ZA,simprocAttr,sub]⟩,λk=> ?_⟩;obtain⟨k,Q,z⟩:=k;simp(disch:=omega)only[ZA,simprocAttr,iA1.q,iA1.fv,sub,Aq];refine⟨λG=>⟨G,λx Z=> ?_⟩,λG=> ?_⟩
 .rw[Cw Z,AA] at z;refine⟨λh=> ?_,λh=>CZ G hn ⟨by omega,by rw[<-z,Ab (by simpa using h)]⟩⟩;rw[Af (by simpa using h)] at z;exact z
 .rw[B9 (by omega),AA] at z;exact z
def idxAt_.fv(a:Pld×Aa):Int:=(λx p=>idxO x.Seq p) (a.1) (a.2)
def idxAt_.row:Row:=vK (b2 (qP 8 Pld.d_le) (qR Aa.d_le)) rI (λa=>True) idxAt_.fv
def idxAt_.q:=vKq (R:=idxAt_.row) rfl
def idxAt_.ok:Ak Tryz.prog 272 idxAt_.row:=by
 refine vw (tC IdxO_.ok tN) Tryz.func272 rfl (by kernel_rfl) ?_;intro a z;simp only[Tryz.f272];simp(disch:=omega)only[ZZ,simprocAttr,idxAt_.fv,IdxO_.q,IdxO_.ar,IdxO_.fv]
 skip
def cryG(s:Ah)(b:Asm)(c:Cry):Prop:=c.Sys=s/\(∃n,RM c.Tl b n)/\OpOk s (Bf c.Tl) c.Op/\BR s.Set b/\b.Tiles.length<=500/\setP s.Set/\1<=s.Temperature/\s.Set.Tiles.length<=160
def cryG.put{s:Ah}{b:Asm}{c:Cry}(h:cryG s b c){o:Opt}(G:canS s b o=true)(hl:b.Tiles.length<500):cryG s (putA b o.At o.Tile) (putT c o.At o.Tile):=by
 obtain⟨rfl,⟨n,z⟩,O,hb,h5,h1,hT,Q⟩:=h;obtain⟨Z,f2⟩:=rm_free z hb G;obtain⟨z1,z2,z3,z4,z5,z6⟩:=Dj G;exact⟨rfl,⟨_,z.put f2 Z⟩,op_put O z3,GH Q hb G,by rw[FR];omega,h1,hT,Q⟩
def grC(l:List Int):Nat->Cry->Asm->List Opt->Cry×Asm×List Opt×Bool
 |0,c,b,d=>(c,b,d,true)
 |n+1,c,b,d=>match nxO c.Sys l b d.length with
  |none=>(c,b,d,true)
  |some o=>if 500<=b.Tiles.length then (c,b,[],false) else grC l n (putT c o.At o.Tile) (putA b o.At o.Tile) (d++[o])
def grC_law{s:Ah}{l:List Int}: ∀(n:Nat) (c:Cry) (b:Asm) (d:List Opt),cryG s b c->((grC l n c b d).2.2.2=true/\grw s l n b d=((grC l n c b d).2.2.1,(grC l n c b d).2.1,0)/\cryG s (grC l n c b d).2.1 (grC l n c b d).1)\/((grC l n c b d).2.2.2=false/\(grC l n c b d).2.2.1=[]/\grw s l n b d=([],⟨[]⟩,4))
 |0,c,b,d,h=> .inl ⟨rfl,rfl,h⟩
 |n+1,c,b,d,h=>by
  have G:c.Sys=s:=h.1;rw[grC,grw,G];cases ho:nxO s l b d.length with
  |none=>exact .inl ⟨rfl,rfl,h⟩
  |some o=>
   simp only;by_cases z:500<=b.Tiles.length
   .rw[Af z,Af z];exact .inr ⟨rfl,rfl,rfl⟩
   .rw[Ab z,Ab z];exact grC_law n _ _ _ (h.put (GD h.2.2.2.1 ho) (by omega))
def grw_len(s:Ah)(l:List Int): ∀(n:Nat) (b:Asm) (d:List Opt),b.Tiles.length<=500->(grw s l n b d).1.length<=d.length+n/\(grw s l n b d).2.1.Tiles.length<=500
 |0,b,d,h=>by simp[grw,h]
 |n+1,b,d,h=>by
  rw[grw];split
  .exact⟨by simp only;omega,h⟩
  .split
   .simp
   .have:=grw_len s l n (putA b ‹Opt›.At ‹Opt›.Tile) (d++[‹Opt›]) (by rw[FR];omega)
    simp only[B5,R5] at this;exact⟨by omega,this.2⟩
def nxGC(l:List Int)(c:Cry)(b:Asm)(k:Nat):Cry:=
 match nxO c.Sys l b k with
 |none=>c
 |some o=>if 500<=b.Tiles.length then c else putT c o.At o.Tile
def nxGR(l:List Int)(c:Cry)(b:Asm)(k:Nat):D:=
 match nxO c.Sys l b k with
 |none=> .tup [.agg [.int .i64 0,.int .i64 0,.int .i64 0],.tok 0]
 |some o=>if 500<=b.Tiles.length then .tup [.agg [.int .i64 0,.int .i64 0,.int .i64 0],.tok 1] else .tup [.agg (Opt.c o),.nili]
def nxtC.ca(a:Cry×Asm×List Int×Nat):List AV:=[.ptr 0 0,.im (.fn 154 [] [.ref [.sl false 1 (a.2.2.1.map intC)]]),.im (.int .i64 a.2.2.2)]
def nxtC.H1(a:Cry×Asm×List Int×Nat):Ag:=[(1,(true,.map ⟨true,[.int .i64,.int .i64]⟩ ((nxGC a.2.2.1 a.1 a.2.1 a.2.2.2).Tl.map BO))),(2,(true,.map ⟨true,[.int .i64,.int .i64]⟩ ((nxGC a.2.2.1 a.1 a.2.1 a.2.2.2).Op.map Br)))]
def nxtC.r0(a:Cry×Asm×List Int×Nat):AV:= .im (nxGR a.2.2.1 a.1 a.2.1 a.2.2.2)
def nxtC.row:Row:=orow nxtC.ca (λa=>cryH a.1) 3 (λa=>cryG a.1.Sys a.2.1 a.1/\BU a.2.2.1=true/\a.2.2.2<=1000) kl12 nxtC.r0 nxtC.H1 0
def nxtC.ok:Ak Tryz.prog 109 nxtC.row:=by
 refine ow (tC lisC.ok (tC sel1_.ok (tC putC.ok tN))) Tryz.func109 rfl (by kernel_rfl) (exB:=λ_=>false) (R:=λa r=>r=nxtC.r0 a) (λ_=>rfl)
  (λa=>by simp[nxtC.ca,cryH,AW,belL,AV.bel,belH,Ai,AT,AObj.nms,nmsL,AV.nms,domB,hget]) (λa p hp=> ?_) (λa r h=>by subst h;exact LeV.refl _) ?_
 rotate_left
 intro a Q;simp only[Tryz.f109,nxtC.ca,cryH,AW,nxtC.H1];simp(disch:=omega)only[ZA,simprocAttr];obtain⟨c,b,l,k⟩:=a;obtain⟨hg,hl,hk⟩:=Q;simp only at hg hl hk⊢;obtain⟨_,⟨n,G⟩,ac,hb,h5,h1,hT,h2⟩:=hg;have z:=ac;rw[G.at] at z;obtain⟨l1,l2,l3⟩:=op_lim hT h5 h2 z;refine orow.os c [0,1,2] l2 (λj=>CO _ j) rfl rfl ?_ ?_
 .simp(disch:=omega)only[ZA,simprocAttr,ORB,cryH,AW,asmC.ca,cryH,AW,B8,Cn]
 simp(disch:=omega)only[ZZ,simprocAttr,sel1_.q,sel1_.fv,kl12,lisC.r0,l1];intro _;have ad:=G.size;rw[l1] at l3;split
 .rename_i c1;have aa:=(Iw (s:=c.Sys) (l:=l) (b:=b) (k:=k)).2 (Gy.1 (by omega));simp only[nxtC.r0,nxGR,nxGC,aa];trivial
 rename_i c1;obtain⟨o,ho⟩: ∃o,nxO c.Sys l b k=some o:=by
  cases hq:nxO c.Sys l b k with
  |none=>exact absurd (by rw[Iw.1 hq];rfl) c1
  |some o=>exact⟨o,rfl⟩
 split
 .rename_i c2;simp only[nxtC.r0,nxGR,nxGC,ho];rw[Af (by omega),Af (by omega)];exact⟨rfl,rfl,rfl⟩
 rename_i c2;intro _;refine⟨⟨by omega,by omega,by omega,hl⟩,schN_lt (by omega),λx hx=> ?_⟩;obtain rfl:o=x:=Al (ho.symm.trans hx);have cS:=GD hb ho;obtain⟨z1,z2,z3,z4,z5,z6⟩:=Dj cS;have O:inF c.Sys.Set (Bf c.Tl):=by rw[G.at];exact λp hp=>EI hb p hp
 have Z:nxGC l c b k=putT c o.At o.Tile:=by simp only[nxGC,ho];rw[Ab (by omega)]
 have ab:nxGR l c b k= .tup [.agg (Opt.c o),.nili]:=by simp only[nxGR,ho];rw[Ab (by omega)]
 refine orow.os (c,o.At,o.Tile) [0,1,2] ⟨⟨h1,O,by simp only;omega⟩,z2,z5⟩ (λj=>CO _ j) rfl rfl ?_ ?_
 .simp(disch:=omega)only[ZA,simprocAttr,ORB,cryH,AW,putC.ca,cryH,AW,B8,Cn]
 simp(disch:=omega)only[ZA,simprocAttr,ORB,kl12,putC.H1,kl12,B8,Cn,Z,nxtC.r0,ab];simp[nxtC.H1] at hp;rcases hp with rfl|rfl
 .exact .inl ⟨by omega,rfl,rfl⟩
 .exact .inl ⟨by omega,rfl,rfl⟩
def growI.ca(a:Cry×Asm×List Int×Nat):List AV:=[.ptr 0 0,.im (.sl false 1 (a.2.2.1.map intC)),.im (.int .i64 a.2.2.2)]
def growI.H1(a:Cry×Asm×List Int×Nat):Ag:=[(1,(true,.map ⟨true,[.int .i64,.int .i64]⟩ ((grC a.2.2.1 a.2.2.2 a.1 a.2.1 []).1.Tl.map BO))),(2,(true,.map ⟨true,[.int .i64,.int .i64]⟩ ((grC a.2.2.1 a.2.2.2 a.1 a.2.1 []).1.Op.map Br))),(3,(true,.arr 108 3 ((grC a.2.2.1 a.2.2.2 a.1 a.2.1 []).2.2.1.map Opt.c)))]
def growI.r0(a:Cry×Asm×List Int×Nat):AV:= .tup [.own 3,.im (.bool (grC a.2.2.1 a.2.2.2 a.1 a.2.1 []).2.2.2)]
def growI.row:Row:=orow growI.ca (λa=>cryH a.1) 3 (λa=>cryG a.1.Sys a.2.1 a.1/\BU a.2.2.1=true/\a.2.2.2<=501) kl12 growI.r0 growI.H1 20
def growI.ok:Ak Tryz.prog 55 growI.row:=by
 refine owN (tC sel_.ok (tC nxtC.ok (tC errIs.ok tN))) Tryz.func55 rfl (by kernel_rfl) (exB:=λj=>j==3) (R:=λa r=>r=growI.r0 a) (λ_=>rfl)
  (λa=>by simp[growI.ca,cryH,AW,belL,AV.bel,belH,Ai,AT,AObj.nms,nmsL,AV.nms,domB,hget]) (λa p hp=> ?_) (λa r h=>by subst h;exact LeV.refl _) ?_
 rotate_left
 intro a aa;simp only[Tryz.f55,growI.ca,cryH,AW,growI.H1];simp(disch:=omega)only[ZZ,simprocAttr,sel_.q,sel_.fv];obtain⟨c,b,l,n⟩:=a;obtain⟨hg,hl,hn⟩:=aa;simp only at hg hl hn⊢;refine Au.ren ⟨{q:Cry×Asm×List Opt//q.2.2.length<=n/\cryG c.Sys q.2.1 q.1/\grC l (n - q.2.2.length) q.1 q.2.1 q.2.2=grC l n c b []},λq=>⟨[(9,.own 5),(8,.im (.fn 154 [] [.ref [.sl false 1 (l.map intC)]])),(7,.im (.bool false)),(6,.own 3),(0,.ptr 0 0),(2,.im (.int .i64 n))],[(5,(true,.arr 108 3 (q.1.2.2.map Opt.c))),(3,(true,.arr 108 3 [])),(0,(true,.cells 155 [.im (.sl false 2 (c.Sys.Set.Glues.map Glue.c)),.im (.sl false 2 (c.Sys.Set.Tiles.map Tile.c)),.im (.sl false 3 (c.Sys.Seed.Tiles.map Ad.c)),.im (.int .i64 c.Sys.Temperature),.mp 1,.mp 2])),(1,(true,.map ⟨true,[.int .i64,.int .i64]⟩ (q.1.1.Tl.map BO))),(2,(true,.map ⟨true,[.int .i64,.int .i64]⟩ (q.1.1.Op.map Br)))],6⟩,λq=>n - q.1.2.2.length,λq=>⟨by simp[Ac.good,belT,belH,Ai,AV.bel,belL],by simp⟩,⟨⟨(c,b,[]),by simp only;exact⟨Bj _,hg,by rw[D0,JA]⟩⟩,[(5,some 4)],?_⟩,λq=> ?_⟩
 .simp only[subP];simp(disch:=omega)only[ZA,simprocAttr,AC]
  try simp
 obtain⟨⟨c1,b1,d⟩,e1,e2,e3⟩:=q;simp only at e1 e2 e3;simp(disch:=omega)only[ZA,simprocAttr,C4,Aq];have hS:c1.Sys=c.Sys:=e2.1;have z: ∀k,nxO c1.Sys l b1 k=nxO c.Sys l b1 k:=λk=>by rw[hS]
 refine λ_=>⟨λh1 _=> ?_,λh1=> ?_⟩
 .refine orow.os (c1,b1,l,d.length) [0,1,2] ⟨by rw[hS];exact e2,hl,by simp only;omega⟩ (λj=>CO _ j) rfl rfl ?_ ?_
  .simp(disch:=omega)only[ZA,simprocAttr,ORB,cryH,AW,nxtC.ca,cryH,AW,B8,Cn,hS]
  obtain⟨m,hm⟩: ∃m,n - d.length=m+1:=⟨n - d.length - 1,by omega⟩;cases ho:nxO c.Sys l b1 d.length with
  |none=>
   have O:nxGR l c1 b1 d.length= .tup [.agg [.int .i64 0,.int .i64 0,.int .i64 0],.tok 0]:=by simp only[nxGR,z,ho]
   have G:nxGC l c1 b1 d.length=c1:=by simp only[nxGC,z,ho]
   have Q:grC l n c b []=(c1,b1,d,true):=by rw[<-e3,hm,grC,z,ho]
   simp(disch:=omega)only[ZA,simprocAttr,C4,ORB,kl12,nxtC.H1,kl12,B8,Cn,nxtC.r0,O,G,errIs.q,FQ,isG];refine⟨[],[(3,some 5)],⟨[(6,.own 3),(7,.im (.bool true))],[(3,(true,.arr 108 3 (d.map Opt.c))),(0,(true,.cells 155 [.im (.sl false 2 (c.Sys.Set.Glues.map Glue.c)),.im (.sl false 2 (c.Sys.Set.Tiles.map Tile.c)),.im (.sl false 3 (c.Sys.Seed.Tiles.map Ad.c)),.im (.int .i64 c.Sys.Temperature),.mp 1,.mp 2])),(1,(true,.map ⟨true,[.int .i64,.int .i64]⟩ (c1.Tl.map BO))),(2,(true,.map ⟨true,[.int .i64,.int .i64]⟩ (c1.Op.map Br)))],4⟩,?_,by simp[Ac.good,belT,belH,Ai,AV.bel,belL],by simp,?_⟩
   .simp only[subP];simp(disch:=omega)only[ZA,simprocAttr,AC]
    try simp
   .simp(disch:=omega)only[ZA,simprocAttr,kl12,growI.r0,Q]
  |some o=>
   by_cases Z:500<=b1.Tiles.length
   .have O:nxGR l c1 b1 d.length= .tup [.agg [.int .i64 0,.int .i64 0,.int .i64 0],.tok 1]:=by simp only[nxGR,z,ho];rw[Af Z]
    have G:nxGC l c1 b1 d.length=c1:=by simp only[nxGC,z,ho];rw[Af Z]
    have Q:grC l n c b []=(c1,b1,[],false):=by rw[<-e3,hm,grC,z,ho];simp only;rw[Af Z]
    simp(disch:=omega)only[ZA,simprocAttr,C4,ORB,kl12,nxtC.H1,kl12,B8,Cn,nxtC.r0,O,G,errIs.q,FQ,isG];refine⟨[],[(3,some 7)],⟨[(6,.own 3),(7,.im (.bool false))],[(3,(true,.arr 108 3 (([]:List Opt).map Opt.c))),(0,(true,.cells 155 [.im (.sl false 2 (c.Sys.Set.Glues.map Glue.c)),.im (.sl false 2 (c.Sys.Set.Tiles.map Tile.c)),.im (.sl false 3 (c.Sys.Seed.Tiles.map Ad.c)),.im (.int .i64 c.Sys.Temperature),.mp 1,.mp 2])),(1,(true,.map ⟨true,[.int .i64,.int .i64]⟩ (c1.Tl.map BO))),(2,(true,.map ⟨true,[.int .i64,.int .i64]⟩ (c1.Op.map Br)))],4⟩,?_,by simp[Ac.good,belT,belH,Ai,AV.bel,belL],by simp,?_⟩
    .simp only[subP];simp(disch:=omega)only[ZA,simprocAttr,AC]
     try simp
    .simp(disch:=omega)only[ZA,simprocAttr,kl12,growI.r0,Q]
   .have O:nxGR l c1 b1 d.length= .tup [.agg (Opt.c o),.nili]:=by simp only[nxGR,z,ho];rw[Ab Z]
    have G:nxGC l c1 b1 d.length=putT c1 o.At o.Tile:=by simp only[nxGC,z,ho];rw[Ab Z]
    have Q:grC l n c b []=grC l m (putT c1 o.At o.Tile) (putA b1 o.At o.Tile) (d++[o]):=by rw[<-e3,hm,grC,z,ho];simp only;rw[Ab Z]
    have ab:=e2.put (GD e2.2.2.2.1 ho) (by omega);simp(disch:=omega)only[ZA,simprocAttr,ORB,kl12,nxtC.H1,kl12,B8,Cn,nxtC.r0,O,G,errIs.q,FQ,isG];refine⟨by omega,⟨(putT c1 o.At o.Tile,putA b1 o.At o.Tile,d++[o]),by simp only;exact⟨by simp;omega,ab,by rw[Q,show n - (d++[o]).length=m by simp;omega]⟩⟩,[(5,some 8)],by simp;omega,?_⟩;simp only[subP];simp(disch:=omega)only[ZA,simprocAttr,AC];simp[Opt.c]
 .have Q:grC l n c b []=(c1,b1,d,true):=by rw[<-e3,show n - d.length=0 by omega,grC]
  refine⟨[],[(3,some 5)],⟨[(6,.own 3),(7,.im (.bool true))],[(3,(true,.arr 108 3 (d.map Opt.c))),(0,(true,.cells 155 [.im (.sl false 2 (c.Sys.Set.Glues.map Glue.c)),.im (.sl false 2 (c.Sys.Set.Tiles.map Tile.c)),.im (.sl false 3 (c.Sys.Seed.Tiles.map Ad.c)),.im (.int .i64 c.Sys.Temperature),.mp 1,.mp 2])),(1,(true,.map ⟨true,[.int .i64,.int .i64]⟩ (c1.Tl.map BO))),(2,(true,.map ⟨true,[.int .i64,.int .i64]⟩ (c1.Op.map Br)))],4⟩,?_,by simp[Ac.good,belT,belH,Ai,AV.bel,belL],by simp,?_⟩
  .simp only[subP];simp(disch:=omega)only[ZA,simprocAttr,AC]
   try simp
  .simp(disch:=omega)only[ZA,simprocAttr,kl12,growI.r0,Q]
 simp[growI.H1] at hp;rcases hp with rfl|rfl|rfl
 .exact .inl ⟨by omega,rfl,rfl⟩
 .exact .inl ⟨by omega,rfl,rfl⟩
 .exact .inr ⟨by omega,by omega,rfl,rfl⟩
def cry_new{s:Ah}{a:Asm}(c1:C7 s=true)(O:EN s.Set a=true):newC.pre (s,a)/\cryG s a (EW s a):=by
 obtain⟨⟨q1,q2,q3,_⟩,q5,_⟩:=DE c1;obtain⟨z,h4⟩:=IZ O;have G:=OY (s:=s.Set) (a:=a) (by rw[q5,O];rfl);have Q:1<=s.Temperature:=by
  simp only[C7,AE,Av,AP] at c1;exact c1.2.2.2.1.1
 exact⟨⟨q1,by simp only;omega,λy Z=>⟨z.2 y Z,G.1.2.2.2 y Z⟩⟩,rfl,⟨_,RM.of z.1 λx hx=>(z.2 x hx).1⟩,op_new Q,z,h4,q1,Q,q3⟩
def grX(w:List Opt×Asm×Int):Ag:=[(0,(true,.arr 108 3 (w.1.map Opt.c))),(1,(true,.arr 137 3 (w.2.1.Tiles.map Ad.c)))]
def grR(w:List Opt×Asm×Int):AV:= .tup [.own 0,.agg [.own 1],.im (.int .i64 w.2.2)]
def grnF(a:Ah×List Int×Nat):List Opt×Asm×Int:=grw a.1 a.2.1 a.2.2 a.1.Seed []
def grnI.ca(a:Ah×List Int×Nat):List AV:=[.im (.agg (Ah.c a.1)),.im (.sl false 1 (a.2.1.map intC)),.im (.int .i64 a.2.2)]
def grnI.H1(a:Ah×List Int×Nat):Ag:=grX (grnF a)
def grB(j:Nat):Bool:=j==0||j==1
def grnI.row:Row:=orow grnI.ca (λ_=>[]) 0 (λa=>C7 a.1=true/\BU a.2.1=true/\a.2.2<=501) (λ_=>false) (λa=>grR (grnF a)) grnI.H1 20
def grnI.ok:Ak Tryz.prog 124 grnI.row:=by
 refine owN (tC newC.ok (tC growI.ok (tC asmCX.ok tN))) Tryz.func124 rfl (by kernel_rfl) (exB:=grB) (R:=λa r=>r=grR (grnF a)) (λ_=>rfl)
  (λa=>by simp[grnI.ca,Ah.c,belL,AV.bel,belH,Ai,AT]) (λa p hp=> ?_) (λa r h=>by subst h;exact LeV.refl _) ?_
 rotate_left
 intro a O;simp only[Tryz.f124,grnI.ca,Ah.c];simp(disch:=omega)only[ZA,simprocAttr];obtain⟨s,l,n⟩:=a;obtain⟨c1,hl,hn⟩:=O;simp only at c1 hl hn⊢;have c2:=(DE c1).2.2;obtain⟨aa,G⟩:=cry_new c1 c2;refine orow.os (s,s.Seed) [] aa (λj=>by simp[domB,hget]) rfl rfl ?_ ?_
 .simp(disch:=omega)only[ZA,simprocAttr,Ah.c,newC.ca,Bu,Ah.c,Asm.c]
 simp(disch:=omega)only[ZA,simprocAttr,newC.H1];obtain⟨w,hw⟩: ∃w,w=grC l n (EW s s.Seed) s.Seed []:=⟨_,rfl⟩;have z:=grC_law (l:=l) n (EW s s.Seed) s.Seed [] G;rw[<-hw] at z;refine orow.os (EW s s.Seed,s.Seed,l,n) [7,5,6] ⟨G,hl,hn⟩ (λj=>CO _ j) rfl rfl ?_ ?_
 .simp(disch:=omega)only[ZA,simprocAttr,ORB,growI.ca,cryH,AW,B8,Cn];exact⟨rfl,rfl,rfl,rfl⟩
 have hS:(EW s s.Seed).Sys=s:=rfl;rcases z with ⟨g1,g2,Z⟩|⟨g1,g2,Z⟩
 .have hF:grnF (s,l,n)=(w.2.2.1,w.2.1,0):=g2;obtain⟨e1,⟨kk,Q⟩,_,e4,e5,_⟩:=Z;simp(disch:=omega)only[ZA,simprocAttr,ORB,growI.H1,kl12,B8,Cn,growI.r0,<-hw,g1];refine orow.os w.1 [7,5,6] ⟨Q.nd,by have:=Q.size;omega⟩ (λj=>CO _ j) rfl rfl ?_ ?_
  .simp(disch:=omega)only[ZA,simprocAttr,ORB,asmC.ca,cryH,AW,B8,Cn,e1]
   try exact⟨rfl,rfl,rfl⟩
  simp(disch:=omega)only[ZA,simprocAttr,C4,ORB,asmCX.H1,klA,B8,Cn];have eT:(asmT w.1.Tl).Tiles=w.2.1.Tiles:=(Bx Asm.Tiles Q.eq).symm;simp only[eT];refine⟨[],[(0,some 8),(1,some 28),(2,some 2)],⟨[(6,.own 0),(7,.ptr 2 0),(8,.im (.int .i64 0))],[(2,(true,.cells 39 [.own 1])),(0,(true,.arr 108 3 (w.2.2.1.map Opt.c))),(1,(true,.arr 137 3 (w.2.1.Tiles.map Ad.c)))],3⟩,?_,by simp[Ac.good,belT,belH,Ai,AV.bel,belL],by simp,?_⟩
  .simp only[subP];simp(disch:=omega)only[ZA,simprocAttr,AC]
   try simp
  .simp(disch:=omega)only[ZA,simprocAttr,grB,grR,grnI.H1,grX,hF]
   try simp
 .have hF:grnF (s,l,n)=([],⟨[]⟩,4):=Z;simp(disch:=omega)only[ZA,simprocAttr,C4,ORB,growI.H1,kl12,B8,Cn,growI.r0,<-hw,g1,g2];refine⟨[],[(0,some 28),(1,none),(2,some 2)],⟨[(6,.own 0),(7,.ptr 2 0),(8,.im (.int .i64 4))],[(2,(true,.cells 39 [.own 1])),(0,(true,.arr 108 3 ([]))),(1,(true,.arr 137 3 ([])))],3⟩,?_,by simp[Ac.good,belT,belH,Ai,AV.bel,belL],by simp,?_⟩
  .simp only[subP];simp(disch:=omega)only[ZA,simprocAttr,AC,IU]
   try simp
  .simp(disch:=omega)only[ZA,simprocAttr,grB,grR,grnI.H1,grX,hF]
   try simp
 simp[grnI.H1,grX] at hp;rcases hp with rfl|rfl
 .exact .inr ⟨by omega,by omega,rfl,rfl⟩
 .exact .inr ⟨by omega,by omega,rfl,rfl⟩
def sch_le{s:Ah}(c1:C7 s=true):s.Seed.Tiles.length<=500:=(IZ (DE c1).2.2).2
def sch_pos{s:Ah}(c1:C7 s=true):1<=s.Seed.Tiles.length:=by
 simp only[C7,Av,EX,UT] at c1;exact Lw.2 c1.2.2.1
def grI.ca(a:Ah×List Int):List AV:=[.im (.agg (Ah.c a.1)),.im (.sl false 1 (a.2.map intC))]
def grI.H1(a:Ah×List Int):Ag:=grX (gwR a.1 a.2)
def grI.row:Row:=orow grI.ca (λ_=>[]) 0 (λa=>GS a.1.Set) (λ_=>false) (λa=>grR (gwR a.1 a.2)) grI.H1 20
def grI.ok:Ak Tryz.prog 66 grI.row:=by
 refine owN (tC validI_.ok (tC vSch_.ok (tC grnI.ok tN))) Tryz.func66 rfl (by kernel_rfl) (exB:=grB) (R:=λa r=>r=grR (gwR a.1 a.2)) (λ_=>rfl)
  (λa=>by simp[grI.ca,Ah.c,belL,AV.bel,belH,Ai,AT]) (λa p hp=> ?_) (λa r h=>by subst h;exact LeV.refl _) ?_
 rotate_left
 intro a z;simp only[Tryz.f66,grI.ca,Ah.c];simp(disch:=omega)only[ZA,simprocAttr,rch,validI_.q,validI_.fv,vSch_.q,vSch_.fv,C4,Ah.c];obtain⟨s,l⟩:=a;simp only at z⊢;refine⟨z,?_⟩;simp only[JH];by_cases c1:C7 s=true
 case neg=>
  rw[Af (by simpa using c1)];have O:gwR s l=([],⟨[]⟩,1):=by simp only[gwR];rw[Af (by simpa using c1)]
  refine⟨[],[(0,some 3),(1,none),(2,some 2)],⟨[(4,.own 0),(5,.ptr 2 0),(6,.im (.int .i64 1))],[(2,(true,.cells 39 [.own 1])),(0,(true,.arr 108 3 ([]))),(1,(true,.arr 137 3 ([])))],3⟩,?_,by simp[Ac.good,belT,belH,Ai,AV.bel,belL],by simp,?_⟩
  .simp only[subP];simp(disch:=omega)only[ZA,simprocAttr,AC,IU]
   try simp
  .simp(disch:=omega)only[ZA,simprocAttr,grB,grR,grI.H1,O,grX]
   try simp
 rw[Ab (by simpa using c1)];by_cases G:BU l=true
 case neg=>
  rw[Af (by simpa using G)];have O:gwR s l=([],⟨[]⟩,2):=by simp only[gwR];rw[Ab (by simp[c1]),Af (by simpa using G)]
  refine⟨[],[(0,some 3),(1,none),(2,some 2)],⟨[(4,.own 0),(5,.ptr 2 0),(6,.im (.int .i64 2))],[(2,(true,.cells 39 [.own 1])),(0,(true,.arr 108 3 ([]))),(1,(true,.arr 137 3 ([])))],3⟩,?_,by simp[Ac.good,belT,belH,Ai,AV.bel,belL],by simp,?_⟩
  .simp only[subP];simp(disch:=omega)only[ZA,simprocAttr,AC,IU]
   try simp
  .simp(disch:=omega)only[ZA,simprocAttr,grB,grR,grI.H1,O,grX]
   try simp
 rw[Ab (by simpa using G)];obtain⟨w,hw⟩: ∃w,w=gwR s l:=⟨_,rfl⟩;have O:grnF (s,l,501)=w:=by
  rw[hw];simp only[grnF,gwR];rw[Ab (by simp[c1]),Ab (by simp[G])];exact Oa 500 _ _ (sch_le c1) (by have:=sch_pos c1;omega)
 refine orow.os (s,l,501) [] ⟨c1,G,Ar _⟩ (λj=>by simp[domB,hget]) rfl rfl ?_ ?_
 .simp(disch:=omega)only[ZA,simprocAttr,Ah.c,grnI.ca,Bu,Ah.c]
  try exact⟨rfl,rfl,rfl⟩
 simp(disch:=omega)only[ZA,simprocAttr,C4,grnI.H1,grX,grR,O,<-hw];refine⟨[],[(0,some 3),(1,some 4),(2,some 2)],⟨[(4,.own 0),(5,.ptr 2 0),(6,.im (.int .i64 w.2.2))],[(2,(true,.cells 39 [.own 1])),(0,(true,.arr 108 3 (w.1.map Opt.c))),(1,(true,.arr 137 3 (w.2.1.Tiles.map Ad.c)))],3⟩,?_,by simp[Ac.good,belT,belH,Ai,AV.bel,belL],by simp,?_⟩
 .simp only[subP];simp(disch:=omega)only[ZA,simprocAttr,AC]
  try simp
 .simp(disch:=omega)only[ZA,simprocAttr,grB,grI.H1,<-hw,grX]
  try simp
 simp[grI.H1,grX] at hp;rcases hp with rfl|rfl
 .exact .inr ⟨by omega,by omega,rfl,rfl⟩
 .exact .inr ⟨by omega,by omega,rfl,rfl⟩
def gw_len(s:Ah)(l:List Int):(gwR s l).1.length<=500/\(gwR s l).2.1.Tiles.length<=500:=by
 simp only[gwR];split
 .simp
 rename_i c1;split
 .simp
 have:=grw_len s l 500 s.Seed [] (sch_le (by simpa using c1))
 simpa using this
def schS_.fv(a:(List Int)):Bool:=(BU) a
def schS_.row:Row:=vK (b1 (qS BB Bm)) rB (λa=>True) schS_.fv
def schS_.q:=vKq (R:=schS_.row) rfl
def schS_.ok:Ak Tryz.prog 45 schS_.row:=by
 refine vw (tC l00In.ok tN) Tryz.func45 rfl (by kernel_rfl) ?_;intro a O;simp only[Tryz.f45];simp(disch:=omega)only[ZA,simprocAttr,schS_.fv];intro _;by_cases c:a.length<=200
 case neg=>
  rw[Af (by omega)];simp only[BU,JB c,CA]
 rw[Ab (by omega)];have Z:BU a= !a.any badS:=by simp only[BU,P8 c,BY]
 rw[Z];refine Au.old ⟨{k:Nat//k<=a.length/\(a.drop k).any badS=a.any badS},λk=>⟨[(3,.im (.int .i64 k.1)),(2,.im (.bool false)),(0,.im (.sl false 1 (a.map intC)))],[],0⟩,λk=>a.length - k.1,λk=>⟨by simp[Ac.good,belT,belH,Ai,AV.bel],by simp⟩,⟨⟨0,by simp⟩,by simp(disch:=omega)only[ZA,simprocAttr,sub]⟩,λk=> ?_⟩;obtain⟨k,Q,z⟩:=k;simp(disch:=omega)only[ZA,simprocAttr,l00In.q,l00In.fv,sub,Aq];intro _;refine⟨λG=>⟨G,λx hx=> ?_⟩,λG=> ?_⟩
 .rw[Cw hx,List.any_cons] at z;refine⟨λh=> ?_,λh=>⟨⟨k+1,by omega,?_⟩,by simp only;omega,by rw[Am (by omega) (by omega)];simp only;omega⟩⟩
  .have:badS x=true:=by simp only[badS,h];rfl
   rw[this,L5] at z;rw[<-z];rfl
  .have:badS x=false:=by simp only[badS];simpa using h
   rw[this,JC] at z;exact z
 .rw[B9 (by omega)] at z;rw[<-z];rfl
def grwS_.fv(a:Ah×Asm×(List Int)×Int):(List Opt)×Asm×Bool×Int:=(λs b l n=>grwX s l n.toNat b []) (a.1) (a.2.1) (a.2.2.1) (a.2.2.2)
def grwS_.row:Row:=vK (b4 (qP 4 Ah.d_le) (qP 1 Asm.d_le) (qS BB Bm) qI) (r4 (rS Opt.d_le Opt.c_n) (rA Asm.d_le) rB rI) (λa=>setP a.1.Set/\BR a.1.Set a.2.1/\a.2.1.Tiles.length<=500/\a.1.Set.Tiles.length<=160/\BU a.2.2.1=true/\0<=a.2.2.2/\a.2.2.2<=500) grwS_.fv
def grwS_.q:=vKq (R:=grwS_.row) rfl
def grwS_.ok:Ak Tryz.prog 47 grwS_.row:=by
 refine vw (tC l03Own.ok (tC opsS_.ok (tC l08Attach.ok tN))) Tryz.func47 rfl (by kernel_rfl) ?_;intro a ac;simp only[Tryz.f47];simp(disch:=omega)only[ZA,simprocAttr,Asm.d,grwS_.fv,l03Own.q,l03Own.fv];obtain⟨s,b,l,n⟩:=a;obtain⟨h1,h2,h3,h4,h5,h6,h7⟩:=ac;simp only at h1 h2 h3 h4 h5 h6 h7⊢;refine⟨by omega,?_⟩;refine Au.ren ⟨{q:Asm×List Opt//q.2.length<=n.toNat/\BR s.Set q.1/\q.1.Tiles.length<=500/\grwX s l (n.toNat - q.2.length) q.1 q.2=grwX s l n.toNat b []},λq=>⟨[(13,.own 6),(12,.ptr 4 0),(11,.im (.int .i64 0)),(10,.im (.bool false)),(9,.ptr 3 0),(8,.own 2),(0,.ptr 0 0),(2,.im (.sl false 1 (l.map intC))),(3,.im (.int .i64 n))],[(6,(true,.arr 108 3 (q.1.2.map Opt.c))),(4,(true,.cells 39 [.im (.sl false 3 (q.1.1.Tiles.map Ad.c))])),(3,(true,.cells 39 [.im (.sl true 0 [])])),(2,(true,.arr 108 3 [])),(0,(false,.view (Ah.c s))),(1,(false,.view (Asm.c b)))],7⟩,λq=>n.toNat - q.1.2.length,λq=>⟨by simp[Ac.good,belT,belH,Ai,AV.bel,belL],by simp⟩,⟨⟨(b,[]),by simp only;exact⟨Bj _,h2,h3,by rw[D0,JA]⟩⟩,[(6,some 5)],?_⟩,λq=> ?_⟩
 .simp only[subP];simp(disch:=omega)only[ZA,simprocAttr,AC]
  try simp
 obtain⟨⟨b1,d⟩,e1,e2,e3,e4⟩:=q;simp only at e1 e2 e3 e4;simp(disch:=omega)only[ZA,simprocAttr,Asm.d,opsS_.q,opsS_.fv,l08Attach.q,l08Attach.fv,Aq];have ag:=N7 s e3 h4;have hX: ∀m,n.toNat - d.length=m+1-> ∀o,nxO s l b1 d.length=some o->grwX s l n.toNat b []=if 500<=b1.Tiles.length then ([],⟨[]⟩,false,4) else grwX s l m (putA b1 o.At o.Tile) (d++[o]):=by
  intro m hm o z;rw[<-e4,hm,grwX,z]
 refine⟨⟨h1,e2,e3,by omega⟩,λ_=>⟨λc1=> ?_,λc1 _=>⟨λc2=> ?_,λc2 _=> ?_⟩⟩⟩
 .have ab:=Iw (s:=s) (l:=l) (b:=b1) (k:=d.length)|>.2 (Gy.1 (by omega))
  rw[<-e4];cases hm:n.toNat - d.length with
  |zero=>rw[grwX,ab];rfl
  |succ m=>rw[grwX,ab]
 .have af:(nxO s l b1 d.length).isNone=false:=by
   cases hq:nxO s l b1 d.length with
   |none=>exact absurd (by rw[Iw.1 hq];rfl) c1
   |some o=>rfl
  rw[<-e4,show n.toNat - d.length=0 by omega,grwX,af]
 have hn:(0:Int)<(Bd s b1).length:=by omega
 obtain⟨m,hm⟩: ∃m,n.toNat - d.length=m+1:=⟨n.toNat - d.length - 1,by omega⟩;have O: ∀o,nxO s l b1 d.length=some o-> ¬(attA b1 o).2=0->([],(⟨[]⟩:Asm),false,(attA b1 o).2)=grwX s l n.toNat b []:=λo z h=>by
  rw[hX m hm o z];simp only[attA] at h⊢;split at h
  .rename_i c;rw[Af c,Af c]
  .simp at h
 have Q: ∀o,nxO s l b1 d.length=some o->(attA b1 o).2=0->b1.Tiles.length<500/\(attA b1 o).1=putA b1 o.At o.Tile/\BR s.Set (putA b1 o.At o.Tile)/\grwX s l (n.toNat - (d++[o]).length) (putA b1 o.At o.Tile) (d++[o])=grwX s l n.toNat b []:=λo z h=>by
  rw[hX m hm o z];simp only[attA] at h⊢;split at h
  .simp at h
  .rename_i c;rw[Ab c,Ab c,show n.toNat - (d++[o]).length=m by simp;omega];exact⟨by omega,rfl,GH h4 e2 (GD e2 z),rfl⟩
 have ad: ∀i:Nat,i=schN l (Bd s b1).length d.length->nxO s l b1 d.length=(Bd s b1)[i]? :=λi hi=>by rw[hi];rfl
 refine⟨λc3 _ _=>⟨by omega,RG _ (by omega),Ry _ (by omega),λx hx _=> ?_⟩,λc3=> ?_⟩
 .have aa:=Ob h5 (Ax hx);have e5:(x.tmod (Bd s b1).length).toNat=schN l (Bd s b1).length d.length:=by
   rw[Ly (by omega),<-Int.natCast_emod,AH] at hx;simp only[schN];rw[Ab (by omega),hx,Ao,Ly aa.1]
  refine⟨c1,RG _ aa.1,Ry _ hn,λo z=> ?_⟩;have G:=(ad _ e5).trans z;refine⟨O o G,λc4=>⟨RG _ aa.1,Ry _ hn,λo2 Z=> ?_⟩⟩;obtain rfl:o=o2:=Al (z.symm.trans Z);obtain⟨f1,f2,f3,f4⟩:=Q o G (Va.1 c4);refine⟨by simp[OneR,allD,D.one],by omega,⟨(putA b1 o.At o.Tile,d++[o]),by simp only;exact⟨by simp;omega,f3,by rw[FR];omega,f4⟩⟩,[(6,some 9)],by simp;omega,?_⟩;simp only[subP,f2];simp(disch:=omega)only[ZA,simprocAttr,AC];simp[Opt.c]
 .have e5:0=schN l (Bd s b1).length d.length:=by
   simp only[schN];rw[Af (by omega)]
  refine⟨hn,λo z=> ?_⟩;have G:=(ad _ e5).trans z;refine⟨O o G,λc4=>⟨hn,λo2 Z=> ?_⟩⟩;obtain rfl:o=o2:=Al (z.symm.trans Z);obtain⟨f1,f2,f3,f4⟩:=Q o G (Va.1 c4);refine⟨by simp[OneR,allD,D.one],by omega,⟨(putA b1 o.At o.Tile,d++[o]),by simp only;exact⟨by simp;omega,f3,by rw[FR];omega,f4⟩⟩,[(6,some 9)],by simp;omega,?_⟩;simp only[subP,f2];simp(disch:=omega)only[ZA,simprocAttr,AC];simp[Opt.c]
def sch_pre{s:Ah}(c1: ¬C7 s=false):setP s.Set/\BR s.Set s.Seed/\s.Seed.Tiles.length<=500/\s.Set.Tiles.length<=160:=by
 rw[CN] at c1;obtain⟨⟨q1,z,G,_⟩,_,O⟩:=DE c1;exact⟨q1,z,(IZ O).2,G⟩
def GrowS_.fv(a:Ah×(List Int)):(List Opt)×Asm×Int:=(gwR) (a.1) (a.2)
def GrowS_.row:Row:=vK (b2 (qR Ah.d_le) (qS BB Bm)) (r3 (rS Opt.d_le Opt.c_n) (rA Asm.d_le) rI) (λa=>True) GrowS_.fv
def GrowS_.q:=vKq (R:=GrowS_.row) rfl
def GrowS_.ok:Ak Tryz.prog 64 GrowS_.row:=by
 refine vw (tC l08Ok.ok (tC schS_.ok (tC grwS_.ok tN))) Tryz.func64 rfl (by kernel_rfl) ?_;intro a G;simp only[Tryz.f64];simp(disch:=omega)only[ZA,simprocAttr,Asm.d,GrowS_.fv,l08Ok.q,l08Ok.fv,schS_.q,schS_.fv,grwS_.q,grwS_.fv];obtain⟨s,l⟩:=a;simp only[gwR];by_cases c1:C7 s=false
 .rw[Af c1,Af c1]
 rw[Ab c1,Ab c1];by_cases z:BU l=false
 .rw[Af z,Af z]
 rw[Ab z,Ab z];rw[CN] at z;obtain⟨q1,O,Q,Z⟩:=sch_pre c1;exact⟨⟨q1,O,Q,Z,z⟩,grwX_eq 500 s.Seed []⟩
def Si(l:List Int)(i:Nat)(x:Int):(l.map intC).set i [.int .i64 x]=(l.set i x).map intC:=by rw[Fz];rfl
def mkI(k:Int)(n:Nat):List Int:=(List.range n).map λ(i:Nat)=>k+(i:Int)
def JK(k:Int)(n:Nat):(mkI k n).length=n:=by simp[mkI]
def mkI_succ(k:Int)(n:Nat):mkI k (n+1)=mkI k n++[k+(n:Int)]:=by simp[mkI,M3]
def mkTo(k:Int)(l:List Int)(i:Nat):List Int:=mkI k i++l.drop i
def mkTo_len{k:Int}{l:List Int}{i:Nat}(h:i<=l.length):(mkTo k l i).length=l.length:=by simp[mkTo,JK];omega
def mkTo_set{k:Int}{l:List Int}{i:Nat}(h:i<l.length):(mkTo k l i).set i (k+(i:Int))=mkTo k l (i+1):=by
 have hd:l.drop i=l[i]::l.drop (i+1):=by rw[H6 h]
 rw[mkTo,Mx _ _ (by rw[JK];omega),JK,hd,D3,J5,mkTo,mkI_succ];simp
def mkTo_end{k:Int}{l:List Int}{i:Nat}(h:i=l.length):mkTo k l i=mkI k l.length:=by
 subst h;simp[mkTo]
def mkIC.ca(a:List Int×Int):List AV:=[.own 0,.im (.int .i64 a.2)]
def mkIC.H0(a:List Int×Int):Ag:=[(0,(true,.arr 2 1 (a.1.map intC)))]
def mkIC.H1(a:List Int×Int):Ag:=[(0,(true,.arr 2 1 ((mkI a.2 a.1.length).map intC)))]
def mkIC.row:Row:=orow mkIC.ca mkIC.H0 1 (λa=>0<=a.2/\a.2+a.1.length<=1099511627776) (λj=>j==0) (λa=> .im (.int .i64 (a.2+a.1.length))) mkIC.H1 0
def mkIC.ok:Ak Tryz.prog 24 mkIC.row:=by
 refine ow tN Tryz.func24 rfl (by kernel_rfl) (exB:=λ_=>false) (R:=λa r=>r= .im (.int .i64 (a.2+a.1.length))) (λ_=>rfl)
  (λa=>by simp[mkIC.ca,mkIC.H0,belL,AV.bel,belH,Ai,AT,AObj.nms,domB,hget]) (λa p hp=> ?_) (λa r h=>by subst h;exact LeV.refl _) ?_
 rotate_left
 intro a z;simp only[Tryz.f24,mkIC.ca,mkIC.H0,mkIC.H1];simp(disch:=omega)only[ZA,simprocAttr];obtain⟨l,k⟩:=a;simp only at z⊢;obtain⟨Z,h2⟩:=z;refine Au.old ⟨{i:Nat//i<=l.length},λi=>⟨[(5,.im (.int .i64 i.1)),(4,.im (.int .i64 0)),(1,.im (.int .i64 (k+i.1))),(0,.own 0)],[(0,(true,.arr 2 1 ((mkTo k l i.1).map intC)))],1⟩,λi=>l.length - i.1,λi=>⟨by simp[Ac.good,belT,belH,Ai,AV.bel],by simp⟩,⟨⟨0,by simp⟩,by simp(disch:=omega)only[ZA,simprocAttr,sub];simp[mkTo,mkI]⟩,λi=> ?_⟩;obtain⟨i,O⟩:=i;have Q:=mkTo_len (k:=k) O;simp(disch:=omega)only[ZA,simprocAttr,sub,Aq,Q];intro _;refine⟨λG=>⟨G,G,λx _=>⟨⟨i+1,by omega⟩,by simp only;omega,⟨?_,?_⟩,?_⟩⟩,λG=>⟨by omega,by rw[mkTo_end (by omega)]⟩⟩
 .rw[Am (by omega) (by omega)];simp only;omega
 .rw[Am (by omega) (by omega)];simp only;omega
 .rw[Si,mkTo_set G]
 simp[mkIC.H1] at hp;subst hp;exact .inl ⟨by omega,rfl,rfl⟩
def digK(n:Nat):ByteArray:=if h:n=0 then ByteArray.empty else digK (n/10)++strI [IntKind.u8.wrap (48+((n % 10:Nat):Int))] termination_by n
def mkTx(k:Int):ByteArray:=if k<=0 then "m0".toUTF8 else "m".toUTF8++digK k.toNat
def mkText.fv(a:Int):ByteArray:=(mkTx) a
def mkText.row:Row:=vK (b1 qI) rT (λa=>a<=1099511627776) mkText.fv
def mkText.q:=vKq (R:=mkText.row) rfl
def mkText.ok:Ak Tryz.prog 164 mkText.row:=by
 refine vw tN Tryz.func164 rfl (by kernel_rfl) ?_;intro a Q;simp only[Tryz.f164];simp(disch:=omega)only[ZA,simprocAttr,mkText.fv];by_cases c0:a<=0
 .rw[Af c0];simp only[mkTx];rw[Af c0];rfl
 rw[Ab c0];have eR:mkTx a= "m".toUTF8++digK a.toNat:=by simp only[mkTx];rw[Ab c0]
 refine Au.old ⟨{q:Nat×ByteArray//(q.1:Int)<=a/\digK a.toNat=digK q.1++q.2/\q.2.size+q.1<=a.toNat},λq=>⟨[(3,.im (.str q.1.2)),(0,.im (.int .i64 q.1.1))],[],0⟩,λq=>q.1.1,λq=>⟨by simp[Ac.good,belT,belH,Ai,AV.bel],by simp⟩,⟨⟨(a.toNat,ByteArray.empty),by simp only;exact⟨by omega,by simp,by simp⟩⟩,by simp(disch:=omega)only[ZA,simprocAttr,sub];exact⟨rfl,by omega⟩⟩,λq=> ?_⟩;obtain⟨⟨q,out⟩,G,z,O⟩:=q;simp only at G z O;simp(disch:=omega)only[ZA,simprocAttr,sub,Aq];refine⟨λc1=> ?_,λc1=> ?_⟩
 .have hq:q≠0:=by omega
  have Z:(q:Int).tmod 10=((q % 10:Nat):Int):=by rw[Ly (by omega)];omega
  have e2:(q:Int).tdiv 10=((q/10:Nat):Int):=by rw[Yg (by omega)];omega
  have e3:IntKind.i64.wrap (48+(q:Int).tmod 10)=48+((q % 10:Nat):Int):=by rw[Z];exact Am (by omega) (by omega)
  rw[e3,e2];have hs:({data:= #[UInt8.ofNat (IntKind.u8.wrap (48+((q % 10:Nat):Int))).toNat]}:ByteArray)=strI [IntKind.u8.wrap (48+((q % 10:Nat):Int))]:=rfl;have hz:(strI [IntKind.u8.wrap (48+((q % 10:Nat):Int))]).size=1:=rfl;rw[hs];refine⟨by omega,⟨(q/10,strI [IntKind.u8.wrap (48+((q % 10:Nat):Int))]++out),by simp only;omega,?_,?_⟩,by simp only;omega,rfl,by exact Am (by omega) (by omega)⟩
  .simp only;rw[z,digK,dif_neg hq,ByteArray.append_assoc]
  .simp only[ByteArray.size_append,hz];omega
 .have hq:q=0:=by omega
  subst hq;refine⟨by show 1+out.size<=_;omega,?_⟩;rw[eR,z,digK,dif_pos rfl,ByteArray.empty_append];rfl
def wrL{A:Type}(f:Nat->A)(l:List A)(i:Nat):List A:=(List.range i).map f++l.drop i
def JZ{A:Type}{f:Nat->A}{l:List A}{i:Nat}(h:i<=l.length):(wrL f l i).length=l.length:=by simp[wrL];omega
def JS{A:Type}(f:Nat->A)(l:List A):wrL f l 0=l:=by simp[wrL]
def Kc{A:Type}{f:Nat->A}{l:List A}{i:Nat}(h:i<l.length):(wrL f l i).set i (f i)=wrL f l (i+1):=by
 have hd:l.drop i=l[i]::l.drop (i+1):=by rw[H6 h]
 have z:((List.range i).map f).length=i:=by simp
 rw[wrL,Mx _ _ (by rw[z];omega),z,hd,D3,J5,wrL,M3];simp
def wrE{A:Type}(f:Nat->A)(n:Nat):List A:=(List.range n).map f
def Ke{A:Type}{f:Nat->A}{l:List A}{i:Nat}(h:i=l.length):wrL f l i=wrE f l.length:=by
 subst h;simp[wrL,wrE]
def gF(k:Int)(i:Nat):Glue:=⟨mkTx (k+2*i),k+2*i+1⟩
def mkGC.ca(a:List Glue×Int):List AV:=[.own 0,.im (.int .i64 a.2)]
def mkGC.H0(a:List Glue×Int):Ag:=[(0,(true,.arr 204 2 (a.1.map Glue.c)))]
def mkGC.H1(a:List Glue×Int):Ag:=[(0,(true,.arr 204 2 ((wrE (gF a.2) a.1.length).map Glue.c)))]
def mkGC.row:Row:=orow mkGC.ca mkGC.H0 1 (λa=>0<=a.2/\a.2+2*a.1.length<=1099511627776) (λj=>j==0) (λa=> .im (.int .i64 (a.2+2*a.1.length))) mkGC.H1 0
def mkGC.ok:Ak Tryz.prog 115 mkGC.row:=by
 refine ow (tC mkText.ok tN) Tryz.func115 rfl (by kernel_rfl) (exB:=λ_=>false) (R:=λa r=>r= .im (.int .i64 (a.2+2*a.1.length))) (λ_=>rfl)
  (λa=>by simp[mkGC.ca,mkGC.H0,belL,AV.bel,belH,Ai,AT,AObj.nms,domB,hget]) (λa p hp=> ?_) (λa r h=>by subst h;exact LeV.refl _) ?_
 rotate_left
 intro a z;simp only[Tryz.f115,mkGC.ca,mkGC.H0,mkGC.H1];simp(disch:=omega)only[ZA,simprocAttr];obtain⟨l,k⟩:=a;simp only at z⊢;obtain⟨h1,h2⟩:=z;refine Au.old ⟨{i:Nat//i<=l.length},λi=>⟨[(5,.im (.int .i64 i.1)),(4,.im (.int .i64 0)),(1,.im (.int .i64 (k+2*i.1))),(0,.own 0)],[(0,(true,.arr 204 2 ((wrL (gF k) l i.1).map Glue.c)))],1⟩,λi=>l.length - i.1,λi=>⟨by simp[Ac.good,belT,belH,Ai,AV.bel],by simp⟩,⟨⟨0,by simp⟩,by simp(disch:=omega)only[ZA,simprocAttr,sub,JS];simp⟩,λi=> ?_⟩;obtain⟨i,Z⟩:=i;have Q:=JZ (f:=gF k) Z;simp(disch:=omega)only[ZA,simprocAttr,mkText.q,mkText.fv,Aq,Q];intro _;refine⟨λO=>⟨by omega,O,O,λx hx=> ?_⟩,λO=> ?_⟩
 .have w1:IntKind.i64.wrap (k+2*(i:Int)+1)=k+2*(i:Int)+1:=Am (by omega) (by omega);have G:i<(List.map Glue.c (wrL (gF k) l i)).length:=by rw[Dz,Q];exact O
  refine⟨by rw[Cr];exact G,by rw[Cr];exact G,E0 (BA G) ?_⟩;simp(disch:=omega)only[ZA,simprocAttr,sub,w1,PF];refine⟨⟨i+1,by omega⟩,by simp only;omega,⟨?_,?_⟩,?_⟩
  .rw[Am (by omega) (by omega)];simp only;omega
  .rw[Am (by omega) (by omega)];simp only;omega
  .simp only;rw[<-Kc O,Fz];rfl
 .exact⟨by omega,by rw[Ke (by omega)]⟩
 simp[mkGC.H1] at hp;subst hp;exact .inl ⟨by omega,rfl,rfl⟩
def pF(k:Int)(i:Nat):Ad:=⟨⟨k+3*i,k+3*i+1⟩,k+3*i+2⟩
def mkPC.ca(a:List Ad×Int):List AV:=[.own 0,.im (.int .i64 a.2)]
def mkPC.H0(a:List Ad×Int):Ag:=[(0,(true,.arr 137 3 (a.1.map Ad.c)))]
def mkPC.H1(a:List Ad×Int):Ag:=[(0,(true,.arr 137 3 ((wrE (pF a.2) a.1.length).map Ad.c)))]
def mkPC.row:Row:=orow mkPC.ca mkPC.H0 1 (λa=>0<=a.2/\a.2+3*a.1.length<=1099511627776) (λj=>j==0) (λa=> .im (.int .i64 (a.2+3*a.1.length))) mkPC.H1 0
def mkPC.ok:Ak Tryz.prog 62 mkPC.row:=by
 refine ow tN Tryz.func62 rfl (by kernel_rfl) (exB:=λ_=>false) (R:=λa r=>r= .im (.int .i64 (a.2+3*a.1.length))) (λ_=>rfl)
  (λa=>by simp[mkPC.ca,mkPC.H0,belL,AV.bel,belH,Ai,AT,AObj.nms,domB,hget]) (λa p hp=> ?_) (λa r h=>by subst h;exact LeV.refl _) ?_
 rotate_left
 intro a G;simp only[Tryz.f62,mkPC.ca,mkPC.H0,mkPC.H1];simp(disch:=omega)only[ZA,simprocAttr];obtain⟨l,k⟩:=a;simp only at G⊢;obtain⟨h1,h2⟩:=G;refine Au.old ⟨{i:Nat//i<=l.length},λi=>⟨[(5,.im (.int .i64 i.1)),(4,.im (.int .i64 0)),(1,.im (.int .i64 (k+3*i.1))),(0,.own 0)],[(0,(true,.arr 137 3 ((wrL (pF k) l i.1).map Ad.c)))],1⟩,λi=>l.length - i.1,λi=>⟨by simp[Ac.good,belT,belH,Ai,AV.bel],by simp⟩,⟨⟨0,by simp⟩,by simp(disch:=omega)only[ZA,simprocAttr,sub,JS];simp⟩,λi=> ?_⟩;obtain⟨i,Z⟩:=i;have Q:=JZ (f:=pF k) Z;simp(disch:=omega)only[ZA,simprocAttr,Aq,Q];intro _;refine⟨λO=>⟨O,O,λx hx=> ?_⟩,λO=> ?_⟩
 .have w1:IntKind.i64.wrap (k+3*(i:Int)+1)=k+3*(i:Int)+1:=Am (by omega) (by omega);have w2:IntKind.i64.wrap (k+3*(i:Int)+1+1)=k+3*(i:Int)+2:=(Am (by omega) (by omega)).trans (by omega);have z:i<(List.map Ad.c (wrL (pF k) l i)).length:=by rw[Dz,Q];exact O
  simp only[w1];refine⟨by rw[Cr];exact z,by rw[Cr];exact z,E0 (BA z) ?_⟩;simp(disch:=omega)only[ZA,simprocAttr,w2,PF];refine⟨by rw[Cr];exact z,by rw[Cr];exact z,E0 (BA z) ?_⟩;simp(disch:=omega)only[ZA,simprocAttr,sub,PF];refine⟨⟨i+1,by omega⟩,by simp only;omega,⟨?_,?_⟩,?_⟩
  .rw[Am (by omega) (by omega)];simp only;omega
  .rw[Am (by omega) (by omega)];simp only;omega
  .simp only;rw[<-Kc O,Fz];rfl
 .exact⟨by omega,by rw[Ke (by omega)]⟩
 simp[mkPC.H1] at hp;subst hp;exact .inl ⟨by omega,rfl,rfl⟩
def oF(k:Int)(i:Nat):Opt:=⟨⟨k+3*i,k+3*i+1⟩,k+3*i+2⟩
def mkOC.ca(a:List Opt×Int):List AV:=[.own 0,.im (.int .i64 a.2)]
def mkOC.H0(a:List Opt×Int):Ag:=[(0,(true,.arr 108 3 (a.1.map Opt.c)))]
def mkOC.H1(a:List Opt×Int):Ag:=[(0,(true,.arr 108 3 ((wrE (oF a.2) a.1.length).map Opt.c)))]
def mkOC.row:Row:=orow mkOC.ca mkOC.H0 1 (λa=>0<=a.2/\a.2+3*a.1.length<=1099511627776) (λj=>j==0) (λa=> .im (.int .i64 (a.2+3*a.1.length))) mkOC.H1 0
def mkOC.ok:Ak Tryz.prog 25 mkOC.row:=by
 refine ow tN Tryz.func25 rfl (by kernel_rfl) (exB:=λ_=>false) (R:=λa r=>r= .im (.int .i64 (a.2+3*a.1.length))) (λ_=>rfl)
  (λa=>by simp[mkOC.ca,mkOC.H0,belL,AV.bel,belH,Ai,AT,AObj.nms,domB,hget]) (λa p hp=> ?_) (λa r h=>by subst h;exact LeV.refl _) ?_
 rotate_left
 intro a G;simp only[Tryz.f25,mkOC.ca,mkOC.H0,mkOC.H1];simp(disch:=omega)only[ZA,simprocAttr];obtain⟨l,k⟩:=a;simp only at G⊢;obtain⟨h1,h2⟩:=G;refine Au.old ⟨{i:Nat//i<=l.length},λi=>⟨[(5,.im (.int .i64 i.1)),(4,.im (.int .i64 0)),(1,.im (.int .i64 (k+3*i.1))),(0,.own 0)],[(0,(true,.arr 108 3 ((wrL (oF k) l i.1).map Opt.c)))],1⟩,λi=>l.length - i.1,λi=>⟨by simp[Ac.good,belT,belH,Ai,AV.bel],by simp⟩,⟨⟨0,by simp⟩,by simp(disch:=omega)only[ZA,simprocAttr,sub,JS];simp⟩,λi=> ?_⟩;obtain⟨i,Z⟩:=i;have Q:=JZ (f:=oF k) Z;simp(disch:=omega)only[ZA,simprocAttr,Aq,Q];intro _;refine⟨λO=>⟨O,O,λx hx=> ?_⟩,λO=> ?_⟩
 .have w1:IntKind.i64.wrap (k+3*(i:Int)+1)=k+3*(i:Int)+1:=Am (by omega) (by omega);have w2:IntKind.i64.wrap (k+3*(i:Int)+1+1)=k+3*(i:Int)+2:=(Am (by omega) (by omega)).trans (by omega);have z:i<(List.map Opt.c (wrL (oF k) l i)).length:=by rw[Dz,Q];exact O
  simp only[w1];refine⟨by rw[Cr];exact z,by rw[Cr];exact z,E0 (BA z) ?_⟩;simp(disch:=omega)only[ZA,simprocAttr,w2,PF];refine⟨by rw[Cr];exact z,by rw[Cr];exact z,E0 (BA z) ?_⟩;simp(disch:=omega)only[ZA,simprocAttr,sub,PF];refine⟨⟨i+1,by omega⟩,by simp only;omega,⟨?_,?_⟩,?_⟩
  .rw[Am (by omega) (by omega)];simp only;omega
  .rw[Am (by omega) (by omega)];simp only;omega
  .simp only;rw[<-Kc O,Fz];rfl
 .exact⟨by omega,by rw[Ke (by omega)]⟩
 simp[mkOC.H1] at hp;subst hp;exact .inl ⟨by omega,rfl,rfl⟩
def toIX.ca(a:List Int):List AV:=[.im (.sl false 1 (a.map intC))]
def toIX.H1(a:List Int):Ag:=[(1,(true,.arr 2 1 (a.map intC)))]
def toIX.row:Row:=orow toIX.ca (λ_=>[]) 0 (λa=>a.length<=1073741824) (λ_=>false) (λ_=> .own 1) toIX.H1 2
def toIX.ok:Ak Tryz.prog 14 toIX.row:=by
 refine ow tN Tryz.func14 rfl (by kernel_rfl) (exB:=λj=>j==1) (R:=λ_ r=>r= .own 1) (λ_=>rfl)
  (λa=>by simp[toIX.ca,belL,AV.bel,belH,Ai,AT]) (λa p hp=> ?_) (λa r h=>by subst h;exact LeV.refl _) ?_
 rotate_left
 intro a z;simp only[Tryz.f14,toIX.ca,toIX.H1];simp(disch:=omega)only[ZA,simprocAttr];intro Q;have aa:a.length<=1073741824:=z;refine⟨by omega,?_⟩;refine Au.old ⟨{k:Nat//k<=a.length},λk=>⟨[(4,.im (.int .i64 k.1)),(3,.own 1),(0,.im (.sl false 1 (a.map intC)))],[(1,(true,.arr 2 1 ((a.take k.1).map intC++List.replicate (a.length - k.1) [.int .i64 0])))],2⟩,λk=>a.length - k.1,λk=>⟨by simp[Ac.good,belT,belH,Ai,AV.bel],Ar _⟩,⟨⟨0,by omega⟩,by simp(disch:=omega)only[ZA,simprocAttr,sub];simp⟩,λk=> ?_⟩;obtain⟨k,O⟩:=k;simp(disch:=omega)only[ZA,simprocAttr,Aq,KX _ _ a k O];intro _;refine⟨λG=> ?_,λG=> ?_⟩
 .refine⟨G,λx Z=>⟨G,G,E0 (KS intC _ a k x Z) ?_⟩⟩;simp(disch:=omega)only[ZA,simprocAttr,sub];refine⟨⟨k+1,by omega⟩,by simp only;omega,?_,?_⟩
  .rw[Am (by omega) (by omega)];simp only;omega
  .exact Lb intC _ a k x Z
 .rw[KY intC _ a k (by omega)]
  try trivial
 simp[toIX.H1] at hp;subst hp;exact .inr ⟨by omega,by omega,rfl,rfl⟩
def toGX.ca(a:List Glue):List AV:=[.im (.sl false 2 (a.map Glue.c))]
def toGX.H1(a:List Glue):Ag:=[(1,(true,.arr 204 2 (a.map Glue.c)))]
def toGX.row:Row:=orow toGX.ca (λ_=>[]) 0 (λa=>a.length<=1073741824) (λ_=>false) (λ_=> .own 1) toGX.H1 2
def toGX.ok:Ak Tryz.prog 95 toGX.row:=by
 refine ow (tC toGlue.ok tN) Tryz.func95 rfl (by kernel_rfl) (exB:=λj=>j==1) (R:=λ_ r=>r= .own 1) (λ_=>rfl)
  (λa=>by simp[toGX.ca,belL,AV.bel,belH,Ai,AT]) (λa p hp=> ?_) (λa r h=>by subst h;exact LeV.refl _) ?_
 rotate_left
 intro a z;simp only[Tryz.f95,toGX.ca,toGX.H1];simp(disch:=omega)only[ZA,simprocAttr];intro Q;have aa:a.length<=1073741824:=z;refine⟨by omega,?_⟩;refine Au.old ⟨{k:Nat//k<=a.length},λk=>⟨[(4,.im (.int .i64 k.1)),(3,.own 1),(0,.im (.sl false 2 (a.map Glue.c)))],[(1,(true,.arr 204 2 ((a.take k.1).map Glue.c++List.replicate (a.length - k.1) [.str ByteArray.empty,.int .i64 0])))],2⟩,λk=>a.length - k.1,λk=>⟨by simp[Ac.good,belT,belH,Ai,AV.bel],Ar _⟩,⟨⟨0,by omega⟩,by simp(disch:=omega)only[ZA,simprocAttr,sub];simp⟩,λk=> ?_⟩;obtain⟨k,O⟩:=k;simp(disch:=omega)only[ZA,simprocAttr,toGlue.q,toGlue.fv,Aq,KX _ _ a k O];intro _;refine⟨λG=> ?_,λG=> ?_⟩
 .refine⟨G,λx Z=>⟨G,G,E0 (KS Glue.c _ a k x Z) ?_⟩⟩;simp(disch:=omega)only[ZA,simprocAttr,sub];refine⟨⟨k+1,by omega⟩,by simp only;omega,?_,?_⟩
  .rw[Am (by omega) (by omega)];simp only;omega
  .exact Lb Glue.c _ a k x Z
 .rw[KY Glue.c _ a k (by omega)]
  try trivial
 simp[toGX.H1] at hp;subst hp;exact .inr ⟨by omega,by omega,rfl,rfl⟩
def toPX.ca(a:List Ad):List AV:=[.im (.sl false 3 (a.map Ad.c))]
def toPX.H1(a:List Ad):Ag:=[(1,(true,.arr 137 3 (a.map Ad.c)))]
def toPX.row:Row:=orow toPX.ca (λ_=>[]) 0 (λa=>a.length<=1073741824) (λ_=>false) (λ_=> .own 1) toPX.H1 2
def toPX.ok:Ak Tryz.prog 49 toPX.row:=by
 refine ow (tC toPlaced.ok tN) Tryz.func49 rfl (by kernel_rfl) (exB:=λj=>j==1) (R:=λ_ r=>r= .own 1) (λ_=>rfl)
  (λa=>by simp[toPX.ca,belL,AV.bel,belH,Ai,AT]) (λa p hp=> ?_) (λa r h=>by subst h;exact LeV.refl _) ?_
 rotate_left
 intro a z;simp only[Tryz.f49,toPX.ca,toPX.H1];simp(disch:=omega)only[ZA,simprocAttr];intro Q;have aa:a.length<=1073741824:=z;refine⟨by omega,?_⟩;refine Au.old ⟨{k:Nat//k<=a.length},λk=>⟨[(4,.im (.int .i64 k.1)),(3,.own 1),(0,.im (.sl false 3 (a.map Ad.c)))],[(1,(true,.arr 137 3 ((a.take k.1).map Ad.c++List.replicate (a.length - k.1) [.int .i64 0,.int .i64 0,.int .i64 0])))],2⟩,λk=>a.length - k.1,λk=>⟨by simp[Ac.good,belT,belH,Ai,AV.bel],Ar _⟩,⟨⟨0,by omega⟩,by simp(disch:=omega)only[ZA,simprocAttr,sub];simp⟩,λk=> ?_⟩;obtain⟨k,O⟩:=k;simp(disch:=omega)only[ZA,simprocAttr,toPlaced.q,toPlaced.fv,Aq,KX _ _ a k O];intro _;refine⟨λG=> ?_,λG=> ?_⟩
 .refine⟨G,λx Z=>⟨G,G,E0 (KS Ad.c _ a k x Z) ?_⟩⟩;simp(disch:=omega)only[ZA,simprocAttr,sub];refine⟨⟨k+1,by omega⟩,by simp only;omega,?_,?_⟩
  .rw[Am (by omega) (by omega)];simp only;omega
  .exact Lb Ad.c _ a k x Z
 .rw[KY Ad.c _ a k (by omega)]
  try trivial
 simp[toPX.H1] at hp;subst hp;exact .inr ⟨by omega,by omega,rfl,rfl⟩
def toTX.ca(a:Tile):List AV:=[.im (.agg (Tile.c a))]
def toTX.r0(a:Tile):AV:= .agg [.im (.str a.Name),.own 4]
def toTX.H1(a:Tile):Ag:=[(4,(true,.arr 2 1 (a.Sides.map intC)))]
def toTX.row:Row:=orow toTX.ca (λ_=>[]) 0 (λa=>a.Sides.length<=1073741824) (λ_=>false) toTX.r0 toTX.H1 5
def toTX.ok:Ak Tryz.prog 144 toTX.row:=by
 refine ow (tC toIX.ok tN) Tryz.func144 rfl (by kernel_rfl) (exB:=λj=>j==4) (R:=λa r=>r=toTX.r0 a) (λ_=>rfl)
  (λa=>by simp[toTX.ca,Tile.c,belL,AV.bel,belH,Ai,AT]) (λa p hp=> ?_) (λa r h=>by subst h;exact LeV.refl _) ?_
 rotate_left
 intro a z;simp only[Tryz.f144,toTX.ca,toTX.H1,Tile.c];simp(disch:=omega)only[ZA,simprocAttr];refine orow.os a.Sides [] z (λj=>by simp[domB,hget]) rfl rfl ?_ ?_
 .simp(disch:=omega)only[ZA,simprocAttr,toIX.ca,Bu]
 simp(disch:=omega)only[ZA,simprocAttr,toIX.H1,toTX.r0]
 skip
 simp[toTX.H1] at hp;subst hp;exact .inr ⟨by omega,by omega,rfl,rfl⟩
def tlF(a:List Tile)(i:Nat):Ent:=(true,.arr 2 1 (((a[i]?.map Tile.Sides).getD []).map intC))
def tlA(a:List Tile)(i:Nat):List AV:=[.im (.str ((a[i]?.map Tile.Name).getD ByteArray.empty)),.own (2+i)]
def tlZ:List AV:=[.im (.str ByteArray.empty),.im (.sl true 0 [])]
def tlR(a:List Tile)(k:Nat):List (List AV):=(List.range k).map (tlA a)++List.replicate (a.length - k) tlZ
def JQ{a:List Tile}{k:Nat}(h:k<=a.length):(tlR a k).length=a.length:=by simp[tlR];omega
def tlR_lo{a:List Tile}{k i:Nat}(h:i<k):(tlR a k)[i]? =some (tlA a i):=by
 rw[tlR,Ci (by simpa using h),BI,Ee h];rfl
def tlR_hi{a:List Tile}{k i:Nat}(h:k<=i)(z:i<a.length):(tlR a k)[i]? =some tlZ:=by
 rw[tlR,C8 (by simpa using h),Fu,Af (by simp;omega)]
def tlR_bel(a:List Tile)(k N:Nat)(h:2+k<=N):(tlR a k).all (belL N)=true:=by
 rw[BE];intro r z;rcases AG.1 z with z|z
 .obtain⟨i,G,rfl⟩:=AF.1 z
  have:=AJ.1 G
  simp[tlA,belL,AV.bel];omega
 .obtain rfl:=Gf z;simp[tlZ,belL,AV.bel]
def tlR_zero(a:List Tile):tlR a 0=imR (List.replicate a.length [.str ByteArray.empty,.sl true 0 []]):=by
 simp[tlR,imR,tlZ]
def FG(h:Nat->Option Ent)(F:AV->Option AV)(b:Nat)(f:Nat->Ent)(n:Nat)(H: ∀i,i<n->h (b+i)=some (f i))(hc: ∀i,i<n->cvtE F (f i).2=some (f i).2):Cq h F (famH b n f):=by
 have: ∀(l:List Nat),(∀i∈l,i<n)->Cq h F (l.map λi=>(b+i,f i)):=by
  intro l;induction l with
  |nil=>intro _;simp[Cq]
  |cons i r ih=>
   intro z;simp only[Ay,Cq];refine⟨?_,ih (λj O=>z j (AX _ O))⟩;rw[H i (z i (AU ..))];exact⟨rfl,hc i (z i (AU ..))⟩
 exact this _ (λi G=>AJ.1 G)
def tlR_cvt{h:Nat->Option Ent}{kx:Nat->Option Nat}{m:Nat}{a:List Tile}(G: ∀i,i<a.length->kx (2+i)=some (2+i)):mapO (mapO (cvt h kx (m+1))) (tlR a a.length)=some (tlR a a.length):=by
 have e:tlR a a.length=(List.range a.length).map (tlA a):=by simp[tlR]
 rw[e];refine Hx (g:=tlA a) (k:=tlA a) _ λi z=> ?_
 simp only[tlA,mapO,cvt,G i (AJ.1 z),kp]
def toLX.ca(a:List Tile):List AV:=[.im (.sl false 2 (a.map Tile.c))]
def toLX.H1(a:List Tile):Ag:=(1,(true,.arrA 206 2 (tlR a a.length)))::famH 2 (min a.length 1048576) (tlF a)
def toLX.pre(a:List Tile):Prop:=a.length<=1048576/\ ∀x∈a,x.Sides.length<=1073741824
def toLX.row:Row:=orow toLX.ca (λ_=>[]) 0 toLX.pre (λ_=>false) (λ_=> .own 1) toLX.H1 2000000
def toLX.ok:Ak Tryz.prog 96 toLX.row:=by
 refine ow (tC toTX.ok tN) Tryz.func96 rfl (by kernel_rfl) (exB:=λj=>Nat.ble 1 j) (R:=λ_ r=>r= .own 1) (λ_=>rfl)
  (λa=>by simp[toLX.ca,belL,AV.bel,belH,Ai,AT]) (λa p hp=> ?_) (λa r h=>by subst h;exact LeV.refl _) ?_
 rotate_left
 intro a ah;simp only[Tryz.f96,toLX.ca];simp(disch:=omega)only[ZA,simprocAttr];obtain⟨h1,h2⟩:=ah;intro _;refine⟨by omega,?_⟩;refine Au.ren ⟨{k:Nat//k<=a.length},λk=>⟨[(4,.im (.int .i64 k.1)),(3,.own 1),(0,.im (.sl false 2 (a.map Tile.c)))],(1,(true,.arrA 206 2 (tlR a k.1)))::famH 2 k.1 (tlF a),2+a.length⟩,λk=>a.length - k.1,λk=>⟨?_,by simp⟩,⟨⟨0,by simp⟩,[],?_⟩,λk=> ?_⟩
 .simp only[Ac.good,belT,belH,Ai,AV.bel,CB,BY];rw[GY _ _ _ (λi=>by simp[belH,tlF]),GK _ _ _ _ (by omega),tlR_bel _ _ _ (by omega)];simp
  try omega
 .simp only[subP,famH,Vh,D2,tlR_zero];simp(disch:=omega)only[ZA,simprocAttr,Pm]
  try simp
 .obtain⟨k,ai⟩:=k;have ad:=JQ (a:=a) ai;simp(disch:=omega)only[ZA,simprocAttr,Aq,AL];intro _;refine⟨λhk=>⟨by omega,hk,λx hx=> ?_⟩,λhk=> ?_⟩
  .refine orow.os x [] (h2 x (Ax hx)) (λj=>by simp[domB,hget]) rfl rfl ?_ ?_
   .simp(disch:=omega)only[ZA,simprocAttr,toTX.ca,Bu,Tile.c]
   simp(disch:=omega)only[ZA,simprocAttr,toTX.H1,toTX.r0,ad,AL];refine⟨⟨by omega,by omega,by omega⟩,hk,by omega,hk,E0 (tlR_hi (Ar _) hk) ?_⟩;simp only[tlZ];simp(disch:=omega)only[ZA,simprocAttr,AL,A7];rw[HO 2 k (tlF a) [1] (by simp)];refine⟨⟨?_,by omega⟩,⟨k+1,by omega⟩,[(2+k,some (2+a.length+4))],by simp only;omega,?_⟩
   .rw[BE];intro r hr;rcases IQ hr with hr|hr
    .exact BE.1 (tlR_bel a k _ (by omega)) r hr
    .subst hr;simp[belL,AV.bel]
   obtain⟨g,hg⟩: ∃g,g=pm [(2+k,some (2+a.length+4))]:=⟨_,rfl⟩;have qx:g (2+k)=some (2+a.length+4):=by rw[hg];simp[pm]
   have qo: ∀u,u≠2+k->g u=some u:=by intro u h;rw[hg];simp only[pm];rw[Ab (by omega)]
   have q1:pm [(2+k,some (2+a.length+4))] 1=some 1:=by rw[<-hg];exact qo 1 (by omega)
   have aa:=qx;have Z:=qo;rw[hg] at aa Z;refine⟨⟨by omega,trivial⟩,?_,?_,?_⟩
   .rw[KQ,<-hg];simp only[Cy,Jc];refine KZ _ _ (K8 [1] 2 (k+1) (by simp) (by simp)) ?_;have ac: ∀u∈[1]++(List.range (k+1)).map (2+ ·),u<2+a.length+1:=by
     intro u hu;rcases AG.1 hu with hu|hu
     .simp at hu;omega
     .obtain⟨i,hi,rfl⟩:=AF.1 hu
      have:=AJ.1 hi
      show 2+i<2+a.length+1;omega
    intro u hu v hv m z G;have ak:=ac u hu;have am:=ac v hv;by_cases O:u=2+k<;>by_cases Q:v=2+k
    .omega
    .rw[O,qx] at z;rw[qo v Q] at G;simp only[An] at z G;omega
    .rw[qo u O] at z;rw[Q,qx] at G;simp only[An] at z G;omega
    .rw[qo u O] at z;rw[qo v Q] at G;simp only[An] at z G;omega
   .simp only[Gx,tget];simp(disch:=omega)only[ZA,simprocAttr,q1];rw[Am (by omega) (by omega)];simp
   .simp only[Dw,KG];refine⟨?_,λi hi=> ?_⟩
    .simp(disch:=omega)only[ZA,simprocAttr,q1];rw[La];refine⟨by rw[Cr,ad,JQ (by omega)],λi r1 r2 O Q=> ?_⟩;have af:i<a.length:=by
      have:=(Ba.1 O).1
      rw[JQ (by omega)] at this;exact this
     by_cases ab:i=k
     .subst ab;rw[tlR_lo (by omega)] at O;rw[BA (by rw[ad];exact af)] at Q;obtain rfl:=Al O;obtain rfl:=Al Q;simp only[tlA,hx,Bw,Ao,mtL,mt,aa,ownM,DB]
     .rw[BM (by omega)] at Q;by_cases ac:i<k
      .rw[tlR_lo (by omega)] at O Q;obtain rfl:=Al O;obtain rfl:=Al Q;simp only[tlA,mtL,mt,Z (2+i) (by omega),ownM,DB]
      .rw[tlR_hi (by omega) af] at O Q;obtain rfl:=Al O;obtain rfl:=Al Q;simp only[tlZ,mtL,mt,DB]
    .show entN _ _ true (.arr 2 1 (((a[i]?.map Tile.Sides).getD []).map intC)) _;by_cases ab:i=k
     .subst ab;rw[aa];simp(disch:=omega)only[ZA,simprocAttr,hx,Ao]
      try simp
     .rw[Z (2+i) (by omega)];simp(disch:=omega)only[ZA,simprocAttr,DL,IC,tlF]
      try simp
  .have aj:k=a.length:=by omega
   subst aj;refine⟨by omega,by omega,?_⟩;have ag:min a.length 1048576=a.length:=by omega
   obtain⟨H,hH⟩: ∃H,H=hget ((1,(true,AObj.arrA 206 2 (tlR a a.length)))::famH 2 a.length (tlF a)):=⟨_,rfl⟩;rw[<-hH];have kx: ∀i,i<a.length->(kxB [] 0 2000000 λj=>decide (1<=j)) (2+i)=some (2+i):=by
    intro i hi;have hb:(decide (1<=2+i) && (Nat.ble 0 (2+i) && Nat.blt (2+i) (0+2000000)))=true:=by
     simp only[Av,AP,DC,Ch];omega
    simp only[kxB,domB,hget,J6,JC,hb,Bc]
   have g1:H 1=some (true,.arrA 206 2 (tlR a a.length)):=by rw[hH];rfl
   simp only[toLX.H1,Cq,ag];refine⟨?_,FG _ _ _ _ _ (λi hi=> ?_) (λi hi=>rfl)⟩
   .rw[g1];exact⟨rfl,by simp only[cvtE];rw[tlR_cvt kx];rfl⟩
   .rw[hH];simp only[hget,A7 _ _ (show 1≠2+i by omega),AM];exact DL _ _ _ _ hi
 simp only[toLX.H1,A9,famH,AF,AJ] at hp;rcases hp with rfl|⟨i,hi,rfl⟩
 .exact .inr ⟨by omega,by omega,rfl,rfl⟩
 .exact .inr ⟨by simp only;omega,by simp only;omega,by simp only[DC];omega,rfl⟩
def tlB(b:Nat)(a:List Tile):List (List AV):=(List.range a.length).map λi=>[.im (.str ((a[i]?.map Tile.Name).getD ByteArray.empty)),.own (b+i)]
def tlR_ren(σ:Nat->Nat)(b:Nat)(a:List Tile)(h: ∀i,i<a.length->σ (2+i)=b+i):(tlR a a.length).map (renL σ)=tlB b a:=by
 have e:tlR a a.length=(List.range a.length).map (tlA a):=by simp[tlR]
 rw[e,Hj];refine Gd λi z=> ?_
 simp only[Function.comp,tlA,renL,AV.ren,h i (AJ.1 z)]
def tlF_ren(σ:Nat->Nat)(b n:Nat)(a:List Tile)(h: ∀i,i<n->σ (2+i)=b+i):renH σ (famH 2 n (tlF a))=famH b n (tlF a):=by
 simp only[famH]
 have: ∀(l:List Nat),(∀i∈l,i<n)->renH σ (l.map λi=>(2+i,tlF a i))=l.map λi=>(b+i,tlF a i):=by
  intro l;induction l with
  |nil=>intro _;rfl
  |cons i r ih=>
   intro z;have e:=ih (λj O=>z j (AX _ O));simp only[Ay,renH,h i (z i (AU ..)),tlF,AObj.ren] at e⊢;rw[e]
 exact this _ (λi G=>AJ.1 G)
def HN(k:List Nat)(nx cnt:Nat): ∀(H:Ag),(∀p∈H,nx<=p.1/\p.1<nx+cnt)->D8 k nx cnt H=true
 |[],_=>rfl
 |(i,e)::r,h=>by
  have z:=h (i,e) (AU ..);simp only at z;simp only[D8,EH,HN k nx cnt r (λp hp=>h p (AX _ hp)),CB,Dy,Av,DC,Ch];exact .inl z
def tlB_bel(b:Nat)(a:List Tile)(N:Nat)(h:b+a.length<=N):(tlB b a).all (belL N)=true:=by
 rw[BE];intro r G;obtain⟨i,z,rfl⟩:=AF.1 G
 have:=AJ.1 z
 simp[belL,AV.bel];omega
def toLX_ren{σ:Nat->Nat}{nx:Nat}(a:List Tile)(h: ∀j,σ j=nx+j):renH σ (toLX.H1 a)=(nx+1,(true,.arrA 206 2 (tlB (nx+2) a)))::famH (nx+2) (min a.length 1048576) (tlF a):=by
 simp only[toLX.H1,renH,AObj.ren];rw[tlR_ren σ (nx+2) a (λi _=>by rw[h];omega),tlF_ren σ (nx+2) _ a (λi _=>by rw[h];omega),h]
def HQ{b n:Nat}{f:Nat->Ent}{r:Ag}{m:Nat}(h:m<b):hget (famH b n f++r) m=hget r m:=by
 rw[Gv,SR _ _ _ _ (.inl h)];rfl
def Nm(ks:List Nat): ∀(a b:Ag),hdel (a++b) ks=hdel a ks++hdel b ks
 |[],b=>by simp[hdel]
 |(i,e)::r,b=>by
  simp only[Bv,hdel,Nm ks r b];cases ks.contains i<;>rfl
def JJ{b n:Nat}{f:Nat->Ent}{r:Ag}{k:Nat}(h:k<b):hdel (famH b n f++r) [k]=famH b n f++hdel r [k]:=by
 rw[Nm,HO _ _ _ _ (λx z=>by rw[AO] at z;subst z;exact .inl h)]
def tlB_cvt{h:Nat->Option Ent}{kx:Nat->Option Nat}{m b:Nat}{a:List Tile}(G: ∀i,i<a.length->kx (b+i)=some (b+i)):mapO (mapO (cvt h kx (m+1))) (tlB b a)=some (tlB b a):=by
 refine Hx (g:=λi=>[AV.im (.str ((a[i]?.map Tile.Name).getD ByteArray.empty)),AV.own (b+i)]) (k:=λi=>[AV.im (.str ((a[i]?.map Tile.Name).getD ByteArray.empty)),AV.own (b+i)]) _ λi z=> ?_
 simp only[mapO,cvt,G i (AJ.1 z),kp]
def kxB_ge{lo cnt m:Nat}(z:lo<=m)(G:m<cnt):(kxB [] 0 cnt λj=>decide (lo<=j)) m=some m:=by
 have hb:(decide (lo<=m) && (Nat.ble 0 m && Nat.blt m (0+cnt)))=true:=by
  simp only[Av,AP,DC,Ch];omega
 simp only[kxB,domB,hget,J6,JC,hb,Bc]
def toSX.ca(a:Aj):List AV:=[.im (.agg (Aj.c a))]
def toSX.r0:AV:= .agg [.own 4,.own 6]
def toSX.H1(a:Aj):Ag:=(4,(true,.arr 204 2 (a.Glues.map Glue.c)))::(6,(true,.arrA 206 2 (tlB 7 a.Tiles)))::famH 7 (min a.Tiles.length 1048576) (tlF a.Tiles)
def toSX.pre(a:Aj):Prop:=a.Glues.length<=1073741824/\toLX.pre a.Tiles
def toSX.row:Row:=orow toSX.ca (λ_=>[]) 0 toSX.pre (λ_=>false) (λ_=>toSX.r0) toSX.H1 2000005
def toSX.ok:Ak Tryz.prog 48 toSX.row:=by
 refine ow (tC toGX.ok (tC toLX.ok tN)) Tryz.func48 rfl (by kernel_rfl) (exB:=λj=>Nat.ble 4 j) (R:=λ_ r=>r=toSX.r0) (λ_=>rfl)
  (λa=>by simp[toSX.ca,Aj.c,belL,AV.bel,belH,Ai,AT]) (λa p hp=> ?_) (λa r h=>by subst h;exact LeV.refl _) ?_
 rotate_left
 intro a O;simp only[Tryz.f48,toSX.ca,Aj.c];simp(disch:=omega)only[ZA,simprocAttr];obtain⟨h1,Q⟩:=O;refine orow.os a.Glues [] h1 (λj=>by simp[domB,hget]) rfl rfl ?_ ?_
 .simp(disch:=omega)only[ZA,simprocAttr,toGX.ca,Bu]
 simp(disch:=omega)only[ZA,simprocAttr,toGX.H1];refine orow.os a.Tiles [] Q (λj=>by simp[domB,hget]) rfl rfl ?_ ?_
 .simp(disch:=omega)only[ZA,simprocAttr,toLX.ca,Bu]
 have hσ: ∀j,sgx (osn []) 0 5 j=5+j:=λj=>by simp[sgx]
 rw[toLX_ren a.Tiles hσ];obtain⟨h3,h4⟩:=Q;have z:min a.Tiles.length 1048576=a.Tiles.length:=by omega
 rw[z];simp only[kont,AV.ren,hσ];refine⟨?_,?_⟩
 .rw[Eff.ok_nr,HN _ _ _ _ (λp hp=> ?_)]
  .simp only[AV.bel,belH];rw[GY _ _ _ (λi=>by simp[belH,tlF]),tlB_bel _ _ _ (by omega)];simp
  .rcases A9.1 hp with rfl|hp
   .exact⟨by simp only;omega,by simp only;omega⟩
   .obtain⟨i,G,rfl⟩:=AF.1 hp
    have:=AJ.1 G
    exact⟨by simp only;omega,by simp only;omega⟩
 simp(disch:=omega)only[ZA,simprocAttr,AL,toSX.r0,HQ,JJ];obtain⟨H,hH⟩: ∃H,H=hget ((1,(true,AObj.cells 45 [AV.own 4,AV.own 6]))::(2,(true,AObj.cells 45 [AV.own 4,AV.own 6]))::(6,(true,AObj.arrA 206 2 (tlB 7 a.Tiles)))::
  (famH 7 a.Tiles.length (tlF a.Tiles)++[(4,(true,AObj.arr 204 2 (List.map Glue.c a.Glues))),(0,(true,AObj.cells 25 [AV.im (D.sl false 2 (List.map Glue.c a.Glues)),AV.im (D.sl false 2 (List.map Tile.c a.Tiles))]))])):=⟨_,rfl⟩
 rw[<-hH];have Z:H 4=some (true,.arr 204 2 (a.Glues.map Glue.c)):=by rw[hH];simp[hget,HQ]
 have g6:H 6=some (true,.arrA 206 2 (tlB 7 a.Tiles)):=by rw[hH];rfl
 have gf: ∀i,i<a.Tiles.length->H (7+i)=some (tlF a.Tiles i):=by
  intro i G;rw[hH];simp only[hget,A7 _ _ (show 1≠7+i by omega),A7 _ _ (show 2≠7+i by omega),A7 _ _ (show 6≠7+i by omega),AM];rw[Gv,DL _ _ _ _ G];rfl
 simp only[toSX.H1,Cq,z];refine⟨?_,?_,FG _ _ _ _ _ gf (λi G=>rfl)⟩
 .rw[Z];exact⟨rfl,rfl⟩
 .rw[g6];exact⟨rfl,by simp only[cvtE];rw[tlB_cvt (λi G=>kxB_ge (by omega) (by omega))];rfl⟩
 simp only[toSX.H1,A9,famH,AF,AJ] at hp;rcases hp with rfl|rfl|⟨i,G,rfl⟩
 .exact .inr ⟨by omega,by simp only;omega,rfl,rfl⟩
 .exact .inr ⟨by omega,by simp only;omega,rfl,rfl⟩
 .exact .inr ⟨by simp only;omega,by simp only;omega,by simp only[DC];omega,rfl⟩
def toAX.ca(a:Asm):List AV:=[.im (.agg (Asm.c a))]
def toAX.H1(a:Asm):Ag:=[(4,(true,.arr 137 3 (a.Tiles.map Ad.c)))]
def toAX.row:Row:=orow toAX.ca (λ_=>[]) 0 (λa=>a.Tiles.length<=1073741824) (λ_=>false) (λ_=> .agg [.own 4]) toAX.H1 5
def toAX.ok:Ak Tryz.prog 12 toAX.row:=by
 refine ow (tC toPX.ok tN) Tryz.func12 rfl (by kernel_rfl) (exB:=λj=>j==4) (R:=λ_ r=>r= .agg [.own 4]) (λ_=>rfl)
  (λa=>by simp[toAX.ca,Asm.c,belL,AV.bel,belH,Ai,AT]) (λa p hp=> ?_) (λa r h=>by subst h;exact LeV.refl _) ?_
 rotate_left
 intro a z;simp only[Tryz.f12,toAX.ca,toAX.H1,Asm.c];simp(disch:=omega)only[ZA,simprocAttr];refine orow.os a.Tiles [] z (λj=>by simp[domB,hget]) rfl rfl ?_ ?_
 .simp(disch:=omega)only[ZA,simprocAttr,toPX.ca,Bu]
 simp(disch:=omega)only[ZA,simprocAttr,toPX.H1]
 skip
 simp[toAX.H1] at hp;subst hp;exact .inr ⟨by omega,by omega,rfl,rfl⟩
def toSX_ren{σ:Nat->Nat}{nx:Nat}(a:Aj)(h: ∀j,σ j=nx+j):renH σ (toSX.H1 a)=(nx+4,(true,.arr 204 2 (a.Glues.map Glue.c)))::(nx+6,(true,.arrA 206 2 (tlB (nx+7) a.Tiles)))::famH (nx+7) (min a.Tiles.length 1048576) (tlF a.Tiles):=by
 have z:(tlB 7 a.Tiles).map (renL σ)=tlB (nx+7) a.Tiles:=by
  simp only[tlB,Hj];refine Gd λi O=> ?_
  simp only[Function.comp,renL,AV.ren,h];rw[show nx+(7+i)=nx+7+i by omega]
 have G: ∀n,renH σ (famH 7 n (tlF a.Tiles))=famH (nx+7) n (tlF a.Tiles):=by
  intro n;simp only[famH]
  have: ∀(l:List Nat),renH σ (l.map λi=>(7+i,tlF a.Tiles i))=l.map λi=>(nx+7+i,tlF a.Tiles i):=by
   intro l;induction l with
   |nil=>rfl
   |cons i r ih=>
    simp only[Ay,renH,h,tlF,AObj.ren] at ih⊢;rw[ih,show nx+(7+i)=nx+7+i by omega]
  exact this _
 simp only[toSX.H1,renH,AObj.ren,z,G,h]
def toYX.ca(a:Ah):List AV:=[.im (.agg (Ah.c a))]
def toYX.r0(a:Ah):AV:= .agg [.own 7,.own 9,.own 2000012,.im (.int .i64 a.Temperature)]
def toYX.H1(a:Ah):Ag:=(7,(true,.arr 204 2 (a.Set.Glues.map Glue.c)))::(9,(true,.arrA 206 2 (tlB 10 a.Set.Tiles)))::(2000012,(true,.arr 137 3 (a.Seed.Tiles.map Ad.c)))::famH 10 (min a.Set.Tiles.length 1048576) (tlF a.Set.Tiles)
def toYX.pre(a:Ah):Prop:=toSX.pre a.Set/\a.Seed.Tiles.length<=1073741824
def toYX.row:Row:=orow toYX.ca (λ_=>[]) 0 toYX.pre (λ_=>false) toYX.r0 toYX.H1 2000013
def toYX.ok:Ak Tryz.prog 11 toYX.row:=by
 refine ow (tC toSX.ok (tC toAX.ok tN)) Tryz.func11 rfl (by kernel_rfl) (exB:=λj=>Nat.ble 7 j) (R:=λa r=>r=toYX.r0 a) (λ_=>rfl)
  (λa=>by simp[toYX.ca,Ah.c,belL,AV.bel,belH,Ai,AT]) (λa p hp=> ?_) (λa r h=>by subst h;exact LeV.refl _) ?_
 rotate_left
 intro a O;simp only[Tryz.f11,toYX.ca,Ah.c];simp(disch:=omega)only[ZA,simprocAttr];obtain⟨Q,h2⟩:=O;refine orow.os a.Set [] Q (λj=>by simp[domB,hget]) rfl rfl ?_ ?_
 .simp(disch:=omega)only[ZA,simprocAttr,toSX.ca,Aj.c,Bu]
 have hσ: ∀j,sgx (osn []) 0 3 j=3+j:=λj=>by simp[sgx]
 rw[toSX_ren a.Set hσ];obtain⟨h0,h3,h4⟩:=Q;have z:min a.Set.Tiles.length 1048576=a.Set.Tiles.length:=by omega
 rw[z];simp only[kont,toSX.r0,AV.ren,renL,hσ];refine⟨?_,?_⟩
 .rw[Eff.ok_nr,HN _ _ _ _ (λp hp=> ?_)]
  .simp only[AV.bel,belL,belH];rw[GY _ _ _ (λi=>by simp[belH,tlF]),tlB_bel _ _ _ (by omega)];simp
  .rcases A9.1 hp with rfl|hp
   .exact⟨by simp only;omega,by simp only;omega⟩
   rcases A9.1 hp with rfl|hp
   .exact⟨by simp only;omega,by simp only;omega⟩
   .obtain⟨i,G,rfl⟩:=AF.1 hp
    have:=AJ.1 G
    exact⟨by simp only;omega,by simp only;omega⟩
 simp(disch:=omega)only[ZA,simprocAttr,AL,HQ,JJ];refine orow.os a.Seed [] h2 (λj=>by simp[domB,hget]) rfl rfl ?_ ?_
 .simp(disch:=omega)only[ZA,simprocAttr,toAX.ca,Asm.c,Bu]
 simp(disch:=omega)only[ZA,simprocAttr,toAX.H1,AL,HQ,JJ,toYX.r0];obtain⟨H,hH⟩: ∃H,H=hget ((1,(true,AObj.cells 47 [AV.own 7,AV.own 9,AV.own 2000012,AV.im (D.int IntKind.i64 a.Temperature)]))::(2,(true,AObj.cells 47 [AV.own 7,AV.own 9,AV.own 2000012,AV.im (D.int IntKind.i64 a.Temperature)]))::
  (2000012,(true,AObj.arr 137 3 (List.map Ad.c a.Seed.Tiles)))::(7,(true,AObj.arr 204 2 (List.map Glue.c a.Set.Glues)))::(9,(true,AObj.arrA 206 2 (tlB 10 a.Set.Tiles)))::
  (famH 10 a.Set.Tiles.length (tlF a.Set.Tiles)++[(0,(true,AObj.cells 30 [AV.im (D.sl false 2 (List.map Glue.c a.Set.Glues)),AV.im (D.sl false 2 (List.map Tile.c a.Set.Tiles)),AV.im (D.sl false 3 (List.map Ad.c a.Seed.Tiles)),AV.im (D.int IntKind.i64 a.Temperature)]))])):=⟨_,rfl⟩
 rw[<-hH];have Z:H 7=some (true,.arr 204 2 (a.Set.Glues.map Glue.c)):=by rw[hH];rfl
 have g9:H 9=some (true,.arrA 206 2 (tlB 10 a.Set.Tiles)):=by rw[hH];rfl
 have gs:H 2000012=some (true,.arr 137 3 (a.Seed.Tiles.map Ad.c)):=by rw[hH];simp[hget]
 have gf: ∀i,i<a.Set.Tiles.length->H (10+i)=some (tlF a.Set.Tiles i):=by
  intro i G;rw[hH];simp only[hget,A7 _ _ (show 1≠10+i by omega),A7 _ _ (show 2≠10+i by omega),A7 _ _ (show 2000012≠10+i by omega),A7 _ _ (show 7≠10+i by omega),A7 _ _ (show 9≠10+i by omega),AM];rw[Gv,DL _ _ _ _ G];rfl
 simp only[toYX.H1,Cq,z];refine⟨?_,?_,?_,FG _ _ _ _ _ gf (λi G=>rfl)⟩
 .rw[Z];exact⟨rfl,rfl⟩
 .rw[g9];exact⟨rfl,by simp only[cvtE];rw[tlB_cvt (λi G=>kxB_ge (by omega) (by omega))];rfl⟩
 .rw[gs];exact⟨rfl,rfl⟩
 simp only[toYX.H1,A9,famH,AF,AJ] at hp;rcases hp with rfl|rfl|rfl|⟨i,G,rfl⟩
 .exact .inr ⟨by omega,by simp only;omega,rfl,rfl⟩
 .exact .inr ⟨by omega,by simp only;omega,rfl,rfl⟩
 .exact .inr ⟨by omega,by simp only;omega,by simp only[DC];omega,rfl⟩
 .exact .inr ⟨by simp only;omega,by simp only;omega,by simp only[DC];omega,rfl⟩
def eqInt64SF.fv(a:(List Int)×(List Int)):Bool:=(λa b=>decide (a=b)) (a.1) (a.2)
def eqInt64SF.row:Row:=vKF (b2 (qS BB Bm) (qS BB Bm)) rB (λa=>True) eqInt64SF.fv
def eqInt64SF.ok:Ak Tryz.prog 20 eqInt64SF.row:=by
 refine vwF tN Tryz.func20 rfl (by kernel_rfl) ?_;intro a Z;simp only[Tryz.f20];simp(disch:=omega)only[ZA,simprocAttr,eqInt64SF.fv,D.sc,D.scs,decD];intro h1 h2;simp only[Aq];refine⟨λG=> ?_,λG=> ?_⟩
 .have:a.1≠a.2:=λh=>G (by rw[h])
  simp[this]
 have G:a.1.length=a.2.length:=by omega
 refine Au.old ⟨{k:Nat//k<=a.1.length/\a.1.take k=a.2.take k},λk=>⟨[(5,.im (.int .i64 k.1)),(4,.im (.bool false)),(0,.im (.sl false 1 (a.1.map intC))),(1,.im (.sl false 1 (a.2.map intC)))],[],0⟩,λk=>a.1.length - k.1,λk=>⟨by simp[Ac.good,belT,belH,Ai,AV.bel],Ar _⟩,⟨⟨0,by simp⟩,by simp(disch:=omega)only[ZA,simprocAttr,sub]⟩,λk=> ?_⟩;obtain⟨k,Q,z⟩:=k;simp(disch:=omega)only[ZA,simprocAttr,D.sc,D.scs,decD,sub,Aq];intro _;refine⟨λO=>⟨O,λx hx=>⟨by omega,λy hy=> ?_⟩⟩,λO=> ?_⟩
 .obtain⟨g1,g2⟩:=LL G Q z hx hy;exact⟨λh=>by simp[g2 h],λh=>CZ O h1 ⟨by omega,g1 (by simpa using h)⟩⟩
 .rw[BX (by omega),BX (by omega)] at z;simp[z]
def eqOptionSF.fv(a:(List Opt)×(List Opt)):Bool:=(λa b=>decide (a=b)) (a.1) (a.2)
def eqOptionSF.row:Row:=vKF (b2 (qS Opt.d_le Opt.c_n) (qS Opt.d_le Opt.c_n)) rB (λa=>True) eqOptionSF.fv
def eqOptionSF.ok:Ak Tryz.prog 16 eqOptionSF.row:=by
 refine vwF (tC eqOption.ok tN) Tryz.func16 rfl (by kernel_rfl) ?_;intro a Z;simp only[Tryz.f16];simp(disch:=omega)only[ZA,simprocAttr,eqOptionSF.fv,D.sc,D.scs,decD];intro h1 h2;simp only[Aq];refine⟨λG=> ?_,λG=> ?_⟩
 .have:a.1≠a.2:=λh=>G (by rw[h])
  simp[this]
 have G:a.1.length=a.2.length:=by omega
 refine Au.old ⟨{k:Nat//k<=a.1.length/\a.1.take k=a.2.take k},λk=>⟨[(5,.im (.int .i64 k.1)),(4,.im (.bool false)),(0,.im (.sl false 3 (a.1.map Opt.c))),(1,.im (.sl false 3 (a.2.map Opt.c)))],[],0⟩,λk=>a.1.length - k.1,λk=>⟨by simp[Ac.good,belT,belH,Ai,AV.bel],Ar _⟩,⟨⟨0,by simp⟩,by simp(disch:=omega)only[ZA,simprocAttr,sub]⟩,λk=> ?_⟩;obtain⟨k,Q,z⟩:=k;simp(disch:=omega)only[ZA,simprocAttr,eqOption.q,eqOption.fv,D.sc,D.scs,decD,sub,Aq];intro _;refine⟨λO=>⟨O,λx hx=>⟨by omega,λy hy=> ?_⟩⟩,λO=> ?_⟩
 .obtain⟨g1,g2⟩:=LL G Q z hx hy;exact⟨λh=>by simp[g2 (show x≠y from h)],λh=>CZ O h1 ⟨by omega,g1 (show x=y from Df.1 h)⟩⟩
 .rw[BX (by omega),BX (by omega)] at z;simp[z]
def eqSystemF.fv(a:Ah×Ah):Bool:=(λa b=>decide (a=b)) (a.1) (a.2)
def eqSystemF.row:Row:=vKF (b2 (qR Ah.d_le) (qR Ah.d_le)) rB (λa=>True) eqSystemF.fv
def eqSystemF.ok:Ak Tryz.prog 18 eqSystemF.row:=by
 refine vwF (tC eqTileSet.ok (tC eqAssembly.ok tN)) Tryz.func18 rfl (by kernel_rfl) ?_;intro a G;simp only[Tryz.f18];simp(disch:=omega)only[ZA,simprocAttr,Asm.d,eqSystemF.fv,eqTileSet.q,eqTileSet.fv,eqAssembly.q,eqAssembly.fv,D.sc,D.scs,decD];obtain⟨⟨⟨x,O⟩,⟨y⟩,u⟩,⟨⟨z,Q⟩,⟨w⟩,v⟩⟩:=a;simp only[Ah.mk.injEq,Aj.mk.injEq,Asm.mk.injEq]
 grind
def mkAC.ca(a:Asm×Int):List AV:=[.agg [.own 0],.im (.int .i64 a.2)]
def mkAC.H0(a:Asm×Int):Ag:=[(0,(true,.arr 137 3 (a.1.Tiles.map Ad.c)))]
def mkAC.H1(a:Asm×Int):Ag:=[(0,(true,.arr 137 3 ((wrE (pF a.2) a.1.Tiles.length).map Ad.c)))]
def mkAC.row:Row:=orow mkAC.ca mkAC.H0 1 (λa=>0<=a.2/\a.2+3*a.1.Tiles.length<=1099511627776) (λj=>j==0) (λa=> .im (.int .i64 (a.2+3*a.1.Tiles.length))) mkAC.H1 0
def mkAC.ok:Ak Tryz.prog 22 mkAC.row:=by
 refine ow (tC mkPC.ok tN) Tryz.func22 rfl (by kernel_rfl) (exB:=λ_=>false) (R:=λa r=>r= .im (.int .i64 (a.2+3*a.1.Tiles.length))) (λ_=>rfl)
  (λa=>by simp[mkAC.ca,mkAC.H0,belL,AV.bel,belH,Ai,AT,AObj.nms,domB,hget]) (λa p hp=> ?_) (λa r h=>by subst h;exact LeV.refl _) ?_
 rotate_left
 intro a z;simp only[Tryz.f22,mkAC.ca,mkAC.H0,mkAC.H1];simp(disch:=omega)only[ZA,simprocAttr];refine orow.os (a.1.Tiles,a.2) [0] z (λj=> ?_) rfl rfl ?_ ?_
 .simp only[domB,mkPC.H0,hget];by_cases G:j=0
  .subst G;simp
  .have:(0==j)=false:=by simpa using λh=>G h.symm
   rw[this];simp;omega
 .simp(disch:=omega)only[ZA,simprocAttr,ORB,mkPC.ca,mkPC.H0,Bu,B8]
  try exact⟨rfl,rfl⟩
 simp(disch:=omega)only[ZA,simprocAttr,ORB,mkPC.H1,B8,Cn]
 skip
 simp[mkAC.H1] at hp;subst hp;exact .inl ⟨by omega,rfl,rfl⟩
def nT(a:List Tile):Nat:=min a.length 1048576
def sdL(a:List Tile)(i:Nat):List Int:=(a[i]?.map Tile.Sides).getD []
def tlK(a:List Tile)(k:Int):Nat->Int
 |0=>k
 |i+1=>tlK a k i+1+(sdL a i).length
def tlM(a:List Tile)(k:Int)(i j:Nat):List AV:=if j<i then [.im (.str (mkTx (tlK a k j))),.own (2+j)] else tlA a j
def tlN(a:List Tile)(k:Int)(i j:Nat):Ent:=(true,.arr 2 1 ((if j<i then mkI (tlK a k j+1) (sdL a j).length else sdL a j).map intC))
def mkLH(a:List Tile)(k:Int)(i:Nat):Ag:=(0,(true,.arrA 206 2 ((List.range (nT a)).map (tlM a k i))))::famH 2 (nT a) (tlN a k i)
def mkLC.ca(a:List Tile×Int):List AV:=[.own 0,.im (.int .i64 a.2)]
def mkLC.H0(a:List Tile×Int):Ag:=mkLH a.1 a.2 0
def mkLC.H1(a:List Tile×Int):Ag:=mkLH a.1 a.2 (nT a.1)
def mkLC.r0(a:List Tile×Int):AV:= .im (.int .i64 (tlK a.1 a.2 a.1.length))
def mkLC.pre(a:List Tile×Int):Prop:=a.1.length<=1048576/\0<=a.2/\tlK a.1 a.2 a.1.length<=1099511627776
def mkLC.row:Row:=orow mkLC.ca mkLC.H0 2000000 mkLC.pre (λ_=>true) mkLC.r0 mkLC.H1 0
def CC(a:List Tile):nT a<=1048576:=L7 _ _
def Ka(a:List Tile)(k:Int)(i j N:Nat)(h:2+j<N):belL N (tlM a k i j)=true:=by
 simp only[tlM]
 split<;>simp[tlA,belL,AV.bel,h]
def JP(a:List Tile)(k:Int)(i j:Nat):nmsL (tlM a k i j)=[2+j]:=by
 simp only[tlM]
 split<;>simp[tlA,nmsL,AV.nms]
def Nv(a:List Tile)(k:Int)(i N:Nat)(h:2+nT a<N):belH N (mkLH a k i)=true:=by
 simp only[mkLH,belH];rw[GY _ _ _ (λj=>by simp[belH,tlN]),CB,BE];intro r G;obtain⟨j,z,rfl⟩:=AF.1 G;exact Ka _ _ _ _ _ (by have:=AJ.1 z;omega)
def mkLC.hbel(a:List Tile×Int):belL 2000000 (mkLC.ca a)=true:=by simp[mkLC.ca,belL,AV.bel]
def mkLC.hbH(a:List Tile×Int):belH 2000000 (mkLC.H0 a)=true:=Nv _ _ _ _ (by have:=CC a.1;omega)
def mkLC.hkH(a:List Tile×Int):Ai 2000000 (mkLC.H0 a)=true:=by
 simp only[mkLC.H0,mkLH,Ai];rw[GK _ _ _ _ (by have:=CC a.1;omega)];simp
def El(a:List Tile)(k:Int)(i j:Nat):domB (mkLH a k i) j=true↔j=0\/(2<=j/\j<2+nT a):=by
 simp only[domB,mkLH,hget,Mk];by_cases h0:j=0
 .subst h0;simp
 .have:(0==j)=false:=by simpa using λh=>h0 h.symm
  rw[this];simp only[AM];split
  .rename_i h;simp[h]
  .rename_i h;simp[h0];omega
def mkLC.hnm(a:List Tile×Int):AT (mkLC.H0 a) (mkLC.H0 a):=by
 simp only[mkLC.H0];have G: ∀m,(∃j,j<nT a.1/\m=2+j)->domB (mkLH a.1 a.2 0) m=true:=by
  rintro m ⟨j,O,rfl⟩;exact (El _ _ _ _).2 (.inr ⟨by omega,by omega⟩)
 conv=>arg 2;unfold mkLH
 simp only[AT];refine⟨λm z=> ?_,Nd λi Z m z=>by simp[tlN,AObj.nms] at z⟩;simp only[AObj.nms] at z;obtain⟨r,Q,z⟩:=CQ.1 z;obtain⟨j,O,rfl⟩:=AF.1 Q;rw[JP,AO] at z;exact G m ⟨j,AJ.1 O,z⟩
def tlK_b(a:List Tile)(k:Int)(h:0<=k): ∀i j,i<=j->0<=tlK a k i/\tlK a k i<=tlK a k j:=by
 have pos: ∀i,0<=tlK a k i:=by
  intro i;induction i with
  |zero=>exact h
  |succ i ih=>simp only[tlK];omega
 intro i j z;refine⟨pos i,?_⟩;induction j with
 |zero=>have:i=0:=by omega
        subst this;exact Fv _
 |succ j ih=>
  by_cases c:i=j+1
  .subst c;exact Fv _
  .have:=ih (by omega)
   simp only[tlK];omega
def Nq(s:Ac)(b n:Nat)(f:Nat->Ent):subH s (famH b n f)= ∀i,i<n->hget s.h (b+i)=some (f i):=by
 have: ∀(l:List Nat),subH s (l.map λi=>(b+i,f i))↔ ∀i∈l,hget s.h (b+i)=some (f i):=by
  intro l;induction l with
  |nil=>simp[subH]
  |cons i r ih=>simp only[Ay,subH,ih,A9,RF]
 apply propext;rw[famH,this];simp only[AJ]
def JV(a:List Tile)(k:Int)(i j:Nat)(h:j<nT a):hget (mkLH a k i) (2+j)=some (tlN a k i j):=by
 simp only[mkLH,hget,A7 _ _ (show 0≠2+j by omega),AM];exact DL _ _ _ _ h
def mkLC.ok:Ak Tryz.prog 116 mkLC.row:=by
 refine ow (tC mkText.ok (tC mkIC.ok tN)) Tryz.func116 rfl (by kernel_rfl) (exB:=λ_=>false) (R:=λa r=>r=mkLC.r0 a) (λ_=>rfl)
  (λa=>⟨mkLC.hbel a,mkLC.hbH a,mkLC.hkH a,mkLC.hnm a⟩) (λa p hp=> ?_) (λa r h=>by subst h;exact LeV.refl _) ?_
 rotate_left
 intro a aa;simp only[Tryz.f116,mkLC.ca];simp(disch:=omega)only[ZA,simprocAttr];obtain⟨l,k⟩:=a;obtain⟨h1,h2,h3⟩:=aa;simp only at h1 h2 h3;have hn:nT l=l.length:=by simp only[nT];omega
 simp only[AL,mkLC.H0,mkLC.H1];refine Au.old ⟨{i:Nat//i<=l.length},λi=>⟨[(5,.im (.int .i64 i.1)),(4,.im (.int .i64 0)),(0,.own 0),(1,.im (.int .i64 (tlK l k i.1)))],mkLH l k i.1,2000000⟩,λi=>l.length - i.1,λi=>⟨?_,by simp⟩,⟨⟨0,by simp⟩,?_⟩,λi=> ?_⟩
 .simp only[Ac.good,belT,AV.bel,CB,BY];rw[Nv _ _ _ _ (by omega)];simp only[mkLH,Ai];rw[GK _ _ _ _ (by omega)];simp
 .simp only[sub];simp(disch:=omega)only[ZA,simprocAttr,tlK]
  conv=>arg 2;unfold mkLH
  simp only[subH,Nq];exact⟨rfl,λj z=>JV _ _ _ _ z⟩
 .obtain⟨i,ac⟩:=i;have hb:=tlK_b l k h2 i l.length ac;have Q:((List.range (nT l)).map (tlM l k i)).length=l.length:=by simp[hn]
  simp only[mkLH];simp(disch:=omega)only[ZA,simprocAttr,mkText.q,mkText.fv,Aq,Q,AL];intro _;refine⟨λZ=>⟨by omega,Z,Z,λx hx=> ?_⟩,λZ=> ?_⟩
  .obtain rfl:i=x:=by
    rw[Ee (by omega)] at hx;exact Al hx
   have em:tlM l k i i=[.im (.str ((l[i]?.map Tile.Name).getD ByteArray.empty)),.own (2+i)]:=by simp[tlM,tlA]
   have G:((List.range (nT l)).map (tlM l k i)).set i [.im (.str (mkTx (tlK l k i))),.own (2+i)]=(List.range (nT l)).map (tlM l k (i+1)):=by
    apply EY;intro j;by_cases z:i=j
    .subst z;rw[BA (by rw[Q];exact Z),BI,Ee (by omega)];simp[tlM]
    .rw[BM z,BI,BI];cases hr:(List.range (nT l))[j]? with
     |none=>rfl
     |some y=>
      have hy:j=y:=by
       have hl:=(Ba.1 hr).1;simp at hl;rw[Ee hl] at hr;exact Al hr
      subst hy;simp only[Bw,tlM];by_cases c:j<i
      .rw[Af c,Af (by omega)]
      .rw[Ab c,Ab (by omega)]
   rw[em];simp only[Gz,D9];have O:i<((List.range (nT l)).map (tlM l k i)).length:=by rw[Q];exact Z
   have hw:IntKind.i64.wrap (tlK l k i+1)=tlK l k i+1:=Am (by omega) (by omega);refine⟨by simp,?_,by rw[Cr];exact O,by rw[Cr];exact O,E0 (BA O) ?_⟩
   .rw[G,BE];intro r hr;obtain⟨j,z,rfl⟩:=AF.1 hr;exact Ka _ _ _ _ _ (by have:=AJ.1 z;omega)
   simp(disch:=omega)only[ZA,simprocAttr,G,hw];have ab:=(tlK_b l k h2 (i+1) l.length Z).2;simp only[tlK] at ab;refine⟨by omega,?_⟩;simp only[AL];rw[HO 2 (nT l) (tlN l k i) [0] (by simp)];refine orow.os (sdL l i,tlK l k i+1) [2+i] ⟨by simp only;omega,by simp only;omega⟩ (λj=> ?_) rfl ?_ ?_ ?_
   .simp only[domB,mkIC.H0,hget];by_cases z:j=0
    .subst z;simp
    .have:(0==j)=false:=by simpa using λh=>z h.symm
     rw[this];simp;omega
   .simp only[IP,CB,Ch];omega
   .refine⟨by simp[mkIC.ca,renL,AV.ren,sgx,osn],?_,trivial⟩;have e:sgx (osn [2+i]) 1 2000000 0=2+i:=by simp[sgx,osn]
    rw[e]
    have:=JV l k i i (by omega)
    simp only[mkLH,tlN,hget,A7 _ _ (show 0≠2+i by omega),AM] at this;simp only[hget,A7 _ _ (show 0≠2+i by omega),AM];rw[DL _ _ _ _ (by omega)];simp[tlN,AObj.ren]
   simp(disch:=omega)only[ZA,simprocAttr,ORB,mkIC.H1,sub,AL,A7,IC,B8];refine⟨.inr (by omega),⟨i+1,by omega⟩,by simp only;omega,⟨by rw[Am (by omega) (by omega)];simp only;omega,rfl⟩,rfl,?_⟩;rw[Nq];intro j z;by_cases ag:j=i
   .subst ag;simp[hget,tlN]
   .simp only[hget,A7 _ _ (show 2+i≠2+j by omega),A7 _ _ (show 0≠2+j by omega),AM];rw[FU _ _ _ (by omega),DL _ _ _ _ z];simp only[tlN];by_cases c:j<i
    .rw[Af c,Af (by omega)]
    .rw[Ab c,Ab (by omega)]
  .have ad:i=l.length:=by omega
   subst ad;have kx: ∀j,j<nT l->kxB ((0,(true,AObj.arrA 206 2 (List.map (tlM l k 0) (List.range (nT l)))))::famH 2 (nT l) (tlN l k 0)) 2000000 0 (λ_=>false) (2+j)=some (2+j):=by
    intro j z
    have:=(El l k 0 (2+j)).2 (.inr ⟨by omega,by omega⟩)
    simp only[mkLH] at this;simp only[kxB,this,L5,Bc]
   refine⟨?_,rfl,?_,?_⟩
   .have: ∀(h:Nat->Option Ent) (H:Ag),roB h (λ_=>true) H:=by
     intro h H;induction H with
     |nil=>trivial
     |cons x r ih=>obtain⟨j,e⟩:=x;exact⟨trivial,ih⟩
    exact this _ _
   .rw[show tlM l k (nT l)=tlM l k l.length by rw[hn]];rw[Hx (g:=tlM l k l.length) (k:=tlM l k l.length) _ (λj z=> ?_)]
    .rfl
    .have af:=AJ.1 z;simp only[tlM,Af (show j<l.length by omega),mapO,cvt,kx j af,kp]
   .refine FG _ _ _ _ _ (λj z=> ?_) (λj z=>rfl);simp only[hget,A7 _ _ (show 0≠2+j by omega),AM];rw[DL _ _ _ _ z,hn]
 refine .inl ?_;have ah:p.1=0\/(2<=p.1/\p.1<2+nT a.1):=by
  simp only[mkLC.H1,mkLH,A9,famH,AF,AJ] at hp;rcases hp with rfl|⟨j,z,rfl⟩
  .exact .inl rfl
  .exact .inr ⟨by simp only;omega,by simp only;omega⟩
 have:=CC a.1
 exact⟨by omega,rfl,(El _ _ _ _).2 ah⟩
end Go.Ae
