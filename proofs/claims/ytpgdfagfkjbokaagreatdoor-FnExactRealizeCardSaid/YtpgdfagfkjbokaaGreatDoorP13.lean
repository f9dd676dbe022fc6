/- Lemmas. Conditions: none. -/
import Derived.Test.YtpgdfagfkjbokaaGreatDoorP12
import Derived.Shelf.SlSortCmp.WholeK
import Derived.Shelf.SlicesG.Cmp
import Derived.StillTailTactics
import Derived.Lib.Small
import Derived.Lib.Walk
import Derived.Shelf.SlSortCmp.NoneTotal
set_option linter.all false
set_option maxHeartbeats 8000000
set_option maxRecDepth 100000
namespace Go.Proofs
open Go.Shelf
def Tryz.sortPl_ren:Go.Shelf.Ren:=⟨λ|6=>104|15=>143|14=>142|28=>175|29=>176|20=>167|21=>168|22=>169|23=>170|24=>171|25=>172|26=>173|27=>174|46=>195|47=>196|48=>197|49=>198|50=>199|57=>222|n=>n,λ|22=>47|24=>115|25=>170|3=>3|39=>188|0=>0|53=>248|55=>250|4=>4|46=>242|45=>241|50=>140|5=>5|9=>9|66=>272|70=>276|76=>302|77=>303|n=>n,λ|n=>n⟩
def Tryz.sortPl:Go.Proofs.SlLaysF0.n6 Tryz.prog Tryz.sortPl_ren:={
 mixed:=by kernel_rfl
 f6:=⟨Tryz.f104.name,by decide,Tryz.func104.trans (BV some (by kernel_rfl))⟩
 f14:=⟨Tryz.f142.name,by decide,Tryz.func142.trans (BV some (by kernel_rfl))⟩
 f15:=Tryz.func143.trans (BV some (by kernel_rfl))
 f20:=⟨Tryz.f167.name,by decide,Tryz.func167.trans (BV some (by kernel_rfl))⟩
 f21:=⟨Tryz.f168.name,by decide,Tryz.func168.trans (BV some (by kernel_rfl))⟩
 f22:=⟨Tryz.f169.name,by decide,Tryz.func169.trans (BV some (by kernel_rfl))⟩
 f23:=⟨Tryz.f170.name,by decide,Tryz.func170.trans (BV some (by kernel_rfl))⟩
 f24:=⟨Tryz.f171.name,by decide,Tryz.func171.trans (BV some (by kernel_rfl))⟩
 f25:=⟨Tryz.f172.name,by decide,Tryz.func172.trans (BV some (by kernel_rfl))⟩
 f26:=⟨Tryz.f173.name,by decide,Tryz.func173.trans (BV some (by kernel_rfl))⟩
 f27:=⟨Tryz.f174.name,by decide,Tryz.func174.trans (BV some (by kernel_rfl))⟩
 f28:=Tryz.func175.trans (BV some (by kernel_rfl))
 f29:=Tryz.func176.trans (BV some (by kernel_rfl))
 f46:=⟨Tryz.f195.name,by decide,Tryz.func195.trans (BV some (by kernel_rfl))⟩
 f47:=Tryz.func196.trans (BV some (by kernel_rfl))
 f48:=Tryz.func197.trans (BV some (by kernel_rfl))
 f49:=⟨Tryz.f198.name,by decide,Tryz.func198.trans (BV some (by kernel_rfl))⟩
 f50:=⟨Tryz.f199.name,by decide,Tryz.func199.trans (BV some (by kernel_rfl))⟩
 f57:=⟨Tryz.f222.name,by decide,Tryz.func222.trans (BV some (by kernel_rfl))⟩
 t0:=Tryz.underlying0
 a0:=Tryz.isAgg0
 z0:=Tryz.sizeOf0
 v0:=Tryz.zeroValue0
 t3:=Tryz.underlying3
 a3:=Tryz.isAgg3
 z3:=Tryz.sizeOf3
 v3:=Tryz.zeroValue3
 t4:=Tryz.underlying4
 a4:=Tryz.isAgg4
 z4:=Tryz.sizeOf4
 v4:=Tryz.zeroValue4
 t5:=Tryz.underlying5
 a5:=Tryz.isAgg5
 z5:=Tryz.sizeOf5
 v5:=Tryz.zeroValue5
 t9:=Tryz.underlying9
 a9:=Tryz.isAgg9
 z9:=Tryz.sizeOf9
 v9:=Tryz.zeroValue9
 t22:=Tryz.underlying47
 a22:=Tryz.isAgg47
 z22:=Tryz.sizeOf47
 v22:=Tryz.zeroValue47
 t25:=Tryz.underlying170
 a25:=Tryz.isAgg170
 z25:=Tryz.sizeOf170
 v25:=Tryz.zeroValue170
 t39:=Tryz.underlying188
 a39:=Tryz.isAgg188
 z39:=Tryz.sizeOf188
 v39:=Tryz.zeroValue188
 t45:=Tryz.underlying241
 a45:=Tryz.isAgg241
 z45:=Tryz.sizeOf241
 v45:=Tryz.zeroValue241
 t46:=Tryz.underlying242
 a46:=Tryz.isAgg242
 z46:=Tryz.sizeOf242
 v46:=Tryz.zeroValue242
 t50:=Tryz.underlying140
 a50:=Tryz.isAgg140
 z50:=Tryz.sizeOf140
 v50:=Tryz.zeroValue140
 t53:=Tryz.underlying248
 a53:=Tryz.isAgg248
 z53:=Tryz.sizeOf248
 v53:=Tryz.zeroValue248
 t55:=Tryz.underlying250
 a55:=Tryz.isAgg250
 z55:=Tryz.sizeOf250
 v55:=Tryz.zeroValue250
 t66:=Tryz.underlying272
 a66:=Tryz.isAgg272
 z66:=Tryz.sizeOf272
 v66:=Tryz.zeroValue272
 t70:=Tryz.underlying276
 a70:=Tryz.isAgg276
 z70:=Tryz.sizeOf276
 v70:=Tryz.zeroValue276
 t76:=Tryz.underlying302
 a76:=Tryz.isAgg302
 z76:=Tryz.sizeOf302
 v76:=Tryz.zeroValue302
 t77:=Tryz.underlying303
 a77:=Tryz.isAgg303
 z77:=Tryz.sizeOf303
 v77:=Tryz.zeroValue303}
def Tryz.sortPt_ren:Go.Shelf.Ren:=⟨λ|6=>152|15=>143|14=>181|28=>175|29=>176|20=>204|21=>205|22=>206|23=>207|24=>208|25=>209|26=>210|27=>211|46=>227|47=>196|48=>197|49=>228|50=>229|57=>239|n=>n,λ|22=>156|24=>56|25=>169|3=>3|39=>188|0=>0|53=>248|55=>250|4=>4|46=>242|45=>241|50=>140|5=>5|9=>9|66=>272|70=>276|76=>302|77=>303|n=>n,λ|n=>n⟩
def Tryz.sortPt:Go.Proofs.SlLaysF0.n6 Tryz.prog Tryz.sortPt_ren:={
 mixed:=by kernel_rfl
 f6:=⟨Tryz.f152.name,by decide,Tryz.func152.trans (BV some (by kernel_rfl))⟩
 f14:=⟨Tryz.f181.name,by decide,Tryz.func181.trans (BV some (by kernel_rfl))⟩
 f15:=Tryz.func143.trans (BV some (by kernel_rfl))
 f20:=⟨Tryz.f204.name,by decide,Tryz.func204.trans (BV some (by kernel_rfl))⟩
 f21:=⟨Tryz.f205.name,by decide,Tryz.func205.trans (BV some (by kernel_rfl))⟩
 f22:=⟨Tryz.f206.name,by decide,Tryz.func206.trans (BV some (by kernel_rfl))⟩
 f23:=⟨Tryz.f207.name,by decide,Tryz.func207.trans (BV some (by kernel_rfl))⟩
 f24:=⟨Tryz.f208.name,by decide,Tryz.func208.trans (BV some (by kernel_rfl))⟩
 f25:=⟨Tryz.f209.name,by decide,Tryz.func209.trans (BV some (by kernel_rfl))⟩
 f26:=⟨Tryz.f210.name,by decide,Tryz.func210.trans (BV some (by kernel_rfl))⟩
 f27:=⟨Tryz.f211.name,by decide,Tryz.func211.trans (BV some (by kernel_rfl))⟩
 f28:=Tryz.func175.trans (BV some (by kernel_rfl))
 f29:=Tryz.func176.trans (BV some (by kernel_rfl))
 f46:=⟨Tryz.f227.name,by decide,Tryz.func227.trans (BV some (by kernel_rfl))⟩
 f47:=Tryz.func196.trans (BV some (by kernel_rfl))
 f48:=Tryz.func197.trans (BV some (by kernel_rfl))
 f49:=⟨Tryz.f228.name,by decide,Tryz.func228.trans (BV some (by kernel_rfl))⟩
 f50:=⟨Tryz.f229.name,by decide,Tryz.func229.trans (BV some (by kernel_rfl))⟩
 f57:=⟨Tryz.f239.name,by decide,Tryz.func239.trans (BV some (by kernel_rfl))⟩
 t0:=Tryz.underlying0
 a0:=Tryz.isAgg0
 z0:=Tryz.sizeOf0
 v0:=Tryz.zeroValue0
 t3:=Tryz.underlying3
 a3:=Tryz.isAgg3
 z3:=Tryz.sizeOf3
 v3:=Tryz.zeroValue3
 t4:=Tryz.underlying4
 a4:=Tryz.isAgg4
 z4:=Tryz.sizeOf4
 v4:=Tryz.zeroValue4
 t5:=Tryz.underlying5
 a5:=Tryz.isAgg5
 z5:=Tryz.sizeOf5
 v5:=Tryz.zeroValue5
 t9:=Tryz.underlying9
 a9:=Tryz.isAgg9
 z9:=Tryz.sizeOf9
 v9:=Tryz.zeroValue9
 t22:=Tryz.underlying156
 a22:=Tryz.isAgg156
 z22:=Tryz.sizeOf156
 v22:=Tryz.zeroValue156
 t25:=Tryz.underlying169
 a25:=Tryz.isAgg169
 z25:=Tryz.sizeOf169
 v25:=Tryz.zeroValue169
 t39:=Tryz.underlying188
 a39:=Tryz.isAgg188
 z39:=Tryz.sizeOf188
 v39:=Tryz.zeroValue188
 t45:=Tryz.underlying241
 a45:=Tryz.isAgg241
 z45:=Tryz.sizeOf241
 v45:=Tryz.zeroValue241
 t46:=Tryz.underlying242
 a46:=Tryz.isAgg242
 z46:=Tryz.sizeOf242
 v46:=Tryz.zeroValue242
 t50:=Tryz.underlying140
 a50:=Tryz.isAgg140
 z50:=Tryz.sizeOf140
 v50:=Tryz.zeroValue140
 t53:=Tryz.underlying248
 a53:=Tryz.isAgg248
 z53:=Tryz.sizeOf248
 v53:=Tryz.zeroValue248
 t55:=Tryz.underlying250
 a55:=Tryz.isAgg250
 z55:=Tryz.sizeOf250
 v55:=Tryz.zeroValue250
 t66:=Tryz.underlying272
 a66:=Tryz.isAgg272
 z66:=Tryz.sizeOf272
 v66:=Tryz.zeroValue272
 t70:=Tryz.underlying276
 a70:=Tryz.isAgg276
 z70:=Tryz.sizeOf276
 v70:=Tryz.zeroValue276
 t76:=Tryz.underlying302
 a76:=Tryz.isAgg302
 z76:=Tryz.sizeOf302
 v76:=Tryz.zeroValue302
 t77:=Tryz.underlying303
 a77:=Tryz.isAgg303
 z77:=Tryz.sizeOf303
 v77:=Tryz.zeroValue303}
def Tryz.cmpI64_ren:Go.Shelf.Ren:=⟨λ|5=>145|7=>177|n=>n,λ|22=>2|3=>3|4=>4|n=>n,λ|n=>n⟩
def Tryz.cmpI64:Go.Proofs.SlLaysC2.n5 Tryz.prog Tryz.cmpI64_ren:={
 mixed:=by kernel_rfl
 f5:=⟨Tryz.f145.name,by decide,Tryz.func145.trans (BV some (by kernel_rfl))⟩
 f7:=⟨Tryz.f177.name,by decide,Tryz.func177.trans (BV some (by kernel_rfl))⟩
 t3:=Tryz.underlying3
 a3:=Tryz.isAgg3
 z3:=Tryz.sizeOf3
 v3:=Tryz.zeroValue3
 t4:=Tryz.underlying4
 a4:=Tryz.isAgg4
 z4:=Tryz.sizeOf4
 v4:=Tryz.zeroValue4
 t22:=Tryz.underlying2
 a22:=Tryz.isAgg2
 z22:=Tryz.sizeOf2
 v22:=Tryz.zeroValue2}
end Go.Proofs
namespace Go.Proofs
open Go.Shelf Go.RowKit Go.Lib Go.Sort
def Tryz.cmp64(x y:Int)(W:World):Calls Tryz.prog 145 #[.int .i64 x,.int .i64 y] W λe w'=>e= .returned (.int .i64 (Lib.compareInt x y))/\w'=W:=
 AnyG.cmp_Compare_int Tryz.cmpI64 x y W
def Tryz.orTwo(b:Nat)(x y:Int)(W:World)(h0:W.cell? ⟨b,0,none⟩=some (.int .i64 x))(z:W.cell? ⟨b,1,none⟩=some (.int .i64 y)):
 Calls Tryz.prog 144 #[.slice (some ⟨b,0,none⟩) 2 2] W λe w'=>e= .returned (.int .i64 (if x=0 then y else x))/\w'=W:=by
 go_enter Tryz.func144,Tryz.ntmps144
 go_wp2
 refine wp_loop_rounds 3 ?_;rw[rounds_succ]
 go_wp2
 all_goals (try rw[rounds_succ])
 all_goals (try go_wp2)
 all_goals (try rw[rounds_succ])
 all_goals (try go_wp2)
 all_goals (go_ret;refine⟨?_,rfl⟩;simp_all)
def PM(W:World)(a b a' b':Value)(T:TypeId):
 let z:=((W.alloc (Obj.cells #[a,b] T)).alloc (Obj.cells #[a',b'] T)).drew
 z.cell? ⟨W.heap.size,0,none⟩=some a/\z.cell? ⟨W.heap.size,1,none⟩=some b/\z.cell? ⟨W.heap.size+1,0,none⟩=some a'/\z.cell? ⟨W.heap.size+1,1,none⟩=some b'/\
  ∃O,z=grow (W.drewN 1) O:=by
 have e:((W.alloc (Obj.cells #[a,b] T)).alloc (Obj.cells #[a',b'] T)).drew=grow (W.drewN 1) #[Obj.cells #[a,b] T,Obj.cells #[a',b'] T]:=by
  rw[alloc_eq_grow,alloc_eq_grow,grow_grow];rfl
 have h0:(W.heap++ #[Obj.cells #[a,b] T,Obj.cells #[a',b'] T])[W.heap.size]? =some (Obj.cells #[a,b] T):=by
  rw[Zep (AL _),Gh];rfl
 have Q:(W.heap++ #[Obj.cells #[a,b] T,Obj.cells #[a',b'] T])[W.heap.size+1]? =some (Obj.cells #[a',b'] T):=by
  rw[Zep (Nat.le_succ _),show W.heap.size.succ - W.heap.size=1 by omega];rfl
 simp only[e];refine⟨?_,?_,?_,?_,_,rfl⟩<;>unfold World.cell? <;>simp only[grow,World.drewN,h0,Q]<;>rfl
def Qvb(w:World)(a b:Value)(T:TypeId):(w.alloc (Obj.cells #[a,b] T)).cell? ⟨w.heap.size,0,none⟩=some a/\(w.alloc (Obj.cells #[a,b] T)).cell? ⟨w.heap.size,1,none⟩=some b:=by
 have h0:(w.heap.push (Obj.cells #[a,b] T))[w.heap.size]? =some (Obj.cells #[a,b] T):=by simp
 constructor<;>unfold World.cell? <;>simp only[World.alloc,h0]<;>rfl
def IC(p q:Int×Int):Int:=if Lib.compareInt p.2 q.2=0 then Lib.compareInt p.1 q.1 else Lib.compareInt p.2 q.2
def Tryz.cmpPoints(x y x' y':Int)(W:World):Calls Tryz.prog 106 #[.agg #[.int .i64 x,.int .i64 y],.agg #[.int .i64 x',.int .i64 y']] W λe w'=>
 e= .returned (.int .i64 (IC (x,y) (x',y')))/\ ∃q Z,w'=grow (W.drewN q) Z:=by
 have z:=λW'=>Tryz.cmp64 y y' W'
 have O:=λW'=>Tryz.cmp64 x x' W'
 unfold IC;simp only;generalize Lib.compareInt y y'=r1 at z⊢;generalize Lib.compareInt x x'=r2 at O⊢;have Q:=λ(b:Nat) W'=>Tryz.orTwo b r1 r2 W'
 generalize (if r1=0 then r2 else r1)=r at Q⊢
 go_enter Tryz.func106,Tryz.ntmps106
 go_wp2
 refine wp_region_still_tail 10 (by kernel_rfl) (by kernel_rfl) ?_;simp only[Qp,Xo,Lu,F8];obtain⟨d1,d2,d3,d4,hg⟩:=PM W (.int .i64 x) (.int .i64 y) (.int .i64 x') (.int .i64 y') 56;change wpStill _ _ ((W.alloc (Obj.cells #[Value.int IntKind.i64 x,Value.int IntKind.i64 y] 56)).alloc (Obj.cells #[Value.int IntKind.i64 x',Value.int IntKind.i64 y'] 56)).drew (λa'=>wpList _ _ _ _ a' ((W.alloc (Obj.cells #[Value.int IntKind.i64 x,Value.int IntKind.i64 y] 56)).alloc (Obj.cells #[Value.int IntKind.i64 x',Value.int IntKind.i64 y'] 56)).drew) _ _;generalize ((W.alloc (Obj.cells #[Value.int IntKind.i64 x,Value.int IntKind.i64 y] 56)).alloc (Obj.cells #[Value.int IntKind.i64 x',Value.int IntKind.i64 y'] 56)).drew=w3 at d1 d2 d3 d4 hg⊢
 still_step
 still_step
 still_step
 still_step
 still_call (z _)
 still_step
 still_step
 still_step
 still_step
 still_call (O _)
 refine wpStill_nil ?_
 go_wp2_with (go_at_call 144;refine (Q _ _ (Qvb _ _ _ _).1 (Qvb _ _ _ _).2).mono ?_;rintro e w' ⟨rfl,rfl⟩)
 go_ret
 obtain⟨aa,rfl⟩:=hg;exact⟨rfl,1,_,by rw[alloc_eq_grow,grow_grow]⟩
def Tryz.cmpPlaced90(x y t x' y' t':Int)(W:World):Calls Tryz.prog 105 #[.agg #[.int .i64 x,.int .i64 y,.int .i64 t],.agg #[.int .i64 x',.int .i64 y',.int .i64 t']] W λe w'=>
 e= .returned (.int .i64 (IC (x,y) (x',y')))/\ ∃q O,w'=grow (W.drewN q) O:=by
 have z:=λW'=>Tryz.cmpPoints x y x' y' W'
 generalize IC (x,y) (x',y')=r at z⊢
 go_enter Tryz.func105,Tryz.ntmps105
 go_wp2_with (go_at_call 106;refine (z _).mono ?_;rintro e w' ⟨rfl,q,O,rfl⟩)
 go_ret
 exact⟨rfl,q,_,by rw[alloc_eq_grow,alloc_eq_grow,grow_grow];show grow (grow (W.drewN q) _) O=_;rw[grow_grow]⟩
end Go.Proofs
namespace Go.Ae
open Go.Proofs Go.Sort Go.Shelf
instance:Inhabited Aj:=⟨⟨⟨0,0⟩,0⟩⟩
def BU(x:Aj):List Value:=[.int .i64 x.At.X,.int .i64 x.At.Y,.int .i64 x.Tile]
def cfP(x y:Aj):Int:=IC (x.At.X,x.At.Y) (y.At.X,y.At.Y)
def Qz0(x y:Aj):ltOf cfP x y=Bl x.At y.At:=by
 simp only[ltOf,cfP,IC,Lib.compareInt,Bl]
 grind
def swoP:SWO (ltOf cfP) where
 irrefl x:=by rw[Qz0];simp only[Bl];grind
 trans x y z h1 h2:=by rw[Qz0] at*;simp only[Bl] at*;grind
 ntrans x y z h1 h2:=by rw[Qz0] at*;simp only[Bl] at*;grind
def FZ(l:List Aj):List Aj:=l.foldr (λx r=>CH x.At x.Tile r) []
def uL(x:Aj): ∀(l:List Aj),(CH x.At x.Tile l).Perm (x::l)
 |[]=>gX _
 |y::r=>by
  simp only[CH];split
  .exact gX _
  .exact ((uL x r).cons y).trans (List.Perm.swap x y r)
def Z7: ∀(l:List Aj),(FZ l).Perm l
 |[]=>gX _
 |x::r=>(uL x (FZ r)).trans ((Z7 r).cons x)
def Quq{a b c:Ac}(z:Bl a b=true)(O:Bl c b=false):Bl c a=false:=by
 simp only[Bl] at*;grind
def Qx3(x:Aj): ∀(l:List Aj),l.Pairwise (λa b=>Bl b.At a.At=false)->(CH x.At x.Tile l).Pairwise (λa b=>Bl b.At a.At=false)
 |[],_=>by simp[CH]
 |y::r,h=>by
  rw[Qq] at h;simp only[CH];split
  .rename_i Q;rw[Qq,Qq];refine⟨λz O=> ?_,h⟩;have Z:Bl y.At x.At=false:=by simp only[Bl] at*;grind
   rcases Bh.1 O with rfl|O
   .exact Z
   .have:=h.1 z O
    exact Quq Q this
  .rename_i Q;rw[Qq];refine⟨λz O=> ?_,Qx3 x r h.2⟩;rcases (uG _ _ _ _).1 O with rfl|O
   .simpa using Q
   .exact h.1 z O
def uO: ∀(l:List Aj),(FZ l).Pairwise (λa b=>Bl b.At a.At=false)
 |[]=>List.Pairwise.nil
 |x::r=>Qx3 x _ (uO r)
def pT(l:List Aj):(FZ l).length=l.length:=(Z7 l).length_eq
def Rw{l:List Aj}(h:(l.map Aj.At).Nodup){x y:Aj}(hx:x∈l)(hy:y∈l)(Z:x.At=y.At):x=y:=by
 induction l with
 |nil=>cases hx
 |cons z r ih=>
  rw[Bf,Ly] at h;rcases Bh.1 hx with O|O<;>rcases Bh.1 hy with Q|Q
  .rw[O,Q]
  .exact absurd (show z.At∈r.map Aj.At by rw[<-O,Z];exact wV Q) h.1
  .exact absurd (show z.At∈r.map Aj.At by rw[<-Q,<-Z];exact wV O) h.1
  .exact ih h.2 O Q
def uK{l l':List Aj}(hd:(l.map Aj.At).Nodup)(hp:l'.Perm l)(hs:l'.Pairwise (λa b=>Bl b.At a.At=false)):l'=FZ l:=by
 refine ZeP (le:=λa b=>Bl b.At a.At=false) (λa b ha hb Q Z=> ?_) hs (uO l) (hp.trans (Z7 l).symm);refine Rw hd (hp.mem_iff.1 ha) ((Z7 l).mem_iff.1 hb) ?_;revert Q Z;obtain⟨⟨ax,ay⟩,z⟩:=a;obtain⟨⟨bx,O⟩,bt⟩:=b;simp only[Bl,Ac.mk.injEq]
 grind
def Dx(l:List Aj):List Value:=l.flatMap BU
def mH(l:List Aj):(Dx l).length=l.length*3:=by
 induction l with
 |nil=>rfl
 |cons x r ih=>simp only[Dx,F3,C9,Cv] at ih⊢;rw[ih];simp[BU];omega
def mF{ok:Nat->Prop}{hp:Nat->Option Obj}: ∀(l:List Aj) (L:List Value),rdr ok hp 3 (l.map Aj.c) L↔ ∃r,L=Dx l++r
 |[],L=>by simp[rdr,Dx]
 |x::r,L=>by
  simp only[Bf,rdr,mF r,Aj.c,rdp,rd,Dx,F3];constructor
  .rintro⟨_,⟨v,z,rfl,rfl,Z,O,rfl,rfl,v3,Q,rfl,rfl,_⟩,q,hq⟩;exact⟨q,by simp only[Lu,F8] at hq;rw[hq];rfl⟩
  .rintro⟨q,rfl⟩;exact⟨rfl,⟨_,_,rfl,rfl,_,_,rfl,rfl,_,_,rfl,rfl,trivial⟩,q,rfl⟩
def LM: ∀(l:List Aj) (t:Nat),t<l.length*3->(Dx l)[t]? =some ((BU (l[t/3]?.getD default))[t % 3]!)
 |[],t,h=>by simp at h
 |x::r,t,h=>by
  by_cases Q:t<3
  .have:t=0\/t=1\/t=2:=by omega
   rcases this with rfl|rfl|rfl<;>simp[Dx,BU]
  .obtain⟨u,rfl⟩: ∃u,t=u+3:=⟨t - 3,by omega⟩;have z:(u+3)/3=u/3+1:=by omega
   have O:(u+3) % 3=u % 3:=by omega
   have ih:=LM r u (by simp at h;omega);rw[z,O,Ir,<-ih];simp[Dx,BU]
def Qvu(l:List Aj):(flatK BU 3 l.toArray).toList=Dx l:=by
 apply Io;intro t;by_cases z:t<l.length*3
 .rw[LM l t z];have O:t<(flatK BU 3 l.toArray).size:=by simp only[size_flatK,Ky];exact z
  have Q:=get_flatK BU 3 l.toArray t (by simpa using z);rw[Gd,GY O,<-getElem!_pos (flatK BU 3 l.toArray) t O,Q];congr 3;simp[getElem!_def];cases l[t/3]? <;>rfl
 .have a1:(flatK BU 3 l.toArray).toList.length<=t:=by rw[Dg,size_flatK,Ky];omega
  have a2:(Dx l).length<=t:=by rw[mH];omega
  rw[E9 a1,E9 a2]
def srt.ca(_:List Aj):List AV:=[.own 0,.im (.fn 105 [] [])]
def srt.H0(a:List Aj):Ap:=[(0,(true,.arr 115 3 (a.map Aj.c)))]
def srt.H1(a:List Aj):Ap:=[(0,(true,.arr 115 3 ((FZ a).map Aj.c)))]
def srt.row:A7:=AB srt.ca srt.H0 1 (λa=>(a.map Aj.At).Nodup) (λ_=>true) (λ_=> .im (.tup [])) srt.H1 0
def srt.ok:AC 104 srt.row:=by
 rintro args h nx K ⟨a,τ,U,KL,a8,rfl,Q,hN,hK⟩;refine⟨Lp (by kernel_rfl),_,_,?_,hK⟩;intro C S vs R hW ba bc bd ab ax;have aq:BE τ 1 nx 0=τ 0:=Ai (by omega);simp only[srt.ca,AH,AV.ren,aq,AJ,Aa,rd,rdl] at ab;obtain⟨v0,r0,hv,⟨af,aj⟩,v1,r1,bj,⟨ac,cc,bm,ak,am⟩,bl⟩:=ab;have ak:ac= #[]:=by apply Ix;simpa using ak
 have am:cc= #[]:=by apply Ix;simpa using am
 subst ak am bl bj bm;have hvs:vs= #[v0,.func (VK 105) #[] #[]]:=by apply Ix;simpa using hv
 subst hvs;have hm:h (τ 0)=some (true,.arr 115 3 (a.map Aj.c)):=by
  have:=Q.1
  rwa [aq] at this
 have aw:Ak (srt.H0 a) 0=true:=rfl;have Z:S.h (τ 0)=some (true,.arr 115 3 (a.map Aj.c)):=by
  rw[ba (τ 0) (GZ _ (hN.u 0 aw)),hm]
 have ay: ∀n,n∈KL↔n=τ 0:=by
  intro n;constructor
  .intro hn;obtain⟨j,h1,_,h3⟩:=hN.k1 n hn
   have:j=0:=by
    simp only[Ak,srt.H0,hget] at h1;by_cases hj:j=0
    .exact hj
    .have:(0==j)=false:=by simpa using λh=>hj h.symm
     rw[this] at h1;cases h1
   rw[h3,this]
  .rintro rfl;exact hN.k2 0 aw rfl
 obtain⟨m,hmm⟩: ∃m,m=τ 0:=⟨_,rfl⟩;rw[<-hmm] at Z aj ay;have au:=pT a;have fin: ∀(w':World),Ij S m (.arr 115 3 ((FZ a).map Aj.c)) (S.ρ m) [m] w'->
  (Bv (λn=>S.h m≠none\/n≠m) S (S.one m (.arr 115 3 ((FZ a).map Aj.c)) (S.ρ m) [m] w')->An (S.one m (.arr 115 3 ((FZ a).map Aj.c)) (S.ρ m) [m] w') (S.ρ m) (.arr 115 3 ((FZ a).map Aj.c)))->R (.returned (.tuple #[])) w':=by
  intro w' af bi;have hp:=WC hW af;refine ax (.tuple #[]) _ (ZY hW af (bi hp)) ?_ ⟨hp.ok,λn _=>hp.nm n (.inl (by rw[Z];simp))⟩ ⟨#[],rfl,rfl⟩;funext n;simp only[Au.one,Bk.appf,srt.H1,AS,aq,hget,Ab.ren,<-hmm];by_cases hn:n=m
  .subst hn;simp
  .have h1:(m==n)=false:=by simpa using λh=>hn h.symm
   have h2:KL.contains n=false:=by
    rw[<-Gi,FO,ay];exact hn
   simp only[h1,Bm,h2,hn,Cr,Bz]
 have z:=aj _ Z;have aa:=hW.obj _ _ Z;have a0:=λO=>hW.loc m _ O Z
 cases hρ:S.ρ m with
 |none=>
  rw[hρ] at z aa;simp only[An] at aa;have ha:a=[]:=by simpa using aa.2
  subst ha;simp only at z;rw[z,WU (by decide)];refine (AnyF.slices_SortFunc_none Tryz.sortPl none 0 (.func (.func 105) #[] #[]) S.w).mono ?_;rintro e w' ⟨rfl,rfl⟩;refine fin S.w (cG Z (λl hl=>by rw[hρ] at hl;cases hl) rfl rfl) (λ_=> ?_);rw[hρ];exact⟨CC _,rfl⟩
 |some O=>
  rw[hρ] at z aa;simp only[An,Ab.len] at aa z;obtain⟨g1,g2,cv,g3,g4,g5⟩:=aa;obtain⟨ao,bo⟩:=a0 O hρ;rw[mF] at g5;obtain⟨bb,g5⟩:=g5;simp only[Fc] at g1 g2 z;have Q:S.w.heap[O.b]? =some (.cells cv 115 (0,0)):=g3;have bn:O.p+a.length*3<=cv.size:=by omega
  have hF:(flatK BU 3 a.toArray).size=a.length*3:=by simp
  have hget: ∀j,j<a.length*3->cv[O.p+j]? =some ((flatK BU 3 a.toArray)[j]!):=by
   intro j hj;have h1:(cv.toList.drop O.p)[j]? =(Dx a++bb)[j]? :=by rw[g5]
   rw[EQ,Gd,Dj (by rw[mH];exact hj),<-Qvu,Gd] at h1;rw[h1,GY (by rw[hF];exact hj),getElem!_pos _ _ (by rw[hF];exact hj)]
  have hH:HoldsK BU 3 S.w O.b O.p a.toArray:=by
   intro j hj;rw[hF] at hj;refine⟨?_,?_⟩
   .simp only[World.cell?,Q,Rk,CE,Cr,id];exact hget j hj
   .simp only[World.frozen?,Q];simp
  have hc:=AnyQ.slices_SortFunc Tryz.sortPl 3 Tryz.isAgg115 Tryz.sizeOf115 BU (λ_=>rfl) (λx v hv=>by simp[BU] at hv;rcases hv with rfl|rfl|rfl<;>rfl) cfP swoP 105 #[] O.b O.p O.cap a.toArray S.w
   (Qhx (Lp (by kernel_rfl))) (λm os dk hs x y=>Tryz.cmpPlaced90 _ _ _ _ _ _ _) hH ao (by simp only[Ky,Hy] at g1⊢;omega)
  rw[z,WU (by decide)];refine hc.mono ?_;rintro e w' ⟨rfl,d',n,os,ag,av,rfl⟩;have a9:d'.size=a.length:=ag.1;have bg:d'.toList=FZ a:=by
   refine uK a8 ?_ ?_
   .have:=ag.2.2
    rwa [show d'.extract 0 a.toArray.size=d' by rw[Ky,<-a9];exact ZdU,show a.toArray.extract 0 a.toArray.size=a.toArray from ZdU] at this
   .rw[Zdm];intro i j hi hj bh
    have:=av i j (CC _) bh (by rw[Ky,<-a9];simpa using hj)
    rw[Qz0,getElem!_pos d' i (by simpa using hi),getElem!_pos d' j (by simpa using hj)] at this;simpa using this
  obtain rfl:d'=(FZ a).toArray:=by apply Ix;rw[bg]
  have ai:(flatK BU 3 (FZ a).toArray).size=a.length*3:=by simp[au]
  have an:(flatK BU 3 (FZ a).toArray).toList.length=a.length*3:=by rw[Dg,ai]
  have ah:S.w.heap.size<=(sortWorldK BU 3 S.w O.b O.p n (FZ a).toArray os).heap.size:=by
   simp[sortWorldK,grow,putRowK,Sort.ahead]
  have hb: ∀b,b<S.w.heap.size->(sortWorldK BU 3 S.w O.b O.p n (FZ a).toArray os).heap[b]? =if O.b=b then S.w.heap[b]?.map (onCells (putCells id O.p (flatK BU 3 (FZ a).toArray))) else S.w.heap[b]? :=by
   intro b hb;have e0:b<(putRowK BU 3 (Sort.ahead S.w n) O.b O.p (FZ a).toArray).heap.size:=by simpa[putRowK,Sort.ahead] using hb
   simp only[sortWorldK,grow];rw[ZdI e0];simp only[putRowK,putRow,mapBlock,Sort.ahead,gN]
  refine fin _ ⟨rfl,rfl,rfl,ah,?_,.inl (by simp),?_,?_,?_⟩ ?_
  .intro b be bf;rw[hb b be,Af (bf m _ O (by simp) Z hρ)]
  .intro lo az;rw[hρ] at az;obtain rfl:=Ay az;exact⟨EJ ao ah,.inr ⟨m,_,O,by simp,Z,hρ,rfl⟩⟩
  .intro f hf;rw[Z] at hf;obtain rfl:=Ay hf;exact⟨rfl,rfl,by simp[Ab.len,au]⟩
  .intro n' f _ ad;rw[Z] at ad;cases ad
  .intro _;rw[hρ];simp only[An,Fc,au];refine⟨g1,g2,putCells id O.p (flatK BU 3 (FZ a).toArray) cv,?_,by simpa[putCells] using g4,?_⟩
   .simp only[Au.one,Au.hp];rw[hb O.b ao,Ai rfl,Q];rfl
   .rw[mF];refine⟨(cv.toList.drop (O.p+a.length*3)),?_⟩;apply Io;intro t;rw[EQ,Gd,putCells,Zfa,ai,<-Qvu];by_cases ht:t<a.length*3
    .rw[Dj (by rw[an];exact ht),Gd,GY (show O.p+t<cv.size by omega),GY (by rw[ai];exact ht)];simp only[D3,id];rw[Ai ⟨by omega,by omega⟩,wN,getElem!_pos _ _ (by rw[ai];exact ht)]
    .rw[E3 (by rw[an];omega),an,EQ,Gd,show O.p+a.length*3+(t - a.length*3)=O.p+t by omega];cases cv[O.p+t]? with
     |none=>rfl
     |some x=>simp only[D3];rw[Af (by omega)]
end Go.Ae
namespace Go.Ae
open Go.Proofs
def asmOf.fv(a:(List Aj)):Ad:=(λl=>⟨FZ l⟩) a
def asmOf.row:A7:=vK (b1 (qS Aj.d_le Aj.c_n)) (rA Ad.d_le) (λa=>(a.map Aj.At).Nodup/\a.length<=1000000) asmOf.fv
def asmOf.q:=AY (R:=asmOf.row) rfl
def asmOf.ok:AC 61 asmOf.row:=by
 refine vw (tC clonC.ok (tC srt.ok tN)) Tryz.func61 ?_;intro a z;simp only[Tryz.f61];simp only[ZA,simprocAttr,asmOf.fv];refine AB.os a [] z.2 (λj=>by simp[Ak,hget]) rfl rfl ?_ ?_
 .simp only[ZA,simprocAttr,clonC.ca,CL]
 simp only[ZA,simprocAttr,clonC.H1];refine AB.os a [1] z.1 (λj=> ?_) rfl rfl ?_ ?_
 .simp only[Ak,srt.H0,hget];by_cases O:j=0
  .subst O;simp
  .have:(0==j)=false:=by simpa using λh=>O h.symm
   rw[this];simp;omega
 .simp only[ZA,simprocAttr,srt.ca,srt.H0,CL];exact⟨rfl,rfl⟩
 simp only[ZA,simprocAttr,Ad.d,srt.H1,Ef]
def Ei(q:Ac×Int):Aj:=⟨q.1,q.2⟩
def ND(m:AE)(t:List (Ac×Int))(x:Aj):Option (List (Ac×Int)):=
 if (m.Labels[x.Tile.toNat]?.getD 0)<0 then some t
 else if (Bx t (NU x.At m.Scale).1).getD (m.Labels[x.Tile.toNat]?.getD 0)≠(m.Labels[x.Tile.toNat]?.getD 0) then none
 else some (B6 t (NU x.At m.Scale).1 (m.Labels[x.Tile.toNat]?.getD 0))
def EF(m:AE)(a:Ad):Nat->Option (List (Ac×Int))
 |0=>some []
 |k+1=>match a.Tiles[k]?,EF m a k with
  |some x,some t=>ND m t x
  |_,r=>r
def Qwg(m:AE)(a:Ad)(k:Nat)(h:EF m a k=none): ∀j,EF m a (k+j)=none
 |0=>h
 |j+1=>by
  have ih:=Qwg m a k h j;rw[show k+(j+1)=k+j+1 by omega,EF,ih];split
  .rename_i z;cases z
  .rfl
def O5{l l':List Aj}(hp:l.Perm l')(hd:(l'.map Aj.At).Nodup)(p:Ac):l.find? (λx=>decide (x.At=p))=l'.find? (λx=>decide (x.At=p)):=by
 cases h1:l.find? (λx=>decide (x.At=p)) with
 |none=>
  symm;rw[aL] at h1⊢;exact λx Q=>h1 x (hp.mem_iff.2 Q)
 |some x=>
  have Q:=hp.mem_iff.1 (nI h1);have z:=gV h1;cases h2:l'.find? (λx=>decide (x.At=p)) with
  |none=>
   rw[aL] at h2;exact absurd z (h2 x Q)
  |some y=>
   have Z:=nI h2;have O:=gV h2;rw[Rw hd Q Z];rw[Bq] at z O;rw[z,O]
def Mk(p:Ac): ∀(t:List (Ac×Int)),(((t.map Ei).find? (λx=>decide (x.At=p))).map Aj.Tile)=Bx t p
 |[]=>rfl
 |(k,w)::r=>by
  simp only[Bf,Zer,Ei,Bx];by_cases h:k=p
  .subst h;simp
  .have z:decide (k=p)=false:=by simpa using h
   have O: ¬p=k:=λQ=>h Q.symm
   rw[z,Af O];exact Mk p r
def VY(t:List (Ac×Int)):(t.map Ei).map Aj.At=t.map Prod.fst:=by simp[Ei]
def bE{t:List (Ac×Int)}(hd:(t.map Prod.fst).Nodup)(p:Ac):BG ⟨FZ (t.map Ei)⟩ p=(Bx t p).getD (-1):=by
 have z:((t.map Ei).map Aj.At).Nodup:=by rw[VY];exact hd
 simp only[BG];rw[O5 (Z7 _) z,Mk]
def mK{t:List (Ac×Int)}{p:Ac}(v:Int)(h:Bx t p=none):B6 t p v=t++[(p,v)]:=by
 induction t with
 |nil=>rfl
 |cons q r ih=>
  obtain⟨k,w⟩:=q;simp only[Bx] at h;split at h
  .cases h
  .rename_i hn;simp only[B6,Af hn,CO];rw[ih h]
def PN{t:List (Ac×Int)}{p:Ac}{v:Int}(h:Bx t p=some v):B6 t p v=t:=by
 induction t with
 |nil=>cases h
 |cons q r ih=>
  obtain⟨k,w⟩:=q;simp only[Bx] at h;simp only[B6];split at h
  .rename_i z;obtain rfl:=Ay h;rw[Ai z,z]
  .rename_i hn;rw[Af hn,ih h]
def Qyz{t:List (Ac×Int)}{p:Ac}(h:Bx t p=none):p∉t.map Prod.fst:=by
 induction t with
 |nil=>simp
 |cons q r ih=>
  obtain⟨k,w⟩:=q;simp only[Bx] at h;split at h
  .cases h
  .rename_i hn;simp only[Bf,Bh,aS];exact⟨hn,ih h⟩
def cE{t:List (Ac×Int)}{p:Ac}{v:Int}(h:Bx t p=some v):(p,v)∈t:=by
 induction t with
 |nil=>cases h
 |cons q r ih=>
  obtain⟨k,w⟩:=q;simp only[Bx] at h;split at h
  .rename_i z;obtain rfl:=Ay h;rw[z];exact BM ..
  .exact BP _ (ih h)
structure RM(t:List (Ac×Int))(o:Ad)(k:Nat):Prop where
 nd:(t.map Prod.fst).Nodup
 pos: ∀q∈t,0<=q.2
 eq:o=⟨FZ (t.map Ei)⟩
 len:t.length<=k
def RM.step{m:AE}{t:List (Ac×Int)}{o:Ad}{k:Nat}(h:RM t o k)(x:Aj):(∃t' o',ND m t x=some t'/\aE m o x=some o'/\RM t' o' (k+1))\/(ND m t x=none/\aE m o x=none):=by
 obtain⟨nd,pos,rfl,len⟩:=h;simp only[ND,aE];generalize m.Labels[x.Tile.toNat]?.getD 0=n;generalize (NU x.At m.Scale).1=p;by_cases c1:n<0
 .rw[Ai c1,Ai c1];exact .inl ⟨_,_,rfl,rfl,nd,pos,rfl,by omega⟩
 rw[Af c1,Af c1,bE nd];cases hq:Bx t p with
 |none=>
  simp only[wH];rw[Af (by simp),Af (by omega),Ai (by omega)];refine .inl ⟨_,_,rfl,rfl,?_,?_,?_,?_⟩
  .rw[mK n hq,ES,Xg];refine⟨nd,by simp,?_⟩;intro a ha b Q z;simp only[Bf,F9,Bz] at Q;exact Qyz hq (by rw[<-Q,<-z];exact ha)
  .intro q O;rw[mK n hq] at O;rcases Bn.1 O with O|O
   .exact pos q O
   .simp only[Bz] at O;subst O;simp only;omega
  .rw[Ra,mK n hq];congr 1;have aa:(((t++[(p,n)]).map Ei).map Aj.At).Nodup:=by
    rw[VY,ES,Xg];refine⟨nd,by simp,?_⟩;intro a ha b Q z;simp only[Bf,F9,Bz] at Q;exact Qyz hq (by rw[<-Q,<-z];exact ha)
   refine uK aa ?_ (Qx3 ⟨p,n⟩ _ (uO _));refine (uL ⟨p,n⟩ _).trans ?_;rw[ES];refine ((Z7 _).cons _).trans ?_;exact (Zez _ _).symm
  .rw[mK n hq];simp;omega
 |some v=>
  simp only[AP];have hv:=pos _ (cE hq);simp only at hv;by_cases Z:v=n
  .subst Z;rw[Af (by simp),Af (by simp),Af (by omega),PN hq];exact .inl ⟨_,_,rfl,rfl,nd,pos,rfl,by omega⟩
  .rw[Ai Z,Ai ⟨hv,Z⟩];exact .inr ⟨rfl,rfl⟩
def Qys(m:AE)(a:Ad): ∀k,(∃t o,EF m a k=some t/\G4 m a k=some o/\RM t o k)\/(EF m a k=none/\G4 m a k=none)
 |0=> .inl ⟨_,_,rfl,rfl,by simp,by simp,rfl,AL _⟩
 |k+1=>by
  simp only[EF,G4];rcases Qys m a k with ⟨t,o,O,Q,z⟩|⟨O,Q⟩
  .rw[O,Q];cases a.Tiles[k]? with
   |none=>exact .inl ⟨_,_,rfl,rfl,z.nd,z.pos,z.eq,by have:=z.len;omega⟩
   |some x=>exact z.step x
  .rw[O,Q];cases a.Tiles[k]? <;>exact .inr ⟨rfl,rfl⟩
def MH{m:AE}{a:Ad}{t:List (Ac×Int)}(h:EF m a a.Tiles.length=some t){l:List Aj}(Z:l.Perm (t.map Ei)):BD m a=(⟨FZ l⟩,true)/\(l.map Aj.At).Nodup/\l.length<=a.Tiles.length:=by
 rcases Qys m a a.Tiles.length with ⟨t',o,z,h2,Q⟩|⟨z,h2⟩
 .rw[h] at z;obtain rfl:=Ay z;have O:((t.map Ei).map Aj.At).Nodup:=by rw[VY];exact Q.nd
  refine⟨?_,?_,?_⟩
  .simp only[BD,h2,Q.eq];congr 2;exact (uK O ((Z7 _).trans Z) (uO _)).symm
  .exact (Z.map Aj.At).nodup_iff.2 O
  .rw[Z.length_eq,Fc];exact Q.len
 .rw[h] at z;cases z
def Qzg{m:AE}{a:Ad}{k:Nat}(Z:k<=a.Tiles.length)(h:EF m a k=none):BD m a=(⟨[]⟩,false):=by
 have hn:=Qwg m a k h (a.Tiles.length - k);rw[show k+(a.Tiles.length - k)=a.Tiles.length by omega] at hn;rcases Qys m a a.Tiles.length with ⟨t',o,z,O,Q⟩|⟨z,O⟩
 .rw[hn] at z;cases z
 .simp only[BD,O]
def Tu{l:List Aj}(h:(l.map Aj.At).Nodup): ∀x∈l,∀y∈l,x.At=y.At->x=y:=by
 induction l with
 |nil=>intro x Z;cases Z
 |cons z r ih=>
  simp only[Bf,Ly] at h;intro x Z y hy e;rcases Bh.1 Z with ex|O<;>rcases Bh.1 hy with ey|Q
  .rw[ex,ey]
  .exact absurd (Bo.2 ⟨y,Q,by rw[<-e,ex]⟩) h.1
  .exact absurd (Bo.2 ⟨x,O,by rw[e,ey]⟩) h.1
  .exact ih h.2 x O y Q e
def QH{s:Az}{a:Ad}(h: ∀x∈a.Tiles,FX s x.Tile)(p:Ac):BO (λx=>decide (x.At=p)) 0 a.Tiles<0↔BG a p<0:=by
 simp only[BG];rcases ZE (λx=>decide (x.At=p)) a.Tiles 0 with ⟨z,O⟩|⟨i,x,z,O,Q⟩
 .rw[z,O];simp
 .rw[z,O]
  have:=(h x (AZ Q)).1
  simp only[D3,AP];omega
def RM.put{t:List (Ac×Int)}{o:Ad}{k:Nat}(h:RM t o k){p:Ac}{v:Int}(hv:0<=v)(hn:Bx t p=none):RM (B6 t p v) (Cg o p v) (k+1):=by
 obtain⟨nd,pos,rfl,len⟩:=h;have O:((t++[(p,v)]).map Prod.fst).Nodup:=by
  rw[ES,Xg];refine⟨nd,by simp,?_⟩;intro a ha b hb Q;simp only[Bf,F9,Bz] at hb;exact Qyz hn (by rw[<-hb,<-Q];exact ha)
 rw[mK v hn];refine⟨O,?_,?_,by simp;omega⟩
 .intro q z;rcases Bn.1 z with z|z
  .exact pos q z
  .simp only[Bz] at z;subst z;exact hv
 .rw[Ra];congr 1;have Z:(((t++[(p,v)]).map Ei).map Aj.At).Nodup:=by rw[VY];exact O
  refine uK Z ?_ (Qx3 ⟨p,v⟩ _ (uO _));refine (uL ⟨p,v⟩ _).trans ?_;rw[ES];refine ((Z7 _).cons _).trans ?_;exact (Zez _ _).symm
def RM.at{t:List (Ac×Int)}{o:Ad}{k:Nat}(h:RM t o k):CK t=BG o:=by
 funext p;rw[h.eq,bE h.nd];rfl
def RM.size{t:List (Ac×Int)}{o:Ad}{k:Nat}(h:RM t o k):o.Tiles.length=t.length:=by
 rw[h.eq];simp only[pT,Fc]
def pR: ∀(l t:List Aj),((t++l).map Aj.At).Nodup->l.foldl (λu x=>B6 u x.At x.Tile) (t.map λx=>(x.At,x.Tile))=(t++l).map λx=>(x.At,x.Tile)
 |[],t,_=>by simp
 |x::r,t,h=>by
  have Q:Bx (t.map λx=>(x.At,x.Tile)) x.At=none:=by
   cases hq:Bx (t.map λx=>(x.At,x.Tile)) x.At with
   |none=>rfl
   |some v=>
    exfalso;obtain⟨y,Z,O⟩:=Bo.1 (cE hq);have z:y.At=x.At:=BV Prod.fst O;rw[ES,Xg] at h;exact h.2.2 _ (wV Z) _ (wV (BM ..)) z
  rw[Xj,mK _ Q]
  have:=pR r (t++[x]) (by simpa using h)
  simpa using this
def RM.of{a:Ad}(hf:De none a.Tiles=true)(hp: ∀x∈a.Tiles,0<=x.Tile):RM (CB a.Tiles) a a.Tiles.length:=by
 have hn:=Qix hf;have e:CB a.Tiles=a.Tiles.map λx=>(x.At,x.Tile):=by
  have:=pR a.Tiles [] (by simpa using hn)
  simpa[CB] using this
 have O:(a.Tiles.map λx=>(x.At,x.Tile)).map Ei=a.Tiles:=by
  rw[Lw];exact List.map_id' _
 rw[e];refine⟨by rw[Lw];exact hn,?_,?_,by simp⟩
 .intro q hq;obtain⟨x,hx,rfl⟩:=Bo.1 hq;exact hp x hx
 .rw[O];have hs:=(lJ _ _ hf).2;have hw:a.Tiles.Pairwise (λx y=>Bl y.At x.At=false):=by
   rw[Zdm];intro i j Q Z z
   have:=hs i j a.Tiles[i] a.Tiles[j] z (Bi Q) (Bi Z)
   simp only[Bl] at this⊢
   grind
  rw[<-uK hn (gX _) hw]
def eqOption.fv(a:A9×A9):Bool:=(λa b=>decide (a=b)) (a.1) (a.2)
def eqOption.row:A7:=vK (b2 (qR A9.d_le) (qR A9.d_le)) rB (λa=>True) eqOption.fv
def eqOption.q:=AY (R:=eqOption.row) rfl
def eqOption.ok:AC 36 eqOption.row:=by
 refine vw (tC eqPoint.ok tN) Tryz.func36 ?_;intro a O;simp only[Tryz.f36];simp only[ZA,simprocAttr,eqOption.fv,eqPoint.q,eqPoint.fv];obtain⟨⟨⟨x,y⟩,u⟩,⟨⟨z,w⟩,v⟩⟩:=a;simp only[A9.mk.injEq,Ac.mk.injEq]
 grind
def l03Own.fv(a:Ad):Ad:=(λa=>a) a
def l03Own.row:A7:=vK (b1 (qP 1 Ad.d_le)) (rA Ad.d_le) (λa=>a.Tiles.length<=1000000) l03Own.fv
def l03Own.q:=AY (R:=l03Own.row) rfl
def l03Own.ok:AC 49 l03Own.row:=by
 refine vw tN Tryz.func49 ?_;intro a z;simp only[Tryz.f49];simp only[ZA,simprocAttr,Ad.d,l03Own.fv];exact⟨by simp[Ck,BT,D.one,Aj.c],by omega⟩
def iG{s:AM}{b:Ad}(hs:s.Set.Tiles.length<=160)(Z:Il s.Set b){o:A9}(h:C6 s b o=true):Il s.Set (Cg b o.At o.Tile):=by
 simp only[C6,AN,Bq] at h;obtain⟨d1,Q,d3,_⟩:=h;have O:=Qma d3;have hw:AX o.Tile 0 159=true:=by
  simp only[AX,AN,Bq] at Q⊢;omega
 refine⟨?_,?_⟩
 .rw[Ra];exact Qki d1 hw _ none Z.1 (λq hq=>by cases hq) O
 .intro x z;rw[Ra] at z;rcases (uG _ _ _ _).1 z with rfl|z
  .simp only[AX,AN,Bq] at Q;exact⟨by simp only;omega,by simp only;omega⟩
  .exact Z.2 x z
def cF{s:AM}(h:GV s=true):(Ct s.Set/\Il s.Set s.Seed/\s.Set.Tiles.length<=160/\s.Seed.Tiles.length<=1000000)/\DT s.Set=true/\D1 s.Set s.Seed=true:=by
 simp only[GV,AN] at h;obtain⟨z,O,_⟩:=h;have Q:=Kj O;have Z:=sV z;have h5:=z;simp only[DT,AX,AN,Bq] at h5;exact⟨⟨Z,Q.1,by omega,by omega⟩,z,O⟩
def Qwf{A B:Type}(f:A->B): ∀(l:List A) (i:Nat),(l.map f).eraseIdx i=(l.eraseIdx i).map f
 |[],_=>rfl
 |_::_,0=>rfl
 |x::r,i+1=>by simp only[Bf,wL,Qwf f r i]
def Qqq{A:Type}: ∀(l:List A) (i:Nat) (x:A),l[i]? =some x->(x::l.eraseIdx i).Perm l
 |[],i,x,h=>by simp at h
 |y::r,0,x,h=>by
  simp only[G6,AI] at h;subst h;exact gX _
 |y::r,i+1,x,h=>by
  rw[Ir] at h;rw[wL];exact (List.Perm.swap y x _).trans ((Qqq r i x h).cons y)
def Qnc(m:AE):List AV:=[.im (.sl false 2 (m.Big.Set.Glues.map Am.c)),.im (.sl false 2 (m.Big.Set.Tiles.map Tile.c)),.im (.sl false 3 (m.Big.Seed.Tiles.map Aj.c)),.im (.int .i64 m.Big.Temperature),.im (.sl false 2 (m.Small.Set.Glues.map Am.c)),.im (.sl false 2 (m.Small.Set.Tiles.map Tile.c)),.im (.sl false 3 (m.Small.Seed.Tiles.map Aj.c)),.im (.int .i64 m.Small.Temperature),.im (.int .i64 m.Scale),.im (.sl false 1 (m.Labels.map Al))]
def rep_.fv(a:AE×Ad):Ad×Bool:=(BD) (a.1) (a.2)
def rep_.row:A7:=vK (b2 (qR AE.d_le) (qR Ad.d_le)) (r2 (rA Ad.d_le) rB) (λa=>Qt2 a.1 a.2) rep_.fv
def rep_.q:=AY (R:=rep_.row) rfl
def rep_.ok:AC 30 rep_.row:=by
 refine vw (tC blockOf.ok (tC asmOf.ok tN)) Tryz.func30 ?_;intro a Z;simp only[Tryz.f30];simp only[ZA,simprocAttr,rep_.fv];obtain⟨m,a⟩:=a;simp only at Z⊢;obtain⟨h1,h2,h3,h4,h5⟩:=Z;have ac:=Kj h4;have aa:=ac.1.1;intro an;refine AT.old ⟨{k:Nat×List (Ac×Int)//k.1<=a.Tiles.length/\EF m a k.1=some k.2},λk=>⟨[(21,.im (.int .i64 k.1.1)),(20,.im (.int .i64 a.Tiles.length)),(19,.im (.sl false 3 (a.Tiles.map Aj.c))),(6,.mp 3),(4,.ptr 2 0),(2,.ptr 0 0)],[(3,(true,.map ⟨true,[.int .i64,.int .i64]⟩ (k.1.2.map GK))),(2,(true,.cells 49 [.im (.sl true 0 [])])),(0,(true,.cells 53 (Qnc m)))],4⟩,λk=>a.Tiles.length - k.1.1,λk=>⟨by simp[ZG,Qnc],by simp⟩,⟨⟨(0,[]),by simp[EF]⟩,by simp only[ZA,simprocAttr,sub,Qnc]⟩,λk=> ?_⟩;obtain⟨⟨k,t⟩,ah,Q⟩:=k;simp only at ah Q;simp only[ZA,simprocAttr,blockOf.q,blockOf.fv,sub,AO,Qnc];refine⟨λhk=>⟨hk,λx hx=> ?_⟩,λhk=> ?_⟩
 .have ag:=AZ hx;have af:=ac.1.2 x ag;have ad:=h2;simp only[AX,AN,Bq] at ad;refine⟨af.1,by rw[h5];exact af.2,λlb ak=>⟨⟨Qi (V5 _ _ aa x ag).1,ad.1,by omega⟩,?_⟩⟩;have z:EF m a (k+1)=ND m t x:=by simp only[EF,hx,Q]
  simp only[ND,ak,AP] at z;have aq: ∀t',EF m a (k+1)=some t'-> ∃k':{k:Nat×List (Ac×Int)//k.1<=a.Tiles.length/\EF m a k.1=some k.2},k'.1=(k+1,t'):=λt' h=>⟨⟨(k+1,t'),by simp only;omega,h⟩,rfl⟩
  rw[Mh];obtain⟨bp,hbp⟩: ∃bp,bp=NU x.At m.Scale:=⟨_,rfl⟩;simp only[<-hbp] at z⊢;refine⟨λv hv=> ?_,λhv=> ?_⟩
  .simp only[ZA,simprocAttr,Ad.d,sub,AO,La];have ab:Bx t bp.1=some v:=hv;rw[ab,AP] at z;refine⟨λc1=> ?_,λc1=>⟨λc2=> ?_,λc2=> ?_⟩⟩
   .rw[Ai c1] at z;exact⟨⟨(k+1,t),by simp only;omega,z⟩,by simp only;omega,by rw[AD (by omega) (by omega)];simp only;omega,rfl⟩
   .first
     |(rw[Af c1,Ai c2] at z
       exact (Qzg (by omega) z).symm)
     |(rw[Af c1,Af (λh=>h c2)] at z
       exact⟨⟨(k+1,_),by simp only;omega,z⟩,by simp only;omega,by rw[AD (by omega) (by omega)];simp only;omega,rfl⟩)
   .first
     |(rw[Af c1,Ai c2] at z
       exact (Qzg (by omega) z).symm)
     |(rw[Af c1,Af c2] at z
       exact⟨⟨(k+1,_),by simp only;omega,z⟩,by simp only;omega,by rw[AD (by omega) (by omega)];simp only;omega,rfl⟩)
  .simp only[ZA,simprocAttr,La];have ab:Bx t bp.1=none:=hv;rw[ab,wH] at z;refine⟨λc1=> ?_,λc1=> ?_⟩
   .rw[Ai c1] at z;exact⟨⟨(k+1,t),by simp only;omega,z⟩,by simp only;omega,by rw[AD (by omega) (by omega)];simp only;omega,rfl⟩
   .rw[Af c1,Af (by simp)] at z;exact⟨⟨(k+1,_),by simp only;omega,z⟩,by simp only;omega,by rw[AD (by omega) (by omega)];simp only;omega,rfl⟩
 .have ai:k=a.Tiles.length:=by omega
  subst ai;refine AT.ren ⟨{s:Option (D×D)×List (Ac×Int)×List Aj//(s.2.2++s.2.1.map Ei).Perm (t.map Ei)},λs=>⟨[(61,.it 5),(14,.own 6),(4,.ptr 2 0)],[(6,(true,.arr 115 3 (s.1.2.2.map Aj.c))),(5,(true,.iter s.1.1 (s.1.2.1.map GK))),(2,(true,.cells 49 [.im (.sl true 0 [])]))],7⟩,λs=>s.1.2.1.length,λs=>⟨by simp[ZG],by simp⟩,⟨⟨(none,t,[]),by simp⟩,[(6,some 4)],?_⟩,λs=> ?_⟩
  .simp only[Aq];simp only[ZA,simprocAttr]
   try simp
  obtain⟨⟨ao,left,O⟩,hs⟩:=s;simp only at hs;simp only[ZA,simprocAttr,Ad.d,asmOf.q,asmOf.fv];refine⟨λhl=> ?_,λi p hp=> ?_⟩
  .have aj:left=[]:=by simpa using hl
   subst aj;rw[F9,D2] at hs;obtain⟨r1,r2,r3⟩:=MH Q hs;exact⟨⟨r2,by omega⟩,r1.symm⟩
  .rw[CM] at hp;cases hq:left[i]? with
   |none=>rw[hq] at hp;cases hp
   |some q=>
    rw[hq] at hp;obtain rfl:=Ay hp;obtain⟨⟨qx,qy⟩,qn⟩:=q;simp only[GK,Ac.c];simp only[ZA,simprocAttr];have hi:i<left.length:=by
     rcases ER i left.length with h|h
     .exact h
     .rw[E9 h] at hq;cases hq
    have am:((⟨qx,qy⟩,qn)::left.eraseIdx i).Perm left:=Qqq _ _ _ hq;have hP:((O++[(⟨⟨qx,qy⟩,qn⟩:Aj)])++(left.eraseIdx i).map Ei).Perm (t.map Ei):=by
     rw[EK];refine (List.Perm.append_left O ?_).trans hs;exact am.map Ei
    have hcl:O.length<=a.Tiles.length:=by
     have r3:=(MH Q hs).2.2;simp at r3;omega
    refine⟨by simp[Ck,BT,D.one],by omega,⟨⟨(some (D.agg [.int .i64 qx,.int .i64 qy],D.int .i64 qn),left.eraseIdx i,O++[(⟨⟨qx,qy⟩,qn⟩:Aj)]),hP⟩,[(6,some 9)],?_,?_⟩⟩
    .simp only[Zfo];rw[Ai hi];omega
    .simp only[Aq];simp only[ZA,simprocAttr];simp[Aj.c,Qwf]
def putT(c:Dz)(p:Ac)(t:Int):Dz:=⟨c.Sys,B6 c.Tl p t,GX c.Sys (CK (B6 c.Tl p t)) (EB c.Op p) p 4⟩
def asmC.ca(_:Dz):List AV:=[.ptr 0 0]
def FE{A:Type}(l:List A):Option (List A):=if l=[] then none else some l
abbrev Eo(s:AM)(f:Ac->Int)(q:Ac):List Int:=Gc s f q s.Set.Tiles.length
def N4(s:AM)(f:Ac->Int)(op:List (Ac×List Int)):Prop:=(op.map Prod.fst).Nodup/\ ∀q,Bx op q=FE (Eo s f q)
def Wl{s:AM}{f:Ac->Int}{q:Ac}(h: ∀k:Int,JI s f q k=false): ∀n,Gc s f q n=[]
 |0=>rfl
 |n+1=>by simp only[Gc,Wl h n,h,Fq];rfl
def rO{s:AM}{f:Ac->Int}{q:Ac}(h:0<=f q)(n:Nat):Gc s f q n=[]:=
 Wl (λk=>by simp only[JI];rw[wK (show ¬f q<0 by omega)];simp) n
def qX{s:Az}{f:Ac->Int}{q:Ac}{t:Int}(h: ∀d:Nat,d<4->f (Cz q d)<0): ∀k,k<=4->Gb s f q t k=0
 |0,_=>rfl
 |k+1,z=>by
  have:=h k (by omega)
  simp only[Gb,qX h k (by omega),VD];rw[Af (by omega)];rfl
def qW{s:AM}{f:Ac->Int}{q:Ac}(z:1<=s.Temperature)(h: ∀d:Nat,d<4->f (Cz q d)<0)(n:Nat):Gc s f q n=[]:=
 Wl (λk=>by simp only[JI,qX h 4 (AL _)];rw[wK (show ¬s.Temperature<=0 by omega)];simp) n
def rL{s:Az}{f g:Ac->Int}{q:Ac}{t:Int}(h: ∀d:Nat,d<4->f (Cz q d)=g (Cz q d)): ∀k,k<=4->Gb s f q t k=Gb s g q t k
 |0,_=>rfl
 |k+1,z=>by simp only[Gb,rL h k (by omega),VD,h k (by omega)]
def rK{s:AM}{f g:Ac->Int}{q:Ac}(h0:f q=g q)(h: ∀d:Nat,d<4->f (Cz q d)=g (Cz q d)): ∀n,Gc s f q n=Gc s g q n
 |0=>rfl
 |n+1=>by
  have e:JI s f q n=JI s g q n:=by simp only[JI,h0,rL h 4 (AL _)]
  simp only[Gc,rK h0 h n,e]
def KD{β:Type}{p:Ac}: ∀{l:List (Ac×β)},p∉l.map Prod.fst->Bx l p=none
 |[],_=>rfl
 |(k,v)::r,h=>by
  simp only[Bf,Bh,aS] at h;simp only[Bx];rw[Af h.1,KD h.2]
def qQ{β:Type}{p:Ac}: ∀{l:List (Ac×β)},p∈l.map Prod.fst-> ∃v,Bx l p=some v/\(p,v)∈l
 |[],h=>by simp at h
 |(k,v)::r,h=>by
  simp only[Bx];by_cases c:p=k
  .rw[Ai c,c];exact⟨v,rfl,BM ..⟩
  .rw[Af c];obtain⟨w,z,O⟩:=qQ (l:=r) (by simpa[c] using h);exact⟨w,z,BP _ O⟩
def iX{β:Type}{p:Ac}{l:List (Ac×β)}:p∈l.map Prod.fst↔Bx l p≠none:=by
 constructor
 .intro h;obtain⟨v,z,_⟩:=qQ h;rw[z];simp
 .intro h;apply gK;intro O;exact h (KD O)
def qN{β:Type}{p q:Ac}: ∀{l:List (Ac×β)},q∈(EB l p).map Prod.fst->q∈l.map Prod.fst
 |[],h=>by simp[EB] at h
 |(k,v)::r,h=>by
  simp only[EB] at h;split at h
  .exact BP _ h
  .simp only[Bf,Bh] at h⊢;rcases h with h|h
   .exact .inl h
   .exact .inr (qN h)
def dS{β:Type}{p:Ac}: ∀{l:List (Ac×β)},(l.map Prod.fst).Nodup->((EB l p).map Prod.fst).Nodup
 |[],h=>h
 |(k,v)::r,h=>by
  simp only[Bf,Ly] at h;simp only[EB];split
  .exact h.2
  .simp only[Bf,Ly];exact⟨λz=>h.1 (qN z),dS h.2⟩
def dQ{β:Type}{p:Ac}(q:Ac): ∀{l:List (Ac×β)},(l.map Prod.fst).Nodup->Bx (EB l p) q=if q=p then none else Bx l q
 |[],_=>by simp[EB,Bx]
 |(k,v)::r,h=>by
  simp only[Bf,Ly] at h;simp only[EB];by_cases c:p=k
  .rw[Ai c];by_cases e:q=p
   .rw[Ai e,e,c];exact KD h.1
   .rw[Af e];simp only[Bx];rw[Af (λz=>e (z.trans c.symm))]
  .rw[Af c];simp only[Bx];by_cases e:q=k
   .rw[Ai e,Ai e,Af (λz=>c (z.symm.trans e))]
   .rw[Af e,Af e,dQ q h.2]
def Nt{β:Type}{p q:Ac}{v:β}: ∀{l:List (Ac×β)},q∈(B6 l p v).map Prod.fst↔q=p\/q∈l.map Prod.fst
 |[]=>by simp[B6]
 |(k,w)::r=>by
  simp only[B6];split
  .rename_i c;subst c;simp
  .simp only[Bf,Bh,Nt (l:=r)];constructor
   .rintro (h|h|h)
    .exact .inr (.inl h)
    .exact .inl h
    .exact .inr (.inr h)
   .rintro (h|h|h)
    .exact .inr (.inl h)
    .exact .inl h
    .exact .inr (.inr h)
def qO{β:Type}{p:Ac}{v:β}: ∀{l:List (Ac×β)},(l.map Prod.fst).Nodup->((B6 l p v).map Prod.fst).Nodup
 |[],_=>by simp[B6]
 |(k,w)::r,h=>by
  simp only[Bf,Ly] at h;simp only[B6];split
  .rename_i c;subst c;simp only[Bf,Ly];exact h
  .rename_i c;simp only[Bf,Ly];refine⟨λz=> ?_,qO h.2⟩;rcases Nt.1 z with e|e
   .exact c e.symm
   .exact h.1 e
def SY{s:AM}{f:Ac->Int}{op:List (Ac×List Int)}{q:Ac}(h:(op.map Prod.fst).Nodup):((Kh s f op q).map Prod.fst).Nodup:=by
 simp only[Kh];split
 .exact dS h
 .exact qO h
def SX{s:AM}{f:Ac->Int}{op:List (Ac×List Int)}{p:Ac}(h:(op.map Prod.fst).Nodup)(q:Ac):Bx (Kh s f op p) q=if q=p then FE (Eo s f q) else Bx op q:=by
 simp only[Kh];by_cases c:Gc s f p s.Set.Tiles.length=[]
 .rw[Ai c,dQ q h];by_cases e:q=p
  .subst e;rw[Ai rfl,Ai rfl,FE,Ai c]
  .rw[Af e,Af e]
 .rw[Af c,mY];by_cases e:q=p
  .subst e;rw[Ai rfl,Ai rfl,FE,Af c]
  .rw[Af e,Af e]
def Wq{s:AM}{f:Ac->Int}{op:List (Ac×List Int)}{p:Ac}(h:(op.map Prod.fst).Nodup): ∀k,((GX s f op p k).map Prod.fst).Nodup
 |0=>h
 |k+1=>SY (Wq h k)
def Kf(p q:Ac):Prop:= ∃d:Nat,d<4/\Cz p d=q
def rE{s:AM}{f:Ac->Int}{op:List (Ac×List Int)}{p:Ac}(h:(op.map Prod.fst).Nodup)(q:Ac): ∀k,(∀d:Nat,d<k->Cz p d≠q)/\Bx (GX s f op p k) q=Bx op q\/(∃d:Nat,d<k/\Cz p d=q)/\Bx (GX s f op p k) q=FE (Eo s f q)
 |0=> .inl ⟨λd hd=>absurd hd (by omega),rfl⟩
 |k+1=>by
  have ih:=rE (s:=s) (f:=f) (p:=p) h q k;simp only[GX,SX (Wq h k)];by_cases c:q=Cz p k
  .rw[Ai c];exact .inr ⟨⟨k,by omega,c.symm⟩,rfl⟩
  .rw[Af c];rcases ih with ⟨O,z⟩|⟨⟨d,O,z⟩,Q⟩
   .refine .inl ⟨λd hd=> ?_,z⟩;by_cases e:d=k
    .subst e;exact λh=>c h.symm
    .exact O d (by omega)
   .exact .inr ⟨⟨d,by omega,z⟩,Q⟩
def bH{s:AM}{f:Ac->Int}{op:List (Ac×List Int)}{p:Ac}(h:(op.map Prod.fst).Nodup)(q:Ac):(¬Kf p q/\Bx (GX s f op p 4) q=Bx op q)\/(Kf p q/\Bx (GX s f op p 4) q=FE (Eo s f q)):=by
 rcases rE (s:=s) (f:=f) h q 4 with ⟨z,O⟩|h
 .exact .inl ⟨λ⟨d,hd,e⟩=>z d hd e,O⟩
 .exact .inr h
def PE(p:Ac){d:Nat}(h:d<4):Cz (Cz p d) ((d+2) % 4:Nat)=p:=by
 rcases (by omega:d=0\/d=1\/d=2\/d=3) with rfl|rfl|rfl|rfl<;>simp[Cz]<;>omega
def dH{p q:Ac}(h:Kf p q):Kf q p:=by
 obtain⟨d,hd,rfl⟩:=h;exact⟨(d+2) % 4,by omega,PE p hd⟩
def dB{s:AM}{f:Ac->Int}(q:Ac): ∀(l:List Aj) (op:List (Ac×List Int)),(op.map Prod.fst).Nodup->
 ((l.foldl (λo x=>GX s f o x.At 4) op).map Prod.fst).Nodup/\((∀x∈l,¬Kf x.At q)/\Bx (l.foldl (λo x=>GX s f o x.At 4) op) q=Bx op q\/(∃x∈l,Kf x.At q)/\Bx (l.foldl (λo x=>GX s f o x.At 4) op) q=FE (Eo s f q))
 |[],op,h=>⟨h,.inl ⟨by simp,rfl⟩⟩
 |x::r,op,h=>by
  simp only[Xj];obtain⟨O,Q⟩:=dB (s:=s) (f:=f) q r (GX s f op x.At 4) (Wq h 4);refine⟨O,?_⟩;rcases Q with ⟨a,b⟩|⟨⟨y,z,a⟩,b⟩
  .rcases bH (s:=s) (f:=f) (p:=x.At) h q with ⟨c,e⟩|⟨c,e⟩
   .refine .inl ⟨λy z=> ?_,b.trans e⟩;rcases Bh.1 z with rfl|z
    .exact c
    .exact a y z
   .exact .inr ⟨⟨x,BM ..,c⟩,b.trans e⟩
  .exact .inr ⟨⟨y,BP _ z,a⟩,b⟩
def Zn{l:List Aj}: ∀{q:Ac},0<=CK (CB l) q-> ∃x∈l,x.At=q:=by
 have O: ∀(l:List Aj) (t:List (Ac×Int)) (q:Ac),Bx (l.foldl (λt x=>B6 t x.At x.Tile) t) q≠none->(∃x∈l,x.At=q)\/Bx t q≠none:=by
  intro l;induction l with
  |nil=>intro t q h;exact .inr h
  |cons x r ih=>
   intro t q h;rcases ih _ q h with ⟨y,Q,e⟩|z
   .exact .inl ⟨y,BP _ Q,e⟩
   .rw[mY] at z;split at z
    .rename_i e;exact .inl ⟨x,BM ..,e.symm⟩
    .exact .inr z
 intro q h;rcases O l [] q (λe=>by
  simp only[CK,CB,e,wH] at h;omega) with z|z
 .exact z
 .simp[Bx] at z
def jP{s:AM}{l:List Aj}(Q:1<=s.Temperature):N4 s (CK (CB l)) (HR s (CK (CB l)) l):=by
 have hn:(([]:List (Ac×List Int)).map Prod.fst).Nodup:=by simp
 refine⟨(dB ⟨0,0⟩ l [] hn).1,λq=> ?_⟩;rcases (dB (s:=s) (f:=CK (CB l)) q l [] hn).2 with ⟨O,z⟩|⟨_,z⟩
 .rw[HR,z]
  have:Eo s (CK (CB l)) q=[]:=by
   refine qW Q (λd hd=> ?_) _;apply gK;intro h;obtain⟨x,Z,e⟩:=Zn (l:=l) (q:=Cz q d) (by omega);exact O x Z (dH (e▸⟨d,hd,rfl⟩))
  rw[FE,Ai this];rfl
 .exact z
def jQ{s:AM}{z:List (Ac×Int)}{op:List (Ac×List Int)}{p:Ac}{t:Int}(h:N4 s (CK z) op)(ht:0<=t):
 N4 s (CK (B6 z p t)) (GX s (CK (B6 z p t)) (EB op p) p 4):=by
 have hn:=dS (p:=p) h.1;have O: ∀q,CK (B6 z p t) q=if q=p then t else CK z q:=λq=>by
  simp only[CK,mY];split<;>rfl
 refine⟨Wq hn 4,λq=> ?_⟩;rcases bH (s:=s) (f:=CK (B6 z p t)) (p:=p) hn q with ⟨h1,Q⟩|⟨_,Q⟩
 .rw[Q,dQ q h.1];by_cases e:q=p
  .rw[Ai e,FE,Ai (rO (by rw[O,Ai e];exact ht) _)]
  .rw[Af e,h.2 q]
   have:Eo s (CK (B6 z p t)) q=Eo s (CK z) q:=by
    refine rK (by rw[O,Af e]) (λd hd=> ?_) _;rw[O,Af];intro Z;exact h1 (dH ⟨d,hd,Z⟩)
   rw[this]
 .exact Q
def DW(p:Ac):List Ac->List Ac
 |[]=>[p]
 |y::r=>if Bl y p=true then y::DW p r else if y=p then y::r else p::y::r
def Cd(l:List Ac):List Ac:=l.foldr DW []
abbrev JR(l:List Ac):Prop:=l.Pairwise λa b=>Bl a b=true
def cZ{a b c:Ac}(z:Bl a b=true)(O:Bl b c=true):Bl a c=true:=by simp only[Bl] at*;grind
def qL(a:Ac):Bl a a=false:=by simp[Bl]
def qV{a b:Ac}(h1:Bl a b=false)(h2:a≠b):Bl b a=true:=by
 obtain⟨O,Q⟩:=a;obtain⟨Z,z⟩:=b;simp only[Bl,ne_eq,Ac.mk.injEq] at*
 grind
def Wo{p q:Ac}: ∀{l:List Ac},q∈DW p l↔q=p\/q∈l
 |[]=>by simp[DW]
 |y::r=>by
  simp only[DW];split
  .simp only[Bh,Wo (l:=r)];constructor
   .rintro (h|h|h)
    .exact .inr (.inl h)
    .exact .inl h
    .exact .inr (.inr h)
   .rintro (h|h|h)
    .exact .inr (.inl h)
    .exact .inl h
    .exact .inr (.inr h)
  .split
   .rename_i c;subst c;simp
   .simp
def dD{p:Ac}: ∀{l:List Ac},JR l->JR (DW p l)
 |[],_=>by simp[DW]
 |y::r,h=>by
  rw[JR,Qq] at h;simp only[DW];split
  .rename_i c;rw[JR,Qq];refine⟨λz O=> ?_,dD h.2⟩;rcases Wo.1 O with rfl|O
   .exact c
   .exact h.1 z O
  .rename_i c;split
   .rw[JR,Qq];exact h
   .rename_i e;have Q:=qV (by simpa using c) e;rw[JR,Qq,Qq];refine⟨λz O=> ?_,h⟩;rcases Bh.1 O with rfl|O
    .exact Q
    .exact cZ Q (h.1 z O)
def NN: ∀(l:List Ac),JR (Cd l)
 |[]=>List.Pairwise.nil
 |_::r=>dD (NN r)
def Ki{q:Ac}: ∀{l:List Ac},q∈Cd l↔q∈l
 |[]=>by simp[Cd]
 |x::r=>by
  have:Cd (x::r)=DW x (Cd r):=rfl
  rw[this,Wo,Ki (l:=r),Bh]
def KF{l:List Ac}(h:JR l):l.Nodup:=by
 refine ZeO (λ{a b} z e=> ?_) h;rw[e,qL] at z;cases z
def dL{l m:List Ac}(z:JR l)(O:JR m)(h: ∀q,q∈l↔q∈m):l=m:=by
 have hp:l.Perm m:=(ZeA (KF z) (KF O)).2 h;refine ZeP (le:=λa b=>Bl a b=true) (λa b _ _ g1 g2=> ?_) z O hp
 have:=cZ g1 g2
 rw[qL] at this;cases this
def DR(a:Ad)(p:Ac)(l:List Ac):Nat->List Ac
 |0=>l
 |k+1=>if DA (Cz p k)=true/\BG a (Cz p k)<0 then DW (Cz p k) (DR a p l k) else DR a p l k
def C4(a:Ad):Nat->List Ac
 |0=>[]
 |i+1=>DR a ((a.Tiles[i]?.map Aj.At).getD ⟨0,0⟩) (C4 a i) 4
def Wn{a:Ad}{p:Ac}{l:List Ac}(h:JR l): ∀k,JR (DR a p l k)
 |0=>h
 |k+1=>by
  simp only[DR];split
  .exact dD (Wn h k)
  .exact Wn h k
def dJ(a:Ad): ∀i,JR (C4 a i)
 |0=>List.Pairwise.nil
 |i+1=>Wn (dJ a i) 4
def qZ{a:Ad}{p q:Ac}{l:List Ac}: ∀k,q∈DR a p l k↔q∈l\/(DA q=true/\BG a q<0)/\ ∃d:Nat,d<k/\Cz p d=q
 |0=>by simp[DR]
 |k+1=>by
  simp only[DR];have ih:=qZ (a:=a) (p:=p) (q:=q) (l:=l) k;split
  .rename_i c;rw[Wo,ih];constructor
   .rintro (rfl|h|⟨h,d,O,z⟩)
    .exact .inr ⟨c,k,by omega,rfl⟩
    .exact .inl h
    .exact .inr ⟨h,d,by omega,z⟩
   .rintro (h|⟨h,d,O,z⟩)
    .exact .inr (.inl h)
    .by_cases e:d=k
     .subst e;exact .inl z.symm
     .exact .inr (.inr ⟨h,d,by omega,z⟩)
  .rename_i c;rw[ih];constructor
   .rintro (h|⟨h,d,O,z⟩)
    .exact .inl h
    .exact .inr ⟨h,d,by omega,z⟩
   .rintro (h|⟨h,d,O,z⟩)
    .exact .inl h
    .by_cases e:d=k
     .subst e;subst z;exact absurd h c
     .exact .inr ⟨h,d,by omega,z⟩
def QG{a:Ad}{q:Ac}: ∀i,i<=a.Tiles.length->(q∈C4 a i↔(DA q=true/\BG a q<0)/\ ∃x∈a.Tiles.take i,Kf x.At q)
 |0,_=>by simp[C4]
 |i+1,Z=>by
  have Q:a.Tiles[i]? =some (a.Tiles[i]'(by omega)):=Bi (by omega);simp only[C4];rw[qZ,QG i (by omega),aI Q,Q,D3,AP];constructor
  .rintro (⟨h,x,z,O⟩|⟨h,O⟩)
   .exact⟨h,x,GZ _ z,O⟩
   .exact⟨h,_,Rj _ (BM ..),O⟩
  .rintro⟨h,x,z,O⟩;rcases Bn.1 z with z|z
   .exact .inl ⟨h,x,z,O⟩
   .rw[Bz] at z;subst z;exact .inr ⟨h,O⟩
def Gj(s:AM)(f:Ac->Int)(q:Ac):Nat->List Int
 |0=>[]
 |k+1=>Gj s f q k++(if s.Temperature<=Gb s.Set f q k 4 then [(k:Int)] else [])
def Wr(s:AM)(f:Ac->Int)(q:Ac): ∀k,(Gj s f q k).length<=k
 |0=>by simp[Gj]
 |k+1=>by
  have:=Wr s f q k
  simp only[Gj,C9]
  split<;>simp<;>omega
def rG{s:AM}{f:Ac->Int}{q:Ac}(z:DA q=true)(O:f q<0): ∀n,Gc s f q n=Gj s f q n
 |0=>rfl
 |n+1=>by
  simp only[Gc,Gj,rG z O n,JI,z,gO O,Eg,Bq]
def OL(p:Ac)(k:Int):A9:=⟨p,k⟩
def C5(g:Ac->List Int)(l:List Ac):List A9:=l.flatMap λp=>(g p).map (OL p)
def EM(s:AM)(a:Ad):List A9:=C5 (λp=>Gj s (BG a) p s.Set.Tiles.length) (C4 a a.Tiles.length)
def GG(op:List (Ac×List Int)):List A9:=C5 (λp=>(Bx op p).getD []) (Cd (op.map Prod.fst))
def qM{g:Ac->List Int}: ∀(l:List Ac),C5 g (l.filter λp=> !(g p).isEmpty)=C5 g l
 |[]=>rfl
 |p::r=>by
  have ih:=qM (g:=g) r;simp only[C5] at ih;simp only[C5,ZeX];split
  .simp only[F3,ih]
  .rename_i c
   have:g p=[]:=by simpa using c
   simp only[F3,ih,this,F9,Fq]
def dA{g h:Ac->List Int}: ∀(l:List Ac),(∀p∈l,g p=h p)->C5 g l=C5 h l
 |[],_=>rfl
 |p::r,z=>by
  simp only[C5,F3];rw[z p (BM ..)]
  have:=dA r λq hq=>z q (BP _ hq)
  simp only[C5] at this;rw[this]
def Xt{a:Ad}{q:Ac}(h:0<=BG a q): ∃x∈a.Tiles,x.At=q:=by
 simp only[BG] at h;cases e:a.Tiles.find? (λx=>decide (x.At=q)) with
 |none=>rw[e] at h;simp at h
 |some x=>exact⟨x,nI e,by simpa using gV e⟩
def T9{s:AM}{a:Ad}{op:List (Ac×List Int)}(hT:1<=s.Temperature)(h:N4 s (BG a) op):GG op=EM s a:=by
 have O: ∀q,Eo s (BG a) q≠[]->q∈C4 a a.Tiles.length:=λq hq=>by
  rw[QG _ (AL _),IS];have h0:BG a q<0:=by
   apply gK;intro c;exact hq (rO (by omega) _)
  have hp:DA q=true:=by
   apply gK;intro c;exact hq (Wl (λk=>by simp only[JI];rw[Gi] at c;rw[c];rfl) _)
  refine⟨⟨hp,h0⟩,?_⟩;apply gK;intro c;refine hq (qW hT (λd hd=> ?_) _);apply gK;intro c2;obtain⟨x,hx,e⟩:=Xt (a:=a) (q:=Cz q d) (by omega);exact c ⟨x,hx,dH ⟨d,hd,e.symm⟩⟩
 have Z: ∀q∈C4 a a.Tiles.length,Gj s (BG a) q s.Set.Tiles.length=Eo s (BG a) q:=λq hq=>by
  rw[QG _ (AL _)] at hq;exact (rG hq.1.1 hq.1.2 _).symm
 have Q: ∀q,(Bx op q).getD []=Eo s (BG a) q:=λq=>by
  rw[h.2 q,FE];split
  .rename_i e;rw[e];rfl
  .rfl
 have e1:EM s a=C5 (Eo s (BG a)) (C4 a a.Tiles.length):=dA _ Z;have e2:GG op=C5 (Eo s (BG a)) (Cd (op.map Prod.fst)):=dA _ λq _=>Q q
 rw[e1,e2,<-qM (C4 a a.Tiles.length)];congr 1;refine dL (NN _) ((dJ a _).filter _) (λq=> ?_);rw[Ki,iX,h.2 q,FE,gW];constructor
 .intro hq;have z:Eo s (BG a) q≠[]:=λe=>hq (Ai e)
  exact⟨O q z,by simpa using z⟩
 .rintro⟨_,hq⟩;have z:Eo s (BG a) q≠[]:=by simpa using hq
  rw[Af z];simp
def ED(p:Ac)(l:List Ac):Nat:=(l.takeWhile λy=>Bl y p).length
def rF(p:Ac): ∀(l:List Ac),DW p l=if l[ED p l]? =some p then l else l.take (ED p l)++p::l.drop (ED p l)
 |[]=>by simp[DW,ED]
 |y::r=>by
  have ih:=rF p r;simp only[DW];by_cases c:Bl y p=true
  .have e:ED p (y::r)=ED p r+1:=by simp[ED,c]
   rw[Ai c,ih,e,Ir];split
   .rfl
   .simp
  .have e:ED p (y::r)=0:=by simp[ED,c]
   rw[Af c,e];simp
def M4{p:Ac}: ∀{l:List Ac} {k:Nat},JR l->k<=l.length->(∀(i:Nat) (y:Ac),k<=i->l[i]? =some y->Bl y p=false)->(∀y,k≠0->l[k - 1]? =some y->Bl y p=true)->ED p l=k
 |[],k,_,O,_,_=>by simp at O;simp[ED,O]
 |y::r,0,_,_,Q,_=>by
  have:=Q 0 y (AL _) rfl
  simp[ED,this]
 |y::r,k+1,hl,O,Q,Z=>by
  rw[JR,Qq] at hl;have hy:Bl y p=true:=by
   cases k with
   |zero=>exact Z y (by omega) rfl
   |succ k=>
    have aa:k+1<(y::r).length:=by simp at O⊢;omega
    have h3:=Z _ (by omega) (Bi (l:=y::r) (i:=k+1) aa);refine cZ (hl.1 _ ?_) h3;simp
  have ih:=M4 (p:=p) (l:=r) (k:=k) hl.2 (by simpa using O) (λi z hi hz=>Q (i+1) z (by omega) (by simpa using hz)) (λz ab hz=>Z z (by omega) (by
   obtain⟨m,rfl⟩: ∃m,k=m+1:=⟨k - 1,by omega⟩;simpa using hz))
  simp only[ED] at ih;simp[ED,hy,ih]
def MS(p:Ac)(l:List Ac)(i:Nat):List Ac:=(l++[p]).take (i+1)++l.drop i
def dF{p:Ac}{l:List Ac}{i:Nat}(h:i<=l.length):(MS p l i).length=l.length+1:=by simp[MS];omega
def YN(p:Ac)(l:List Ac):MS p l l.length=l++[p]:=by simp[MS,DE]
def U8{p x:Ac}{l:List Ac}{i:Nat}(h:i+1<=l.length)(hx:(MS p l (i+1))[i]? =some x):(MS p l (i+1)).set (i+1) x=MS p l i:=by
 have z:l[i]? =some x:=by
  rw[<-hx,MS,Dj (by simp;omega),Lv,Ai (by omega),Dj (by omega)]
 apply Io;intro j;have Z:((l++[p]).take (i+1+1)).length=i+2:=by simp;omega
 have O:((l++[p]).take (i+1)).length=i+1:=by simp;omega
 by_cases c:j=i+1
 .subst c;rw[CY (by rw[dF h];omega),MS,E3 (by omega),O,Gh,EQ,Lx,z]
 .rw[Dw (E5 c)];simp only[MS];by_cases Q:j<i+1
  .rw[Dj (by omega),Dj (by omega),Lv,Lv,Ai (by omega),Ai Q]
  .rw[E3 (by omega),E3 (by omega),Z,O,EQ,EQ];congr 1;omega
def YO{p:Ac}{l:List Ac}{k:Nat}(h:k<=l.length):(MS p l k).set k p=l.take k++p::l.drop k:=by
 apply Io;intro j;have Q:((l++[p]).take (k+1)).length=k+1:=by simp;omega
 have z:(l.take k).length=k:=by simp;omega
 by_cases c:j=k
 .subst c;rw[CY (by rw[dF h];omega),E3 (by omega),z,Gh];simp
 .rw[Dw (E5 c)];simp only[MS];by_cases O:j<k
  .rw[Dj (by omega),Dj (by omega),Lv,Lv,Ai (by omega),Ai O,Dj (by omega)]
  .obtain⟨m,rfl⟩: ∃m,j=k+1+m:=⟨j - (k+1),by omega⟩;rw[E3 (by omega),E3 (by omega),Q,z,EQ,show k+1+m - k=m+1 by omega,Ir,EQ];congr 1;omega
def KP{p q:Ac}:((p.X==q.X)=true/\(p.Y==q.Y)=true)↔p=q:=by
 obtain⟨z,O⟩:=p;obtain⟨Q,Z⟩:=q;simp
def putQ.ca(a:List Ac×Ac):List AV:=[.own 0,.im (.agg [.int .i64 a.2.X,.int .i64 a.2.Y])]
def putQ.H0(a:List Ac×Ac):Ap:=[(0,(true,.arr 56 2 (a.1.map Ac.c)))]
def putQ.H1(a:List Ac×Ac):Ap:=[(1,(true,.arr 56 2 ((DW a.2 a.1).map Ac.c)))]
def yG(j:Nat):Bool:=j==0
def putQ.row:A7:=AB putQ.ca putQ.H0 1 (λa=>JR a.1/\a.1.length<=1000000) yG (λ_=> .own 1) putQ.H1 1
def putQ.ok:AC 131 putQ.row:=by
 refine VO (tC l_LessPoint.ok tN) Tryz.func131 (exB:=λj=>j==1) (R:=λ_ r=>r= .own 1) (λ_=>rfl)
  (λa=>by simp[putQ.ca,putQ.H0,AF,AV.bel,Aw,B9,BS,Ab.nms,Ak,hget]) (λa p hp=> ?_) (λa r h=>by subst h;exact CU.refl _) ?_
 rotate_left
 intro a af;simp only[Tryz.f131,putQ.ca,putQ.H0,putQ.H1];simp only[ZA,simprocAttr];rotate_left
 .simp[putQ.H1] at hp;subst hp;exact .inr ⟨by omega,by omega,rfl,rfl⟩
 obtain⟨l,p⟩:=a;obtain⟨hl,hn⟩:=af;simp only at hl hn⊢;intro _;refine AT.old ⟨{k:Nat//k<=l.length/\ ∀(i:Nat) (y:Ac),k<=i->l[i]? =some y->Bl y p=false},λk=>⟨[(5,.im (.int .i64 k.1)),(3,.ptr 1 0),(0,.own 0)],[(1,(true,.cells 56 [.im (.int .i64 p.X),.im (.int .i64 p.Y)])),(0,(true,.arr 56 2 (l.map Ac.c)))],3⟩,λk=>k.1,λk=>⟨by simp[ZG],by simp⟩,⟨⟨l.length,AL _,λi y hi hy=>by rw[E9 hi] at hy;cases hy⟩,by simp only[ZA,simprocAttr,sub]⟩,λk=> ?_⟩;obtain⟨k,hk,ac⟩:=k;simp only[ZA,simprocAttr,l_LessPoint.q,l_LessPoint.fv,FK,Ec,sub,AO];have Z:0<k->IntKind.i64.wrap ((k:Int) - 1)=((k - 1:Nat):Int):=λh=>by rw[AD (by omega) (by omega)];omega
 refine⟨λab=>⟨by rw[Z (by omega)];omega,by rw[Z (by omega)];omega,by rw[Z (by omega)];omega,λx hx=>⟨λaa=> ?r,λaa=>⟨λQ=>⟨Q,Q,λy hy=>⟨λe=> ?a1,λe=> ?b1⟩⟩,λQ=> ?b2⟩⟩⟩,λab=>⟨λQ=>⟨Q,Q,λy hy=>⟨λe=> ?a2,λe=> ?b3⟩⟩,λQ=> ?b4⟩⟩
 case r=>
  rw[Z (by omega),B8] at hx;refine⟨⟨k - 1,by omega,λi y hi hy=> ?_⟩,by simp only;omega,by rw[Z (by omega)]⟩;by_cases c:i=k - 1
  .subst c;obtain rfl:=Ay (hx.symm.trans hy);exact aa
  .exact ac i y (by omega) hy
 all_goals
  have ad:ED p l=k:=M4 hl hk ac (λy aq hy=>by
   first
    |(rw[Z (by omega),B8] at hx;obtain rfl:=Ay (hx.symm.trans hy);simpa using aa)
    |(exact absurd (by omega) ab))
  have O:=rF p l;rw[ad] at O
 case a1=>
  have ey:y=p:=KP.1 e;rw[hy,ey,Ai rfl] at O;refine⟨[],[(1,some 0)],⟨[(4,.own 1)],putQ.H1 (l,p),2⟩,?_,by simp[putQ.H1,ZG],by simp,?_⟩
  .simp only[Aq,putQ.H1,O];simp only[ZA,simprocAttr]
  .simp only[ZA,simprocAttr,putQ.H1,yG,putQ.H1]
 case a2=>
  have ey:y=p:=KP.1 e;rw[hy,ey,Ai rfl] at O;refine⟨[],[(1,some 0)],⟨[(4,.own 1)],putQ.H1 (l,p),2⟩,?_,by simp[putQ.H1,ZG],by simp,?_⟩
  .simp only[Aq,putQ.H1,O];simp only[ZA,simprocAttr]
  .simp only[ZA,simprocAttr,putQ.H1,yG,putQ.H1]
 all_goals
  have am:l[k]? ≠some p:=λh=>by
   first
    |(obtain rfl:=Ay (hy.symm.trans h);exact e (KP.2 rfl))
    |(rw[E9 (by omega)] at h;cases h)
  rw[Af am] at O;have ah:l.map Ac.c++[[D.int .i64 p.X,D.int .i64 p.Y]]=(l++[p]).map Ac.c:=by rw[ES];rfl
  rw[ah];refine⟨by omega,λ_=> ?_⟩;refine AT.old ⟨{i:Nat//k<=i/\i<=l.length},λi=>⟨[(6,.im (.int .i64 i.1)),(5,.im (.int .i64 k)),(0,.own 4),(3,.ptr 1 0)],[(4,(true,.arr 56 2 ((MS p l i.1).map Ac.c))),(1,(true,.cells 56 [.im (.int .i64 p.X),.im (.int .i64 p.Y)]))],5⟩,λi=>i.1,λi=>⟨by simp[ZG],by simp⟩,⟨⟨l.length,hk,AL _⟩,?_⟩,λi=> ?_⟩
  .simp only[ZA,simprocAttr,sub,YN];rw[C9,nC,AD (by omega) (by omega)];omega
  obtain⟨i,au,ai⟩:=i;have ao:=dF (p:=p) ai;simp only[ZA,simprocAttr,FK,sub,AO,ao];refine⟨λak=> ?_,λak=>⟨by omega,by omega,λx hx=> ?_⟩⟩
  .have aj:IntKind.i64.wrap ((i:Int) - 1)=((i - 1:Nat):Int):=by rw[AD (by omega) (by omega)];omega
   rw[aj,B8];refine⟨by omega,by omega,by omega,λx hx=>⟨by omega,by omega,λz hz=>⟨⟨i - 1,by omega,by omega⟩,by simp only;omega,rfl,?_⟩⟩⟩;have ag:=U8 (p:=p) (x:=x) (l:=l) (i:=i - 1) (by omega) (by rwa [show i - 1+1=i by omega]);rw[show i - 1+1=i by omega] at ag;rw[<-ag,JM];rfl
  .obtain rfl:i=k:=by omega
   have an:((MS p l i).map Ac.c).set i [D.int .i64 p.X,D.int .i64 p.Y]=(DW p l).map Ac.c:=by
    rw[O,<-YO hk,JM];rfl
   refine⟨[],[(1,some 4)],⟨[(4,.own 1)],putQ.H1 (l,p),2⟩,?_,by simp[putQ.H1,ZG],by simp,?_⟩
   .simp only[Aq,putQ.H1,an];simp only[ZA,simprocAttr]
   .simp only[ZA,simprocAttr,putQ.H1,yG,putQ.H1]
def TP(a:List Ac×Ac)(j:Nat):Ak (putQ.H0 a) j=true↔j<1:=by
 simp only[Ak,putQ.H0,hget];by_cases z:j=0
 .subst z;simp
 .have:(0==j)=false:=by simpa using λh=>z h.symm
  rw[this];simp;omega
def rH(p:Ac): ∀(l:List Ac),(DW p l).length<=l.length+1
 |[]=>by simp[DW]
 |y::r=>by
  have:=rH p r
  simp only[DW];split
  .simp only[Cv];omega
  .split<;>simp
def dG(a:Ad)(p:Ac)(l:List Ac): ∀k,(DR a p l k).length<=l.length+k
 |0=>by simp[DR]
 |k+1=>by
  have:=dG a p l k
  simp only[DR];split
  .have:=rH (Cz p k) (DR a p l k);omega
  .omega
def Wm(a:Ad): ∀i,(C4 a i).length<=4*i
 |0=>by simp[C4]
 |i+1=>by
  have:=Wm a i
  have:=dG a ((a.Tiles[i]?.map Aj.At).getD ⟨0,0⟩) (C4 a i) 4
  simp only[C4];omega
def nearS_.fv(a:Ad):List Ac:=(λa=>C4 a a.Tiles.length) a
def nearS_.row:A7:=vK (b1 (qP 1 Ad.d_le)) (rS Ac.d_le Ac.c_n) (λa=>De none a.Tiles=true/\a.Tiles.length<=1000/\ ∃s,∀x∈a.Tiles,FX s x.Tile) nearS_.fv
def nearS_.q:=AY (R:=nearS_.row) rfl
def nearS_.ok:AC 90 nearS_.row:=by
 refine vw (tC l01Step.ok (tC l01Point.ok (tC l03Index.ok (tC putQ.ok tN)))) Tryz.func90 ?_;intro a aa;simp only[Tryz.f90];simp only[ZA,simprocAttr,nearS_.fv];obtain⟨h1,h2,s0,h3⟩:=aa;refine AT.ren ⟨{i:Nat//i<=a.Tiles.length},λi=>⟨[(4,.im (.int .i64 i.1)),(3,.own 3),(0,.ptr 0 0)],[(3,(true,.arr 56 2 ((C4 a i.1).map Ac.c))),(0,(false,.view (Ad.c a)))],4⟩,λi=>a.Tiles.length - i.1,λi=>⟨by simp[ZG],by simp⟩,⟨⟨0,CC _⟩,[(3,some 2)],?_⟩,λi=> ?_⟩
 .simp only[Aq];simp only[ZA,simprocAttr,Bs,C4]
  try simp
 obtain⟨i,hi⟩:=i;simp only[ZA,simprocAttr,AO];intro _;refine⟨λz=> ?_,λz=> ?_⟩;rotate_left
 .obtain rfl:i=a.Tiles.length:=by omega
  rfl
 obtain⟨x,hx⟩: ∃x,a.Tiles[i]? =some x:=⟨_,Bi z⟩;have ag:=(V5 _ _ h1 x (AZ hx)).1;have e1:C4 a (i+1)=DR a x.At (C4 a i) 4:=by simp only[C4,hx];rfl
 have ah:=Wm a i;have ad:=dJ a i;refine AT.ren ⟨{d:Nat//d<=4},λd=>⟨[(5,.im (.int .i64 d.1)),(4,.im (.int .i64 i)),(3,.own 4),(0,.ptr 0 0)],[(4,(true,.arr 56 2 ((DR a x.At (C4 a i) d.1).map Ac.c))),(0,(false,.view (Ad.c a)))],5⟩,λd=>4 - d.1,λd=>⟨by simp[ZG],by simp⟩,⟨⟨0,CC _⟩,[(4,some 3)],?_⟩,λd=> ?_⟩
 .simp only[Aq];simp only[ZA,simprocAttr,Bs,DR]
  try simp
 obtain⟨d,hd⟩:=d;have ai:=dG a x.At (C4 a i) d;have af:=Wn (a:=a) (p:=x.At) ad d;simp only[ZA,simprocAttr,Ad.d,l01Step.q,l01Step.fv,l01Point.q,l01Point.fv,l03Index.q,l03Index.fv,AO];have Z:IntKind.i64.wrap ((d:Int)+1)=((d+1:Nat):Int):=by rw[AD (by omega) (by omega)];omega
 refine⟨λac=>⟨z,λy hy=> ?_⟩,λac=> ?_⟩;rotate_left
 .obtain rfl:d=4:=by omega
  refine⟨⟨i+1,by omega⟩,[(3,some 4)],by simp only;omega,?_⟩;simp only[Aq];simp only[ZA,simprocAttr,Bs,e1];rw[AD (by omega) (by omega)];rfl
 obtain rfl:=Ay (hx.symm.trans hy);refine⟨⟨Qi ag,by omega⟩,λQ=>⟨h1,λO=> ?_,λO=> ?_⟩,λQ=> ?_⟩
 .have ab:=(QH h3 (Cz x.At d)).1 O;refine AB.os (DR a x.At (C4 a i) d,Cz x.At d) [4] ⟨af,by simp only;omega⟩ (TP _) rfl rfl ?_ ?_
  .simp only[ZA,simprocAttr,putQ.ca,putQ.H0,CL,Ef]
  simp only[ZA,simprocAttr,putQ.H1,yG];refine⟨⟨d+1,by omega⟩,[(4,some 6)],by simp only;omega,?_⟩;simp only[Aq];simp only[ZA,simprocAttr,Bs,DR];rw[Ai ⟨Q,ab⟩];exact⟨Z,rfl⟩
 all_goals
  refine⟨⟨d+1,by omega⟩,[(4,some 4)],by simp only;omega,?_⟩;simp only[Aq];simp only[ZA,simprocAttr,Bs,DR];refine⟨Z,?_⟩;rw[Af];rintro⟨g1,g2⟩
  first
   |exact O ((QH h3 _).2 g2)
   |exact Q g1
def Sz(s:Az)(a:Ad)(p:Ac):Nat->List Int
 |0=>[]
 |k+1=>Sz s a p k++[if BG a (Cz p k)<0 then 0 else Ku s (BG a (Cz p k)) (((k:Int)+2) % 4)]
def NM(s:Az)(a:Ad)(p:Ac): ∀k,(Sz s a p k).length=k
 |0=>rfl
 |k+1=>by simp[Sz,NM s a p k]
def dC{s:Az}{a:Ad}{p:Ac}: ∀{n k:Nat},k<n->(Sz s a p n)[k]? =some (if BG a (Cz p k)<0 then 0 else Ku s (BG a (Cz p k)) (((k:Int)+2) % 4))
 |0,k,h=>by omega
 |n+1,k,h=>by
  simp only[Sz];by_cases c:k<n
  .rw[Dj (by rw[NM];exact c),dC c]
  .obtain rfl:k=n:=by omega
   rw[E3 (by rw[NM];omega),NM,Gh];rfl
def Zg{s:Az}{a:Ad}{p:Ac}{i:Int}{k:Nat}{g:Int}(z:g=if BG a (Cz p k)<0 then 0 else Ku s (BG a (Cz p k)) (((k:Int)+2) % 4)):(if Ku s i k=g then Qb s g else 0)=VD s (BG a) p i k:=by
 simp only[VD,Km];by_cases c:BG a (Cz p k)<0
 .rw[Ai c] at z;subst z;rw[Af (show ¬0<=BG a (Cz p k) by omega),LU (by omega)]
  split<;>rfl
 .rw[Af c] at z;rw[Ai (show 0<=BG a (Cz p k) by omega),<-z];split
  .rename_i e;rw[e]
  .rfl
def kH{s:Az}(h:Ct s){t:Int}{d:Int}:0<=Ku s t d/\Ku s t d<=s.Glues.length:=by
 simp only[Ku];cases e:s.Tiles[t.toNat]? with
 |none=>simp
 |some x=>
  simp only[D3,AP];cases e2:x.Sides[d.toNat]? with
  |none=>simp
  |some g=>
   simp only[AP];exact (h.2.1 x (AZ e)).2 g (AZ e2)
def atQ_.fv(a:Az×Ad×Ac×Int):List Int:=(λs a p t=>Gj ⟨s,a,t⟩ (BG a) p s.Tiles.length) (a.1) (a.2.1) (a.2.2.1) (a.2.2.2)
def atQ_.row:A7:=vK (b4 (qP 2 Az.d_le) (qP 1 Ad.d_le) (qR Ac.d_le) qI) (rS Fh EN) (λa=>Ct a.1/\Il a.1 a.2.1/\HE a.2.2.1/\a.1.Tiles.length<=1000000) atQ_.fv
def atQ_.q:=AY (R:=atQ_.row) rfl
def atQ_.ok:AC 91 atQ_.row:=by
 refine vw (tC l01Step.ok (tC l03At.ok (tC Opposite_.ok (tC l02Strength.ok tN)))) Tryz.func91 ?_;intro a ag;simp only[Tryz.f91];simp only[ZA,simprocAttr,atQ_.fv];obtain⟨s,a,p,t⟩:=a;obtain⟨Z,h2,h3,h4⟩:=ag;simp only at Z h2 h3 h4⊢;refine AT.ren ⟨{d:Nat//d<=4},λd=>⟨[(10,.im (.int .i64 d.1)),(9,.own 5),(6,.ptr 2 0),(0,.ptr 0 0),(1,.ptr 1 0),(3,.im (.int .i64 t))],[(5,(true,.arr 2 1 ((Sz s a p d.1).map Al))),(2,(true,.cells 56 [.im (.int .i64 p.X),.im (.int .i64 p.Y)])),(0,(false,.view (Az.c s))),(1,(false,.view (Ad.c a)))],6⟩,λd=>4 - d.1,λd=>⟨by simp[ZG],by simp⟩,⟨⟨0,CC _⟩,[(5,some 4)],?_⟩,λd=> ?_⟩
 .simp only[Aq];simp only[ZA,simprocAttr,Bs,Sz]
  try simp
 obtain⟨d,hd⟩:=d;have am:=NM s a p d;simp only[ZA,simprocAttr,Ad.d,l01Step.q,l01Step.fv,l03At.q,l03At.fv,Opposite_.q,Opposite_.fv,AO,NK,NI,BT,D.one];have aa:IntKind.i64.wrap ((d:Int)+1)=((d+1:Nat):Int):=by rw[AD (by omega) (by omega)];omega
 refine⟨λab=>⟨⟨h3,by omega⟩,h2.1,λhn=>⟨by omega,⟨d+1,by omega⟩,[(5,some 7)],by simp only;omega,?_⟩,λhn=> ?_⟩,λab=> ?_⟩
 .simp only[Aq];simp only[ZA,simprocAttr,Bs,Sz];rw[Ai hn];refine⟨aa,by simp[Al]⟩
 .obtain⟨b1,b2⟩:=Ru h2 (Cz p d) (by omega);refine⟨b1,b2,λx hx=>⟨by omega,by omega,by rw[(Z.2.1 x (AZ hx)).1];omega,λg hg=>⟨by omega,⟨d+1,by omega⟩,[(5,some 7)],by simp only;omega,?_⟩⟩⟩;have Q:Ku s (BG a (Cz p d)) (((d:Int)+2) % 4)=g:=fS hx hg;simp only[Aq];simp only[ZA,simprocAttr,Bs,Sz];rw[Af hn,Q];refine⟨aa,by simp[Al]⟩
 obtain rfl:d=4:=by omega
 clear aa ab hd;obtain⟨S,hS⟩: ∃S:AM,S=⟨s,a,t⟩:=⟨_,rfl⟩;rw[<-hS];refine AT.ren ⟨{i:Nat//i<=s.Tiles.length},λi=>⟨[(13,.im (.int .i64 i.1)),(12,.own 7),(9,.own 5),(0,.ptr 0 0),(3,.im (.int .i64 t))],[(7,(true,.arr 2 1 ((Gj S (BG a) p i.1).map Al))),(5,(true,.arr 2 1 ((Sz s a p 4).map Al))),(0,(false,.view (Az.c s))),(1,(false,.view (Ad.c a)))],8⟩,λi=>s.Tiles.length - i.1,λi=>⟨by simp[ZG],by simp⟩,⟨⟨0,CC _⟩,[(7,some 6)],?_⟩,λi=> ?_⟩
 .simp only[Aq];simp only[ZA,simprocAttr,Bs,Gj]
  try simp
 obtain⟨i,hi⟩:=i;have ao:=Wr S (BG a) p i;simp only[ZA,simprocAttr,AO];intro _;refine⟨λac=> ?_,λac=> ?_⟩;rotate_left
 .obtain rfl:i=s.Tiles.length:=by omega
  rfl
 refine AT.old ⟨{k:Nat//k<=4},λk=>⟨[(15,.im (.int .i64 k.1)),(14,.im (.int .i64 (Gb s (BG a) p i k.1))),(13,.im (.int .i64 i)),(12,.own 7),(9,.own 5),(0,.ptr 0 0),(3,.im (.int .i64 t))],[(7,(true,.arr 2 1 ((Gj S (BG a) p i).map Al))),(5,(true,.arr 2 1 ((Sz s a p 4).map Al))),(0,(false,.view (Az.c s))),(1,(false,.view (Ad.c a)))],8⟩,λk=>4 - k.1,λk=>⟨by simp[ZG],by simp⟩,⟨⟨0,CC _⟩,?_⟩,λk=> ?_⟩
 .simp only[ZA,simprocAttr,sub,Gb]
 obtain⟨k,hk⟩:=k;simp only[ZA,simprocAttr,l02Strength.q,l02Strength.fv,sub,AO,NK,NI,BT,D.one];have af:IntKind.i64.wrap ((k:Int)+1)=((k+1:Nat):Int):=by rw[AD (by omega) (by omega)];omega
 have ak:=Qwy Z (BG a) p i k;have an:=Qxd Z (BG a) p i k;have ai:=NM s a p 4;rw[ai];refine⟨λaj=>⟨ac,λx hx=>⟨by rw[(Z.2.1 x (AZ hx)).1];omega,λg hg=>⟨by omega,by omega,λy hy=> ?_⟩⟩⟩,λaj=> ?_⟩
 .have Q:Ku s i k=g:=fS (by simpa using hx) (by simpa using hg);rw[dC (by omega),AI] at hy;have O:=Zg (i:=i) hy.symm;rw[Q] at O;refine⟨λe=>⟨by omega,by omega,λz hz=> ?_⟩,λe=>⟨⟨k+1,by omega⟩,by simp only;omega,af,?_⟩⟩
  .rw[dC (by omega),AI] at hz;obtain rfl:y=z:=hy.symm.trans hz;rw[Ai e] at O;have ah:0<=y/\y<=s.Glues.length:=by
    have:=kH Z (t:=i) (d:=k)
    rw[Q,e] at this;exact this
   refine⟨⟨ah.1,ah.2,Z.1⟩,⟨k+1,by omega⟩,by simp only;omega,af,?_⟩;rw[O,AD (by omega) (by omega)];rfl
  .rw[Af e] at O;simp only[Gb,<-O];omega
 .obtain rfl:k=4:=by omega
  have ad:IntKind.i64.wrap ((i:Int)+1)=((i+1:Nat):Int):=by rw[AD (by omega) (by omega)];omega
  have e1:S.Temperature=t:=by rw[hS]
  have e2:S.Set=s:=by rw[hS]
  refine⟨λe=>⟨by omega,⟨i+1,by omega⟩,[(7,some 9)],by simp only;omega,?_⟩,λe=>⟨⟨i+1,by omega⟩,[(7,some 7)],by simp only;omega,?_⟩⟩
  .simp only[Aq];simp only[ZA,simprocAttr,Bs,Gj,e1,e2];rw[Ai e];exact⟨ad,by simp[Al]⟩
  .simp only[Aq];simp only[ZA,simprocAttr,Bs,Gj,e1,e2];rw[Af e,D2];exact⟨ad,rfl⟩
def aW(s:AM)(a b:Ad)(f:Ac->Int)(p:Ac): ∀n,Gj ⟨s.Set,a,s.Temperature⟩ f p n=Gj s f p n
 |0=>rfl
 |n+1=>by simp only[Gj,aW s a b f p n]
def Ep(g:Ac->List Int)(l:List Ac)(i:Nat):List A9:=C5 g (l.take i)
def rJ{g:Ac->List Int}{l:List Ac}{i:Nat}{p:Ac}(h:l[i]? =some p):Ep g l (i+1)=Ep g l i++(g p).map (OL p):=by
 simp only[Ep,C5,aI h,ZdP,F3,nQ,D2]
def Wp{g:Ac->List Int}{m:Nat}(z: ∀p,(g p).length<=m): ∀(l:List Ac),(C5 g l).length<=l.length*m
 |[]=>by simp[C5]
 |p::r=>by
  have ih:=Wp z r
  have:=z p
  simp only[C5] at ih;simp only[C5,F3,C9,Fc,Cv,wY];omega
def opsS_.fv(a:AM×Ad):List A9:=(EM) (a.1) (a.2)
def opsS_.row:A7:=vK (b2 (qP 4 AM.d_le) (qP 1 Ad.d_le)) (rS A9.d_le A9.c_n) (λa=>Ct a.1.Set/\Il a.1.Set a.2/\a.2.Tiles.length<=500/\a.1.Set.Tiles.length<=1000) opsS_.fv
def opsS_.q:=AY (R:=opsS_.row) rfl
def opsS_.ok:AC 50 opsS_.row:=by
 refine vw (tC nearS_.ok (tC atQ_.ok tN)) Tryz.func50 ?_;intro a Z;simp only[Tryz.f50];simp only[ZA,simprocAttr,Ad.d,opsS_.fv,nearS_.q,nearS_.fv];obtain⟨s,a⟩:=a;obtain⟨h1,h2,h3,h4⟩:=Z;simp only at h1 h2 h3 h4⊢;refine⟨⟨h2.1,by omega,s.Set,h2.2⟩,?_⟩;obtain⟨L,hL⟩: ∃L,L=C4 a a.Tiles.length:=⟨_,rfl⟩;obtain⟨g,hg⟩: ∃g,g=λp=>Gj s (BG a) p s.Set.Tiles.length:=⟨_,rfl⟩
 have ac:EM s a=C5 g L:=by rw[hg,hL];rfl
 rw[ac];have af:L.length<=2000:=by have:=Wm a a.Tiles.length;rw[hL];omega
 have O: ∀p,(g p).length<=1000:=λp=>by have:=Wr s (BG a) p s.Set.Tiles.length;rw[hg];simp only;omega
 have aa: ∀p∈L,DA p=true:=λp hp=>by
  rw[hL,QG _ (AL _)] at hp;exact hp.1.1
 simp only[<-hL];refine AT.ren ⟨{i:Nat//i<=L.length},λi=>⟨[(7,.im (.int .i64 i.1)),(6,.im (.sl false 2 (L.map Ac.c))),(5,.own 4),(0,.ptr 0 0),(1,.ptr 1 0)],[(4,(true,.arr 58 3 ((Ep g L i.1).map A9.c))),(0,(false,.view (AM.c s))),(1,(false,.view (Ad.c a)))],5⟩,λi=>L.length - i.1,λi=>⟨by simp[ZG],by simp⟩,⟨⟨0,CC _⟩,[(4,some 3)],?_⟩,λi=> ?_⟩
 .simp only[Aq];simp only[ZA,simprocAttr,Bs,Ep,C5]
  try simp
 obtain⟨i,hi⟩:=i;simp only[ZA,simprocAttr,Ad.d,atQ_.q,atQ_.fv,AO];intro _;refine⟨λz=> ?_,λz=> ?_⟩;rotate_left
 .obtain rfl:i=L.length:=by omega
  rw[Ep,IS]
 have ah:(Ep g L i).length<=2000*1000:=by
  have:=Wp O (L.take i)
  have h9:(L.take i).length*1000<=2000*1000:=HI _ (by simp;omega);simp only[Ep];omega
 refine⟨z,λp hp=> ?_⟩;have ad:=aa p (AZ hp);refine⟨⟨h1,h2,Qi ad,by omega⟩,?_⟩;have ab:Gj ⟨s.Set,a,s.Temperature⟩ (BG a) p s.Set.Tiles.length=g p:=by rw[aW _ _ a,hg]
 rw[ab];have ag:=O p;refine AT.ren ⟨{k:Nat//k<=(g p).length},λk=>⟨[(9,.im (.int .i64 k.1)),(8,.im (.sl false 1 ((g p).map Al))),(7,.im (.int .i64 i)),(6,.im (.sl false 2 (L.map Ac.c))),(5,.own 5),(0,.ptr 0 0),(1,.ptr 1 0)],[(5,(true,.arr 58 3 ((Ep g L i++((g p).take k.1).map (OL p)).map A9.c))),(0,(false,.view (AM.c s))),(1,(false,.view (Ad.c a)))],6⟩,λk=>(g p).length - k.1,λk=>⟨by simp[ZG],by simp⟩,⟨⟨0,CC _⟩,[(5,some 4)],?_⟩,λk=> ?_⟩
 .simp only[Aq];simp only[ZA,simprocAttr,Bs]
  try simp
 obtain⟨k,hk⟩:=k;simp only[ZA,simprocAttr,AO,NK,NI,BT,D.one,C9];intro _;refine⟨λQ=>⟨z,λq hq=>⟨Q,λx hx=>⟨?_,⟨k+1,by omega⟩,[(5,some 7)],by simp only;omega,?_⟩⟩⟩,λQ=>⟨⟨i+1,by omega⟩,[(4,some 5)],by simp only;omega,?_⟩⟩
 .have:((g p).take k).length<=1000:=by simp;omega
  omega
 .obtain rfl:=Ay (hp.symm.trans hq);simp only[Aq];simp only[ZA,simprocAttr,Bs];refine⟨by rw[AD (by omega) (by omega)];rfl,?_⟩;rw[aI hx];simp[OL,A9.c]
 .obtain rfl:k=(g p).length:=by omega
  simp only[Aq];simp only[ZA,simprocAttr,Bs];refine⟨by rw[AD (by omega) (by omega)];rfl,?_⟩;rw[rJ hp,IS]
structure Bc where
 A:Ad
 From:Int
 By:A9
 deriving DecidableEq
def Bc.c(x:Bc):List D:=[.sl false 3 (x.A.Tiles.map Aj.c),.int .i64 x.From,.int .i64 x.By.At.X,.int .i64 x.By.At.Y,.int .i64 x.By.Tile]
def Bc.d:List D->Option Bc
 |[.sl _ _ z,.int .i64 O,.int .i64 Q,.int .i64 Z,.int .i64 x4]=>(AR Aj.d z).bind λy0=>some ⟨⟨y0⟩,O,⟨⟨Q,Z⟩,x4⟩⟩
 |_=>none
def Bc.d_le: ∀ds x,Bc.d ds=some x->CJ ds (Bc.c x):=by
 intro ds x h;unfold Bc.d at h;split at h
 .simp only[EP,AI] at h;obtain⟨z,h0,rfl⟩:=h;exact⟨Ed (DQ Aj.d_le _ _ h0) (by simp[Aj.c]),Le.refl _,Le.refl _,Le.refl _,Le.refl _,trivial⟩
 .cases h
def Bc.d_c(x:Bc):Bc.d (Bc.c x)=some x:=by
 simp only[Bc.c,Bc.d,Aj.d_R,G7]
def Bc.d_R(l:List Bc):AR Bc.d (l.map Bc.c)=some l:=QN Bc.d_c l
def Bc.len(x:Bc):(Bc.c x).length=5:=rfl
def Bc.c_n(x:Bc):(Bc.c x).length=5:=rfl
def MO{A:Type}(d:A)(l:List A):Nat->List A
 |0=>l
 |i+1=>((MO d l i).set i ((MO d l i)[l.length - 1 - i]?.getD d)).set (l.length - 1 - i) ((MO d l i)[i]?.getD d)
def W3{A:Type}(d:A)(l:List A): ∀i,(MO d l i).length=l.length
 |0=>rfl
 |i+1=>by simp only[MO,EA,W3 d l i]
def MP{A:Type}(d:A)(l:List A): ∀i,2*i<=l.length-> ∀k,k<l.length->(MO d l i)[k]? =if k<i\/l.length - i<=k then l[l.length - 1 - k]? else l[k]?
 |0,_,k,Z=>by simp only[MO];rw[Af (by omega)]
 |i+1,hi,k,Z=>by
  have ih:=MP d l i (by omega);have hl:=W3 d l i;have g1:(MO d l i)[l.length - 1 - i]?.getD d=l[l.length - 1 - i]?.getD d:=by rw[ih _ (by omega),Af (by omega)]
  have g2:(MO d l i)[i]?.getD d=l[i]?.getD d:=by rw[ih _ (by omega),Af (by omega)]
  have gd: ∀j,j<l.length->some (l[j]?.getD d)=l[j]? :=λj hj=>by rw[Bi hj];rfl
  rw[MO,g1,g2];by_cases z:l.length - 1 - i=k
  .subst z;rw[CY (by rw[EA,hl];omega),Ai (by omega),gd _ (by omega)];congr 1;omega
  .rw[Dw z];by_cases O:i=k
   .subst O;rw[CY (by rw[hl];omega),Ai (by omega),gd _ (by omega)]
   .rw[Dw O,ih k Z];by_cases Q:k<i\/l.length - i<=k
    .rw[Ai Q,Ai (by omega)]
    .rw[Af Q,Af (by omega)]
def YD{A:Type}(d:A)(l:List A){i:Nat}(O:2*i<=l.length)(Q:l.length<=2*i+1):MO d l i=l.reverse:=by
 apply Io;intro k;by_cases z:k<l.length
 .rw[MP d l i O k z,Zeg z];by_cases h:k<i\/l.length - i<=k
  .rw[Ai h]
  .rw[Af h];congr 1;omega
 .rw[E9 (by rw[W3];omega),E9 (by rw[gE];omega)]
def Qat3(l:List A9)(i:Nat)(x:A9):(l.map A9.c).set i [.int .i64 x.At.X,.int .i64 x.At.Y,.int .i64 x.Tile]=(l.set i x).map A9.c:=by rw[JM];rfl
def o0:A9:=⟨⟨0,0⟩,0⟩
def rvO.ca(_:List A9):List AV:=[.own 0]
def rvO.H0(a:List A9):Ap:=[(0,(true,.arr 58 3 (a.map A9.c)))]
def rvO.H1(a:List A9):Ap:=[(0,(true,.arr 58 3 (a.reverse.map A9.c)))]
def rvO.row:A7:=AB rvO.ca rvO.H0 1 (λ_=>True) (λj=>j==0) (λ_=> .im (.tup [])) rvO.H1 0
def rvO.ok:AC 116 rvO.row:=by
 refine ow tN Tryz.func116 (exB:=λ_=>false) (R:=λ_ r=>r= .im (.tup [])) (λ_=>rfl)
  (λa=>by simp[rvO.ca,rvO.H0,AF,AV.bel,Aw,B9,BS,Ab.nms,Ak,hget]) (λa p hp=> ?_) (λa r h=>by subst h;exact CU.refl _) ?_
 rotate_left
 intro a Z;simp only[Tryz.f116,rvO.ca,rvO.H0,rvO.H1];simp only[ZA,simprocAttr];intro aa;rw[AD (by omega) (by omega)];refine AT.old ⟨{i:Nat//2*i<=a.length},λi=>⟨[(2,.im (.int .i64 i.1)),(3,.im (.int .i64 ((a.length:Int) - 1 - i.1))),(0,.own 0)],[(0,(true,.arr 58 3 ((MO o0 a i.1).map A9.c)))],1⟩,λi=>a.length - i.1,λi=>⟨by simp[ZG],by simp⟩,⟨⟨0,by simp⟩,?_⟩,λi=> ?_⟩
 .simp only[ZA,simprocAttr,sub];exact⟨by omega,by rw[MO]⟩
 obtain⟨i,hi⟩:=i;have Q:=W3 o0 a i;simp only[ZA,simprocAttr,sub,AO,Q,Qat3,EA];refine⟨λO=>⟨by omega,by omega,by omega,λx hx=>⟨by omega,by omega,λy hy=>⟨by omega,by omega,λz hz=>⟨by omega,by omega,by omega,λu hu=> ?_⟩⟩⟩⟩,λO=> ?_⟩
 .refine⟨⟨i+1,by omega⟩,by simp only;omega,?_⟩;have w1:IntKind.i64.wrap ((a.length:Int) - 1 - i - 1)=(a.length:Int) - 1 - i - 1:=AD (by omega) (by omega);have w2:IntKind.i64.wrap ((i:Int)+1)=(i:Int)+1:=AD (by omega) (by omega);simp only[w1,w2];refine⟨⟨by omega,by omega⟩,?_⟩;simp only[MO];rw[show a.length - 1 - i=((a.length:Int) - 1 - i).toNat by omega,hx,hy];rfl
 .rw[YD o0 a hi (by omega)]
 simp[rvO.H1] at hp;subst hp;exact .inl ⟨by omega,rfl,rfl⟩
def PX(W:List Bc):Nat->Nat->List A9->List A9
 |0,_,out=>out
 |n+1,i,out=>match W[i]? with
  |some f=>if 0<=f.From then PX W n f.From.toNat (f.By::out) else out
  |none=>out
def Zx(W:List Bc)(i:Int)(o:A9):List A9:=PX W (i.toNat+1) i.toNat [o]
def E8(W:List Bc):Prop:= ∀(j:Nat) (f:Bc),W[j]? =some f->f.From<j
def sN{W:List Bc}(h:E8 W): ∀(n m k:Nat) (out:List A9),k<n->k<m->PX W n k out=PX W m k out
 |0,_,_,_,z,_=>by omega
 |_+1,0,_,_,_,O=>by omega
 |n+1,m+1,k,out,z,O=>by
  simp only[PX];cases hf:W[k]? with
  |none=>rfl
  |some f=>
   simp only
   have:=h k f hf
   split
   .exact sN h n m _ _ (by omega) (by omega)
   .rfl
def wyS_.fv(a:(List Bc)×Int×A9):List A9:=(Zx) (a.1) (a.2.1) (a.2.2)
def wyS_.row:A7:=Dy (b3 (qS Bc.d_le Bc.c_n) qI (qR A9.d_le)) (rS A9.d_le A9.c_n) (λa=>E8 a.1/\0<=a.2.1/\a.2.1<a.1.length/\a.1.length<=100000) wyS_.fv
def wyS_.q:=CP (R:=wyS_.row) rfl
def wyS_.ok:AC 53 wyS_.row:=by
 refine Gz tN Tryz.func53 ?_;intro a z;simp only[Tryz.f53];simp only[ZA,simprocAttr,wyS_.fv];obtain⟨W,i,o⟩:=a;obtain⟨Q,Z,h3,h4⟩:=z;simp only at Q Z h3 h4⊢;refine AT.ren ⟨{q:Nat×List A9//q.1<W.length/\q.2.length+q.1<=W.length/\PX W (q.1+1) q.1 q.2=Zx W i o},λq=>⟨[(7,.own 3),(0,.im (.sl false 5 (W.map Bc.c))),(1,.im (.int .i64 q.1.1))],[(3,(true,.arr 58 3 (q.1.2.map A9.c)))],4⟩,λq=>q.1.1,λq=>⟨by simp[ZG],by simp⟩,⟨⟨(i.toNat,[o]),by simp only;omega,by simp only[nC];omega,rfl⟩,[(3,some 2)],?_⟩,λq=> ?_⟩
 .simp only[Aq];simp only[ZA,simprocAttr];omega
 obtain⟨⟨k,out⟩,k1,k2,O⟩:=q;simp only at k1 k2 O;simp only[ZA,simprocAttr,HW,D.sc,Ur,BC,AO,Bc.c];refine⟨k1,λf hf=>⟨λhp=>⟨k1,λg hg=>⟨by omega,k1,λu hu=> ?_⟩⟩,λhp=> ?_⟩⟩
 .obtain rfl:=Ay (hf.symm.trans hg);obtain rfl:=Ay (hf.symm.trans hu);have aa:=Q k f hf;refine⟨⟨(f.From.toNat,f.By::out),by simp only;omega,by simp only[Cv];omega,?_⟩,[(3,some 5)],by simp only;omega,?_⟩
  .rw[<-O]
   conv=>rhs;rw[PX]
   rw[hf];simp only[Ai hp];exact sN Q _ _ _ _ (by omega) (by omega)
  .simp only[Aq];simp only[ZA,simprocAttr];omega
 .rw[PX,hf] at O;simp only[Af hp] at O;rw[O]
end Go.Ae
namespace Go.Ae
open Go.Proofs
def J5:List (Ad×A9)->D
 |[]=> .nilp
 |(a,o)::r=> .ref [.sl false 3 (a.Tiles.map Aj.c),J5 r,.int .i64 o.At.X,.int .i64 o.At.Y,.int .i64 o.Tile]
structure Dv where
 A:Ad
 Up:List (Ad×A9)
 By:A9
def Dv.c(x:Dv):List D:=[.sl false 3 (x.A.Tiles.map Aj.c),J5 x.Up,.int .i64 x.By.At.X,.int .i64 x.By.At.Y,.int .i64 x.By.Tile]
open Classical in
noncomputable def Dv.d (ds:List D):Option Dv:=if h: ∃x:Dv,x.c=ds then some (Classical.choose h) else none
def Dv.len(x:Dv):(Dv.c x).length=5:=rfl
def Dv.ch(v:Dv):List (Ad×A9):=(v.A,v.By)::v.Up
def KZ(v:Dv):J5 v.ch= .ref v.c:=rfl
def R6:List (Ad×A9)->List A9
 |[]=>[]
 |[_]=>[]
 |x::y::r=>x.2::R6 (y::r)
def PU(v:Dv):List A9:=(R6 v.ch).reverse
def wayO.ca(_:Dv):List AV:=[.ptr 0 0]
def wayO.H0(v:Dv):Ap:=[(0,(true,.cells 135 [.im (.sl false 3 (v.A.Tiles.map Aj.c)),.im (J5 v.Up),.im (.int .i64 v.By.At.X),.im (.int .i64 v.By.At.Y),.im (.int .i64 v.By.Tile)]))]
def wayO.H1(v:Dv):Ap:=[(1,(true,.arr 58 3 ((PU v).map A9.c)))]
def wayO.row:A7:=AB wayO.ca wayO.H0 1 (λv=>v.Up.length<=100000) (λ_=>false) (λ_=> .own 1) wayO.H1 20
def wayO.ok:AC 70 wayO.row:=by
 refine VO (tC rvO.ok tN) Tryz.func70 (exB:=λj=>j==1) (R:=λ_ r=>r= .own 1) (λ_=>rfl)
  (λa=>by simp[wayO.ca,wayO.H0,AF,AV.bel,Aw,B9,BS,Ab.nms,AA,AV.nms,Ak,hget]) (λa p hp=> ?_) (λa r h=>by subst h;exact CU.refl _) ?_
 rotate_left
 intro a aa;simp only[Tryz.f70,wayO.ca,wayO.H0,wayO.H1];simp only[ZA,simprocAttr];rotate_left
 .simp[wayO.H1] at hp;subst hp;exact .inr ⟨by omega,by omega,rfl,rfl⟩
 refine AT.ren ⟨{q:AV×Dv×List A9//(q.1= .ptr 0 0/\q.2.1=a\/q.1= .im (.ref q.2.1.c))/\q.2.2.length+q.2.1.Up.length<=a.Up.length/\q.2.2++R6 q.2.1.ch=R6 a.ch},λq=>⟨[(3,.own 3),(0,q.1.1)],[(3,(true,.arr 58 3 (q.1.2.2.map A9.c))),(0,(true,.cells 135 [.im (.sl false 3 (a.A.Tiles.map Aj.c)),.im (J5 a.Up),.im (.int .i64 a.By.At.X),.im (.int .i64 a.By.At.Y),.im (.int .i64 a.By.Tile)]))],4⟩,λq=>q.1.2.1.Up.length,λq=>⟨?_,by simp⟩,⟨⟨(.ptr 0 0,a,[]),.inl ⟨rfl,rfl⟩,by simp,rfl⟩,[(3,some 2)],?_⟩,λq=> ?_⟩
 .obtain⟨⟨t0,w,out⟩,q1,Z,z⟩:=q;rcases q1 with ⟨q1,_⟩|q1<;>simp only at q1<;>subst q1<;>simp[ZG]
 .simp only[Aq];simp only[ZA,simprocAttr,Bs]
 obtain⟨⟨t0,⟨wA,wU,O⟩,out⟩,q1,Z,z⟩:=q;simp only at q1 Z z;cases wU with
 |nil=>
  simp only[Dv.ch,R6,D2] at z;rcases q1 with ⟨rfl,e⟩|rfl
  .subst e;simp only[ZA,simprocAttr,Dv.c,J5];refine AB.os out [3] trivial (λj=> ?_) rfl rfl ?_ ?_
   .simp only[Ak,rvO.H0,hget];by_cases Q:j=0
    .subst Q;simp
    .have:(0==j)=false:=by simpa using λh=>Q h.symm
     rw[this];simp;omega
   .simp only[ZA,simprocAttr,Ec,rvO.ca,rvO.H0,CL,Ef]
    try exact⟨rfl,rfl⟩
   simp only[ZA,simprocAttr,FK,Ec,rvO.H1,Br,Ef,Ht];refine⟨[],[(1,some 3)],⟨[(2,.own 1)],[(1,(true,.arr 58 3 ((PU ⟨wA,[],O⟩).map A9.c))),(0,(true,.cells 135 [.im (.sl false 3 (wA.Tiles.map Aj.c)),.im .nilp,.im (.int .i64 O.At.X),.im (.int .i64 O.At.Y),.im (.int .i64 O.Tile)]))],2⟩,?_,by simp[ZG],by simp,?_⟩
   .simp only[Aq];simp only[ZA,simprocAttr,Bs];rw[z];rfl
   .simp only[ZA,simprocAttr]
  .simp only[ZA,simprocAttr,Dv.c,J5];refine AB.os out [3] trivial (λj=> ?_) rfl rfl ?_ ?_
   .simp only[Ak,rvO.H0,hget];by_cases Q:j=0
    .subst Q;simp
    .have:(0==j)=false:=by simpa using λh=>Q h.symm
     rw[this];simp;omega
   .simp only[ZA,simprocAttr,Ec,rvO.ca,rvO.H0,CL,Ef]
    try exact⟨rfl,rfl⟩
   simp only[ZA,simprocAttr,FK,Ec,rvO.H1,Br,Ef,Ht];refine⟨[],[(1,some 3)],⟨[(2,.own 1)],[(1,(true,.arr 58 3 ((PU a).map A9.c))),(0,(true,.cells 135 [.im (.sl false 3 (a.A.Tiles.map Aj.c)),.im (J5 a.Up),.im (.int .i64 a.By.At.X),.im (.int .i64 a.By.At.Y),.im (.int .i64 a.By.Tile)]))],2⟩,?_,by simp[ZG],by simp,?_⟩
   .simp only[Aq];simp only[ZA,simprocAttr,Bs];rw[z];rfl
   .simp only[ZA,simprocAttr]
 |cons p r=>
  obtain⟨pA,pB⟩:=p;simp only[Cv] at Z;simp only[Dv.ch,R6] at z;rcases q1 with ⟨rfl,e⟩|rfl
  .subst e;simp only[ZA,simprocAttr,Ec,Dv.c,J5];refine⟨by omega,⟨(.im (.ref (Dv.c ⟨pA,r,pB⟩)),⟨pA,r,pB⟩,out++[O]),.inr rfl,by simp only[C9,Cv,FA] at Z⊢;omega,by simp only[Dv.ch,EK,Zfg] at z⊢;exact z⟩,[(3,some 5)],by simp only;omega,?_⟩;simp only[Aq];simp only[ZA,simprocAttr,Bs,Dv.c];rw[ES];rfl
  .simp only[ZA,simprocAttr,Ec,Dv.c,J5];refine⟨by omega,⟨(.im (.ref (Dv.c ⟨pA,r,pB⟩)),⟨pA,r,pB⟩,out++[O]),.inr rfl,by simp only[C9,Cv,FA] at Z⊢;omega,by simp only[Dv.ch,EK,Zfg] at z⊢;exact z⟩,[(3,some 5)],by simp only;omega,?_⟩;simp only[Aq];simp only[ZA,simprocAttr,Bs,Dv.c];rw[ES];rfl
end Go.Ae
namespace Go.Ae
open Go.Proofs
def J6(W:List Bc):Nat->Int->List (Ad×A9)
 |0,_=>[]
 |n+1,i=>if i<0 then [] else match W[i.toNat]? with
  |some f=>(f.A,f.By)::J6 W n f.From
  |none=>[]
def Cl(W:List Bc)(f:Bc):Dv:=⟨f.A,J6 W (f.From.toNat+1) f.From,f.By⟩
def sO{W:List Bc}(h:E8 W): ∀(n m:Nat) (i:Int),i.toNat<n->i.toNat<m->J6 W n i=J6 W m i
 |0,_,_,z,_=>by omega
 |_+1,0,_,_,O=>by omega
 |n+1,m+1,i,z,O=>by
  simp only[J6];split
  .rfl
  .rename_i Q;cases hf:W[i.toNat]? with
   |none=>rfl
   |some f=>
    have:=h _ f hf
    simp only;by_cases c:f.From<0
    .cases n<;>cases m<;>simp only[J6,Ai c]
    .rw[sO h n m f.From (by omega) (by omega)]
def eA{W:List Bc}(h:E8 W)(E:List Bc): ∀(n:Nat) (i:Int),i<W.length->J6 (W++E) n i=J6 W n i
 |0,_,_=>rfl
 |n+1,i,z=>by
  simp only[J6];split
  .rfl
  .rename_i hn;rw[Dj (by omega)];cases hf:W[i.toNat]? with
   |none=>rfl
   |some f=>
    have:=h _ f hf
    simp only;rw[eA h E n f.From (by omega)]
def sG{W:List Bc}(h:E8 W)(E:List Bc){j:Nat}{f:Bc}(hf:W[j]? =some f):Cl (W++E) f=Cl W f:=by
 have z:=h j f hf;have O:=(BW.1 hf).1;simp only[Cl];rw[eA h E _ _ (by omega)]
def PS{W:List Bc}(h:E8 W)(E:List Bc):W.map (Cl (W++E))=W.map (Cl W):=by
 refine JJ λf hf=> ?_
 obtain⟨j,z⟩:=JK.1 hf;exact sG h E z
def sK{W:List Bc}(h:E8 W){j:Nat}{f:Bc}(hf:W[j]? =some f):J6 W (j+1) j=(Cl W f).ch:=by
 have z:=h j f hf;simp only[J6,B8];rw[Af (by omega),hf];simp only[Dv.ch,Cl];by_cases c:f.From<0
 .rw[show f.From.toNat+1=1 by omega];cases j<;>simp only[J6,Ai c]
 .rw[sO h j (f.From.toNat+1) f.From (by omega) (by omega)]
def sH{W:List Bc}(h:E8 W): ∀(n j:Nat) (f:Bc) (out:List A9),W[j]? =some f->j<n->PX W n j out=(R6 (Cl W f).ch).reverse++out
 |0,_,_,_,_,hn=>by omega
 |n+1,j,f,out,hf,hn=>by
  have Q:=h j f hf;have Z:=(BW.1 hf).1;simp only[PX,hf];split
  .rename_i hp;obtain⟨g,hg⟩: ∃g,W[f.From.toNat]? =some g:=⟨_,Bi (by omega)⟩;rw[sH h n f.From.toNat g _ hg (by omega)];have z:=sK h hg;rw[show ((f.From.toNat:Nat):Int)=f.From by omega] at z;have e:(Cl W f).ch=(f.A,f.By)::(Cl W g).ch:=by
    simp only[Dv.ch] at z⊢;rw[<-z];rfl
   rw[e];have O:R6 ((f.A,f.By)::(Cl W g).ch)=f.By::R6 (Cl W g).ch:=rfl;rw[O,List.reverse_cons,EK];rfl
  .rename_i hp
   have:(Cl W f).ch=[(f.A,f.By)]:=by
    simp only[Dv.ch,Cl,J6];rw[Ai (by omega)]
   rw[this];rfl
def lC{W:List Bc}(h:E8 W){j:Nat}{f:Bc}(hf:W[j]? =some f)(a:Ad)(o:A9):PU ⟨a,(Cl W f).ch,o⟩=Zx W j o:=by
 simp only[Zx,B8];rw[sH h _ j f _ hf (by omega)];have e:R6 (Dv.ch ⟨a,(Cl W f).ch,o⟩)=o::R6 (Cl W f).ch:=rfl;rw[PU,e,List.reverse_cons]
def PT{W:List Bc}(h:E8 W){j:Nat}{f:Bc}(hf:W[j]? =some f)(a:Ad)(o:A9):Cl (W++[⟨a,j,o⟩]) ⟨a,j,o⟩=⟨a,(Cl W f).ch,o⟩:=by
 have z:=(BW.1 hf).1;simp only[Cl,B8];rw[eA h _ _ _ (by omega),sK h hf];rfl
def Ns{W:List Bc}: ∀(n:Nat) (i:Int),(J6 W n i).length<=n
 |0,_=>by simp[J6]
 |n+1,i=>by
  simp only[J6];split
  .simp
  .split
   .have:=Ns (W:=W) n
    simp only[Cv]
    have:=this (by assumption:Bc).From
    omega
   .simp
end Go.Ae
namespace Go.Ae
end Go.Ae
namespace Go.Ae
open Go.Proofs
def Ow{s:AM}{b:Ad}{o:A9}(h:C6 s b o=true):DA o.At=true/\HE o.At/\0<=o.Tile/\o.Tile<s.Set.Tiles.length/\FX s.Set o.Tile/\(∀x∈b.Tiles,x.At≠o.At):=by
 simp only[C6,AN,Bq] at h;obtain⟨O,z,Q,_⟩:=h;simp only[AX,AN,Bq] at z;exact⟨O,Qi O,z.1,by omega,⟨z.1,by omega⟩,Qma Q⟩
end Go.Ae
namespace Go.Ae
open Go.Proofs Go.Sort Go.Shelf
instance:Inhabited Ac:=⟨⟨0,0⟩⟩
def CZ(x:Ac):List Value:=[.int .i64 x.X,.int .i64 x.Y]
def cfQ(x y:Ac):Int:=IC (x.X,x.Y) (y.X,y.Y)
def Wt(x y:Ac):ltOf cfQ x y=Bl x y:=by
 simp only[ltOf,cfQ,IC,Lib.compareInt,Bl]
 grind
def swoQ:SWO (ltOf cfQ) where
 irrefl x:=by rw[Wt];simp only[Bl];grind
 trans x y z h1 h2:=by rw[Wt] at*;simp only[Bl] at*;grind
 ntrans x y z h1 h2:=by rw[Wt] at*;simp only[Bl] at*;grind
def dO{l:List Ac}(hd:l.Nodup):(Cd l).Perm l:=(ZeA (KF (NN l)) hd).2 λ_=>Ki
def Qamw{l l':List Ac}(hd:l.Nodup)(hp:l'.Perm l)(hs:l'.Pairwise (λa b=>Bl b a=false)):l'=Cd l:=by
 refine dL ?_ (NN l) (λq=>by rw[Ki,hp.mem_iff]);have hn:l'.Nodup:=hp.nodup_iff.2 hd;refine ZeO (λ{a b} h=> ?_) (List.pairwise_and_iff.2 ⟨hs,hn⟩);exact qV h.1 λe=>h.2 e.symm
def P9{l:List Ac}(hd:l.Nodup):(Cd l).length=l.length:=(dO hd).length_eq
def Sl(l:List Ac):List Value:=l.flatMap CZ
def LO(l:List Ac):(Sl l).length=l.length*2:=by
 induction l with
 |nil=>rfl
 |cons x r ih=>simp only[Sl,F3,C9,Cv] at ih⊢;rw[ih];simp[CZ];omega
def dR{ok:Nat->Prop}{hp:Nat->Option Obj}: ∀(l:List Ac) (L:List Value),rdr ok hp 2 (l.map Ac.c) L↔ ∃r,L=Sl l++r
 |[],L=>by simp[rdr,Sl]
 |x::r,L=>by
  simp only[Bf,rdr,dR r,Ac.c,rdp,rd,Sl,F3];constructor
  .rintro⟨_,⟨v,z,rfl,rfl,Q,O,rfl,rfl,_⟩,q,hq⟩;exact⟨q,by simp only[Lu,F8] at hq;rw[hq];rfl⟩
  .rintro⟨q,rfl⟩;exact⟨rfl,⟨_,_,rfl,rfl,_,_,rfl,rfl,trivial⟩,q,rfl⟩
def LN: ∀(l:List Ac) (t:Nat),t<l.length*2->(Sl l)[t]? =some ((CZ (l[t/2]?.getD default))[t % 2]!)
 |[],t,h=>by simp at h
 |x::r,t,h=>by
  by_cases Q:t<2
  .have:t=0\/t=1:=by omega
   rcases this with rfl|rfl<;>simp[Sl,CZ]
  .obtain⟨u,rfl⟩: ∃u,t=u+2:=⟨t - 2,by omega⟩;have z:(u+2)/2=u/2+1:=by omega
   have O:(u+2) % 2=u % 2:=by omega
   have ih:=LN r u (by simp at h;omega);rw[z,O,Ir,<-ih];simp[Sl,CZ]
def rN(l:List Ac):(flatK CZ 2 l.toArray).toList=Sl l:=by
 apply Io;intro t;by_cases z:t<l.length*2
 .rw[LN l t z];have O:t<(flatK CZ 2 l.toArray).size:=by simp only[size_flatK,Ky];exact z
  have Q:=get_flatK CZ 2 l.toArray t (by simpa using z);rw[Gd,GY O,<-getElem!_pos (flatK CZ 2 l.toArray) t O,Q];congr 3;simp[getElem!_def];cases l[t/2]? <;>rfl
 .have a1:(flatK CZ 2 l.toArray).toList.length<=t:=by rw[Dg,size_flatK,Ky];omega
  have a2:(Sl l).length<=t:=by rw[LO];omega
  rw[E9 a1,E9 a2]
def srtQ.ca(_:List Ac):List AV:=[.own 0,.im (.fn 106 [] [])]
def srtQ.H0(a:List Ac):Ap:=[(0,(true,.arr 56 2 (a.map Ac.c)))]
def srtQ.H1(a:List Ac):Ap:=[(0,(true,.arr 56 2 ((Cd a).map Ac.c)))]
def srtQ.row:A7:=AB srtQ.ca srtQ.H0 1 (λa=>a.Nodup) (λ_=>true) (λ_=> .im (.tup [])) srtQ.H1 0
def srtQ.ok:AC 152 srtQ.row:=by
 rintro args h nx K ⟨a,τ,U,KL,ak,rfl,Q,hN,hK⟩;refine⟨Lp (by kernel_rfl),_,_,?_,hK⟩;intro C S vs R hW ba bc bd ab ay;have au:BE τ 1 nx 0=τ 0:=Ai (by omega);simp only[srtQ.ca,AH,AV.ren,au,AJ,Aa,rd,rdl] at ab;obtain⟨v0,r0,hv,⟨af,aj⟩,v1,r1,bj,⟨ac,cc,bm,am,an⟩,bl⟩:=ab;have am:ac= #[]:=by apply Ix;simpa using am
 have an:cc= #[]:=by apply Ix;simpa using an
 subst am an bl bj bm;have hvs:vs= #[v0,.func (VK 106) #[] #[]]:=by apply Ix;simpa using hv
 subst hvs;have hm:h (τ 0)=some (true,.arr 56 2 (a.map Ac.c)):=by
  have:=Q.1
  rwa [au] at this
 have ax:Ak (srtQ.H0 a) 0=true:=rfl;have Z:S.h (τ 0)=some (true,.arr 56 2 (a.map Ac.c)):=by
  rw[ba (τ 0) (GZ _ (hN.u 0 ax)),hm]
 have az: ∀n,n∈KL↔n=τ 0:=by
  intro n;constructor
  .intro hn;obtain⟨j,h1,_,h3⟩:=hN.k1 n hn
   have:j=0:=by
    simp only[Ak,srtQ.H0,hget] at h1;by_cases hj:j=0
    .exact hj
    .have:(0==j)=false:=by simpa using λh=>hj h.symm
     rw[this] at h1;cases h1
   rw[h3,this]
  .rintro rfl;exact hN.k2 0 ax rfl
 obtain⟨m,hmm⟩: ∃m,m=τ 0:=⟨_,rfl⟩;rw[<-hmm] at Z aj az;have av:=P9 ak;have fin: ∀(w':World),Ij S m (.arr 56 2 ((Cd a).map Ac.c)) (S.ρ m) [m] w'->
  (Bv (λn=>S.h m≠none\/n≠m) S (S.one m (.arr 56 2 ((Cd a).map Ac.c)) (S.ρ m) [m] w')->An (S.one m (.arr 56 2 ((Cd a).map Ac.c)) (S.ρ m) [m] w') (S.ρ m) (.arr 56 2 ((Cd a).map Ac.c)))->R (.returned (.tuple #[])) w':=by
  intro w' af bi;have hp:=WC hW af;refine ay (.tuple #[]) _ (ZY hW af (bi hp)) ?_ ⟨hp.ok,λn _=>hp.nm n (.inl (by rw[Z];simp))⟩ ⟨#[],rfl,rfl⟩;funext n;simp only[Au.one,Bk.appf,srtQ.H1,AS,au,hget,Ab.ren,<-hmm];by_cases hn:n=m
  .subst hn;simp
  .have h1:(m==n)=false:=by simpa using λh=>hn h.symm
   have h2:KL.contains n=false:=by
    rw[<-Gi,FO,az];exact hn
   simp only[h1,Bm,h2,hn,Cr,Bz]
 have z:=aj _ Z;have aa:=hW.obj _ _ Z;have a8:=λO=>hW.loc m _ O Z
 cases hρ:S.ρ m with
 |none=>
  rw[hρ] at z aa;simp only[An] at aa;have ha:a=[]:=by simpa using aa.2
  subst ha;simp only at z;rw[z,WU (by decide)];refine (AnyF.slices_SortFunc_none Tryz.sortPt none 0 (.func (.func 106) #[] #[]) S.w).mono ?_;rintro e w' ⟨rfl,rfl⟩;refine fin S.w (cG Z (λl hl=>by rw[hρ] at hl;cases hl) rfl rfl) (λ_=> ?_);rw[hρ];exact⟨CC _,rfl⟩
 |some O=>
  rw[hρ] at z aa;simp only[An,Ab.len] at aa z;obtain⟨g1,g2,cv,g3,g4,g5⟩:=aa;obtain⟨aq,bo⟩:=a8 O hρ;rw[dR] at g5;obtain⟨bb,g5⟩:=g5;simp only[Fc] at g1 g2 z;have Q:S.w.heap[O.b]? =some (.cells cv 56 (0,0)):=g3;have bn:O.p+a.length*2<=cv.size:=by omega
  have hF:(flatK CZ 2 a.toArray).size=a.length*2:=by simp
  have hget: ∀j,j<a.length*2->cv[O.p+j]? =some ((flatK CZ 2 a.toArray)[j]!):=by
   intro j hj;have h1:(cv.toList.drop O.p)[j]? =(Sl a++bb)[j]? :=by rw[g5]
   rw[EQ,Gd,Dj (by rw[LO];exact hj),<-rN,Gd] at h1;rw[h1,GY (by rw[hF];exact hj),getElem!_pos _ _ (by rw[hF];exact hj)]
  have hH:HoldsK CZ 2 S.w O.b O.p a.toArray:=by
   intro j hj;rw[hF] at hj;refine⟨?_,?_⟩
   .simp only[World.cell?,Q,Rk,CE,Cr,id];exact hget j hj
   .simp only[World.frozen?,Q];simp
  have hc:=AnyQ.slices_SortFunc Tryz.sortPt 2 Tryz.isAgg56 Tryz.sizeOf56 CZ (λ_=>rfl) (λx v hv=>by simp[CZ] at hv;rcases hv with rfl|rfl<;>rfl) cfQ swoQ 106 #[] O.b O.p O.cap a.toArray S.w
   (Qhx (Lp (by kernel_rfl))) (λm os dk hs x y=>Tryz.cmpPoints _ _ _ _ _) hH aq (by simp only[Ky,Hy] at g1⊢;omega)
  rw[z,WU (by decide)];refine hc.mono ?_;rintro e w' ⟨rfl,d',n,os,ag,aw,rfl⟩;have a9:d'.size=a.length:=ag.1;have bg:d'.toList=Cd a:=by
   refine Qamw ak ?_ ?_
   .have:=ag.2.2
    rwa [show d'.extract 0 a.toArray.size=d' by rw[Ky,<-a9];exact ZdU,show a.toArray.extract 0 a.toArray.size=a.toArray from ZdU] at this
   .rw[Zdm];intro i j hi hj bh
    have:=aw i j (CC _) bh (by rw[Ky,<-a9];simpa using hj)
    rw[Wt,getElem!_pos d' i (by simpa using hi),getElem!_pos d' j (by simpa using hj)] at this;simpa using this
  obtain rfl:d'=(Cd a).toArray:=by apply Ix;rw[bg]
  have ai:(flatK CZ 2 (Cd a).toArray).size=a.length*2:=by simp[av]
  have ao:(flatK CZ 2 (Cd a).toArray).toList.length=a.length*2:=by rw[Dg,ai]
  have ah:S.w.heap.size<=(sortWorldK CZ 2 S.w O.b O.p n (Cd a).toArray os).heap.size:=by
   simp[sortWorldK,grow,putRowK,Sort.ahead]
  have hb: ∀b,b<S.w.heap.size->(sortWorldK CZ 2 S.w O.b O.p n (Cd a).toArray os).heap[b]? =if O.b=b then S.w.heap[b]?.map (onCells (putCells id O.p (flatK CZ 2 (Cd a).toArray))) else S.w.heap[b]? :=by
   intro b hb;have e0:b<(putRowK CZ 2 (Sort.ahead S.w n) O.b O.p (Cd a).toArray).heap.size:=by simpa[putRowK,Sort.ahead] using hb
   simp only[sortWorldK,grow];rw[ZdI e0];simp only[putRowK,putRow,mapBlock,Sort.ahead,gN]
  refine fin _ ⟨rfl,rfl,rfl,ah,?_,.inl (by simp),?_,?_,?_⟩ ?_
  .intro b be bf;rw[hb b be,Af (bf m _ O (by simp) Z hρ)]
  .intro lo a0;rw[hρ] at a0;obtain rfl:=Ay a0;exact⟨EJ aq ah,.inr ⟨m,_,O,by simp,Z,hρ,rfl⟩⟩
  .intro f hf;rw[Z] at hf;obtain rfl:=Ay hf;exact⟨rfl,rfl,by simp[Ab.len,av]⟩
  .intro n' f _ ad;rw[Z] at ad;cases ad
  .intro _;rw[hρ];simp only[An,Fc,av];refine⟨g1,g2,putCells id O.p (flatK CZ 2 (Cd a).toArray) cv,?_,by simpa[putCells] using g4,?_⟩
   .simp only[Au.one,Au.hp];rw[hb O.b aq,Ai rfl,Q];rfl
   .rw[dR];refine⟨(cv.toList.drop (O.p+a.length*2)),?_⟩;apply Io;intro t;rw[EQ,Gd,putCells,Zfa,ai,<-rN];by_cases ht:t<a.length*2
    .rw[Dj (by rw[ao];exact ht),Gd,GY (show O.p+t<cv.size by omega),GY (by rw[ai];exact ht)];simp only[D3,id];rw[Ai ⟨by omega,by omega⟩,wN,getElem!_pos _ _ (by rw[ai];exact ht)]
    .rw[E3 (by rw[ao];omega),ao,EQ,Gd,show O.p+a.length*2+(t - a.length*2)=O.p+t by omega];cases cv[O.p+t]? with
     |none=>rfl
     |some x=>simp only[D3];rw[Af (by omega)]
end Go.Ae
namespace Go.Ae
open Go.Proofs
def X4(op:List (Ac×List Int)):Nat:=(op.map λq=>q.2.length).sum
def KE{β:Type}: ∀{l:List (Ac×β)} {q:Ac×β},(l.map Prod.fst).Nodup->q∈l->Bx l q.1=some q.2
 |x::r,q,hn,hq=>by
  obtain⟨p,v⟩:=x;rw[Bf,Ly] at hn;simp only[Bx];rcases Bh.1 hq with rfl|hq
  .rw[Ai rfl]
  .have:q.1≠p:=λe=>hn.1 (by rw[<-e];exact Bo.2 ⟨q,hq,rfl⟩)
   rw[Af this];exact KE hn.2 hq
def rC{g:Ac->List Int}: ∀(l:List Ac),(C5 g l).length=(l.map λp=>(g p).length).sum
 |[]=>rfl
 |p::r=>by
  have:=rC (g:=g) r
  simp only[C5] at this;simp only[C5,F3,C9,Fc,Bf,Lz,this]
def OW{op:List (Ac×List Int)}(h:(op.map Prod.fst).Nodup):(GG op).length=X4 op:=by
 rw[GG,rC,((dO h).map _).sum_nat,Lw];congr 1;refine JJ λq hq=> ?_
 simp only[Function.comp,KE h hq,AP]
def RE: ∀{l:List (Ac×List Int)},(∀q∈l,q.2≠[])->l.length<=X4 l
 |[],_=>CC _
 |x::r,h=>by
  have O:0<x.2.length:=gD.2 (h x (BM ..));have z:=RE λq hq=>h q (BP x hq)
  simp only[X4,Bf,Lz,Cv] at z⊢;omega
def dM(s:AM){b:Ad}(Q:b.Tiles.length<=500)(Z:s.Set.Tiles.length<=160):(EM s b).length<=320000:=by
 have z:=Wp (g:=λp=>Gj s (BG b) p s.Set.Tiles.length) (m:=160) (λp=>DH (Wr s (BG b) p _) (by omega)) (C4 b b.Tiles.length);have h8:=Wm b b.Tiles.length;have O:(C4 b b.Tiles.length).length*160<=2000*160:=HI _ (by omega);exact DH z O
def jO{s:AM}{b:Ad}{op:List (Ac×List Int)}(hT:1<=s.Temperature)(h1:b.Tiles.length<=500)(h2:s.Set.Tiles.length<=160)(O:N4 s (BG b) op):
 GG op=EM s b/\((op.map Prod.fst).Nodup/\op.length<=1000000/\ ∀q∈op,q.2.length<=1000)/\(GG op).length<=320000:=by
 have z:=T9 hT O;have Q:=OW O.1;rw[z] at Q;have Z: ∀q∈op,q.2=Eo s (BG b) q.1/\q.2≠[]:=λq hq=>by
  have h5:=KE O.1 hq;rw[O.2,FE] at h5;split at h5
  .cases h5
  .rename_i c;have h6:=Ay h5;exact⟨h6.symm,by rw[<-h6];exact c⟩
 have h6:op.length<=X4 op:=RE λq hq=>(Z q hq).2
 have h7:=dM s h1 h2;refine⟨z,⟨O.1,by omega,λq hq=> ?_⟩,by rw[z];exact h7⟩;rw[(Z q hq).1];exact DH (Qus s _ _ _) (by omega)
def TO(b:Ad)(p:Ac)(t:Int):(Cg b p t).Tiles.length=b.Tiles.length+1:=by
 rw[Ra];rw[(uL ⟨p,t⟩ b.Tiles).length_eq,Cv]
def Mx{s:AM}{b:Ad}(Z:Il s.Set b){o:A9}(h:o∈EM s b):C6 s b o=true:=by
 rw[EM,C5,Zej] at h;obtain⟨p,hp,h⟩:=h;obtain⟨t,ht,rfl⟩:=Bo.1 h;rw[QG _ (AL _)] at hp;obtain⟨⟨O,Q⟩,_⟩:=hp;have z: ∀n,t∈Gj s (BG b) p n->0<=t/\t<n/\s.Temperature<=Gb s.Set (BG b) p t 4:=by
  intro n;induction n with
  |zero=>intro h;simp[Gj] at h
  |succ n ih=>
   intro h;simp only[Gj,Bn] at h;rcases h with h|h
   .have:=ih h;exact⟨this.1,by omega,this.2.2⟩
   .split at h
    .rename_i c;simp only[Bz] at h;subst h;exact⟨by omega,by omega,c⟩
    .cases h
 obtain⟨k1,k2,k3⟩:=z _ ht;show C6 s b ⟨p,t⟩=true;simp only[C6,AX,AN,Bq];exact⟨O,⟨k1,by omega⟩,(QH Z.2 p).2 Q,by rw[<-cM];exact k3⟩
section
variable (m:AE)(x g:Ad)(most:Int)
def JT(j:Nat)(f:Bc)(K:List Bc->List A9×Int):List A9->List Bc->List A9×Int
 |[],W=>K W
 |o::r,W=>
  if 500<=f.A.Tiles.length then ([],4)
  else if (BD m (Cg f.A o.At o.Tile)).2=true/\(BD m (Cg f.A o.At o.Tile)).1=g then (Zx W j o,0)
  else if (BD m (Cg f.A o.At o.Tile)).2=false\/(BD m (Cg f.A o.At o.Tile)).1≠x then JT j f K r W
  else if Cg f.A o.At o.Tile∈W.map Bc.A then JT j f K r W
  else if most<W.length+1 then ([],4)
  else JT j f K r (W++[⟨Cg f.A o.At o.Tile,j,o⟩])
def Jy:Nat->Nat->List Bc->List A9×Int
 |0,_,_=>([],3)
 |n+1,j,W=>match W[j]? with
  |none=>([],3)
  |some f=>JT m x g most j f (Jy n (j+1)) (EM m.Big f.A) W
end
def FI(m:AE)(a:Ad)(o:A9)(most:Int):List A9×Int:=
 if (BD m a).2=false then ([],7)
 else if C6 m.Small (BD m a).1 o=false then ([],5)
 else Jy m (BD m a).1 (Cg (BD m a).1 o.At o.Tile) most 401 0 [⟨a,-1,o0⟩]
structure zF(m:AE)(most:Int)(W:List Bc)(L:List Ad):Prop where
 ok: ∀f∈W,D1 m.Big.Set f.A=true
 back:E8 W
 pos:1<=W.length
 len:(W.length:Int)<=most
 srt:GH L
 mem: ∀a,a∈L↔a∈W.map Bc.A
 lenL:L.length<=W.length
def Wz{m:AE}(h:Fk m=true):GV m.Big=true:=by
 simp only[Fk,AN] at h;exact h.1
def eE{s:AM}(h:GV s=true):DT s.Set=true:=(cF h).2.1
def UB{m:AE}{x g:Ad}{most:Int}{W:List Bc}{j:Nat}{f:Bc}(h:W[j]? =some f)(z:j<=400):Jy m x g most (401 - j) j W=JT m x g most j f (Jy m x g most (400 - j) (j+1)) (EM m.Big f.A) W:=by
 obtain⟨n,hn⟩: ∃n,401 - j=n+1:=⟨400 - j,by omega⟩;rw[hn,show 400 - j=n by omega,Jy,h]
def MW{m:AE}{x g:Ad}{most:Int}{W:List Bc}{j:Nat}(h:W[j]? =none): ∀n,Jy m x g most n j W=([],3)
 |0=>rfl
 |n+1=>by rw[Jy,h]
def rlz_.fv(a:AE×Ad×A9×Int):(List A9)×Int:=(FI) (a.1) (a.2.1) (a.2.2.1) (a.2.2.2)
def rlz_.row:A7:=vK (b4 (qP 10 AE.d_le) (qP 1 Ad.d_le) (qR A9.d_le) qI) (r2 (rS A9.d_le A9.c_n) rI) (λa=>Fk a.1=true/\D1 a.1.Big.Set a.2.1=true/\1<=a.2.2.2/\a.2.2.2<=400) rlz_.fv
def rlz_.q:=AY (R:=rlz_.row) rfl
def nA:=J @l32Represent.q<|J @l32Represent.fv.eq_1<|J @l03Same.q<|J @l03Same.fv.eq_1<|J @wyS_.q @wyS_.fv.eq_1
def rlz_.ok:AC 23 rlz_.row:=by
 refine vw (tC l32Represent.ok (tC l08Can.ok (tC l03Put.ok (tC l03Own.ok (tC opsS_.ok (tC l08Attach.ok (tC l03Same.ok (tC wyS_.ok (tC pu_.ok tN))))))))) Tryz.func23 ?_;intro a Q;simp only[Tryz.f23];simp only[ZA,simprocAttr,Ad.d,nA,rlz_.fv,l08Can.q,l08Can.fv,l03Put.q,l03Put.fv,l03Own.q,l03Own.fv];obtain⟨m,a,o,most⟩:=a;obtain⟨h1,h2,h3,h4⟩:=Q;simp only at h1 h2 h3 h4⊢;have am:=sQ h1 h2;refine⟨am,?_⟩;have a0:=Qr0 am;have aw:=MG h1 h2;obtain⟨X,hX⟩: ∃X,X=(BD m a).1:=⟨_,rfl⟩;have ay:X.Tiles.length<=500:=by have:=(Kj h2).2;rw[hX];omega
 by_cases c1:(BD m a).2=false
 .rw[Ai c1];simp only[FI];rw[Ai c1]
 rw[Af c1];refine⟨⟨sV (tR h1),aw⟩,?_⟩;rw[AO];refine⟨λc2=> ?_,λc2=> ?_⟩
 .have c2:C6 m.Small (BD m a).1 o=false:=c2;simp only[FI];rw[Af c1,Ai c2]
 have c2: ¬C6 m.Small (BD m a).1 o=false:=c2;have az:=(Kj h2).2;refine⟨by omega,by omega,by omega,?_⟩;rw[<-hX];have hR:FI m a o most=Jy m X (Cg X o.At o.Tile) most 401 0 [⟨a,-1,o0⟩]:=by
  simp only[FI];rw[Af c1,Af c2,hX]
 obtain⟨G,hG⟩: ∃G,G=Cg X o.At o.Tile:=⟨_,rfl⟩;rw[hR,<-hG];obtain⟨R,hRR⟩: ∃R,R=Jy m X G most 401 0 [⟨a,-1,o0⟩]:=⟨_,rfl⟩;rw[<-hRR];have aq:zF m most [⟨a,-1,o0⟩] [a]:=by
  refine⟨λf hf=>by rw[Bz.1 hf];exact h2,λj f hf=> ?_,by simp,by simpa using h3,by simp[GH],λb=>by simp,by simp⟩;cases j with
  |zero=>simp at hf;rw[<-hf];simp only;omega
  |succ j=>simp at hf
 refine AT.ren ⟨{q:Nat×List Bc×List Ad//q.1<=q.2.1.length/\zF m most q.2.1 q.2.2/\Jy m X G most (401 - q.1) q.1 q.2.1=R},λq=>⟨[(15,.im (.int .i64 q.1.1)),(14,.own 9),(13,.own 8),(12,.ptr 5 0),(10,.ptr 4 0),(0,.ptr 0 0),(3,.im (.int .i64 most))],[(9,(true,.arr 49 1 (q.1.2.2.map Ad.c))),(8,(true,.arr 104 5 (q.1.2.1.map Bc.c))),(5,(true,.cells 49 [.im (.sl false 3 (G.Tiles.map Aj.c))])),(4,(true,.cells 49 [.im (.sl false 3 (X.Tiles.map Aj.c))])),(0,(false,.view (AE.c m))),(1,(false,.view (Ad.c a)))],10⟩,λq=>401 - q.1.1,λq=>⟨by simp[ZG],by simp⟩,⟨⟨(0,[⟨a,-1,o0⟩],[a]),CC _,aq,hRR.symm⟩,[(8,some 6),(9,some 7)],?_⟩,λq=> ?_⟩
 .simp only[Aq];simp only[ZA,simprocAttr,Bs];rfl
 obtain⟨⟨j,W,L⟩,q1,q2,q3⟩:=q;simp only at q1 q2 q3;obtain⟨g1,g2,g3,g4,g5,g6,g7⟩:=q2;simp only[ZA,simprocAttr,opsS_.q,opsS_.fv,AO];refine λ_=>⟨λc3=>⟨c3,?_⟩,λc3=> ?_⟩
 rotate_left
 .rw[MW (E9 (by omega))] at q3;exact q3
 obtain⟨f,hf⟩: ∃f,W[j]? =some f:=⟨_,Bi c3⟩;simp only[ZA,simprocAttr,Ad.d,Bc.c,CM,hf];have ao:=AZ hf;have aj:=g1 f ao;have ad:=Kj aj;have ag:=cF (Wz h1);refine⟨⟨ag.1.1,ad.1,ad.2,by have:=ag.1.2.2.1;omega⟩,?_⟩;rw[UB hf (by omega)] at q3;have av:=dM m.Big ad.2 ag.1.2.2.1;have ak: ∀p∈EM m.Big f.A,C6 m.Big f.A p=true:=λp hp=>Mx ad.1 hp
 obtain⟨os,hos⟩: ∃os,os=EM m.Big f.A:=⟨_,rfl⟩;rw[<-hos] at av ak q3⊢;refine AT.ren ⟨{q:Nat×List Bc×List Ad//q.1<=os.length/\(zF m most q.2.1 q.2.2/\W.length<=q.2.1.length/\q.2.1[j]? =some f)/\JT m X G most j f (Jy m X G most (400 - j) (j+1)) (os.drop q.1) q.2.1=R},λq=>⟨[(17,.im (.int .i64 q.1.1)),(16,.im (.sl false 3 (os.map A9.c))),(15,.im (.int .i64 j)),(14,.own 11),(13,.own 10),(12,.ptr 5 0),(10,.ptr 4 0),(0,.ptr 0 0),(3,.im (.int .i64 most))],[(11,(true,.arr 49 1 (q.1.2.2.map Ad.c))),(10,(true,.arr 104 5 (q.1.2.1.map Bc.c))),(5,(true,.cells 49 [.im (.sl false 3 (G.Tiles.map Aj.c))])),(4,(true,.cells 49 [.im (.sl false 3 (X.Tiles.map Aj.c))])),(0,(false,.view (AE.c m))),(1,(false,.view (Ad.c a)))],12⟩,λq=>os.length - q.1.1,λq=>⟨by simp[ZG],by simp⟩,⟨⟨(0,W,L),CC _,⟨⟨g1,g2,g3,g4,g5,g6,g7⟩,AL _,hf⟩,q3⟩,[(10,some 8),(11,some 9)],?_⟩,λq=> ?_⟩
 .simp only[Aq];simp only[ZA,simprocAttr,Bs]
 obtain⟨⟨k,V,M⟩,r1,⟨r2,r3,r4⟩,O⟩:=q;simp only at r1 r2 r3 r4 O;obtain⟨k1,k2,k3,k4,k5,k6,k7⟩:=r2;simp only[ZA,simprocAttr,l08Attach.q,l08Attach.fv,AO];refine λ_=>⟨λc4=>⟨by omega,c4,λp hp=> ?_⟩,λc4=> ?_⟩
 rotate_left
 .rw[CS (by omega),JT] at O;refine⟨⟨(j+1,V,M),by simp only;omega,⟨k1,k2,k3,k4,k5,k6,k7⟩,by simp only;rw[show 401 - (j+1)=400 - j by omega];exact O⟩,[(8,some 10),(9,some 11)],by simp only;omega,?_⟩;simp only[Aq];simp only[ZA,simprocAttr,Bs];exact AD (by omega) (by omega)
 rw[F5 hp] at O;have ai:=ak p (AZ hp);by_cases c5:500<=f.A.Tiles.length
 .have z:K0 f.A p=(⟨[]⟩,4):=by simp only[K0];rw[Ai c5]
  rw[JT,Ai c5] at O;simp only[ZA,simprocAttr,Ad.d,C3,nA,AO,Bc.c,CM,r4,z];exact O
 have z:K0 f.A p=(Cg f.A p.At p.Tile,0):=by simp only[K0];rw[Af c5]
 rw[JT,Af c5] at O;have hn:=TQ (eE (Wz h1)) aj ai (by omega);obtain⟨N,hN⟩: ∃N,N=Cg f.A p.At p.Tile:=⟨_,rfl⟩;rw[<-hN] at z hn O;have au:=sQ h1 hn;have af:IntKind.i64.wrap ((k:Int)+1)=((k+1:Nat):Int):=by rw[AD (by omega) (by omega)];rfl
 have ah:zF m most V M:=⟨k1,k2,k3,k4,k5,k6,k7⟩;have Q:(NX m=true/\AX m.Scale 1 4=true/\m.Small.Set.Tiles.length<=160/\D1 m.Big.Set N=true/\m.Labels.length=m.Big.Set.Tiles.length):=au;cases c6:(BD m N).2 with
 |false=>
  rw[Af (λh=>by rw[c6] at h;exact absurd h.1 (by decide)),Ai (.inl c6)] at O;simp only[ZA,simprocAttr,Ad.d,C3,nA,AO,Bc.c,CM,r4,z,c6];refine⟨Q,⟨(k+1,V,M),by simp only;omega,⟨ah,r3,r4⟩,O⟩,[],by simp only;omega,?_⟩;simp only[Aq];simp only[ZA,simprocAttr,Bs,af]
 |true=>
 by_cases c7:(BD m N).1=G
 .rw[Ai ⟨c6,c7⟩] at O;simp only[ZA,simprocAttr,Ad.d,C3,nA,AO,Bc.c,Bc.d_R,CM,r4,z,c6,c7];refine⟨Q,c4,λu hu=>⟨⟨k2,by omega,by omega⟩,?_⟩⟩;obtain rfl:=Ay (hp.symm.trans hu);exact O
 rw[Af (λh=>c7 h.2)] at O;by_cases c8:(BD m N).1=X
 case neg=>
  rw[Ai (.inr c8)] at O;simp only[ZA,simprocAttr,Ad.d,C3,nA,AO,Bc.c,CM,r4,z,c6,c7,c8];refine⟨Q,⟨(k+1,V,M),by simp only;omega,⟨ah,r3,r4⟩,O⟩,[],by simp only;omega,?_⟩;simp only[Aq];simp only[ZA,simprocAttr,Bs,af]
 rw[Af (λh=>h.elim (λh=>by rw[c6] at h;cases h) (λh=>h c8))] at O;have c9: ¬X=G:=λh=>c7 (c8.trans h)
 simp only[ZA,simprocAttr,Ad.d,C3,nA,AO,Bc.c,CM,r4,z,c6,c8,c9];refine⟨Q,?_⟩;refine AB.os (M,N) [11] ⟨k5,by simp only;omega⟩ (λj=> ?_) rfl rfl ?_ ?_
 .simp only[Ak,pu_.H0,hget];by_cases hj:j=0
  .subst hj;simp
  .have:(0==j)=false:=by simpa using λh=>hj h.symm
   rw[this];simp;omega
 .simp only[ZA,simprocAttr,pu_.ca,pu_.H0,CL,Ef]
  try exact⟨rfl,rfl⟩
 by_cases ac:N∈V.map Bc.A
 .have ab:DG M N=(M,false):=by simp only[DG];rw[Ai ((k6 N).2 ac)]
  rw[Ai ac] at O;simp only[ZA,simprocAttr,pu_.H1,pu_.r0,yH,Br,ab,AO];refine λ_=>⟨λh=>by omega,λ_=>⟨⟨(k+1,V,M),by simp only;omega,⟨ah,r3,r4⟩,O⟩,[(11,some 14)],by simp only;omega,?_⟩⟩
  simp only[Aq];simp only[ZA,simprocAttr,Bs,af]
 obtain⟨M',hM'⟩: ∃M',M'=(DG M N).1:=⟨_,rfl⟩;have ab:DG M N=(M',true):=by
  rw[hM'];simp only[DG];rw[Af (λh=>ac ((k6 N).1 h))]
 rw[Af ac] at O;simp only[ZA,simprocAttr,pu_.H1,pu_.r0,yH,Br,ab,AO];refine⟨c4,λu hu=> ?_⟩;obtain rfl:=Ay (hp.symm.trans hu);have an:V.map Bc.c++[[D.sl false 3 (N.Tiles.map Aj.c),D.int .i64 (j:Int),D.int .i64 p.At.X,D.int .i64 p.At.Y,D.int .i64 p.Tile]]=(V++[(⟨N,(j:Int),p⟩:Bc)]).map Bc.c:=by rw[ES];rfl
 rw[an];simp only[Fc,C9,Cv,FA];refine⟨by simp[Ck,BT,D.one],by omega,λ_=>⟨λc=> ?_,λc=> ?_⟩⟩
 .rw[Ai (by omega)] at O;exact O
 rw[Af (by omega)] at O;have aa:(V++[(⟨N,(j:Int),p⟩:Bc)]).length=V.length+1:=by simp
 have ax:zF m most (V++[(⟨N,(j:Int),p⟩:Bc)]) M':=by
  refine⟨λg Z=> ?_,λi g Z=> ?_,by rw[aa];omega,by rw[aa];omega,by rw[hM'];exact Qauj k5 N,λb=> ?_,by rw[hM',aa];have:=Pd M N;omega⟩
  .rcases Bn.1 Z with Z|Z
   .exact k1 g Z
   .rw[Bz.1 Z];exact hn
  .by_cases c:i<V.length
   .rw[Dj c] at Z;exact k2 i g Z
   .have hi:=(BW.1 Z).1;rw[aa] at hi;obtain rfl:i=V.length:=by omega
    rw[E3 (AL _),Gh] at Z;obtain rfl:=Ay Z;simp only;omega
  .rw[hM',Pe,k6,ES,Bn];simp
 refine⟨⟨(k+1,V++[(⟨N,(j:Int),p⟩:Bc)],M'),by simp only;omega,⟨ax,by simp only[aa];omega,by simp only;rw[Dj (by omega)];exact r4⟩,O⟩,[(10,some 35),(11,some 14)],by simp only;omega,?_⟩;simp only[Aq];simp only[ZA,simprocAttr,Bs,af]
def HS(m:AE)(a:Ad)(o:A9)(most:Int):List A9×Int:=
 if Fk m=true/\D1 m.Big.Set a=true then (if AX most 1 400=false then ([],2) else FI m a o most) else ([],1)
def reaS_.fv(a:AE×Ad×A9×Int):(List A9)×Int:=(HS) (a.1) (a.2.1) (a.2.2.1) (a.2.2.2)
def reaS_.row:A7:=vK (b4 (qR AE.d_le) (qR Ad.d_le) (qR A9.d_le) qI) (r2 (rS A9.d_le A9.c_n) rI) (λa=>True) reaS_.fv
def reaS_.q:=AY (R:=reaS_.row) rfl
def reaS_.ok:AC 6 reaS_.row:=by
 refine vw (tC l32Asked.ok (tC l00In.ok (tC rlz_.ok tN))) Tryz.func6 ?_;intro a O;simp only[Tryz.f6];simp only[ZA,simprocAttr,Ad.d,reaS_.fv,l32Asked.q,l32Asked.fv,l00In.q,l00In.fv,rlz_.q,rlz_.fv];obtain⟨m,a,o,n⟩:=a;simp only[HS];by_cases c1:Fk m=true/\D1 m.Big.Set a=true
 case neg=>
  rw[Af c1,Af c1,Ai (by decide)]
 rw[Ai c1,Af (by decide),Ai c1];by_cases z:AX n 1 400=false
 .rw[Ai z,Ai z]
 rw[Af z,Af z];simp only[AX,Im,AN,Bq] at z;exact⟨⟨c1.1,c1.2,z.1,z.2⟩,rfl⟩
def simN_.fv(a:Int):Bool:=(λn=>AX n 1 400) a
def simN_.row:A7:=vK (b1 qI) rB (λa=>True) simN_.fv
def simN_.q:=AY (R:=simN_.row) rfl
def simN_.ok:AC 29 simN_.row:=by
 refine vw (tC within_.ok tN) Tryz.func29 ?_;intro a z;simp only[Tryz.f29];simp only[ZA,simprocAttr,simN_.fv,within_.q,within_.fv]
end Go.Ae
