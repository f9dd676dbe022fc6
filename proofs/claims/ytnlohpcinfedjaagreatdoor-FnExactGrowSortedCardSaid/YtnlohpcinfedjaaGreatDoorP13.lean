/- Lemmas. Conditions: none. -/
import Derived.Test.YtnlohpcinfedjaaGreatDoorP12
import Derived.Shelf.SlSortCmp.WholeK
import Derived.Shelf.SlicesG.Cmp
import Derived.StillTailTactics
import Derived.Lib.Small
import Derived.Lib.Walk
import Derived.Shelf.SlSortCmp.NoneTotal
set_option linter.all false
set_option maxHeartbeats 8000000
set_option maxRecDepth 100000
namespace Go.Proofs
open Go.Shelf
def Tryz.sortPl_ren:Go.Shelf.Ren:=⟨λ|6=>129|15=>160|14=>159|28=>188|29=>166|20=>180|21=>181|22=>182|23=>183|24=>184|25=>185|26=>186|27=>187|46=>197|47=>198|48=>199|49=>200|50=>201|57=>211|n=>n,λ|22=>23|24=>88|25=>191|3=>3|39=>195|0=>0|53=>247|55=>202|4=>4|46=>267|45=>266|50=>156|5=>5|9=>9|66=>279|70=>283|76=>294|77=>295|n=>n,λ|n=>n⟩
def Tryz.sortPl:Go.Proofs.SlLaysF0.n6 Tryz.prog Tryz.sortPl_ren:={
 mixed:=by kernel_rfl
 f6:=⟨Tryz.f129.name,by decide,Tryz.func129.trans (Cl some (by kernel_rfl))⟩
 f14:=⟨Tryz.f159.name,by decide,Tryz.func159.trans (Cl some (by kernel_rfl))⟩
 f15:=Tryz.func160.trans (Cl some (by kernel_rfl))
 f20:=⟨Tryz.f180.name,by decide,Tryz.func180.trans (Cl some (by kernel_rfl))⟩
 f21:=⟨Tryz.f181.name,by decide,Tryz.func181.trans (Cl some (by kernel_rfl))⟩
 f22:=⟨Tryz.f182.name,by decide,Tryz.func182.trans (Cl some (by kernel_rfl))⟩
 f23:=⟨Tryz.f183.name,by decide,Tryz.func183.trans (Cl some (by kernel_rfl))⟩
 f24:=⟨Tryz.f184.name,by decide,Tryz.func184.trans (Cl some (by kernel_rfl))⟩
 f25:=⟨Tryz.f185.name,by decide,Tryz.func185.trans (Cl some (by kernel_rfl))⟩
 f26:=⟨Tryz.f186.name,by decide,Tryz.func186.trans (Cl some (by kernel_rfl))⟩
 f27:=⟨Tryz.f187.name,by decide,Tryz.func187.trans (Cl some (by kernel_rfl))⟩
 f28:=Tryz.func188.trans (Cl some (by kernel_rfl))
 f29:=Tryz.func166.trans (Cl some (by kernel_rfl))
 f46:=⟨Tryz.f197.name,by decide,Tryz.func197.trans (Cl some (by kernel_rfl))⟩
 f47:=Tryz.func198.trans (Cl some (by kernel_rfl))
 f48:=Tryz.func199.trans (Cl some (by kernel_rfl))
 f49:=⟨Tryz.f200.name,by decide,Tryz.func200.trans (Cl some (by kernel_rfl))⟩
 f50:=⟨Tryz.f201.name,by decide,Tryz.func201.trans (Cl some (by kernel_rfl))⟩
 f57:=⟨Tryz.f211.name,by decide,Tryz.func211.trans (Cl some (by kernel_rfl))⟩
 t0:=Tryz.underlying0
 a0:=Tryz.isAgg0
 z0:=Tryz.sizeOf0
 v0:=Tryz.zeroValue0
 t3:=Tryz.underlying3
 a3:=Tryz.isAgg3
 z3:=Tryz.sizeOf3
 v3:=Tryz.zeroValue3
 t4:=Tryz.underlying4
 a4:=Tryz.isAgg4
 z4:=Tryz.sizeOf4
 v4:=Tryz.zeroValue4
 t5:=Tryz.underlying5
 a5:=Tryz.isAgg5
 z5:=Tryz.sizeOf5
 v5:=Tryz.zeroValue5
 t9:=Tryz.underlying9
 a9:=Tryz.isAgg9
 z9:=Tryz.sizeOf9
 v9:=Tryz.zeroValue9
 t22:=Tryz.underlying23
 a22:=Tryz.isAgg23
 z22:=Tryz.sizeOf23
 v22:=Tryz.zeroValue23
 t25:=Tryz.underlying191
 a25:=Tryz.isAgg191
 z25:=Tryz.sizeOf191
 v25:=Tryz.zeroValue191
 t39:=Tryz.underlying195
 a39:=Tryz.isAgg195
 z39:=Tryz.sizeOf195
 v39:=Tryz.zeroValue195
 t45:=Tryz.underlying266
 a45:=Tryz.isAgg266
 z45:=Tryz.sizeOf266
 v45:=Tryz.zeroValue266
 t46:=Tryz.underlying267
 a46:=Tryz.isAgg267
 z46:=Tryz.sizeOf267
 v46:=Tryz.zeroValue267
 t50:=Tryz.underlying156
 a50:=Tryz.isAgg156
 z50:=Tryz.sizeOf156
 v50:=Tryz.zeroValue156
 t53:=Tryz.underlying247
 a53:=Tryz.isAgg247
 z53:=Tryz.sizeOf247
 v53:=Tryz.zeroValue247
 t55:=Tryz.underlying202
 a55:=Tryz.isAgg202
 z55:=Tryz.sizeOf202
 v55:=Tryz.zeroValue202
 t66:=Tryz.underlying279
 a66:=Tryz.isAgg279
 z66:=Tryz.sizeOf279
 v66:=Tryz.zeroValue279
 t70:=Tryz.underlying283
 a70:=Tryz.isAgg283
 z70:=Tryz.sizeOf283
 v70:=Tryz.zeroValue283
 t76:=Tryz.underlying294
 a76:=Tryz.isAgg294
 z76:=Tryz.sizeOf294
 v76:=Tryz.zeroValue294
 t77:=Tryz.underlying295
 a77:=Tryz.isAgg295
 z77:=Tryz.sizeOf295
 v77:=Tryz.zeroValue295}
def Tryz.sortPt_ren:Go.Shelf.Ren:=⟨λ|6=>178|15=>160|14=>196|28=>188|29=>166|20=>203|21=>204|22=>205|23=>206|24=>207|25=>208|26=>209|27=>210|46=>214|47=>198|48=>199|49=>215|50=>216|57=>217|n=>n,λ|22=>132|24=>62|25=>190|3=>3|39=>195|0=>0|53=>247|55=>202|4=>4|46=>267|45=>266|50=>156|5=>5|9=>9|66=>279|70=>283|76=>294|77=>295|n=>n,λ|n=>n⟩
def Tryz.sortPt:Go.Proofs.SlLaysF0.n6 Tryz.prog Tryz.sortPt_ren:={
 mixed:=by kernel_rfl
 f6:=⟨Tryz.f178.name,by decide,Tryz.func178.trans (Cl some (by kernel_rfl))⟩
 f14:=⟨Tryz.f196.name,by decide,Tryz.func196.trans (Cl some (by kernel_rfl))⟩
 f15:=Tryz.func160.trans (Cl some (by kernel_rfl))
 f20:=⟨Tryz.f203.name,by decide,Tryz.func203.trans (Cl some (by kernel_rfl))⟩
 f21:=⟨Tryz.f204.name,by decide,Tryz.func204.trans (Cl some (by kernel_rfl))⟩
 f22:=⟨Tryz.f205.name,by decide,Tryz.func205.trans (Cl some (by kernel_rfl))⟩
 f23:=⟨Tryz.f206.name,by decide,Tryz.func206.trans (Cl some (by kernel_rfl))⟩
 f24:=⟨Tryz.f207.name,by decide,Tryz.func207.trans (Cl some (by kernel_rfl))⟩
 f25:=⟨Tryz.f208.name,by decide,Tryz.func208.trans (Cl some (by kernel_rfl))⟩
 f26:=⟨Tryz.f209.name,by decide,Tryz.func209.trans (Cl some (by kernel_rfl))⟩
 f27:=⟨Tryz.f210.name,by decide,Tryz.func210.trans (Cl some (by kernel_rfl))⟩
 f28:=Tryz.func188.trans (Cl some (by kernel_rfl))
 f29:=Tryz.func166.trans (Cl some (by kernel_rfl))
 f46:=⟨Tryz.f214.name,by decide,Tryz.func214.trans (Cl some (by kernel_rfl))⟩
 f47:=Tryz.func198.trans (Cl some (by kernel_rfl))
 f48:=Tryz.func199.trans (Cl some (by kernel_rfl))
 f49:=⟨Tryz.f215.name,by decide,Tryz.func215.trans (Cl some (by kernel_rfl))⟩
 f50:=⟨Tryz.f216.name,by decide,Tryz.func216.trans (Cl some (by kernel_rfl))⟩
 f57:=⟨Tryz.f217.name,by decide,Tryz.func217.trans (Cl some (by kernel_rfl))⟩
 t0:=Tryz.underlying0
 a0:=Tryz.isAgg0
 z0:=Tryz.sizeOf0
 v0:=Tryz.zeroValue0
 t3:=Tryz.underlying3
 a3:=Tryz.isAgg3
 z3:=Tryz.sizeOf3
 v3:=Tryz.zeroValue3
 t4:=Tryz.underlying4
 a4:=Tryz.isAgg4
 z4:=Tryz.sizeOf4
 v4:=Tryz.zeroValue4
 t5:=Tryz.underlying5
 a5:=Tryz.isAgg5
 z5:=Tryz.sizeOf5
 v5:=Tryz.zeroValue5
 t9:=Tryz.underlying9
 a9:=Tryz.isAgg9
 z9:=Tryz.sizeOf9
 v9:=Tryz.zeroValue9
 t22:=Tryz.underlying132
 a22:=Tryz.isAgg132
 z22:=Tryz.sizeOf132
 v22:=Tryz.zeroValue132
 t25:=Tryz.underlying190
 a25:=Tryz.isAgg190
 z25:=Tryz.sizeOf190
 v25:=Tryz.zeroValue190
 t39:=Tryz.underlying195
 a39:=Tryz.isAgg195
 z39:=Tryz.sizeOf195
 v39:=Tryz.zeroValue195
 t45:=Tryz.underlying266
 a45:=Tryz.isAgg266
 z45:=Tryz.sizeOf266
 v45:=Tryz.zeroValue266
 t46:=Tryz.underlying267
 a46:=Tryz.isAgg267
 z46:=Tryz.sizeOf267
 v46:=Tryz.zeroValue267
 t50:=Tryz.underlying156
 a50:=Tryz.isAgg156
 z50:=Tryz.sizeOf156
 v50:=Tryz.zeroValue156
 t53:=Tryz.underlying247
 a53:=Tryz.isAgg247
 z53:=Tryz.sizeOf247
 v53:=Tryz.zeroValue247
 t55:=Tryz.underlying202
 a55:=Tryz.isAgg202
 z55:=Tryz.sizeOf202
 v55:=Tryz.zeroValue202
 t66:=Tryz.underlying279
 a66:=Tryz.isAgg279
 z66:=Tryz.sizeOf279
 v66:=Tryz.zeroValue279
 t70:=Tryz.underlying283
 a70:=Tryz.isAgg283
 z70:=Tryz.sizeOf283
 v70:=Tryz.zeroValue283
 t76:=Tryz.underlying294
 a76:=Tryz.isAgg294
 z76:=Tryz.sizeOf294
 v76:=Tryz.zeroValue294
 t77:=Tryz.underlying295
 a77:=Tryz.isAgg295
 z77:=Tryz.sizeOf295
 v77:=Tryz.zeroValue295}
def Tryz.cmpI64_ren:Go.Shelf.Ren:=⟨λ|5=>162|7=>189|n=>n,λ|22=>2|3=>3|4=>4|n=>n,λ|n=>n⟩
def Tryz.cmpI64:Go.Proofs.SlLaysC2.n5 Tryz.prog Tryz.cmpI64_ren:={
 mixed:=by kernel_rfl
 f5:=⟨Tryz.f162.name,by decide,Tryz.func162.trans (Cl some (by kernel_rfl))⟩
 f7:=⟨Tryz.f189.name,by decide,Tryz.func189.trans (Cl some (by kernel_rfl))⟩
 t3:=Tryz.underlying3
 a3:=Tryz.isAgg3
 z3:=Tryz.sizeOf3
 v3:=Tryz.zeroValue3
 t4:=Tryz.underlying4
 a4:=Tryz.isAgg4
 z4:=Tryz.sizeOf4
 v4:=Tryz.zeroValue4
 t22:=Tryz.underlying2
 a22:=Tryz.isAgg2
 z22:=Tryz.sizeOf2
 v22:=Tryz.zeroValue2}
end Go.Proofs
namespace Go.Proofs
open Go.Shelf Go.RowKit Go.Lib Go.Sort
def Tryz.cmp64(x y:Int)(W:World):Calls Tryz.prog 162 #[.int .i64 x,.int .i64 y] W λe w'=>e= .returned (.int .i64 (Lib.compareInt x y))/\w'=W:=
 AnyG.cmp_Compare_int Tryz.cmpI64 x y W
def Tryz.orTwo(b:Nat)(x y:Int)(W:World)(h0:W.cell? ⟨b,0,none⟩=some (.int .i64 x))(z:W.cell? ⟨b,1,none⟩=some (.int .i64 y)):
 Calls Tryz.prog 161 #[.slice (some ⟨b,0,none⟩) 2 2] W λe w'=>e= .returned (.int .i64 (if x=0 then y else x))/\w'=W:=by
 go_enter Tryz.func161,Tryz.ntmps161
 go_wp2
 refine wp_loop_rounds 3 ?_;rw[rounds_succ]
 go_wp2
 all_goals (try rw[rounds_succ])
 all_goals (try go_wp2)
 all_goals (try rw[rounds_succ])
 all_goals (try go_wp2)
 all_goals (go_ret;refine⟨?_,rfl⟩;simp_all)
def Qs(W:World)(a b a' b':Value)(T:TypeId):
 let z:=((W.alloc (Obj.cells #[a,b] T)).alloc (Obj.cells #[a',b'] T)).drew
 z.cell? ⟨W.heap.size,0,none⟩=some a/\z.cell? ⟨W.heap.size,1,none⟩=some b/\z.cell? ⟨W.heap.size+1,0,none⟩=some a'/\z.cell? ⟨W.heap.size+1,1,none⟩=some b'/\
  ∃G,z=grow (W.drewN 1) G:=by
 have e:((W.alloc (Obj.cells #[a,b] T)).alloc (Obj.cells #[a',b'] T)).drew=grow (W.drewN 1) #[Obj.cells #[a,b] T,Obj.cells #[a',b'] T]:=by
  rw[alloc_eq_grow,alloc_eq_grow,grow_grow];rfl
 have h0:(W.heap++ #[Obj.cells #[a,b] T,Obj.cells #[a',b'] T])[W.heap.size]? =some (Obj.cells #[a,b] T):=by
  rw[Zes (AU _),Ii];rfl
 have O:(W.heap++ #[Obj.cells #[a,b] T,Obj.cells #[a',b'] T])[W.heap.size+1]? =some (Obj.cells #[a',b'] T):=by
  rw[Zes (oB _),show W.heap.size.succ - W.heap.size=1 by omega];rfl
 simp only[e];refine⟨?_,?_,?_,?_,_,rfl⟩<;>unfold World.cell? <;>simp only[grow,World.drewN,h0,O]<;>rfl
def Qvb(w:World)(a b:Value)(T:TypeId):(w.alloc (Obj.cells #[a,b] T)).cell? ⟨w.heap.size,0,none⟩=some a/\(w.alloc (Obj.cells #[a,b] T)).cell? ⟨w.heap.size,1,none⟩=some b:=by
 have h0:(w.heap.push (Obj.cells #[a,b] T))[w.heap.size]? =some (Obj.cells #[a,b] T):=by simp
 constructor<;>unfold World.cell? <;>simp only[World.alloc,h0]<;>rfl
def IR(p q:Int×Int):Int:=if Lib.compareInt p.2 q.2=0 then Lib.compareInt p.1 q.1 else Lib.compareInt p.2 q.2
def Tryz.cmpPoints(x y x' y':Int)(W:World):Calls Tryz.prog 131 #[.agg #[.int .i64 x,.int .i64 y],.agg #[.int .i64 x',.int .i64 y']] W λe w'=>
 e= .returned (.int .i64 (IR (x,y) (x',y')))/\ ∃q Q,w'=grow (W.drewN q) Q:=by
 have z:=λW'=>Tryz.cmp64 y y' W'
 have G:=λW'=>Tryz.cmp64 x x' W'
 unfold IR;simp only;generalize Lib.compareInt y y'=r1 at z⊢;generalize Lib.compareInt x x'=r2 at G⊢;have O:=λ(b:Nat) W'=>Tryz.orTwo b r1 r2 W'
 generalize (if r1=0 then r2 else r1)=r at O⊢
 go_enter Tryz.func131,Tryz.ntmps131
 go_wp2
 refine wp_region_still_tail 10 (by kernel_rfl) (by kernel_rfl) ?_;simp only[OC,Hp,LK,Ie];obtain⟨d1,d2,d3,d4,Z⟩:=Qs W (.int .i64 x) (.int .i64 y) (.int .i64 x') (.int .i64 y') 62;change wpStill _ _ ((W.alloc (Obj.cells #[Value.int IntKind.i64 x,Value.int IntKind.i64 y] 62)).alloc (Obj.cells #[Value.int IntKind.i64 x',Value.int IntKind.i64 y'] 62)).drew (λa'=>wpList _ _ _ _ a' ((W.alloc (Obj.cells #[Value.int IntKind.i64 x,Value.int IntKind.i64 y] 62)).alloc (Obj.cells #[Value.int IntKind.i64 x',Value.int IntKind.i64 y'] 62)).drew) _ _;generalize ((W.alloc (Obj.cells #[Value.int IntKind.i64 x,Value.int IntKind.i64 y] 62)).alloc (Obj.cells #[Value.int IntKind.i64 x',Value.int IntKind.i64 y'] 62)).drew=w3 at d1 d2 d3 d4 Z⊢
 still_step
 still_step
 still_step
 still_step
 still_call (z _)
 still_step
 still_step
 still_step
 still_step
 still_call (G _)
 refine wpStill_nil ?_
 go_wp2_with (go_at_call 161;refine (O _ _ (Qvb _ _ _ _).1 (Qvb _ _ _ _).2).mono ?_;rintro e w' ⟨rfl,rfl⟩)
 go_ret
 obtain⟨aa,rfl⟩:=Z;exact⟨rfl,1,_,by rw[alloc_eq_grow,grow_grow]⟩
def Tryz.cmpPlaced90(x y t x' y' t':Int)(W:World):Calls Tryz.prog 130 #[.agg #[.int .i64 x,.int .i64 y,.int .i64 t],.agg #[.int .i64 x',.int .i64 y',.int .i64 t']] W λe w'=>
 e= .returned (.int .i64 (IR (x,y) (x',y')))/\ ∃q G,w'=grow (W.drewN q) G:=by
 have z:=λW'=>Tryz.cmpPoints x y x' y' W'
 generalize IR (x,y) (x',y')=r at z⊢
 go_enter Tryz.func130,Tryz.ntmps130
 go_wp2_with (go_at_call 131;refine (z _).mono ?_;rintro e w' ⟨rfl,q,G,rfl⟩)
 go_ret
 exact⟨rfl,q,_,by rw[alloc_eq_grow,alloc_eq_grow,grow_grow];show grow (grow (W.drewN q) _) G=_;rw[grow_grow]⟩
end Go.Proofs
namespace Go.Ae
open Go.Proofs Go.Sort Go.Shelf
instance:Inhabited Aq:=⟨⟨⟨0,0⟩,0⟩⟩
def Dx(x:Aq):List Value:=[.int .i64 x.At.X,.int .i64 x.At.Y,.int .i64 x.Tile]
def cfP(x y:Aq):Int:=IR (x.At.X,x.At.Y) (y.At.X,y.At.Y)
def Qz0(x y:Aq):ltOf cfP x y=Bv x.At y.At:=by
 simp only[ltOf,cfP,IR,Lib.compareInt,Bv]
 grind
def swoP:SWO (ltOf cfP) where
 irrefl x:=by rw[Qz0];simp only[Bv];grind
 trans x y z h1 h2:=by rw[Qz0] at*;simp only[Bv] at*;grind
 ntrans x y z h1 h2:=by rw[Qz0] at*;simp only[Bv] at*;grind
def FP(l:List Aq):List Aq:=l.foldr (λx r=>E5 x.At x.Tile r) []
def uL(x:Aq): ∀(l:List Aq),(E5 x.At x.Tile l).Perm (x::l)
 |[]=>iL _
 |y::r=>by
  simp only[E5];split
  .exact iL _
  .exact ((uL x r).cons y).trans (List.Perm.swap x y r)
def aK: ∀(l:List Aq),(FP l).Perm l
 |[]=>iL _
 |x::r=>(uL x (FP r)).trans ((aK r).cons x)
def Quq{a b c:Ad}(z:Bv a b=true)(G:Bv c b=false):Bv c a=false:=by
 simp only[Bv] at*;grind
def Qx3(x:Aq): ∀(l:List Aq),l.Pairwise (λa b=>Bv b.At a.At=false)->(E5 x.At x.Tile l).Pairwise (λa b=>Bv b.At a.At=false)
 |[],_=>by simp[E5]
 |y::r,h=>by
  rw[W3] at h;simp only[E5];split
  .rename_i O;rw[W3,W3];refine⟨λz G=> ?_,h⟩;have Q:Bv y.At x.At=false:=by simp only[Bv] at*;grind
   rcases Bw.1 G with rfl|G
   .exact Q
   .have:=h.1 z G
    exact Quq O this
  .rename_i O;rw[W3];refine⟨λz G=> ?_,Qx3 x r h.2⟩;rcases (Qlc _ _ _ _).1 G with rfl|G
   .simpa using O
   .exact h.1 z G
def uO: ∀(l:List Aq),(FP l).Pairwise (λa b=>Bv b.At a.At=false)
 |[]=>List.Pairwise.nil
 |x::r=>Qx3 x _ (uO r)
def pW(l:List Aq):(FP l).length=l.length:=(aK l).length_eq
def Se{l:List Aq}(h:(l.map Aq.At).Nodup){x y:Aq}(Z:x∈l)(hy:y∈l)(Q:x.At=y.At):x=y:=by
 induction l with
 |nil=>cases Z
 |cons z r ih=>
  rw[Bf,KO] at h;rcases Bw.1 Z with G|G<;>rcases Bw.1 hy with O|O
  .rw[G,O]
  .exact absurd (show z.At∈r.map Aq.At by rw[<-G,Q];exact wW O) h.1
  .exact absurd (show z.At∈r.map Aq.At by rw[<-O,<-Q];exact wW G) h.1
  .exact ih h.2 G O
def uK{l l':List Aq}(hd:(l.map Aq.At).Nodup)(hp:l'.Perm l)(hs:l'.Pairwise (λa b=>Bv b.At a.At=false)):l'=FP l:=by
 refine ZdV (le:=λa b=>Bv b.At a.At=false) (λa b Z hb O Q=> ?_) hs (uO l) (hp.trans (aK l).symm);refine Se hd (hp.mem_iff.1 Z) ((aK l).mem_iff.1 hb) ?_;revert O Q;obtain⟨⟨ax,ay⟩,z⟩:=a;obtain⟨⟨bx,G⟩,bt⟩:=b;simp only[Bv,Ad.mk.injEq]
 grind
def SV(l:List Aq):List Value:=l.flatMap Dx
def Mm(l:List Aq):(SV l).length=l.length*3:=by
 induction l with
 |nil=>rfl
 |cons x r ih=>simp only[SV,FD,Bz,CR] at ih⊢;rw[ih];simp[Dx];omega
def Ql5{ok:Nat->Prop}{hp:Nat->Option Obj}: ∀(l:List Aq) (L:List Value),rdr ok hp 3 (l.map Aq.c) L↔ ∃r,L=SV l++r
 |[],L=>by simp[rdr,SV]
 |x::r,L=>by
  simp only[Bf,rdr,Ql5 r,Aq.c,rdp,rd,SV,FD];constructor
  .rintro⟨_,⟨v,z,rfl,rfl,Q,G,rfl,rfl,Z,O,rfl,rfl,_⟩,q,hq⟩;exact⟨q,by simp only[LK,Ie] at hq;rw[hq];rfl⟩
  .rintro⟨q,rfl⟩;exact⟨rfl,⟨_,_,rfl,rfl,_,_,rfl,rfl,_,_,rfl,rfl,trivial⟩,q,rfl⟩
def Ml: ∀(l:List Aq) (t:Nat),t<l.length*3->(SV l)[t]? =some ((Dx (l[t/3]?.getD default))[t % 3]!)
 |[],t,h=>by simp at h
 |x::r,t,h=>by
  by_cases O:t<3
  .have:t=0\/t=1\/t=2:=by omega
   rcases this with rfl|rfl|rfl<;>simp[SV,Dx]
  .obtain⟨u,rfl⟩: ∃u,t=u+3:=⟨t - 3,by omega⟩;have z:(u+3)/3=u/3+1:=by omega
   have G:(u+3) % 3=u % 3:=by omega
   have ih:=Ml r u (by simp at h;omega);rw[z,G,Kf,<-ih];simp[SV,Dx]
def Qvu(l:List Aq):(flatK Dx 3 l.toArray).toList=SV l:=by
 apply QM;intro t;by_cases z:t<l.length*3
 .rw[Ml l t z];have G:t<(flatK Dx 3 l.toArray).size:=by simp only[size_flatK,OD];exact z
  have O:=get_flatK Dx 3 l.toArray t (by simpa using z);rw[Hq,Ke G,<-getElem!_pos (flatK Dx 3 l.toArray) t G,O];congr 3;simp[getElem!_def];cases l[t/3]? <;>rfl
 .have a1:(flatK Dx 3 l.toArray).toList.length<=t:=by rw[Fj,size_flatK,OD];omega
  have a2:(SV l).length<=t:=by rw[Mm];omega
  rw[HK a1,HK a2]
def srt.ca(_:List Aq):List AV:=[.own 0,.im (.fn 130 [] [])]
def srt.H0(a:List Aq):Ar:=[(0,(true,.arr 88 3 (a.map Aq.c)))]
def srt.H1(a:List Aq):Ar:=[(0,(true,.arr 88 3 ((FP a).map Aq.c)))]
def srt.row:AG:=Az srt.ca srt.H0 1 (λa=>(a.map Aq.At).Nodup) (λ_=>true) (λ_=> .im (.tup [])) srt.H1 0
def srt.ok:AJ 129 srt.row:=by
 rintro args h nx K ⟨a,τ,U,KL,a0,rfl,O,hN,hK⟩;refine⟨Oy (by kernel_rfl),_,_,?_,hK⟩;intro C S vs R hW a9 bb bc aa aw;have ao:Db τ 1 nx 0=τ 0:=Al (by omega);simp only[srt.ca,Bd,AV.ren,ao,AR,Aa,rd,rdl] at aa;obtain⟨v0,r0,hv,⟨ad,ai⟩,v1,r1,bi,⟨ac,cc,bl,aj,ak⟩,bj⟩:=aa;have aj:ac= #[]:=by apply KM;simpa using aj
 have ak:cc= #[]:=by apply KM;simpa using ak
 subst aj ak bj bi bl;have bm:vs= #[v0,.func (W6 130) #[] #[]]:=by apply KM;simpa using hv
 subst bm;have hm:h (τ 0)=some (true,.arr 88 3 (a.map Aq.c)):=by
  have:=O.1
  rwa [ao] at this
 have av:An (srt.H0 a) 0=true:=rfl;have Q:S.h (τ 0)=some (true,.arr 88 3 (a.map Aq.c)):=by
  rw[a9 (τ 0) (IG _ (hN.u 0 av)),hm]
 have ax: ∀n,n∈KL↔n=τ 0:=by
  intro n;constructor
  .intro hn;obtain⟨j,h1,_,h3⟩:=hN.k1 n hn
   have:j=0:=by
    simp only[An,srt.H0,hget] at h1;by_cases hj:j=0
    .exact hj
    .have:(0==j)=false:=by simpa using λh=>hj h.symm
     rw[this] at h1;cases h1
   rw[h3,this]
  .rintro rfl;exact hN.k2 0 av rfl
 obtain⟨m,hmm⟩: ∃m,m=τ 0:=⟨_,rfl⟩;rw[<-hmm] at Q ai ax;have aq:=pW a;have fin: ∀(w':World),Kb S m (.arr 88 3 ((FP a).map Aq.c)) (S.ρ m) [m] w'->
  (BA (λn=>S.h m≠none\/n≠m) S (S.one m (.arr 88 3 ((FP a).map Aq.c)) (S.ρ m) [m] w')->Ap (S.one m (.arr 88 3 ((FP a).map Aq.c)) (S.ρ m) [m] w') (S.ρ m) (.arr 88 3 ((FP a).map Aq.c)))->R (.returned (.tuple #[])) w':=by
  intro w' ad bh;have hp:=fS hW ad;refine aw (.tuple #[]) _ (nI hW ad (bh hp)) ?_ ⟨hp.ok,λn _=>hp.nm n (.inl (by rw[Q];simp))⟩ ⟨#[],rfl,rfl⟩;funext n;simp only[Ay.one,B4.appf,srt.H1,Bp,ao,hget,Ah.ren,<-hmm];by_cases hn:n=m
  .subst hn;simp
  .have h1:(m==n)=false:=by simpa using λh=>hn h.symm
   have h2:KL.contains n=false:=by
    rw[<-QN,Jl,ax];exact hn
   simp only[h1,Cy,h2,hn,CN,BL]
 have z:=ai _ Q;have Z:=hW.obj _ _ Q;have az:=λG=>hW.loc m _ G Q
 cases hρ:S.ρ m with
 |none=>
  rw[hρ] at z Z;simp only[Ap] at Z;have ha:a=[]:=by simpa using Z.2
  subst ha;simp only at z;rw[z,X9 (by decide)];refine (AnyF.slices_SortFunc_none Tryz.sortPl none 0 (.func (.func 130) #[] #[]) S.w).mono ?_;rintro e w' ⟨rfl,rfl⟩;refine fin S.w (dO Q (λl hl=>by rw[hρ] at hl;cases hl) rfl rfl) (λ_=> ?_);rw[hρ];exact⟨BV _,rfl⟩
 |some G=>
  rw[hρ] at z Z;simp only[Ap,Ah.len] at Z z;obtain⟨g1,g2,cv,g3,g4,g5⟩:=Z;obtain⟨an,bo⟩:=az G hρ;rw[Ql5] at g5;obtain⟨ba,g5⟩:=g5;simp only[Du] at g1 g2 z;have O:S.w.heap[G.b]? =some (.cells cv 88 (0,0)):=g3;have bn:G.p+a.length*3<=cv.size:=by omega
  have hF:(flatK Dx 3 a.toArray).size=a.length*3:=by simp
  have hget: ∀j,j<a.length*3->cv[G.p+j]? =some ((flatK Dx 3 a.toArray)[j]!):=by
   intro j hj;have h1:(cv.toList.drop G.p)[j]? =(SV a++ba)[j]? :=by rw[g5]
   rw[Jf,Hq,F4 (by rw[Mm];exact hj),<-Qvu,Hq] at h1;rw[h1,Ke (by rw[hF];exact hj),getElem!_pos _ _ (by rw[hF];exact hj)]
  have hH:HoldsK Dx 3 S.w G.b G.p a.toArray:=by
   intro j hj;rw[hF] at hj;refine⟨?_,?_⟩
   .simp only[World.cell?,O,nY,Dp,CN,id];exact hget j hj
   .simp only[World.frozen?,O];simp
  have hc:=AnyQ.slices_SortFunc Tryz.sortPl 3 Tryz.isAgg88 Tryz.sizeOf88 Dx (λ_=>rfl) (λx v hv=>by simp[Dx] at hv;rcases hv with rfl|rfl|rfl<;>rfl) cfP swoP 130 #[] G.b G.p G.cap a.toArray S.w
   (tH (Oy (by kernel_rfl))) (λm os dk hs x y=>Tryz.cmpPlaced90 _ _ _ _ _ _ _) hH an (by simp only[OD,IN] at g1⊢;omega)
  rw[z,X9 (by decide)];refine hc.mono ?_;rintro e w' ⟨rfl,d',n,os,af,au,rfl⟩;have a8:d'.size=a.length:=af.1;have bf:d'.toList=FP a:=by
   refine uK a0 ?_ ?_
   .have:=af.2.2
    rwa [show d'.extract 0 a.toArray.size=d' by rw[OD,<-a8];exact wK,show a.toArray.extract 0 a.toArray.size=a.toArray from wK] at this
   .rw[ZdN];intro i j hi hj bg
    have:=au i j (BV _) bg (by rw[OD,<-a8];simpa using hj)
    rw[Qz0,getElem!_pos d' i (by simpa using hi),getElem!_pos d' j (by simpa using hj)] at this;simpa using this
  obtain rfl:d'=(FP a).toArray:=by apply KM;rw[bf]
  have ah:(flatK Dx 3 (FP a).toArray).size=a.length*3:=by simp[aq]
  have am:(flatK Dx 3 (FP a).toArray).toList.length=a.length*3:=by rw[Fj,ah]
  have ag:S.w.heap.size<=(sortWorldK Dx 3 S.w G.b G.p n (FP a).toArray os).heap.size:=by
   simp[sortWorldK,grow,putRowK,Sort.ahead]
  have hb: ∀b,b<S.w.heap.size->(sortWorldK Dx 3 S.w G.b G.p n (FP a).toArray os).heap[b]? =if G.b=b then S.w.heap[b]?.map (onCells (putCells id G.p (flatK Dx 3 (FP a).toArray))) else S.w.heap[b]? :=by
   intro b hb;have e0:b<(putRowK Dx 3 (Sort.ahead S.w n) G.b G.p (FP a).toArray).heap.size:=by simpa[putRowK,Sort.ahead] using hb
   simp only[sortWorldK,grow];rw[Zdh e0];simp only[putRowK,putRow,mapBlock,Sort.ahead,Zej]
  refine fin _ ⟨rfl,rfl,rfl,wO _ _,ag,?_,.inl (by simp),?_,?_,?_⟩ ?_
  .intro b bd be;rw[hb b bd,Ag (be m _ G (by simp) Q hρ)]
  .intro lo ay;rw[hρ] at ay;obtain rfl:=AC ay;exact⟨FC an ag,.inr ⟨m,_,G,by simp,Q,hρ,rfl⟩⟩
  .intro f hf;rw[Q] at hf;obtain rfl:=AC hf;exact⟨rfl,rfl,by simp[Ah.len,aq]⟩
  .intro n' f _ ab;rw[Q] at ab;cases ab
  .intro _;rw[hρ];simp only[Ap,Du,aq];refine⟨g1,g2,putCells id G.p (flatK Dx 3 (FP a).toArray) cv,?_,by simpa[putCells] using g4,?_⟩
   .simp only[Ay.one,Ay.hp];rw[hb G.b an,Al rfl,O];rfl
   .rw[Ql5];refine⟨(cv.toList.drop (G.p+a.length*3)),?_⟩;apply QM;intro t;rw[Jf,Hq,putCells,ZeX,ah,<-Qvu];by_cases ht:t<a.length*3
    .rw[F4 (by rw[am];exact ht),Hq,Ke (show G.p+t<cv.size by omega),Ke (by rw[ah];exact ht)];simp only[Ez,id];rw[Al ⟨by omega,by omega⟩,wS,getElem!_pos _ _ (by rw[ah];exact ht)]
    .rw[G6 (by rw[am];omega),am,Jf,Hq,show G.p+a.length*3+(t - a.length*3)=G.p+t by omega];cases cv[G.p+t]? with
     |none=>rfl
     |some x=>simp only[Ez];rw[Ag (by omega)]
end Go.Ae
namespace Go.Ae
open Go.Proofs
def DZ(q:Ad×Int):Aq:=⟨q.1,q.2⟩
def UX(m:Jc)(t:List (Ad×Int))(x:Aq):Option (List (Ad×Int)):=
 if (m.Labels[x.Tile.toNat]?.getD 0)<0 then some t
 else if (BP t (fU x.At m.Scale).1).getD (m.Labels[x.Tile.toNat]?.getD 0)≠(m.Labels[x.Tile.toNat]?.getD 0) then none
 else some (BJ t (fU x.At m.Scale).1 (m.Labels[x.Tile.toNat]?.getD 0))
def Pb{l l':List Aq}(hp:l.Perm l')(hd:(l'.map Aq.At).Nodup)(p:Ad):l.find? (λx=>decide (x.At=p))=l'.find? (λx=>decide (x.At=p)):=by
 cases h1:l.find? (λx=>decide (x.At=p)) with
 |none=>
  symm;rw[wL] at h1⊢;exact λx O=>h1 x (hp.mem_iff.2 O)
 |some x=>
  have O:=hp.mem_iff.1 (Zdp h1);have z:=nS h1;cases h2:l'.find? (λx=>decide (x.At=p)) with
  |none=>
   rw[wL] at h2;exact absurd z (h2 x O)
  |some y=>
   have Q:=Zdp h2;have G:=nS h2;rw[Se hd O Q];rw[C7] at z G;rw[z,G]
def MG(p:Ad): ∀(t:List (Ad×Int)),(((t.map DZ).find? (λx=>decide (x.At=p))).map Aq.Tile)=BP t p
 |[]=>rfl
 |(k,w)::r=>by
  simp only[Bf,Zew,DZ,BP];by_cases h:k=p
  .subst h;simp
  .have z:decide (k=p)=false:=by simpa using h
   have G: ¬p=k:=λO=>h O.symm
   rw[z,Ag G];exact MG p r
def WM(t:List (Ad×Int)):(t.map DZ).map Aq.At=t.map Prod.fst:=by simp[DZ]
def cO{t:List (Ad×Int)}(hd:(t.map Prod.fst).Nodup)(p:Ad):BM ⟨FP (t.map DZ)⟩ p=(BP t p).getD (-1):=by
 have z:((t.map DZ).map Aq.At).Nodup:=by rw[WM];exact hd
 simp only[BM];rw[Pb (aK _) z,MG]
def mW{t:List (Ad×Int)}{p:Ad}(v:Int)(h:BP t p=none):BJ t p v=t++[(p,v)]:=by
 induction t with
 |nil=>rfl
 |cons q r ih=>
  obtain⟨k,w⟩:=q;simp only[BP] at h;split at h
  .cases h
  .rename_i hn;simp only[BJ,Ag hn,Ci];rw[ih h]
def Qt{t:List (Ad×Int)}{p:Ad}{v:Int}(h:BP t p=some v):BJ t p v=t:=by
 induction t with
 |nil=>cases h
 |cons q r ih=>
  obtain⟨k,w⟩:=q;simp only[BP] at h;simp only[BJ];split at h
  .rename_i z;obtain rfl:=AC h;rw[Al z,z]
  .rename_i hn;rw[Ag hn,ih h]
def Qyz{t:List (Ad×Int)}{p:Ad}(h:BP t p=none):p∉t.map Prod.fst:=by
 induction t with
 |nil=>simp
 |cons q r ih=>
  obtain⟨k,w⟩:=q;simp only[BP] at h;split at h
  .cases h
  .rename_i hn;simp only[Bf,Bw,XV];exact⟨hn,ih h⟩
def dN{t:List (Ad×Int)}{p:Ad}{v:Int}(h:BP t p=some v):(p,v)∈t:=by
 induction t with
 |nil=>cases h
 |cons q r ih=>
  obtain⟨k,w⟩:=q;simp only[BP] at h;split at h
  .rename_i z;obtain rfl:=AC h;rw[z];exact BS ..
  .exact BW _ (ih h)
structure RM(t:List (Ad×Int))(o:Ao)(k:Nat):Prop where
 nd:(t.map Prod.fst).Nodup
 pos: ∀q∈t,0<=q.2
 eq:o=⟨FP (t.map DZ)⟩
 len:t.length<=k
def RM.step{m:Jc}{t:List (Ad×Int)}{o:Ao}{k:Nat}(h:RM t o k)(x:Aq):(∃t' o',UX m t x=some t'/\Va m o x=some o'/\RM t' o' (k+1))\/(UX m t x=none/\Va m o x=none):=by
 obtain⟨nd,pos,rfl,len⟩:=h;simp only[UX,Va];generalize m.Labels[x.Tile.toNat]?.getD 0=n;generalize (fU x.At m.Scale).1=p;by_cases c1:n<0
 .rw[Al c1,Al c1];exact .inl ⟨_,_,rfl,rfl,nd,pos,rfl,by omega⟩
 rw[Ag c1,Ag c1,cO nd];cases hq:BP t p with
 |none=>
  simp only[Option.getD_none];rw[Ag (by simp),Ag (by omega),Al (by omega)];refine .inl ⟨_,_,rfl,rfl,?_,?_,?_,?_⟩
  .rw[mW n hq,CV,Jh];refine⟨nd,by simp,?_⟩;intro a Z b O z;simp only[Bf,Bg,BL] at O;exact Qyz hq (by rw[<-O,<-z];exact Z)
  .intro q G;rw[mW n hq] at G;rcases B2.1 G with G|G
   .exact pos q G
   .simp only[BL] at G;subst G;simp only;omega
  .rw[tJ,mW n hq];congr 1;have aa:(((t++[(p,n)]).map DZ).map Aq.At).Nodup:=by
    rw[WM,CV,Jh];refine⟨nd,by simp,?_⟩;intro a Z b O z;simp only[Bf,Bg,BL] at O;exact Qyz hq (by rw[<-O,<-z];exact Z)
   refine uK aa ?_ (Qx3 ⟨p,n⟩ _ (uO _));refine (uL ⟨p,n⟩ _).trans ?_;rw[CV];refine ((aK _).cons _).trans ?_;exact (ZeF _ _).symm
  .rw[mW n hq];simp;omega
 |some v=>
  simp only[AW];have hv:=pos _ (dN hq);simp only at hv;by_cases Q:v=n
  .subst Q;rw[Ag (by simp),Ag (by simp),Ag (by omega),Qt hq];exact .inl ⟨_,_,rfl,rfl,nd,pos,rfl,by omega⟩
  .rw[Al Q,Al ⟨hv,Q⟩];exact .inr ⟨rfl,rfl⟩
def WZ{s:AE}{a:Ao}(h: ∀x∈a.Tiles,GO s x.Tile)(p:Ad):B0 (λx=>decide (x.At=p)) 0 a.Tiles<0↔BM a p<0:=by
 simp only[BM];rcases aP (λx=>decide (x.At=p)) a.Tiles 0 with ⟨z,G⟩|⟨i,x,z,G,O⟩
 .rw[z,G];simp
 .rw[z,G]
  have:=(h x (Bh O)).1
  simp only[Ez,AW];omega
def RM.put{t:List (Ad×Int)}{o:Ao}{k:Nat}(h:RM t o k){p:Ad}{v:Int}(hv:0<=v)(hn:BP t p=none):RM (BJ t p v) (Dg o p v) (k+1):=by
 obtain⟨nd,pos,rfl,len⟩:=h;have G:((t++[(p,v)]).map Prod.fst).Nodup:=by
  rw[CV,Jh];refine⟨nd,by simp,?_⟩;intro a ha b Z O;simp only[Bf,Bg,BL] at Z;exact Qyz hn (by rw[<-Z,<-O];exact ha)
 rw[mW v hn];refine⟨G,?_,?_,by simp;omega⟩
 .intro q z;rcases B2.1 z with z|z
  .exact pos q z
  .simp only[BL] at z;subst z;exact hv
 .rw[tJ];congr 1;have Q:(((t++[(p,v)]).map DZ).map Aq.At).Nodup:=by rw[WM];exact G
  refine uK Q ?_ (Qx3 ⟨p,v⟩ _ (uO _));refine (uL ⟨p,v⟩ _).trans ?_;rw[CV];refine ((aK _).cons _).trans ?_;exact (ZeF _ _).symm
def RM.at{t:List (Ad×Int)}{o:Ao}{k:Nat}(h:RM t o k):Dl t=BM o:=by
 funext p;rw[h.eq,cO h.nd];rfl
def RM.size{t:List (Ad×Int)}{o:Ao}{k:Nat}(h:RM t o k):o.Tiles.length=t.length:=by
 rw[h.eq];simp only[pW,Du]
def pU: ∀(l t:List Aq),((t++l).map Aq.At).Nodup->l.foldl (λu x=>BJ u x.At x.Tile) (t.map λx=>(x.At,x.Tile))=(t++l).map λx=>(x.At,x.Tile)
 |[],t,_=>by simp
 |x::r,t,h=>by
  have O:BP (t.map λx=>(x.At,x.Tile)) x.At=none:=by
   cases hq:BP (t.map λx=>(x.At,x.Tile)) x.At with
   |none=>rfl
   |some v=>
    exfalso;obtain⟨y,Q,G⟩:=BF.1 (dN hq);have z:y.At=x.At:=Cl Prod.fst G;rw[CV,Jh] at h;exact h.2.2 _ (wW Q) _ (wW (BS ..)) z
  rw[KN,mW _ O]
  have:=pU r (t++[x]) (by simpa using h)
  simpa using this
def RM.of{a:Ao}(hf:Ed none a.Tiles=true)(hp: ∀x∈a.Tiles,0<=x.Tile):RM (D1 a.Tiles) a a.Tiles.length:=by
 have hn:=Qix hf;have e:D1 a.Tiles=a.Tiles.map λx=>(x.At,x.Tile):=by
  have:=pU a.Tiles [] (by simpa using hn)
  simpa[D1] using this
 have G:(a.Tiles.map λx=>(x.At,x.Tile)).map DZ=a.Tiles:=by
  rw[RT];exact List.map_id' _
 rw[e];refine⟨by rw[RT];exact hn,?_,?_,by simp⟩
 .intro q hq;obtain⟨x,hx,rfl⟩:=BF.1 hq;exact hp x hx
 .rw[G];have Z:=(lR _ _ hf).2;have hw:a.Tiles.Pairwise (λx y=>Bv y.At x.At=false):=by
   rw[ZdN];intro i j O Q z
   have:=Z i j a.Tiles[i] a.Tiles[j] z (BB O) (BB Q)
   simp only[Bv] at this⊢
   grind
  rw[<-uK hn (iL _) hw]
def l03Own.fv(a:Ao):Ao:=(λa=>a) a
def l03Own.row:AG:=vK (b1 (qP 1 Ao.d_le)) (rA Ao.d_le) (λa=>a.Tiles.length<=1000000) l03Own.fv
def l03Own.q:=B3 (R:=l03Own.row) rfl
def l03Own.ok:AJ 60 l03Own.row:=by
 refine vw tN Tryz.func60 ?_;intro a z;simp only[Tryz.f60,Option.getD];simp only[ZZ,simprocAttr,Ab,l03Own.fv];exact⟨by simp[Cj,BZ,D.one,Aq.c],by omega⟩
def Sq{s:AF}{b:Ao}(hs:s.Set.Tiles.length<=160)(Q:HG s.Set b){o:Be}(h:GD s b o=true):HG s.Set (Dg b o.At o.Tile):=by
 simp only[GD,Bc,C7] at h;obtain⟨Z,O,d3,_⟩:=h;have G:=Qma d3;have hw:Bj o.Tile 0 159=true:=by
  simp only[Bj,Bc,C7] at O⊢;omega
 refine⟨?_,?_⟩
 .rw[tJ];exact Qki Z hw _ none Q.1 (λq hq=>by cases hq) G
 .intro x z;rw[tJ] at z;rcases (Qlc _ _ _ _).1 z with rfl|z
  .simp only[Bj,Bc,C7] at O;exact⟨by simp only;omega,by simp only;omega⟩
  .exact Q.2 x z
def IS{s:AF}(h:Ga s=true):(C5 s.Set/\HG s.Set s.Seed/\s.Set.Tiles.length<=160/\s.Seed.Tiles.length<=1000000)/\FO s.Set=true/\HA s.Set s.Seed=true:=by
 simp only[Ga,Bc] at h;obtain⟨z,G,_⟩:=h;have O:=Xr G;have Q:=sV z;have Z:=z;simp only[FO,Bj,Bc,C7] at Z;exact⟨⟨Q,O.1,by omega,by omega⟩,z,G⟩
def Qwf{A B:Type}(f:A->B): ∀(l:List A) (i:Nat),(l.map f).eraseIdx i=(l.eraseIdx i).map f
 |[],_=>rfl
 |_::_,0=>rfl
 |x::r,i+1=>by simp only[Bf,wI,Qwf f r i]
def Qqq{A:Type}: ∀(l:List A) (i:Nat) (x:A),l[i]? =some x->(x::l.eraseIdx i).Perm l
 |[],i,x,h=>by simp at h
 |y::r,0,x,h=>by
  simp only[Hn,AO] at h;subst h;exact iL _
 |y::r,i+1,x,h=>by
  rw[Kf] at h;rw[wI];exact (List.Perm.swap y x _).trans ((Qqq r i x h).cons y)
def H4(c:Cw)(p:Ad)(t:Int):Cw:=⟨c.Sys,BJ c.Tl p t,Hm c.Sys (Dl (BJ c.Tl p t)) (E3 c.Op p) p 4⟩
def Zj{s:AE}{t:List (Ad×Int)}{p:Ad}{v:Int}(h:cJ s (Dl t))(z:GO s v):cJ s (Dl (BJ t p v)):=by
 intro q hq;simp only[Dl,nL] at hq⊢;by_cases c:q=p
 .rw[Al c];exact z
 .rw[Ag c] at hq⊢;exact h q hq
def putC.ca(a:Cw×Ad×Int):List AV:=[.ptr 0 0,.im (.agg [.int .i64 a.2.1.X,.int .i64 a.2.1.Y]),.im (.int .i64 a.2.2)]
def putC.H1(a:Cw×Ad×Int):Ar:=[(1,(true,.map ⟨true,[.int .i64,.int .i64]⟩ ((H4 a.1 a.2.1 a.2.2).Tl.map Fg))),(2,(true,.map ⟨true,[.int .i64,.int .i64]⟩ ((H4 a.1 a.2.1 a.2.2).Op.map D9)))]
def BN(j:Nat):Bool:=j==1||j==2
def putC.row:AG:=Az putC.ca (λa=>AT a.1) 3 (λa=>KR a.1/\I7 a.2.1/\GO a.1.Sys.Set a.2.2) BN (λ_=> .im (.tup [])) putC.H1 0
def putC.ok:AJ 125 putC.row:=by
 refine ow (tC lookC.ok tN) Tryz.func125 (exB:=λ_=>false) (R:=λ_ r=>r= .im (.tup [])) (λ_=>rfl)
  (λa=>by simp[putC.ca,AT,Bq,putC.H1,BN,AQ,AV.bel,AB,Cg,Cs,Ah.nms,Ax,AV.nms,An,hget]) (λa p hp=> ?_) (λa r h=>by subst h;exact D2.refl _) ?_
 rotate_left
 intro a G;simp only[Tryz.f125,Option.getD,putC.ca,AT,Bq,putC.H1,BN];simp only[ZZ,simprocAttr,Ab,Av,putC.ca,AT,Bq,putC.H1,BN];obtain⟨z,O,Q⟩:=G;rw[VR,SC];have hq:KR ⟨a.1.Sys,BJ a.1.Tl a.2.1 a.2.2,E3 a.1.Op a.2.1⟩:=⟨z.1,Zj z.2.1 Q,z.2.2⟩;refine Az.os (⟨a.1.Sys,BJ a.1.Tl a.2.1 a.2.2,E3 a.1.Op a.2.1⟩,a.2.1) [0,1,2] ⟨hq,O⟩ (λj=>Kw _ j) rfl rfl ?_ ?_
 .simp only[ZZ,simprocAttr,Ab,Av,putC.ca,AT,Bq,putC.H1,BN,lookC.ca,AT,Bq,Bb]
 .simp only[ZZ,simprocAttr,Ab,Av,putC.ca,AT,Bq,putC.H1,BN,lookC.H1,Po,sub,H4]
 simp[putC.H1] at hp;rcases hp with rfl|rfl
 .exact .inl ⟨by omega,rfl,rfl⟩
 .exact .inl ⟨by omega,rfl,rfl⟩
def asmC.ca(_:Cw):List AV:=[.ptr 0 0]
def QS(j:Nat):Bool:=j==1
def OK{t:List (Ad×Int)}{l:List Aq}(hd:(t.map Prod.fst).Nodup)(h:l.Perm (t.map DZ)):FP l=FP (t.map DZ)/\(l.map Aq.At).Nodup/\l.length=t.length:=by
 have z:((t.map DZ).map Aq.At).Nodup:=by rw[WM];exact hd
 refine⟨uK z ((aK l).trans h) (uO l),(h.map Aq.At).nodup_iff.2 z,by rw[h.length_eq,Du]⟩
def XY(t:List (Ad×Int)):Ao:=⟨FP (t.map DZ)⟩
end Go.Ae
namespace Go.Ae
end Go.Ae
namespace Go.Ae
open Go.Proofs
def qA{s:AF}{b:Ao}{o:Be}(h:GD s b o=true):F7 o.At=true/\I7 o.At/\0<=o.Tile/\o.Tile<s.Set.Tiles.length/\GO s.Set o.Tile/\(∀x∈b.Tiles,x.At≠o.At):=by
 simp only[GD,Bc,C7] at h;obtain⟨G,z,O,_⟩:=h;simp only[Bj,Bc,C7] at z;exact⟨G,tW G,z.1,by omega,⟨z.1,by omega⟩,Qma O⟩
def Gk{A:Type}(l:List A):Option (List A):=if l=[] then none else some l
abbrev EH(s:AF)(f:Ad->Int)(q:Ad):List Int:=G5 s f q s.Set.Tiles.length
def NN(s:AF)(f:Ad->Int)(op:List (Ad×List Int)):Prop:=(op.map Prod.fst).Nodup/\ ∀q,BP op q=Gk (EH s f q)
def WQ{s:AF}{f:Ad->Int}{q:Ad}(h: ∀k:Int,O4 s f q k=false): ∀n,G5 s f q n=[]
 |0=>rfl
 |n+1=>by simp only[G5,WQ h n,h,Dv];rfl
def rP{s:AF}{f:Ad->Int}{q:Ad}(h:0<=f q)(n:Nat):G5 s f q n=[]:=
 WQ (λk=>by simp only[O4];rw[Jj (show ¬f q<0 by omega)];simp) n
def qW{s:AE}{f:Ad->Int}{q:Ad}{t:Int}(h: ∀d:Nat,d<4->f (CF q d)<0): ∀k,k<=4->F3 s f q t k=0
 |0,_=>rfl
 |k+1,z=>by
  have:=h k (by omega)
  simp only[F3,qW h k (by omega),QD];rw[Ag (by omega)];rfl
def qV{s:AF}{f:Ad->Int}{q:Ad}(z:1<=s.Temperature)(h: ∀d:Nat,d<4->f (CF q d)<0)(n:Nat):G5 s f q n=[]:=
 WQ (λk=>by simp only[O4,qW h 4 (AU _)];rw[Jj (show ¬s.Temperature<=0 by omega)];simp) n
def rM{s:AE}{f g:Ad->Int}{q:Ad}{t:Int}(h: ∀d:Nat,d<4->f (CF q d)=g (CF q d)): ∀k,k<=4->F3 s f q t k=F3 s g q t k
 |0,_=>rfl
 |k+1,z=>by simp only[F3,rM h k (by omega),QD,h k (by omega)]
def rL{s:AF}{f g:Ad->Int}{q:Ad}(h0:f q=g q)(h: ∀d:Nat,d<4->f (CF q d)=g (CF q d)): ∀n,G5 s f q n=G5 s g q n
 |0=>rfl
 |n+1=>by
  have e:O4 s f q n=O4 s g q n:=by simp only[O4,h0,rM h 4 (AU _)]
  simp only[G5,rL h0 h n,e]
def Li{β:Type}{p:Ad}: ∀{l:List (Ad×β)},p∉l.map Prod.fst->BP l p=none
 |[],_=>rfl
 |(k,v)::r,h=>by
  simp only[Bf,Bw,XV] at h;simp only[BP];rw[Ag h.1,Li h.2]
def qQ{β:Type}{p:Ad}: ∀{l:List (Ad×β)},p∈l.map Prod.fst-> ∃v,BP l p=some v/\(p,v)∈l
 |[],h=>by simp at h
 |(k,v)::r,h=>by
  simp only[BP];by_cases c:p=k
  .rw[Al c,c];exact⟨v,rfl,BS ..⟩
  .rw[Ag c];obtain⟨w,z,G⟩:=qQ (l:=r) (by simpa[c] using h);exact⟨w,z,BW _ G⟩
def jM{β:Type}{p:Ad}{l:List (Ad×β)}:p∈l.map Prod.fst↔BP l p≠none:=by
 constructor
 .intro h;obtain⟨v,z,_⟩:=qQ h;rw[z];simp
 .intro h;apply bX;intro G;exact h (Li G)
def qN{β:Type}{p q:Ad}: ∀{l:List (Ad×β)},q∈(E3 l p).map Prod.fst->q∈l.map Prod.fst
 |[],h=>by simp[E3] at h
 |(k,v)::r,h=>by
  simp only[E3] at h;split at h
  .exact BW _ h
  .simp only[Bf,Bw] at h⊢;rcases h with h|h
   .exact .inl h
   .exact .inr (qN h)
def eL{β:Type}{p:Ad}: ∀{l:List (Ad×β)},(l.map Prod.fst).Nodup->((E3 l p).map Prod.fst).Nodup
 |[],h=>h
 |(k,v)::r,h=>by
  simp only[Bf,KO] at h;simp only[E3];split
  .exact h.2
  .simp only[Bf,KO];exact⟨λz=>h.1 (qN z),eL h.2⟩
def eJ{β:Type}{p:Ad}(q:Ad): ∀{l:List (Ad×β)},(l.map Prod.fst).Nodup->BP (E3 l p) q=if q=p then none else BP l q
 |[],_=>by simp[E3,BP]
 |(k,v)::r,h=>by
  simp only[Bf,KO] at h;simp only[E3];by_cases c:p=k
  .rw[Al c];by_cases e:q=p
   .rw[Al e,e,c];exact Li h.1
   .rw[Ag e];simp only[BP];rw[Ag (λz=>e (z.trans c.symm))]
  .rw[Ag c];simp only[BP];by_cases e:q=k
   .rw[Al e,Al e,Ag (λz=>c (z.symm.trans e))]
   .rw[Ag e,Ag e,eJ q h.2]
def ND{β:Type}{p q:Ad}{v:β}: ∀{l:List (Ad×β)},q∈(BJ l p v).map Prod.fst↔q=p\/q∈l.map Prod.fst
 |[]=>by simp[BJ]
 |(k,w)::r=>by
  simp only[BJ];split
  .rename_i c;subst c;simp
  .simp only[Bf,Bw,ND (l:=r)];constructor
   .rintro (h|h|h)
    .exact .inr (.inl h)
    .exact .inl h
    .exact .inr (.inr h)
   .rintro (h|h|h)
    .exact .inr (.inl h)
    .exact .inl h
    .exact .inr (.inr h)
def qO{β:Type}{p:Ad}{v:β}: ∀{l:List (Ad×β)},(l.map Prod.fst).Nodup->((BJ l p v).map Prod.fst).Nodup
 |[],_=>by simp[BJ]
 |(k,w)::r,h=>by
  simp only[Bf,KO] at h;simp only[BJ];split
  .rename_i c;subst c;simp only[Bf,KO];exact h
  .rename_i c;simp only[Bf,KO];refine⟨λz=> ?_,qO h.2⟩;rcases ND.1 z with e|e
   .exact c e.symm
   .exact h.1 e
def Ub{s:AF}{f:Ad->Int}{op:List (Ad×List Int)}{q:Ad}(h:(op.map Prod.fst).Nodup):((K2 s f op q).map Prod.fst).Nodup:=by
 simp only[K2];split
 .exact eL h
 .exact qO h
def Ua{s:AF}{f:Ad->Int}{op:List (Ad×List Int)}{p:Ad}(h:(op.map Prod.fst).Nodup)(q:Ad):BP (K2 s f op p) q=if q=p then Gk (EH s f q) else BP op q:=by
 simp only[K2];by_cases c:G5 s f p s.Set.Tiles.length=[]
 .rw[Al c,eJ q h];by_cases e:q=p
  .subst e;rw[Al rfl,Al rfl,Gk,Al c]
  .rw[Ag e,Ag e]
 .rw[Ag c,nL];by_cases e:q=p
  .subst e;rw[Al rfl,Al rfl,Gk,Ag c]
  .rw[Ag e,Ag e]
def WX{s:AF}{f:Ad->Int}{op:List (Ad×List Int)}{p:Ad}(h:(op.map Prod.fst).Nodup): ∀k,((Hm s f op p k).map Prod.fst).Nodup
 |0=>h
 |k+1=>Ub (WX h k)
def K1(p q:Ad):Prop:= ∃d:Nat,d<4/\CF p d=q
def rE{s:AF}{f:Ad->Int}{op:List (Ad×List Int)}{p:Ad}(h:(op.map Prod.fst).Nodup)(q:Ad): ∀k,(∀d:Nat,d<k->CF p d≠q)/\BP (Hm s f op p k) q=BP op q\/(∃d:Nat,d<k/\CF p d=q)/\BP (Hm s f op p k) q=Gk (EH s f q)
 |0=> .inl ⟨λd hd=>absurd hd (by omega),rfl⟩
 |k+1=>by
  have ih:=rE (s:=s) (f:=f) (p:=p) h q k;simp only[Hm,Ua (WX h k)];by_cases c:q=CF p k
  .rw[Al c];exact .inr ⟨⟨k,by omega,c.symm⟩,rfl⟩
  .rw[Ag c];rcases ih with ⟨G,z⟩|⟨⟨d,G,z⟩,O⟩
   .refine .inl ⟨λd hd=> ?_,z⟩;by_cases e:d=k
    .subst e;exact λh=>c h.symm
    .exact G d (by omega)
   .exact .inr ⟨⟨d,by omega,z⟩,O⟩
def cR{s:AF}{f:Ad->Int}{op:List (Ad×List Int)}{p:Ad}(h:(op.map Prod.fst).Nodup)(q:Ad):(¬K1 p q/\BP (Hm s f op p 4) q=BP op q)\/(K1 p q/\BP (Hm s f op p 4) q=Gk (EH s f q)):=by
 rcases rE (s:=s) (f:=f) h q 4 with ⟨z,G⟩|h
 .exact .inl ⟨λ⟨d,hd,e⟩=>z d hd e,G⟩
 .exact .inr h
def Qj(p:Ad){d:Nat}(h:d<4):CF (CF p d) ((d+2) % 4:Nat)=p:=by
 rcases (by omega:d=0\/d=1\/d=2\/d=3) with rfl|rfl|rfl|rfl<;>simp[CF]<;>omega
def eC{p q:Ad}(h:K1 p q):K1 q p:=by
 obtain⟨d,hd,rfl⟩:=h;exact⟨(d+2) % 4,by omega,Qj p hd⟩
def dW{s:AF}{f:Ad->Int}(q:Ad): ∀(l:List Aq) (op:List (Ad×List Int)),(op.map Prod.fst).Nodup->
 ((l.foldl (λo x=>Hm s f o x.At 4) op).map Prod.fst).Nodup/\((∀x∈l,¬K1 x.At q)/\BP (l.foldl (λo x=>Hm s f o x.At 4) op) q=BP op q\/(∃x∈l,K1 x.At q)/\BP (l.foldl (λo x=>Hm s f o x.At 4) op) q=Gk (EH s f q))
 |[],op,h=>⟨h,.inl ⟨by simp,rfl⟩⟩
 |x::r,op,h=>by
  simp only[KN];obtain⟨G,O⟩:=dW (s:=s) (f:=f) q r (Hm s f op x.At 4) (WX h 4);refine⟨G,?_⟩;rcases O with ⟨a,b⟩|⟨⟨y,z,a⟩,b⟩
  .rcases cR (s:=s) (f:=f) (p:=x.At) h q with ⟨c,e⟩|⟨c,e⟩
   .refine .inl ⟨λy z=> ?_,b.trans e⟩;rcases Bw.1 z with rfl|z
    .exact c
    .exact a y z
   .exact .inr ⟨⟨x,BS ..,c⟩,b.trans e⟩
  .exact .inr ⟨⟨y,BW _ z,a⟩,b⟩
def ZO{l:List Aq}: ∀{q:Ad},0<=Dl (D1 l) q-> ∃x∈l,x.At=q:=by
 have G: ∀(l:List Aq) (t:List (Ad×Int)) (q:Ad),BP (l.foldl (λt x=>BJ t x.At x.Tile) t) q≠none->(∃x∈l,x.At=q)\/BP t q≠none:=by
  intro l;induction l with
  |nil=>intro t q h;exact .inr h
  |cons x r ih=>
   intro t q h;rcases ih _ q h with ⟨y,O,e⟩|z
   .exact .inl ⟨y,BW _ O,e⟩
   .rw[nL] at z;split at z
    .rename_i e;exact .inl ⟨x,BS ..,e.symm⟩
    .exact .inr z
 intro q h;rcases G l [] q (λe=>by
  simp only[Dl,D1,e,Option.getD_none] at h;omega) with z|z
 .exact z
 .simp[BP] at z
def kG{s:AF}{l:List Aq}(O:1<=s.Temperature):NN s (Dl (D1 l)) (Iy s (Dl (D1 l)) l):=by
 have hn:(([]:List (Ad×List Int)).map Prod.fst).Nodup:=by simp
 refine⟨(dW ⟨0,0⟩ l [] hn).1,λq=> ?_⟩;rcases (dW (s:=s) (f:=Dl (D1 l)) q l [] hn).2 with ⟨G,z⟩|⟨_,z⟩
 .rw[Iy,z]
  have:EH s (Dl (D1 l)) q=[]:=by
   refine qV O (λd hd=> ?_) _;apply bX;intro h;obtain⟨x,Q,e⟩:=ZO (l:=l) (q:=CF q d) (by omega);exact G x Q (eC (e▸⟨d,hd,rfl⟩))
  rw[Gk,Al this];rfl
 .exact z
def kH{s:AF}{z:List (Ad×Int)}{op:List (Ad×List Int)}{p:Ad}{t:Int}(h:NN s (Dl z) op)(ht:0<=t):
 NN s (Dl (BJ z p t)) (Hm s (Dl (BJ z p t)) (E3 op p) p 4):=by
 have hn:=eL (p:=p) h.1;have G: ∀q,Dl (BJ z p t) q=if q=p then t else Dl z q:=λq=>by
  simp only[Dl,nL];split<;>rfl
 refine⟨WX hn 4,λq=> ?_⟩;rcases cR (s:=s) (f:=Dl (BJ z p t)) (p:=p) hn q with ⟨Z,O⟩|⟨_,O⟩
 .rw[O,eJ q h.1];by_cases e:q=p
  .rw[Al e,Gk,Al (rP (by rw[G,Al e];exact ht) _)]
  .rw[Ag e,h.2 q]
   have:EH s (Dl (BJ z p t)) q=EH s (Dl z) q:=by
    refine rL (by rw[G,Ag e]) (λd hd=> ?_) _;rw[G,Ag];intro Q;exact Z (eC ⟨d,hd,Q⟩)
   rw[this]
 .exact O
def Ek(p:Ad):List Ad->List Ad
 |[]=>[p]
 |y::r=>if Bv y p=true then y::Ek p r else if y=p then y::r else p::y::r
def Et(l:List Ad):List Ad:=l.foldr Ek []
abbrev Ko(l:List Ad):Prop:=l.Pairwise λa b=>Bv a b=true
def WU{a b c:Ad}(z:Bv a b=true)(G:Bv b c=true):Bv a c=true:=by simp only[Bv] at*;grind
def dU(a:Ad):Bv a a=false:=by simp[Bv]
def eE{a b:Ad}(Z:Bv a b=false)(h2:a≠b):Bv b a=true:=by
 obtain⟨G,O⟩:=a;obtain⟨Q,z⟩:=b;simp only[Bv,ne_eq,Ad.mk.injEq] at*
 grind
def WT{p q:Ad}: ∀{l:List Ad},q∈Ek p l↔q=p\/q∈l
 |[]=>by simp[Ek]
 |y::r=>by
  simp only[Ek];split
  .simp only[Bw,WT (l:=r)];constructor
   .rintro (h|h|h)
    .exact .inr (.inl h)
    .exact .inl h
    .exact .inr (.inr h)
   .rintro (h|h|h)
    .exact .inr (.inl h)
    .exact .inl h
    .exact .inr (.inr h)
  .split
   .rename_i c;subst c;simp
   .simp
def dY{p:Ad}: ∀{l:List Ad},Ko l->Ko (Ek p l)
 |[],_=>by simp[Ek]
 |y::r,h=>by
  rw[Ko,W3] at h;simp only[Ek];split
  .rename_i c;rw[Ko,W3];refine⟨λz G=> ?_,dY h.2⟩;rcases WT.1 G with rfl|G
   .exact c
   .exact h.1 z G
  .rename_i c;split
   .rw[Ko,W3];exact h
   .rename_i e;have O:=eE (by simpa using c) e;rw[Ko,W3,W3];refine⟨λz G=> ?_,h⟩;rcases Bw.1 G with rfl|G
    .exact O
    .exact WU O (h.1 z G)
def Oe: ∀(l:List Ad),Ko (Et l)
 |[]=>List.Pairwise.nil
 |_::r=>dY (Oe r)
def K3{q:Ad}: ∀{l:List Ad},q∈Et l↔q∈l
 |[]=>by simp[Et]
 |x::r=>by
  have:Et (x::r)=Ek x (Et r):=rfl
  rw[this,WT,K3 (l:=r),Bw]
def Lk{l:List Ad}(h:Ko l):l.Nodup:=by
 refine ZeP (λ{a b} z e=> ?_) h;rw[e,dU] at z;cases z
def eF{l m:List Ad}(z:Ko l)(G:Ko m)(h: ∀q,q∈l↔q∈m):l=m:=by
 have hp:l.Perm m:=(ZeG (Lk z) (Lk G)).2 h;refine ZdV (le:=λa b=>Bv a b=true) (λa b _ _ g1 g2=> ?_) z G hp
 have:=WU g1 g2
 rw[dU] at this;cases this
def Eh(a:Ao)(p:Ad)(l:List Ad):Nat->List Ad
 |0=>l
 |k+1=>if F7 (CF p k)=true/\BM a (CF p k)<0 then Ek (CF p k) (Eh a p l k) else Eh a p l k
def CG(a:Ao):Nat->List Ad
 |0=>[]
 |i+1=>Eh a ((a.Tiles[i]?.map Aq.At).getD ⟨0,0⟩) (CG a i) 4
def WS{a:Ao}{p:Ad}{l:List Ad}(h:Ko l): ∀k,Ko (Eh a p l k)
 |0=>h
 |k+1=>by
  simp only[Eh];split
  .exact dY (WS h k)
  .exact WS h k
def eD(a:Ao): ∀i,Ko (CG a i)
 |0=>List.Pairwise.nil
 |i+1=>WS (eD a i) 4
def qX{a:Ao}{p q:Ad}{l:List Ad}: ∀k,q∈Eh a p l k↔q∈l\/(F7 q=true/\BM a q<0)/\ ∃d:Nat,d<k/\CF p d=q
 |0=>by simp[Eh]
 |k+1=>by
  simp only[Eh];have ih:=qX (a:=a) (p:=p) (q:=q) (l:=l) k;split
  .rename_i c;rw[WT,ih];constructor
   .rintro (rfl|h|⟨h,d,G,z⟩)
    .exact .inr ⟨c,k,by omega,rfl⟩
    .exact .inl h
    .exact .inr ⟨h,d,by omega,z⟩
   .rintro (h|⟨h,d,G,z⟩)
    .exact .inr (.inl h)
    .by_cases e:d=k
     .subst e;exact .inl z.symm
     .exact .inr (.inr ⟨h,d,by omega,z⟩)
  .rename_i c;rw[ih];constructor
   .rintro (h|⟨h,d,G,z⟩)
    .exact .inl h
    .exact .inr ⟨h,d,by omega,z⟩
   .rintro (h|⟨h,d,G,z⟩)
    .exact .inl h
    .by_cases e:d=k
     .subst e;subst z;exact absurd h c
     .exact .inr ⟨h,d,by omega,z⟩
def Rk{a:Ao}{q:Ad}: ∀i,i<=a.Tiles.length->(q∈CG a i↔(F7 q=true/\BM a q<0)/\ ∃x∈a.Tiles.take i,K1 x.At q)
 |0,_=>by simp[CG]
 |i+1,Q=>by
  have O:a.Tiles[i]? =some (a.Tiles[i]'(by omega)):=BB (by omega);simp only[CG];rw[qX,Rk i (by omega),Ww O,O,Ez,AW];constructor
  .rintro (⟨h,x,z,G⟩|⟨h,G⟩)
   .exact⟨h,x,IG _ z,G⟩
   .exact⟨h,_,OB _ (BS ..),G⟩
  .rintro⟨h,x,z,G⟩;rcases B2.1 z with z|z
   .exact .inl ⟨h,x,z,G⟩
   .rw[BL] at z;subst z;exact .inr ⟨h,G⟩
def G9(s:AF)(f:Ad->Int)(q:Ad):Nat->List Int
 |0=>[]
 |k+1=>G9 s f q k++(if s.Temperature<=F3 s.Set f q k 4 then [(k:Int)] else [])
def WY(s:AF)(f:Ad->Int)(q:Ad): ∀k,(G9 s f q k).length<=k
 |0=>by simp[G9]
 |k+1=>by
  have:=WY s f q k
  simp only[G9,Bz]
  split<;>simp<;>omega
def rG{s:AF}{f:Ad->Int}{q:Ad}(z:F7 q=true)(G:f q<0): ∀n,G5 s f q n=G9 s f q n
 |0=>rfl
 |n+1=>by
  simp only[G5,G9,rG z G n,O4,z,W0 G,ED,C7]
def Pq(p:Ad)(k:Int):Be:=⟨p,k⟩
def CH(g:Ad->List Int)(l:List Ad):List Be:=l.flatMap λp=>(g p).map (Pq p)
def DR(s:AF)(a:Ao):List Be:=CH (λp=>G9 s (BM a) p s.Set.Tiles.length) (CG a a.Tiles.length)
def Hd(op:List (Ad×List Int)):List Be:=CH (λp=>(BP op p).getD []) (Et (op.map Prod.fst))
def qM{g:Ad->List Int}: ∀(l:List Ad),CH g (l.filter λp=> !(g p).isEmpty)=CH g l
 |[]=>rfl
 |p::r=>by
  have ih:=qM (g:=g) r;simp only[CH] at ih;simp only[CH,Zeo];split
  .simp only[FD,ih]
  .rename_i c
   have:g p=[]:=by simpa using c
   simp only[FD,ih,this,Bg,Dv]
def dV{g h:Ad->List Int}: ∀(l:List Ad),(∀p∈l,g p=h p)->CH g l=CH h l
 |[],_=>rfl
 |p::r,z=>by
  simp only[CH,FD];rw[z p (BS ..)]
  have:=dV r λq hq=>z q (BW _ hq)
  simp only[CH] at this;rw[this]
def XZ{a:Ao}{q:Ad}(h:0<=BM a q): ∃x∈a.Tiles,x.At=q:=by
 simp only[BM] at h;cases e:a.Tiles.find? (λx=>decide (x.At=q)) with
 |none=>rw[e] at h;simp at h
 |some x=>exact⟨x,Zdp e,by simpa using nS e⟩
def U9{s:AF}{a:Ao}{op:List (Ad×List Int)}(hT:1<=s.Temperature)(h:NN s (BM a) op):Hd op=DR s a:=by
 have G: ∀q,EH s (BM a) q≠[]->q∈CG a a.Tiles.length:=λq hq=>by
  rw[Rk _ (AU _),IF];have h0:BM a q<0:=by
   apply bX;intro c;exact hq (rP (by omega) _)
  have hp:F7 q=true:=by
   apply bX;intro c;exact hq (WQ (λk=>by simp only[O4];rw[QN] at c;rw[c];rfl) _)
  refine⟨⟨hp,h0⟩,?_⟩;apply bX;intro c;refine hq (qV hT (λd hd=> ?_) _);apply bX;intro c2;obtain⟨x,hx,e⟩:=XZ (a:=a) (q:=CF q d) (by omega);exact c ⟨x,hx,eC ⟨d,hd,e.symm⟩⟩
 have Q: ∀q∈CG a a.Tiles.length,G9 s (BM a) q s.Set.Tiles.length=EH s (BM a) q:=λq hq=>by
  rw[Rk _ (AU _)] at hq;exact (rG hq.1.1 hq.1.2 _).symm
 have O: ∀q,(BP op q).getD []=EH s (BM a) q:=λq=>by
  rw[h.2 q,Gk];split
  .rename_i e;rw[e];rfl
  .rfl
 have Z:DR s a=CH (EH s (BM a)) (CG a a.Tiles.length):=dV _ Q;have e2:Hd op=CH (EH s (BM a)) (Et (op.map Prod.fst)):=dV _ λq _=>O q
 rw[Z,e2,<-qM (CG a a.Tiles.length)];congr 1;refine eF (Oe _) ((eD a _).filter _) (λq=> ?_);rw[K3,jM,h.2 q,Gk,iK];constructor
 .intro hq;have z:EH s (BM a) q≠[]:=λe=>hq (Al e)
  exact⟨G q z,by simpa using z⟩
 .rintro⟨_,hq⟩;have z:EH s (BM a) q≠[]:=by simpa using hq
  rw[Ag z];simp
def Fe(p:Ad)(l:List Ad):Nat:=(l.takeWhile λy=>Bv y p).length
def rF(p:Ad): ∀(l:List Ad),Ek p l=if l[Fe p l]? =some p then l else l.take (Fe p l)++p::l.drop (Fe p l)
 |[]=>by simp[Ek,Fe]
 |y::r=>by
  have ih:=rF p r;simp only[Ek];by_cases c:Bv y p=true
  .have e:Fe p (y::r)=Fe p r+1:=by simp[Fe,bT,c]
   rw[Al c,ih,e,Kf];split
   .rfl
   .simp
  .have e:Fe p (y::r)=0:=by simp[Fe,bT,c]
   rw[Ag c,e];simp
def MZ{p:Ad}: ∀{l:List Ad} {k:Nat},Ko l->k<=l.length->(∀(i:Nat) (y:Ad),k<=i->l[i]? =some y->Bv y p=false)->(∀y,k≠0->l[k - 1]? =some y->Bv y p=true)->Fe p l=k
 |[],k,_,G,_,_=>by simp at G;simp[Fe,G]
 |y::r,0,_,_,O,_=>by
  have:=O 0 y (AU _) rfl
  simp[Fe,bT,this]
 |y::r,k+1,Z,G,O,Q=>by
  rw[Ko,W3] at Z;have hy:Bv y p=true:=by
   cases k with
   |zero=>exact Q y (by omega) rfl
   |succ k=>
    have aa:k+1<(y::r).length:=by simp at G⊢;omega
    have h3:=Q _ (by omega) (BB (l:=y::r) (i:=k+1) aa);refine WU (Z.1 _ ?_) h3;simp
  have ih:=MZ (p:=p) (l:=r) (k:=k) Z.2 (by simpa using G) (λi z hi hz=>O (i+1) z (by omega) (by simpa using hz)) (λz ab hz=>Q z (by omega) (by
   obtain⟨m,rfl⟩: ∃m,k=m+1:=⟨k - 1,by omega⟩;simpa using hz))
  simp only[Fe] at ih;simp[Fe,bT,hy,ih]
def Nv(p:Ad)(l:List Ad)(i:Nat):List Ad:=(l++[p]).take (i+1)++l.drop i
def dZ{p:Ad}{l:List Ad}{i:Nat}(h:i<=l.length):(Nv p l i).length=l.length+1:=by simp[Nv];omega
def Zz(p:Ad)(l:List Ad):Nv p l l.length=l++[p]:=by simp[Nv,GW]
def V4{p x:Ad}{l:List Ad}{i:Nat}(h:i+1<=l.length)(Z:(Nv p l (i+1))[i]? =some x):(Nv p l (i+1)).set (i+1) x=Nv p l i:=by
 have z:l[i]? =some x:=by
  rw[<-Z,Nv,F4 (by simp;omega),bU,Al (by omega),F4 (by omega)]
 apply QM;intro j;have Q:((l++[p]).take (i+1+1)).length=i+2:=by simp;omega
 have G:((l++[p]).take (i+1)).length=i+1:=by simp;omega
 by_cases c:j=i+1
 .subst c;rw[Ey (by rw[dZ h];omega),Nv,G6 (by omega),G,Ii,Jf,W5,z]
 .rw[Ep (Ft c)];simp only[Nv];by_cases O:j<i+1
  .rw[F4 (by omega),F4 (by omega),bU,bU,Al (by omega),Al O]
  .rw[G6 (by omega),G6 (by omega),Q,G,Jf,Jf];congr 1;omega
def Z0{p:Ad}{l:List Ad}{k:Nat}(h:k<=l.length):(Nv p l k).set k p=l.take k++p::l.drop k:=by
 apply QM;intro j;have O:((l++[p]).take (k+1)).length=k+1:=by simp;omega
 have z:(l.take k).length=k:=by simp;omega
 by_cases c:j=k
 .subst c;rw[Ey (by rw[dZ h];omega),G6 (by omega),z,Ii];simp
 .rw[Ep (Ft c)];simp only[Nv];by_cases G:j<k
  .rw[F4 (by omega),F4 (by omega),bU,bU,Al (by omega),Al G,F4 (by omega)]
  .obtain⟨m,rfl⟩: ∃m,j=k+1+m:=⟨j - (k+1),by omega⟩;rw[G6 (by omega),G6 (by omega),O,z,Jf,show k+1+m - k=m+1 by omega,Kf,Jf];congr 1;omega
def Lr{p q:Ad}:((p.X==q.X)=true/\(p.Y==q.Y)=true)↔p=q:=by
 obtain⟨z,G⟩:=p;obtain⟨O,Q⟩:=q;simp
def putQ.ca(a:List Ad×Ad):List AV:=[.own 0,.im (.agg [.int .i64 a.2.X,.int .i64 a.2.Y])]
def putQ.H0(a:List Ad×Ad):Ar:=[(0,(true,.arr 62 2 (a.1.map Ad.c)))]
def putQ.H1(a:List Ad×Ad):Ar:=[(1,(true,.arr 62 2 ((Ek a.2 a.1).map Ad.c)))]
def Lg(j:Nat):Bool:=j==0
def putQ.row:AG:=Az putQ.ca putQ.H0 1 (λa=>Ko a.1/\a.1.length<=1000000) Lg (λ_=> .own 1) putQ.H1 1
def RH:=J @l_LessPoint.q @l_LessPoint.fv.eq_1
def putQ.ok:AJ 114 putQ.row:=by
 refine Ha (tC l_LessPoint.ok tN) Tryz.func114 (exB:=λj=>j==1) (R:=λ_ r=>r= .own 1) (λ_=>rfl)
  (λa=>by simp[putQ.ca,putQ.H0,putQ.H1,Lg,AQ,AV.bel,AB,Cg,Cs,Ah.nms,Ax,AV.nms,An,hget]) (λa p hp=> ?_) (λa r h=>by subst h;exact D2.refl _) ?_
 rotate_left
 intro a af;simp only[Tryz.f114,Option.getD,putQ.ca,putQ.H0,putQ.H1,Lg];simp only[ZZ,simprocAttr,Ab,RH,AD,Av,putQ.ca,putQ.H0,putQ.H1,Lg];rotate_left
 .simp[putQ.H1] at hp;subst hp;exact .inr ⟨by omega,by omega,rfl,rfl⟩
 obtain⟨l,p⟩:=a;obtain⟨hl,hn⟩:=af;simp only at hl hn⊢;intro _;refine AZ.old ⟨{k:Nat//k<=l.length/\ ∀(i:Nat) (y:Ad),k<=i->l[i]? =some y->Bv y p=false},λk=>⟨[(5,.im (.int .i64 k.1)),(3,.ptr 1 0),(0,.own 0)],[(1,(true,.cells 62 [.im (.int .i64 p.X),.im (.int .i64 p.Y)])),(0,(true,.arr 62 2 (l.map Ad.c)))],3⟩,λk=>k.1,λk=>⟨by simp[ZG],by simp⟩,⟨⟨l.length,AU _,λi y hi Z=>by rw[HK hi] at Z;cases Z⟩,by simp only[ZZ,simprocAttr,Ab,RH,AD,Av,putQ.ca,putQ.H0,putQ.H1,Lg,sub]⟩,λk=> ?_⟩;obtain⟨k,hk,ac⟩:=k;simp only[ZZ,simprocAttr,Ab,RH,AD,Av,putQ.ca,putQ.H0,putQ.H1,Lg,sub,AS,Du];have Q:0<k->IntKind.i64.wrap ((k:Int) - 1)=((k - 1:Nat):Int):=λh=>by rw[AH (by omega) (by omega)];omega
 refine⟨λab=>⟨by rw[Q (by omega)];omega,by rw[Q (by omega)];omega,by rw[Q (by omega)];omega,λx hx=>⟨λaa=> ?r,λaa=>⟨λO=>⟨O,O,λy Z=>⟨λe=> ?a1,λe=> ?b1⟩⟩,λO=> ?b2⟩⟩⟩,λab=>⟨λO=>⟨O,O,λy Z=>⟨λe=> ?a2,λe=> ?b3⟩⟩,λO=> ?b4⟩⟩
 case r=>
  rw[Q (by omega),B5] at hx;refine⟨⟨k - 1,by omega,λi y hi Z=> ?_⟩,by simp only;omega,by rw[Q (by omega)]⟩;by_cases c:i=k - 1
  .subst c;obtain rfl:=AC (hx.symm.trans Z);exact aa
  .exact ac i y (by omega) Z
 all_goals
  have ad:Fe p l=k:=MZ hl hk ac (λy aq Z=>by
   first
    |(rw[Q (by omega),B5] at hx;obtain rfl:=AC (hx.symm.trans Z);simpa using aa)
    |(exact absurd (by omega) ab))
  have G:=rF p l;rw[ad] at G
 case a1=>
  have ey:y=p:=Lr.1 e;rw[Z,ey,Al rfl] at G;refine⟨[],[(1,some 0)],⟨[(4,.own 1)],putQ.H1 (l,p),2⟩,?_,by simp[putQ.H1,ZG],by simp,?_⟩
  .simp only[Am,putQ.H1,G];simp only[ZZ,simprocAttr,Ab,RH,AD,Av,putQ.ca,putQ.H0,putQ.H1,Lg,AN,AM]
  .simp only[ZZ,simprocAttr,Ab,RH,AD,Av,putQ.ca,putQ.H0,putQ.H1,Lg,putQ.H1]
 case a2=>
  have ey:y=p:=Lr.1 e;rw[Z,ey,Al rfl] at G;refine⟨[],[(1,some 0)],⟨[(4,.own 1)],putQ.H1 (l,p),2⟩,?_,by simp[putQ.H1,ZG],by simp,?_⟩
  .simp only[Am,putQ.H1,G];simp only[ZZ,simprocAttr,Ab,RH,AD,Av,putQ.ca,putQ.H0,putQ.H1,Lg,AN,AM]
  .simp only[ZZ,simprocAttr,Ab,RH,AD,Av,putQ.ca,putQ.H0,putQ.H1,Lg,putQ.H1]
 all_goals
  have am:l[k]? ≠some p:=λh=>by
   first
    |(obtain rfl:=AC (Z.symm.trans h);exact e (Lr.2 rfl))
    |(rw[HK (by omega)] at h;cases h)
  rw[Ag am] at G;have ah:l.map Ad.c++[[D.int .i64 p.X,D.int .i64 p.Y]]=(l++[p]).map Ad.c:=by rw[CV];rfl
  rw[ah];refine⟨by omega,λ_=> ?_⟩;refine AZ.old ⟨{i:Nat//k<=i/\i<=l.length},λi=>⟨[(6,.im (.int .i64 i.1)),(5,.im (.int .i64 k)),(0,.own 4),(3,.ptr 1 0)],[(4,(true,.arr 62 2 ((Nv p l i.1).map Ad.c))),(1,(true,.cells 62 [.im (.int .i64 p.X),.im (.int .i64 p.Y)]))],5⟩,λi=>i.1,λi=>⟨by simp[ZG],by simp⟩,⟨⟨l.length,hk,AU _⟩,?_⟩,λi=> ?_⟩
  .simp only[ZZ,simprocAttr,Ab,RH,AD,Av,putQ.ca,putQ.H0,putQ.H1,Lg,sub,Zz];rw[Bz,RQ,AH (by omega) (by omega)];omega
  obtain⟨i,au,ai⟩:=i;have ao:=dZ (p:=p) ai;simp only[ZZ,simprocAttr,Ab,RH,AD,Av,putQ.ca,putQ.H0,putQ.H1,Lg,sub,AS,Du,ao];refine⟨λak=> ?_,λak=>⟨by omega,by omega,λx hx=> ?_⟩⟩
  .have aj:IntKind.i64.wrap ((i:Int) - 1)=((i - 1:Nat):Int):=by rw[AH (by omega) (by omega)];omega
   rw[aj,B5];refine⟨by omega,by omega,by omega,λx hx=>⟨by omega,by omega,λz hz=>⟨⟨i - 1,by omega,by omega⟩,by simp only;omega,rfl,?_⟩⟩⟩;have ag:=V4 (p:=p) (x:=x) (l:=l) (i:=i - 1) (by omega) (by rwa [show i - 1+1=i by omega]);rw[show i - 1+1=i by omega] at ag;rw[<-ag,RU];rfl
  .obtain rfl:i=k:=by omega
   have an:((Nv p l i).map Ad.c).set i [D.int .i64 p.X,D.int .i64 p.Y]=(Ek p l).map Ad.c:=by
    rw[G,<-Z0 hk,RU];rfl
   refine⟨[],[(1,some 4)],⟨[(4,.own 1)],putQ.H1 (l,p),2⟩,?_,by simp[putQ.H1,ZG],by simp,?_⟩
   .simp only[Am,putQ.H1,an];simp only[ZZ,simprocAttr,Ab,RH,AD,Av,putQ.ca,putQ.H0,putQ.H1,Lg,AN,AM]
   .simp only[ZZ,simprocAttr,Ab,RH,AD,Av,putQ.ca,putQ.H0,putQ.H1,Lg,putQ.H1]
def UN(a:List Ad×Ad)(j:Nat):An (putQ.H0 a) j=true↔j<1:=by
 simp only[An,putQ.H0,hget];by_cases z:j=0
 .subst z;simp
 .have:(0==j)=false:=by simpa using λh=>z h.symm
  rw[this];simp;omega
def rH(p:Ad): ∀(l:List Ad),(Ek p l).length<=l.length+1
 |[]=>by simp[Ek]
 |y::r=>by
  have:=rH p r
  simp only[Ek];split
  .simp only[CR];omega
  .split<;>simp
def eB(a:Ao)(p:Ad)(l:List Ad): ∀k,(Eh a p l k).length<=l.length+k
 |0=>by simp[Eh]
 |k+1=>by
  have:=eB a p l k
  simp only[Eh];split
  .have:=rH (CF p k) (Eh a p l k);omega
  .omega
def WR(a:Ao): ∀i,(CG a i).length<=4*i
 |0=>by simp[CG]
 |i+1=>by
  have:=WR a i
  have:=eB a ((a.Tiles[i]?.map Aq.At).getD ⟨0,0⟩) (CG a i) 4
  simp only[CG];omega
def nearS_.fv(a:Ao):List Ad:=(λa=>CG a a.Tiles.length) a
def nearS_.row:AG:=vK (b1 (qP 1 Ao.d_le)) (rS Ad.d_le Ad.c_n) (λa=>Ed none a.Tiles=true/\a.Tiles.length<=1000/\ ∃s,∀x∈a.Tiles,GO s x.Tile) nearS_.fv
def nearS_.q:=B3 (R:=nearS_.row) rfl
def Wx:=J @nearS_.fv.eq_1<|J @l01Step.q<|J @l01Step.fv.eq_1<|J @l01Point.q<|J @l01Point.fv.eq_1<|J @l03Index.q @l03Index.fv.eq_1
def nearS_.ok:AJ 84 nearS_.row:=by
 refine vw (tC l01Step.ok (tC l01Point.ok (tC l03Index.ok (tC putQ.ok tN)))) Tryz.func84 ?_;intro a Z;simp only[Tryz.f84,Option.getD];simp only[ZZ,simprocAttr,Ab,Wx];obtain⟨h1,h2,s0,h3⟩:=Z;refine AZ.ren ⟨{i:Nat//i<=a.Tiles.length},λi=>⟨[(4,.im (.int .i64 i.1)),(3,.own 3),(0,.ptr 0 0)],[(3,(true,.arr 62 2 ((CG a i.1).map Ad.c))),(0,(false,.view (Ao.c a)))],4⟩,λi=>a.Tiles.length - i.1,λi=>⟨by simp[ZG],by simp⟩,⟨⟨0,BV _⟩,[(3,some 2)],?_⟩,λi=> ?_⟩
 .simp only[Am];simp only[ZZ,simprocAttr,Ab,Wx,AN,AM,CG,Bg]
  try simp
 obtain⟨i,hi⟩:=i;simp only[ZZ,simprocAttr,Ab,Wx,sub,AS];intro _;refine⟨λz=> ?_,λz=> ?_⟩;rotate_left
 .obtain rfl:i=a.Tiles.length:=by omega
  rfl
 obtain⟨x,hx⟩: ∃x,a.Tiles[i]? =some x:=⟨_,BB z⟩;have af:=(zK _ _ h1 x (Bh hx)).1;have e1:CG a (i+1)=Eh a x.At (CG a i) 4:=by simp only[CG,hx];rfl
 have ag:=WR a i;have ac:=eD a i;refine AZ.ren ⟨{d:Nat//d<=4},λd=>⟨[(5,.im (.int .i64 d.1)),(4,.im (.int .i64 i)),(3,.own 4),(0,.ptr 0 0)],[(4,(true,.arr 62 2 ((Eh a x.At (CG a i) d.1).map Ad.c))),(0,(false,.view (Ao.c a)))],5⟩,λd=>4 - d.1,λd=>⟨by simp[ZG],by simp⟩,⟨⟨0,BV _⟩,[(4,some 3)],?_⟩,λd=> ?_⟩
 .simp only[Am];simp only[ZZ,simprocAttr,Ab,Wx,AN,AM,Eh]
  try simp
 obtain⟨d,hd⟩:=d;have ah:=eB a x.At (CG a i) d;have ad:=WS (a:=a) (p:=x.At) ac d;simp only[ZZ,simprocAttr,Ab,Wx,sub,AS];have Q:IntKind.i64.wrap ((d:Int)+1)=((d+1:Nat):Int):=by rw[AH (by omega) (by omega)];omega
 refine⟨λab=>⟨z,λy hy=> ?_⟩,λab=> ?_⟩;rotate_left
 .obtain rfl:d=4:=by omega
  refine⟨⟨i+1,by omega⟩,[(3,some 4)],by simp only;omega,?_⟩;simp only[Am];simp only[ZZ,simprocAttr,Ab,Wx,AN,AM,e1];rw[AH (by omega) (by omega)];rfl
 obtain rfl:=AC (hx.symm.trans hy);refine⟨⟨tW af,by omega⟩,λO=>⟨h1,λG=> ?_,λG=> ?_⟩,λO=> ?_⟩
 .have aa:=(WZ h3 (CF x.At d)).1 G;refine Az.os (Eh a x.At (CG a i) d,CF x.At d) [4] ⟨ad,by simp only;omega⟩ (UN _) rfl rfl ?_ ?_
  .simp only[ZZ,simprocAttr,Ab,Wx,putQ.ca,putQ.H0,Fs,Br]
  simp only[ZZ,simprocAttr,Ab,Wx,putQ.H1,sub,Lg,Br,Bx];refine⟨⟨d+1,by omega⟩,[(4,some 6)],by simp only;omega,?_⟩;simp only[Am];simp only[ZZ,simprocAttr,Ab,Wx,AN,AM,Eh];rw[Al ⟨O,aa⟩];exact⟨Q,rfl⟩
 all_goals
  refine⟨⟨d+1,by omega⟩,[(4,some 4)],by simp only;omega,?_⟩;simp only[Am];simp only[ZZ,simprocAttr,Ab,Wx,AN,AM,Eh];refine⟨Q,?_⟩;rw[Ag];rintro⟨g1,g2⟩
  first
   |exact G ((WZ h3 _).2 g2)
   |exact O g1
def Tm(s:AE)(a:Ao)(p:Ad):Nat->List Int
 |0=>[]
 |k+1=>Tm s a p k++[if BM a (CF p k)<0 then 0 else ID s (BM a (CF p k)) (((k:Int)+2) % 4)]
def Od(s:AE)(a:Ao)(p:Ad): ∀k,(Tm s a p k).length=k
 |0=>rfl
 |k+1=>by simp[Tm,Od s a p k]
def dX{s:AE}{a:Ao}{p:Ad}: ∀{n k:Nat},k<n->(Tm s a p n)[k]? =some (if BM a (CF p k)<0 then 0 else ID s (BM a (CF p k)) (((k:Int)+2) % 4))
 |0,k,h=>by omega
 |n+1,k,h=>by
  simp only[Tm];by_cases c:k<n
  .rw[F4 (by rw[Od];exact c),dX c]
  .obtain rfl:k=n:=by omega
   rw[G6 (by rw[Od];omega),Od,Ii];rfl
def ZM{s:AE}{a:Ao}{p:Ad}{i:Int}{k:Nat}{g:Int}(z:g=if BM a (CF p k)<0 then 0 else ID s (BM a (CF p k)) (((k:Int)+2) % 4)):(if ID s i k=g then Q6 s g else 0)=QD s (BM a) p i k:=by
 simp only[QD,LC];by_cases c:BM a (CF p k)<0
 .rw[Al c] at z;subst z;rw[Ag (show ¬0<=BM a (CF p k) by omega),Mu (by omega)]
  split<;>rfl
 .rw[Ag c] at z;rw[Al (show 0<=BM a (CF p k) by omega),<-z];split
  .rename_i e;rw[e]
  .rfl
def kW{s:AE}(h:C5 s){t:Int}{d:Int}:0<=ID s t d/\ID s t d<=s.Glues.length:=by
 simp only[ID];cases e:s.Tiles[t.toNat]? with
 |none=>simp
 |some x=>
  simp only[Ez,AW];cases e2:x.Sides[d.toNat]? with
  |none=>simp
  |some g=>
   simp only[AW];exact (h.2.1 x (Bh e)).2 g (Bh e2)
def atQ_.fv(a:AE×Ao×Ad×Int):List Int:=(λs a p t=>G9 ⟨s,a,t⟩ (BM a) p s.Tiles.length) (a.1) (a.2.1) (a.2.2.1) (a.2.2.2)
def atQ_.row:AG:=vK (b4 (qP 2 AE.d_le) (qP 1 Ao.d_le) (qR Ad.d_le) qI) (rS Dj Ct) (λa=>C5 a.1/\HG a.1 a.2.1/\I7 a.2.2.1/\a.1.Tiles.length<=1000000) atQ_.fv
def atQ_.q:=B3 (R:=atQ_.row) rfl
def RI:=J @atQ_.fv.eq_1<|J @l01Step.q<|J @l01Step.fv.eq_1<|J @l03At.q<|J @l03At.fv.eq_1<|J @Opposite_.q<|J @Opposite_.fv.eq_1<|J @l02Strength.q @l02Strength.fv.eq_1
def atQ_.ok:AJ 85 atQ_.row:=by
 refine vw (tC l01Step.ok (tC l03At.ok (tC Opposite_.ok (tC l02Strength.ok tN)))) Tryz.func85 ?_;intro a af;simp only[Tryz.f85,Option.getD];simp only[ZZ,simprocAttr,Ab,RI];obtain⟨s,a,p,t⟩:=a;obtain⟨Q,h2,h3,h4⟩:=af;simp only at Q h2 h3 h4⊢;refine AZ.ren ⟨{d:Nat//d<=4},λd=>⟨[(10,.im (.int .i64 d.1)),(9,.own 5),(6,.ptr 2 0),(0,.ptr 0 0),(1,.ptr 1 0),(3,.im (.int .i64 t))],[(5,(true,.arr 2 1 ((Tm s a p d.1).map Af))),(2,(true,.cells 62 [.im (.int .i64 p.X),.im (.int .i64 p.Y)])),(0,(false,.view (AE.c s))),(1,(false,.view (Ao.c a)))],6⟩,λd=>4 - d.1,λd=>⟨by simp[ZG],by simp⟩,⟨⟨0,BV _⟩,[(5,some 4)],?_⟩,λd=> ?_⟩
 .simp only[Am];simp only[ZZ,simprocAttr,Ab,RI,AN,AM,Tm,Bg]
  try simp
 obtain⟨d,hd⟩:=d;have ak:=Od s a p d;simp only[ZZ,simprocAttr,Ab,RI,sub,AS,Oc,NZ,Ob,BZ,D.one,EL,Fu,Jn];have Z:IntKind.i64.wrap ((d:Int)+1)=((d+1:Nat):Int):=by rw[AH (by omega) (by omega)];omega
 refine⟨λaa=>⟨⟨h3,by omega⟩,h2.1,λhn=>⟨by omega,⟨d+1,by omega⟩,[(5,some 7)],by simp only;omega,?_⟩,λhn=> ?_⟩,λaa=> ?_⟩
 .simp only[Am];simp only[ZZ,simprocAttr,Ab,RI,AN,AM,Tm];rw[Al hn];refine⟨Z,by simp[Af]⟩
 .obtain⟨b1,b2⟩:=WP h2 (CF p d) (by omega);refine⟨b1,b2,λx hx=>⟨by omega,by omega,by rw[(Q.2.1 x (Bh hx)).1];omega,λg hg=>⟨by omega,⟨d+1,by omega⟩,[(5,some 7)],by simp only;omega,?_⟩⟩⟩;have O:ID s (BM a (CF p d)) (((d:Int)+2) % 4)=g:=XC hx hg;simp only[Am];simp only[ZZ,simprocAttr,Ab,RI,AN,AM,Tm];rw[Ag hn,O];refine⟨Z,by simp[Af]⟩
 obtain rfl:d=4:=by omega
 clear Z aa hd;obtain⟨S,hS⟩: ∃S:AF,S=⟨s,a,t⟩:=⟨_,rfl⟩;rw[<-hS];refine AZ.ren ⟨{i:Nat//i<=s.Tiles.length},λi=>⟨[(13,.im (.int .i64 i.1)),(12,.own 7),(9,.own 5),(0,.ptr 0 0),(3,.im (.int .i64 t))],[(7,(true,.arr 2 1 ((G9 S (BM a) p i.1).map Af))),(5,(true,.arr 2 1 ((Tm s a p 4).map Af))),(0,(false,.view (AE.c s))),(1,(false,.view (Ao.c a)))],8⟩,λi=>s.Tiles.length - i.1,λi=>⟨by simp[ZG],by simp⟩,⟨⟨0,BV _⟩,[(7,some 6)],?_⟩,λi=> ?_⟩
 .simp only[Am];simp only[ZZ,simprocAttr,Ab,RI,AN,AM,G9,Bg]
  try simp
 obtain⟨i,hi⟩:=i;have an:=WY S (BM a) p i;simp only[ZZ,simprocAttr,Ab,RI,sub,AS];intro _;refine⟨λab=> ?_,λab=> ?_⟩;rotate_left
 .obtain rfl:i=s.Tiles.length:=by omega
  rfl
 refine AZ.old ⟨{k:Nat//k<=4},λk=>⟨[(15,.im (.int .i64 k.1)),(14,.im (.int .i64 (F3 s (BM a) p i k.1))),(13,.im (.int .i64 i)),(12,.own 7),(9,.own 5),(0,.ptr 0 0),(3,.im (.int .i64 t))],[(7,(true,.arr 2 1 ((G9 S (BM a) p i).map Af))),(5,(true,.arr 2 1 ((Tm s a p 4).map Af))),(0,(false,.view (AE.c s))),(1,(false,.view (Ao.c a)))],8⟩,λk=>4 - k.1,λk=>⟨by simp[ZG],by simp⟩,⟨⟨0,BV _⟩,?_⟩,λk=> ?_⟩
 .simp only[ZZ,simprocAttr,Ab,RI,sub,F3]
 obtain⟨k,hk⟩:=k;simp only[ZZ,simprocAttr,Ab,RI,sub,AS,Oc,NZ,Ob,BZ,D.one,EL,Fu,Jn];have ad:IntKind.i64.wrap ((k:Int)+1)=((k+1:Nat):Int):=by rw[AH (by omega) (by omega)];omega
 have aj:=Qwy Q (BM a) p i k;have am:=Qxd Q (BM a) p i k;have ah:=Od s a p 4;rw[ah];refine⟨λai=>⟨ab,λx hx=>⟨by rw[(Q.2.1 x (Bh hx)).1];omega,λg hg=>⟨by omega,by omega,λy hy=> ?_⟩⟩⟩,λai=> ?_⟩
 .have O:ID s i k=g:=XC (by simpa using hx) (by simpa using hg);rw[dX (by omega),AO] at hy;have G:=ZM (i:=i) hy.symm;rw[O] at G;refine⟨λe=>⟨by omega,by omega,λz hz=> ?_⟩,λe=>⟨⟨k+1,by omega⟩,by simp only;omega,ad,?_⟩⟩
  .rw[dX (by omega),AO] at hz;obtain rfl:y=z:=hy.symm.trans hz;rw[Al e] at G;have ag:0<=y/\y<=s.Glues.length:=by
    have:=kW Q (t:=i) (d:=k)
    rw[O,e] at this;exact this
   refine⟨⟨ag.1,ag.2,Q.1⟩,⟨k+1,by omega⟩,by simp only;omega,ad,?_⟩;rw[G,AH (by omega) (by omega)];rfl
  .rw[Ag e] at G;simp only[F3,<-G];omega
 .obtain rfl:k=4:=by omega
  have ac:IntKind.i64.wrap ((i:Int)+1)=((i+1:Nat):Int):=by rw[AH (by omega) (by omega)];omega
  have e1:S.Temperature=t:=by rw[hS]
  have e2:S.Set=s:=by rw[hS]
  refine⟨λe=>⟨by omega,⟨i+1,by omega⟩,[(7,some 9)],by simp only;omega,?_⟩,λe=>⟨⟨i+1,by omega⟩,[(7,some 7)],by simp only;omega,?_⟩⟩
  .simp only[Am];simp only[ZZ,simprocAttr,Ab,RI,AN,AM,G9,e1,e2];rw[Al e];exact⟨ac,by simp[Af]⟩
  .simp only[Am];simp only[ZZ,simprocAttr,Ab,RI,AN,AM,G9,e1,e2];rw[Ag e,Ck];exact⟨ac,rfl⟩
def cD(s:AF)(a b:Ao)(f:Ad->Int)(p:Ad): ∀n,G9 ⟨s.Set,a,s.Temperature⟩ f p n=G9 s f p n
 |0=>rfl
 |n+1=>by simp only[G9,cD s a b f p n]
def EI(g:Ad->List Int)(l:List Ad)(i:Nat):List Be:=CH g (l.take i)
def rK{g:Ad->List Int}{l:List Ad}{i:Nat}{p:Ad}(h:l[i]? =some p):EI g l (i+1)=EI g l i++(g p).map (Pq p):=by
 simp only[EI,CH,Ww h,wV,FD,IE,Ck]
def WW{g:Ad->List Int}{m:Nat}(z: ∀p,(g p).length<=m): ∀(l:List Ad),(CH g l).length<=l.length*m
 |[]=>by simp[CH]
 |p::r=>by
  have ih:=WW z r
  have:=z p
  simp only[CH] at ih;simp only[CH,FD,Bz,Du,CR,oA];omega
def opsS_.fv(a:AF×Ao):List Be:=(DR) (a.1) (a.2)
def opsS_.row:AG:=vK (b2 (qP 4 AF.d_le) (qP 1 Ao.d_le)) (rS Be.d_le Be.c_n) (λa=>C5 a.1.Set/\HG a.1.Set a.2/\a.2.Tiles.length<=500/\a.1.Set.Tiles.length<=1000) opsS_.fv
def opsS_.q:=B3 (R:=opsS_.row) rfl
def gW:=J @opsS_.fv.eq_1<|J @nearS_.q<|J @nearS_.fv.eq_1<|J @atQ_.q @atQ_.fv.eq_1
def opsS_.ok:AJ 61 opsS_.row:=by
 refine vw (tC nearS_.ok (tC atQ_.ok tN)) Tryz.func61 ?_;intro a Q;simp only[Tryz.f61,Option.getD];simp only[ZZ,simprocAttr,Ab,gW];obtain⟨s,a⟩:=a;obtain⟨h1,Z,h3,h4⟩:=Q;simp only at h1 Z h3 h4⊢;refine⟨⟨Z.1,by omega,s.Set,Z.2⟩,?_⟩;obtain⟨L,hL⟩: ∃L,L=CG a a.Tiles.length:=⟨_,rfl⟩;obtain⟨g,hg⟩: ∃g,g=λp=>G9 s (BM a) p s.Set.Tiles.length:=⟨_,rfl⟩
 have ac:DR s a=CH g L:=by rw[hg,hL];rfl
 rw[ac];have af:L.length<=2000:=by have:=WR a a.Tiles.length;rw[hL];omega
 have G: ∀p,(g p).length<=1000:=λp=>by have:=WY s (BM a) p s.Set.Tiles.length;rw[hg];simp only;omega
 have aa: ∀p∈L,F7 p=true:=λp hp=>by
  rw[hL,Rk _ (AU _)] at hp;exact hp.1.1
 simp only[<-hL];refine AZ.ren ⟨{i:Nat//i<=L.length},λi=>⟨[(7,.im (.int .i64 i.1)),(6,.im (.sl false 2 (L.map Ad.c))),(5,.own 4),(0,.ptr 0 0),(1,.ptr 1 0)],[(4,(true,.arr 107 3 ((EI g L i.1).map Be.c))),(0,(false,.view (AF.c s))),(1,(false,.view (Ao.c a)))],5⟩,λi=>L.length - i.1,λi=>⟨by simp[ZG],by simp⟩,⟨⟨0,BV _⟩,[(4,some 3)],?_⟩,λi=> ?_⟩
 .simp only[Am];simp only[ZZ,simprocAttr,Ab,gW,AN,AM,EI,Hp,CH,IE,Bg]
  try simp
 obtain⟨i,hi⟩:=i;simp only[ZZ,simprocAttr,Ab,gW,sub,AS];intro _;refine⟨λz=> ?_,λz=> ?_⟩;rotate_left
 .obtain rfl:i=L.length:=by omega
  rw[EI,IF]
 have ah:(EI g L i).length<=2000*1000:=by
  have:=WW G (L.take i)
  have h9:(L.take i).length*1000<=2000*1000:=Ig _ (by simp;omega);simp only[EI];omega
 refine⟨z,λp hp=> ?_⟩;have ad:=aa p (Bh hp);refine⟨⟨h1,Z,tW ad,by omega⟩,?_⟩;have ab:G9 ⟨s.Set,a,s.Temperature⟩ (BM a) p s.Set.Tiles.length=g p:=by rw[cD _ _ a,hg]
 rw[ab];have ag:=G p;refine AZ.ren ⟨{k:Nat//k<=(g p).length},λk=>⟨[(9,.im (.int .i64 k.1)),(8,.im (.sl false 1 ((g p).map Af))),(7,.im (.int .i64 i)),(6,.im (.sl false 2 (L.map Ad.c))),(5,.own 5),(0,.ptr 0 0),(1,.ptr 1 0)],[(5,(true,.arr 107 3 ((EI g L i++((g p).take k.1).map (Pq p)).map Be.c))),(0,(false,.view (AF.c s))),(1,(false,.view (Ao.c a)))],6⟩,λk=>(g p).length - k.1,λk=>⟨by simp[ZG],by simp⟩,⟨⟨0,BV _⟩,[(5,some 4)],?_⟩,λk=> ?_⟩
 .simp only[Am];simp only[ZZ,simprocAttr,Ab,gW,AN,AM,Hp,Bg,Ck]
  try simp
 obtain⟨k,hk⟩:=k;simp only[ZZ,simprocAttr,Ab,gW,sub,AS,Oc,NZ,Ob,BZ,D.one,EL,Fu,Jn,Bz];intro _;refine⟨λO=>⟨z,λq hq=>⟨O,λx hx=>⟨?_,⟨k+1,by omega⟩,[(5,some 7)],by simp only;omega,?_⟩⟩⟩,λO=>⟨⟨i+1,by omega⟩,[(4,some 5)],by simp only;omega,?_⟩⟩
 .have:((g p).take k).length<=1000:=by simp;omega
  omega
 .obtain rfl:=AC (hp.symm.trans hq);simp only[Am];simp only[ZZ,simprocAttr,Ab,gW,AN,AM];refine⟨by rw[AH (by omega) (by omega)];rfl,?_⟩;rw[Ww hx];simp[Pq,Be.c,Ad.c]
 .obtain rfl:k=(g p).length:=by omega
  simp only[Am];simp only[ZZ,simprocAttr,Ab,gW,AN,AM];refine⟨by rw[AH (by omega) (by omega)];rfl,?_⟩;rw[rK hp,IF]
end Go.Ae
namespace Go.Ae
open Go.Proofs Go.Sort Go.Shelf
instance:Inhabited Ad:=⟨⟨0,0⟩⟩
def Dy(x:Ad):List Value:=[.int .i64 x.X,.int .i64 x.Y]
def cfQ(x y:Ad):Int:=IR (x.X,x.Y) (y.X,y.Y)
def Xc(x y:Ad):ltOf cfQ x y=Bv x y:=by
 simp only[ltOf,cfQ,IR,Lib.compareInt,Bv]
 grind
def swoQ:SWO (ltOf cfQ) where
 irrefl x:=by rw[Xc];simp only[Bv];grind
 trans x y z h1 h2:=by rw[Xc] at*;simp only[Bv] at*;grind
 ntrans x y z h1 h2:=by rw[Xc] at*;simp only[Bv] at*;grind
def rJ{l:List Ad}(hd:l.Nodup):(Et l).Perm l:=(ZeG (Lk (Oe l)) hd).2 λ_=>K3
def Qamw{l l':List Ad}(hd:l.Nodup)(hp:l'.Perm l)(hs:l'.Pairwise (λa b=>Bv b a=false)):l'=Et l:=by
 refine eF ?_ (Oe l) (λq=>by rw[K3,hp.mem_iff]);have hn:l'.Nodup:=hp.nodup_iff.2 hd;refine ZeP (λ{a b} h=> ?_) (List.pairwise_and_iff.2 ⟨hs,hn⟩);exact eE h.1 λe=>h.2 e.symm
def SX(l:List Ad):List Value:=l.flatMap Dy
def Mo(l:List Ad):(SX l).length=l.length*2:=by
 induction l with
 |nil=>rfl
 |cons x r ih=>simp only[SX,FD,Bz,CR] at ih⊢;rw[ih];simp[Dy];omega
def eK{ok:Nat->Prop}{hp:Nat->Option Obj}: ∀(l:List Ad) (L:List Value),rdr ok hp 2 (l.map Ad.c) L↔ ∃r,L=SX l++r
 |[],L=>by simp[rdr,SX]
 |x::r,L=>by
  simp only[Bf,rdr,eK r,Ad.c,rdp,rd,SX,FD];constructor
  .rintro⟨_,⟨v,z,rfl,rfl,O,G,rfl,rfl,_⟩,q,hq⟩;exact⟨q,by simp only[LK,Ie] at hq;rw[hq];rfl⟩
  .rintro⟨q,rfl⟩;exact⟨rfl,⟨_,_,rfl,rfl,_,_,rfl,rfl,trivial⟩,q,rfl⟩
def Mn: ∀(l:List Ad) (t:Nat),t<l.length*2->(SX l)[t]? =some ((Dy (l[t/2]?.getD default))[t % 2]!)
 |[],t,h=>by simp at h
 |x::r,t,h=>by
  by_cases O:t<2
  .have:t=0\/t=1:=by omega
   rcases this with rfl|rfl<;>simp[SX,Dy]
  .obtain⟨u,rfl⟩: ∃u,t=u+2:=⟨t - 2,by omega⟩;have z:(u+2)/2=u/2+1:=by omega
   have G:(u+2) % 2=u % 2:=by omega
   have ih:=Mn r u (by simp at h;omega);rw[z,G,Kf,<-ih];simp[SX,Dy]
def rO(l:List Ad):(flatK Dy 2 l.toArray).toList=SX l:=by
 apply QM;intro t;by_cases z:t<l.length*2
 .rw[Mn l t z];have G:t<(flatK Dy 2 l.toArray).size:=by simp only[size_flatK,OD];exact z
  have O:=get_flatK Dy 2 l.toArray t (by simpa using z);rw[Hq,Ke G,<-getElem!_pos (flatK Dy 2 l.toArray) t G,O];congr 3;simp[getElem!_def];cases l[t/2]? <;>rfl
 .have a1:(flatK Dy 2 l.toArray).toList.length<=t:=by rw[Fj,size_flatK,OD];omega
  have a2:(SX l).length<=t:=by rw[Mo];omega
  rw[HK a1,HK a2]
def D0(l:List Ad):List Ad:=l.mergeSort λa b=> !Bv b a
def fA(l:List Ad):(D0 l).Perm l:=List.mergeSort_perm ..
def sG:D0 []=[]:=by simp[D0]
def UB(l:List Ad):(D0 l).length=l.length:=(fA l).length_eq
def sH(l:List Ad):(D0 l).Pairwise (λa b=>Bv b a=false):=by
 have h:(D0 l).Pairwise (λa b=>(!Bv b a)=true):=by
  refine List.pairwise_mergeSort (λa b c z G=> ?_) (λa b=> ?_) l
  .simp only[LL,Bv] at*;grind
  .cases h:Bv b a with
   |false=>rfl
   |true=>
    cases g:Bv a b with
    |false=>rfl
    |true=>
     have:=WU h g
     rw[dU] at this;cases this
 exact h.imp λ{a b} h=>by simpa using h
def P2{l l':List Ad}(hp:l'.Perm l)(hs:l'.Pairwise (λa b=>Bv b a=false)):l'=D0 l:=by
 refine ZdV (le:=λa b=>Bv b a=false) (λa b _ _ g1 g2=> ?_) hs (sH l) (hp.trans (fA l).symm);apply bX;intro e;rw[eE g1 λh=>e h.symm] at g2;cases g2
def Ze{l:List Ad}(hd:l.Nodup):D0 l=Et l:=Qamw hd (fA l) (sH l)
def BO.ca(_:List Ad):List AV:=[.own 0,.im (.fn 131 [] [])]
def BO.H0(a:List Ad):Ar:=[(0,(true,.arr 62 2 (a.map Ad.c)))]
def BO.H1(a:List Ad):Ar:=[(0,(true,.arr 62 2 ((D0 a).map Ad.c)))]
def BO.row:AG:=Az BO.ca BO.H0 1 (λ_=>True) (λ_=>true) (λ_=> .im (.tup [])) BO.H1 0
def BO.ok:AJ 178 BO.row:=by
 rintro args h nx K ⟨a,τ,U,KL,bn,rfl,O,hN,hK⟩;refine⟨Oy (by kernel_rfl),_,_,?_,hK⟩;intro C S vs R hW a8 ba bb aa aw;have ao:Db τ 1 nx 0=τ 0:=Al (by omega);simp only[BO.ca,Bd,AV.ren,ao,AR,Aa,rd,rdl] at aa;obtain⟨v0,r0,hv,⟨ad,ai⟩,v1,r1,bh,⟨ac,cc,bj,aj,ak⟩,bi⟩:=aa;have aj:ac= #[]:=by apply KM;simpa using aj
 have ak:cc= #[]:=by apply KM;simpa using ak
 subst aj ak bi bh bj;have bl:vs= #[v0,.func (W6 131) #[] #[]]:=by apply KM;simpa using hv
 subst bl;have hm:h (τ 0)=some (true,.arr 62 2 (a.map Ad.c)):=by
  have:=O.1
  rwa [ao] at this
 have av:An (BO.H0 a) 0=true:=rfl;have Q:S.h (τ 0)=some (true,.arr 62 2 (a.map Ad.c)):=by
  rw[a8 (τ 0) (IG _ (hN.u 0 av)),hm]
 have ax: ∀n,n∈KL↔n=τ 0:=by
  intro n;constructor
  .intro hn;obtain⟨j,h1,_,h3⟩:=hN.k1 n hn
   have:j=0:=by
    simp only[An,BO.H0,hget] at h1;by_cases hj:j=0
    .exact hj
    .have:(0==j)=false:=by simpa using λh=>hj h.symm
     rw[this] at h1;cases h1
   rw[h3,this]
  .rintro rfl;exact hN.k2 0 av rfl
 obtain⟨m,hmm⟩: ∃m,m=τ 0:=⟨_,rfl⟩;rw[<-hmm] at Q ai ax;have aq:=UB a;have fin: ∀(w':World),Kb S m (.arr 62 2 ((D0 a).map Ad.c)) (S.ρ m) [m] w'->
  (BA (λn=>S.h m≠none\/n≠m) S (S.one m (.arr 62 2 ((D0 a).map Ad.c)) (S.ρ m) [m] w')->Ap (S.one m (.arr 62 2 ((D0 a).map Ad.c)) (S.ρ m) [m] w') (S.ρ m) (.arr 62 2 ((D0 a).map Ad.c)))->R (.returned (.tuple #[])) w':=by
  intro w' ad bg;have hp:=fS hW ad;refine aw (.tuple #[]) _ (nI hW ad (bg hp)) ?_ ⟨hp.ok,λn _=>hp.nm n (.inl (by rw[Q];simp))⟩ ⟨#[],rfl,rfl⟩;funext n;simp only[Ay.one,B4.appf,BO.H1,Bp,ao,hget,Ah.ren,<-hmm];by_cases hn:n=m
  .subst hn;simp
  .have h1:(m==n)=false:=by simpa using λh=>hn h.symm
   have h2:KL.contains n=false:=by
    rw[<-QN,Jl,ax];exact hn
   simp only[h1,Cy,h2,hn,CN,BL]
 have z:=ai _ Q;have Z:=hW.obj _ _ Q;have az:=λG=>hW.loc m _ G Q
 cases hρ:S.ρ m with
 |none=>
  rw[hρ] at z Z;simp only[Ap] at Z;have ha:a=[]:=by simpa using Z.2
  subst ha;simp only at z;rw[z,X9 (by decide)];refine (AnyF.slices_SortFunc_none Tryz.sortPt none 0 (.func (.func 131) #[] #[]) S.w).mono ?_;rintro e w' ⟨rfl,rfl⟩;refine fin S.w (dO Q (λl hl=>by rw[hρ] at hl;cases hl) rfl (by rw[sG])) (λ_=> ?_);rw[hρ,sG];exact⟨BV _,rfl⟩
 |some G=>
  rw[hρ] at z Z;simp only[Ap,Ah.len] at Z z;obtain⟨g1,g2,cv,g3,g4,g5⟩:=Z;obtain⟨an,bo⟩:=az G hρ;rw[eK] at g5;obtain⟨a9,g5⟩:=g5;simp only[Du] at g1 g2 z;have O:S.w.heap[G.b]? =some (.cells cv 62 (0,0)):=g3;have bm:G.p+a.length*2<=cv.size:=by omega
  have hF:(flatK Dy 2 a.toArray).size=a.length*2:=by simp
  have hget: ∀j,j<a.length*2->cv[G.p+j]? =some ((flatK Dy 2 a.toArray)[j]!):=by
   intro j hj;have h1:(cv.toList.drop G.p)[j]? =(SX a++a9)[j]? :=by rw[g5]
   rw[Jf,Hq,F4 (by rw[Mo];exact hj),<-rO,Hq] at h1;rw[h1,Ke (by rw[hF];exact hj),getElem!_pos _ _ (by rw[hF];exact hj)]
  have hH:HoldsK Dy 2 S.w G.b G.p a.toArray:=by
   intro j hj;rw[hF] at hj;refine⟨?_,?_⟩
   .simp only[World.cell?,O,nY,Dp,CN,id];exact hget j hj
   .simp only[World.frozen?,O];simp
  have hc:=AnyQ.slices_SortFunc Tryz.sortPt 2 Tryz.isAgg62 Tryz.sizeOf62 Dy (λ_=>rfl) (λx v hv=>by simp[Dy] at hv;rcases hv with rfl|rfl<;>rfl) cfQ swoQ 131 #[] G.b G.p G.cap a.toArray S.w
   (tH (Oy (by kernel_rfl))) (λm os dk hs x y=>Tryz.cmpPoints _ _ _ _ _) hH an (by simp only[OD,IN] at g1⊢;omega)
  rw[z,X9 (by decide)];refine hc.mono ?_;rintro e w' ⟨rfl,d',n,os,af,au,rfl⟩;have a0:d'.size=a.length:=af.1;have be:d'.toList=D0 a:=by
   refine P2 ?_ ?_
   .have:=af.2.2
    rwa [show d'.extract 0 a.toArray.size=d' by rw[OD,<-a0];exact wK,show a.toArray.extract 0 a.toArray.size=a.toArray from wK] at this
   .rw[ZdN];intro i j hi hj bf
    have:=au i j (BV _) bf (by rw[OD,<-a0];simpa using hj)
    rw[Xc,getElem!_pos d' i (by simpa using hi),getElem!_pos d' j (by simpa using hj)] at this;simpa using this
  obtain rfl:d'=(D0 a).toArray:=by apply KM;rw[be]
  have ah:(flatK Dy 2 (D0 a).toArray).size=a.length*2:=by simp[aq]
  have am:(flatK Dy 2 (D0 a).toArray).toList.length=a.length*2:=by rw[Fj,ah]
  have ag:S.w.heap.size<=(sortWorldK Dy 2 S.w G.b G.p n (D0 a).toArray os).heap.size:=by
   simp[sortWorldK,grow,putRowK,Sort.ahead]
  have hb: ∀b,b<S.w.heap.size->(sortWorldK Dy 2 S.w G.b G.p n (D0 a).toArray os).heap[b]? =if G.b=b then S.w.heap[b]?.map (onCells (putCells id G.p (flatK Dy 2 (D0 a).toArray))) else S.w.heap[b]? :=by
   intro b hb;have e0:b<(putRowK Dy 2 (Sort.ahead S.w n) G.b G.p (D0 a).toArray).heap.size:=by simpa[putRowK,Sort.ahead] using hb
   simp only[sortWorldK,grow];rw[Zdh e0];simp only[putRowK,putRow,mapBlock,Sort.ahead,Zej]
  refine fin _ ⟨rfl,rfl,rfl,wO _ _,ag,?_,.inl (by simp),?_,?_,?_⟩ ?_
  .intro b bc bd;rw[hb b bc,Ag (bd m _ G (by simp) Q hρ)]
  .intro lo ay;rw[hρ] at ay;obtain rfl:=AC ay;exact⟨FC an ag,.inr ⟨m,_,G,by simp,Q,hρ,rfl⟩⟩
  .intro f hf;rw[Q] at hf;obtain rfl:=AC hf;exact⟨rfl,rfl,by simp[Ah.len,aq]⟩
  .intro n' f _ ab;rw[Q] at ab;cases ab
  .intro _;rw[hρ];simp only[Ap,Du,aq];refine⟨g1,g2,putCells id G.p (flatK Dy 2 (D0 a).toArray) cv,?_,by simpa[putCells] using g4,?_⟩
   .simp only[Ay.one,Ay.hp];rw[hb G.b an,Al rfl,O];rfl
   .rw[eK];refine⟨(cv.toList.drop (G.p+a.length*2)),?_⟩;apply QM;intro t;rw[Jf,Hq,putCells,ZeX,ah,<-rO];by_cases ht:t<a.length*2
    .rw[F4 (by rw[am];exact ht),Hq,Ke (show G.p+t<cv.size by omega),Ke (by rw[ah];exact ht)];simp only[Ez,id];rw[Al ⟨by omega,by omega⟩,wS,getElem!_pos _ _ (by rw[ah];exact ht)]
    .rw[G6 (by rw[am];omega),am,Jf,Hq,show G.p+a.length*2+(t - a.length*2)=G.p+t by omega];cases cv[G.p+t]? with
     |none=>rfl
     |some x=>simp only[Ez];rw[Ag (by omega)]
def srtQ.ca(_:List Ad):List AV:=[.own 0,.im (.fn 131 [] [])]
def srtQ.H0(a:List Ad):Ar:=[(0,(true,.arr 62 2 (a.map Ad.c)))]
def srtQ.H1(a:List Ad):Ar:=[(0,(true,.arr 62 2 ((Et a).map Ad.c)))]
def srtQ.row:AG:=Az srtQ.ca srtQ.H0 1 (λa=>a.Nodup) (λ_=>true) (λ_=> .im (.tup [])) srtQ.H1 0
def srtQ.ok:AJ 178 srtQ.row:=by
 rintro args h nx K ⟨a,τ,U,KL,z,O,Q,Z,G⟩;have e:srtQ.H1 a=BO.H1 a:=by simp only[srtQ.H1,BO.H1,Ze z]
 rw[e] at G;exact BO.ok args h nx K ⟨a,τ,U,KL,trivial,O,Q,Z,G⟩
end Go.Ae
namespace Go.Ae
open Go.Proofs
def Yk(op:List (Ad×List Int)):Nat:=(op.map λq=>q.2.length).sum
def Lj{β:Type}: ∀{l:List (Ad×β)} {q:Ad×β},(l.map Prod.fst).Nodup->q∈l->BP l q.1=some q.2
 |x::r,q,hn,hq=>by
  obtain⟨p,v⟩:=x;rw[Bf,KO] at hn;simp only[BP];rcases Bw.1 hq with rfl|hq
  .rw[Al rfl]
  .have:q.1≠p:=λe=>hn.1 (by rw[<-e];exact BF.2 ⟨q,hq,rfl⟩)
   rw[Ag this];exact Lj hn.2 hq
def qZ{g:Ad->List Int}: ∀(l:List Ad),(CH g l).length=(l.map λp=>(g p).length).sum
 |[]=>rfl
 |p::r=>by
  have:=qZ (g:=g) r
  simp only[CH] at this;simp only[CH,FD,Bz,Du,Bf,RO,this]
def P1{op:List (Ad×List Int)}(h:(op.map Prod.fst).Nodup):(Hd op).length=Yk op:=by
 rw[Hd,qZ,((rJ h).map _).sum_nat,RT];congr 1;refine QJ λq hq=> ?_
 simp only[Function.comp,Lj h hq,AW]
def Su: ∀{l:List (Ad×List Int)},(∀q∈l,q.2≠[])->l.length<=Yk l
 |[],_=>BV _
 |x::r,h=>by
  have G:0<x.2.length:=hZ.2 (h x (BS ..));have z:=Su λq hq=>h q (BW x hq)
  simp only[Yk,Bf,RO,CR] at z⊢;omega
def rC(s:AF){b:Ao}(O:b.Tiles.length<=500)(Q:s.Set.Tiles.length<=160):(DR s b).length<=320000:=by
 have z:=WW (g:=λp=>G9 s (BM b) p s.Set.Tiles.length) (m:=160) (λp=>CW (WY s (BM b) p _) (by omega)) (CG b b.Tiles.length);have Z:=WR b b.Tiles.length;have G:(CG b b.Tiles.length).length*160<=2000*160:=Ig _ (by omega);exact CW z G
def kF{s:AF}{b:Ao}{op:List (Ad×List Int)}(hT:1<=s.Temperature)(h1:b.Tiles.length<=500)(h2:s.Set.Tiles.length<=160)(G:NN s (BM b) op):
 Hd op=DR s b/\((op.map Prod.fst).Nodup/\op.length<=1000000/\ ∀q∈op,q.2.length<=1000)/\(Hd op).length<=320000:=by
 have z:=U9 hT G;have O:=P1 G.1;rw[z] at O;have Q: ∀q∈op,q.2=EH s (BM b) q.1/\q.2≠[]:=λq hq=>by
  have Z:=Lj G.1 hq;rw[G.2,Gk] at Z;split at Z
  .cases Z
  .rename_i c;have h6:=AC Z;exact⟨h6.symm,by rw[<-h6];exact c⟩
 have h6:op.length<=Yk op:=Su λq hq=>(Q q hq).2
 have h7:=rC s h1 h2;refine⟨z,⟨G.1,by omega,λq hq=> ?_⟩,by rw[z];exact h7⟩;rw[(Q q hq).1];exact CW (Qus s _ _ _) (by omega)
def EO(n:Int):Bool:= !Bj n 0 1000
def EJ(l:List Int):Bool:=decide (l.length<=200) && !l.any EO
def GK(l:List Int)(n k:Nat):Nat:=if l.length=0 then 0 else (((l[k % l.length]?).getD 0) % (n:Int)).toNat
def sB{l:List Int}(h:EJ l=true){x:Int}(G:x∈l):0<=x/\x<=1000:=by
 simp only[EJ,Bc,LL] at h;have z:EO x=false:=by
  cases hb:EO x with
  |false=>rfl
  |true=>rw[wN.2 ⟨x,G,hb⟩] at h;cases h.2
 simpa[EO,Bj] using z
def Nt{l:List Int}{n k:Nat}(hn:0<n):GK l n k<n:=by
 simp only[GK];split
 .exact hn
 .have z:=Int.emod_nonneg ((l[k % l.length]?).getD 0) (b:=(n:Int)) (by omega);have G:=Int.emod_lt_of_pos ((l[k % l.length]?).getD 0) (b:=(n:Int)) (by omega);omega
def Hx(s:AF)(l:List Int)(b:Ao)(k:Nat):Option Be:=(DR s b)[GK l (DR s b).length k]?
def Xg{s:AF}{l:List Int}{b:Ao}{k:Nat}:Hx s l b k=none↔DR s b=[]:=by
 simp only[Hx,ZeO];constructor
 .intro h;cases he:DR s b with
  |nil=>rfl
  |cons x r=>
   have:=Nt (l:=l) (k:=k) (n:=(DR s b).length) (by rw[he];simp)
   omega
 .intro h;rw[h];simp
def Kk(s:AF)(l:List Int):Nat->Ao->List Be->List Be×Ao×Int
 |0,b,d=>(d,b,0)
 |n+1,b,d=>match Hx s l b d.length with
  |none=>(d,b,0)
  |some o=>if 500<=b.Tiles.length then ([],⟨[]⟩,4) else Kk s l n (Dg b o.At o.Tile) (d++[o])
def Og(b:Ao)(p:Ad)(t:Int):(Dg b p t).Tiles.length=b.Tiles.length+1:=by
 rw[tJ];rw[(uL ⟨p,t⟩ b.Tiles).length_eq,CR]
def sA{s:AF}{l:List Int}: ∀(n:Nat) (b:Ao) (d:List Be),b.Tiles.length<=500->501<=b.Tiles.length+n->Kk s l (n+1) b d=Kk s l n b d
 |0,b,d,z,G=>by omega
 |n+1,b,d,z,G=>by
  rw[Kk,Kk];split
  .rfl
  .split
   .rfl
   .rename_i o _ c;exact sA n _ _ (by rw[Og];omega) (by rw[Og];omega)
def J0(s:AF)(l:List Int):List Be×Ao×Int:=if Ga s=false then ([],⟨[]⟩,1) else if EJ l=false then ([],⟨[]⟩,2) else Kk s l 500 s.Seed []
def Zd{s:AF}{b:Ao}(Q:HG s.Set b){o:Be}(h:o∈DR s b):GD s b o=true:=by
 rw[DR,CH,bW] at h;obtain⟨p,hp,h⟩:=h;obtain⟨t,Z,rfl⟩:=BF.1 h;rw[Rk _ (AU _)] at hp;obtain⟨⟨G,O⟩,_⟩:=hp;have z: ∀n,t∈G9 s (BM b) p n->0<=t/\t<n/\s.Temperature<=F3 s.Set (BM b) p t 4:=by
  intro n;induction n with
  |zero=>intro h;simp[G9] at h
  |succ n ih=>
   intro h;simp only[G9,B2] at h;rcases h with h|h
   .have:=ih h;exact⟨this.1,by omega,this.2.2⟩
   .split at h
    .rename_i c;simp only[BL] at h;subst h;exact⟨by omega,by omega,c⟩
    .cases h
 obtain⟨k1,k2,k3⟩:=z _ Z;show GD s b ⟨p,t⟩=true;simp only[GD,Bj,Bc,C7];exact⟨G,⟨k1,by omega⟩,(WZ Q.2 p).2 O,by rw[<-LR];exact k3⟩
def Xe{s:AF}{l:List Int}{b:Ao}{k:Nat}(z:HG s.Set b){o:Be}(h:Hx s l b k=some o):GD s b o=true:=Zd z (Bh h)
def E4(s:AF)(l:List Int):Nat->Ao->List Be->List Be×Ao×Bool×Int
 |0,b,d=>(d,b,(Hx s l b d.length).isNone,0)
 |n+1,b,d=>match Hx s l b d.length with
  |none=>(d,b,true,0)
  |some o=>if 500<=b.Tiles.length then ([],⟨[]⟩,false,4) else E4 s l n (Dg b o.At o.Tile) (d++[o])
def My{s:AF}{l:List Int}: ∀(n:Nat) (b:Ao) (d:List Be),((E4 s l n b d).1,(E4 s l n b d).2.1,(E4 s l n b d).2.2.2)=Kk s l n b d
 |0,b,d=>rfl
 |n+1,b,d=>by
  rw[E4,Kk];split
  .rfl
  .split
   .rfl
   .exact My n _ _
def YE{ι:Type}{P:Program}{V:D4}{N:Nat}{J:ι->(Nat->Prop)->World->Prop}{base:Nat}{ok0:Nat->Prop}{i j:ι}(HV:HB P V)(O:O3 base J){ab:ι->List D->ι->Prop}{l:Nat}(hY: ∀i x j args Pr W,ab i x j->(∀ok hp,rdl ok hp x args.toList)->J i Pr W->YieldAt Fence.wide 0 P l args W λe W'=>e= .returned (.bool true)/\ ∃Pr',J j Pr' W'/\IP ok0 Pr W Pr' W')
 {id:Nat}{ops:Array Oper}(k1:Nat)(ao:List.range ops.size=List.range' 0 (ops.toList.take k1).length++(k1::(List.range' (k1+1) (ops.toList.drop (k1+1)).length++[])))(ac:Kd N (ops.toList.take k1)=true)(ad:Kd N (ops.toList.drop (k1+1))=true)(z:X3 ops=true)
 {o:Oper}{c:Call}{f:Operand}{x:List D}(s1:A8){s s2:A8}{a:Act}{w:World}{Q:Exit->Act->World->Prop}(ho:ops[k1]? =some o)(am:o.op= .call c)(Z:c.callee= .value f)(ah:o.guard=none)
 (hf:Aw s1.tm f= .im (.fn (1000000000+l) [] []))(G:DV s1.tm c.args.toList=x.map .im)(an:x.all D.scs=true)(hx:ab i x j)(ak: ∀n e,hget s1.h n=some e->e.2.isView=false)(hd: ∀d,o.dst=some d->d<N)(af:s1.good=true)(ag:s2.good=true)
 (h:It J base ok0 N i s a w)(ai:Lv P V (G4 ops (ops.toList.take k1)) (λs=>sub s s1) s)(aj:Lv P V (G4 ops (ops.toList.drop (k1+1))) (λs=>sub s s2) (s1.put o.dst (.im (.bool true))))
 (aa: ∀a w,It J base ok0 N j s2 a w->Q .normal a w):(Code.region id ops false).wpIn Fence.wide 0 P Q a w:=by
 refine wpIn_region ?_;rw[ao];refine Xd HV O (seg:=ops.toList.take k1) (more:=ops.toList.drop k1) (by rw[Ie,XS]) ac z ai h (λs a w h1 h2=> ?_);have h3:=Gr h2 h1 af O;have hw:Region.wanted o (yielded ops a.tmps)=true:=by simp[Region.wanted,ah]
 refine rU O hY ho hw am Z hf G an hx ak hd h3 (λa w h4=> ?_);refine Xd HV O (seg:=ops.toList.drop (k1+1)) (more:=[]) (by rw[Ck]) ad z aj h4 (λs a w h5 h6=> ?_);exact aa a w (Gr h6 h5 ag O)
abbrev Gx:=List (Ad×List Int)
def Y5(op:Gx):oS:=⟨Gx×List Ad,(op,[]),λi x j=> ∃(k:Nat) (p:Ad×List Int),i.1[k]? =some p/\x=[.agg (Ad.c p.1)]/\j=(i.1.eraseIdx k,i.2++[p.1]),λi=>i.1=[]⟩
def Ix(l:Nat)(left:Gx)(z:Option (D×D)):A8:=⟨[(5,.it 0),(0,.im (.fn (1000000000+l) [] []))],[(0,(true,.iter z (left.map D9)))],1⟩
def oI(l:Nat)(left:Gx)(p:Ad×List Int):A8:=⟨[(3,.ptr 1 0),(5,.it 0),(0,.im (.fn (1000000000+l) [] []))],[(0,(true,.iter (some (D9 p)) (left.map D9))),(1,(true,.cells 62 [.im (.int .i64 p.1.X),.im (.int .i64 p.1.Y)]))],2⟩
def eH(l:Nat)(left:Gx)(z:Option (D×D)):(Ix l left z).good=true:=by simp[Ix,ZG]
def TP(l:Nat)(left:Gx)(p:Ad×List Int):(oI l left p).good=true:=by simp[oI,ZG]
def rV:Kc Tryz.prog (tab []):=Rf [] (by simp)
def Pn(op:Gx):L5 Tryz.prog 179 [.ref [.mp yE (op.map D9)]] (Y5 op):=by
 refine TF Tryz.func179 rfl rfl (by simp) ?_;intro l J base ok0 z hY a w aa;have HV:=gL rV;obtain⟨R,hR⟩: ∃R,R=(λ(e:Exit) (a:Act) (w:World)=> ∃i,(Y5 op).fin i/\TE J base ok0 Tryz.f179.ntmps i (λe _=>e= .normal\/e= .ret) e a w):=⟨_,rfl⟩;rw[<-hR];simp only[Tryz.f179,Option.getD] at aa⊢;refine LH D3 HV z (by decide) (by decide) aa (Qx:=BQ (Ix l op none)) ?_ (λs a w G Q=> ?_) (λ_ _ _ _ h=>h.elim) (λ_ _ _ h=>h.elim)
 .simp only[ZZ,simprocAttr,Ab,BQ,Ix,entry,sub,yE]
 have h3:=Gr Q G (eH _ _ _) z;clear G Q aa;refine wpIn_block (wpIn_loop_ghost (λm a w=> ∃(i:Gx×List Ad) (O:Option (D×D)),m=i.1.length/\It J base ok0 14 i (Ix l i.1 O) a w) op.length ⟨(op,[]),none,rfl,h3⟩ ?_);clear h3;rintro m a w ⟨⟨left,Z⟩,O,hm,h⟩;simp only at hm h;refine LH D3 HV z (by decide) (by decide) h (Qx:=λe s=>match e with
  | .normal=>(left=[]/\sub s ⟨(7,.im (.bool false))::(Ix l left O).tm,(Ix l left O).h,1⟩)\/ ∃(k:Nat) (p:Ad×List Int),left[k]? =some p/\sub s ⟨(7,.im (.bool true))::(Ix l left O).tm,(Ix l (left.eraseIdx k) (some (D9 p))).h,1⟩
  |_=>False) ?_ (λs a w G Q=> ?_) (λ_ _ _ _ h=>h.elim) (λ_ _ _ h=>h.elim)
 .simp only[ZZ,simprocAttr,Ab,Ix,sub,Qwf];refine⟨λh=> .inl (by simpa using h),λi p hp=> ?_⟩;rw[Gb] at hp;obtain⟨q,hq,rfl⟩:=Da.1 hp;exact .inr ⟨i,q,hq,rfl⟩
 simp only at G;rcases G with ⟨hl,hs⟩|⟨k,p,hk,hs⟩
 .have h3:=Gr Q hs (by simp[Ix,ZG]) z;refine LH D3 HV z (by decide) (by decide) h3 (Qx:=Jw (Ix l left O) False True 0) ?_ (λs a w G Q=>G.1.elim) (λid s a w G Q=> ?_) (λ_ _ _ h=>h.elim)
  .simp only[ZZ,simprocAttr,Ab,Jw,Ix,sub]
  .obtain⟨rfl,_,G⟩:=G;simp only[Exit.then,Exit.inBlock,Bb,hR,TE];exact⟨(left,Z),hl,s,.inl trivial,Q⟩
 have h3:=Gr Q hs (by simp[Ix,ZG]) z;clear Q h hs;refine LH D3 HV z (by decide) (by decide) h3 (Qx:=Jw (Ix l (left.eraseIdx k) (some (D9 p))) True False 0) ?_ (λs a w G Q=> ?_) (λid s a w G Q=>G.2.1.elim) (λ_ _ _ h=>h.elim)
 .simp only[ZZ,simprocAttr,Ab,Jw,Ix,sub]
 have h:=Gr Q G.2 (eH _ _ _) z;clear G Q h3;refine wpIn_block ?_;refine LH D3 HV z (by decide) (by decide) h (Qx:=BQ (oI l (left.eraseIdx k) p)) ?_ (λs a w G Q=> ?_) (λ_ _ _ _ h=>h.elim) (λ_ _ _ h=>h.elim)
 .simp only[ZZ,simprocAttr,Ab,BQ,Ix,oI,sub,D9,Ad.c]
  trace_state
 have h3:=Gr Q G (TP _ _ _) z;clear G Q h;have ab:=(CL.1 hk).1;obtain⟨F,hF⟩: ∃F:AV,F= .im (.fn (1000000000+l) [] []):=⟨_,rfl⟩;obtain⟨E,hE⟩: ∃E:Au,E=(true,.iter (some (D9 p)) ((left.eraseIdx k).map D9)):=⟨_,rfl⟩;refine wpIn_seq (YE HV z hY (i:=(left,Z)) (j:=(left.eraseIdx k,Z++[p.1])) (x:=[.agg (Ad.c p.1)]) 2 (by decide) (by decide) (by decide) (by decide)
  (⟨[(11,.im (.agg (Ad.c p.1))),(10,F),(5,.it 0),(0,F)],[(0,E)],2⟩:A8) (s2:=⟨[(13,.im (.bool false)),(5,.it 0),(0,F)],[(0,E)],2⟩) rfl rfl rfl rfl (by rw[hF];rfl) rfl (by rfl) ⟨k,p,hk,rfl,rfl⟩ ?_ (by decide) (by rw[hE,hF];simp[ZG]) (by rw[hE,hF];simp[ZG]) h3 ?_ ?_ (λa w h4=> ?_))
 .exact λn e he=>WI _ (by rw[hE];rfl) n e he
 .simp only[ZZ,simprocAttr,Ab,oI,sub,hE,hF,Ad.c,G4,XI,List.take]
 .simp only[ZZ,simprocAttr,Ab,oI,sub,hE,hF,Ad.c,G4,XI,List.drop]
 simp only[Exit.then];refine vJ D3 HV z (by decide) (by decide) h4 (Qx:=BQ (Ix l (left.eraseIdx k) (some (D9 p)))) ?_ (λs a w G Q=> ?_) (λ_ _ _ _ h=>h.elim) (λ_ _ _ h=>h.elim)
 .simp only[ZZ,simprocAttr,Ab,BQ,Ix,sub,hE,hF]
 simp only[Exit.inBlock,Exit.then];exact⟨(left.eraseIdx k).length,by rw[Zfk,Al ab];omega,(left.eraseIdx k,Z++[p.1]),_,rfl,Gr Q G (eH _ _ _) z⟩
end Go.Ae
namespace Go.Ae
open Go.Proofs Go.RowKit Go.Lib Go.Sort
def rN{A:Type}: ∀(l:List A) (k:Nat) (x:A),l[k]? =some x->l.Perm (x::l.eraseIdx k)
 |[],k,x,h=>by simp at h
 |y::r,0,x,h=>by
  simp only[Hn,AO] at h;subst h;exact iL _
 |y::r,k+1,x,h=>by
  rw[Kf] at h;rw[wI];exact ((rN r k x h).cons y).trans (List.Perm.swap x y _)
def iO(op:Gx)(s:A8)(xs:List AV):Prop:= ∃l:List Ad,l.Perm (op.map Prod.fst)/\ ∃m,xs=[.own m]/\hget s.h m=some (true,.arr 62 2 (l.map Ad.c))
def jK(op:Gx):D:= .fn 179 [] [.ref [.mp yE (op.map D9)]]
def iP{op:Gx}(hb:op.length<=1000000){C:Ba}{S:Ay}{vs:Array Value}{RR:Ending->World->Prop}(hW:Wf C S)(aq:EV S [.val (.sl true 0 []),.val (jK op)] vs.toList)
 (ad: ∀(v:Value) (C0:Ba) (S1:Ay) (l:List Ad) (m:Nat),C0.w=S.w->C0.ok=S.ok->(∀b,¬C0.M b)->Wf C0 S1->l.Perm (op.map Prod.fst)->S1.h m=some (true,.arr 62 2 (l.map Ad.c))->Aa S1 (.own m) v->RR (.returned v) S1.w):
 Calls Tryz.prog 195 vs S.w RR:=by
 have HV:=gL rV;refine rD Tryz.func195 rfl (ps:=[.val (.sl true 0 []),.val (jK op)]) (show 2<=13 by decide) (Q:=iO op) ?_ hW aq ?_;rotate_left
 .rintro v C0 S1 s xs g1 g2 g3 g4 g5 ⟨l,hl,m,rfl,hm⟩ g7;exact ad v C0 S1 l m g1 g2 g3 g4 hl ((g5 m).trans hm) g7
 intro C0 a w hw af hc an;have ao:C0.ds=[]:=by obtain⟨S0,_,h⟩:=hc;rw[<-h.defers];exact an
 simp only[Tryz.f195,Option.getD] at hc⊢;refine vY D3 HV (by decide) (by decide) (s':=⟨[(2,.ptr 0 0),(1,.im (jK op))],[(0,(true,.cells 132 [.im (.sl true 0 [])]))],2⟩) hc ?_ ?_ (by rw[af];exact BV _) (λa w hc=> ?_)
 .simp only[ZZ,simprocAttr,Ab,BQ,sub,Dn,Dm,BT,entry]
 .simp[ZG]
 refine wpIn_seq ?_;refine vY D3 HV (by decide) (by decide) (s':=⟨[(6,.im (jK op)),(2,.ptr 0 0)],[(0,(true,.cells 132 [.im (.sl true 0 [])]))],2⟩) hc ?_ ?_ (by rw[af];exact BV _) (λa w hc=> ?_)
 .simp only[ZZ,simprocAttr,Ab,BQ,sub]
 .simp[ZG]
 refine wpIn_block (wpIn_mono (rQ D3 HV hc (gf:=179) (capt:=[.ref [.mp yE (op.map D9)]]) (X:=Y5 op) (Oy (by kernel_rfl)) (Pn op)
  (λ(i:Gx×List Ad)=>(i.2++i.1.map Prod.fst).Perm (op.map Prod.fst)) (iL _) ?_ (by decide) (by decide) (by decide) (by decide) ?_ (by decide)
  (tm0:=[(6,.im (jK op)),(2,.ptr 0 0)]) (hs:=λ(i:Gx×List Ad)=>[(0,(true,.cells 132 [.own 2])),(2,(true,.arr 62 2 (i.2.map Ad.c)))]) (nx:=3) ⟨[(2,none)],?_⟩ rfl (by simp) ?_ ?_ ?_ ?_) ?_)
 .rintro⟨left,O⟩ x j G ⟨k,p,hk,rfl,rfl⟩;simp only at hk G⊢;have h1:(left.map Prod.fst).Perm (p.1::(left.eraseIdx k).map Prod.fst):=by
   exact (rN left k p hk).map Prod.fst
  refine List.Perm.trans ?_ G;rw[Ej];exact (h1.append_left O).symm
 .rintro⟨left,O⟩ x j G ⟨k,p,hk,rfl,rfl⟩;rfl
 .simp only[Am];simp only[ZZ,simprocAttr,Ab,AN,AM,Bg];exact (trivial:Ut true (.arr 0 0 []))
 .simp[Df,AV.bel]
 .rintro⟨left,O⟩ G;simp[ZG]
 .intro i o e he hv;rw[WI _ (by rfl) o e he] at hv;cases hv
 .rintro⟨left,O⟩ x j G ⟨k,p,hk,rfl,rfl⟩;have au:O.length<=op.length:=by
   have:=G.length_eq
   simp at this;omega
  simp only[ZZ,simprocAttr,Ab,OJ,Vh,FJ,sub,AS];refine⟨λrow ab=>by rw[BL] at ab;subst ab;rfl,by omega,[(2,some 5)],?_⟩;simp only[Am];simp only[ZZ,simprocAttr,Ab,AN,AM,CV]
 .rintro e a' w' ⟨⟨left,O⟩,G,ac,hq⟩;simp only[Y5] at ac;subst ac;simp only[Bg,Ck] at G;cases e<;>simp only[Zp] at hq;obtain⟨C2,S2,Dk,rfl,hE,Z,ht,hd,ag,ah,ai,aj,ak⟩:=hq;simp only[Exit.inBlock,Exit.then];have am:a.defers=[]:=by obtain⟨S0,_,h⟩:=hc;rw[h.defers];exact ao
  rw[am] at hd;have hm: ∀a'':Act,a''.defers=C2.ds->vI C0 C2 a''.defers:=λa'' h=> .inr ⟨Dk,by rw[h,<-hE.defers,hd],ag,ah,ai,aj,ak⟩
  refine wpIn_mono (lZ (ro:=none) D3 HV _ (by decide) (by decide) (Ve Tryz.prog [ResultVar.tmp 4] (iO op)) _ a' S2.w ?_ ⟨S2,rfl,hE⟩) ?_
  .simp only[ZZ,simprocAttr,Ab,Ve,PG,iO];exact⟨_,rfl,O,G,2,rfl,rfl⟩
  .intro e a'' w'' hq;cases e<;>simp only[Gv] at hq<;>simp only[PH]
   .obtain⟨s',aa,z⟩:=hq;exact⟨s',C2,aa,z,Z,hm a'' (by obtain⟨S0,_,h⟩:=z;exact h.defers)⟩
   .obtain⟨s',aa,z⟩:=hq;exact aa.elim
   .obtain⟨s',aa,z⟩:=hq;exact⟨s',C2,aa,z,Z,hm a'' (by obtain⟨S0,_,h⟩:=z;exact h.defers)⟩
def VK(a:List Ad)(j:Nat):An (srtQ.H0 a) j=true↔j<1:=by
 simp only[An,srtQ.H0,hget];by_cases z:j=0
 .subst z;simp
 .have:(0==j)=false:=by simpa using λh=>z h.symm
  rw[this];simp;omega
def oO(op:Gx)(S:Ay)(v:Value)(w:World):Prop:= ∃(z:Ba) (S1:Ay) (l:List Ad) (m:Nat),S1.w=w/\z.w=S.w/\z.ok=S.ok/\(∀b,¬z.M b)/\Wf z S1/\l.Perm (op.map Prod.fst)/\S1.h m=some (true,.arr 62 2 (l.map Ad.c))/\Aa S1 (.own m) v
def Yl{op:Gx}(hb:op.length<=1000000){C:Ba}{S:Ay}{v1:Value}(hW:Wf C S)(hv:EV S [.val (jK op)] [v1]):
 Calls Tryz.prog 177 #[v1] S.w (λe w=> ∃v,e= .returned v/\oO op S v w):=by
 have z:Calls Tryz.prog 195 #[.slice none 0 0,v1] S.w (λe w=> ∃v,e= .returned v/\oO op S v w):=by
  refine iP hb hW ⟨_,_,rfl,?_,hv⟩ (λv G S1 l m g1 g2 O Q Z g6 g7=>⟨v,rfl,G,S1,l,m,rfl,g1,g2,O,Q,Z,g6,g7⟩);exact eI S (.slice none 0 0)
 go_enter Tryz.func177,Tryz.ntmps177
 go_wp2_with (go_at_call 195;refine z.mono ?_;rintro e w' ⟨v,rfl,h⟩)
 go_ret
 exact⟨v,rfl,h⟩
def Qf{Z:Ba}{S1:Ay}{l:List Ad}{m:Nat}{v Q:Value}{R:Ending->World->Prop}(hW:Wf Z S1)(hd:l.Nodup)(hm:S1.h m=some (true,.arr 62 2 (l.map Ad.c)))(hv:Aa S1 (.own m) v)(ab:Aa S1 (.im (.fn 131 [] [])) Q)
 (G: ∀u S',Wf Z S'->S'.h m=some (true,.arr 62 2 ((Et l).map Ad.c))->Aa S' (.own m) v->R (.returned u) S'.w):
 Calls Tryz.prog 178 #[v,Q] S1.w R:=by
 have O:srtQ.row [.own m,.im (.fn 131 [] [])] S1.h (m+1) (λr E=>E={use:=[m],kill:=[m],new:=[(m,(true,.arr 62 2 ((Et l).map Ad.c)))],cnt:=0}):=by
  refine Az.os l [m] hd (VK l) rfl (by simp[bP]) ⟨rfl,?_⟩ ?_
  .simp only[srtQ.H0,Fs,Db,P3];exact⟨hm,trivial⟩
  .rfl
 obtain⟨_,r,E,hT,rfl⟩:=srtQ.ok _ _ _ _ O;have z: ∀n,¬Fr (m+1) 0 n:=λn h=>by have:=h.1;have:=h.2;omega
 refine hT Z S1 #[v,Q] R hW (λn _=>rfl) (λn hn=>(z n hn).elim) (λn e _ k _ hk=>z k hk) ⟨v,[Q],rfl,hv,Q,[],rfl,ab,rfl⟩ ?_;intro u S' aa hh hp _;refine G u S' aa ?_ (I5 hp _ _ (λo _ hf=>z o hf) hv);rw[hh];simp[B4.appf,hget]
def sorF.ar:List PK->Option Gx
 |[.val (.fn 179 [] [.ref [.mp ⟨true,[.int .i64,.int .i64]⟩ z]]),.val (.fn 131 [] [])]=>GF (EB Ad.d) (Qu Ch) z
 |_=>none
def sorF.ae(op:Gx):List PK:=[.val (jK op),.val (.fn 131 [] [])]
def sorF.le: ∀z a,sorF.ar z=some a->BY z (sorF.ae a):=by
 intro z a h;unfold sorF.ar at h;split at h
 .exact⟨Wr ⟨aY (Di.leP ⟨TS (Qxb Qwu (sR Dj (λ_=>rfl)) _ _ h),trivial⟩),trivial⟩,C9.refl _,trivial⟩
 .cases h
def sorF.fv(op:Gx):List Ad:=Et (op.map Prod.fst)
def sorF.row:AG:=LB sorF.ar (λop=>(op.map Prod.fst).Nodup/\op.length<=1000000) (λop=> .sl false 2 ((sorF.fv op).map Ad.c))
def sorF.q:=oM sorF.row rfl
def sorF.ok:AJ 157 sorF.row:=by
 refine Quy (by kernel_rfl) sorF.le (rc:=Qu Ad.d) (re:=λb=> .sl false 2 (b.map Ad.c)) (sR Ad.d_le (λ_=>rfl)) (f:=sorF.fv) (λop Q C S vs RR hW Z O=> ?_);obtain⟨ad,hb⟩:=Q;simp only[sorF.ae,EV] at Z;obtain⟨v1,r1,ai,ag,v2,r2,rfl,ah,rfl⟩:=Z;have ab:vs= #[v1,v2]:=by apply KM;simpa using ai
 subst ab;have G:=Yl hb hW (v1:=v1) ⟨v1,[],rfl,ag,rfl⟩
 go_enter Tryz.func157,Tryz.ntmps157
 have aa: ∀S1:Ay,Aa S1 (.im (.fn 131 [] [])) v2:=λS1=>by simpa only[I4,Aa,rd,rdl] using ah
 have af: ∀(z:Ba) (S1:Ay) (l:List Ad) (m:Nat) (v:Value),Wf z S1->l.Perm (op.map Prod.fst)->S1.h m=some (true,.arr 62 2 (l.map Ad.c))->Aa S1 (.own m) v->
  Calls Tryz.prog 178 #[v,v2] S1.w (λe w=> ∃u S',e= .returned u/\S'.w=w/\Wf z S'/\S'.h m=some (true,.arr 62 2 ((sorF.fv op).map Ad.c))/\Aa S' (.own m) v):=by
  intro z S1 l m v g4 g5 g6 g7;refine Qf g4 (g5.nodup_iff.2 ad) g6 g7 (aa S1) (λu S' h1 h2 h3=>⟨u,S',rfl,rfl,h1,?_,h3⟩)
  have:Et l=Et (op.map Prod.fst):=eF (Oe _) (Oe _) (λq=>by rw[K3,K3];exact g5.mem_iff)
  rw[h2,this];rfl
 go_wp2_with (first
  |(go_at_call 177;refine G.mono ?_;rintro e w' ⟨v,rfl,z,S1,l,m,rfl,g1,g2,g3,g4,g5,g6,g7⟩)
  |(go_at_call 178;refine (af z S1 l m v g4 g5 g6 g7).mono ?_;rintro e w' ⟨u,S',rfl,rfl,h1,h2,h3⟩))
 show RR (.returned v) S'.w;obtain⟨d,rfl,ac⟩:=Qzf (K:=λd=>d= .sl false 2 ((sorF.fv op).map Ad.c)) g3 h1 (x:= .own m) (by
  simp only[Pf,h2,jD,jC];exact⟨by intro row hr;obtain⟨p,_,rfl⟩:=BF.1 hr;rfl,trivial⟩) h3
 exact O v z S' _ g1 g2 g3 h1 (by simp only[AP,Qu,Ad.d_R]) ac
def Bn.ca(_:Gx):List AV:=[.mp 0]
def Bn.H0(a:Gx):Ar:=[(0,(true,.map yE (a.map D9)))]
def Bn.H1(_:Gx):Ar:=[(1,(true,.cells 141 [.mp 0]))]
def Bn.r0(_:Gx):AV:= .clo 179 [] [.ptr 1 0]
def Bn.row:AG:=Az Bn.ca Bn.H0 1 (λ_=>True) (λ_=>false) Bn.r0 Bn.H1 1
def Bn.ok:AJ 158 Bn.row:=by
 refine ow tN Tryz.func158 (exB:=λj=>j==1) (R:=λa r=>r=Bn.r0 a) (λ_=>rfl)
  (λa=>by simp[Bn.ca,Bn.H0,Bn.H1,Bn.r0,AQ,AV.bel,AB,Cg,Cs,Ah.nms,Ax,AV.nms,An,hget]) (λa p hp=> ?_) (λa r h=>by subst h;exact D2.refl _) ?_
 rotate_left
 intro a z;simp only[Tryz.f158,Option.getD,Bn.ca,Bn.H0,Bn.H1,Bn.r0];simp only[ZZ,simprocAttr,Ab,Av,Bn.ca,Bn.H0,Bn.H1,Bn.r0];simp[Bn.H1] at hp;subst hp;exact .inr ⟨by omega,by omega,rfl,rfl⟩
end Go.Ae
namespace Go.Ae
open Go.Proofs
def MD{β:Type}{v:β}{p:Ad}: ∀{t:List (Ad×β)},BP t p=some v->(p,v)∈t
 |(q,w)::r,h=>by
  simp only[BP] at h;split at h
  .rename_i e;obtain rfl:=AC h;rw[e];exact BS ..
  .exact BW _ (MD h)
def rR{β:Type}{p:Ad}: ∀{t:List (Ad×β)},BP t p=none->p∉t.map Prod.fst
 |[],_=>by simp
 |(q,w)::r,h=>by
  simp only[BP] at h;split at h
  .cases h
  .rename_i e;simp only[Bf,Bw,XV];exact⟨e,rR h⟩
def TL(a:Gx)(j:Nat):An (Bn.H0 a) j=true↔j<1:=by
 simp only[An,Bn.H0,hget];by_cases h0:j=0
 .subst h0;simp
 .have z:(0==j)=false:=by simp;omega
  simp[z];omega
def lisC.r0(a:Cw):AV:= .im (.sl false 3 ((Hd a.Op).map Be.c))
def lisC.row:AG:=Az asmC.ca AT 3 (λa=>(a.Op.map Prod.fst).Nodup/\a.Op.length<=1000000/\ ∀q∈a.Op,q.2.length<=1000) (λ_=>false) lisC.r0 (λ_=>[]) 20
def RJ:=J @sorF.q @sorF.fv.eq_1
def lisC.ok:AJ 124 lisC.row:=by
 refine Ha (tC Bn.ok (tC sorF.ok tN)) Tryz.func124 (exB:=λ_=>false) (R:=λa r=>r=lisC.r0 a) (λ_=>rfl)
  (λa=>by simp[asmC.ca,AT,Bq,AQ,AV.bel,AB,Cg,Cs,Ah.nms,Ax,AV.nms,An,hget]) (λa p hp=> ?_) (λa r h=>by subst h;exact D2.refl _) ?_
 rotate_left
 intro a ab;simp only[Tryz.f124,Option.getD,asmC.ca,AT,Bq];simp only[ZZ,simprocAttr,Ab,RJ,sorF.ar,AD,Av,asmC.ca,AT,Bq];obtain⟨Z,aa,af⟩:=ab;refine Az.os a.Op [2] trivial (λj=>TL _ j) rfl rfl ?_ ?_
 .simp only[ZZ,simprocAttr,Ab,RJ,sorF.ar,AD,Av,asmC.ca,AT,Bq,Bn.ca,Bn.H0,Bb,Br];rfl
 simp only[ZZ,simprocAttr,Ab,RJ,sorF.ar,AD,Av,asmC.ca,AT,Bq,Bn.H1,Bn.r0,sub];obtain⟨L,hL⟩: ∃L,L=Et (a.Op.map Prod.fst):=⟨_,rfl⟩;obtain⟨g,hg⟩: ∃g:Ad->List Int,g=λp=>(BP a.Op p).getD []:=⟨_,rfl⟩
 have ad:Hd a.Op=CH g L:=by rw[hg,hL];rfl
 refine⟨⟨Z,aa⟩,?_⟩;simp only[<-hL];intro ag;refine AZ.ren ⟨{i:Nat//i<=L.length},λi=>⟨[(15,.im (.int .i64 i.1)),(14,.im (.int .i64 L.length)),(13,.im (.sl false 2 (L.map Ad.c))),(3,.own 6),(0,.ptr 0 0)],[(6,(true,.arr 107 3 ((EI g L i.1).map Be.c))),(0,(true,.cells 143 (Bq a.Sys))),(1,(true,.map ⟨true,[.int .i64,.int .i64]⟩ (a.Tl.map Fg))),(2,(true,.map ⟨true,[.int .i64,.int .i64]⟩ (a.Op.map D9)))],7⟩,λi=>L.length - i.1,λi=>⟨by simp[ZG,Bq],by simp⟩,⟨⟨0,BV _⟩,[(6,some 4)],?_⟩,λi=> ?_⟩
 .simp only[Am,Bq];simp only[ZZ,simprocAttr,Ab,RJ,sorF.ar,AD,Av,asmC.ca,AT,Bq,AN,AM,EI,Hp,CH,IE,Bg]
  try simp
 obtain⟨i,hi⟩:=i;simp only[Bq];simp only[ZZ,simprocAttr,Ab,RJ,sorF.ar,AD,Av,asmC.ca,AT,Bq,sub,AS,YO];have z: ∀p,(g p).length<=1000:=λp=>by
  rw[hg];simp only;cases hq:BP a.Op p with
  |none=>simp
  |some v=>exact af _ (MD hq)
 have ah:L.length<=1000000:=by rw[hL,(rJ Z).length_eq,Du];exact aa
 have ai:(EI g L i).length<=1000000*1000:=by
  have:=WW z (L.take i)
  have h9:(L.take i).length*1000<=1000000*1000:=Ig _ (by simp;omega);simp only[EI];omega
 refine⟨λO=>⟨O,λp hp=>⟨λv hv=> ?_,λhv=> ?_⟩⟩,λO=> ?_⟩
 .have G:g p=v:=by rw[hg];simp only[hv,AW]
  have ac:=z p;rw[G] at ac;refine AZ.ren ⟨{k:Nat//k<=v.length},λk=>⟨[(26,.im (.int .i64 k.1)),(25,.im (.int .i64 v.length)),(24,.im (.sl false 1 (v.map Af))),(5,.ptr 7 0),(15,.im (.int .i64 i)),(14,.im (.int .i64 L.length)),(13,.im (.sl false 2 (L.map Ad.c))),(3,.own 8),(0,.ptr 0 0)],[(8,(true,.arr 107 3 ((EI g L i++(v.take k.1).map (Pq p)).map Be.c))),(7,(true,.cells 62 ((Ad.c p).map .im))),(0,(true,.cells 143 (Bq a.Sys))),(1,(true,.map ⟨true,[.int .i64,.int .i64]⟩ (a.Tl.map Fg))),(2,(true,.map ⟨true,[.int .i64,.int .i64]⟩ (a.Op.map D9)))],9⟩,λk=>v.length - k.1,λk=>⟨by simp[ZG,Bq,Ad.c],by simp⟩,⟨⟨0,BV _⟩,[(8,some 6)],?_⟩,λk=> ?_⟩
  .simp only[Am,Bq];simp only[ZZ,simprocAttr,Ab,RJ,sorF.ar,AD,Av,asmC.ca,AT,Bq,AN,AM,Hp,Bg,Ck]
   try simp
  obtain⟨k,hk⟩:=k;simp only[Bq];simp only[ZZ,simprocAttr,Ab,RJ,sorF.ar,AD,Av,asmC.ca,AT,Bq,sub,AS,Oc,NZ,Ob,BZ,D.one,EL,Fu,Jn,Bz];refine⟨λQ=>⟨Q,λx hx=>⟨?_,⟨k+1,by omega⟩,[(8,some 10)],by simp only;omega,?_⟩⟩,λQ=>⟨⟨i+1,by omega⟩,[(6,some 8)],by simp only;omega,?_⟩⟩
  .have:(v.take k).length<=1000:=by simp;omega
   omega
  .simp only[Am];simp only[ZZ,simprocAttr,Ab,RJ,sorF.ar,AD,Av,asmC.ca,AT,Bq,AN,AM];refine⟨by rw[AH (by omega) (by omega)];rfl,?_⟩;rw[Ww hx];simp[Pq,Be.c,Ad.c]
  .obtain rfl:k=v.length:=by omega
   simp only[Am];simp only[ZZ,simprocAttr,Ab,RJ,sorF.ar,AD,Av,asmC.ca,AT,Bq,AN,AM];refine⟨by rw[AH (by omega) (by omega)];rfl,?_⟩;rw[rK hp,IF,G]
 .exfalso
  have:p∈L:=Bh hp
  rw[hL,K3] at this;exact rR hv this
 .obtain rfl:i=L.length:=by omega
  have hA:EI g L L.length=Hd a.Op:=by rw[EI,IF,ad]
  rw[hA];refine⟨[6],[],⟨[(2,.im (.sl false 3 ((Hd a.Op).map Be.c)))],[(0,(true,.cells 143 (Bq a.Sys))),(1,(true,.map ⟨true,[.int .i64,.int .i64]⟩ (a.Tl.map Fg))),(2,(true,.map ⟨true,[.int .i64,.int .i64]⟩ (a.Op.map D9)))],3⟩,?_,by simp[ZG,Bq],by simp,?_⟩
  .simp only[Am,Bq];simp only[ZZ,simprocAttr,Ab,RJ,sorF.ar,AD,Av,asmC.ca,AT,Bq,AN,AM]
  .simp only[Bq];simp only[ZZ,simprocAttr,Ab,RJ,sorF.ar,AD,Av,asmC.ca,AT,Bq,lisC.r0]
 simp at hp
def Zo{s:AF}{t:List (Ad×Int)}{a:Ao}{k:Nat}{o:Be}(h:RM t a k)(Z:HG s.Set a)(c1:GD s a o=true):BP t o.At=none/\0<=o.Tile:=by
 simp only[GD,Bc,C7] at c1;obtain⟨d1,z,G,_⟩:=c1;have hv:0<=o.Tile:=by
  simp only[Bj,Bc,C7] at z;exact z.1
 refine⟨?_,hv⟩;have O:Dl t o.At=BM a o.At:=congrFun h.at o.At;have h2:=(WZ Z.2 o.At).1 G;cases hq:BP t o.At with
 |none=>rfl
 |some v=>
  exfalso;have Q:=h.pos _ (dN hq);simp only[Dl,hq,AW] at O;simp only at Q;omega
def Qado(l:List Int)(i:Nat)(x:Int):(l.map Af).set i [.int .i64 x]=(l.set i x).map Af:=by rw[RU];rfl
def Hu(k:Int)(n:Nat):List Int:=(List.range n).map λ(i:Nat)=>k+(i:Int)
def Rh(k:Int)(n:Nat):(Hu k n).length=n:=by simp[Hu]
def qF(k:Int)(n:Nat):Hu k (n+1)=Hu k n++[k+(n:Int)]:=by simp[Hu,XQ]
def YR{k:Int}{n i:Nat}(h:i<n):(Hu k n)[i]? =some (k+(i:Int)):=by simp only[Hu,Gb];rw[IH h];rfl
def Hv(k:Int)(l:List Int)(i:Nat):List Int:=Hu k i++l.drop i
def Ui{k:Int}{l:List Int}{i:Nat}(h:i<=l.length):(Hv k l i).length=l.length:=by simp[Hv,Rh];omega
def Uj{k:Int}{l:List Int}{i:Nat}(h:i<l.length):(Hv k l i).set i (k+(i:Int))=Hv k l (i+1):=by
 have hd:l.drop i=l[i]::l.drop (i+1):=by rw[XP h]
 rw[Hv,wU _ _ (by rw[Rh];omega),Rh,hd,Ii,iB,Hv,qF];simp
def Uh{k:Int}{l:List Int}{i:Nat}(h:i=l.length):Hv k l i=Hu k l.length:=by
 subst h;simp[Hv]
def mkIC.ca(a:List Int×Int):List AV:=[.own 0,.im (.int .i64 a.2)]
def mkIC.H0(a:List Int×Int):Ar:=[(0,(true,.arr 2 1 (a.1.map Af)))]
def mkIC.H1(a:List Int×Int):Ar:=[(0,(true,.arr 2 1 ((Hu a.2 a.1.length).map Af)))]
def mkIC.row:AG:=Az mkIC.ca mkIC.H0 1 (λa=>0<=a.2/\a.2+a.1.length<=1099511627776) (λj=>j==0) (λa=> .im (.int .i64 (a.2+a.1.length))) mkIC.H1 0
def mkIC.ok:AJ 9 mkIC.row:=by
 refine ow tN Tryz.func9 (exB:=λ_=>false) (R:=λa r=>r= .im (.int .i64 (a.2+a.1.length))) (λ_=>rfl)
  (λa=>by simp[mkIC.ca,mkIC.H0,mkIC.H1,AQ,AV.bel,AB,Cg,Cs,Ah.nms,Ax,AV.nms,An,hget]) (λa p hp=> ?_) (λa r h=>by subst h;exact D2.refl _) ?_
 rotate_left
 intro a z;simp only[Tryz.f9,Option.getD,mkIC.ca,mkIC.H0,mkIC.H1];simp only[ZZ,simprocAttr,Ab,Av,mkIC.ca,mkIC.H0,mkIC.H1];obtain⟨l,k⟩:=a;simp only at z⊢;obtain⟨Z,h2⟩:=z;refine AZ.old ⟨{i:Nat//i<=l.length},λi=>⟨[(5,.im (.int .i64 i.1)),(4,.im (.int .i64 0)),(1,.im (.int .i64 (k+i.1))),(0,.own 0)],[(0,(true,.arr 2 1 ((Hv k l i.1).map Af)))],1⟩,λi=>l.length - i.1,λi=>⟨by simp[ZG],by simp⟩,⟨⟨0,by simp⟩,by simp only[ZZ,simprocAttr,Ab,Av,mkIC.ca,mkIC.H0,mkIC.H1,sub];simp[Hv,Hu]⟩,λi=> ?_⟩;obtain⟨i,O⟩:=i;have Q:=Ui (k:=k) O;simp only[ZZ,simprocAttr,Ab,Av,mkIC.ca,mkIC.H0,mkIC.H1,sub,AS,Q];intro _;refine⟨λG=>⟨G,G,λx _=>⟨⟨i+1,by omega⟩,by simp only;omega,⟨?_,?_⟩,?_⟩⟩,λG=>⟨by omega,by rw[Uh (by omega)]⟩⟩
 .rw[AH (by omega) (by omega)];simp only;omega
 .rw[AH (by omega) (by omega)];simp only;omega
 .rw[Qado,Uj G]
 simp[mkIC.H1] at hp;subst hp;exact .inl ⟨by omega,rfl,rfl⟩
def J1(l:List Int)(k:Int):Int:=if l=Hu k l.length then k+l.length else -1
def heldIS.fv(a:(List Int)×Int):Int:=(J1) (a.1) (a.2)
def heldIS.row:AG:=CY (b2 (qS Dj Ct) qI) rI (λa=>0<=a.2/\a.2+a.1.length<=1099511627776) heldIS.fv
def heldIS.ok:AJ 11 heldIS.row:=by
 refine FM tN Tryz.func11 ?_;intro a z;simp only[Tryz.f11,Option.getD];simp only[ZZ,simprocAttr,Ab,heldIS.fv,BD,D.sc,D.scs,B6,AP];obtain⟨l,k⟩:=a;simp only at z⊢;obtain⟨h1,h2⟩:=z;refine AZ.old ⟨{i:Nat//i<=l.length/\l.take i=Hu k i},λi=>⟨[(5,.im (.int .i64 i.1)),(4,.im (.int .i64 0)),(1,.im (.int .i64 (k+i.1))),(0,.im (.sl false 1 (l.map Af)))],[],0⟩,λi=>l.length - i.1,λi=>⟨by simp[ZG],by simp⟩,⟨⟨0,by simp[Hu]⟩,by simp only[ZZ,simprocAttr,Ab,heldIS.fv,BD,D.sc,D.scs,B6,AP,sub];simp⟩,λi=> ?_⟩;obtain⟨i,aa,G⟩:=i;simp only[ZZ,simprocAttr,Ab,heldIS.fv,BD,D.sc,D.scs,B6,AP,sub,AS];intro hn;refine⟨λO=>⟨O,λx Z=>⟨λc=> ?_,λc=>⟨⟨i+1,by omega,?_⟩,by simp only;omega,?_,?_⟩⟩⟩,λO=> ?_⟩
 .have: ¬l=Hu k l.length:=by
   intro h;rw[h,YR O] at Z;exact c (AC Z).symm
  simp only[J1];rw[Ag this]
 .rw[Ww Z,G,qF,HJ.1 c]
 .rw[AH (by omega) (by omega)];simp only;omega
 .rw[AH (by omega) (by omega)];simp only;omega
 .have Q:i=l.length:=by omega
  subst Q;rw[IF] at G;simp only[J1];rw[Al G]
def QY{A:Type}(f:Nat->A)(l:List A)(i:Nat):List A:=(List.range i).map f++l.drop i
def aC{A:Type}{f:Nat->A}{l:List A}{i:Nat}(h:i<=l.length):(QY f l i).length=l.length:=by simp[QY];omega
def Wd{A:Type}(f:Nat->A)(l:List A):QY f l 0=l:=by simp[QY]
def aD{A:Type}{f:Nat->A}{l:List A}{i:Nat}(h:i<l.length):(QY f l i).set i (f i)=QY f l (i+1):=by
 have hd:l.drop i=l[i]::l.drop (i+1):=by rw[XP h]
 have z:((List.range i).map f).length=i:=by simp
 rw[QY,wU _ _ (by rw[z];omega),z,hd,Ii,iB,QY,XQ];simp
def Hc{A:Type}(f:Nat->A)(n:Nat):List A:=(List.range n).map f
def aB{A:Type}{f:Nat->A}{l:List A}{i:Nat}(h:i=l.length):QY f l i=Hc f l.length:=by
 subst h;simp[QY,Hc]
def pF(k:Int)(i:Nat):Aq:=⟨⟨k+3*i,k+3*i+1⟩,k+3*i+2⟩
def mkPC.ca(a:List Aq×Int):List AV:=[.own 0,.im (.int .i64 a.2)]
def mkPC.H0(a:List Aq×Int):Ar:=[(0,(true,.arr 88 3 (a.1.map Aq.c)))]
def mkPC.H1(a:List Aq×Int):Ar:=[(0,(true,.arr 88 3 ((Hc (pF a.2) a.1.length).map Aq.c)))]
def mkPC.row:AG:=Az mkPC.ca mkPC.H0 1 (λa=>0<=a.2/\a.2+3*a.1.length<=1099511627776) (λj=>j==0) (λa=> .im (.int .i64 (a.2+3*a.1.length))) mkPC.H1 0
def mkPC.ok:AJ 21 mkPC.row:=by
 refine ow tN Tryz.func21 (exB:=λ_=>false) (R:=λa r=>r= .im (.int .i64 (a.2+3*a.1.length))) (λ_=>rfl)
  (λa=>by simp[mkPC.ca,mkPC.H0,mkPC.H1,AQ,AV.bel,AB,Cg,Cs,Ah.nms,Ax,AV.nms,An,hget]) (λa p hp=> ?_) (λa r h=>by subst h;exact D2.refl _) ?_
 rotate_left
 intro a G;simp only[Tryz.f21,Option.getD,mkPC.ca,mkPC.H0,mkPC.H1];simp only[ZZ,simprocAttr,Ab,Av,mkPC.ca,mkPC.H0,mkPC.H1];obtain⟨l,k⟩:=a;simp only at G⊢;obtain⟨h1,h2⟩:=G;refine AZ.old ⟨{i:Nat//i<=l.length},λi=>⟨[(5,.im (.int .i64 i.1)),(4,.im (.int .i64 0)),(1,.im (.int .i64 (k+3*i.1))),(0,.own 0)],[(0,(true,.arr 88 3 ((QY (pF k) l i.1).map Aq.c)))],1⟩,λi=>l.length - i.1,λi=>⟨by simp[ZG],by simp⟩,⟨⟨0,by simp⟩,by simp only[ZZ,simprocAttr,Ab,Av,mkPC.ca,mkPC.H0,mkPC.H1,sub,Wd];simp⟩,λi=> ?_⟩;obtain⟨i,Z⟩:=i;have Q:=aC (f:=pF k) Z;simp only[ZZ,simprocAttr,Ab,Av,mkPC.ca,mkPC.H0,mkPC.H1,sub,AS,Q];intro _;refine⟨λO=>⟨O,O,λx hx=> ?_⟩,λO=> ?_⟩
 .have w1:IntKind.i64.wrap (k+3*(i:Int)+1)=k+3*(i:Int)+1:=AH (by omega) (by omega);have w2:IntKind.i64.wrap (k+3*(i:Int)+1+1)=k+3*(i:Int)+2:=(AH (by omega) (by omega)).trans (by omega);have z:i<(List.map Aq.c (QY (pF k) l i)).length:=by rw[Du,Q];exact O
  simp only[w1,w2];refine⟨by rw[GX];exact z,by rw[GX];exact z,mL (Ey z) ?_⟩;simp only[ZZ,simprocAttr,Ab,Av,mkPC.ca,mkPC.H0,mkPC.H1,sub,w1,w2,List.set_set];refine⟨by rw[GX];exact z,by rw[GX];exact z,mL (Ey z) ?_⟩;simp only[ZZ,simprocAttr,Ab,Av,mkPC.ca,mkPC.H0,mkPC.H1,sub,w1,w2,List.set_set];refine⟨⟨i+1,by omega⟩,by simp only;omega,⟨?_,?_⟩,?_⟩
  .rw[AH (by omega) (by omega)];simp only;omega
  .rw[AH (by omega) (by omega)];simp only;omega
  .simp only;rw[<-aD O,RU];rfl
 .exact⟨by omega,by rw[aB (by omega)]⟩
 simp[mkPC.H1] at hp;subst hp;exact .inl ⟨by omega,rfl,rfl⟩
def oF(k:Int)(i:Nat):Be:=⟨⟨k+3*i,k+3*i+1⟩,k+3*i+2⟩
def toIX.ca(a:List Int):List AV:=[.im (.sl false 1 (a.map Af))]
def toIX.H1(a:List Int):Ar:=[(1,(true,.arr 2 1 (a.map Af)))]
def toIX.row:AG:=Az toIX.ca (λ_=>[]) 0 (λa=>a.length<=1073741824) (λ_=>false) (λ_=> .own 1) toIX.H1 2
def toIX.ok:AJ 5 toIX.row:=by
 refine ow tN Tryz.func5 (exB:=λj=>j==1) (R:=λ_ r=>r= .own 1) (λ_=>rfl)
  (λa=>by simp[toIX.ca,toIX.H1,AQ,AV.bel,AB,Cg,Cs,Ah.nms,Ax,AV.nms,An,hget]) (λa p hp=> ?_) (λa r h=>by subst h;exact D2.refl _) ?_
 rotate_left
 intro a z;simp only[Tryz.f5,Option.getD,toIX.ca,toIX.H1];simp only[ZZ,simprocAttr,Ab,Av,toIX.ca,toIX.H1];intro Q;have aa:a.length<=1073741824:=z;refine⟨by omega,?_⟩;refine AZ.old ⟨{k:Nat//k<=a.length},λk=>⟨[(4,.im (.int .i64 k.1)),(3,.own 1),(0,.im (.sl false 1 (a.map Af)))],[(1,(true,.arr 2 1 ((a.take k.1).map Af++List.replicate (a.length - k.1) [.int .i64 0])))],2⟩,λk=>a.length - k.1,λk=>⟨by simp[ZG],AU _⟩,⟨⟨0,by omega⟩,by simp only[ZZ,simprocAttr,Ab,Av,toIX.ca,toIX.H1,sub];simp⟩,λk=> ?_⟩;obtain⟨k,O⟩:=k;simp only[ZZ,simprocAttr,Ab,Av,toIX.ca,toIX.H1,sub,AS,Qk2 _ _ a k O];intro _;refine⟨λG=> ?_,λG=> ?_⟩
 .refine⟨G,λx Z=>⟨G,G,mL (Qj5 Af _ a k x Z) ?_⟩⟩;simp only[ZZ,simprocAttr,Ab,Av,toIX.ca,toIX.H1,sub];refine⟨⟨k+1,by omega⟩,by simp only;omega,?_,?_⟩
  .rw[AH (by omega) (by omega)];simp only;omega
  .exact Qli Af _ a k x Z
 .rw[Qkp Af _ a k (by omega)]
  try trivial
 simp[toIX.H1] at hp;subst hp;exact .inr ⟨by omega,by omega,rfl,rfl⟩
def tlF(a:List Tile)(i:Nat):Au:=(true,.arr 2 1 (((a[i]?.map Tile.Sides).getD []).map Af))
def toLX.pre(a:List Tile):Prop:=a.length<=1048576/\ ∀x∈a,x.Sides.length<=1073741824
def tlB(b:Nat)(a:List Tile):List (List AV):=(List.range a.length).map λi=>[.im (.str ((a[i]?.map Tile.Name).getD ByteArray.empty)),.own (b+i)]
def pX(k:List Nat)(nx cnt:Nat): ∀(H:Ar),(∀p∈H,nx<=p.1/\p.1<nx+cnt)->IC k nx cnt H=true
 |[],_=>rfl
 |(i,e)::r,h=>by
  have z:=h (i,e) (BS ..);simp only at z;simp only[IC,K0,pX k nx cnt r (λp hp=>h p (BW _ hp)),EL,Ic,Bc,LM,F5];exact .inl z
def toSX.pre(a:AE):Prop:=a.Glues.length<=1073741824/\toLX.pre a.Tiles
def toYX.pre(a:AF):Prop:=toSX.pre a.Set/\a.Seed.Tiles.length<=1073741824
def eqInt64SF.fv(a:(List Int)×(List Int)):Bool:=(λa b=>decide (a=b)) (a.1) (a.2)
def eqInt64SF.row:AG:=CY (b2 (qS Dj Ct) (qS Dj Ct)) rB (λa=>True) eqInt64SF.fv
def eqInt64SF.ok:AJ 7 eqInt64SF.row:=by
 refine FM tN Tryz.func7 ?_;intro a Z;simp only[Tryz.f7,Option.getD];simp only[ZZ,simprocAttr,Ab,eqInt64SF.fv,BD,D.sc,D.scs,B6,AP];intro h1 h2;simp only[AS];refine⟨λG=> ?_,λG=> ?_⟩
 .have:a.1≠a.2:=λh=>G (by rw[h])
  simp[this]
 have G:a.1.length=a.2.length:=by omega
 refine AZ.old ⟨{k:Nat//k<=a.1.length/\a.1.take k=a.2.take k},λk=>⟨[(5,.im (.int .i64 k.1)),(4,.im (.bool false)),(0,.im (.sl false 1 (a.1.map Af))),(1,.im (.sl false 1 (a.2.map Af)))],[],0⟩,λk=>a.1.length - k.1,λk=>⟨by simp[ZG],AU _⟩,⟨⟨0,by simp⟩,by simp only[ZZ,simprocAttr,Ab,eqInt64SF.fv,BD,D.sc,D.scs,B6,AP,sub]⟩,λk=> ?_⟩;obtain⟨k,Q,z⟩:=k;simp only[ZZ,simprocAttr,Ab,eqInt64SF.fv,BD,D.sc,D.scs,B6,AP,sub,AS];intro _;refine⟨λO=>⟨O,λx hx=>⟨by omega,λy hy=> ?_⟩⟩,λO=> ?_⟩
 .obtain⟨g1,g2⟩:=Qew G Q z hx hy;exact⟨λh=>by simp[g2 h],λh=>JW O h1 ⟨by omega,g1 (by simpa using h)⟩⟩
 .rw[GW (by omega),GW (by omega)] at z;simp[z]
def mkAC.ca(a:Ao×Int):List AV:=[.agg [.own 0],.im (.int .i64 a.2)]
def mkAC.H0(a:Ao×Int):Ar:=[(0,(true,.arr 88 3 (a.1.Tiles.map Aq.c)))]
def mkAC.H1(a:Ao×Int):Ar:=[(0,(true,.arr 88 3 ((Hc (pF a.2) a.1.Tiles.length).map Aq.c)))]
def mkAC.row:AG:=Az mkAC.ca mkAC.H0 1 (λa=>0<=a.2/\a.2+3*a.1.Tiles.length<=1099511627776) (λj=>j==0) (λa=> .im (.int .i64 (a.2+3*a.1.Tiles.length))) mkAC.H1 0
def mkAC.ok:AJ 10 mkAC.row:=by
 refine ow (tC mkPC.ok tN) Tryz.func10 (exB:=λ_=>false) (R:=λa r=>r= .im (.int .i64 (a.2+3*a.1.Tiles.length))) (λ_=>rfl)
  (λa=>by simp[mkAC.ca,mkAC.H0,mkAC.H1,AQ,AV.bel,AB,Cg,Cs,Ah.nms,Ax,AV.nms,An,hget]) (λa p hp=> ?_) (λa r h=>by subst h;exact D2.refl _) ?_
 rotate_left
 intro a z;simp only[Tryz.f10,Option.getD,mkAC.ca,mkAC.H0,mkAC.H1];simp only[ZZ,simprocAttr,Ab,Av,mkAC.ca,mkAC.H0,mkAC.H1];refine Az.os (a.1.Tiles,a.2) [0] z (λj=> ?_) rfl rfl ?_ ?_
 .simp only[An,mkPC.H0,hget];by_cases G:j=0
  .subst G;simp
  .have:(0==j)=false:=by simpa using λh=>G h.symm
   rw[this];simp;omega
 .simp only[ZZ,simprocAttr,Ab,Av,mkAC.ca,mkAC.H0,mkAC.H1,mkPC.ca,mkPC.H0,Fs,Br]
  try exact⟨rfl,rfl⟩
 simp only[ZZ,simprocAttr,Ab,Av,mkAC.ca,mkAC.H0,mkAC.H1,mkPC.H1,sub,Br,Bx]
 skip
 simp[mkAC.H1] at hp;subst hp;exact .inl ⟨by omega,rfl,rfl⟩
def sdL(a:List Tile)(i:Nat):List Int:=(a[i]?.map Tile.Sides).getD []
def tlK(a:List Tile)(k:Int):Nat->Int
 |0=>k
 |i+1=>tlK a k i+1+(sdL a i).length
def mkLC.pre(a:List Tile×Int):Prop:=a.1.length<=1048576/\0<=a.2/\tlK a.1 a.2 a.1.length<=1099511627776
def Pm{H:Ar}{j:Nat}:j∈FQ H↔An H j=true:=by
 induction H with
 |nil=>simp[FQ,An,hget]
 |cons e r ih=>
  obtain⟨i,e⟩:=e;simp only[FQ,Bw,An,hget];by_cases z:i=j
  .subst z;simp
  .have:(i==j)=false:=by simpa using z
   rw[this];simp only[Cy];exact⟨λh=>ih.1 (h.resolve_left λh=>z h.symm),λh=> .inr (ih.2 h)⟩
mutual
def dP{n:Nat}: ∀x:AV,(∀m∈x.nms,m<n)->x.bel n=true
 | .any,_=>rfl
 | .im _,_=>rfl
 | .agg z,h=>by simp only[AV.nms] at h;simp only[AV.bel];exact Kx z h
 | .tup z,h=>by simp only[AV.nms] at h;simp only[AV.bel];exact Kx z h
 | .ptr o _,h=>by simp only[AV.bel,F5];exact h o (by simp[AV.nms])
 | .eptr o _ _,h=>by simp only[AV.bel,F5];exact h o (by simp[AV.nms])
 | .own o,h=>by simp only[AV.bel,F5];exact h o (by simp[AV.nms])
 | .mp o,h=>by simp only[AV.bel,F5];exact h o (by simp[AV.nms])
 | .ch o,h=>by simp only[AV.bel,F5];exact h o (by simp[AV.nms])
 | .it o,h=>by simp only[AV.bel,F5];exact h o (by simp[AV.nms])
 | .osl o _ _,h=>by simp only[AV.bel,F5];exact h o (by simp[AV.nms])
 | .clo _ a c,h=>by
   simp only[AV.nms,B2] at h;simp only[AV.bel,Kx a λm G=>h m (.inl G),Kx c λm G=>h m (.inr G),nU]
def Kx{n:Nat}: ∀xs:List AV,(∀m∈Ax xs,m<n)->AQ n xs=true
 |[],_=>rfl
 |x::r,h=>by
  simp only[Ax,B2] at h;simp only[AQ,dP x λm z=>h m (.inl z),Kx r λm z=>h m (.inr z),nU]
end
def pY{n:Nat}: ∀H:Ar,(∀p∈H,∀m∈p.2.2.nms,m<n)->AB n H=true
 |[],_=>rfl
 |(i,(Q,e))::r,h=>by
  have z:=h _ (BS ..);have ih:=pY r λp hp=>h p (BW _ hp)
  cases e with
  |cells T G=>simp only[AB,ih,EL];exact Kx G (by simpa[Ah.nms] using z)
  |arrA T k rows=>
   simp only[AB,ih,EL,Fk];refine λq hq=>Kx q λm O=>z m ?_
   simp only[Ah.nms];exact Ky.2 ⟨q,hq,O⟩
  |_=>simp only[AB,ih]
mutual
def dR(σ:Nat->Nat): ∀x:AV,(x.ren σ).nms=x.nms.map σ
 | .any=>rfl
 | .im _=>rfl
 | .agg z=>by simp only[AV.ren,AV.nms];exact Kz σ z
 | .tup z=>by simp only[AV.ren,AV.nms];exact Kz σ z
 | .ptr o _=>rfl
 | .eptr o _ _=>rfl
 | .own o=>rfl
 | .mp o=>rfl
 | .ch o=>rfl
 | .it o=>rfl
 | .osl o _ _=>rfl
 | .clo _ a c=>by simp only[AV.ren,AV.nms,Kz σ a,Kz σ c,CV]
def Kz(σ:Nat->Nat): ∀xs:List AV,Ax (Bd σ xs)=(Ax xs).map σ
 |[]=>rfl
 |x::r=>by simp only[Bd,Ax,dR σ x,Kz σ r,CV]
end
def Qafh(σ:Nat->Nat)(e:Ah): ∀m∈(e.ren σ).nms,∃j∈e.nms,m=σ j:=by
 intro m z;cases e with
 |cells T Q=>
  simp only[Ah.ren,Ah.nms,Kz,BF] at z⊢;obtain⟨j,G,rfl⟩:=z;exact⟨j,G,rfl⟩
 |arrA T k rows=>
  simp only[Ah.ren,Ah.nms] at z⊢;obtain⟨r,O,z⟩:=Ky.1 z;obtain⟨q,hq,rfl⟩:=BF.1 O;rw[Kz,BF] at z;obtain⟨j,G,rfl⟩:=z;exact⟨j,Ky.2 ⟨q,hq,G⟩,rfl⟩
 |_=>simp[Ah.ren,Ah.nms] at z
def qG{σ:Nat->Nat}{N:Nat}(H:Ar)(h: ∀p∈H,∀m∈p.2.2.nms,σ m<N):AB N (Bp σ H)=true:=by
 refine pY _ ?_;induction H with
 |nil=>intro p hp;cases hp
 |cons x r ih=>
  obtain⟨i,O,e⟩:=x;intro p hp m z;rcases Bw.1 hp with rfl|hp
  .obtain⟨j,G,rfl⟩:=Qafh σ e m z;exact h _ (BS ..) j G
  .exact ih (λp hp=>h p (BW _ hp)) p hp m z
def Az.tau{A:Type}{ca:A->List AV}{H0:A->Ar}{k:Nat}{pre:A->Prop}{klB:Nat->Bool}{r0:A->AV}{H1:A->Ar}{args:List AV}{tm:List (Nat×AV)}{h:Ar}{nx:Nat}{dst:Option Nat}{go:A8->Prop}(a:A)(τ:Nat->Nat)(ad:pre a)(aj: ∀j,An (H0 a) j=true->klB j=true)
 (hd: ∀j,An (H0 a) j=true->j<k/\τ j<nx)(aa: ∀i j,An (H0 a) i=true->An (H0 a) j=true->τ i=τ j->i=j)
 (ab: ∀p∈H1 a,An (H0 a) p.1=true/\ ∀m∈p.2.2.nms,An (H0 a) m=true)
 (hx:args=Bd (Db τ k nx) (ca a)/\Fs (hget h) (Db τ k nx) (H0 a))
 (hb: ∀m∈(r0 a).nms,An (H0 a) m=true)
 (ah: ∀HH:Ar,(∀j e,hget (H1 a) j=some e->hget HH (τ j)=some (e.1,e.2.ren (Db τ k nx)))->(∀m,(∀j,An (H0 a) j=true->τ j≠m)->hget HH m=hget h m)->go ((⟨tm,HH,nx⟩:A8).put dst ((r0 a).ren (Db τ k nx)))):
 Az ca H0 k pre klB r0 H1 0 args (hget h) nx (Fx go ⟨tm,h,nx⟩ dst):=by
 have hσ: ∀j,An (H0 a) j=true->Db τ k nx j=τ j:=λj z=>Al (hd j z).1
 have ai: ∀i j,An (H0 a) i=true->An (H0 a) j=true->Db τ k nx i=Db τ k nx j->i=j:=λi j hi z h=>aa i j hi z (by rwa [hσ i hi,hσ j z] at h)
 have G: ∀m,m∈(FQ (H0 a)).map τ↔ ∃j,An (H0 a) j=true/\τ j=m:=λm=>by simp only[BF,Pm]
 have Q: ∀p∈H1 a,An (H0 a) p.1=true:=λp hp=>(ab p hp).1
 refine⟨a,τ,(FQ (H0 a)).map τ,(FQ (H0 a)).map τ,ad,hx.1,hx.2,⟨aa,λj z=>(hd j z).2,λj z=>(G _).2 ⟨j,z,rfl⟩,λm Z=> ?_,λj z _=>(G _).2 ⟨j,z,rfl⟩⟩,?_⟩
 .obtain⟨j,z,rfl⟩:=(G m).1 Z;exact⟨j,z,aj j z,rfl⟩
 refine⟨?_,?_⟩
 .have af:((r0 a).ren (Db τ k nx)).bel nx=true:=by
   refine dP _ λm Z=> ?_
   rw[dR,BF] at Z;obtain⟨j,z,rfl⟩:=Z;rw[hσ j (hb j z)];exact (hd j (hb j z)).2
  have ag:AB nx (Bp (Db τ k nx) (H1 a))=true:=qG _ λp hp m Z=>by
   have:=(ab p hp).2 m Z
   rw[hσ m this];exact (hd m this).2
  rw[B4.ok_nr,W5,af,ag,ED,ED]
  have: ∀H:Ar,(∀p∈H,An (H0 a) p.1=true)->IC ((FQ (H0 a)).map τ) nx 0 (Bp (Db τ k nx) H)=true:=by
   intro H;induction H with
   |nil=>intro _;rfl
   |cons e r ih=>
    obtain⟨i,mu,e⟩:=e;intro hp;have O:=hp _ (BS ..);simp only at O;simp only[Bp,IC,K0,Bc,Ic,LM,F5];refine⟨.inr ⟨?_,?_⟩,ih λp h=>hp p (BW _ h)⟩
    .rw[Jl,hσ i O];exact (G _).2 ⟨i,O,rfl⟩
    .rw[hσ i O];exact (hd i O).2
  exact this _ Q
 rw[A8.app_nr,W5];refine ah _ (λj e he=> ?_) (λm Z=> ?_)
 .have z:An (H0 a) j=true:=by
   have: ∀H:Ar,hget H j=some e-> ∃p∈H,p.1=j:=by
    intro H;induction H with
    |nil=>intro h;cases h
    |cons x r ih=>
     obtain⟨i,x⟩:=x;intro h;by_cases ac:i=j
     .exact⟨_,BS ..,ac⟩
     .have hb:(i==j)=false:=by simpa using ac
      simp only[hget,hb,Cy] at h;obtain⟨p,O,h2⟩:=ih h;exact⟨p,BW _ O,h2⟩
   obtain⟨p,O,rfl⟩:=this _ he;exact Q p O
  rw[XA,<-hσ j z,Qv5 (D:=λj=>An (H0 a) j=true) ai (H1 a) Q j z,he];rfl
 .rw[XA];cases hq:hget (Bp (Db τ k nx) (H1 a)) m with
  |some e=>
   obtain⟨j,e0,O,h2,_⟩:=vZ hq;have z:=Q _ O;rw[hσ j z] at h2;exact absurd h2 (Z j z)
  |none=>
   rw[Xv,Ag]
   .rfl
   .rw[Jl];intro h;obtain⟨j,z,h2⟩:=(G m).1 h;exact Z j z h2
def qK{go:A8->Prop}{tm:List (Nat×AV)}{h:Ar}{nx:Nat}{dst:Option Nat}{σ:Nat->Nat}(hσ: ∀j,σ j=nx+j){r0:AV}{H1:Ar}{cnt:Nat}{u kl:List Nat}(ab:kl=[])
 (z: ∀p∈H1,p.1<cnt/\ ∀m∈p.2.2.nms,m<cnt)(hb: ∀m∈r0.nms,m<cnt)
 (aa: ∀O:Ar,(∀j e,hget H1 j=some e->hget O (nx+j)=some (e.1,e.2.ren σ))->(∀m,m<nx->hget O m=hget h m)->go ((⟨tm,O,nx+cnt⟩:A8).put dst (r0.ren σ))):
 Fx go ⟨tm,h,nx⟩ dst (r0.ren σ) {use:=u,kill:=kl,new:=Bp σ H1,cnt:=cnt}:=by
 subst ab;refine⟨?_,?_⟩
 .have Q:(r0.ren σ).bel (nx+cnt)=true:=by
   refine dP _ λm G=> ?_
   rw[dR,BF] at G;obtain⟨j,hj,rfl⟩:=G
   have:=hb j hj
   rw[hσ];omega
  have Z:AB (nx+cnt) (Bp σ H1)=true:=qG _ λp hp m G=>by
   have:=(z p hp).2 m G
   rw[hσ];omega
  rw[B4.ok_nr,Q,Z,ED,ED];refine pX _ _ _ _ λp hp=> ?_
  have: ∀H:Ar,(∀p∈H,p.1<cnt)-> ∀p∈Bp σ H,nx<=p.1/\p.1<nx+cnt:=by
   intro H;induction H with
   |nil=>intro _ p hp;cases hp
   |cons x r ih=>
    obtain⟨i,mu,e⟩:=x;intro hx p hp;have h1:=hx _ (BS ..);simp only at h1;simp only[Bp,Bw] at hp;rcases hp with rfl|hp
    .simp only;rw[hσ];omega
    .exact ih (λp h=>hx p (BW _ h)) p hp
  exact this _ (λp hp=>(z p hp).1) p hp
 rw[A8.app_nr,Cx];refine aa _ (λj e he=> ?_) (λm G=> ?_)
 .rw[XA,<-hσ j,qJ (λi j h=>by rw[hσ,hσ] at h;omega),he];rfl
 .rw[XA];cases hq:hget (Bp σ H1) m with
  |some e=>
   obtain⟨j,e0,_,h2,_⟩:=vZ hq;rw[hσ] at h2;omega
  |none=>rfl
def Az.nw{A:Type}{ca:A->List AV}{H0:A->Ar}{pre:A->Prop}{klB:Nat->Bool}{r0:A->AV}{H1:A->Ar}{cnt:Nat}{args:List AV}{tm:List (Nat×AV)}{h:Ar}{nx:Nat}{dst:Option Nat}{Z:A8->Prop}(a:A)(z:pre a)(h0:H0 a=[])
 (hx:args=Bd (λj=>nx+j) (ca a))(O: ∀p∈H1 a,p.1<cnt/\ ∀m∈p.2.2.nms,m<cnt)(hb: ∀m∈(r0 a).nms,m<cnt)
 (Q: ∀G:Ar,(∀j e,hget (H1 a) j=some e->hget G (nx+j)=some (e.1,e.2.ren λj=>nx+j))->(∀m,m<nx->hget G m=hget h m)->Z ((⟨tm,G,nx+cnt⟩:A8).put dst ((r0 a).ren λj=>nx+j))):
 Az ca H0 0 pre klB r0 H1 cnt args (hget h) nx (Fx Z ⟨tm,h,nx⟩ dst):=by
 have e:Db (P3 []) 0 nx=λj=>nx+j:=funext λj=>by simp[Db]
 refine Az.os a [] z (λj=>by rw[h0];simp[An,hget]) rfl rfl ⟨by rw[e];exact hx,by rw[h0];trivial⟩ ?_;rw[e];exact qK (λ_=>rfl) rfl O hb Q
def Fm.nw{A:Type}{ar:List PK->Option A}{pre:A->Prop}{r0:A->AV}{H1:A->Ar}{cnt:Nat}{args:List AV}{tm:List (Nat×AV)}{h:Ar}{nx:Nat}{dst:Option Nat}{go:A8->Prop}(ps:List PK)(Z:Cp (hget h) args=some ps)(a:A)(ha:ar ps=some a)(z:pre a)
 (O: ∀p∈H1 a,p.1<cnt/\ ∀m∈p.2.2.nms,m<cnt)(hb: ∀m∈(r0 a).nms,m<cnt)
 (Q: ∀G:Ar,(∀j e,hget (H1 a) j=some e->hget G (nx+j)=some (e.1,e.2.ren λj=>nx+j))->(∀m,m<nx->hget G m=hget h m)->go ((⟨tm,G,nx+cnt⟩:A8).put dst ((r0 a).ren λj=>nx+j))):
 Fm ar pre r0 H1 cnt args (hget h) nx (Fx go ⟨tm,h,nx⟩ dst):=by
 have e:Db (λj=>j) 0 nx=λj=>nx+j:=funext λj=>by simp[Db]
 unfold Fm;rw[Z];simp only[K4,ha,EQ];rw[e];exact⟨z,qK (λ_=>rfl) rfl O hb Q⟩
def vF.call{A:Type}{ar:List PK->Option A}{pre:A->Prop}{re:A->D}{args:List AV}{tm:List (Nat×AV)}{h:Ar}{nx:Nat}{dst:Option Nat}{Q:A8->Prop}(ps:List PK)(O:Cp (hget h) args=some ps)(a:A)(Z:ar ps=some a)(z:pre a)
 (G:Q ((⟨tm,h,nx⟩:A8).put dst (.im (re a)))):LB ar pre re args (hget h) nx (Fx Q ⟨tm,h,nx⟩ dst):=by
 unfold LB;rw[O];simp only[Xq,Z,EQ];refine⟨z,?_,?_⟩
 .rw[B4.ok_nr];simp[AV.bel,AB,IC]
 .rw[A8.app_nr,Cx,W5];exact G
def tsK(a:AE×Int):Int:=a.2+2*a.1.Glues.length
def mkTS.pre(a:AE×Int):Prop:=0<=a.2/\a.1.Tiles.length<=1048576/\tlK a.1.Tiles (tsK a) a.1.Tiles.length<=1099511627776
def Fm.os{A:Type}{ar:List PK->Option A}{pre:A->Prop}{r0:A->AV}{H1:A->Ar}{cnt:Nat}{args:List AV}{h:Nat->Option Au}{nx:Nat}{K:Aj}(ps:List PK)(G:Cp h args=some ps)(a:A)(Q:ar ps=some a)(z:pre a)
 (O:K ((r0 a).ren (Db (λj=>j) 0 nx)) {use:=E7 h args,new:=Bp (Db (λj=>j) 0 nx) (H1 a),cnt:=cnt}):Fm ar pre r0 H1 cnt args h nx K:=by
 unfold Fm;rw[G];simp only[K4,Q,EQ];exact⟨z,O⟩
def yQ{h:Nat->Option Au}{o T k:Nat}{z:Bool}{rows:List (List D)}(g:h o=some (z,.arr T k rows)):Cp h [.own o]=some [.val (.sl false k rows)]:=by
 simp only[Cp,Ec,bk,g,RE,E6,Gz,Ez]
def schB1.fv(a:Int):Bool:=(EO) a
def schB1.row:AG:=vK (b1 qI) rB (λa=>True) schB1.fv
def schB1.q:=B3 (R:=schB1.row) rfl
def schB1.ok:AJ 68 schB1.row:=by
 refine vw (tC within_.ok tN) Tryz.func68 ?_;intro a z;simp only[Tryz.f68,Option.getD];simp only[ZZ,simprocAttr,Ab,schB1.fv,within_.q,within_.fv];rfl
def IdxSc.ar:List PK->Option ((List Int)×Unit)
 |[.val (.sl _ _ z),.val (.fn 68 [] [])]=>(AX Ch z).bind λG=>some (G,())
 |_=>none
def IdxSc.ae(a:(List Int)×Unit):List PK:=[.val (.sl false 1 (a.1.map Af)),.val (.fn 68 [] [])]
def IdxSc.le: ∀z a,IdxSc.ar z=some a->BY z (IdxSc.ae a):=by
 intro z a h;unfold IdxSc.ar at h;split at h
 .simp only[Fi,AO] at h;obtain⟨G,h0,rfl⟩:=h;exact⟨Fh (EZ Dj _ _ h0) (by simp only[BF];rintro r ⟨y,_,rfl⟩;rfl),C9.refl _,trivial⟩
 .cases h
def IdxSc.fv(a:(List Int)×Unit):Int:=(λl _=>B0 EO 0 l) (a.1) (a.2)
def IdxSc.row:AG:=Ff IdxSc.ar (λa=>True) (λa=>(D.int .i64) (IdxSc.fv a))
def IdxSc.q:=vq IdxSc.row rfl
def YaG:=J @IdxSc.ae.eq_1<|J @IdxSc.fv.eq_1<|J @schB1.q @schB1.fv.eq_1
def IdxSc.ok:AJ 92 IdxSc.row:=by
 refine aG D3 (tC schB1.ok tN) Tryz.func92 rfl (by kernel_rfl) (by kernel_rfl) (ar:=IdxSc.ar) (ae:=IdxSc.ae) IdxSc.le (n:=2) (λ_=>rfl) (by decide) (rc:=(DG)) (re:=(D.int .i64)) (Q2) (f:=IdxSc.fv) ?_;intro a O;simp only[Tryz.f92,Option.getD];simp only[ZZ,simprocAttr,Ab,YaG];intro hn;refine AZ.old ⟨{k:Nat//k<=a.1.length/\B0 EO k (a.1.drop k)=B0 EO 0 a.1},λk=>⟨[(8,.im (.int .i64 k.1)),(7,.im (.int .i64 a.1.length)),(6,.im (.sl false 1 (a.1.map Af))),(4,.im (.int .i64 0)),(0,.im (.sl false 1 (a.1.map Af))),(1,.im (.fn 68 [] []))],[],0⟩,λk=>a.1.length - k.1,λk=>⟨by simp[ZG],AU _⟩,⟨⟨0,by simp⟩,by simp only[ZZ,simprocAttr,Ab,YaG,sub]⟩,λk=> ?_⟩;obtain⟨k,Q,z⟩:=k;simp only[ZZ,simprocAttr,Ab,YaG,sub,AS];refine⟨λG=>⟨G,λx Z=> ?_⟩,λG=> ?_⟩
 .rw[GQ Z,B0] at z;refine⟨λh=> ?_,λh=>JW G hn ⟨by omega,by rw[<-z,Ag (by simpa using h)]⟩⟩;rw[Al (by simpa using h)] at z;exact z
 .rw[Ee (by omega),B0] at z;exact z
def ContSc.ar:List PK->Option ((List Int)×Unit)
 |[.val (.sl _ _ z),.val (.fn 68 [] [])]=>(AX Ch z).bind λG=>some (G,())
 |_=>none
def ContSc.ae(a:(List Int)×Unit):List PK:=[.val (.sl false 1 (a.1.map Af)),.val (.fn 68 [] [])]
def ContSc.le: ∀z a,ContSc.ar z=some a->BY z (ContSc.ae a):=by
 intro z a h;unfold ContSc.ar at h;split at h
 .simp only[Fi,AO] at h;obtain⟨G,h0,rfl⟩:=h;exact⟨Fh (EZ Dj _ _ h0) (by simp only[BF];rintro r ⟨y,_,rfl⟩;rfl),C9.refl _,trivial⟩
 .cases h
def ContSc.fv(a:(List Int)×Unit):Bool:=(λl _=>l.any EO) (a.1) (a.2)
def ContSc.row:AG:=Ff ContSc.ar (λa=>True) (λa=>(D.bool) (ContSc.fv a))
def ContSc.q:=vq ContSc.row rfl
def ContSc.ok:AJ 67 ContSc.row:=by
 refine aG D3 (tC IdxSc.ok tN) Tryz.func67 rfl (by kernel_rfl) (by kernel_rfl) (ar:=ContSc.ar) (ae:=ContSc.ae) ContSc.le (n:=2) (λ_=>rfl) (by decide) (rc:=(Re)) (re:=(D.bool)) (eP) (f:=ContSc.fv) ?_;intro a z;simp only[Tryz.f67,Option.getD];simp only[ZZ,simprocAttr,Ab,ContSc.ae,ContSc.fv,IdxSc.q,IdxSc.ar,IdxSc.fv];exact vL _ _
def vSch_.fv(a:(List Int)):Bool:=(EJ) a
def vSch_.row:AG:=vK (b1 (qS Dj Ct)) rB (λa=>True) vSch_.fv
def vSch_.q:=B3 (R:=vSch_.row) rfl
def vSch_.ok:AJ 42 vSch_.row:=by
 refine vw (tC ContSc.ok tN) Tryz.func42 ?_;intro a z;simp only[Tryz.f42,Option.getD];simp only[ZZ,simprocAttr,Ab,vSch_.fv,ContSc.q,ContSc.ar,ContSc.fv];intro _;simp only[EJ];by_cases c:a.length<=200
 .rw[Al (by omega),W0 c,ED]
 .rw[Ag (by omega),Jj c,FT]
def sel1_.fv(a:Int×Int×(List Int)):Int:=(λn k l=>(GK l n.toNat k.toNat:Int)) (a.1) (a.2.1) (a.2.2)
def sel1_.row:AG:=vK (b3 qI qI (qP 1 gC)) rI (λa=>1<=a.1/\a.1<=1000000/\0<=a.2.1/\a.2.1<=1000/\EJ a.2.2=true) sel1_.fv
def sel1_.q:=B3 (R:=sel1_.row) rfl
def sel1_.ok:AJ 123 sel1_.row:=by
 refine vw tN Tryz.func123 ?_;intro a z;simp only[Tryz.f123,Option.getD];simp only[ZZ,simprocAttr,Ab,sel1_.fv];obtain⟨n,k,l⟩:=a;obtain⟨h1,h2,Q,h4,Z⟩:=z;simp only at h1 h2 Q h4 Z⊢;obtain⟨n,rfl⟩: ∃m:Nat,n=m:=⟨n.toNat,by omega⟩;obtain⟨k,rfl⟩: ∃m:Nat,k=m:=⟨k.toNat,by omega⟩;intro _;by_cases c:(l.length:Int)=0
 .rw[Al c];simp only[GK];rw[Al (by omega)];rfl
 rw[Ag c];refine⟨c,Zev _ Q,ZdZ _ (by omega),λx G=>⟨by omega,?_⟩⟩;have O:=sB Z (Bh G);rw[iD (by omega),<-Int.natCast_emod,B5] at G;simp only[GK,B5];rw[Ag (by omega),G,AW,iD O.1,Int.toNat_of_nonneg (Int.emod_nonneg _ (by omega))]
def slD:D->Option (List Int)
 | .fn g [] [.ref ds]=>if g=123 then QC ds else none
 |_=>none
def kX: ∀d b,slD d=some b->Le d (.fn 123 [] [.ref (DA b)]):=by
 intro d b h;unfold slD at h;split at h
 .rename_i g ds;split at h
  .rename_i z;subst z;refine Wr ?_;exact⟨aY (gC _ _ h).leP,trivial⟩
  .cases h
 .cases h
def sel_.fv(a:(List Int)):List Int:=(λl=>l) a
def sel_.row:AG:=vK (b1 (qS Dj Ct)) (RK.mk (slD) (λa=>D.fn 123 [] [.ref (DA a)]) (kX)) (λa=>True) sel_.fv
def sel_.q:=B3 (R:=sel_.row) rfl
def sel_.ok:AJ 94 sel_.row:=by
 refine vw tN Tryz.func94 ?_;intro a z;simp only[Tryz.f94,Option.getD];simp only[ZZ,simprocAttr,Ab,sel_.fv];refine .inl ?_;show (if 123=123 then QC (DA a) else none)=some a;rw[Al rfl,Nz]
def asmX.ca(l:List Aq):List AV:=[.im (.sl false 3 (l.map Aq.c))]
def asmX.H1(l:List Aq):Ar:=[(0,(true,.arr 88 3 ((FP l).map Aq.c)))]
def asmX.r0(_:List Aq):AV:= .agg [.own 0]
def asmX.row:AG:=Az asmX.ca (λ_=>[]) 0 (λl=>(l.map Aq.At).Nodup/\l.length<=1000000) (λ_=>false) asmX.r0 asmX.H1 20
def asmX.ok:AJ 97 asmX.row:=by
 refine Ha (tC clonC.ok (tC srt.ok tN)) Tryz.func97 (exB:=λj=>j==0) (R:=λa r=>r=asmX.r0 a) (λ_=>rfl)
  (λa=>by simp[asmX.ca,asmX.H1,AQ,AV.bel,AB,Cg,Cs,Ah.nms,Ax,AV.nms,An,hget]) (λa p hp=> ?_) (λa r h=>by subst h;exact D2.refl _) ?_
 rotate_left
 intro a z;simp only[Tryz.f97,Option.getD,asmX.ca,asmX.H1];simp only[ZZ,simprocAttr,Ab,AD,Av,asmX.ca,asmX.H1];refine Az.os a [] z.2 (λj=>by simp[An,hget]) rfl rfl ?_ ?_
 .simp only[ZZ,simprocAttr,Ab,AD,Av,asmX.ca,asmX.H1,clonC.ca,Fs,KA]
 simp only[ZZ,simprocAttr,Ab,AD,Av,asmX.ca,asmX.H1,clonC.H1,sub];refine Az.os a [1] z.1 (λj=> ?_) rfl rfl ?_ ?_
 .simp only[An,srt.H0,hget];by_cases G:j=0
  .subst G;simp
  .have:(0==j)=false:=by simpa using λh=>G h.symm
   rw[this];simp;omega
 .simp only[ZZ,simprocAttr,Ab,AD,Av,asmX.ca,asmX.H1,srt.ca,srt.H0,Fs]
  try exact⟨rfl,rfl⟩
 simp only[ZZ,simprocAttr,Ab,AD,Av,asmX.ca,asmX.H1,srt.H1,sub,Br,Bx];refine⟨[],[(1,some 0),(0,some 1)],⟨[(2,.ptr 1 0)],[(1,(true,.cells 25 [.own 0])),(0,(true,.arr 88 3 ((FP a).map Aq.c)))],2⟩,?_,by simp[ZG],by simp,?_⟩
 .simp only[Am];simp only[ZZ,simprocAttr,Ab,AD,Av,asmX.ca,asmX.H1,AN,AM]
  try simp
 .simp only[ZZ,simprocAttr,Ab,AD,Av,asmX.ca,asmX.H1,asmX.r0]
 simp[asmX.H1] at hp;subst hp;exact .inr ⟨by omega,by omega,rfl,rfl⟩
def asmXV.ar:List PK->Option (List Aq):=a1 (kS Aq.d)
def asmXV.row:AG:=Fm asmXV.ar (λl=>(l.map Aq.At).Nodup/\l.length<=1000000) asmX.r0 asmX.H1 20
def asmXV.ok:AJ 97 asmXV.row:=
 dT (A:=List Aq) (ca:=λ(a:List Aq)=>[D.sl false 3 (a.map Aq.c)]) (by kernel_rfl) asmX.ok (λ_=>rfl) (cA (M9 3 Aq.d_le (λ_=>rfl)))
  (λa=>by simp[asmX.r0,HN,E9,D.sc,AV.nms,Ax])
  (λa p hp=>by
   simp only[asmX.H1,BL] at hp;subst hp;exact⟨by omega,rfl,by simp[IM,Aq.c,D.sc],by simp[Ah.nms]⟩)
def asmCX.H1(a:Cw):Ar:=[(1,(false,.map ⟨true,[.int .i64,.int .i64]⟩ (a.Tl.map Fg))),(3,(true,.arr 88 3 ((XY a.Tl).Tiles.map Aq.c)))]
def asmCX.row:AG:=Az asmC.ca AT 3 (λa=>(a.Tl.map Prod.fst).Nodup/\a.Tl.length<=100000) QS (λ_=> .agg [.own 3]) asmCX.H1 20
def asmCX.ok:AJ 71 asmCX.row:=by
 refine Ha (tC asmXV.ok tN) Tryz.func71 (exB:=λj=>j==3) (R:=λ_ r=>r= .agg [.own 3]) (λ_=>rfl)
  (λa=>by simp[asmC.ca,AT,Bq,asmCX.H1,QS,AQ,AV.bel,AB,Cg,Cs,Ah.nms,Ax,AV.nms,An,hget]) (λa p hp=> ?_) (λa r h=>by subst h;exact D2.refl _) ?_
 rotate_left
 intro a G;simp only[Tryz.f71,Option.getD,asmC.ca,AT,Bq,asmCX.H1,QS];simp only[ZZ,simprocAttr,Ab,AD,Av,asmC.ca,AT,Bq,asmCX.H1,QS];obtain⟨ab,ag⟩:=G;refine AZ.ren ⟨{s:Option (D×D)×List (Ad×Int)×List Aq//(s.2.2++s.2.1.map DZ).Perm (a.Tl.map DZ)},λs=>⟨[(10,.it 5),(3,.own 6),(2,.ptr 3 0),(0,.ptr 0 0)],[(6,(true,.arr 88 3 (s.1.2.2.map Aq.c))),(5,(true,.iter s.1.1 (s.1.2.1.map Fg))),(3,(true,.cells 25 [.im (.sl true 0 [])])),(0,(true,.cells 143 (Bq a.Sys))),(1,(false,.map ⟨true,[.int .i64,.int .i64]⟩ (a.Tl.map Fg))),(2,(true,.map ⟨true,[.int .i64,.int .i64]⟩ (a.Op.map D9)))],7⟩,λs=>s.1.2.1.length,λs=>⟨by simp[ZG,Bq],by simp⟩,⟨⟨(none,a.Tl,[]),by simp⟩,[(6,some 4)],?_⟩,λs=> ?_⟩
 .simp only[Am,Bq];simp only[ZZ,simprocAttr,Ab,AD,Av,asmC.ca,AT,Bq,asmCX.H1,QS,Bg]
  try simp
 obtain⟨⟨ad,left,z⟩,O⟩:=s;simp only at O;simp only[Bq];simp only[ZZ,simprocAttr,Ab,AD,Av,asmC.ca,AT,Bq,asmCX.H1,QS,sub,AS];refine⟨λhl=> ?_,λi p hp=> ?_⟩
 .have aa:left=[]:=by simpa using hl
  subst aa;rw[Bg,Ck] at O;obtain⟨r1,r2,r3⟩:=OK ab O;refine Fm.os [.val (.sl false 3 (z.map Aq.c))] (yQ rfl) z (by simp only[asmXV.ar,a1,kS,Aq.d_R,G8]) ⟨r2,by omega⟩ ?_;simp only[ZZ,simprocAttr,Ab,AD,Av,asmC.ca,AT,Bq,asmCX.H1,QS,asmX.r0,asmX.H1,sub,r1];refine⟨[],[(3,some 7),(4,some 3)],⟨[(2,.ptr 4 0)],[(4,(true,.cells 25 [.own 3])),(3,(true,.arr 88 3 ((XY a.Tl).Tiles.map Aq.c))),(0,(true,.cells 143 (Bq a.Sys))),(1,(false,.map ⟨true,[.int .i64,.int .i64]⟩ (a.Tl.map Fg))),(2,(true,.map ⟨true,[.int .i64,.int .i64]⟩ (a.Op.map D9)))],5⟩,?_,by simp[ZG,Bq],by simp,?_⟩
  .simp only[Am,Bq];simp only[ZZ,simprocAttr,Ab,AD,Av,asmC.ca,AT,Bq,asmCX.H1,QS,AN,AM]
   try simp[XY]
  .simp only[Bq];simp only[ZZ,simprocAttr,Ab,AD,Av,asmC.ca,AT,Bq,asmCX.H1,QS,AN,AM]
   try simp
 .rw[Gb] at hp;cases hq:left[i]? with
  |none=>rw[hq] at hp;cases hp
  |some q=>
   rw[hq] at hp;obtain rfl:=AC hp;obtain⟨⟨Z,qy⟩,Q⟩:=q;simp only[Fg,Ad.c];simp only[ZZ,simprocAttr,Ab,AD,Av,asmC.ca,AT,Bq,asmCX.H1,QS,sub,AS];have hi:i<left.length:=by
    rcases FR i left.length with h|h
    .exact h
    .rw[HK h] at hq;cases hq
   have ac:((⟨Z,qy⟩,Q)::left.eraseIdx i).Perm left:=Qqq _ _ _ hq;have hP:((z++[(⟨⟨Z,qy⟩,Q⟩:Aq)])++(left.eraseIdx i).map DZ).Perm (a.Tl.map DZ):=by
    rw[Ej];refine (List.Perm.append_left z ?_).trans O;exact ac.map DZ
   have af:z.length<=a.Tl.length:=by
    have r3:=O.length_eq;simp at r3;omega
   refine⟨by omega,⟨⟨(some (D.agg [.int .i64 Z,.int .i64 qy],D.int .i64 Q),left.eraseIdx i,z++[(⟨⟨Z,qy⟩,Q⟩:Aq)]),hP⟩,[(6,some 9)],?_,?_⟩⟩
   .simp only[Zfk];rw[Al hi];omega
   .simp only[Am];simp only[ZZ,simprocAttr,Ab,AD,Av,asmC.ca,AT,Bq,asmCX.H1,QS];simp[Aq.c,Qwf]
 simp[asmCX.H1] at hp;rcases hp with rfl|rfl
 .exact .inl ⟨by omega,rfl,rfl⟩
 .exact .inr ⟨by omega,by omega,rfl,rfl⟩
def Io(s:AF)(b:Ao)(c:Cw):Prop:=c.Sys=s/\(∃n,RM c.Tl b n)/\NN s (Dl c.Tl) c.Op/\HG s.Set b/\b.Tiles.length<=500/\C5 s.Set/\1<=s.Temperature/\s.Set.Tiles.length<=160
def Io.put{s:AF}{b:Ao}{c:Cw}(h:Io s b c){o:Be}(G:GD s b o=true)(hl:b.Tiles.length<500):Io s (Dg b o.At o.Tile) (H4 c o.At o.Tile):=by
 obtain⟨rfl,⟨n,z⟩,O,Z,h5,h1,hT,Q⟩:=h;obtain⟨f1,f2⟩:=Zo z Z G;obtain⟨z1,z2,z3,z4,z5,z6⟩:=qA G;exact⟨rfl,⟨_,z.put f2 f1⟩,kH O z3,Sq Q Z G,by rw[Og];omega,h1,hT,Q⟩
def Gh(l:List Int):Nat->Cw->Ao->List Be->Cw×Ao×List Be×Bool
 |0,c,b,d=>(c,b,d,true)
 |n+1,c,b,d=>match Hx c.Sys l b d.length with
  |none=>(c,b,d,true)
  |some o=>if 500<=b.Tiles.length then (c,b,[],false) else Gh l n (H4 c o.At o.Tile) (Dg b o.At o.Tile) (d++[o])
def Mw{s:AF}{l:List Int}: ∀(n:Nat) (c:Cw) (b:Ao) (d:List Be),Io s b c->((Gh l n c b d).2.2.2=true/\Kk s l n b d=((Gh l n c b d).2.2.1,(Gh l n c b d).2.1,0)/\Io s (Gh l n c b d).2.1 (Gh l n c b d).1)\/((Gh l n c b d).2.2.2=false/\(Gh l n c b d).2.2.1=[]/\Kk s l n b d=([],⟨[]⟩,4))
 |0,c,b,d,h=> .inl ⟨rfl,rfl,h⟩
 |n+1,c,b,d,h=>by
  have G:c.Sys=s:=h.1;rw[Gh,Kk,G];cases ho:Hx s l b d.length with
  |none=>exact .inl ⟨rfl,rfl,h⟩
  |some o=>
   simp only;by_cases z:500<=b.Tiles.length
   .rw[Al z,Al z];exact .inr ⟨rfl,rfl,rfl⟩
   .rw[Ag z,Ag z];exact Mw n _ _ _ (h.put (Xe h.2.2.2.1 ho) (by omega))
def Mz(s:AF)(l:List Int): ∀(n:Nat) (b:Ao) (d:List Be),b.Tiles.length<=500->(Kk s l n b d).1.length<=d.length+n/\(Kk s l n b d).2.1.Tiles.length<=500
 |0,b,d,h=>by simp[Kk,h]
 |n+1,b,d,h=>by
  rw[Kk];split
  .exact⟨by simp only;omega,h⟩
  .split
   .simp
   .have:=Mz s l n (Dg b ‹Be›.At ‹Be›.Tile) (d++[‹Be›]) (by rw[Og];omega)
    simp only[Bz,RQ] at this;exact⟨by omega,this.2⟩
def Ym{s:AF}{a:Ao}(c1:Ga s=true)(O:HA s.Set a=true):newC.pre (s,a)/\Io s a (gK s a):=by
 obtain⟨⟨q1,q2,q3,_⟩,q5,_⟩:=IS c1;obtain⟨z,h4⟩:=Xr O;have G:=Qof (s:=s.Set) (a:=a) (by rw[q5,O];rfl);have Q:1<=s.Temperature:=by
  simp only[Ga,Bj,Bc,C7] at c1;exact c1.2.2.2.1.1
 exact⟨⟨q1,by simp only;omega,λy Z=>⟨z.2 y Z,G.1.2.2.2 y Z⟩⟩,rfl,⟨_,RM.of z.1 λx hx=>(z.2 x hx).1⟩,kG Q,z,h4,q1,Q,q3⟩
def V0{s:AF}(c1:Ga s=true):s.Seed.Tiles.length<=500:=(Xr (IS c1).2.2).2
def Zx{s:AF}(c1:Ga s=true):1<=s.Seed.Tiles.length:=by
 simp only[Ga,Bc,LL,ZdM] at c1;exact hZ.2 c1.2.2.1
def jI(s:AF)(l:List Int):(J0 s l).1.length<=500/\(J0 s l).2.1.Tiles.length<=500:=by
 simp only[J0];split
 .simp
 rename_i c1;split
 .simp
 have:=Mz s l 500 s.Seed [] (V0 (by simpa using c1))
 simpa using this
def Gl(l:List Int)(c:Cw)(b:Ao)(k:Nat):Cw:=
 match Hx c.Sys l b k with
 |none=>c
 |some o=>if 500<=b.Tiles.length then c else H4 c o.At o.Tile
def GH(l:List Int)(c:Cw)(b:Ao)(k:Nat):D:=
 match Hx c.Sys l b k with
 |none=> .tup [.agg [.int .i64 0,.int .i64 0,.int .i64 0],.tok 0]
 |some o=>if 500<=b.Tiles.length then .tup [.agg [.int .i64 0,.int .i64 0,.int .i64 0],.tok 1] else .tup [.agg (Be.c o),.nili]
def nxtC.ca(a:Cw×Ao×List Int×Nat):List AV:=[.ptr 0 0,.im (.fn 123 [] [.ref [.sl false 1 (a.2.2.1.map Af)]]),.im (.int .i64 a.2.2.2)]
def nxtC.H1(a:Cw×Ao×List Int×Nat):Ar:=[(1,(true,.map ⟨true,[.int .i64,.int .i64]⟩ ((Gl a.2.2.1 a.1 a.2.1 a.2.2.2).Tl.map Fg))),(2,(true,.map ⟨true,[.int .i64,.int .i64]⟩ ((Gl a.2.2.1 a.1 a.2.1 a.2.2.2).Op.map D9)))]
def nxtC.r0(a:Cw×Ao×List Int×Nat):AV:= .im (GH a.2.2.1 a.1 a.2.1 a.2.2.2)
def nxtC.row:AG:=Az nxtC.ca (λa=>AT a.1) 3 (λa=>Io a.1.Sys a.2.1 a.1/\EJ a.2.2.1=true/\a.2.2.2<=1000) BN nxtC.r0 nxtC.H1 0
def wB:=J @sel1_.q @sel1_.fv.eq_1
def nxtC.ok:AJ 95 nxtC.row:=by
 refine ow (tC lisC.ok (tC sel1_.ok (tC putC.ok tN))) Tryz.func95 (exB:=λ_=>false) (R:=λa r=>r=nxtC.r0 a) (λ_=>rfl)
  (λa=>by simp[nxtC.ca,AT,Bq,nxtC.H1,BN,AQ,AV.bel,AB,Cg,Cs,Ah.nms,Ax,AV.nms,An,hget]) (λa p hp=> ?_) (λa r h=>by subst h;exact D2.refl _) ?_
 rotate_left
 intro a Q;simp only[Tryz.f95,Option.getD,nxtC.ca,AT,Bq,nxtC.H1,BN];simp only[ZZ,simprocAttr,Ab,wB,Av,nxtC.ca,AT,Bq,nxtC.H1,BN];obtain⟨c,b,l,k⟩:=a;obtain⟨hg,hl,hk⟩:=Q;simp only at hg hl hk⊢;obtain⟨_,⟨n,G⟩,ac,hb,h5,h1,hT,h2⟩:=hg;have z:=ac;rw[G.at] at z;obtain⟨l1,l2,l3⟩:=kF hT h5 h2 z;refine Az.os c [0,1,2] l2 (λj=>Kw _ j) rfl rfl ?_ ?_
 .simp only[ZZ,simprocAttr,Ab,wB,Av,nxtC.ca,AT,Bq,nxtC.H1,BN,asmC.ca,AT,Bq,Bb,Br,Bx]
 simp only[ZZ,simprocAttr,Ab,wB,Av,nxtC.ca,AT,Bq,nxtC.H1,BN,sub,lisC.r0,l1];intro _;have ad:=G.size;rw[l1] at l3;split
 .rename_i c1;have aa:=(Xg (s:=c.Sys) (l:=l) (b:=b) (k:=k)).2 (RN.1 (by omega));simp only[nxtC.r0,GH,Gl,aa];trivial
 rename_i c1;obtain⟨o,ho⟩: ∃o,Hx c.Sys l b k=some o:=by
  cases hq:Hx c.Sys l b k with
  |none=>exact absurd (by rw[Xg.1 hq];rfl) c1
  |some o=>exact⟨o,rfl⟩
 split
 .rename_i c2;simp only[nxtC.r0,GH,Gl,ho];rw[Al (by omega),Al (by omega)];exact⟨rfl,rfl,rfl⟩
 rename_i c2;intro _;refine⟨⟨by omega,by omega,by omega,hl⟩,Nt (by omega),λx hx=> ?_⟩;obtain rfl:o=x:=AC (ho.symm.trans hx);have cS:=Xe hb ho;obtain⟨z1,z2,z3,z4,z5,z6⟩:=qA cS;have O:cJ c.Sys.Set (Dl c.Tl):=by rw[G.at];exact λp hp=>WP hb p hp
 have Z:Gl l c b k=H4 c o.At o.Tile:=by simp only[Gl,ho];rw[Ag (by omega)]
 have ab:GH l c b k= .tup [.agg (Be.c o),.nili]:=by simp only[GH,ho];rw[Ag (by omega)]
 refine Az.os (c,o.At,o.Tile) [0,1,2] ⟨⟨h1,O,by simp only;omega⟩,z2,z5⟩ (λj=>Kw _ j) rfl rfl ?_ ?_
 .simp only[ZZ,simprocAttr,Ab,wB,Av,nxtC.ca,AT,Bq,nxtC.H1,BN,putC.ca,AT,Bq,Bb,Br,Bx]
 simp only[ZZ,simprocAttr,Ab,wB,Av,nxtC.ca,AT,Bq,nxtC.H1,BN,putC.H1,BN,sub,Br,Bx,Z,nxtC.r0,ab];simp[nxtC.H1] at hp;rcases hp with rfl|rfl
 .exact .inl ⟨by omega,rfl,rfl⟩
 .exact .inl ⟨by omega,rfl,rfl⟩
def growI.ca(a:Cw×Ao×List Int×Nat):List AV:=[.ptr 0 0,.im (.sl false 1 (a.2.2.1.map Af)),.im (.int .i64 a.2.2.2)]
def growI.H1(a:Cw×Ao×List Int×Nat):Ar:=[(1,(true,.map ⟨true,[.int .i64,.int .i64]⟩ ((Gh a.2.2.1 a.2.2.2 a.1 a.2.1 []).1.Tl.map Fg))),(2,(true,.map ⟨true,[.int .i64,.int .i64]⟩ ((Gh a.2.2.1 a.2.2.2 a.1 a.2.1 []).1.Op.map D9))),(3,(true,.arr 107 3 ((Gh a.2.2.1 a.2.2.2 a.1 a.2.1 []).2.2.1.map Be.c)))]
def growI.r0(a:Cw×Ao×List Int×Nat):AV:= .tup [.own 3,.im (.bool (Gh a.2.2.1 a.2.2.2 a.1 a.2.1 []).2.2.2)]
def growI.row:AG:=Az growI.ca (λa=>AT a.1) 3 (λa=>Io a.1.Sys a.2.1 a.1/\EJ a.2.2.1=true/\a.2.2.2<=501) BN growI.r0 growI.H1 20
def LI:=J @sel_.q (J @sel_.fv.eq_1 @errIs.q)
def growI.ok:AJ 70 growI.row:=by
 refine Ha (tC sel_.ok (tC nxtC.ok (tC errIs.ok tN))) Tryz.func70 (exB:=λj=>j==3) (R:=λa r=>r=growI.r0 a) (λ_=>rfl)
  (λa=>by simp[growI.ca,AT,Bq,growI.H1,BN,AQ,AV.bel,AB,Cg,Cs,Ah.nms,Ax,AV.nms,An,hget]) (λa p hp=> ?_) (λa r h=>by subst h;exact D2.refl _) ?_
 rotate_left
 intro a aa;simp only[Tryz.f70,Option.getD,growI.ca,AT,Bq,growI.H1,BN];simp only[ZZ,simprocAttr,Ab,LI,AD,Av,growI.ca,AT,Bq,growI.H1,BN];obtain⟨c,b,l,n⟩:=a;obtain⟨hg,hl,hn⟩:=aa;simp only at hg hl hn⊢;refine AZ.ren ⟨{q:Cw×Ao×List Be//q.2.2.length<=n/\Io c.Sys q.2.1 q.1/\Gh l (n - q.2.2.length) q.1 q.2.1 q.2.2=Gh l n c b []},λq=>⟨[(9,.own 5),(8,.im (.fn 123 [] [.ref [.sl false 1 (l.map Af)]])),(7,.im (.bool false)),(6,.own 3),(0,.ptr 0 0),(2,.im (.int .i64 n))],[(5,(true,.arr 107 3 (q.1.2.2.map Be.c))),(3,(true,.arr 107 3 [])),(0,(true,.cells 143 [.im (.sl false 2 (c.Sys.Set.Glues.map Ak.c)),.im (.sl false 2 (c.Sys.Set.Tiles.map Tile.c)),.im (.sl false 3 (c.Sys.Seed.Tiles.map Aq.c)),.im (.int .i64 c.Sys.Temperature),.mp 1,.mp 2])),(1,(true,.map ⟨true,[.int .i64,.int .i64]⟩ (q.1.1.Tl.map Fg))),(2,(true,.map ⟨true,[.int .i64,.int .i64]⟩ (q.1.1.Op.map D9)))],6⟩,λq=>n - q.1.2.2.length,λq=>⟨by simp[ZG],by simp⟩,⟨⟨(c,b,[]),by simp only;exact⟨BV _,hg,by rw[DQ,bZ]⟩⟩,[(5,some 4)],?_⟩,λq=> ?_⟩
 .simp only[Am];simp only[ZZ,simprocAttr,Ab,LI,AD,Av,growI.ca,AT,Bq,growI.H1,BN,AN,AM,Bg]
  try simp
 obtain⟨⟨c1,b1,d⟩,e1,e2,e3⟩:=q;simp only at e1 e2 e3;simp only[ZZ,simprocAttr,Ab,LI,AD,Av,growI.ca,AT,Bq,growI.H1,BN,sub,AS];have hS:c1.Sys=c.Sys:=e2.1;have z: ∀k,Hx c1.Sys l b1 k=Hx c.Sys l b1 k:=λk=>by rw[hS]
 refine λ_=>⟨λh1 _=> ?_,λh1=> ?_⟩
 .refine Az.os (c1,b1,l,d.length) [0,1,2] ⟨by rw[hS];exact e2,hl,by simp only;omega⟩ (λj=>Kw _ j) rfl rfl ?_ ?_
  .simp only[ZZ,simprocAttr,Ab,LI,AD,Av,growI.ca,AT,Bq,growI.H1,BN,nxtC.ca,AT,Bq,Bb,Br,Bx,hS]
  obtain⟨m,hm⟩: ∃m,n - d.length=m+1:=⟨n - d.length - 1,by omega⟩;cases ho:Hx c.Sys l b1 d.length with
  |none=>
   have O:GH l c1 b1 d.length= .tup [.agg [.int .i64 0,.int .i64 0,.int .i64 0],.tok 0]:=by simp only[GH,z,ho]
   have G:Gl l c1 b1 d.length=c1:=by simp only[Gl,z,ho]
   have Q:Gh l n c b []=(c1,b1,d,true):=by rw[<-e3,hm,Gh,z,ho]
   simp only[ZZ,simprocAttr,Ab,LI,AD,Av,growI.ca,AT,Bq,growI.H1,BN,nxtC.H1,BN,sub,Br,Bx,nxtC.r0,O,G,Of,J3];refine⟨[],[(3,some 5)],⟨[(6,.own 3),(7,.im (.bool true))],[(3,(true,.arr 107 3 (d.map Be.c))),(0,(true,.cells 143 [.im (.sl false 2 (c.Sys.Set.Glues.map Ak.c)),.im (.sl false 2 (c.Sys.Set.Tiles.map Tile.c)),.im (.sl false 3 (c.Sys.Seed.Tiles.map Aq.c)),.im (.int .i64 c.Sys.Temperature),.mp 1,.mp 2])),(1,(true,.map ⟨true,[.int .i64,.int .i64]⟩ (c1.Tl.map Fg))),(2,(true,.map ⟨true,[.int .i64,.int .i64]⟩ (c1.Op.map D9)))],4⟩,?_,by simp[ZG],by simp,?_⟩
   .simp only[Am];simp only[ZZ,simprocAttr,Ab,LI,AD,Av,growI.ca,AT,Bq,growI.H1,BN,AN,AM,Bg]
    try simp
   .simp only[ZZ,simprocAttr,Ab,LI,AD,Av,growI.ca,AT,Bq,growI.H1,BN,growI.r0,Q,Bg]
  |some o=>
   by_cases Z:500<=b1.Tiles.length
   .have O:GH l c1 b1 d.length= .tup [.agg [.int .i64 0,.int .i64 0,.int .i64 0],.tok 1]:=by simp only[GH,z,ho];rw[Al Z]
    have G:Gl l c1 b1 d.length=c1:=by simp only[Gl,z,ho];rw[Al Z]
    have Q:Gh l n c b []=(c1,b1,[],false):=by rw[<-e3,hm,Gh,z,ho];simp only;rw[Al Z]
    simp only[ZZ,simprocAttr,Ab,LI,AD,Av,growI.ca,AT,Bq,growI.H1,BN,nxtC.H1,BN,sub,Br,Bx,nxtC.r0,O,G,Of,J3];refine⟨[],[(3,some 7)],⟨[(6,.own 3),(7,.im (.bool false))],[(3,(true,.arr 107 3 (([]:List Be).map Be.c))),(0,(true,.cells 143 [.im (.sl false 2 (c.Sys.Set.Glues.map Ak.c)),.im (.sl false 2 (c.Sys.Set.Tiles.map Tile.c)),.im (.sl false 3 (c.Sys.Seed.Tiles.map Aq.c)),.im (.int .i64 c.Sys.Temperature),.mp 1,.mp 2])),(1,(true,.map ⟨true,[.int .i64,.int .i64]⟩ (c1.Tl.map Fg))),(2,(true,.map ⟨true,[.int .i64,.int .i64]⟩ (c1.Op.map D9)))],4⟩,?_,by simp[ZG],by simp,?_⟩
    .simp only[Am];simp only[ZZ,simprocAttr,Ab,LI,AD,Av,growI.ca,AT,Bq,growI.H1,BN,AN,AM,Bg]
     try simp
    .simp only[ZZ,simprocAttr,Ab,LI,AD,Av,growI.ca,AT,Bq,growI.H1,BN,growI.r0,Q,Bg]
   .have O:GH l c1 b1 d.length= .tup [.agg (Be.c o),.nili]:=by simp only[GH,z,ho];rw[Ag Z]
    have G:Gl l c1 b1 d.length=H4 c1 o.At o.Tile:=by simp only[Gl,z,ho];rw[Ag Z]
    have Q:Gh l n c b []=Gh l m (H4 c1 o.At o.Tile) (Dg b1 o.At o.Tile) (d++[o]):=by rw[<-e3,hm,Gh,z,ho];simp only;rw[Ag Z]
    have ab:=e2.put (Xe e2.2.2.2.1 ho) (by omega);simp only[ZZ,simprocAttr,Ab,LI,AD,Av,growI.ca,AT,Bq,growI.H1,BN,nxtC.H1,BN,sub,Br,Bx,nxtC.r0,O,G,Of,J3];refine⟨by omega,⟨(H4 c1 o.At o.Tile,Dg b1 o.At o.Tile,d++[o]),by simp only;exact⟨by simp;omega,ab,by rw[Q,show n - (d++[o]).length=m by simp;omega]⟩⟩,[(5,some 8)],by simp;omega,?_⟩;simp only[Am];simp only[ZZ,simprocAttr,Ab,LI,AD,Av,growI.ca,AT,Bq,growI.H1,BN,AN,AM];simp[Be.c]
 .have Q:Gh l n c b []=(c1,b1,d,true):=by rw[<-e3,show n - d.length=0 by omega,Gh]
  refine⟨[],[(3,some 5)],⟨[(6,.own 3),(7,.im (.bool true))],[(3,(true,.arr 107 3 (d.map Be.c))),(0,(true,.cells 143 [.im (.sl false 2 (c.Sys.Set.Glues.map Ak.c)),.im (.sl false 2 (c.Sys.Set.Tiles.map Tile.c)),.im (.sl false 3 (c.Sys.Seed.Tiles.map Aq.c)),.im (.int .i64 c.Sys.Temperature),.mp 1,.mp 2])),(1,(true,.map ⟨true,[.int .i64,.int .i64]⟩ (c1.Tl.map Fg))),(2,(true,.map ⟨true,[.int .i64,.int .i64]⟩ (c1.Op.map D9)))],4⟩,?_,by simp[ZG],by simp,?_⟩
  .simp only[Am];simp only[ZZ,simprocAttr,Ab,LI,AD,Av,growI.ca,AT,Bq,growI.H1,BN,AN,AM,Bg]
   try simp
  .simp only[ZZ,simprocAttr,Ab,LI,AD,Av,growI.ca,AT,Bq,growI.H1,BN,growI.r0,Q,Bg]
 simp[growI.H1] at hp;rcases hp with rfl|rfl|rfl
 .exact .inl ⟨by omega,rfl,rfl⟩
 .exact .inl ⟨by omega,rfl,rfl⟩
 .exact .inr ⟨by omega,by omega,rfl,rfl⟩
end Go.Ae
namespace Go.Ae
open Go.Proofs Go.Lib
def numd_.fv(a:ByteArray×Int):ByteArray:=(Ac) (a.1) (a.2)
def numd_.row:AG:=CY (b2 qT qI) rT (λa=>a.1.size<=1000/\ -9223372036854775808<=a.2/\a.2<=9223372036854775807) numd_.fv
def numd_.q:=CD (R:=numd_.row) rfl
def numd_.ok:AJ 36 numd_.row:=by
 refine FM (tC dcm_.ok tN) Tryz.func36 ?_;intro a z;simp only[Tryz.f36,Option.getD];simp(disch:=omega)only[ZZ,simprocAttr,Ab,numd_.fv,dcm_.q,dcm_.fv,BD,D.sc,D.scs,B6,AP];obtain⟨Q,G,O⟩:=z
 have:=Dr G O
 exact⟨⟨G,O⟩,by omega,rfl⟩
def prd_.fv(a:ByteArray×Int×Int):ByteArray:=(Cz) (a.1) (a.2.1) (a.2.2)
def prd_.row:AG:=CY (b3 qT qI qI) rT (λa=>a.1.size<=1000/\(-9223372036854775808<=a.2.1/\a.2.1<=9223372036854775807)/\ -9223372036854775808<=a.2.2/\a.2.2<=9223372036854775807) prd_.fv
def prd_.q:=CD (R:=prd_.row) rfl
def prd_.ok:AJ 38 prd_.row:=by
 refine FM (tC numd_.ok (tC dcm_.ok tN)) Tryz.func38 ?_;intro a z;simp only[Tryz.f38,Option.getD];simp(disch:=omega)only[ZZ,simprocAttr,Ab,prd_.fv,numd_.q,numd_.fv,dcm_.q,dcm_.fv,BD,D.sc,D.scs,B6,AP];obtain⟨Z,G,O,Q⟩:=z;have e1:=Dr O Q;have e2:=fE (w:=a.1) G.1 G.2;have e3:(⟨#[95]⟩:ByteArray).size=1:=rfl;exact⟨⟨Z,G.1,G.2⟩,by omega,⟨O,Q⟩,by rw[nP];omega,rfl⟩
def I2(b:Bool)(s:ByteArray):ByteArray:=if b=true then ⟨#[45]⟩ else s
def unl_.fv(a:Bool×ByteArray):ByteArray:=(I2) (a.1) (a.2)
def unl_.row:AG:=CY (b2 qB qT) rT (λa=>True) unl_.fv
def unl_.q:=CD (R:=unl_.row) rfl
def unl_.ok:AJ 39 unl_.row:=by
 refine FM tN Tryz.func39 ?_;intro a z;simp only[Tryz.f39,Option.getD];simp(disch:=omega)only[ZZ,simprocAttr,Ab,unl_.fv,BD,D.sc,D.scs,B6,AP];by_cases c:a.1=true
 .rw[Al c];simp only[I2];rw[Al c]
 .rw[Ag c];simp only[I2];rw[Ag c]
def B1(g:List Ak)(t:List Tile):Ar:=[(0,(true,.cells 80 [.own 1,.own 2,.mp 3])),(1,(true,.arr 66 2 (g.map Ak.c))),(2,(true,.arr 64 2 (t.map Tile.c))),(3,(true,.map ⟨false,[.str]⟩ (Cn g)))]
def K6(g:List Ak)(t:List Tile)(j:Nat):An (B1 g t) j=true↔j<4:=by
 simp only[An,B1,hget];by_cases h0:j=0
 .subst h0;simp
 by_cases z:j=1
 .subst z;simp
 by_cases G:j=2
 .subst G;simp
 by_cases O:j=3
 .subst O;simp
 have Q:(0==j)=false:=by simpa using λh=>h0 h.symm
 have Z:(1==j)=false:=by simpa using λh=>z h.symm
 have e2:(2==j)=false:=by simpa using λh=>G h.symm
 have e3:(3==j)=false:=by simpa using λh=>O h.symm
 simp[Q,Z,e2,e3];omega
def ZS(m:List (D×D))(a:D)(n:Int)(G: ∀e∈m,∃n,e.2= .int .i64 n): ∀e∈Eg m a (.int .i64 n),∃n,e.2= .int .i64 n:=by
 induction m with
 |nil=>intro e z;simp only[Eg,BL] at z;subst z;exact⟨n,rfl⟩
 |cons x m ih=>
  intro e z;obtain⟨k,w⟩:=x;simp only[Eg] at z;cases h:D.beq a k with
  |true=>
   rw[h] at z;rcases Bw.1 z with rfl|z
   .exact⟨n,rfl⟩
   .exact G e (BW _ z)
  |false=>
   rw[h] at z;rcases Bw.1 z with rfl|z
   .exact G (k,w) (BS ..)
   .exact ih (λe z=>G e (BW _ z)) e z
def Uy(g:List Ak): ∀e∈Cn g,∃n,e.2=D.int .i64 n:=by
 have z: ∀(g:List Ak) (m:List (D×D)) (k:Int),(∀e∈m,∃n,e.2=D.int .i64 n)-> ∀e∈(g.foldl (λ(s:List (D×D)×Int) x=>(Eg s.1 (.str x.Name) (.int .i64 (s.2+1)),s.2+1)) (m,k)).1,∃n,e.2=D.int .i64 n:=by
  intro g;induction g with
  |nil=>intro m k h;exact h
  |cons x g ih=>intro m k h;exact ih _ _ (ZS m _ _ h)
 refine z g _ 0 λe G=> ?_
 simp only[BL] at G;subst G;exact⟨_,rfl⟩
def TY{x d:D}: ∀(m:List (D×D)),(∀e∈m,∃n,e.2=D.int .i64 n)->lk m x=some d-> ∃n,d= .int .i64 n
 |[],_,h=>by simp[lk] at h
 |(k,w)::m,z,h=>by
  simp only[lk] at h;cases hb:D.beq x k with
  |true=>rw[hb] at h;obtain rfl:=AC h;exact z (k,w) (BS ..)
  |false=>rw[hb] at h;exact TY m (λe G=>z e (BW _ G)) h
def TV(g:List Ak)(nm:ByteArray)(Ks:D->Prop)(Kn:Prop)(z:Ks (.int .i64 (BX g nm)))(G:BX g nm=0->Kn):FW (Cn g) (.str nm) Ks Kn:=by
 refine⟨λd hd=> ?_,λhn=>G ?_⟩
 .obtain⟨n,rfl⟩:=TY _ (Uy g) hd
  have:BX g nm=n:=by simp only[BX,Ot,hd]
  rw[<-this];exact z
 .simp only[BX,Ot,hn]
def nmC.row:AG:=Az (λ_:Unit=>[]) (λ_=>[]) 0 (λ_=>True) (λ_=>false) (λ_=> .ptr 0 0) (λ_=>B1 [] []) 20
def K9(j:Nat):Bool:=Nat.ble j 3
def nmC.ca(_:Unit):List AV:=[]
def nmC.ok:AJ 33 nmC.row:=by
 refine Ha tN Tryz.func33 (exB:=K9) (R:=λ_ r=>r= .ptr 0 0) (λ_=>rfl)
  (λa=>by simp[nmC.ca,B1,K9,AQ,AV.bel,AB,Cg,Cs,Ah.nms,Ax,AV.nms,An,hget]) (λa p hp=> ?_) (λa r h=>by subst h;exact D2.refl _) ?_
 rotate_left
 intro a z;simp only[Tryz.f33,Option.getD,nmC.ca,B1,K9];simp(disch:=omega)only[ZZ,simprocAttr,Ab,AD,Av,nmC.ca,B1,K9];rotate_left
 .simp only[B1,Bw,G7,Gd] at hp;rcases hp with rfl|rfl|rfl|rfl
  .exact .inr ⟨by omega,by omega,rfl,rfl⟩
  .exact .inr ⟨by omega,by omega,rfl,rfl⟩
  .exact .inr ⟨by omega,by omega,rfl,rfl⟩
  .exact .inr ⟨by omega,by omega,rfl,rfl⟩
 have e:Cn []=[(.str ⟨#[45]⟩,.int .i64 0)]:=rfl;refine⟨[],[(0,some 1),(1,none),(2,none),(3,some 0)],⟨[(0,.ptr 0 0)],B1 [] [],4⟩,?_,by simp[B1,ZG,Cn,KT.fit,KK.fit,B8],by simp,?_⟩
 .simp only[Am,B1,e,Bg];simp(disch:=omega)only[ZZ,simprocAttr,Ab,AD,Av,nmC.ca,B1,K9,AN,AM]
 .simp(disch:=omega)only[ZZ,simprocAttr,Ab,AD,Av,nmC.ca,B1,K9,B1,e,K9]
def mgC.ca(a:Mk×Ak):List AV:=[.ptr 0 0,.im (.str a.2.Name),.im (.int .i64 a.2.Strength)]
def mgC.H0(a:Mk×Ak):Ar:=B1 a.1.1 a.1.2
def mgC.H1(a:Mk×Ak):Ar:=[(0,(true,.cells 80 [.own 4,.own 2,.mp 3])),(4,(true,.arr 66 2 ((a.1.1++[a.2]).map Ak.c))),(3,(true,.map ⟨false,[.str]⟩ (Cn (a.1.1++[a.2]))))]
def C3(j:Nat):Bool:=j==0||(j==1||j==3)
def mgC.row:AG:=Az mgC.ca mgC.H0 4 (λa=>a.1.1.length<=1000000) C3 (λ_=> .im (.tup [])) mgC.H1 20
def mgC.ok:AJ 35 mgC.row:=by
 refine Ha tN Tryz.func35 (exB:=λj=>j==4) (R:=λa r=>r= .im (.tup [])) (λ_=>rfl)
  (λa=>by simp[mgC.ca,mgC.H0,mgC.H1,B1,C3,AQ,AV.bel,AB,Cg,Cs,Ah.nms,Ax,AV.nms,An,hget]) (λa p hp=> ?_) (λa r h=>by subst h;exact D2.refl _) ?_
 rotate_left
 intro a z;simp only[Tryz.f35,Option.getD,mgC.ca,mgC.H0,mgC.H1,B1,C3];simp(disch:=omega)only[ZZ,simprocAttr,Ab,AD,Av,mgC.ca,mgC.H0,mgC.H1,B1,C3];rotate_left
 .simp only[mgC.H1,Bw,G7,Gd] at hp;rcases hp with rfl|rfl|rfl
  .exact .inl ⟨by omega,rfl,rfl⟩
  .exact .inr ⟨by omega,by omega,rfl,rfl⟩
  .exact .inl ⟨by omega,rfl,rfl⟩
 obtain⟨⟨g,t⟩,x⟩:=a;simp only at z⊢;have G:List.map Ak.c g++[[D.str x.Name,D.int .i64 x.Strength]]=(g++[x]).map Ak.c:=by rw[CV];rfl
 have O:Eg (Cn g) (.str x.Name) (.int .i64 (((g++[x]).map Ak.c).length:Nat))=Cn (g++[x]):=by rw[sM];simp
 rw[G,O];refine⟨by omega,?_⟩;refine⟨[],[(4,some 5)],⟨[],[(0,(true,.cells 80 [.own 4,.own 2,.mp 3])),(4,(true,.arr 66 2 ((g++[x]).map Ak.c))),(2,(true,.arr 64 2 (t.map Tile.c))),(3,(true,.map ⟨false,[.str]⟩ (Cn (g++[x]))))],5⟩,?_,?_,by simp,?_⟩
 .simp only[Am];simp(disch:=omega)only[ZZ,simprocAttr,Ab,AD,Av,mgC.ca,mgC.H0,mgC.H1,B1,C3,AN,AM]
 .simp[ZG]
 .simp(disch:=omega)only[ZZ,simprocAttr,Ab,AD,Av,mgC.ca,mgC.H0,mgC.H1,B1,C3,mgC.H1,C3]
def mtT(a:Mk×ByteArray×List ByteArray):Tile:=⟨a.2.1,a.2.2.map (BX a.1.1)⟩
def mtC.ca(a:Mk×ByteArray×List ByteArray):List AV:=[.ptr 0 0,.im (.str a.2.1),.own 4]
def mtC.H0(a:Mk×ByteArray×List ByteArray):Ar:=B1 a.1.1 a.1.2++[(4,(true,.arr 9 1 (a.2.2.map Qk)))]
def mtC.H1(a:Mk×ByteArray×List ByteArray):Ar:=[(0,(true,.cells 80 [.own 1,.own 5,.mp 3])),(5,(true,.arr 64 2 ((a.1.2++[mtT a]).map Tile.c)))]
def mtC.row:AG:=Az mtC.ca mtC.H0 5 (λa=>a.1.2.length<=1000000/\a.2.2.length<=100) BC (λa=> .im (.int .i64 a.1.2.length)) mtC.H1 20
def mtC.ok:AJ 37 mtC.row:=by
 refine Ha tN Tryz.func37 (exB:=λj=>j==5) (R:=λa r=>r= .im (.int .i64 a.1.2.length)) (λ_=>rfl)
  (λa=>by simp[mtC.ca,mtC.H0,mtC.H1,B1,BC,DS,DJ,DT,EE,Hr,Gc,AQ,AV.bel,AB,Cg,Cs,Ah.nms,Ax,AV.nms,An,hget]) (λa p hp=> ?_) (λa r h=>by subst h;exact D2.refl _) ?_
 rotate_left
 intro a G;simp only[Tryz.f37,Option.getD,mtC.ca,mtC.H0,mtC.H1,B1,BC,DS,DJ,DT,EE,Hr,Gc];simp(disch:=omega)only[ZZ,simprocAttr,Ab,AD,Av,mtC.ca,mtC.H0,mtC.H1,B1,BC,DS,DJ,DT,EE,Hr,Gc];rotate_left
 .simp only[mtC.H1,Bw,G7,Gd] at hp;rcases hp with rfl|rfl
  .exact .inl ⟨by omega,rfl,rfl⟩
  .exact .inr ⟨by omega,by omega,rfl,rfl⟩
 obtain⟨⟨g,t⟩,x,l⟩:=a;obtain⟨p1,p2⟩:=G;simp only at p1 p2⊢;intro _;refine AZ.ren ⟨{k:Nat//k<=l.length},λk=>⟨[(14,.im (.int .i64 k.1)),(13,.im (.int .i64 l.length)),(12,.own 4),(7,.ptr 5 0),(0,.ptr 0 0),(6,.im (.int .i64 0))],[(5,(true,.cells 64 [.im (.str x),.own 6])),(6,(true,.arr 2 1 (((l.take k.1).map (BX g)).map Af))),(0,(true,.cells 80 [.own 1,.own 2,.mp 3])),(1,(true,.arr 66 2 (g.map Ak.c))),(2,(true,.arr 64 2 (t.map Tile.c))),(3,(true,.map ⟨false,[.str]⟩ (Cn g))),(4,(true,.arr 9 1 (l.map Qk)))],7⟩,λk=>l.length - k.1,λk=>⟨by simp[ZG],by simp⟩,⟨⟨0,BV _⟩,[(6,none)],?_⟩,λk=> ?_⟩
 .simp only[Am,Hp,Bg];simp(disch:=omega)only[ZZ,simprocAttr,Ab,AD,Av,mtC.ca,mtC.H0,mtC.H1,B1,BC,DS,DJ,DT,EE,Hr,Gc,AN,AM]
 obtain⟨k,hk⟩:=k;have Q:IntKind.i64.wrap ((k:Int)+1)=((k+1:Nat):Int):=by rw[AH (by omega) (by omega)];omega
 simp(disch:=omega)only[ZZ,simprocAttr,Ab,AD,Av,mtC.ca,mtC.H0,mtC.H1,B1,BC,DS,DJ,DT,EE,Hr,Gc,sub,AS,DS,DJ,DT,EE,Hr,Gc];refine⟨λz=>⟨z,z,λv hv=> ?_⟩,λz=> ?_⟩
 .have O:((l.take k).map (BX g)).map Af++[[D.int .i64 (BX g v)]]=((l.take (k+1)).map (BX g)).map Af:=by
   rw[Ww hv,CV,CV];rfl
  have aa:(l.take k).length<=100:=by rw[CB];omega
  refine TV g v _ _ ?_ λhz=> ?_
  .simp(disch:=omega)only[ZZ,simprocAttr,Ab,AD,Av,mtC.ca,mtC.H0,mtC.H1,B1,BC,DS,DJ,DT,EE,Hr,Gc,sub,AS,O,Q];refine⟨by omega,⟨k+1,by omega⟩,[(6,some 8)],by simp only;omega,?_⟩;simp only[Am];simp(disch:=omega)only[ZZ,simprocAttr,Ab,AD,Av,mtC.ca,mtC.H0,mtC.H1,B1,BC,DS,DJ,DT,EE,Hr,Gc,AN,AM]
  .rw[hz] at O;simp(disch:=omega)only[ZZ,simprocAttr,Ab,AD,Av,mtC.ca,mtC.H0,mtC.H1,B1,BC,DS,DJ,DT,EE,Hr,Gc,sub,AS,O,Q];refine⟨by omega,⟨k+1,by omega⟩,[(6,some 8)],by simp only;omega,?_⟩;simp only[Am];simp(disch:=omega)only[ZZ,simprocAttr,Ab,AD,Av,mtC.ca,mtC.H0,mtC.H1,B1,BC,DS,DJ,DT,EE,Hr,Gc,AN,AM]
 .obtain rfl:k=l.length:=by omega
  rw[IF];have Z:(List.map Tile.c (t++[mtT ((g,t),x,l)])).map (λr=>r.map AV.im)=(t.map Tile.c).map (λr=>r.map AV.im)++[[.im (.str x),.im (.sl false 1 ((l.map (BX g)).map Af))]]:=by rw[CV,CV];rfl
  have e3:IntKind.i64.wrap ((((t.map Tile.c).map (λr=>r.map AV.im)++[[AV.im (.str x),AV.own 6]]).length:Nat) - 1:Int)=t.length:=by
   simp only[Bz,Du,RQ];rw[AH (by omega) (by omega)];omega
  rw[e3];refine⟨by omega,λ_=> ?_⟩;refine⟨[6],[(5,some 8)],⟨[(6,.im (.int .i64 t.length))],[(0,(true,.cells 80 [.own 1,.own 5,.mp 3])),(1,(true,.arr 66 2 (g.map Ak.c))),(5,(true,.arr 64 2 ((t++[mtT ((g,t),x,l)]).map Tile.c))),(3,(true,.map ⟨false,[.str]⟩ (Cn g))),(4,(true,.arr 9 1 (l.map Qk)))],6⟩,?_,by simp[ZG],by simp,?_⟩
  .simp only[Am];simp(disch:=omega)only[ZZ,simprocAttr,Ab,AD,Av,mtC.ca,mtC.H0,mtC.H1,B1,BC,DS,DJ,DT,EE,Hr,Gc,AN,AM,Qzl,Qzb,Z]
  .simp(disch:=omega)only[ZZ,simprocAttr,Ab,AD,Av,mtC.ca,mtC.H0,mtC.H1,B1,BC,DS,DJ,DT,EE,Hr,Gc,mtC.H1,BC]
def GJ(x:Int)(r:List Int)(k:Nat):List Aq:=(List.range k).map λ(i:Nat)=>⟨⟨x+(i:Int),0⟩,(r[i]?).getD 0⟩
abbrev Sy:=Mk×Int×List Int
def syC.ca(a:Sy):List AV:=[.ptr 0 0,.im (.int .i64 a.2.1),.own 3]
def syC.H0(a:Sy):Ar:=Cf a.1.1 a.1.2++[(3,(true,.arr 2 1 (a.2.2.map Af)))]
def ZL(a:Sy)(j:Nat):An (syC.H0 a) j=true↔j<4:=by
 simp only[An,syC.H0,Cf,hget,Ci,Dv];by_cases h0:j=0
 .subst h0;simp
 by_cases z:j=1
 .subst z;simp
 by_cases G:j=2
 .subst G;simp
 by_cases O:j=3
 .subst O;simp
 have Q:(0==j)=false:=by simpa using λh=>h0 h.symm
 have Z:(1==j)=false:=by simpa using λh=>z h.symm
 have e2:(2==j)=false:=by simpa using λh=>G h.symm
 have e3:(3==j)=false:=by simpa using λh=>O h.symm
 simp[Q,Z,e2,e3];omega
def syC.r0(_:Sy):AV:= .agg [.own 1,.own 2,.own 4,.im (.int .i64 2)]
def syC.H1(a:Sy):Ar:=[(4,(true,.arr 88 3 ((GJ a.2.1 a.2.2 a.2.2.length).map Aq.c)))]
def syC.row:AG:=Az syC.ca syC.H0 4 (λa=> -1000<=a.2.1/\a.2.1<=1000/\a.2.2.length<=1000) (λ_=>false) syC.r0 syC.H1 20
def syC.ok:AJ 54 syC.row:=by
 refine Ha tN Tryz.func54 (exB:=λj=>j==4) (R:=λa r=>r=syC.r0 a) (λ_=>rfl)
  (λa=>by simp[syC.ca,syC.H0,syC.H1,syC.r0,Cf,AQ,AV.bel,AB,Cg,Cs,Ah.nms,Ax,AV.nms,An,hget]) (λa p hp=> ?_) (λa r h=>by subst h;exact D2.refl _) ?_
 rotate_left
 intro a G;simp only[Tryz.f54,Option.getD,syC.ca,syC.H0,syC.H1,syC.r0,Cf];simp(disch:=omega)only[ZZ,simprocAttr,Ab,AD,Av,syC.ca,syC.H0,syC.H1,syC.r0,Cf];rotate_left
 .simp only[syC.H1,Bw,G7,Gd] at hp;subst hp;exact .inr ⟨by omega,by omega,rfl,rfl⟩
 obtain⟨⟨g,t⟩,x,r⟩:=a;obtain⟨p1,p2,p3⟩:=G;simp only at p1 p2 p3⊢;refine AZ.ren ⟨{k:Nat//k<=r.length},λk=>⟨[(8,.im (.int .i64 k.1)),(7,.ptr 5 0),(6,.ptr 4 0),(0,.ptr 0 0),(1,.im (.int .i64 x)),(2,.own 3)],[(5,(true,.cells 39 [.own 1,.own 2,.own 6,.im (.int .i64 2)])),(6,(true,.arr 88 3 ((GJ x r k.1).map Aq.c))),(4,(true,.cells 39 [.im (.sl true 0 []),.im (.sl true 0 []),.im (.sl true 0 []),.im (.int .i64 0)])),(0,(true,.cells 91 [.own 1,.own 2])),(1,(true,.arr 66 2 (g.map Ak.c))),(2,(true,.arr 64 2 (t.map Tile.c))),(3,(true,.arr 2 1 (r.map Af)))],7⟩,λk=>r.length - k.1,λk=>⟨by simp[ZG],by simp⟩,⟨⟨0,BV _⟩,[(6,none)],?_⟩,λk=> ?_⟩
 .simp only[Am,GJ,Ho,Bg];simp(disch:=omega)only[ZZ,simprocAttr,Ab,AD,Av,syC.ca,syC.H0,syC.H1,syC.r0,Cf,AN,AM]
 obtain⟨k,hk⟩:=k;have Q:(GJ x r k).length=k:=by simp[GJ]
 have hw:IntKind.i64.wrap (x+(k:Int))=x+k:=AH (by omega) (by omega);have O:IntKind.i64.wrap ((k:Int)+1)=((k+1:Nat):Int):=by rw[AH (by omega) (by omega)];omega
 simp(disch:=omega)only[ZZ,simprocAttr,Ab,AD,Av,syC.ca,syC.H0,syC.H1,syC.r0,Cf,sub,AS,hw];intro _;refine⟨λz=>⟨z,z,λv hv=> ?_⟩,λz=> ?_⟩
 .have Z:List.map Aq.c (GJ x r k)++[[D.int .i64 (x+k),D.int .i64 0,D.int .i64 v]]=(GJ x r (k+1)).map Aq.c:=by
   simp only[GJ];rw[G1,CV,hv];rfl
  refine⟨by omega,⟨k+1,by omega⟩,[(6,some 8)],by simp only;omega,?_⟩;simp only[Am];simp(disch:=omega)only[ZZ,simprocAttr,Ab,AD,Av,syC.ca,syC.H0,syC.H1,syC.r0,Cf,AN,AM,O,Z]
 .obtain rfl:k=r.length:=by omega
  refine⟨[],[(5,some 4),(4,some 6)],⟨[(6,.ptr 5 0)],[(5,(true,.cells 39 [.own 1,.own 2,.own 4,.im (.int .i64 2)])),(4,(true,.arr 88 3 ((GJ x r r.length).map Aq.c))),(0,(true,.cells 91 [.own 1,.own 2])),(1,(true,.arr 66 2 (g.map Ak.c))),(2,(true,.arr 64 2 (t.map Tile.c))),(3,(true,.arr 2 1 (r.map Af)))],6⟩,?_,by simp[ZG],by simp,?_⟩
  .simp only[Am];simp(disch:=omega)only[ZZ,simprocAttr,Ab,AD,Av,syC.ca,syC.H0,syC.H1,syC.r0,Cf,AN,AM]
  .simp(disch:=omega)only[ZZ,simprocAttr,Ab,AD,Av,syC.ca,syC.H0,syC.H1,syC.r0,Cf,syC.H1,syC.r0]
def Tj(g:List Ak)(w:ByteArray)(k:Nat)(st:Int):Kj (Ef g (AY w k st)) ⟨Ac w (k:Nat),st⟩=Ef g (AY w (k+1) st):=by rw[Oi,Oj]
def IT(g:List Ak):Ef g []=g:=rfl
def F6(g:List Tile):Dh g []=g:=rfl
def G0(w:ByteArray)(st:Int):AY w 0 st=[]:=rfl
def eV(g A:List Ak)(w:ByteArray)(k:Nat)(st:Int):Kj (Ef g (A++AY w k st)) ⟨Ac w (k:Nat),st⟩=Ef g (A++AY w (k+1) st):=by rw[Oi,Oj,Ej]
def Xl(g A:List Tile)(f:Nat->Tile)(k:Nat):EU (Dh g (A++(List.range k).map f)) (f k)=Dh g (A++(List.range (k+1)).map f):=by rw[Xk,G1,Ej]
def eX{A:Type}(F:Nat->List A)(n:Nat):(List.range (n+1)).flatMap F=(List.range n).flatMap F++F n:=by simp[XQ]
def Rs{A:Type}(F:Nat->List A)(n m:Nat)(h: ∀k,(F k).length=m):((List.range n).flatMap F).length=n*m:=by
 induction n with
 |zero=>simp
 |succ n ih=>rw[eX,Bz,ih,h,oA]
def P6(w:ByteArray)(a b:Int):Ac (Ac w a++⟨#[95]⟩) b=Cz w a b:=rfl
def UO:(⟨#[114,48]⟩:ByteArray)=Ac ⟨#[114]⟩ 0:=by rw[Ac,yK];rfl
def NA: ∀(l t:List Tile),((t++l).map Tile.Name).Nodup->I1 t l=(List.range l.length).map λ(i:Nat)=>((t.length+i:Nat):Int)
 |[],t,_=>rfl
 |x::l,t,h=>by
  have z:((t++[x])++l).map Tile.Name=(t++x::l).map Tile.Name:=by rw[Ej];rfl
  have O:x.Name∉t.map Tile.Name:=by
   rw[CV,Bf,Jh] at h;exact λG=>h.2.2 _ G _ (BS ..) rfl
  have hf:=sE O;rw[I1,show EU t x=t++[x] from Al hf,NA l (t++[x]) (by rw[z];exact h),Gp,Al hf,CR,List.range_succ_eq_map,Bf,RT];congr 1;refine QJ λi _=> ?_
  simp only[Bz,RQ,Function.comp];congr 1;omega
def ZD(b:Nat)(l:List Int)(A:List Ak)(T:List Tile)(O:A=CO b l.length)(z:T=ET (Bu (Ef [] A)) WC ByteArray.empty b l.length):
 (⟨⟨kQ ((Ef [] A,Dh [] T),l,Ac ⟨#[114]⟩ 0,⟨#[115,105,100,101]⟩),Dh (Dh [] T) (PP ((Ef [] A,Dh [] T),l,Ac ⟨#[114]⟩ 0,⟨#[115,105,100,101]⟩))⟩,⟨GJ (-1) (I1 (Dh [] T) (PP ((Ef [] A,Dh [] T),l,Ac ⟨#[114]⟩ 0,⟨#[115,105,100,101]⟩))) (I1 (Dh [] T) (PP ((Ef [] A,Dh [] T),l,Ac ⟨#[114]⟩ 0,⟨#[115,105,100,101]⟩))).length⟩,2⟩:AF)=EA b l:=by
 have Z:Ef [] A=CO b l.length:=by
  rw[Ef,fB A [] (by rw[O];exact sK b _),O];rfl
 rw[Z] at z⊢;have hn:=Qawf (Bu (CO b l.length)) (Bu (BO b l.length)) WC ByteArray.empty ByteArray.empty (Ac ⟨#[114]⟩ 0) ⟨#[115,105,100,101]⟩ b l;rw[<-z] at hn;have e2:Dh [] T=T:=by
  rw[Dh,eY T [] (by rw[CV,Jh] at hn;exact hn.1)];rfl
 have G:kQ ((CO b l.length,T),l,Ac ⟨#[114]⟩ 0,⟨#[115,105,100,101]⟩)=BO b l.length:=by
  simp only[kQ,Ef];rw[fB _ _ (eU b l.length)];rfl
 have e4:PP ((CO b l.length,T),l,Ac ⟨#[114]⟩ 0,⟨#[115,105,100,101]⟩)=DF (Bu (BO b l.length)) ByteArray.empty (Ac ⟨#[114]⟩ 0) ⟨#[115,105,100,101]⟩ l:=by
  simp only[PP,G]
 rw[e2,G,e4,NA _ _ hn,Dh,eY _ _ hn];have e5:(DF (Bu (BO b l.length)) ByteArray.empty (Ac ⟨#[114]⟩ 0) ⟨#[115,105,100,101]⟩ l).length=l.length+2:=by rw[Xi,Bz,Rt];rfl
 simp only[EA,e5,Du,FE,<-z];congr 2;simp only[GJ,Lw];refine QJ λi Q=> ?_
 rw[CS] at Q;rw[Gb,IH Q,Ez,AW,show (-1:Int)+(i:Int)=(i:Int) - 1 by omega]
def srtR(b:Nat)(l:List Int):AF:=EA b l
def l21S_.fv(a:Int×(List Int)):AF:=(λb l=>srtR b.toNat l) (a.1) (a.2)
def l21S_.row:AG:=vK (b2 qI (qS Dj Ct)) (rA AF.d_le) (λa=>1<=a.1/\a.1<=6/\a.2.length<=12/\ ∀x∈a.2,0<=x/\x<=100) l21S_.fv
def l21S_.q:=B3 (R:=l21S_.row) rfl
def C6:=J @l21S_.fv.eq_1<|J @decm_.q<|J @decm_.fv.eq_1<|J @l00Min.q<|J @l00Min.fv.eq_1<|J @l00Max.q @l00Max.fv.eq_1
def l21S_.ok:AJ 24 l21S_.row:=by
 refine vw (tC decm_.ok (tC sgC.ok (tC stC.ok (tC ssC.ok (tC syC.ok (tC l00Min.ok (tC l00Max.ok tN))))))) Tryz.func24 ?_;intro a ak;simp only[Tryz.f24,Option.getD];simp(disch:=omega)only[ZZ,simprocAttr,Ab,C6];obtain⟨a0,l⟩:=a;obtain⟨p1,p2,p3,p4⟩:=ak;simp only at p1 p2 p3 p4⊢;obtain⟨b,rfl⟩: ∃b:Nat,a0=b:=⟨a0.toNat,by omega⟩;refine AZ.ren ⟨{k:Nat//k<=b},λk=>⟨[(6,.im (.int .i64 k.1)),(0,.im (.int .i64 b)),(1,.im (.sl false 1 (l.map Af))),(4,.ptr 0 0),(5,.ptr 1 0)],[(0,(true,.cells 39 [.im (.sl true 0 []),.im (.sl true 0 []),.im (.sl true 0 []),.im (.int .i64 0)])),(1,(true,.cells 91 [.own 2,.own 3])),(2,(true,.arr 66 2 ((Ef [] (AY ⟨#[118]⟩ k.1 1)).map Ak.c))),(3,(true,.arr 64 2 (([]:List Tile).map Tile.c)))],4⟩,λk=>b - k.1,λk=>⟨by simp[ZG],by simp⟩,⟨⟨0,BV _⟩,[(2,none),(3,none)],?_⟩,λk=> ?_⟩
 .simp only[Am];simp(disch:=omega)only[ZZ,simprocAttr,Ab,C6,AN,AM,G0,Ho,Bg,IE,Ck,IT,F6]
 obtain⟨k,hk⟩:=k;have ik:=Dr (n:=(k:Int)) (by omega) (by omega);have z:=HR [] (AY ⟨#[118]⟩ k 1);rw[EK,DQ] at z;have ab:([]:List Ak).length<=0:=AU _;have sW:(⟨#[118]⟩:ByteArray).size=1:=rfl;have hw:IntKind.i64.wrap ((k:Int)+1)=((k+1:Nat):Int):=by rw[AH (by omega) (by omega)];omega
 simp(disch:=omega)only[ZZ,simprocAttr,Ab,C6,sub,AS];refine⟨λO=>⟨by omega,by omega,?_⟩,λO=> ?_⟩
 .simp only[G2];refine Az.os ((Ef [] (AY ⟨#[118]⟩ k 1),[]),(⟨Ac ⟨#[118]⟩ k,1⟩:Ak)) [1,2,3] (by simp only;omega) (λj=>Eu _ _ j) rfl rfl ?_ ?_
  .simp(disch:=omega)only[ZZ,simprocAttr,Ab,C6,sgC.ca,sgC.H0,Cf,Bb,Br,Bx]
   try exact⟨rfl,rfl⟩
  have Z:=Tj [] ⟨#[118]⟩ k 1;simp(disch:=omega)only[ZZ,simprocAttr,Ab,C6,sgC.H1,El,sub,Br,Bx,hw,Z];refine⟨⟨k+1,by omega⟩,[(2,some 4)],by simp only;omega,?_⟩;simp only[Am];simp(disch:=omega)only[ZZ,simprocAttr,Ab,C6,AN,AM]
 obtain⟨A1,hA1⟩: ∃A,A=AY ⟨#[118]⟩ b 1:=⟨_,rfl⟩;have a8:A1.length<=0+b:=by rw[hA1,EK];omega
 have Q:k=b:=by omega
 simp only[Q,<-hA1];clear z ab ik hw hk O Q sW k;have z:=HR [] A1;rw[DQ] at z;refine Az.os ((Ef [] A1,[]),(⟨⟨#[118,120]⟩,1⟩:Ak)) [1,2,3] (by simp only;omega) (λj=>Eu _ _ j) rfl rfl ?_ ?_
 .simp(disch:=omega)only[ZZ,simprocAttr,Ab,C6,sgC.ca,sgC.H0,Cf,Bb,Br,Bx]
  try exact⟨rfl,rfl⟩
 obtain⟨A2,hA2⟩: ∃A,A=A1++[⟨⟨#[118,120]⟩,1⟩]:=⟨_,rfl⟩;have ag:A2.length<=0+b+1:=by rw[hA2,Bz];simp only[CR,DQ];omega
 have Z:=Oi [] A1 ⟨⟨#[118,120]⟩,1⟩;rw[<-hA2] at Z;simp(disch:=omega)only[ZZ,simprocAttr,Ab,C6,sgC.H1,El,sub,Br,Bx,Z];clear z Z;refine AZ.ren ⟨{k:Nat//k<=b},λk=>⟨[(7,.im (.int .i64 k.1)),(0,.im (.int .i64 b)),(1,.im (.sl false 1 (l.map Af))),(4,.ptr 0 0),(5,.ptr 1 0)],[(0,(true,.cells 39 [.im (.sl true 0 []),.im (.sl true 0 []),.im (.sl true 0 []),.im (.int .i64 0)])),(1,(true,.cells 91 [.own 24,.own 3])),(24,(true,.arr 66 2 ((Ef [] (A2++AY ⟨#[99]⟩ k.1 1)).map Ak.c))),(3,(true,.arr 64 2 (([]:List Tile).map Tile.c)))],25⟩,λk=>b - k.1,λk=>⟨by simp[ZG],by simp⟩,⟨⟨0,BV _⟩,[(24,some 4)],?_⟩,λk=> ?_⟩
 .simp only[Am];simp(disch:=omega)only[ZZ,simprocAttr,Ab,C6,AN,AM,G0,Ho,Bg,IE,Ck,IT,F6]
 obtain⟨k,hk⟩:=k;have ik:=Dr (n:=(k:Int)) (by omega) (by omega);have z:=HR [] (A2++AY ⟨#[99]⟩ k 1);rw[Bz,EK,DQ] at z;have ab:A2.length<=0+b+1:=ag;have sW:(⟨#[99]⟩:ByteArray).size=1:=rfl;have hw:IntKind.i64.wrap ((k:Int)+1)=((k+1:Nat):Int):=by rw[AH (by omega) (by omega)];omega
 simp(disch:=omega)only[ZZ,simprocAttr,Ab,C6,sub,AS];refine⟨λO=>⟨by omega,by omega,?_⟩,λO=> ?_⟩
 .simp only[G2];refine Az.os ((Ef [] (A2++AY ⟨#[99]⟩ k 1),[]),(⟨Ac ⟨#[99]⟩ k,1⟩:Ak)) [1,24,3] (by simp only;omega) (λj=>Eu _ _ j) rfl rfl ?_ ?_
  .simp(disch:=omega)only[ZZ,simprocAttr,Ab,C6,sgC.ca,sgC.H0,Cf,Bb,Br,Bx]
   try exact⟨rfl,rfl⟩
  have Z:=eV [] A2 ⟨#[99]⟩ k 1;simp(disch:=omega)only[ZZ,simprocAttr,Ab,C6,sgC.H1,El,sub,Br,Bx,hw,Z];refine⟨⟨k+1,by omega⟩,[(24,some 25)],by simp only;omega,?_⟩;simp only[Am];simp(disch:=omega)only[ZZ,simprocAttr,Ab,C6,AN,AM]
 obtain⟨A3,hA3⟩: ∃A,A=A2++AY ⟨#[99]⟩ b 1:=⟨_,rfl⟩;have a9:A3.length<=0+b+1+b:=by rw[hA3,Bz,EK];omega
 have Q:k=b:=by omega
 simp only[Q,<-hA3];clear z ab ik hw hk O Q sW k;have z:=HR [] A3;rw[DQ] at z;refine Az.os ((Ef [] A3,[]),(⟨⟨#[99,120]⟩,1⟩:Ak)) [1,24,3] (by simp only;omega) (λj=>Eu _ _ j) rfl rfl ?_ ?_
 .simp(disch:=omega)only[ZZ,simprocAttr,Ab,C6,sgC.ca,sgC.H0,Cf,Bb,Br,Bx]
  try exact⟨rfl,rfl⟩
 obtain⟨A4,hA4⟩: ∃A,A=A3++[⟨⟨#[99,120]⟩,1⟩]:=⟨_,rfl⟩;have ba:A4.length<=0+b+1+b+1:=by rw[hA4,Bz];simp only[CR,DQ];omega
 have Z:=Oi [] A3 ⟨⟨#[99,120]⟩,1⟩;rw[<-hA4] at Z;simp(disch:=omega)only[ZZ,simprocAttr,Ab,C6,sgC.H1,El,sub,Br,Bx,Z];clear z Z;have z:=HR [] A4;rw[DQ] at z;refine Az.os ((Ef [] A4,[]),(⟨⟨#[115,105,100,101]⟩,1⟩:Ak)) [1,25,3] (by simp only;omega) (λj=>Eu _ _ j) rfl rfl ?_ ?_
 .simp(disch:=omega)only[ZZ,simprocAttr,Ab,C6,sgC.ca,sgC.H0,Cf,Bb,Br,Bx]
  try exact⟨rfl,rfl⟩
 obtain⟨A5,hA5⟩: ∃A,A=A4++[⟨⟨#[115,105,100,101]⟩,1⟩]:=⟨_,rfl⟩;have ah:A5.length<=0+b+1+b+1+1:=by rw[hA5,Bz];simp only[CR,DQ];omega
 have Z:=Oi [] A4 ⟨⟨#[115,105,100,101]⟩,1⟩;rw[<-hA5] at Z;simp(disch:=omega)only[ZZ,simprocAttr,Ab,C6,sgC.H1,El,sub,Br,Bx,Z];clear z Z;refine AZ.ren ⟨{k:Nat//k<=b},λk=>⟨[(8,.im (.int .i64 k.1)),(0,.im (.int .i64 b)),(1,.im (.sl false 1 (l.map Af))),(4,.ptr 0 0),(5,.ptr 1 0)],[(0,(true,.cells 39 [.im (.sl true 0 []),.im (.sl true 0 []),.im (.sl true 0 []),.im (.int .i64 0)])),(1,(true,.cells 91 [.own 65,.own 3])),(65,(true,.arr 66 2 ((Ef [] (A5++AY ⟨#[109,97,120]⟩ k.1 1)).map Ak.c))),(3,(true,.arr 64 2 (([]:List Tile).map Tile.c)))],66⟩,λk=>b - k.1,λk=>⟨by simp[ZG],by simp⟩,⟨⟨0,BV _⟩,[(65,some 45)],?_⟩,λk=> ?_⟩
 .simp only[Am];simp(disch:=omega)only[ZZ,simprocAttr,Ab,C6,AN,AM,G0,Ho,Bg,IE,Ck,IT,F6]
 obtain⟨k,hk⟩:=k;have ik:=Dr (n:=(k:Int)) (by omega) (by omega);have z:=HR [] (A5++AY ⟨#[109,97,120]⟩ k 1);rw[Bz,EK,DQ] at z;have ab:A5.length<=0+b+1+b+1+1:=ah;have sW:(⟨#[109,97,120]⟩:ByteArray).size=3:=rfl;have hw:IntKind.i64.wrap ((k:Int)+1)=((k+1:Nat):Int):=by rw[AH (by omega) (by omega)];omega
 simp(disch:=omega)only[ZZ,simprocAttr,Ab,C6,sub,AS];refine⟨λO=>⟨by omega,by omega,?_⟩,λO=> ?_⟩
 .simp only[G2];refine Az.os ((Ef [] (A5++AY ⟨#[109,97,120]⟩ k 1),[]),(⟨Ac ⟨#[109,97,120]⟩ k,1⟩:Ak)) [1,65,3] (by simp only;omega) (λj=>Eu _ _ j) rfl rfl ?_ ?_
  .simp(disch:=omega)only[ZZ,simprocAttr,Ab,C6,sgC.ca,sgC.H0,Cf,Bb,Br,Bx]
   try exact⟨rfl,rfl⟩
  have Z:=eV [] A5 ⟨#[109,97,120]⟩ k 1;simp(disch:=omega)only[ZZ,simprocAttr,Ab,C6,sgC.H1,El,sub,Br,Bx,hw,Z];refine⟨⟨k+1,by omega⟩,[(65,some 66)],by simp only;omega,?_⟩;simp only[Am];simp(disch:=omega)only[ZZ,simprocAttr,Ab,C6,AN,AM]
 obtain⟨A6,hA6⟩: ∃A,A=A5++AY ⟨#[109,97,120]⟩ b 1:=⟨_,rfl⟩;have ai:A6.length<=0+b+1+b+1+1+b:=by rw[hA6,Bz,EK];omega
 have Q:k=b:=by omega
 simp only[Q,<-hA6];clear z ab ik hw hk O Q sW k;intro _;refine AZ.ren ⟨{k:Nat//k<=l.length},λk=>⟨[(10,.im (.int .i64 k.1)),(9,.im (.int .i64 l.length)),(0,.im (.int .i64 b)),(1,.im (.sl false 1 (l.map Af))),(4,.ptr 0 0),(5,.ptr 1 0)],[(0,(true,.cells 39 [.im (.sl true 0 []),.im (.sl true 0 []),.im (.sl true 0 []),.im (.int .i64 0)])),(1,(true,.cells 91 [.own 66,.own 3])),(66,(true,.arr 66 2 ((Ef [] (A6++AY ⟨#[114]⟩ k.1 2)).map Ak.c))),(3,(true,.arr 64 2 (([]:List Tile).map Tile.c)))],67⟩,λk=>l.length - k.1,λk=>⟨by simp[ZG],by simp⟩,⟨⟨0,BV _⟩,[(66,some 65)],?_⟩,λk=> ?_⟩
 .simp only[Am];simp(disch:=omega)only[ZZ,simprocAttr,Ab,C6,AN,AM,G0,Ho,Bg,IE,Ck,IT,F6]
 obtain⟨k,hk⟩:=k;have ik:=Dr (n:=(k:Int)) (by omega) (by omega);have z:=HR [] (A6++AY ⟨#[114]⟩ k 2);rw[Bz,EK,DQ] at z;have ab:A6.length<=0+b+1+b+1+1+b:=ai;have sW:(⟨#[114]⟩:ByteArray).size=1:=rfl;have hw:IntKind.i64.wrap ((k:Int)+1)=((k+1:Nat):Int):=by rw[AH (by omega) (by omega)];omega
 simp(disch:=omega)only[ZZ,simprocAttr,Ab,C6,sub,AS];refine⟨λO=>⟨by omega,by omega,?_⟩,λO=> ?_⟩
 .simp only[G2];refine Az.os ((Ef [] (A6++AY ⟨#[114]⟩ k 2),[]),(⟨Ac ⟨#[114]⟩ k,2⟩:Ak)) [1,66,3] (by simp only;omega) (λj=>Eu _ _ j) rfl rfl ?_ ?_
  .simp(disch:=omega)only[ZZ,simprocAttr,Ab,C6,sgC.ca,sgC.H0,Cf,Bb,Br,Bx]
   try exact⟨rfl,rfl⟩
  have Z:=eV [] A6 ⟨#[114]⟩ k 2;simp(disch:=omega)only[ZZ,simprocAttr,Ab,C6,sgC.H1,El,sub,Br,Bx,hw,Z];refine⟨⟨k+1,by omega⟩,[(66,some 67)],by simp only;omega,?_⟩;simp only[Am];simp(disch:=omega)only[ZZ,simprocAttr,Ab,C6,AN,AM]
 obtain⟨A7,hA7⟩: ∃A,A=A6++AY ⟨#[114]⟩ l.length 2:=⟨_,rfl⟩;have bb:A7.length<=0+b+1+b+1+1+b+l.length:=by rw[hA7,Bz,EK];omega
 have Q:k=l.length:=by omega
 simp only[Q,<-hA7];clear z ab ik hw hk O Q sW k;obtain⟨G,hG⟩: ∃G,G=Ef [] A7:=⟨_,rfl⟩;simp only[<-hG];have aa:=K7 [] ([]:List Tile);rw[DQ] at aa;have bh:([]:List Tile).length=0:=rfl;refine Az.os ((G,Dh [] []),⟨#[104,111,108,101]⟩,⟨#[118,120]⟩,⟨#[99,120]⟩,⟨#[118,120]⟩,⟨#[99,120]⟩) [1,66,3] (by simp only;omega) (λj=>Eu _ _ j) rfl rfl ?_ ?_
 .simp(disch:=omega)only[ZZ,simprocAttr,Ab,C6,stC.ca,stC.H0,Cf,Bb,Br,Bx,F6,Bg]
  try exact⟨rfl,rfl⟩
 obtain⟨T1,hT1⟩: ∃A,A=[]++[AL (Bu G) ⟨#[104,111,108,101]⟩ ⟨#[118,120]⟩ ⟨#[99,120]⟩ ⟨#[118,120]⟩ ⟨#[99,120]⟩]:=⟨_,rfl⟩;have bc:T1.length<=0+1:=by rw[hT1,Bz];simp only[CR,DQ];omega
 have Z:=Xk [] [] (AL (Bu G) ⟨#[104,111,108,101]⟩ ⟨#[118,120]⟩ ⟨#[99,120]⟩ ⟨#[118,120]⟩ ⟨#[99,120]⟩);rw[<-hT1] at Z;simp(disch:=omega)only[ZZ,simprocAttr,Ab,C6,stC.H1,VN,BC,sub,Br,Bx,Z];clear aa Z;refine AZ.ren ⟨{k:Nat//k<=b},λk=>⟨[(11,.im (.int .i64 k.1)),(9,.im (.int .i64 l.length)),(0,.im (.int .i64 b)),(1,.im (.sl false 1 (l.map Af))),(4,.ptr 0 0),(5,.ptr 1 0)],[(0,(true,.cells 39 [.im (.sl true 0 []),.im (.sl true 0 []),.im (.sl true 0 []),.im (.int .i64 0)])),(1,(true,.cells 91 [.own 66,.own 87])),(66,(true,.arr 66 2 (G.map Ak.c))),(87,(true,.arr 64 2 ((Dh [] (T1++(List.range k.1).map (λ(k:Nat)=>AL (Bu G) (Ac ⟨#[116,97,107,101]⟩ (k:Nat)) ⟨#[118,120]⟩ (Ac ⟨#[99]⟩ (k:Nat)) (Ac ⟨#[118]⟩ (k:Nat)) ⟨#[99,120]⟩))).map Tile.c)))],88⟩,λk=>b - k.1,λk=>⟨by simp[ZG],by simp⟩,⟨⟨0,BV _⟩,[(87,some 67)],?_⟩,λk=> ?_⟩
 .simp only[Am];simp(disch:=omega)only[ZZ,simprocAttr,Ab,C6,AN,AM,G0,Ho,Bg,IE,Ck,IT,F6]
 obtain⟨k,hk⟩:=k;have ik:=Dr (n:=(k:Int)) (by omega) (by omega);have af:=Dr (n:=(k:Int)+1) (by omega) (by omega);have aa:=K7 [] (T1++(List.range k).map (λ(k:Nat)=>AL (Bu G) (Ac ⟨#[116,97,107,101]⟩ (k:Nat)) ⟨#[118,120]⟩ (Ac ⟨#[99]⟩ (k:Nat)) (Ac ⟨#[118]⟩ (k:Nat)) ⟨#[99,120]⟩));rw[Bz,Du,FE,DQ] at aa;have z0:(⟨#[116,97,107,101]⟩:ByteArray).size=4:=rfl;have z1:(⟨#[99]⟩:ByteArray).size=1:=rfl;have z2:(⟨#[118]⟩:ByteArray).size=1:=rfl;have hw:IntKind.i64.wrap ((k:Int)+1)=(k:Int)+1:=AH (by omega) (by omega);simp(disch:=omega)only[ZZ,simprocAttr,Ab,C6,sub,AS,hw,Jv];refine⟨λO=>⟨by omega,by omega,by omega,by omega,by omega,by omega,?_⟩,λO=> ?_⟩
 .simp only[G2];refine Az.os ((G,Dh [] (T1++(List.range k).map (λ(k:Nat)=>AL (Bu G) (Ac ⟨#[116,97,107,101]⟩ (k:Nat)) ⟨#[118,120]⟩ (Ac ⟨#[99]⟩ (k:Nat)) (Ac ⟨#[118]⟩ (k:Nat)) ⟨#[99,120]⟩))),(Ac ⟨#[116,97,107,101]⟩ (k:Nat)),⟨#[118,120]⟩,(Ac ⟨#[99]⟩ (k:Nat)),(Ac ⟨#[118]⟩ (k:Nat)),⟨#[99,120]⟩) [1,66,87] (by simp only;omega) (λj=>Eu _ _ j) rfl rfl ?_ ?_
  .simp(disch:=omega)only[ZZ,simprocAttr,Ab,C6,stC.ca,stC.H0,Cf,Bb,Br,Bx,F6,Bg]
   try exact⟨rfl,rfl⟩
  have Z:=Xl [] T1 (λ(k:Nat)=>AL (Bu G) (Ac ⟨#[116,97,107,101]⟩ (k:Nat)) ⟨#[118,120]⟩ (Ac ⟨#[99]⟩ (k:Nat)) (Ac ⟨#[118]⟩ (k:Nat)) ⟨#[99,120]⟩) k;have ac:IntKind.i64.wrap ((k:Int)+1)=((k+1:Nat):Int):=by rw[hw];omega
  simp(disch:=omega)only[ZZ,simprocAttr,Ab,C6,stC.H1,VN,BC,sub,Br,Bx,Z,ac];refine⟨⟨k+1,by omega⟩,[(87,some 88)],by simp only;omega,?_⟩;simp only[Am];simp(disch:=omega)only[ZZ,simprocAttr,Ab,C6,AN,AM]
 obtain⟨T2,hT2⟩: ∃A,A=T1++(List.range b).map (λ(k:Nat)=>AL (Bu G) (Ac ⟨#[116,97,107,101]⟩ (k:Nat)) ⟨#[118,120]⟩ (Ac ⟨#[99]⟩ (k:Nat)) (Ac ⟨#[118]⟩ (k:Nat)) ⟨#[99,120]⟩):=⟨_,rfl⟩;have bd:T2.length<=0+1+b:=by rw[hT2,Bz,Du,FE];omega
 have Q:k=b:=by omega
 simp only[Q,<-hT2];clear aa ik af hw hk O Q z0 z1 z2 k;refine AZ.ren ⟨{k:Nat//k<=b},λk=>⟨[(12,.im (.int .i64 k.1)),(9,.im (.int .i64 l.length)),(0,.im (.int .i64 b)),(1,.im (.sl false 1 (l.map Af))),(4,.ptr 0 0),(5,.ptr 1 0)],[(0,(true,.cells 39 [.im (.sl true 0 []),.im (.sl true 0 []),.im (.sl true 0 []),.im (.int .i64 0)])),(1,(true,.cells 91 [.own 66,.own 88])),(66,(true,.arr 66 2 (G.map Ak.c))),(88,(true,.arr 64 2 ((Dh [] (T2++(List.range k.1).flatMap (λ(k:Nat)=>(List.range b).map λ(q:Nat)=>AL (Bu G) (Cz ⟨#[107]⟩ (k:Nat) (q:Nat)) (Ac ⟨#[118]⟩ (Bt (k:Nat) (q:Nat))) (Ac ⟨#[99]⟩ (Bo (k:Nat) (q:Nat))) (Ac ⟨#[118]⟩ (q:Nat)) (Ac ⟨#[99]⟩ (k:Nat))))).map Tile.c)))],89⟩,λk=>b - k.1,λk=>⟨by simp[ZG],by simp⟩,⟨⟨0,BV _⟩,[(88,some 87)],?_⟩,λk=> ?_⟩
 .simp only[Am];simp(disch:=omega)only[ZZ,simprocAttr,Ab,C6,AN,AM,G0,Ho,Bg,IE,Ck,IT,F6]
 obtain⟨k,hk⟩:=k;obtain⟨U,hU⟩: ∃U,U=T2++(List.range k).flatMap (λ(k:Nat)=>(List.range b).map λ(q:Nat)=>AL (Bu G) (Cz ⟨#[107]⟩ (k:Nat) (q:Nat)) (Ac ⟨#[118]⟩ (Bt (k:Nat) (q:Nat))) (Ac ⟨#[99]⟩ (Bo (k:Nat) (q:Nat))) (Ac ⟨#[118]⟩ (q:Nat)) (Ac ⟨#[99]⟩ (k:Nat))):=⟨_,rfl⟩;have au:U.length<=0+1+b+k*b:=by rw[hU,Bz,Rs _ _ b (λ_=>by simp)];omega
 have aj:k*b<=6*6:=xA (by omega) (by omega);simp(disch:=omega)only[ZZ,simprocAttr,Ab,C6,sub,AS,<-hU];refine⟨λO=> ?_,λO=> ?_⟩
 .refine AZ.ren ⟨{q:Nat//q<=b},λq=>⟨[(13,.im (.int .i64 q.1)),(12,.im (.int .i64 k)),(9,.im (.int .i64 l.length)),(0,.im (.int .i64 b)),(1,.im (.sl false 1 (l.map Af))),(4,.ptr 0 0),(5,.ptr 1 0)],[(0,(true,.cells 39 [.im (.sl true 0 []),.im (.sl true 0 []),.im (.sl true 0 []),.im (.int .i64 0)])),(1,(true,.cells 91 [.own 66,.own 89])),(66,(true,.arr 66 2 (G.map Ak.c))),(89,(true,.arr 64 2 ((Dh [] (U++(List.range q.1).map (λ(q:Nat)=>AL (Bu G) (Cz ⟨#[107]⟩ (k:Nat) (q:Nat)) (Ac ⟨#[118]⟩ (Bt (k:Nat) (q:Nat))) (Ac ⟨#[99]⟩ (Bo (k:Nat) (q:Nat))) (Ac ⟨#[118]⟩ (q:Nat)) (Ac ⟨#[99]⟩ (k:Nat))))).map Tile.c)))],90⟩,λq=>b - q.1,λq=>⟨by simp[ZG],by simp⟩,⟨⟨0,BV _⟩,[(89,some 88)],?_⟩,λq=> ?_⟩
  .simp only[Am];simp(disch:=omega)only[ZZ,simprocAttr,Ab,C6,AN,AM,Ho,Bg,Ck]
  obtain⟨q,hq⟩:=q;have ik:=Dr (n:=(k:Int)) (by omega) (by omega);have iq:=Dr (n:=(q:Int)) (by omega) (by omega);have av:0<=Bt (k:Int) (q:Int)/\Bt (k:Int) (q:Int)<=100:=by simp only[Bt];split<;>omega
  have aw:0<=Bo (k:Int) (q:Int)/\Bo (k:Int) (q:Int)<=100:=by simp only[Bo];split<;>omega
  have im:=Dr (n:=Bt (k:Int) (q:Int)) (by omega) (by omega);have ix:=Dr (n:=Bo (k:Int) (q:Int)) (by omega) (by omega);have aa:=K7 [] (U++(List.range q).map (λ(q:Nat)=>AL (Bu G) (Cz ⟨#[107]⟩ (k:Nat) (q:Nat)) (Ac ⟨#[118]⟩ (Bt (k:Nat) (q:Nat))) (Ac ⟨#[99]⟩ (Bo (k:Nat) (q:Nat))) (Ac ⟨#[118]⟩ (q:Nat)) (Ac ⟨#[99]⟩ (k:Nat))));rw[Bz,Du,FE,DQ] at aa;have z0:(⟨#[107]⟩:ByteArray).size=1:=rfl;have z1:(⟨#[118]⟩:ByteArray).size=1:=rfl;have z2:(⟨#[99]⟩:ByteArray).size=1:=rfl;have z3:(⟨#[95]⟩:ByteArray).size=1:=rfl;have hw:IntKind.i64.wrap ((q:Int)+1)=((q+1:Nat):Int):=by rw[AH (by omega) (by omega)];omega
  simp(disch:=omega)only[ZZ,simprocAttr,Ab,C6,sub,AS];refine⟨λax=> ?_,λax=> ?_⟩
  .refine⟨by omega,by omega,by rw[nP];omega,by omega,by rw[nP,nP];omega,⟨av.1,by omega⟩,by omega,⟨aw.1,by omega⟩,by omega,by omega,by omega,by omega,by omega,?_⟩;simp only[G2,P6];refine Az.os ((G,Dh [] (U++(List.range q).map (λ(q:Nat)=>AL (Bu G) (Cz ⟨#[107]⟩ (k:Nat) (q:Nat)) (Ac ⟨#[118]⟩ (Bt (k:Nat) (q:Nat))) (Ac ⟨#[99]⟩ (Bo (k:Nat) (q:Nat))) (Ac ⟨#[118]⟩ (q:Nat)) (Ac ⟨#[99]⟩ (k:Nat))))),(Cz ⟨#[107]⟩ (k:Nat) (q:Nat)),(Ac ⟨#[118]⟩ (Bt (k:Nat) (q:Nat))),(Ac ⟨#[99]⟩ (Bo (k:Nat) (q:Nat))),(Ac ⟨#[118]⟩ (q:Nat)),(Ac ⟨#[99]⟩ (k:Nat))) [1,66,89] (by simp only;omega) (λj=>Eu _ _ j) rfl rfl ?_ ?_
   .simp(disch:=omega)only[ZZ,simprocAttr,Ab,C6,stC.ca,stC.H0,Cf,Bb,Br,Bx,F6,Bg]
    try exact⟨rfl,rfl⟩
   have Z:=Xl [] U (λ(q:Nat)=>AL (Bu G) (Cz ⟨#[107]⟩ (k:Nat) (q:Nat)) (Ac ⟨#[118]⟩ (Bt (k:Nat) (q:Nat))) (Ac ⟨#[99]⟩ (Bo (k:Nat) (q:Nat))) (Ac ⟨#[118]⟩ (q:Nat)) (Ac ⟨#[99]⟩ (k:Nat))) q;simp(disch:=omega)only[ZZ,simprocAttr,Ab,C6,stC.H1,VN,BC,sub,Br,Bx,Z,hw];refine⟨⟨q+1,by omega⟩,[(89,some 90)],by simp only;omega,?_⟩;simp only[Am];simp(disch:=omega)only[ZZ,simprocAttr,Ab,C6,AN,AM]
  .have ay:q=b:=by omega
   have Z:U++(List.range b).map (λ(q:Nat)=>AL (Bu G) (Cz ⟨#[107]⟩ (k:Nat) (q:Nat)) (Ac ⟨#[118]⟩ (Bt (k:Nat) (q:Nat))) (Ac ⟨#[99]⟩ (Bo (k:Nat) (q:Nat))) (Ac ⟨#[118]⟩ (q:Nat)) (Ac ⟨#[99]⟩ (k:Nat)))=T2++(List.range (k+1)).flatMap (λ(k:Nat)=>(List.range b).map λ(q:Nat)=>AL (Bu G) (Cz ⟨#[107]⟩ (k:Nat) (q:Nat)) (Ac ⟨#[118]⟩ (Bt (k:Nat) (q:Nat))) (Ac ⟨#[99]⟩ (Bo (k:Nat) (q:Nat))) (Ac ⟨#[118]⟩ (q:Nat)) (Ac ⟨#[99]⟩ (k:Nat))):=by rw[hU,eX,Ej]
   have ac:IntKind.i64.wrap ((k:Int)+1)=((k+1:Nat):Int):=by rw[AH (by omega) (by omega)];omega
   simp only[ay,Z,ac];refine⟨⟨k+1,by omega⟩,[(88,some 89)],by simp only;omega,?_⟩;simp only[Am];simp(disch:=omega)only[ZZ,simprocAttr,Ab,C6,AN,AM]
 obtain⟨T3,hT3⟩: ∃A,A=T2++(List.range b).flatMap (λ(k:Nat)=>(List.range b).map λ(q:Nat)=>AL (Bu G) (Cz ⟨#[107]⟩ (k:Nat) (q:Nat)) (Ac ⟨#[118]⟩ (Bt (k:Nat) (q:Nat))) (Ac ⟨#[99]⟩ (Bo (k:Nat) (q:Nat))) (Ac ⟨#[118]⟩ (q:Nat)) (Ac ⟨#[99]⟩ (k:Nat))):=⟨_,rfl⟩;have be:T3.length<=0+1+b+6*6:=by
  rw[hT3,Bz,Rs _ _ b (λ_=>by simp)]
  have:b*b<=6*6:=xA (by omega) (by omega)
  omega
 have Q:k=b:=by omega
 simp only[hU,Q,<-hT3];clear au aj hk O Q hU U k;refine AZ.ren ⟨{k:Nat//k<=b},λk=>⟨[(14,.im (.int .i64 k.1)),(9,.im (.int .i64 l.length)),(0,.im (.int .i64 b)),(1,.im (.sl false 1 (l.map Af))),(4,.ptr 0 0),(5,.ptr 1 0)],[(0,(true,.cells 39 [.im (.sl true 0 []),.im (.sl true 0 []),.im (.sl true 0 []),.im (.int .i64 0)])),(1,(true,.cells 91 [.own 66,.own 89])),(66,(true,.arr 66 2 (G.map Ak.c))),(89,(true,.arr 64 2 ((Dh [] (T3++(List.range k.1).map (λ(k:Nat)=>AL (Bu G) (Ac ⟨#[103,105,118,101]⟩ (k:Nat)) ⟨#[115,105,100,101]⟩ (Ac ⟨#[109,97,120]⟩ (k:Nat)) ⟨#[115,105,100,101]⟩ (Ac ⟨#[99]⟩ (k:Nat))))).map Tile.c)))],90⟩,λk=>b - k.1,λk=>⟨by simp[ZG],by simp⟩,⟨⟨0,BV _⟩,[(89,some 88)],?_⟩,λk=> ?_⟩
 .simp only[Am];simp(disch:=omega)only[ZZ,simprocAttr,Ab,C6,AN,AM,G0,Ho,Bg,IE,Ck,IT,F6]
 obtain⟨k,hk⟩:=k;have ik:=Dr (n:=(k:Int)) (by omega) (by omega);have af:=Dr (n:=(k:Int)+1) (by omega) (by omega);have aa:=K7 [] (T3++(List.range k).map (λ(k:Nat)=>AL (Bu G) (Ac ⟨#[103,105,118,101]⟩ (k:Nat)) ⟨#[115,105,100,101]⟩ (Ac ⟨#[109,97,120]⟩ (k:Nat)) ⟨#[115,105,100,101]⟩ (Ac ⟨#[99]⟩ (k:Nat))));rw[Bz,Du,FE,DQ] at aa;have z0:(⟨#[103,105,118,101]⟩:ByteArray).size=4:=rfl;have z1:(⟨#[109,97,120]⟩:ByteArray).size=3:=rfl;have z2:(⟨#[99]⟩:ByteArray).size=1:=rfl;have hw:IntKind.i64.wrap ((k:Int)+1)=(k:Int)+1:=AH (by omega) (by omega);simp(disch:=omega)only[ZZ,simprocAttr,Ab,C6,sub,AS,hw,Jv];refine⟨λO=>⟨by omega,by omega,by omega,by omega,by omega,by omega,?_⟩,λO=> ?_⟩
 .simp only[G2];refine Az.os ((G,Dh [] (T3++(List.range k).map (λ(k:Nat)=>AL (Bu G) (Ac ⟨#[103,105,118,101]⟩ (k:Nat)) ⟨#[115,105,100,101]⟩ (Ac ⟨#[109,97,120]⟩ (k:Nat)) ⟨#[115,105,100,101]⟩ (Ac ⟨#[99]⟩ (k:Nat))))),(Ac ⟨#[103,105,118,101]⟩ (k:Nat)),⟨#[115,105,100,101]⟩,(Ac ⟨#[109,97,120]⟩ (k:Nat)),⟨#[115,105,100,101]⟩,(Ac ⟨#[99]⟩ (k:Nat))) [1,66,89] (by simp only;omega) (λj=>Eu _ _ j) rfl rfl ?_ ?_
  .simp(disch:=omega)only[ZZ,simprocAttr,Ab,C6,stC.ca,stC.H0,Cf,Bb,Br,Bx,F6,Bg]
   try exact⟨rfl,rfl⟩
  have Z:=Xl [] T3 (λ(k:Nat)=>AL (Bu G) (Ac ⟨#[103,105,118,101]⟩ (k:Nat)) ⟨#[115,105,100,101]⟩ (Ac ⟨#[109,97,120]⟩ (k:Nat)) ⟨#[115,105,100,101]⟩ (Ac ⟨#[99]⟩ (k:Nat))) k;have ac:IntKind.i64.wrap ((k:Int)+1)=((k+1:Nat):Int):=by rw[hw];omega
  simp(disch:=omega)only[ZZ,simprocAttr,Ab,C6,stC.H1,VN,BC,sub,Br,Bx,Z,ac];refine⟨⟨k+1,by omega⟩,[(89,some 90)],by simp only;omega,?_⟩;simp only[Am];simp(disch:=omega)only[ZZ,simprocAttr,Ab,C6,AN,AM]
 obtain⟨T4,hT4⟩: ∃A,A=T3++(List.range b).map (λ(k:Nat)=>AL (Bu G) (Ac ⟨#[103,105,118,101]⟩ (k:Nat)) ⟨#[115,105,100,101]⟩ (Ac ⟨#[109,97,120]⟩ (k:Nat)) ⟨#[115,105,100,101]⟩ (Ac ⟨#[99]⟩ (k:Nat))):=⟨_,rfl⟩;have bf:T4.length<=0+1+b+6*6+b:=by rw[hT4,Bz,Du,FE];omega
 have Q:k=b:=by omega
 simp only[Q,<-hT4];clear aa ik af hw hk O Q z0 z1 z2 k;refine AZ.ren ⟨{k:Nat//k<=l.length},λk=>⟨[(15,.im (.int .i64 k.1)),(9,.im (.int .i64 l.length)),(0,.im (.int .i64 b)),(1,.im (.sl false 1 (l.map Af))),(4,.ptr 0 0),(5,.ptr 1 0)],[(0,(true,.cells 39 [.im (.sl true 0 []),.im (.sl true 0 []),.im (.sl true 0 []),.im (.int .i64 0)])),(1,(true,.cells 91 [.own 66,.own 90])),(66,(true,.arr 66 2 (G.map Ak.c))),(90,(true,.arr 64 2 ((Dh [] (T4++(List.range k.1).map (λ(k:Nat)=>AL (Bu G) (Ac ⟨#[114,111,119]⟩ (k:Nat)) (Ac ⟨#[114]⟩ ((k:Nat)+1:Int)) ⟨#[99,120]⟩ (Ac ⟨#[114]⟩ (k:Nat)) ByteArray.empty))).map Tile.c)))],91⟩,λk=>l.length - k.1,λk=>⟨by simp[ZG],by simp⟩,⟨⟨0,BV _⟩,[(90,some 89)],?_⟩,λk=> ?_⟩
 .simp only[Am];simp(disch:=omega)only[ZZ,simprocAttr,Ab,C6,AN,AM,G0,Ho,Bg,IE,Ck,IT,F6]
 obtain⟨k,hk⟩:=k;have ik:=Dr (n:=(k:Int)) (by omega) (by omega);have af:=Dr (n:=(k:Int)+1) (by omega) (by omega);have aa:=K7 [] (T4++(List.range k).map (λ(k:Nat)=>AL (Bu G) (Ac ⟨#[114,111,119]⟩ (k:Nat)) (Ac ⟨#[114]⟩ ((k:Nat)+1:Int)) ⟨#[99,120]⟩ (Ac ⟨#[114]⟩ (k:Nat)) ByteArray.empty));rw[Bz,Du,FE,DQ] at aa;have z0:(⟨#[114,111,119]⟩:ByteArray).size=3:=rfl;have z1:(⟨#[114]⟩:ByteArray).size=1:=rfl;have hw:IntKind.i64.wrap ((k:Int)+1)=(k:Int)+1:=AH (by omega) (by omega);simp(disch:=omega)only[ZZ,simprocAttr,Ab,C6,sub,AS,hw,Jv];refine⟨λO=>⟨by omega,by omega,⟨by omega,by omega⟩,by omega,by omega,by omega,?_⟩,λO=> ?_⟩
 .simp only[G2];refine Az.os ((G,Dh [] (T4++(List.range k).map (λ(k:Nat)=>AL (Bu G) (Ac ⟨#[114,111,119]⟩ (k:Nat)) (Ac ⟨#[114]⟩ ((k:Nat)+1:Int)) ⟨#[99,120]⟩ (Ac ⟨#[114]⟩ (k:Nat)) ByteArray.empty))),(Ac ⟨#[114,111,119]⟩ (k:Nat)),(Ac ⟨#[114]⟩ ((k:Nat)+1:Int)),⟨#[99,120]⟩,(Ac ⟨#[114]⟩ (k:Nat)),ByteArray.empty) [1,66,90] (by simp only;omega) (λj=>Eu _ _ j) rfl rfl ?_ ?_
  .simp(disch:=omega)only[ZZ,simprocAttr,Ab,C6,stC.ca,stC.H0,Cf,Bb,Br,Bx,F6,Bg]
   try exact⟨rfl,rfl⟩
  have Z:=Xl [] T4 (λ(k:Nat)=>AL (Bu G) (Ac ⟨#[114,111,119]⟩ (k:Nat)) (Ac ⟨#[114]⟩ ((k:Nat)+1:Int)) ⟨#[99,120]⟩ (Ac ⟨#[114]⟩ (k:Nat)) ByteArray.empty) k;have ac:IntKind.i64.wrap ((k:Int)+1)=((k+1:Nat):Int):=by rw[hw];omega
  simp(disch:=omega)only[ZZ,simprocAttr,Ab,C6,stC.H1,VN,BC,sub,Br,Bx,Z,ac];refine⟨⟨k+1,by omega⟩,[(90,some 91)],by simp only;omega,?_⟩;simp only[Am];simp(disch:=omega)only[ZZ,simprocAttr,Ab,C6,AN,AM]
 obtain⟨T5,hT5⟩: ∃A,A=T4++(List.range l.length).map (λ(k:Nat)=>AL (Bu G) (Ac ⟨#[114,111,119]⟩ (k:Nat)) (Ac ⟨#[114]⟩ ((k:Nat)+1:Int)) ⟨#[99,120]⟩ (Ac ⟨#[114]⟩ (k:Nat)) ByteArray.empty):=⟨_,rfl⟩;have bg:T5.length<=0+1+b+6*6+b+l.length:=by rw[hT5,Bz,Du,FE];omega
 have Q:k=l.length:=by omega
 simp only[Q,<-hT5];clear aa ik af hw hk O Q z0 z1 k;have aq:T5=ET (Bu (Ef [] A7)) WC ByteArray.empty b l.length:=by
  subst hT5 hT4 hT3 hT2 hT1 hG;rfl
 have ao:A7=CO b l.length:=by
  subst hA7 hA6 hA5 hA4 hA3 hA2 hA1;rfl
 have ad:=ZD b l _ _ ao aq;have z:=HR [] A7;have aa:=K7 [] T5;rw[DQ] at z aa;rw[<-hG] at ad z;rw[UO];obtain⟨s,Z⟩: ∃s:Sd,s=((G,Dh [] T5),l,Ac ⟨#[114]⟩ 0,⟨#[115,105,100,101]⟩):=⟨_,rfl⟩;rw[<-Z] at ad;have am:s.1=(G,Dh [] T5):=by rw[Z]
 have an:s.2.1=l:=by rw[Z]
 have az:s.2.2=(Ac ⟨#[114]⟩ 0,⟨#[115,105,100,101]⟩):=by rw[Z]
 refine Az.os s [1,66,90] (by rw[Z];exact⟨by simp only;omega,by simp only;omega,by simp only;omega,λx hx=>⟨(p4 x hx).1,(p4 x hx).2⟩⟩) (λj=>Eu _ _ j) rfl rfl ?_ ?_
 .simp(disch:=omega)only[ZZ,simprocAttr,Ab,C6,ssC.ca,ssC.H0,Cf,am,an,az,Bb,Br,Bx]
  try exact⟨rfl,rfl⟩
 simp(disch:=omega)only[ZZ,simprocAttr,Ab,C6,ssC.H1,Ds,sub,Br,Bx,am];have bj:=N9 (Dh [] T5) (PP s);have bi:(PP s).length=l.length+2:=by rw[PP,an,Xi,Bz,Rt];rfl
 refine Az.os (((kQ s,Dh (Dh [] T5) (PP s)),-1,I1 (Dh [] T5) (PP s)):Sy) [1,91,92,93] ⟨by simp only;omega,by simp only;omega,by simp only;omega⟩ (λj=>ZL _ j) rfl rfl ?_ ?_
 .simp(disch:=omega)only[ZZ,simprocAttr,Ab,C6,syC.ca,syC.H0,Cf,Ci,Dv,Bb,Br,Bx]
  try exact⟨rfl,rfl⟩
 simp(disch:=omega)only[ZZ,simprocAttr,Ab,C6,syC.H1,syC.r0,sub,Br,Bx];exact ad
end Go.Ae
namespace Go.Ae
open Go.Proofs
abbrev InS:=Ao×List Be×Bool
structure InOk(s:AF)(ts:List Aq)(q:InS):Prop where
 rm: ∃t k,RM t q.1 k
 asm:HG s.Set q.1
 mem: ∀o∈q.2.1,o.At∈ts.map Aq.At
 nd:(q.2.1.map Be.At).Nodup
 pos: ∀o∈q.2.1,0<=BM q.1 o.At
 len:q.1.Tiles.length=s.Seed.Tiles.length+q.2.1.length
abbrev InI:=Cw×List Be×Bool
structure InC(s:AF)(i:InI)(q:InS):Prop where
 sys:i.1.Sys=s
 rm: ∃k,RM i.1.Tl q.1 k
 eq:i.2=q.2
def insX.pre(a:AF×Ao):Prop:=R2 a.1.Set/\Ga a.1=true/\a.2.Tiles.length<=500/\ ∀x∈a.2.Tiles,GO a.1.Set x.Tile
def EN(s:AF)(a:Ao):Int:=if (Ga s && HA s.Set a)=true then 0 else 1
def growC_.fv(a:AF×Ao):Int:=(EN) (a.1) (a.2)
def growC_.row:AG:=vK (b2 (qR AF.d_le) (qR Ao.d_le)) rI (λa=>R2 a.1.Set) growC_.fv
def growC_.q:=B3 (R:=growC_.row) rfl
def growC_.ok:AJ 44 growC_.row:=by
 refine vw (tC validI_.ok (tC ValidAssembly_.ok tN)) Tryz.func44 ?_;intro a z;simp only[Tryz.f44,Option.getD];simp(disch:=omega)only[ZZ,simprocAttr,Ab,growC_.fv,validI_.q,validI_.fv,ValidAssembly_.q,ValidAssembly_.fv];obtain⟨s,a⟩:=a;simp only at z⊢;refine⟨z,?_⟩;rw[pV];by_cases c:Ga s=true
 .rw[Al c];refine⟨z,?_⟩;have O:=(IS c).2.1;by_cases G:HA s.Set a=true
  .rw[Ag (by rw[O,G];decide)];simp only[EN,c,G];rfl
  .rw[QN] at G;rw[Al (by rw[O,G];rfl)];simp only[EN,c,G];rfl
 .rw[Ag c];rw[QN] at c;simp only[EN,c];rfl
def ask08.fv(a:AF×Ao):Int:=(EN) (a.1) (a.2)
def ask08.row:AG:=vK (b2 (qP 4 AF.d_le) (qP 1 Ao.d_le)) rI (λa=>True) ask08.fv
def ask08.q:=B3 (R:=ask08.row) rfl
def ask08.ok:AJ 28 ask08.row:=by
 refine vw (tC l08Ok.ok (tC l03Ok.ok tN)) Tryz.func28 ?_;intro a G;simp only[Tryz.f28,Option.getD];simp(disch:=omega)only[ZZ,simprocAttr,Ab,ask08.fv,l08Ok.q,l08Ok.fv,l03Ok.q,l03Ok.fv];obtain⟨s,a⟩:=a;simp only;have e:((Ed none a.Tiles && decide (a.Tiles.length<=500)) && a.Tiles.all λx=>Bj x.Tile 0 (s.Set.Tiles.length - 1))=HA s.Set a:=rfl;rw[e];by_cases c:Ga s=true
 .rw[Al c];by_cases z:HA s.Set a=true
  .rw[Ag (by rw[z];decide)];simp only[EN,c,z];rfl
  .rw[QN] at z;rw[Al z];simp only[EN,c,z];rfl
 .rw[Ag c];rw[QN] at c;simp only[EN,c];rfl
def schS_.fv(a:(List Int)):Bool:=(EJ) a
def schS_.row:AG:=vK (b1 (qS Dj Ct)) rB (λa=>True) schS_.fv
def schS_.q:=B3 (R:=schS_.row) rfl
def schS_.ok:AJ 26 schS_.row:=by
 refine vw (tC l00In.ok tN) Tryz.func26 ?_;intro a O;simp only[Tryz.f26,Option.getD];simp only[ZZ,simprocAttr,Ab,schS_.fv,l00In.q,l00In.fv];intro _;by_cases c:a.length<=200
 case neg=>
  rw[Al (by omega)];simp only[EJ,Jj c,FT]
 rw[Ag (by omega)];have Z:EJ a= !a.any EO:=by simp only[EJ,W0 c,ED]
 rw[Z];refine AZ.old ⟨{k:Nat//k<=a.length/\(a.drop k).any EO=a.any EO},λk=>⟨[(3,.im (.int .i64 k.1)),(2,.im (.bool false)),(0,.im (.sl false 1 (a.map Af)))],[],0⟩,λk=>a.length - k.1,λk=>⟨by simp[ZG],by simp⟩,⟨⟨0,by simp⟩,by simp only[ZZ,simprocAttr,Ab,schS_.fv,l00In.q,l00In.fv,sub]⟩,λk=> ?_⟩;obtain⟨k,Q,z⟩:=k;simp only[ZZ,simprocAttr,Ab,schS_.fv,l00In.q,l00In.fv,sub,AS];intro _;refine⟨λG=>⟨G,λx hx=> ?_⟩,λG=> ?_⟩
 .rw[GQ hx,List.any_cons] at z;refine⟨λh=> ?_,λh=>⟨⟨k+1,by omega,?_⟩,by simp only;omega,by rw[AH (by omega) (by omega)];simp only;omega⟩⟩
  .have:EO x=true:=by simp only[EO,h];rfl
   rw[this,wY] at z;rw[<-z];rfl
  .have:EO x=false:=by simp only[EO];simpa using h
   rw[this,ZeS] at z;exact z
 .rw[Ee (by omega)] at z;rw[<-z];rfl
def grwS_.fv(a:AF×Ao×(List Int)×Int):(List Be)×Ao×Bool×Int:=(λs b l n=>E4 s l n.toNat b []) (a.1) (a.2.1) (a.2.2.1) (a.2.2.2)
def grwS_.row:AG:=vK (b4 (qP 4 AF.d_le) (qP 1 Ao.d_le) (qS Dj Ct) qI) (r4 (rS Be.d_le Be.c_n) (rA Ao.d_le) rB rI) (λa=>C5 a.1.Set/\HG a.1.Set a.2.1/\a.2.1.Tiles.length<=500/\a.1.Set.Tiles.length<=160/\EJ a.2.2.1=true/\0<=a.2.2.2/\a.2.2.2<=500) grwS_.fv
def grwS_.q:=B3 (R:=grwS_.row) rfl
def wC:=J @grwS_.fv.eq_1<|J @l03Own.q<|J @l03Own.fv.eq_1<|J @opsS_.q<|J @opsS_.fv.eq_1<|J @l08Attach.q @l08Attach.fv.eq_1
def grwS_.ok:AJ 27 grwS_.row:=by
 refine vw (tC l03Own.ok (tC opsS_.ok (tC l08Attach.ok tN))) Tryz.func27 ?_;intro a ac;simp only[Tryz.f27,Option.getD];simp only[ZZ,simprocAttr,Ab,wC];obtain⟨s,b,l,n⟩:=a;obtain⟨h1,h2,h3,h4,h5,h6,h7⟩:=ac;simp only at h1 h2 h3 h4 h5 h6 h7⊢;refine⟨by omega,?_⟩;refine AZ.ren ⟨{q:Ao×List Be//q.2.length<=n.toNat/\HG s.Set q.1/\q.1.Tiles.length<=500/\E4 s l (n.toNat - q.2.length) q.1 q.2=E4 s l n.toNat b []},λq=>⟨[(13,.own 6),(12,.ptr 4 0),(11,.im (.int .i64 0)),(10,.im (.bool false)),(9,.ptr 3 0),(8,.own 2),(0,.ptr 0 0),(2,.im (.sl false 1 (l.map Af))),(3,.im (.int .i64 n))],[(6,(true,.arr 107 3 (q.1.2.map Be.c))),(4,(true,.cells 25 [.im (.sl false 3 (q.1.1.Tiles.map Aq.c))])),(3,(true,.cells 25 [.im (.sl true 0 [])])),(2,(true,.arr 107 3 [])),(0,(false,.view (AF.c s))),(1,(false,.view (Ao.c b)))],7⟩,λq=>n.toNat - q.1.2.length,λq=>⟨by simp[ZG],by simp⟩,⟨⟨(b,[]),by simp only;exact⟨BV _,h2,h3,by rw[DQ,bZ]⟩⟩,[(6,some 5)],?_⟩,λq=> ?_⟩
 .simp only[Am];simp only[ZZ,simprocAttr,Ab,wC,AN,AM,Bg]
  try simp
 obtain⟨⟨b1,d⟩,e1,e2,e3,e4⟩:=q;simp only at e1 e2 e3 e4;simp only[ZZ,simprocAttr,Ab,wC,sub,AS];have ag:=rC s e3 h4;have hX: ∀m,n.toNat - d.length=m+1-> ∀o,Hx s l b1 d.length=some o->E4 s l n.toNat b []=if 500<=b1.Tiles.length then ([],⟨[]⟩,false,4) else E4 s l m (Dg b1 o.At o.Tile) (d++[o]):=by
  intro m hm o z;rw[<-e4,hm,E4,z]
 refine⟨⟨h1,e2,e3,by omega⟩,λ_=>⟨λc1=> ?_,λc1 _=>⟨λc2=> ?_,λc2 _=> ?_⟩⟩⟩
 .have ab:=Xg (s:=s) (l:=l) (b:=b1) (k:=d.length)|>.2 (RN.1 (by omega))
  rw[<-e4];cases hm:n.toNat - d.length with
  |zero=>rw[E4,ab];rfl
  |succ m=>rw[E4,ab]
 .have af:(Hx s l b1 d.length).isNone=false:=by
   cases hq:Hx s l b1 d.length with
   |none=>exact absurd (by rw[Xg.1 hq];rfl) c1
   |some o=>rfl
  rw[<-e4,show n.toNat - d.length=0 by omega,E4,af]
 have hn:(0:Int)<(DR s b1).length:=by omega
 obtain⟨m,hm⟩: ∃m,n.toNat - d.length=m+1:=⟨n.toNat - d.length - 1,by omega⟩;have O: ∀o,Hx s l b1 d.length=some o-> ¬(Ij b1 o).2=0->([],(⟨[]⟩:Ao),false,(Ij b1 o).2)=E4 s l n.toNat b []:=λo z h=>by
  rw[hX m hm o z];simp only[Ij] at h⊢;split at h
  .rename_i c;rw[Al c,Al c]
  .simp at h
 have Q: ∀o,Hx s l b1 d.length=some o->(Ij b1 o).2=0->b1.Tiles.length<500/\(Ij b1 o).1=Dg b1 o.At o.Tile/\HG s.Set (Dg b1 o.At o.Tile)/\E4 s l (n.toNat - (d++[o]).length) (Dg b1 o.At o.Tile) (d++[o])=E4 s l n.toNat b []:=λo z h=>by
  rw[hX m hm o z];simp only[Ij] at h⊢;split at h
  .simp at h
  .rename_i c;rw[Ag c,Ag c,show n.toNat - (d++[o]).length=m by simp;omega];exact⟨by omega,rfl,Sq h4 e2 (Xe e2 z),rfl⟩
 have ad: ∀i:Nat,i=GK l (DR s b1).length d.length->Hx s l b1 d.length=(DR s b1)[i]? :=λi hi=>by rw[hi];rfl
 refine⟨λc3 _ _=>⟨by omega,Zev _ (by omega),ZdZ _ (by omega),λx hx _=> ?_⟩,λc3=> ?_⟩
 .have aa:=sB h5 (Bh hx);have e5:(x.tmod (DR s b1).length).toNat=GK l (DR s b1).length d.length:=by
   rw[iD (by omega),<-Int.natCast_emod,B5] at hx;simp only[GK];rw[Ag (by omega),hx,AW,iD aa.1]
  refine⟨c1,Zev _ aa.1,ZdZ _ hn,λo z=> ?_⟩;have G:=(ad _ e5).trans z;refine⟨O o G,λc4=>⟨Zev _ aa.1,ZdZ _ hn,λo2 Z=> ?_⟩⟩;obtain rfl:o=o2:=AC (z.symm.trans Z);obtain⟨f1,f2,f3,f4⟩:=Q o G (Decidable.not_not.1 c4);refine⟨by simp[Cj,BZ,D.one],by omega,⟨(Dg b1 o.At o.Tile,d++[o]),by simp only;exact⟨by simp;omega,f3,by rw[Og];omega,f4⟩⟩,[(6,some 9)],by simp;omega,?_⟩;simp only[Am,f2];simp only[ZZ,simprocAttr,Ab,wC,AN,AM];simp[Be.c]
 .have e5:0=GK l (DR s b1).length d.length:=by
   simp only[GK];rw[Al (by omega)]
  refine⟨hn,λo z=> ?_⟩;have G:=(ad _ e5).trans z;refine⟨O o G,λc4=>⟨hn,λo2 Z=> ?_⟩⟩;obtain rfl:o=o2:=AC (z.symm.trans Z);obtain⟨f1,f2,f3,f4⟩:=Q o G (Decidable.not_not.1 c4);refine⟨by simp[Cj,BZ,D.one],by omega,⟨(Dg b1 o.At o.Tile,d++[o]),by simp only;exact⟨by simp;omega,f3,by rw[Og];omega,f4⟩⟩,[(6,some 9)],by simp;omega,?_⟩;simp only[Am,f2];simp only[ZZ,simprocAttr,Ab,wC,AN,AM];simp[Be.c]
def Zy{s:AF}(c1: ¬Ga s=false):C5 s.Set/\HG s.Set s.Seed/\s.Seed.Tiles.length<=500/\s.Set.Tiles.length<=160:=by
 rw[Jg] at c1;obtain⟨⟨q1,z,G,_⟩,_,O⟩:=IS c1;exact⟨q1,z,(Xr O).2,G⟩
def GrowS_.fv(a:AF×(List Int)):(List Be)×Ao×Int:=(J0) (a.1) (a.2)
def GrowS_.row:AG:=vK (b2 (qR AF.d_le) (qS Dj Ct)) (r3 (rS Be.d_le Be.c_n) (rA Ao.d_le) rI) (λa=>True) GrowS_.fv
def GrowS_.q:=B3 (R:=GrowS_.row) rfl
def GrowS_.ok:AJ 14 GrowS_.row:=by
 refine vw (tC l08Ok.ok (tC schS_.ok (tC grwS_.ok tN))) Tryz.func14 ?_;intro a G;simp only[Tryz.f14,Option.getD];simp only[ZZ,simprocAttr,Ab,GrowS_.fv,l08Ok.q,l08Ok.fv,schS_.q,schS_.fv,grwS_.q,grwS_.fv];obtain⟨s,l⟩:=a;simp only[J0];by_cases c1:Ga s=false
 .rw[Al c1,Al c1]
 rw[Ag c1,Ag c1];by_cases z:EJ l=false
 .rw[Al z,Al z]
 rw[Ag z,Ag z];rw[Jg] at z;obtain⟨q1,O,Q,Z⟩:=Zy c1;exact⟨⟨q1,O,Q,Z,z⟩,My 500 s.Seed []⟩
end Go.Ae
namespace Go.Ae
open Go.Proofs Go.Lib
def CP(b:Int)(l:List Int):Int:=if (Bj b 1 6 && (Bj l.length 1 12 && l.all (λx=>Bj x 0 (b - 1))))=true then 0 else 2
def GL(b:Int)(l:List Int):AF×Int:=if CP b l=0 then (EA b.toNat l,0) else (⟨⟨[],[]⟩,⟨[]⟩,0⟩,CP b l)
def Ru{b:Int}{l:List Int}(h:CP b l=0):1<=b/\b<=6/\1<=l.length/\l.length<=12/\ ∀x∈l,0<=x/\x<=b - 1:=by
 simp only[CP] at h;split at h
 .rename_i c;simp only[Bc,Fk,Bj,C7] at c;obtain⟨⟨c1,z⟩,⟨Q,Z⟩,G⟩:=c;exact⟨c1,z,by omega,by omega,λx O=>G x O⟩
 .exact absurd h (by decide)
def asr_.fv(a:Int×(List Int)):Int:=(CP) (a.1) (a.2)
def asr_.row:AG:=vK (b2 qI (qS Dj Ct)) rI (λa=>True) asr_.fv
def asr_.q:=B3 (R:=asr_.row) rfl
def asr_.ok:AJ 23 asr_.row:=by
 refine vw (tC l00In.ok tN) Tryz.func23 ?_;intro a aa;simp only[Tryz.f23,Option.getD];simp(disch:=omega)only[ZZ,simprocAttr,Ab,asr_.fv,l00In.q,l00In.fv];obtain⟨b,l⟩:=a;simp only;by_cases c1:Bj b 1 6=true
 case neg=>
  rw[Ag c1];simp only[CP];rw[Ag (by simp[c1])]
 rw[Al c1];obtain⟨b1,b2⟩:1<=b/\b<=6:=by simpa[Bj] using c1
 have Z:IntKind.i64.wrap (b - 1)=b - 1:=AH (by omega) (by omega);intro _;by_cases G:Bj (l.length:Int) 1 12=true
 case neg=>
  rw[Al (by simpa using G)];simp only[CP];rw[Ag (by simp[G])]
 rw[Ag (by simp[G])];obtain⟨l1,l2⟩:(1:Int)<=l.length/\(l.length:Int)<=12:=by simpa[Bj] using G
 have hS:CP b l=if (l.all λx=>Bj x 0 (b - 1))=true then 0 else 2:=by simp[CP,c1,G]
 rw[hS];refine AZ.old ⟨{k:Nat//k<=l.length/\(l.drop k).all (λx=>Bj x 0 (b - 1))=l.all (λx=>Bj x 0 (b - 1))},λk=>⟨[(5,.im (.int .i64 k.1)),(4,.im (.int .i64 0)),(0,.im (.int .i64 b)),(1,.im (.sl false 1 (l.map Af)))],[],0⟩,λk=>l.length - k.1,λk=>⟨by simp[ZG],AU _⟩,⟨⟨0,by simp⟩,by simp(disch:=omega)only[ZZ,simprocAttr,Ab,asr_.fv,l00In.q,l00In.fv,sub]⟩,λk=> ?_⟩;obtain⟨k,ab,z⟩:=k;simp(disch:=omega)only[ZZ,simprocAttr,Ab,asr_.fv,l00In.q,l00In.fv,sub,AS,Z];refine λ_=>⟨λO=>⟨O,λx hx=>⟨λQ=> ?_,λQ=>⟨⟨k+1,by omega,?_⟩,by simp only;omega,by rw[AH (by omega) (by omega)];simp only;omega⟩⟩⟩,λO=> ?_⟩
 .rw[Ag];intro h
  have:=Fk.1 h x (Bh hx)
  rw[Q] at this;cases this
 .rw[XP O,EE] at z;have e:l[k]=x:=AC ((BB O).symm.trans hx);rw[e,show Bj x 0 (b - 1)=true by simpa using Q,ED] at z;exact z
 .rw[Ee (by omega),Hr] at z;rw[Al z.symm]
def srtSp_.fv(a:Int×(List Int)):AF×Int:=(GL) (a.1) (a.2)
def srtSp_.row:AG:=vK (b2 qI (qS Dj Ct)) (r2 (rA AF.d_le) rI) (λa=>True) srtSp_.fv
def srtSp_.q:=B3 (R:=srtSp_.row) rfl
def srtSp_.ok:AJ 13 srtSp_.row:=by
 refine vw (tC asr_.ok (tC l21S_.ok tN)) Tryz.func13 ?_;intro a z;simp only[Tryz.f13,Option.getD];simp(disch:=omega)only[ZZ,simprocAttr,Ab,srtSp_.fv,asr_.q,asr_.fv,l21S_.q,l21S_.fv];obtain⟨b,l⟩:=a;simp only;by_cases c:CP b l=0
 .rw[Ag (by simpa using c)];obtain⟨G,O,h3,Q,Z⟩:=Ru c;refine⟨⟨G,O,Q,λx hx=> ?_⟩,?_⟩
  .have:=Z x hx;omega
  .simp only[GL];rw[Al c];rfl
 .rw[Al c];simp only[GL];rw[Ag c]
def LO{s:AF}{a:Ao}(h:EN s a=0):Ga s=true/\HA s.Set a=true:=by
 simp only[EN] at h;split at h
 .rename_i c;simpa using c
 .exact absurd h (by decide)
def HT(nm w:ByteArray)(z:Nat):Int:=B0 (λk:Nat=>decide (nm=Ac w (k:Nat))) 0 (List.range z)
def sL{nm w:ByteArray}{z k:Nat}(Q:k<z)(h:nm=Ac w (k:Nat)):HT nm w z=k:=by
 rw[HT,Qtf _ _ 0 k k (IH Q) (by simp[h]) (λi y Z O=> ?_)]
 .simp
 .rw[IH (by omega)] at O;obtain rfl:=AC O;refine Jj λe=> ?_
  have G:=Cl EG (h.symm.trans e);rw[Ol,Ol] at G
  have:=Rp (Zea G)
  omega
def sJ{nm w:ByteArray}{z:Nat}(h: ∀k:Nat,k<z->nm≠Ac w (k:Nat)):HT nm w z= -1:=by
 refine Qrf _ _ 0 λi y G=> ?_
 have O:i<z:=by simpa using (CL.1 G).1
 rw[IH O] at G;obtain rfl:=AC G;exact Jj (h i O)
def xV{k:Nat}(h:k<10):itoa (k:Int)=[UInt8.ofNat (48+k)]:=by
 unfold itoa;rw[Ag (by omega),B5,decDigits,dif_pos h]
def cU{k:Nat}(h:k<10):Ac ⟨#[109,97,120]⟩ (k:Nat)=⟨#[109,97,120,UInt8.ofNat (48+k)]⟩:=by
 simp only[Ac,ES,xV h];rfl
def YQ{nm:ByteArray}{c:UInt8}(O:nm.size=4)(Q:nm.extract 0 3=⟨#[109,97,120]⟩)(Z:nm.data[3]? =some c)(h4:XH (c.toNat:Int)=true):HT nm ⟨#[109,97,120]⟩ 10=(c.toNat:Int) - 48:=by
 obtain⟨d1,d2⟩:48<=c.toNat/\c.toNat<=57:=by
  simp only[XH,Bj,Bc,C7] at h4;omega
 have e:nm=Ac ⟨#[109,97,120]⟩ ((c.toNat - 48:Nat):Int):=by
  rw[cU (by omega),show 48+(c.toNat - 48)=c.toNat by omega,UInt8.ofNat_toNat];have z:=Cl ByteArray.data Q;rw[ByteArray.data_extract] at z;rcases nm with ⟨⟨l⟩⟩
  have hl:l.length=4:=O
  match l,hl with
  |[x0,x1,x2,x3],_=>
   have G:x3=c:=by simpa using Z
   simp at z;obtain⟨r1,r2,r3⟩:=z;rw[r1,r2,r3,G]
 rw[sL (by omega) e];omega
def Rv{nm:ByteArray}(h:nm.size=4->nm.extract 0 3=⟨#[109,97,120]⟩-> ∀c,nm.data[3]? =some c->XH (c.toNat:Int)=false):HT nm ⟨#[109,97,120]⟩ 10= -1:=by
 refine sJ λk z e=> ?_
 rw[cU z] at e;subst e
 have:=h rfl rfl (UInt8.ofNat (48+k)) rfl
 have G:=eQ z;rw[G] at this;simp only[XH,Bj,ZdC,Jk] at this;omega
def Iu(s:AE)(a:Ao)(p:Ad)(d:Int):ByteArray:=if BM a p<0 then ByteArray.empty else if ID s (BM a p) d=0 then ByteArray.empty else ((s.Glues[(ID s (BM a p) d - 1).toNat]?).map Ak.Name).getD ByteArray.empty
def CI(s:AF)(a:Ao)(n:Int)(i:Nat):Int:=HT (Iu s.Set a ⟨n,(i:Int)+1⟩ 1) ⟨#[109,97,120]⟩ 10
def Dw(s:AF)(a:Ao)(n:Int):List Int×Int:=
 if EN s a=0 then (if Bj n 1 12=true then (if (List.range n.toNat).all (λi=>decide (0<=CI s a n i))=true then ((List.range n.toNat).map (CI s a n),0) else ([],9)) else ([],2)) else ([],EN s a)
def decS_.fv(a:AF×Ao×Int):(List Int)×Int:=(Dw) (a.1) (a.2.1) (a.2.2)
def decS_.row:AG:=vK (b3 (qR AF.d_le) (qR Ao.d_le) qI) (r2 (rS Dj Ct) rI) (λa=>True) decS_.fv
def decS_.q:=B3 (R:=decS_.row) rfl
def YaL:=J @decS_.fv.eq_1<|J @ask08.q<|J @ask08.fv.eq_1<|J @l00In.q<|J @l00In.fv.eq_1<|J @l03At.q<|J @l03At.fv.eq_1<|J @l01Digit.q @l01Digit.fv.eq_1
def decS_.ok:AJ 15 decS_.row:=by
 refine vw (tC ask08.ok (tC l00In.ok (tC l03At.ok (tC l01Digit.ok tN)))) Tryz.func15 ?_;intro a ai;simp only[Tryz.f15,Option.getD];simp(disch:=omega)only[ZZ,simprocAttr,Ab,YaL];obtain⟨s,a,n⟩:=a;simp only;by_cases c1:EN s a=0
 case neg=>
  rw[Ag c1,Al c1];simp only[Dw];rw[Ag c1]
 rw[Al c1];by_cases Q:Bj n 1 12=true
 case neg=>
  rw[Al (by simpa using Q)];simp only[Dw];rw[Al c1,Ag Q]
 rw[Ag (by simp[Q]),Ag (by simpa using c1)];obtain⟨n1,n2⟩:(1:Int)<=n/\n<=12:=by simpa[Bj] using Q
 have hQ:Dw s a n=if (List.range n.toNat).all (λi=>decide (0<=CI s a n i))=true then ((List.range n.toNat).map (CI s a n),0) else ([],9):=by simp only[Dw];rw[Al c1,Al Q]
 obtain⟨hs,ha⟩:=LO c1;have hS:=(IS hs).1;have G:=sV (IS hs).2.1;have hA:=Xr ha;rw[hQ];refine AZ.ren ⟨{i:Nat//i<=n.toNat/\ ∀j,j<i->0<=CI s a n j},λi=>⟨[(10,.im (.int .i64 (i.1+1))),(9,.own 4),(8,.im (.int .i64 0)),(7,.im (.int .i64 0)),(6,.own 2),(4,.ptr 1 0),(3,.ptr 0 0),(2,.im (.int .i64 n))],[(4,(true,.arr 2 1 (((List.range i.1).map (CI s a n)).map Af))),(2,(true,.arr 2 1 [])),(1,(true,.cells 25 [.im (.sl false 3 (a.Tiles.map Aq.c))])),(0,(true,.cells 39 [.im (.sl false 2 (s.Set.Glues.map Ak.c)),.im (.sl false 2 (s.Set.Tiles.map Tile.c)),.im (.sl false 3 (s.Seed.Tiles.map Aq.c)),.im (.int .i64 s.Temperature)]))],5⟩,λi=>n.toNat - i.1,λi=>⟨by simp[ZG],by simp⟩,⟨⟨0,BV _,λj hj=>by omega⟩,[(4,some 3)],?_⟩,λi=> ?_⟩
 .simp only[Am,Ho,Bg];simp(disch:=omega)only[ZZ,simprocAttr,Ab,YaL,AN,AM,c1]
 obtain⟨i,an,aa⟩:=i;have hw:IntKind.i64.wrap ((i:Int)+1+1)=(i:Int)+1+1:=AH (by omega) (by omega);have z:CI s a n i<0-> ∀x:List Int×Int,x=([],9)->i<n.toNat->x=if (List.range n.toNat).all (λi=>decide (0<=CI s a n i))=true then ((List.range n.toNat).map (CI s a n),0) else ([],9):=by
  intro h x hx hi;rw[Ag,hx];intro Z
  have:=Fk.1 Z i (CS.2 hi)
  rw[C7] at this;omega
 simp(disch:=omega)only[ZZ,simprocAttr,Ab,YaL,sub,AS];refine⟨λhi=>⟨hA.1.1,λht=>z ?_ _ rfl (by omega),λht=> ?_⟩,λhi=> ?_⟩
 .simp only[CI,Iu];rw[Al ht,Rv (λh=>by simp at h)];decide
 .have ac:=WP hA.1 _ (Zfq.1 ht);refine⟨ac.1,ac.2,λt hx=> ?_⟩;have af:=bA G hx;refine⟨by rw[af];decide,λg hg=> ?_⟩;have ab:ID s.Set (BM a ⟨n,(i:Int)+1⟩) 1=g:=XC (d:=1) hx hg;have ak:=Qvv G (d:=1) hx hg;have am:=G.1;refine⟨λg0=>z ?_ _ rfl (by omega),λg0=> ?_⟩
  .simp only[CI,Iu];rw[Ag ht,ab,Al g0,Rv (λh=>by simp at h)];decide
  .have ah:IntKind.i64.wrap (g - 1)=g - 1:=AH (by omega) (by omega);rw[ah];refine⟨by omega,by omega,λy hy=> ?_⟩;have hN:CI s a n i=HT y.Name ⟨#[109,97,120]⟩ 10:=by
    simp only[CI,Iu];rw[Ag ht,ab,Ag g0,hy];rfl
   refine⟨λz1=>⟨by omega,λz2=>⟨by omega,λc hc=>⟨λz3=>z ?_ _ rfl (by omega),λz3=>⟨by omega,λc' O=> ?_⟩⟩⟩,λz2=>z ?_ _ rfl (by omega)⟩,λz1=>z ?_ _ rfl (by omega)⟩
   .rw[hN,Rv λ_ _ c' O=>by rw[AC (O.symm.trans hc)];exact z3];decide
   .obtain rfl:=AC (O.symm.trans hc);have hd:=YQ (by omega) z2 hc (by simpa using z3);rw[<-hN] at hd;have aj:48<=(c'.toNat:Int)/\(c'.toNat:Int)<=57:=by simpa[XH,Bj] using z3
    have hv:IntKind.i64.wrap (IntKind.u8.wrap ((c'.toNat:Int) - 48))=CI s a n i:=by
     have e4:IntKind.u8.wrap ((c'.toNat:Int) - 48)=(c'.toNat:Int) - 48:=by
      unfold IntKind.wrap;have e:IntKind.u8.bits=8:=rfl;have e2:IntKind.u8.signed=false:=rfl;simp only[e,e2,FT,Dp,CN];omega
     rw[e4,hd,AH (by omega) (by omega)]
    have ad:List.map Af ((List.range i).map (CI s a n))++[[D.int .i64 (CI s a n i)]]=((List.range (i+1)).map (CI s a n)).map Af:=by
     rw[G1,CV];rfl
    have ag:IntKind.i64.wrap ((i:Int)+1+1)=((i+1:Nat):Int)+1:=by rw[hw];omega
    rw[hv,ad];refine⟨by simp[Cj,BZ,D.one],by rw[FE];omega,⟨i+1,by omega,λj hj=> ?_⟩,[(4,some 6)],by simp only;omega,?_⟩
    .rcases (by omega:j<i\/j=i) with h|rfl
     .exact aa j h
     .rw[hd];omega
    simp only[Am];simp(disch:=omega)only[ZZ,simprocAttr,Ab,YaL,AN,AM,ag]
   .rw[hN,Rv λ_ h=>absurd h z2];decide
   .rw[hN,Rv λh=>absurd (by omega) z1];decide
 .obtain rfl:i=n.toNat:=by omega
  rw[Al (Fk.2 λj hj=>by rw[C7];exact aa j (CS.1 hj))]
def Iv(b:Int)(l c:List Int):List Int×Ao×Int:=
 if CP b l=0 then (let w:=J0 (EA b.toNat l) c;if w.2.2=0 then (let d:=Dw (EA b.toNat l) w.2.1 l.length;if d.2=0 then (d.1.reverse,w.2.1,0) else ([],⟨[]⟩,d.2)) else ([],⟨[]⟩,w.2.2)) else ([],⟨[]⟩,CP b l)
def gsS_.fv(a:Int×(List Int)×(List Int)):(List Int)×Ao×Int:=(Iv) (a.1) (a.2.1) (a.2.2)
def gsS_.row:AG:=vK (b3 qI (qS Dj Ct) (qS Dj Ct)) (r3 (rS Dj Ct) (rA Ao.d_le) rI) (λa=>True) gsS_.fv
def gsS_.q:=B3 (R:=gsS_.row) rfl
def YaM:=J @gsS_.fv.eq_1<|J @srtSp_.q<|J @srtSp_.fv.eq_1<|J @GrowS_.q<|J @GrowS_.fv.eq_1<|J @decS_.q @decS_.fv.eq_1
def gsS_.ok:AJ 4 gsS_.row:=by
 refine vw (tC srtSp_.ok (tC GrowS_.ok (tC decS_.ok tN))) Tryz.func4 ?_;intro a ab;simp only[Tryz.f4,Option.getD];simp(disch:=omega)only[ZZ,simprocAttr,Ab,YaM];obtain⟨b,l,c⟩:=a;simp only;by_cases c1:CP b l=0
 case neg=>
  have e:GL b l=(⟨⟨[],[]⟩,⟨[]⟩,0⟩,CP b l):=Ag c1;rw[e];simp only;rw[Al c1];simp only[Iv];rw[Ag c1]
 have e:GL b l=(EA b.toNat l,0):=Al c1;rw[e];simp only;rw[Ag (by simp)];obtain⟨w,O⟩: ∃w,w=J0 (EA b.toNat l) c:=⟨_,rfl⟩;obtain⟨d,hd⟩: ∃d,d=Dw (EA b.toNat l) w.2.1 l.length:=⟨_,rfl⟩;have hG:Iv b l c=if w.2.2=0 then (if d.2=0 then (d.1.reverse,w.2.1,0) else ([],⟨[]⟩,d.2)) else ([],⟨[]⟩,w.2.2):=by simp only[Iv];rw[Al c1,<-O,<-hd]
 simp only[<-O,<-hd];rw[hG];by_cases z:w.2.2=0
 case neg=>rw[Al z,Ag z]
 rw[Ag (by simpa using z),Al z];intro _;by_cases G:d.2=0
 case neg=>rw[Al G,Ag G]
 rw[Ag (by simpa using G),Al G];have ac:d.1.length<=12:=by
  rw[hd,Dw];split
  .split
   .rename_i Z;split
    .simp[Bj] at Z⊢;omega
    .simp
   .simp
  .simp
 intro _;have Q:IntKind.i64.wrap ((d.1.length:Int) - 1)=(d.1.length:Int) - 1 - ((0:Nat):Int):=by rw[AH (by omega) (by omega)];omega
 refine AZ.ren ⟨{j:Nat//j<=d.1.length},λj=>⟨[(15,.im (.int .i64 ((d.1.length:Int) - 1 - j.1))),(14,.own 5),(13,.im (.sl false 1 (d.1.map Af))),(12,.ptr 3 0),(7,.ptr 1 0)],[(5,(true,.arr 2 1 ((d.1.reverse.take j.1).map Af))),(3,(true,.cells 25 [.im (.sl false 3 (w.2.1.Tiles.map Aq.c))])),(1,(true,.cells 25 [.im (.sl true 0 [])]))],6⟩,λj=>d.1.length - j.1,λj=>⟨by simp[ZG],by simp⟩,⟨⟨0,BV _⟩,[(5,some 4)],?_⟩,λj=> ?_⟩
 .simp only[Am,Hp,Bg];simp(disch:=omega)only[ZZ,simprocAttr,Ab,YaM,AN,AM,Q]
 obtain⟨j,hj⟩:=j;have O:IntKind.i64.wrap ((d.1.length:Int) - 1 - (j:Int) - 1)=(d.1.length:Int) - 1 - ((j+1:Nat):Int):=by rw[AH (by omega) (by omega)];omega
 simp(disch:=omega)only[ZZ,simprocAttr,Ab,YaM,sub,AS];refine⟨λh=>⟨by omega,by omega,λx Z=> ?_⟩,λh=> ?_⟩
 .have aa:d.1.reverse[j]? =some x:=by
   rw[Zel (by omega),<-Z];congr 1;omega
  have hr:List.map Af (d.1.reverse.take j)++[[D.int .i64 x]]=(d.1.reverse.take (j+1)).map Af:=by
   rw[Ww aa,CV];rfl
  rw[hr,O];refine⟨by simp[Cj,BZ,D.one],by rw[CB];omega,⟨j+1,by omega⟩,[(5,some 7)],by simp only;omega,?_⟩;simp only[Am];simp(disch:=omega)only[ZZ,simprocAttr,Ab,YaM,AN,AM]
 .rw[GW (by rw[bS];omega)]
end Go.Ae
