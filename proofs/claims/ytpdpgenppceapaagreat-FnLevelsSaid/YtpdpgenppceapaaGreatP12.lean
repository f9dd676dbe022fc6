/- Lemmas. Conditions: none. -/
import Derived.Test.YtpdpgenppceapaaGreatP11
import Derived.Shelf.SlSortCmp.WholeK
import Derived.Shelf.SlicesG.Cmp
import Derived.StillTailTactics
import Derived.Lib.Small
import Derived.Lib.Walk
import Derived.Shelf.SlSortCmp.NoneTotal
set_option linter.all false
set_option maxHeartbeats 8000000
set_option maxRecDepth 100000
namespace Go.Proofs
open Go.Shelf
def Tryz.sortPl_ren:Go.Shelf.Ren:=⟨λ|6=>168|15=>159|14=>208|28=>200|29=>201|20=>236|21=>237|22=>238|23=>239|24=>240|25=>241|26=>242|27=>243|46=>255|47=>217|48=>218|49=>256|50=>257|57=>264|n=>n,λ|22=>28|24=>136|25=>208|3=>3|39=>185|0=>0|53=>238|55=>123|4=>4|46=>231|45=>230|50=>235|5=>5|9=>9|66=>253|70=>257|76=>283|77=>284|n=>n,λ|n=>n⟩
def Tryz.sortPl:Go.Proofs.SlLaysF0.n6 Tryz.prog Tryz.sortPl_ren:={
 mixed:=by kernel_rfl
 f6:=⟨Tryz.f168.name,by decide,Tryz.func168.trans (BW some (by kernel_rfl))⟩
 f14:=⟨Tryz.f208.name,by decide,Tryz.func208.trans (BW some (by kernel_rfl))⟩
 f15:=Tryz.func159.trans (BW some (by kernel_rfl))
 f20:=⟨Tryz.f236.name,by decide,Tryz.func236.trans (BW some (by kernel_rfl))⟩
 f21:=⟨Tryz.f237.name,by decide,Tryz.func237.trans (BW some (by kernel_rfl))⟩
 f22:=⟨Tryz.f238.name,by decide,Tryz.func238.trans (BW some (by kernel_rfl))⟩
 f23:=⟨Tryz.f239.name,by decide,Tryz.func239.trans (BW some (by kernel_rfl))⟩
 f24:=⟨Tryz.f240.name,by decide,Tryz.func240.trans (BW some (by kernel_rfl))⟩
 f25:=⟨Tryz.f241.name,by decide,Tryz.func241.trans (BW some (by kernel_rfl))⟩
 f26:=⟨Tryz.f242.name,by decide,Tryz.func242.trans (BW some (by kernel_rfl))⟩
 f27:=⟨Tryz.f243.name,by decide,Tryz.func243.trans (BW some (by kernel_rfl))⟩
 f28:=Tryz.func200.trans (BW some (by kernel_rfl))
 f29:=Tryz.func201.trans (BW some (by kernel_rfl))
 f46:=⟨Tryz.f255.name,by decide,Tryz.func255.trans (BW some (by kernel_rfl))⟩
 f47:=Tryz.func217.trans (BW some (by kernel_rfl))
 f48:=Tryz.func218.trans (BW some (by kernel_rfl))
 f49:=⟨Tryz.f256.name,by decide,Tryz.func256.trans (BW some (by kernel_rfl))⟩
 f50:=⟨Tryz.f257.name,by decide,Tryz.func257.trans (BW some (by kernel_rfl))⟩
 f57:=⟨Tryz.f264.name,by decide,Tryz.func264.trans (BW some (by kernel_rfl))⟩
 t0:=Tryz.underlying0
 a0:=Tryz.isAgg0
 z0:=Tryz.sizeOf0
 v0:=Tryz.zeroValue0
 t3:=Tryz.underlying3
 a3:=Tryz.isAgg3
 z3:=Tryz.sizeOf3
 v3:=Tryz.zeroValue3
 t4:=Tryz.underlying4
 a4:=Tryz.isAgg4
 z4:=Tryz.sizeOf4
 v4:=Tryz.zeroValue4
 t5:=Tryz.underlying5
 a5:=Tryz.isAgg5
 z5:=Tryz.sizeOf5
 v5:=Tryz.zeroValue5
 t9:=Tryz.underlying9
 a9:=Tryz.isAgg9
 z9:=Tryz.sizeOf9
 v9:=Tryz.zeroValue9
 t22:=Tryz.underlying28
 a22:=Tryz.isAgg28
 z22:=Tryz.sizeOf28
 v22:=Tryz.zeroValue28
 t25:=Tryz.underlying208
 a25:=Tryz.isAgg208
 z25:=Tryz.sizeOf208
 v25:=Tryz.zeroValue208
 t39:=Tryz.underlying185
 a39:=Tryz.isAgg185
 z39:=Tryz.sizeOf185
 v39:=Tryz.zeroValue185
 t45:=Tryz.underlying230
 a45:=Tryz.isAgg230
 z45:=Tryz.sizeOf230
 v45:=Tryz.zeroValue230
 t46:=Tryz.underlying231
 a46:=Tryz.isAgg231
 z46:=Tryz.sizeOf231
 v46:=Tryz.zeroValue231
 t50:=Tryz.underlying235
 a50:=Tryz.isAgg235
 z50:=Tryz.sizeOf235
 v50:=Tryz.zeroValue235
 t53:=Tryz.underlying238
 a53:=Tryz.isAgg238
 z53:=Tryz.sizeOf238
 v53:=Tryz.zeroValue238
 t55:=Tryz.underlying123
 a55:=Tryz.isAgg123
 z55:=Tryz.sizeOf123
 v55:=Tryz.zeroValue123
 t66:=Tryz.underlying253
 a66:=Tryz.isAgg253
 z66:=Tryz.sizeOf253
 v66:=Tryz.zeroValue253
 t70:=Tryz.underlying257
 a70:=Tryz.isAgg257
 z70:=Tryz.sizeOf257
 v70:=Tryz.zeroValue257
 t76:=Tryz.underlying283
 a76:=Tryz.isAgg283
 z76:=Tryz.sizeOf283
 v76:=Tryz.zeroValue283
 t77:=Tryz.underlying284
 a77:=Tryz.isAgg284
 z77:=Tryz.sizeOf284
 v77:=Tryz.zeroValue284}
def Tryz.sortPt_ren:Go.Shelf.Ren:=⟨λ|6=>163|15=>159|14=>206|28=>200|29=>201|20=>228|21=>229|22=>230|23=>231|24=>232|25=>233|26=>234|27=>235|46=>252|47=>217|48=>218|49=>253|50=>254|57=>263|n=>n,λ|22=>166|24=>50|25=>171|3=>3|39=>185|0=>0|53=>238|55=>123|4=>4|46=>231|45=>230|50=>235|5=>5|9=>9|66=>253|70=>257|76=>283|77=>284|n=>n,λ|n=>n⟩
def Tryz.sortPt:Go.Proofs.SlLaysF0.n6 Tryz.prog Tryz.sortPt_ren:={
 mixed:=by kernel_rfl
 f6:=⟨Tryz.f163.name,by decide,Tryz.func163.trans (BW some (by kernel_rfl))⟩
 f14:=⟨Tryz.f206.name,by decide,Tryz.func206.trans (BW some (by kernel_rfl))⟩
 f15:=Tryz.func159.trans (BW some (by kernel_rfl))
 f20:=⟨Tryz.f228.name,by decide,Tryz.func228.trans (BW some (by kernel_rfl))⟩
 f21:=⟨Tryz.f229.name,by decide,Tryz.func229.trans (BW some (by kernel_rfl))⟩
 f22:=⟨Tryz.f230.name,by decide,Tryz.func230.trans (BW some (by kernel_rfl))⟩
 f23:=⟨Tryz.f231.name,by decide,Tryz.func231.trans (BW some (by kernel_rfl))⟩
 f24:=⟨Tryz.f232.name,by decide,Tryz.func232.trans (BW some (by kernel_rfl))⟩
 f25:=⟨Tryz.f233.name,by decide,Tryz.func233.trans (BW some (by kernel_rfl))⟩
 f26:=⟨Tryz.f234.name,by decide,Tryz.func234.trans (BW some (by kernel_rfl))⟩
 f27:=⟨Tryz.f235.name,by decide,Tryz.func235.trans (BW some (by kernel_rfl))⟩
 f28:=Tryz.func200.trans (BW some (by kernel_rfl))
 f29:=Tryz.func201.trans (BW some (by kernel_rfl))
 f46:=⟨Tryz.f252.name,by decide,Tryz.func252.trans (BW some (by kernel_rfl))⟩
 f47:=Tryz.func217.trans (BW some (by kernel_rfl))
 f48:=Tryz.func218.trans (BW some (by kernel_rfl))
 f49:=⟨Tryz.f253.name,by decide,Tryz.func253.trans (BW some (by kernel_rfl))⟩
 f50:=⟨Tryz.f254.name,by decide,Tryz.func254.trans (BW some (by kernel_rfl))⟩
 f57:=⟨Tryz.f263.name,by decide,Tryz.func263.trans (BW some (by kernel_rfl))⟩
 t0:=Tryz.underlying0
 a0:=Tryz.isAgg0
 z0:=Tryz.sizeOf0
 v0:=Tryz.zeroValue0
 t3:=Tryz.underlying3
 a3:=Tryz.isAgg3
 z3:=Tryz.sizeOf3
 v3:=Tryz.zeroValue3
 t4:=Tryz.underlying4
 a4:=Tryz.isAgg4
 z4:=Tryz.sizeOf4
 v4:=Tryz.zeroValue4
 t5:=Tryz.underlying5
 a5:=Tryz.isAgg5
 z5:=Tryz.sizeOf5
 v5:=Tryz.zeroValue5
 t9:=Tryz.underlying9
 a9:=Tryz.isAgg9
 z9:=Tryz.sizeOf9
 v9:=Tryz.zeroValue9
 t22:=Tryz.underlying166
 a22:=Tryz.isAgg166
 z22:=Tryz.sizeOf166
 v22:=Tryz.zeroValue166
 t25:=Tryz.underlying171
 a25:=Tryz.isAgg171
 z25:=Tryz.sizeOf171
 v25:=Tryz.zeroValue171
 t39:=Tryz.underlying185
 a39:=Tryz.isAgg185
 z39:=Tryz.sizeOf185
 v39:=Tryz.zeroValue185
 t45:=Tryz.underlying230
 a45:=Tryz.isAgg230
 z45:=Tryz.sizeOf230
 v45:=Tryz.zeroValue230
 t46:=Tryz.underlying231
 a46:=Tryz.isAgg231
 z46:=Tryz.sizeOf231
 v46:=Tryz.zeroValue231
 t50:=Tryz.underlying235
 a50:=Tryz.isAgg235
 z50:=Tryz.sizeOf235
 v50:=Tryz.zeroValue235
 t53:=Tryz.underlying238
 a53:=Tryz.isAgg238
 z53:=Tryz.sizeOf238
 v53:=Tryz.zeroValue238
 t55:=Tryz.underlying123
 a55:=Tryz.isAgg123
 z55:=Tryz.sizeOf123
 v55:=Tryz.zeroValue123
 t66:=Tryz.underlying253
 a66:=Tryz.isAgg253
 z66:=Tryz.sizeOf253
 v66:=Tryz.zeroValue253
 t70:=Tryz.underlying257
 a70:=Tryz.isAgg257
 z70:=Tryz.sizeOf257
 v70:=Tryz.zeroValue257
 t76:=Tryz.underlying283
 a76:=Tryz.isAgg283
 z76:=Tryz.sizeOf283
 v76:=Tryz.zeroValue283
 t77:=Tryz.underlying284
 a77:=Tryz.isAgg284
 z77:=Tryz.sizeOf284
 v77:=Tryz.zeroValue284}
def Tryz.cmpI64_ren:Go.Shelf.Ren:=⟨λ|5=>166|7=>207|n=>n,λ|22=>2|3=>3|4=>4|n=>n,λ|n=>n⟩
def Tryz.cmpI64:Go.Proofs.SlLaysC2.n5 Tryz.prog Tryz.cmpI64_ren:={
 mixed:=by kernel_rfl
 f5:=⟨Tryz.f166.name,by decide,Tryz.func166.trans (BW some (by kernel_rfl))⟩
 f7:=⟨Tryz.f207.name,by decide,Tryz.func207.trans (BW some (by kernel_rfl))⟩
 t3:=Tryz.underlying3
 a3:=Tryz.isAgg3
 z3:=Tryz.sizeOf3
 v3:=Tryz.zeroValue3
 t4:=Tryz.underlying4
 a4:=Tryz.isAgg4
 z4:=Tryz.sizeOf4
 v4:=Tryz.zeroValue4
 t22:=Tryz.underlying2
 a22:=Tryz.isAgg2
 z22:=Tryz.sizeOf2
 v22:=Tryz.zeroValue2}
end Go.Proofs
namespace Go.Proofs
open Go.Shelf Go.RowKit Go.Lib Go.Sort
def Tryz.cmp64(x y:Int)(W:World):Calls Tryz.prog 166 #[.int .i64 x,.int .i64 y] W λe w'=>e= .returned (.int .i64 (Lib.compareInt x y))/\w'=W:=
 AnyG.cmp_Compare_int Tryz.cmpI64 x y W
def Tryz.orTwo(b:Nat)(x y:Int)(W:World)(h0:W.cell? ⟨b,0,none⟩=some (.int .i64 x))(z:W.cell? ⟨b,1,none⟩=some (.int .i64 y)):
 Calls Tryz.prog 165 #[.slice (some ⟨b,0,none⟩) 2 2] W λe w'=>e= .returned (.int .i64 (if x=0 then y else x))/\w'=W:=by
 go_enter Tryz.func165,Tryz.ntmps165
 go_wp2
 refine wp_loop_rounds 3 ?_;rw[rounds_succ]
 go_wp2
 all_goals (try rw[rounds_succ])
 all_goals (try go_wp2)
 all_goals (try rw[rounds_succ])
 all_goals (try go_wp2)
 all_goals (go_ret;refine⟨?_,rfl⟩;simp_all)
def Rl(W:World)(a b a' b':Value)(T:TypeId):
 let z:=((W.alloc (Obj.cells #[a,b] T)).alloc (Obj.cells #[a',b'] T)).drew
 z.cell? ⟨W.heap.size,0,none⟩=some a/\z.cell? ⟨W.heap.size,1,none⟩=some b/\z.cell? ⟨W.heap.size+1,0,none⟩=some a'/\z.cell? ⟨W.heap.size+1,1,none⟩=some b'/\
  ∃G,z=grow (W.drewN 1) G:=by
 have e:((W.alloc (Obj.cells #[a,b] T)).alloc (Obj.cells #[a',b'] T)).drew=grow (W.drewN 1) #[Obj.cells #[a,b] T,Obj.cells #[a',b'] T]:=by
  rw[alloc_eq_grow,alloc_eq_grow,grow_grow];rfl
 have h0:(W.heap++ #[Obj.cells #[a,b] T,Obj.cells #[a',b'] T])[W.heap.size]? =some (Obj.cells #[a,b] T):=by
  rw[Zer (AW _),I6];rfl
 have O:(W.heap++ #[Obj.cells #[a,b] T,Obj.cells #[a',b'] T])[W.heap.size+1]? =some (Obj.cells #[a',b'] T):=by
  rw[Zer (Nat.le_succ _),show W.heap.size.succ - W.heap.size=1 by omega];rfl
 simp only[e];refine⟨?_,?_,?_,?_,_,rfl⟩<;>unfold World.cell? <;>simp only[grow,World.drewN,h0,O]<;>rfl
def Qvb(w:World)(a b:Value)(T:TypeId):(w.alloc (Obj.cells #[a,b] T)).cell? ⟨w.heap.size,0,none⟩=some a/\(w.alloc (Obj.cells #[a,b] T)).cell? ⟨w.heap.size,1,none⟩=some b:=by
 have h0:(w.heap.push (Obj.cells #[a,b] T))[w.heap.size]? =some (Obj.cells #[a,b] T):=by simp
 constructor<;>unfold World.cell? <;>simp only[World.alloc,h0]<;>rfl
def Jl(p q:Int×Int):Int:=if Lib.compareInt p.2 q.2=0 then Lib.compareInt p.1 q.1 else Lib.compareInt p.2 q.2
def Tryz.cmpPoints(x y x' y':Int)(W:World):Calls Tryz.prog 126 #[.agg #[.int .i64 x,.int .i64 y],.agg #[.int .i64 x',.int .i64 y']] W λe w'=>
 e= .returned (.int .i64 (Jl (x,y) (x',y')))/\ ∃q Q,w'=grow (W.drewN q) Q:=by
 have z:=λW'=>Tryz.cmp64 y y' W'
 have G:=λW'=>Tryz.cmp64 x x' W'
 unfold Jl;simp only;generalize Lib.compareInt y y'=r1 at z⊢;generalize Lib.compareInt x x'=r2 at G⊢;have O:=λ(b:Nat) W'=>Tryz.orTwo b r1 r2 W'
 generalize (if r1=0 then r2 else r1)=r at O⊢
 go_enter Tryz.func126,Tryz.ntmps126
 go_wp2
 refine wp_region_still_tail 10 (by kernel_rfl) (by kernel_rfl) ?_;simp only[Ia,Fh,Mo,Jc];obtain⟨d1,d2,d3,d4,Z⟩:=Rl W (.int .i64 x) (.int .i64 y) (.int .i64 x') (.int .i64 y') 50;change wpStill _ _ ((W.alloc (Obj.cells #[Value.int IntKind.i64 x,Value.int IntKind.i64 y] 50)).alloc (Obj.cells #[Value.int IntKind.i64 x',Value.int IntKind.i64 y'] 50)).drew (λa'=>wpList _ _ _ _ a' ((W.alloc (Obj.cells #[Value.int IntKind.i64 x,Value.int IntKind.i64 y] 50)).alloc (Obj.cells #[Value.int IntKind.i64 x',Value.int IntKind.i64 y'] 50)).drew) _ _;generalize ((W.alloc (Obj.cells #[Value.int IntKind.i64 x,Value.int IntKind.i64 y] 50)).alloc (Obj.cells #[Value.int IntKind.i64 x',Value.int IntKind.i64 y'] 50)).drew=w3 at d1 d2 d3 d4 Z⊢
 still_step
 still_step
 still_step
 still_step
 still_call (z _)
 still_step
 still_step
 still_step
 still_step
 still_call (G _)
 refine wpStill_nil ?_
 go_wp2_with (go_at_call 165;refine (O _ _ (Qvb _ _ _ _).1 (Qvb _ _ _ _).2).mono ?_;rintro e w' ⟨rfl,rfl⟩)
 go_ret
 obtain⟨aa,rfl⟩:=Z;exact⟨rfl,1,_,by rw[alloc_eq_grow,grow_grow]⟩
def Tryz.cmpPlaced90(x y t x' y' t':Int)(W:World):Calls Tryz.prog 169 #[.agg #[.int .i64 x,.int .i64 y,.int .i64 t],.agg #[.int .i64 x',.int .i64 y',.int .i64 t']] W λe w'=>
 e= .returned (.int .i64 (Jl (x,y) (x',y')))/\ ∃q G,w'=grow (W.drewN q) G:=by
 have z:=λW'=>Tryz.cmpPoints x y x' y' W'
 generalize Jl (x,y) (x',y')=r at z⊢
 go_enter Tryz.func169,Tryz.ntmps169
 go_wp2_with (go_at_call 126;refine (z _).mono ?_;rintro e w' ⟨rfl,q,G,rfl⟩)
 go_ret
 exact⟨rfl,q,_,by rw[alloc_eq_grow,alloc_eq_grow,grow_grow];show grow (grow (W.drewN q) _) G=_;rw[grow_grow]⟩
end Go.Proofs
namespace Go.Ae
open Go.Proofs Go.Sort Go.Shelf
instance:Inhabited Ar:=⟨⟨⟨0,0⟩,0⟩⟩
def D1(x:Ar):List Value:=[.int .i64 x.At.X,.int .i64 x.At.Y,.int .i64 x.Tile]
def cfP(x y:Ar):Int:=Jl (x.At.X,x.At.Y) (y.At.X,y.At.Y)
def Qz0(x y:Ar):ltOf cfP x y=B6 x.At y.At:=by
 simp only[ltOf,cfP,Jl,Lib.compareInt,B6]
 grind
def swoP:SWO (ltOf cfP) where
 irrefl x:=by rw[Qz0];simp only[B6];grind
 trans x y z h1 h2:=by rw[Qz0] at*;simp only[B6] at*;grind
 ntrans x y z h1 h2:=by rw[Qz0] at*;simp only[B6] at*;grind
def Gc(l:List Ar):List Ar:=l.foldr (λx r=>EA x.At x.Tile r) []
def qO(x:Ar): ∀(l:List Ar),(EA x.At x.Tile l).Perm (x::l)
 |[]=>mB _
 |y::r=>by
  simp only[EA];split
  .exact mB _
  .exact ((qO x r).cons y).trans (List.Perm.swap x y r)
def cT: ∀(l:List Ar),(Gc l).Perm l
 |[]=>mB _
 |x::r=>(qO x (Gc r)).trans ((cT r).cons x)
def Quq{a b c:Ac}(z:B6 a b=true)(G:B6 c b=false):B6 c a=false:=by
 simp only[B6] at*;grind
def Qx3(x:Ar): ∀(l:List Ar),l.Pairwise (λa b=>B6 b.At a.At=false)->(EA x.At x.Tile l).Pairwise (λa b=>B6 b.At a.At=false)
 |[],_=>by simp[EA]
 |y::r,h=>by
  rw[Xu] at h;simp only[EA];split
  .rename_i O;rw[Xu,Xu];refine⟨λz G=> ?_,h⟩;have Q:B6 y.At x.At=false:=by simp only[B6] at*;grind
   rcases BO.1 G with rfl|G
   .exact Q
   .have:=h.1 z G
    exact Quq O this
  .rename_i O;rw[Xu];refine⟨λz G=> ?_,Qx3 x r h.2⟩;rcases (yM _ _ _ _).1 G with rfl|G
   .simpa using O
   .exact h.1 z G
def yT: ∀(l:List Ar),(Gc l).Pairwise (λa b=>B6 b.At a.At=false)
 |[]=>List.Pairwise.nil
 |x::r=>Qx3 x _ (yT r)
def uB(l:List Ar):(Gc l).length=l.length:=(cT l).length_eq
def SZ{l:List Ar}(h:(l.map Ar.At).Nodup){x y:Ar}(Z:x∈l)(hy:y∈l)(Q:x.At=y.At):x=y:=by
 induction l with
 |nil=>cases Z
 |cons z r ih=>
  rw[Bm,Jb] at h;rcases BO.1 Z with G|G<;>rcases BO.1 hy with O|O
  .rw[G,O]
  .exact absurd (show z.At∈r.map Ar.At by rw[<-G,Q];exact rY O) h.1
  .exact absurd (show z.At∈r.map Ar.At by rw[<-O,<-Q];exact rY G) h.1
  .exact ih h.2 G O
def yQ{l l':List Ar}(hd:(l.map Ar.At).Nodup)(hp:l'.Perm l)(hs:l'.Pairwise (λa b=>B6 b.At a.At=false)):l'=Gc l:=by
 refine Zdx (le:=λa b=>B6 b.At a.At=false) (λa b Q Z G O=> ?_) hs (yT l) (hp.trans (cT l).symm);refine SZ hd (hp.mem_iff.1 Q) ((cT l).mem_iff.1 Z) ?_;revert G O;obtain⟨⟨ax,ay⟩,at'⟩:=a;obtain⟨⟨bx,z⟩,bt⟩:=b;simp only[B6,Ac.mk.injEq]
 grind
def Ua(l:List Ar):List Value:=l.flatMap D1
def MD(l:List Ar):(Ua l).length=l.length*3:=by
 induction l with
 |nil=>rfl
 |cons x r ih=>simp only[Ua,H2,CS,Dp] at ih⊢;rw[ih];simp[D1];omega
def Ql5{ok:Nat->Prop}{hp:Nat->Option Obj}: ∀(l:List Ar) (L:List Value),rdr ok hp 3 (l.map Ar.c) L↔ ∃r,L=Ua l++r
 |[],L=>by simp[rdr,Ua]
 |x::r,L=>by
  simp only[Bm,rdr,Ql5 r,Ar.c,rdp,rd,Ua,H2];constructor
  .rintro⟨_,⟨v,z,rfl,rfl,Q,G,rfl,rfl,Z,O,rfl,rfl,_⟩,q,hq⟩;exact⟨q,by simp only[Mo,Jc] at hq;rw[hq];rfl⟩
  .rintro⟨q,rfl⟩;exact⟨rfl,⟨_,_,rfl,rfl,_,_,rfl,rfl,_,_,rfl,rfl,trivial⟩,q,rfl⟩
def MC: ∀(l:List Ar) (t:Nat),t<l.length*3->(Ua l)[t]? =some ((D1 (l[t/3]?.getD default))[t % 3]!)
 |[],t,h=>by simp at h
 |x::r,t,h=>by
  by_cases O:t<3
  .have:t=0\/t=1\/t=2:=by omega
   rcases this with rfl|rfl|rfl<;>simp[Ua,D1]
  .obtain⟨u,rfl⟩: ∃u,t=u+3:=⟨t - 3,by omega⟩;have z:(u+3)/3=u/3+1:=by omega
   have G:(u+3) % 3=u % 3:=by omega
   have ih:=MC r u (by simp at h;omega);rw[z,G,GD,<-ih];simp[Ua,D1]
def Qvu(l:List Ar):(flatK D1 3 l.toArray).toList=Ua l:=by
 apply Ja;intro t;by_cases z:t<l.length*3
 .rw[MC l t z];have G:t<(flatK D1 3 l.toArray).size:=by simp only[size_flatK,Py];exact z
  have O:=get_flatK D1 3 l.toArray t (by simpa using z);rw[GF,J4 G,<-getElem!_pos (flatK D1 3 l.toArray) t G,O];congr 3;simp[getElem!_def];cases l[t/3]? <;>rfl
 .have a1:(flatK D1 3 l.toArray).toList.length<=t:=by rw[FF,size_flatK,Py];omega
  have a2:(Ua l).length<=t:=by rw[MD];omega
  rw[Hy a1,Hy a2]
def srt.ca(_:List Ar):List AV:=[.own 0,.im (.fn 169 [] [])]
def srt.H0(a:List Ar):Au:=[(0,(true,.arr 136 3 (a.map Ar.c)))]
def srt.H1(a:List Ar):Au:=[(0,(true,.arr 136 3 ((Gc a).map Ar.c)))]
def srt.row:AO:=AM srt.ca srt.H0 1 (λa=>(a.map Ar.At).Nodup) (λ_=>true) (λ_=> .im (.tup [])) srt.H1 0
def srt.ok:AS 168 srt.row:=by
 rintro bn h nx K ⟨a,τ,U,KL,a0,rfl,O,hN,hK⟩;refine⟨S5 (by kernel_rfl),_,_,?_,hK⟩;intro C S vs R hW a9 bb bc aa aw;have ao:FW τ 1 nx 0=τ 0:=Ak (by omega);simp only[srt.ca,Bn,AV.ren,ao,AY,Aa,rd,rdl] at aa;obtain⟨v0,r0,hv,⟨ad,ai⟩,v1,r1,bi,⟨ac,cc,bl,aj,ak⟩,bj⟩:=aa;have aj:ac= #[]:=by apply RG;simpa using aj
 have ak:cc= #[]:=by apply RG;simpa using ak
 subst aj ak bj bi bl;have bm:vs= #[v0,.func (Xz 169) #[] #[]]:=by apply RG;simpa using hv
 subst bm;have hm:h (τ 0)=some (true,.arr 136 3 (a.map Ar.c)):=by
  have:=O.1
  rwa [ao] at this
 have av:Av (srt.H0 a) 0=true:=rfl;have Q:S.h (τ 0)=some (true,.arr 136 3 (a.map Ar.c)):=by
  rw[a9 (τ 0) (J6 _ (hN.u 0 av)),hm]
 have ax: ∀n,n∈KL↔n=τ 0:=by
  intro n;constructor
  .intro hn;obtain⟨j,h1,_,h3⟩:=hN.k1 n hn
   have:j=0:=by
    simp only[Av,srt.H0,hget] at h1;by_cases hj:j=0
    .exact hj
    .have:(0==j)=false:=by simpa using λh=>hj h.symm
     rw[this] at h1;cases h1
   rw[h3,this]
  .rintro rfl;exact hN.k2 0 av rfl
 obtain⟨m,hmm⟩: ∃m,m=τ 0:=⟨_,rfl⟩;rw[<-hmm] at Q ai ax;have aq:=uB a;have fin: ∀(w':World),Jv S m (.arr 136 3 ((Gc a).map Ar.c)) (S.ρ m) [m] w'->
  (BU (λn=>S.h m≠none\/n≠m) S (S.one m (.arr 136 3 ((Gc a).map Ar.c)) (S.ρ m) [m] w')->Ap (S.one m (.arr 136 3 ((Gc a).map Ar.c)) (S.ρ m) [m] w') (S.ρ m) (.arr 136 3 ((Gc a).map Ar.c)))->R (.returned (.tuple #[])) w':=by
  intro w' ad bh;have hp:=dJ hW ad;refine aw (.tuple #[]) _ (lF hW ad (bh hp)) ?_ ⟨hp.ok,λn _=>hp.nm n (.inl (by rw[Q];simp))⟩ ⟨#[],rfl,rfl⟩;funext n;simp only[A7.one,BD.appf,srt.H1,Cd,ao,hget,Ah.ren,<-hmm];by_cases hn:n=m
  .subst hn;simp
  .have h1:(m==n)=false:=by simpa using λh=>hn h.symm
   have h2:KL.contains n=false:=by
    rw[<-RE,J5,ax];exact hn
   simp only[h1,Co,h2,hn,CY,BN]
 have z:=ai _ Q;have Z:=hW.obj _ _ Q;have az:=λG=>hW.loc m _ G Q
 cases hρ:S.ρ m with
 |none=>
  rw[hρ] at z Z;simp only[Ap] at Z;have ha:a=[]:=by simpa using Z.2
  subst ha;simp only at z;rw[z,YK (by decide)];refine (AnyF.slices_SortFunc_none Tryz.sortPl none 0 (.func (.func 169) #[] #[]) S.w).mono ?_;rintro e w' ⟨rfl,rfl⟩;refine fin S.w (XI Q (λl hl=>by rw[hρ] at hl;cases hl) rfl rfl) (λ_=> ?_);rw[hρ];exact⟨Cx _,rfl⟩
 |some G=>
  rw[hρ] at z Z;simp only[Ap,Ah.len] at Z z;obtain⟨g1,g2,cv,g3,g4,g5⟩:=Z;obtain⟨an,bp⟩:=az G hρ;rw[Ql5] at g5;obtain⟨ba,g5⟩:=g5;simp only[FN] at g1 g2 z;have O:S.w.heap[G.b]? =some (.cells cv 136 (0,0)):=g3;have bo:G.p+a.length*3<=cv.size:=by omega
  have hF:(flatK D1 3 a.toArray).size=a.length*3:=by simp
  have hget: ∀j,j<a.length*3->cv[G.p+j]? =some ((flatK D1 3 a.toArray)[j]!):=by
   intro j hj;have h1:(cv.toList.drop G.p)[j]? =(Ua a++ba)[j]? :=by rw[g5]
   rw[Ib,GF,Eh (by rw[MD];exact hj),<-Qvu,GF] at h1;rw[h1,J4 (by rw[hF];exact hj),getElem!_pos _ _ (by rw[hF];exact hj)]
  have hH:HoldsK D1 3 S.w G.b G.p a.toArray:=by
   intro j hj;rw[hF] at hj;refine⟨?_,?_⟩
   .simp only[World.cell?,O,eQ,Dx,CY,id];exact hget j hj
   .simp only[World.frozen?,O];simp
  have hc:=AnyQ.slices_SortFunc Tryz.sortPl 3 Tryz.isAgg136 Tryz.sizeOf136 D1 (λ_=>rfl) (λx v hv=>by simp[D1] at hv;rcases hv with rfl|rfl|rfl<;>rfl) cfP swoP 169 #[] G.b G.p G.cap a.toArray S.w
   (xR (S5 (by kernel_rfl))) (λm os dk hs x y=>Tryz.cmpPlaced90 _ _ _ _ _ _ _) hH an (by simp only[Py,KH] at g1⊢;omega)
  rw[z,YK (by decide)];refine hc.mono ?_;rintro e w' ⟨rfl,d',n,os,af,au,rfl⟩;have a8:d'.size=a.length:=af.1;have bf:d'.toList=Gc a:=by
   refine yQ a0 ?_ ?_
   .have:=af.2.2
    rwa [show d'.extract 0 a.toArray.size=d' by rw[Py,<-a8];exact ZdG,show a.toArray.extract 0 a.toArray.size=a.toArray from ZdG] at this
   .rw[ZcV];intro i j hi hj bg
    have:=au i j (Cx _) bg (by rw[Py,<-a8];simpa using hj)
    rw[Qz0,getElem!_pos d' i (by simpa using hi),getElem!_pos d' j (by simpa using hj)] at this;simpa using this
  obtain rfl:d'=(Gc a).toArray:=by apply RG;rw[bf]
  have ah:(flatK D1 3 (Gc a).toArray).size=a.length*3:=by simp[aq]
  have am:(flatK D1 3 (Gc a).toArray).toList.length=a.length*3:=by rw[FF,ah]
  have ag:S.w.heap.size<=(sortWorldK D1 3 S.w G.b G.p n (Gc a).toArray os).heap.size:=by
   simp[sortWorldK,grow,putRowK,Sort.ahead]
  have hb: ∀b,b<S.w.heap.size->(sortWorldK D1 3 S.w G.b G.p n (Gc a).toArray os).heap[b]? =if G.b=b then S.w.heap[b]?.map (onCells (putCells id G.p (flatK D1 3 (Gc a).toArray))) else S.w.heap[b]? :=by
   intro b hb;have e0:b<(putRowK D1 3 (Sort.ahead S.w n) G.b G.p (Gc a).toArray).heap.size:=by simpa[putRowK,Sort.ahead] using hb
   simp only[sortWorldK,grow];rw[Zdk e0];simp only[putRowK,putRow,mapBlock,Sort.ahead,ZdH]
  refine fin _ ⟨rfl,rfl,rfl,ag,?_,.inl (by simp),?_,?_,?_⟩ ?_
  .intro b bd be;rw[hb b bd,Ad (be m _ G (by simp) Q hρ)]
  .intro lo ay;rw[hρ] at ay;obtain rfl:=A8 ay;exact⟨HO an ag,.inr ⟨m,_,G,by simp,Q,hρ,rfl⟩⟩
  .intro f hf;rw[Q] at hf;obtain rfl:=A8 hf;exact⟨rfl,rfl,by simp[Ah.len,aq]⟩
  .intro n' f _ ab;rw[Q] at ab;cases ab
  .intro _;rw[hρ];simp only[Ap,FN,aq];refine⟨g1,g2,putCells id G.p (flatK D1 3 (Gc a).toArray) cv,?_,by simpa[putCells] using g4,?_⟩
   .simp only[A7.one,A7.hp];rw[hb G.b an,Ak rfl,O];rfl
   .rw[Ql5];refine⟨(cv.toList.drop (G.p+a.length*3)),?_⟩;apply Ja;intro t;rw[Ib,GF,putCells,Zeg,ah,<-Qvu];by_cases ht:t<a.length*3
    .rw[Eh (by rw[am];exact ht),GF,J4 (show G.p+t<cv.size by omega),J4 (by rw[ah];exact ht)];simp only[CR,id];rw[Ak ⟨by omega,by omega⟩,rJ,getElem!_pos _ _ (by rw[ah];exact ht)]
    .rw[Fe (by rw[am];omega),am,Ib,GF,show G.p+a.length*3+(t - a.length*3)=G.p+t by omega];cases cv[G.p+t]? with
     |none=>rfl
     |some x=>simp only[CR];rw[Ad (by omega)]
end Go.Ae
namespace Go.Ae
open Go.Proofs
def asmOf.fv(a:(List Ar)):Al:=(λl=>⟨Gc l⟩) a
def asmOf.row:AO:=vK (b1 (qS Ar.d_le Ar.c_n)) (rA Al.d_le) (λa=>(a.map Ar.At).Nodup/\a.length<=1000000) asmOf.fv
def asmOf.q:=B2 (R:=asmOf.row) rfl
def asmOf.ok:AS 127 asmOf.row:=by
 refine vw (tC clonC.ok (tC srt.ok tN)) Tryz.func127 ?_;intro a z;simp only[Tryz.f127,Option.getD];simp only[ZZ,simprocAttr,Ab,asmOf.fv];refine AM.os a [] z.2 (λj=>by simp[Av,hget]) rfl rfl ?_ ?_
 .simp only[ZZ,simprocAttr,Ab,asmOf.fv,clonC.ca,EJ,Kt]
 simp only[ZZ,simprocAttr,Ab,asmOf.fv,clonC.H1,sub];refine AM.os a [1] z.1 (λj=> ?_) rfl rfl ?_ ?_
 .simp only[Av,srt.H0,hget];by_cases G:j=0
  .subst G;simp
  .have:(0==j)=false:=by simpa using λh=>G h.symm
   rw[this];simp;omega
 .simp only[ZZ,simprocAttr,Ab,asmOf.fv,srt.ca,srt.H0,EJ];exact⟨rfl,rfl⟩
 simp only[ZZ,simprocAttr,Ab,asmOf.fv,srt.H1,sub,Cl,Hz]
def DS(q:Ac×Int):Ar:=⟨q.1,q.2⟩
def VR(m:J0)(t:List (Ac×Int))(x:Ar):Option (List (Ac×Int)):=
 if (m.Labels[x.Tile.toNat]?.getD 0)<0 then some t
 else if (BP t (jZ x.At m.Scale).1).getD (m.Labels[x.Tile.toNat]?.getD 0)≠(m.Labels[x.Tile.toNat]?.getD 0) then none
 else some (Bu t (jZ x.At m.Scale).1 (m.Labels[x.Tile.toNat]?.getD 0))
def PO{l l':List Ar}(hp:l.Perm l')(hd:(l'.map Ar.At).Nodup)(p:Ac):l.find? (λx=>decide (x.At=p))=l'.find? (λx=>decide (x.At=p)):=by
 cases h1:l.find? (λx=>decide (x.At=p)) with
 |none=>
  symm;rw[lX] at h1⊢;exact λx O=>h1 x (hp.mem_iff.2 O)
 |some x=>
  have O:=hp.mem_iff.1 (rO h1);have z:=Xr h1;cases h2:l'.find? (λx=>decide (x.At=p)) with
  |none=>
   rw[lX] at h2;exact absurd z (h2 x O)
  |some y=>
   have Q:=rO h2;have G:=Xr h2;rw[SZ hd O Q];rw[BA] at z G;rw[z,G]
def Nq(p:Ac): ∀(t:List (Ac×Int)),(((t.map DS).find? (λx=>decide (x.At=p))).map Ar.Tile)=BP t p
 |[]=>rfl
 |(k,w)::r=>by
  simp only[Bm,Zeu,DS,BP];by_cases h:k=p
  .subst h;simp
  .have z:decide (k=p)=false:=by simpa using h
   have G: ¬p=k:=λO=>h O.symm
   rw[z,Ad G];exact Nq p r
def XG(t:List (Ac×Int)):(t.map DS).map Ar.At=t.map Prod.fst:=by simp[DS]
def fI{t:List (Ac×Int)}(hd:(t.map Prod.fst).Nodup)(p:Ac):Ba ⟨Gc (t.map DS)⟩ p=(BP t p).getD (-1):=by
 have z:((t.map DS).map Ar.At).Nodup:=by rw[XG];exact hd
 simp only[Ba];rw[PO (cT _) z,Nq]
def qK{t:List (Ac×Int)}{p:Ac}(v:Int)(h:BP t p=none):Bu t p v=t++[(p,v)]:=by
 induction t with
 |nil=>rfl
 |cons q r ih=>
  obtain⟨k,w⟩:=q;simp only[BP] at h;split at h
  .cases h
  .rename_i hn;simp only[Bu,Ad hn,CP];rw[ih h]
def Rm{t:List (Ac×Int)}{p:Ac}{v:Int}(h:BP t p=some v):Bu t p v=t:=by
 induction t with
 |nil=>cases h
 |cons q r ih=>
  obtain⟨k,w⟩:=q;simp only[BP] at h;simp only[Bu];split at h
  .rename_i z;obtain rfl:=A8 h;rw[Ak z,z]
  .rename_i hn;rw[Ad hn,ih h]
def Qyz{t:List (Ac×Int)}{p:Ac}(h:BP t p=none):p∉t.map Prod.fst:=by
 induction t with
 |nil=>simp
 |cons q r ih=>
  obtain⟨k,w⟩:=q;simp only[BP] at h;split at h
  .cases h
  .rename_i hn;simp only[Bm,BO,Zf];exact⟨hn,ih h⟩
def XE{t:List (Ac×Int)}{p:Ac}{v:Int}(h:BP t p=some v):(p,v)∈t:=by
 induction t with
 |nil=>cases h
 |cons q r ih=>
  obtain⟨k,w⟩:=q;simp only[BP] at h;split at h
  .rename_i z;obtain rfl:=A8 h;rw[z];exact Ct ..
  .exact Cs _ (ih h)
structure RM(t:List (Ac×Int))(o:Al)(k:Nat):Prop where
 nd:(t.map Prod.fst).Nodup
 pos: ∀q∈t,0<=q.2
 eq:o=⟨Gc (t.map DS)⟩
 len:t.length<=k
def RM.step{m:J0}{t:List (Ac×Int)}{o:Al}{k:Nat}(h:RM t o k)(x:Ar):(∃t' o',VR m t x=some t'/\VU m o x=some o'/\RM t' o' (k+1))\/(VR m t x=none/\VU m o x=none):=by
 obtain⟨nd,pos,rfl,len⟩:=h;simp only[VR,VU];generalize m.Labels[x.Tile.toNat]?.getD 0=n;generalize (jZ x.At m.Scale).1=p;by_cases c1:n<0
 .rw[Ak c1,Ak c1];exact .inl ⟨_,_,rfl,rfl,nd,pos,rfl,by omega⟩
 rw[Ad c1,Ad c1,fI nd];cases hq:BP t p with
 |none=>
  simp only[Option.getD_none];rw[Ad (by simp),Ad (by omega),Ak (by omega)];refine .inl ⟨_,_,rfl,rfl,?_,?_,?_,?_⟩
  .rw[qK n hq,Fg,RD];refine⟨nd,by simp,?_⟩;intro a Z b O z;simp only[Bm,BY,BN] at O;exact Qyz hq (by rw[<-O,<-z];exact Z)
  .intro q G;rw[qK n hq] at G;rcases B5.1 G with G|G
   .exact pos q G
   .simp only[BN] at G;subst G;simp only;omega
  .rw[YE,qK n hq];congr 1;have aa:(((t++[(p,n)]).map DS).map Ar.At).Nodup:=by
    rw[XG,Fg,RD];refine⟨nd,by simp,?_⟩;intro a Z b O z;simp only[Bm,BY,BN] at O;exact Qyz hq (by rw[<-O,<-z];exact Z)
   refine yQ aa ?_ (Qx3 ⟨p,n⟩ _ (yT _));refine (qO ⟨p,n⟩ _).trans ?_;rw[Fg];refine ((cT _).cons _).trans ?_;exact (ZeB _ _).symm
  .rw[qK n hq];simp;omega
 |some v=>
  simp only[AJ];have hv:=pos _ (XE hq);simp only at hv;by_cases Q:v=n
  .subst Q;rw[Ad (by simp),Ad (by simp),Ad (by omega),Rm hq];exact .inl ⟨_,_,rfl,rfl,nd,pos,rfl,by omega⟩
  .rw[Ak Q,Ak ⟨hv,Q⟩];exact .inr ⟨rfl,rfl⟩
def Vs{l:List Ar}(h:(l.map Ar.At).Nodup): ∀x∈l,∀y∈l,x.At=y.At->x=y:=by
 induction l with
 |nil=>intro x Q;cases Q
 |cons z r ih=>
  simp only[Bm,Jb] at h;intro x Q y hy e;rcases BO.1 Q with ex|G<;>rcases BO.1 hy with Z|O
  .rw[ex,Z]
  .exact absurd (BZ.2 ⟨y,O,by rw[<-e,ex]⟩) h.1
  .exact absurd (BZ.2 ⟨x,G,by rw[e,Z]⟩) h.1
  .exact ih h.2 x G y O e
def GS{s:AI}{a:Al}(h: ∀x∈a.Tiles,GY s x.Tile)(p:Ac):BB (λx=>decide (x.At=p)) 0 a.Tiles<0↔Ba a p<0:=by
 simp only[Ba];rcases Xa (λx=>decide (x.At=p)) a.Tiles 0 with ⟨z,G⟩|⟨i,x,z,G,O⟩
 .rw[z,G];simp
 .rw[z,G]
  have:=(h x (Bd O)).1
  simp only[CR,AJ];omega
def RM.put{t:List (Ac×Int)}{o:Al}{k:Nat}(h:RM t o k){p:Ac}{v:Int}(hv:0<=v)(hn:BP t p=none):RM (Bu t p v) (Ci o p v) (k+1):=by
 obtain⟨nd,pos,rfl,len⟩:=h;have G:((t++[(p,v)]).map Prod.fst).Nodup:=by
  rw[Fg,RD];refine⟨nd,by simp,?_⟩;intro a ha b Z O;simp only[Bm,BY,BN] at Z;exact Qyz hn (by rw[<-Z,<-O];exact ha)
 rw[qK v hn];refine⟨G,?_,?_,by simp;omega⟩
 .intro q z;rcases B5.1 z with z|z
  .exact pos q z
  .simp only[BN] at z;subst z;exact hv
 .rw[YE];congr 1;have Q:(((t++[(p,v)]).map DS).map Ar.At).Nodup:=by rw[XG];exact G
  refine yQ Q ?_ (Qx3 ⟨p,v⟩ _ (yT _));refine (qO ⟨p,v⟩ _).trans ?_;rw[Fg];refine ((cT _).cons _).trans ?_;exact (ZeB _ _).symm
def RM.at{t:List (Ac×Int)}{o:Al}{k:Nat}(h:RM t o k):CO t=Ba o:=by
 funext p;rw[h.eq,fI h.nd];rfl
def RM.size{t:List (Ac×Int)}{o:Al}{k:Nat}(h:RM t o k):o.Tiles.length=t.length:=by
 rw[h.eq];simp only[uB,FN]
def tZ: ∀(l t:List Ar),((t++l).map Ar.At).Nodup->l.foldl (λu x=>Bu u x.At x.Tile) (t.map λx=>(x.At,x.Tile))=(t++l).map λx=>(x.At,x.Tile)
 |[],t,_=>by simp
 |x::r,t,h=>by
  have O:BP (t.map λx=>(x.At,x.Tile)) x.At=none:=by
   cases hq:BP (t.map λx=>(x.At,x.Tile)) x.At with
   |none=>rfl
   |some v=>
    exfalso;obtain⟨y,Q,G⟩:=BZ.1 (XE hq);have z:y.At=x.At:=BW Prod.fst G;rw[Fg,RD] at h;exact h.2.2 _ (rY Q) _ (rY (Ct ..)) z
  rw[mH,qK _ O]
  have:=tZ r (t++[x]) (by simpa using h)
  simpa using this
def RM.of{a:Al}(hf:Dw none a.Tiles=true)(hp: ∀x∈a.Tiles,0<=x.Tile):RM (CG a.Tiles) a a.Tiles.length:=by
 have hn:=Qix hf;have e:CG a.Tiles=a.Tiles.map λx=>(x.At,x.Tile):=by
  have:=tZ a.Tiles [] (by simpa using hn)
  simpa[CG] using this
 have G:(a.Tiles.map λx=>(x.At,x.Tile)).map DS=a.Tiles:=by
  rw[Xw];exact List.map_id' _
 rw[e];refine⟨by rw[Xw];exact hn,?_,?_,by simp⟩
 .intro q hq;obtain⟨x,hx,rfl⟩:=BZ.1 hq;exact hp x hx
 .rw[G];have Z:=(jN _ _ hf).2;have hw:a.Tiles.Pairwise (λx y=>B6 y.At x.At=false):=by
   rw[ZcV];intro i j O Q z
   have:=Z i j a.Tiles[i] a.Tiles[j] z (Bk O) (Bk Q)
   simp only[B6] at this⊢
   grind
  rw[<-yQ hn (mB _) hw]
def nA{s:An}{a:Al}(h:CA s.Set a)(o:Aj):(Bz o.Tile 0 (s.Set.Tiles.length - 1) && HL s (Ba a) o.At o.Tile)=BX s a o:=by
 have z:decide (Ba a o.At<0)=decide (BB (λx=>decide (x.At=o.At)) 0 a.Tiles<0):=by rw[ZeX];exact (GS h.2 o.At).symm
 simp only[HL,BX,H6];rw[z];cases EU o.At<;>cases Bz o.Tile 0 (s.Set.Tiles.length - 1)<;>simp
def GO(s:An):List (Ac×Int)->List Aj->Nat->Al×Int×Int
 |t,[],_=>(⟨Gc (t.map DS)⟩,0,0)
 |t,o::r,i=>if (Bz o.Tile 0 (s.Set.Tiles.length - 1) && HL s (CO t) o.At o.Tile)=false then (⟨[]⟩,(i:Int),5) else if 500<=t.length then (⟨[]⟩,0,4) else GO s (Bu t o.At o.Tile) r (i+1)
def Dr(s:An):Al->List Aj->Nat->Al×Int×Int
 |a,[],_=>(a,0,0)
 |a,o::r,i=>if BX s a o=false then (⟨[]⟩,(i:Int),5) else if 500<=a.Tiles.length then (⟨[]⟩,0,4) else Dr s (Ci a o.At o.Tile) r (i+1)
def uA{s:An}(hs:s.Set.Tiles.length<=160): ∀(l:List Aj) (t:List (Ac×Int)) (a:Al) (k i:Nat),RM t a k->CA s.Set a->GO s t l i=Dr s a l i
 |[],t,a,k,i,h,_=>by simp only[GO,Dr,h.eq]
 |o::r,t,a,k,i,h,O=>by
  simp only[GO,Dr];rw[h.at,nA O,<-h.size];by_cases c1:BX s a o=false
  .rw[Ak c1,Ak c1]
  rw[Ad c1,Ad c1];by_cases z:500<=a.Tiles.length
  .rw[Ak z,Ak z]
  rw[Ad z,Ad z];rw[Gi] at c1;simp only[BX,AZ,BA] at c1;obtain⟨d1,G,d3,_⟩:=c1;have aa:=Qma d3;have hv:0<=o.Tile:=by
   simp only[Bz,AZ,BA] at G;exact G.1
  have Z:BP t o.At=none:=by
   have h1:CO t o.At=Ba a o.At:=congrFun h.at o.At;have h2:=(GS O.2 o.At).1 d3;cases hq:BP t o.At with
   |none=>rfl
   |some v=>
    exfalso;have h3:=h.pos _ (XE hq);simp only[CO,hq,AJ] at h1;simp only at h3;omega
  have hw:Bz o.Tile 0 159=true:=by
   simp only[Bz,AZ,BA] at G⊢;omega
  refine uA hs r _ _ (k+1) (i+1) (h.put hv Z) ⟨?_,?_⟩
  .rw[YE];exact Qki d1 hw _ none O.1 (λq hq=>by cases hq) aa
  .intro x Q;rw[YE] at Q;rcases (yM _ _ _ _).1 Q with rfl|Q
   .simp only[Bz,AZ,BA] at G;exact⟨hv,by simp only;omega⟩
   .exact O.2 x Q
def l03Own.fv(a:Al):Al:=(λa=>a) a
def l03Own.row:AO:=vK (b1 (qP 1 Al.d_le)) (rA Al.d_le) (λa=>a.Tiles.length<=1000000) l03Own.fv
def l03Own.q:=B2 (R:=l03Own.row) rfl
def l03Own.ok:AS 86 l03Own.row:=by
 refine vw tN Tryz.func86 ?_;intro a z;simp only[Tryz.f86,Option.getD];simp only[ZZ,simprocAttr,Ab,l03Own.fv];exact⟨by simp[B7,B8,D.one,Ar.c],by omega⟩
def Qac8{s:An}{l:List Aj}{i:Nat}{o:Aj}(z:l[i]? =some o)(b:Al):Dr s b (l.drop i) i=if BX s b o=false then (⟨[]⟩,(i:Int),5) else if 500<=b.Tiles.length then (⟨[]⟩,0,4) else Dr s (Ci b o.At o.Tile) (l.drop (i+1)) (i+1):=by
 rw[Gr z,Dr]
def KV{s:An}{b:Al}(hs:s.Set.Tiles.length<=160)(Q:CA s.Set b){o:Aj}(h:BX s b o=true):CA s.Set (Ci b o.At o.Tile):=by
 simp only[BX,AZ,BA] at h;obtain⟨Z,O,d3,_⟩:=h;have G:=Qma d3;have hw:Bz o.Tile 0 159=true:=by
  simp only[Bz,AZ,BA] at O⊢;omega
 refine⟨?_,?_⟩
 .rw[YE];exact Qki Z hw _ none Q.1 (λq hq=>by cases hq) G
 .intro x z;rw[YE] at z;rcases (yM _ _ _ _).1 z with rfl|z
  .simp only[Bz,AZ,BA] at O;exact⟨by simp only;omega,by simp only;omega⟩
  .exact Q.2 x z
def l08Play.fv(a:An×(List Aj)):Al×Int×Int:=(λs l=>Dr s s.Seed l 0) (a.1) (a.2)
def l08Play.row:AO:=vK (b2 (qP 4 An.d_le) (qS Aj.d_le Aj.c_n)) (r3 (rA Al.d_le) rI rI) (λa=>BK a.1.Set/\CA a.1.Set a.1.Seed/\a.1.Set.Tiles.length<=160/\a.1.Seed.Tiles.length<=1000000) l08Play.fv
def l08Play.q:=B2 (R:=l08Play.row) rfl
def Yay:=J @l08Play.fv.eq_1<|J @l03Own.q<|J @l03Own.fv.eq_1<|J @l08Can.q<|J @l08Can.fv.eq_1<|J @l08Attach.q @l08Attach.fv.eq_1
def l08Play.ok:AS 110 l08Play.row:=by
 refine vw (tC l03Own.ok (tC l08Can.ok (tC l08Attach.ok tN))) Tryz.func110 ?_;intro a G;simp only[Tryz.f110,Option.getD];simp only[ZZ,simprocAttr,Ab,Yay];obtain⟨s,l⟩:=a;simp only at G⊢;obtain⟨h1,h2,h3,h4⟩:=G;refine⟨h4,?_⟩;refine Bc.old ⟨{k:Nat×Al//k.1<=l.length/\CA s.Set k.2/\Dr s s.Seed l 0=Dr s k.2 (l.drop k.1) k.1},λk=>⟨[(8,.im (.int .i64 k.1.1)),(7,.ptr 2 0),(6,.im (.int .i64 0)),(5,.im (.int .i64 0)),(4,.ptr 1 0),(0,.ptr 0 0),(1,.im (.sl false 3 (l.map Aj.c)))],[(2,(true,.cells 30 [.im (.sl false 3 (k.1.2.Tiles.map Ar.c))])),(1,(true,.cells 30 [.im (.sl true 0 [])])),(0,(false,.view (An.c s)))],3⟩,λk=>l.length - k.1.1,λk=>⟨by simp[ZG],AW _⟩,⟨⟨(0,s.Seed),by simp[h2]⟩,by simp only[ZZ,simprocAttr,Ab,Yay,sub]⟩,λk=> ?_⟩;obtain⟨⟨k,b⟩,aa,O,z⟩:=k;simp only at aa O z;simp only[ZZ,simprocAttr,Ab,Yay,sub,AQ];intro hn;refine⟨λZ=>⟨Z,λx hx=>⟨⟨h1,O⟩,?_⟩⟩,λZ=> ?_⟩
 .rw[Qac8 hx] at z;have e:(EU x.At && (Bz x.Tile 0 ((s.Set.Tiles.length:Int) - 1) && (decide (BB (λy=>decide (y.At=x.At)) 0 b.Tiles<0) && decide (s.Temperature<=K0 s.Set b x.At x.Tile 4))))=BX s b x:=rfl;simp only[e];refine⟨λc1=> ?_,λc1=>⟨Z,λy hy=> ?_⟩⟩
  .rw[z,Ak c1]
  obtain rfl:x=y:=A8 (hx.symm.trans hy);rw[Ad c1] at z;by_cases Q:500<=b.Tiles.length
  .have q:He b x=(⟨[]⟩,4):=Ak Q;rw[q,z,Ak Q];exact⟨λ_=>rfl,λh=>(h (by decide)).elim⟩
  .have q:He b x=(Ci b x.At x.Tile,0):=Ad Q;rw[q];rw[Ad Q] at z;rw[Gi] at c1;exact⟨λh=>(h rfl).elim,λ_=>⟨⟨(k+1,Ci b x.At x.Tile),by simp only;omega,KV h3 O c1,z⟩,by simp only;omega,by rw[AF (by omega) (by omega)];simp only;omega,rfl⟩⟩
 .rw[z,Ei (by omega),Dr]
def Br(s:An)(l:List Aj):Al×Int×Int:=if FL s=false then (⟨[]⟩,0,1) else if 500<l.length then (⟨[]⟩,0,2) else Dr s s.Seed l 0
def Gl{s:An}(h:FL s=true):(BK s.Set/\CA s.Set s.Seed/\s.Set.Tiles.length<=160/\s.Seed.Tiles.length<=1000000)/\Gb s.Set=true/\La s.Set s.Seed=true:=by
 simp only[FL,AZ] at h;obtain⟨z,G,_⟩:=h;have O:=WV G;have Q:=Qge z;have Z:=z;simp only[Gb,Bz,AZ,BA] at Z;exact⟨⟨Q,O.1,by omega,by omega⟩,z,G⟩
def PlayS_.fv(a:An×(List Aj)):Al×Int×Int:=(Br) (a.1) (a.2)
def PlayS_.row:AO:=vK (b2 (qR An.d_le) (qS Aj.d_le Aj.c_n)) (r3 (rA Al.d_le) rI rI) (λa=>True) PlayS_.fv
def PlayS_.q:=B2 (R:=PlayS_.row) rfl
def PlayS_.ok:AS 119 PlayS_.row:=by
 refine vw (tC l08Ok.ok (tC l08Play.ok tN)) Tryz.func119 ?_;intro a G;simp only[Tryz.f119,Option.getD];simp(disch:=omega)only[ZZ,simprocAttr,Ab,PlayS_.fv,l08Ok.q,l08Ok.fv,l08Play.q,l08Play.fv];by_cases c1:FL a.1=false
 .rw[Ak c1];simp only[Br];rw[Ak c1]
 rw[Ad c1];intro _;by_cases z:500<a.2.length
 .rw[Ak (by omega)];simp only[Br];rw[Ad c1,Ak z]
 rw[Ad (by omega)];rw[Gi] at c1;refine⟨(Gl c1).1,?_⟩;simp only[Br];rw[Ad (by rw[c1];decide),Ad z]
def l10Asked.fv(a:An×(List Aj)):Int:=(λs l=>(Br s l).2.2) (a.1) (a.2)
def l10Asked.row:AO:=vK (b2 (qP 4 An.d_le) (qS Aj.d_le Aj.c_n)) rI (λa=>True) l10Asked.fv
def l10Asked.q:=B2 (R:=l10Asked.row) rfl
def l10Asked.ok:AS 62 l10Asked.row:=by
 refine vw (tC PlayS_.ok tN) Tryz.func62 ?_;intro a z;simp only[Tryz.f62,Option.getD];simp(disch:=omega)only[ZZ,simprocAttr,Ab,l10Asked.fv,PlayS_.q,PlayS_.fv]
def BV(l:List Aj)(o:List Int):List Aj:=o.map λk=>(l[k.toNat]?).getD ⟨⟨0,0⟩,0⟩
def oZ{s:An}{l:List Aj}(h:(Br s l).2.2=0):FL s=true/\l.length<=500:=by
 simp only[Br] at h;split at h
 .simp at h
 rename_i c1;split at h
 .simp at h
 .rw[Gi] at c1;exact⟨c1,by omega⟩
def Qwf{A B:Type}(f:A->B): ∀(l:List A) (i:Nat),(l.map f).eraseIdx i=(l.eraseIdx i).map f
 |[],_=>rfl
 |_::_,0=>rfl
 |x::r,i+1=>by simp only[Bm,Zdc,Qwf f r i]
def Qqq{A:Type}: ∀(l:List A) (i:Nat) (x:A),l[i]? =some x->(x::l.eraseIdx i).Perm l
 |[],i,x,h=>by simp at h
 |y::r,0,x,h=>by
  simp only[Gw,AP] at h;subst h;exact mB _
 |y::r,i+1,x,h=>by
  rw[GD] at h;rw[Zdc];exact (List.Perm.swap y x _).trans ((Qqq r i x h).cons y)
def Kb(c:Dv)(p:Ac)(t:Int):Dv:=⟨c.Sys,Bu c.Tl p t,Hb c.Sys (CO (Bu c.Tl p t)) (Eb c.Op p) p 4⟩
def NI{s:AI}{t:List (Ac×Int)}{p:Ac}{v:Int}(h:ZQ s (CO t))(z:GY s v):ZQ s (CO (Bu t p v)):=by
 intro q hq;simp only[CO,rC] at hq⊢;by_cases c:q=p
 .rw[Ak c];exact z
 .rw[Ad c] at hq⊢;exact h q hq
def putC.ca(a:Dv×Ac×Int):List AV:=[.ptr 0 0,.im (.agg [.int .i64 a.2.1.X,.int .i64 a.2.1.Y]),.im (.int .i64 a.2.2)]
def putC.H1(a:Dv×Ac×Int):Au:=[(1,(true,.map ⟨true,[.int .i64,.int .i64]⟩ ((Kb a.1 a.2.1 a.2.2).Tl.map F3))),(2,(true,.map ⟨true,[.int .i64,.int .i64]⟩ ((Kb a.1 a.2.1 a.2.2).Op.map DG)))]
def IF(j:Nat):Bool:=j==1||j==2
def putC.row:AO:=AM putC.ca (λa=>B0 a.1) 3 (λa=>OJ a.1/\GZ a.2.1/\GY a.1.Sys.Set a.2.2) IF (λ_=> .im (.tup [])) putC.H1 0
def putC.ok:AS 70 putC.row:=by
 refine ow (tC lookC.ok tN) Tryz.func70 (exB:=λ_=>false) (R:=λ_ r=>r= .im (.tup [])) (λ_=>rfl)
  (λa=>by simp[putC.ca,B0,Cf,putC.H1,IF,AL,AV.bel,AH,Cz,Df,Ah.nms,AE,AV.nms,Av,hget]) (λa p hp=> ?_) (λa r h=>by subst h;exact ED.refl _) ?_
 rotate_left
 intro a G;simp only[Tryz.f70,Option.getD,putC.ca,B0,Cf,putC.H1,IF];simp only[ZZ,simprocAttr,Ab,Az,putC.ca,B0,Cf,putC.H1,IF];obtain⟨z,O,Q⟩:=G;rw[WJ,TM];have hq:OJ ⟨a.1.Sys,Bu a.1.Tl a.2.1 a.2.2,Eb a.1.Op a.2.1⟩:=⟨z.1,NI z.2.1 Q,z.2.2⟩;refine AM.os (⟨a.1.Sys,Bu a.1.Tl a.2.1 a.2.2,Eb a.1.Op a.2.1⟩,a.2.1) [0,1,2] ⟨hq,O⟩ (λj=>Ij _ j) rfl rfl ?_ ?_
 .simp only[ZZ,simprocAttr,Ab,Az,putC.ca,B0,Cf,putC.H1,IF,lookC.ca,B0,Cf,Bt]
 .simp only[ZZ,simprocAttr,Ab,Az,putC.ca,B0,Cf,putC.H1,IF,lookC.H1,Qb,sub,Kb]
 simp[putC.H1] at hp;rcases hp with rfl|rfl
 .exact .inl ⟨by omega,rfl,rfl⟩
 .exact .inl ⟨by omega,rfl,rfl⟩
def asmC.ca(_:Dv):List AV:=[.ptr 0 0]
def asmC.H1(a:Dv):Au:=[(1,(false,.map ⟨true,[.int .i64,.int .i64]⟩ (a.Tl.map F3)))]
def UG(j:Nat):Bool:=j==1
def P6{t:List (Ac×Int)}{l:List Ar}(hd:(t.map Prod.fst).Nodup)(h:l.Perm (t.map DS)):Gc l=Gc (t.map DS)/\(l.map Ar.At).Nodup/\l.length=t.length:=by
 have z:((t.map DS).map Ar.At).Nodup:=by rw[XG];exact hd
 refine⟨yQ z ((cT l).trans h) (yT l),(h.map Ar.At).nodup_iff.2 z,by rw[h.length_eq,FN]⟩
def P5(t:List (Ac×Int)):Al:=⟨Gc (t.map DS)⟩
def asmC.row:AO:=AM asmC.ca B0 3 (λa=>(a.Tl.map Prod.fst).Nodup/\a.Tl.length<=100000) UG (λa=> .im (.agg (Al.c (P5 a.Tl)))) asmC.H1 0
def Yaz:=J @asmOf.q @asmOf.fv.eq_1
def asmC.ok:AS 71 asmC.row:=by
 refine ow (tC asmOf.ok tN) Tryz.func71 (exB:=λ_=>false) (R:=λa r=>r= .im (.agg (Al.c (P5 a.Tl)))) (λ_=>rfl)
  (λa=>by simp[asmC.ca,B0,Cf,asmC.H1,UG,AL,AV.bel,AH,Cz,Df,Ah.nms,AE,AV.nms,Av,hget]) (λa p hp=> ?_) (λa r h=>by subst h;exact ED.refl _) ?_
 rotate_left
 intro a G;simp only[Tryz.f71,Option.getD,asmC.ca,B0,Cf,asmC.H1,UG];simp only[ZZ,simprocAttr,Ab,Yaz,Az,asmC.ca,B0,Cf,asmC.H1,UG];obtain⟨ab,ag⟩:=G;refine Bc.ren ⟨{s:Option (D×D)×List (Ac×Int)×List Ar//(s.2.2++s.2.1.map DS).Perm (a.Tl.map DS)},λs=>⟨[(10,.it 5),(3,.own 6),(2,.ptr 3 0),(0,.ptr 0 0)],[(6,(true,.arr 136 3 (s.1.2.2.map Ar.c))),(5,(true,.iter s.1.1 (s.1.2.1.map F3))),(3,(true,.cells 30 [.im (.sl true 0 [])])),(0,(true,.cells 115 (Cf a.Sys))),(1,(false,.map ⟨true,[.int .i64,.int .i64]⟩ (a.Tl.map F3))),(2,(true,.map ⟨true,[.int .i64,.int .i64]⟩ (a.Op.map DG)))],7⟩,λs=>s.1.2.1.length,λs=>⟨by simp[ZG,Cf],by simp⟩,⟨⟨(none,a.Tl,[]),by simp⟩,[(6,some 4)],?_⟩,λs=> ?_⟩
 .simp only[Ao,Cf];simp only[ZZ,simprocAttr,Ab,Yaz,Az,asmC.ca,B0,Cf,asmC.H1,UG,BY]
  try simp
 obtain⟨⟨ad,left,z⟩,O⟩:=s;simp only at O;simp only[Cf];simp only[ZZ,simprocAttr,Ab,Yaz,Az,asmC.ca,B0,Cf,asmC.H1,UG,sub,AQ];refine⟨λhl=> ?_,λi p hp=> ?_⟩
 .have aa:left=[]:=by simpa using hl
  subst aa;rw[BY,CQ] at O;obtain⟨r1,r2,r3⟩:=P6 ab O;exact⟨⟨r2,by omega⟩,by simp only[P5,r1]⟩
 .rw[DX] at hp;cases hq:left[i]? with
  |none=>rw[hq] at hp;cases hp
  |some q=>
   rw[hq] at hp;obtain rfl:=A8 hp;obtain⟨⟨Z,qy⟩,Q⟩:=q;simp only[F3,Ac.c];simp only[ZZ,simprocAttr,Ab,Yaz,Az,asmC.ca,B0,Cf,asmC.H1,UG,sub,AQ];have hi:i<left.length:=by
    rcases Ff i left.length with h|h
    .exact h
    .rw[Hy h] at hq;cases hq
   have ac:((⟨Z,qy⟩,Q)::left.eraseIdx i).Perm left:=Qqq _ _ _ hq;have hP:((z++[(⟨⟨Z,qy⟩,Q⟩:Ar)])++(left.eraseIdx i).map DS).Perm (a.Tl.map DS):=by
    rw[HY];refine (List.Perm.append_left z ?_).trans O;exact ac.map DS
   have af:z.length<=a.Tl.length:=by
    have r3:=O.length_eq;simp at r3;omega
   refine⟨by omega,⟨⟨(some (D.agg [.int .i64 Z,.int .i64 qy],D.int .i64 Q),left.eraseIdx i,z++[(⟨⟨Z,qy⟩,Q⟩:Ar)]),hP⟩,[(6,some 9)],?_,?_⟩⟩
   .simp only[Zfl];rw[Ak hi];omega
   .simp only[Ao];simp only[ZZ,simprocAttr,Ab,Yaz,Az,asmC.ca,B0,Cf,asmC.H1,UG];simp[Ar.c,Qwf]
 simp[asmC.H1] at hp;subst hp;exact .inl ⟨by omega,rfl,rfl⟩
def Ki(s:An)(l:List Aj):Al×Int×Int:=if kN s=false then (⟨[]⟩,0,1) else if 500<l.length then (⟨[]⟩,0,2) else GO s (CG s.Seed.Tiles) l 0
def gE{β:Type}(p:Ac)(v:β): ∀(t:List (Ac×β)),(t.map Prod.fst).Nodup->((Bu t p v).map Prod.fst).Nodup/\(∀q,q∈(Bu t p v).map Prod.fst->q=p\/q∈t.map Prod.fst)/\(Bu t p v).length<=t.length+1
 |[],_=>by simp[Bu]
 |(k,w)::r,h=>by
  rw[Bm,Jb] at h;simp only[Bu];by_cases c:p=k
  .subst c;rw[Ak rfl];refine⟨by rw[Bm,Jb];exact h,λq hq=> .inr hq,by simp⟩
  .rw[Ad c];obtain⟨O,G,Q⟩:=gE p v r h.2;refine⟨?_,?_,by simp only[Dp];omega⟩
   .rw[Bm,Jb];refine⟨λz=> ?_,O⟩;rcases G _ z with z|z
    .exact c z.symm
    .exact h.1 z
   .intro q hq;rw[Bm] at hq⊢;rcases BO.1 hq with rfl|hq
    .exact .inr (Ct ..)
    .rcases G _ hq with hq|hq
     .exact .inl hq
     .exact .inr (Cs _ hq)
def Rh(l:List Ar):((CG l).map Prod.fst).Nodup/\(CG l).length<=l.length:=by
 have z: ∀(l:List Ar) (t:List (Ac×Int)),(t.map Prod.fst).Nodup->((l.foldl (λt x=>Bu t x.At x.Tile) t).map Prod.fst).Nodup/\(l.foldl (λt x=>Bu t x.At x.Tile) t).length<=t.length+l.length:=by
  intro l;induction l with
  |nil=>intro t h;exact⟨h,by simp⟩
  |cons x r ih=>
   intro t h;obtain⟨G,_,Z⟩:=gE x.At x.Tile t h;obtain⟨O,Q⟩:=ih _ G;exact⟨O,by simp only[mH,Dp] at Q⊢;omega⟩
 have:=z l [] (by simp)
 exact⟨this.1,by simpa[CG] using this.2⟩
def Qac7{s:An}{l:List Aj}{i:Nat}{o:Aj}(z:l[i]? =some o)(t:List (Ac×Int)):GO s t (l.drop i) i=if (Bz o.Tile 0 (s.Set.Tiles.length - 1) && HL s (CO t) o.At o.Tile)=false then (⟨[]⟩,(i:Int),5) else if 500<=t.length then (⟨[]⟩,0,4) else GO s (Bu t o.At o.Tile) (l.drop (i+1)) (i+1):=by
 rw[Gr z,GO]
def PlayI_.fv(a:An×(List Aj)):Al×Int×Int:=(Ki) (a.1) (a.2)
def PlayI_.row:AO:=vK (b2 (qR An.d_le) (qS Aj.d_le Aj.c_n)) (r3 (rA Al.d_le) rI rI) (λa=>R0 a.1.Set) PlayI_.fv
def PlayI_.q:=B2 (R:=PlayI_.row) rfl
def YV:=J @PlayI_.fv.eq_1<|J @validI_.q<|J @validI_.fv.eq_1<|J @isTile.q<|J @isTile.fv.eq_1<|J @fitsC.q @fitsC.fv.eq_1
def PlayI_.ok:AS 40 PlayI_.row:=by
 refine vw (tC validI_.ok (tC newC.ok (tC isTile.ok (tC fitsC.ok (tC putC.ok (tC asmC.ok tN)))))) Tryz.func40 ?_;intro a O;simp only[Tryz.f40,Option.getD];simp only[ZZ,simprocAttr,Ab,YV];obtain⟨s,l⟩:=a;simp only at O⊢;refine⟨O,?_⟩;by_cases c1:kN s=false
 .rw[Ak c1];simp only[Ki];rw[Ak c1]
 rw[Ad c1];intro _;by_cases c2:500<l.length
 .rw[Ak (by omega)];simp only[Ki];rw[Ad c1,Ak c2]
 rw[Ad (by omega)];have eR:Ki s l=GO s (CG s.Seed.Tiles) l 0:=by simp only[Ki];rw[Ad c1,Ad c2]
 rw[Gi,gF] at c1;obtain⟨⟨q1,q2,q3,_⟩,q5,q6⟩:=Gl c1;have af:=zC (s:=s.Set) (a:=s.Seed) (by rw[q5,q6];rfl);have ad:newC.pre (s,s.Seed):=⟨q1,by simp only;omega,λy hy=>⟨q2.2 y hy,af.1.2.2.2 y hy⟩⟩;have ag:=PH ad;have ac:=Rh s.Seed.Tiles;refine AM.os (s,s.Seed) [] ad (λj=>by simp[Av,hget]) rfl rfl ?_ ?_
 .simp only[ZZ,simprocAttr,Ab,YV,newC.ca,EJ,An.c,Al.c]
 simp only[ZZ,simprocAttr,Ab,YV,newC.H1,sub];intro _;refine Bc.old ⟨{k:Nat×List (Ac×Int)×List (Ac×List Int)//k.1<=l.length/\ZQ s.Set (CO k.2.1)/\(k.2.1.map Prod.fst).Nodup/\k.2.1.length<=1000/\Ki s l=GO s k.2.1 (l.drop k.1) k.1},λk=>⟨[(26,.im (.int .i64 k.1.1)),(25,.im (.int .i64 l.length)),(24,.im (.sl false 3 (l.map Aj.c))),(7,.ptr 6 0),(6,.im (.int .i64 0)),(5,.im (.int .i64 0)),(4,.ptr 1 0),(2,.ptr 0 0)],[(6,(true,.cells 115 [.im (.sl false 2 (s.Set.Glues.map AG.c)),.im (.sl false 2 (s.Set.Tiles.map Tile.c)),.im (.sl false 3 (s.Seed.Tiles.map Ar.c)),.im (.int .i64 s.Temperature),.mp 4,.mp 5])),
  (4,(true,.map ⟨true,[.int .i64,.int .i64]⟩ (k.1.2.1.map F3))),(5,(true,.map ⟨true,[.int .i64,.int .i64]⟩ (k.1.2.2.map DG))),(1,(true,.cells 30 [.im (.sl true 0 [])])),(0,(true,.cells 32 ((An.c s).map .im)))],7⟩,λk=>l.length - k.1.1,λk=>⟨by simp[ZG,An.c],by simp⟩,⟨⟨(0,(YQ s s.Seed).Tl,(YQ s s.Seed).Op),by simp only;exact⟨Cx _,ag.2.1,ac.1,DO ac.2 (by omega),eR⟩⟩,by simp only[ZZ,simprocAttr,Ab,YV,sub]⟩,λk=> ?_⟩
 obtain⟨⟨k,tl,op⟩,ai,G,aa,aj,z⟩:=k;simp only at ai G aa aj z;simp only[ZZ,simprocAttr,Ab,YV,sub,AQ];refine⟨λhk=>⟨hk,λx hx=> ?_⟩,λhk=> ?_⟩
 .rw[Qac7 hx] at z;by_cases Q:Bz x.Tile 0 ((s.Set.Tiles.length:Int) - 1)=true
  case neg=>
   refine⟨λh=>(Q h).elim,λ_=> ?_⟩;rw[RE] at Q;rw[z,Q,Gx,Ak rfl]
  refine⟨λ_=> ?_,λh=>(h Q).elim⟩;have ab:GY s.Set x.Tile:=by
   simp only[Bz,AZ,BA] at Q;exact⟨Q.1,by omega⟩
  rw[Q,EL] at z;refine⟨⟨q1,G,ab⟩,λZ=> ?_,λZ=>⟨λd3=> ?_,λd3=> ?_⟩⟩
  .rw[z,Ak Z]
  .rw[z,Ad Z,Ak (by omega)]
  .rw[Ad Z,Ad (by omega)] at z;have ak:GZ x.At:=by
    rw[Gi] at Z;simp only[HL,AZ] at Z;exact kO Z.1
   have ah:OJ ⟨s,tl,op⟩:=⟨q1,G,by simp only;omega⟩;obtain⟨u1,_,u3⟩:=gE x.At x.Tile tl aa;refine AM.os (⟨s,tl,op⟩,x.At,x.Tile) [6,4,5] ⟨ah,ak,ab⟩ (λj=>Ij _ j) rfl rfl ?_ ?_
   .simp only[ZZ,simprocAttr,Ab,YV,putC.ca,B0,Cf,Bt,Cl,Hz]
   .simp only[ZZ,simprocAttr,Ab,YV,putC.H1,IF,sub,Kb,Cl,Hz];exact⟨⟨(k+1,Bu tl x.At x.Tile,Hb s (CO (Bu tl x.At x.Tile)) (Eb op x.At) x.At 4),by simp only;exact⟨by omega,NI G ab,u1,by omega,z⟩⟩,by simp only;omega,by rw[AF (by omega) (by omega)];simp only;omega,rfl,rfl⟩
 .rw[Ei (by omega),GO] at z;refine AM.os ⟨s,tl,op⟩ [6,4,5] ⟨aa,by simp only;omega⟩ (λj=>Ij _ j) rfl rfl ?_ ?_
  .simp only[ZZ,simprocAttr,Ab,YV,asmC.ca,B0,Cf,Bt,Cl,Hz]
  .simp only[ZZ,simprocAttr,Ab,YV,asmC.H1,UG,sub,P5,Cl,Hz];rw[z]
end Go.Ae
namespace Go.Ae
def sortI(l:List Int):List Int:=l.mergeSort λx y=>decide (x<=y)
def QX(l:List Int):(sortI l).length=l.length:=List.length_mergeSort l
def Qacq(l:List Int):(sortI l).Perm l:=List.mergeSort_perm l _
def WB(l:List Int):(sortI l).Pairwise (λx y=>x<=y):=by
 have:=List.pairwise_mergeSort (le:=λ(x y:Int)=>decide (x<=y)) (λa b c z G=>by simp at*;omega) (λa b=>by simp;omega) l
 exact this.imp (λh=>by simpa using h)
end Go.Ae
namespace Go.Ae
open Go.Proofs
def bN(s:An)(l:List Aj):Ki s l=Br s l:=by
 simp only[Ki,Br,gF];by_cases c1:FL s=false
 .rw[Ak c1,Ak c1]
 rw[Ad c1,Ad c1];rw[Gi] at c1;obtain⟨⟨q1,z,O,_⟩,_⟩:=Gl c1;rw[uA O l (CG s.Seed.Tiles) s.Seed s.Seed.Tiles.length 0 (RM.of z.1 (λx G=>(z.2 x G).1)) z]
def CZ(s:AI)(f:Ac->Int)(p:Ac)(t:Int):Nat->Int
 |0=>0
 |k+1=>CZ s f p t k+(if 0<Ds s f p t k then 2^k else 0)
def gO(s:AI)(f:Ac->Int)(p:Ac)(t:Int): ∀k,0<=CZ s f p t k/\CZ s f p t k<2^k
 |0=>by simp[CZ]
 |k+1=>by
  have:=gO s f p t k
  have e:(2:Int)^(k+1)=2^k*2:=Int.pow_succ ..;simp only[CZ]
  split<;>omega
def Ax:Al->List Aj->Al
 |b,[]=>b
 |b,o::r=>Ax (Ci b o.At o.Tile) r
def Sc: ∀(l:List Aj) (b:Al) (o:Aj),Ax b (l++[o])=Ci (Ax b l) o.At o.Tile
 |[],_,_=>rfl
 |x::r,b,o=>by simp only[CP,Ax,Sc r]
def BH(s:An):Al->List Aj->List Int
 |_,[]=>[]
 |b,o::r=>CZ s.Set (Ba b) o.At o.Tile 4::BH s (Ci b o.At o.Tile) r
def Dd(s:An):Al->List Aj->List Int
 |_,[]=>[]
 |b,o::r=>CW s.Set (Ba b) o.At o.Tile 4::Dd s (Ci b o.At o.Tile) r
def gG(s:An): ∀(l:List Aj) (b:Al) (o:Aj),BH s b (l++[o])=BH s b l++[CZ s.Set (Ba (Ax b l)) o.At o.Tile 4]
 |[],_,_=>rfl
 |x::r,b,o=>by simp only[CP,BH,gG s r,Ax]
def gH(s:An): ∀(l:List Aj) (b:Al) (o:Aj),Dd s b (l++[o])=Dd s b l++[CW s.Set (Ba (Ax b l)) o.At o.Tile 4]
 |[],_,_=>rfl
 |x::r,b,o=>by simp only[CP,Dd,gH s r,Ax]
def Ik(s:An): ∀(l:List Aj) (b:Al),(BH s b l).length=l.length
 |[],_=>rfl
 |x::r,b=>by simp only[BH,Dp,Ik s r]
def XM(s:An): ∀(l:List Aj) (b:Al),(Dd s b l).length=l.length
 |[],_=>rfl
 |x::r,b=>by simp only[Dd,Dp,XM s r]
def XO(s:An): ∀(l:List Aj) (b:Al) (k:Nat) (o:Aj),l[k]? =some o->(BH s b l)[k]? =some (CZ s.Set (Ba (Ax b (l.take k))) o.At o.Tile 4)
 |[],_,k,o,h=>by simp at h
 |x::r,b,0,o,h=>by
  simp only[Gw,AP] at h;subst h;simp[BH,Ax]
 |x::r,b,k+1,o,h=>by
  rw[GD] at h;simp only[BH,GD,Ia,Ax];exact XO s r _ k o h
def Fz(s:An)(b:Al)(l:List Aj):Prop:= ∀k o,l[k]? =some o->BX s (Ax b (l.take k)) o=true/\(Ax b (l.take k)).Tiles.length<500
def uL{s:An}: ∀(l:List Aj) (b:Al) (i:Nat),(Dr s b l i).2.2=0->Dr s b l i=(Ax b l,0,0)/\Fz s b l
 |[],b,i,_=>⟨rfl,λk o h=>by simp at h⟩
 |x::r,b,i,h=>by
  simp only[Dr] at h⊢;by_cases c1:BX s b x=false
  .rw[Ak c1] at h;simp at h
  rw[Ad c1] at h⊢;by_cases G:500<=b.Tiles.length
  .rw[Ak G] at h;simp at h
  rw[Ad G] at h⊢;obtain⟨O,Q⟩:=uL r _ _ h;refine⟨O,λk o z=> ?_⟩;cases k with
  |zero=>
   simp only[Gw,AP] at z;subst z;rw[Gi] at c1;exact⟨by simpa[Ax] using c1,by simp only[Fh,Ax];omega⟩
  |succ k=>
   rw[GD] at z;simp only[Ia,Ax];exact Q k o z
def DI{s:An}(hs:s.Set.Tiles.length<=160){b:Al}(z:CA s.Set b){l:List Aj}(h:Fz s b l): ∀k,k<=l.length->CA s.Set (Ax b (l.take k))
 |0,_=>by simpa[Ax] using z
 |k+1,G=>by
  obtain⟨o,ho⟩: ∃o,l[k]? =some o:=⟨_,Bk (by omega)⟩;rw[K4 ho,Sc];exact KV hs (DI hs z h k (by omega)) (h k o ho).1
def D8{s:An}{b:Al}{o:Aj}(h:BX s b o=true):EU o.At=true/\GZ o.At/\0<=o.Tile/\o.Tile<s.Set.Tiles.length/\GY s.Set o.Tile/\(∀x∈b.Tiles,x.At≠o.At):=by
 simp only[BX,AZ,BA] at h;obtain⟨G,z,O,_⟩:=h;simp only[Bz,AZ,BA] at z;exact⟨G,kO G,z.1,by omega,⟨z.1,by omega⟩,Qma O⟩
def DR(m d:Int):Bool:=decide (Hd .i64 (m.fdiv (2^min d.toNat 64)) 1=1)
def BR(b:Bool)(k:Nat):Int:=if b=true then 2^k else 0
def wU: ∀z b1 b2 b3:Bool,DR (0+BR z 0+BR b1 1+BR b2 2+BR b3 3) 0=z/\DR (0+BR z 0+BR b1 1+BR b2 2+BR b3 3) 1=b1/\DR (0+BR z 0+BR b1 1+BR b2 2+BR b3 3) 2=b2/\DR (0+BR z 0+BR b1 1+BR b2 2+BR b3 3) 3=b3:=by
 intro z b1 b2 b3;cases z<;>cases b1<;>cases b2<;>cases b3<;>decide
def Sm(s:AI)(f:Ac->Int)(p:Ac)(t:Int): ∀d:Nat,d<4->DR (CZ s f p t 4) d=decide (0<Ds s f p t d):=by
 intro d hd;have e:CZ s f p t 4=0+BR (decide (0<Ds s f p t ((0:Nat):Int))) 0+BR (decide (0<Ds s f p t ((1:Nat):Int))) 1+BR (decide (0<Ds s f p t ((2:Nat):Int))) 2+BR (decide (0<Ds s f p t ((3:Nat):Int))) 3:=by
  simp only[CZ,BR,BA]
 obtain⟨z,k1,k2,G⟩:=wU (decide (0<Ds s f p t ((0:Nat):Int))) (decide (0<Ds s f p t ((1:Nat):Int))) (decide (0<Ds s f p t ((2:Nat):Int))) (decide (0<Ds s f p t ((3:Nat):Int)));rw[e];rcases (by omega:d=0\/d=1\/d=2\/d=3) with rfl|rfl|rfl|rfl
 .exact z
 .exact k1
 .exact k2
 .exact G
def oO{m:Int}{k:Nat}(G:k<4)(h0:0<=m)(z:m<2^k):orI .i64 m (2^k)=m+2^k:=by
 rcases (by omega:k=0\/k=1\/k=2\/k=3) with rfl|rfl|rfl|rfl
 .obtain rfl:m=0:=by omega
  decide
 .rcases (by omega:m=0\/m=1) with rfl|rfl<;>decide
 .rcases (by omega:m=0\/m=1\/m=2\/m=3) with rfl|rfl|rfl|rfl<;>decide
 .rcases (by omega:m=0\/m=1\/m=2\/m=3\/m=4\/m=5\/m=6\/m=7) with rfl|rfl|rfl|rfl|rfl|rfl|rfl|rfl<;>decide
def Hj(l:List Aj)(q:Ac):Int:=BB (λo:Aj=>decide (o.At=q)) 0 l
def D5(l:List Aj)(m:Int)(p:Ac):Nat->List Int
 |0=>[]
 |d+1=>D5 l m p d++(if DR m d=true/\0<=Hj l (Bv p d) then [Hj l (Bv p d)] else [])
def IL(q:Ac)(m:Int)(p:Ac)(k:Nat):Nat->List Int
 |0=>[]
 |d+1=>IL q m p k d++(if DR m d=true/\Bv p d=q then [(k:Int)] else [])
def GI(l:List Aj)(m:Int)(p:Ac):Nat->List Int
 |0=>[]
 |k+1=>GI l m p k++IL ((l[k]?.map Aj.At).getD ⟨0,0⟩) m p k 4
def EG(l:List Aj)(Bl:List Int):Nat->List (List Int)
 |0=>[]
 |i+1=>EG l Bl i++[GI l (Bl[i]?.getD 0) ((l[i]?.map Aj.At).getD ⟨0,0⟩) i]
def uN{p:Ac}{d e:Nat}(hd:d<4)(z:e<4)(h:Bv p d=Bv p e):d=e:=by
 rcases (by omega:d=0\/d=1\/d=2\/d=3) with rfl|rfl|rfl|rfl<;>
 rcases (by omega:e=0\/e=1\/e=2\/e=3) with rfl|rfl|rfl|rfl<;>
 simp[Bv] at h<;>omega
def gP{l:List Aj}{m:Int}{p:Ac}{x:Int}: ∀n,x∈D5 l m p n↔ ∃d,d<n/\DR m (d:Nat)=true/\0<=x/\Hj l (Bv p (d:Nat))=x
 |0=>by simp[D5]
 |n+1=>by
  simp only[D5,B5,gP n];constructor
  .rintro (⟨d,Z,z⟩|h)
   .exact⟨d,by omega,z⟩
   .split at h
    .rename_i c;rw[BN] at h;exact⟨n,by omega,c.1,by rw[h];exact c.2,h.symm⟩
    .cases h
  .rintro⟨d,Z,z,Q,G⟩;by_cases O:d=n
   .subst O;right;rw[Ak ⟨z,by rw[G];exact Q⟩,BN];exact G.symm
   .exact .inl ⟨d,by omega,z,Q,G⟩
def gK{q:Ac}{m:Int}{p:Ac}{k:Nat}{x:Int}: ∀n,x∈IL q m p k n↔x=k/\ ∃d,d<n/\DR m (d:Nat)=true/\Bv p (d:Nat)=q
 |0=>by simp[IL]
 |n+1=>by
  simp only[IL,B5,gK n];constructor
  .rintro (⟨h0,d,Q,z⟩|h)
   .exact⟨h0,d,by omega,z⟩
   .split at h
    .rename_i c;rw[BN] at h;exact⟨h,n,by omega,c⟩
    .cases h
  .rintro⟨h0,d,Q,z,O⟩;by_cases G:d=n
   .subst G;right;rw[Ak ⟨z,O⟩,BN];exact h0
   .exact .inl ⟨h0,d,by omega,z,O⟩
def XN{q:Ac}{m:Int}{p:Ac}{k:Nat}: ∀n,n<=4->(IL q m p k n).length<=1/\((IL q m p k n).length=1-> ∃d,d<n/\Bv p (d:Nat)=q)
 |0,_=>by simp[IL]
 |n+1,hn=>by
  obtain⟨G,z⟩:=XN n (by omega) (q:=q) (m:=m) (p:=p) (k:=k);simp only[IL];split
  .rename_i c;have h0:(IL q m p k n).length=0:=by
    rcases (by omega:(IL q m p k n).length=0\/(IL q m p k n).length=1) with h|h
    .exact h
    .obtain⟨d,hd,e⟩:=z h
     have:=uN (p:=p) (d:=d) (e:=n) (by omega) (by omega) (e.trans c.2.symm)
     omega
   refine⟨by rw[CS,h0];simp,λ_=>⟨n,by omega,c.2⟩⟩
  .rw[CQ];exact⟨G,λh=>by obtain⟨d,hd,e⟩:=z h;exact⟨d,by omega,e⟩⟩
def Io{l:List Aj}{m:Int}{p:Ac}{x:Int}: ∀n,n<=l.length->(x∈GI l m p n↔ ∃k d,k<n/\d<4/\x=(k:Int)/\DR m (d:Nat)=true/\l[k]?.map Aj.At=some (Bv p (d:Nat)))
 |0,_=>by simp[GI]
 |n+1,hn=>by
  have hg:l[n]? =some l[n]:=Bk (by omega);simp only[GI,B5,Io (l:=l) n (by omega),gK];constructor
  .rintro (⟨k,d,O,G,z⟩|⟨h0,d,O,G,z⟩)
   .exact⟨k,d,by omega,G,z⟩
   .refine⟨n,d,by omega,O,h0,G,?_⟩;rw[hg] at z⊢;simpa using z.symm
  .rintro⟨k,d,O,G,z,Z,h5⟩;by_cases Q:k=n
   .subst Q;right;refine⟨z,d,G,Z,?_⟩;rw[h5];rfl
   .exact .inl ⟨k,d,by omega,G,z,Z,h5⟩
def Vn{l:List Aj}{m:Int}{p:Ac}: ∀n,n<=l.length->(GI l m p n).Pairwise (λx y=>x<y)
 |0,_=>by simp[GI]
 |n+1,hn=>by
  simp only[GI];rw[Zfn];refine⟨Vn n (by omega),?_,?_⟩
  .have h:=(XN 4 (AW _) (q:=(l[n]?.map Aj.At).getD ⟨0,0⟩) (m:=m) (p:=p) (k:=n)).1;generalize IL ((l[n]?.map Aj.At).getD ⟨0,0⟩) m p n 4=z at h
   match z,h with
   |[],_=>exact List.Pairwise.nil
   |[a],_=>exact List.pairwise_singleton ..
  .intro a G b O;rw[Io (l:=l) n (by omega)] at G;rw[gK] at O;obtain⟨k,d,Z,_,Q,_⟩:=G;rw[Q,O.1];omega
def iO{l:List Aj}(hd:(l.map Aj.At).Nodup){q:Ac}{k:Nat}(h:l[k]?.map Aj.At=some q):Hj l q=k:=by
 rcases Xa (λo:Aj=>decide (o.At=q)) l 0 with ⟨z,O⟩|⟨i,x,z,O,h3⟩
 .exfalso;cases hx:l[k]? with
  |none=>rw[hx] at h;cases h
  |some y=>
   rw[hx] at h
   have:=lX.1 z y (Bd hx)
   simp at this h;exact this h
 .have G:x.At=q:=by simpa using Xr z
  simp only[Hj,O]
  have:i=k:=by
   have Q:(l.map Aj.At)[i]? =some q:=by rw[DX,h3];simp[G]
   have Z:(l.map Aj.At)[k]? =some q:=by rw[DX];exact h
   obtain⟨g1,f1⟩:=B9.1 Q;obtain⟨g2,f2⟩:=B9.1 Z;exact (List.getElem_inj hd).1 (f1.trans f2.symm)
  omega
def gJ{l:List Aj}{q:Ac}{k:Int}(h:Hj l q=k)(h0:0<=k):l[k.toNat]?.map Aj.At=some q:=by
 rcases Xa (λo:Aj=>decide (o.At=q)) l 0 with ⟨O,z⟩|⟨i,x,O,z,Q⟩
 .simp only[Hj,z] at h;omega
 .have G:x.At=q:=by simpa using Xr O
  simp only[Hj,z] at h;rw[show k.toNat=i by omega,Q];simp[G]
def CB{x:Ar}: ∀(l:List Aj) (b:Al),x∈(Ax b l).Tiles↔x∈b.Tiles\/ ∃o∈l,x=⟨o.At,o.Tile⟩
 |[],b=>by simp[Ax]
 |o::r,b=>by
  simp only[Ax,CB r,YE,yM,BO];constructor
  .rintro ((h|h)|⟨y,z,h⟩)
   .exact .inr ⟨o,.inl rfl,h⟩
   .exact .inl h
   .exact .inr ⟨y,.inr z,h⟩
  .rintro (h|⟨y,rfl|z,h⟩)
   .exact .inl (.inr h)
   .exact .inl (.inl h)
   .exact .inr ⟨y,z,h⟩
def KO{s:An}{b:Al}{l:List Aj}(h:Fz s b l):(l.map Aj.At).Nodup:=by
 rw[Pw,mF,ZcV];intro i j Q Z G z;have O:=(D8 (h j l[j] (Bk Z)).1).2.2.2.2.2;refine O ⟨l[i].At,l[i].Tile⟩ ?_ z;rw[CB];refine .inr ⟨l[i],?_,rfl⟩;rw[EK];exact⟨i,by rw[R9 G];exact Bk Q⟩
def GX{a:Al}{q:Ac}(h:0<=Ba a q): ∃x∈a.Tiles,x.At=q:=by
 simp only[Ba] at h;cases hf:a.Tiles.find? (λx=>decide (x.At=q)) with
 |none=>rw[hf] at h;simp at h
 |some x=>exact⟨x,rO hf,by simpa using Xr hf⟩
def Vo{s:An}{b:Al}{l:List Aj}(h:Fz s b l){i:Nat}{o:Aj}(ho:l[i]? =some o):
 sortI (D5 l (CZ s.Set (Ba (Ax b (l.take i))) o.At o.Tile 4) o.At 4)=GI l (CZ s.Set (Ba (Ax b (l.take i))) o.At o.Tile 4) o.At i:=by
 obtain⟨m,hm⟩: ∃m,m=CZ s.Set (Ba (Ax b (l.take i))) o.At o.Tile 4:=⟨_,rfl⟩;rw[<-hm];have am:i<l.length:=(B9.1 ho).1;have hd:=KO h;have O: ∀d:Nat,d<4->DR m d=true-> ∀k:Nat,l[k]?.map Aj.At=some (Bv o.At d)->k<i:=by
  intro d af hb k hk;rcases Ff k i with ah|ak
  .exact ah
  exfalso;rw[hm,Sm _ _ _ _ d af,BA] at hb;have h0:0<=Ba (Ax b (l.take i)) (Bv o.At d):=by
   simp only[Ds] at hb;split at hb
   .assumption
   .omega
  obtain⟨x,hx,aj⟩:=GX h0;cases hlk:l[k]? with
  |none=>rw[hlk] at hk;cases hk
  |some y=>
   rw[hlk] at hk;have hy:y.At=Bv o.At d:=by simpa using hk
   have G:=(D8 (h k y hlk).1).2.2.2.2.2;refine G x ?_ (aj.trans hy.symm);rw[CB] at hx⊢;rcases hx with hx|⟨z,hz,e⟩
   .exact .inl hx
   .refine .inr ⟨z,?_,e⟩;obtain⟨j,hj⟩:=EK.1 hz;have ag:j<i:=by
     have:=(B9.1 hj).1
     simp at this;omega
    rw[EK];exact⟨j,by rw[R9 ag] at hj;rw[R9 (by omega)];exact hj⟩
 have aa: ∀x,x∈D5 l m o.At 4↔x∈GI l m o.At i:=by
  intro x;rw[gP,Io i (by omega)];constructor
  .rintro⟨d,G,Q,Z,h4⟩;have h5:=gJ h4 Z;exact⟨x.toNat,d,O d G Q _ h5,G,by omega,Q,h5⟩
  .rintro⟨k,d,G,Q,Z,h4,h5⟩;exact⟨d,Q,h4,by omega,by rw[iO hd h5,Z]⟩
 have ai: ∀n,n<=4->(D5 l m o.At n).Nodup:=by
  intro n;induction n with
  |zero=>intro _;simp[D5]
  |succ n ih=>
   intro hn;simp only[D5];split
   .rename_i c;rw[RD];refine⟨ih (by omega),by simp,?_⟩;intro a ha z hz ad;rw[BN] at hz;subst ad hz;rw[gP] at ha;obtain⟨d,G,Q,Z,h4⟩:=ha;have e1:=gJ h4 Z;have e2:=gJ rfl Z
    have:=uN (p:=o.At) (d:=d) (e:=n) (by omega) (by omega) (A8 (e1.symm.trans e2))
    omega
   .rw[CQ];exact ih (by omega)
 have ac:=Vn (l:=l) (m:=m) (p:=o.At) i (by omega);have ab:(GI l m o.At i).Nodup:=Pw.2 (ac.imp (λh=>by omega));have hp:(D5 l m o.At 4).Perm (GI l m o.At i):=(rM (ai 4 (AW _)) ab).2 aa;exact Zdx (le:=λx y=>x<=y) (λa z _ _ G Q=>Int.le_antisymm G Q) (WB _) (ac.imp (λh=>by omega)) ((Qacq _).trans hp)
def wI(s:An)(b:Al)(o:Aj):K0 s.Set b o.At o.Tile 4=CW s.Set (Ba b) o.At o.Tile 4:=(H6 ..).symm
def Cw(s:An)(l:List Aj):Prop:=BK s.Set/\CA s.Set s.Seed/\s.Set.Tiles.length<=160/\s.Seed.Tiles.length<=1000000/\Fz s s.Seed l/\l.length<=500
def iP{d:Nat}(hd:d<4):IntKind.i64.wrap (1*2^min d IntKind.i64.bits)=2^d:=by
 rcases (by omega:d=0\/d=1\/d=2\/d=3) with rfl|rfl|rfl|rfl<;>decide
def gM{d:Nat}(hd:d<4):(2:Int)^d<=8:=by
 rcases (by omega:d=0\/d=1\/d=2\/d=3) with rfl|rfl|rfl|rfl<;>decide
def Im(s:AI)(f:Ac->Int)(p:Ac)(t d:Int):0<Ds s f p t d↔(0<=f (Bv p d)/\0<Gd s t d (f (Bv p d))):=by
 by_cases c:0<=f (Bv p d)
 .have e:Ds s f p t d=Gd s t d (f (Bv p d)):=Ak c;rw[e];exact⟨λh=>⟨c,h⟩,λh=>h.2⟩
 .have e:Ds s f p t d=0:=Ad c;rw[e];exact⟨λh=>by omega,λh=>(c h.1).elim⟩
def Nx(s:AI)(f:Ac->Int)(p:Ac)(t:Int)(d:Nat)(h:0<=f (Bv p d))(z:0<Gd s t d (f (Bv p d))):CZ s f p t (d+1)=CZ s f p t d+2^d:=by
 simp only[CZ];rw[Ak ((Im ..).2 ⟨h,z⟩)]
def XL(s:AI)(f:Ac->Int)(p:Ac)(t:Int)(d:Nat)(h: ¬(0<=f (Bv p d)/\0<Gd s t d (f (Bv p d)))):CZ s f p t (d+1)=CZ s f p t d:=by
 simp only[CZ];rw[Ad (λq=>h ((Im ..).1 q)),Zfu]
def l10Inputs.fv(a:An×(List Aj)):(List Int)×(List Int):=(λs l=>(BH s s.Seed l,Dd s s.Seed l)) (a.1) (a.2)
def l10Inputs.row:AO:=vK (b2 (qP 4 An.d_le) (qS Aj.d_le Aj.c_n)) (r2 (rS Ez Dy) (rS Ez Dy)) (λa=>Cw a.1 a.2) l10Inputs.fv
def l10Inputs.q:=B2 (R:=l10Inputs.row) rfl
def rD:=J @l10Inputs.fv.eq_1<|J @l03Own.q<|J @l03Own.fv.eq_1<|J @l01Step.q<|J @l01Step.fv.eq_1<|J @l03At.q<|J @l03At.fv.eq_1<|J @l02Bond.q<|J @l02Bond.fv.eq_1<|J @l06Binding.q<|J @l06Binding.fv.eq_1<|J @l03Put.q @l03Put.fv.eq_1
def l10Inputs.ok:AS 108 l10Inputs.row:=by
 refine vw (tC l03Own.ok (tC l01Step.ok (tC l03At.ok (tC l02Bond.ok (tC l06Binding.ok (tC l03Put.ok tN)))))) Tryz.func108 ?_;intro a G;simp only[Tryz.f108,Option.getD];simp only[ZZ,simprocAttr,Ab,rD];obtain⟨s,l⟩:=a;simp only at G⊢;obtain⟨h1,h2,h3,h4,Z,h6⟩:=G;refine⟨h4,?_⟩;refine Bc.ren ⟨{k:Nat//k<=l.length},λk=>⟨[(9,.im (.int .i64 k.1)),(8,.own 7),(7,.own 6),(6,.ptr 3 0),(0,.ptr 0 0),(1,.im (.sl false 3 (l.map Aj.c)))],[(7,(true,.arr 2 1 ((Dd s s.Seed (l.take k.1)).map Af))),(6,(true,.arr 2 1 ((BH s s.Seed (l.take k.1)).map Af))),(3,(true,.cells 30 [.im (.sl false 3 ((Ax s.Seed (l.take k.1)).Tiles.map Ar.c))])),(0,(false,.view (An.c s)))],8⟩,λk=>l.length - k.1,λk=>⟨by simp[ZG],by simp⟩,⟨⟨0,by simp⟩,[(7,some 5),(6,some 4)],?_⟩,λk=> ?_⟩
 .simp only[Ao];simp only[ZZ,simprocAttr,Ab,rD,Fh,BH,Dd,Ax,BY]
  try simp
 obtain⟨k,ab⟩:=k;simp only[ZZ,simprocAttr,Ab,rD,sub,AQ];intro _;obtain⟨b,hb⟩: ∃b,b=Ax s.Seed (l.take k):=⟨_,rfl⟩;have O:CA s.Set b:=by rw[hb];exact DI h3 h2 Z k ab
 rw[<-hb];refine⟨λhk=>⟨hk,λx hx=> ?_⟩,λhk=> ?_⟩
 .have hc:=D8 (Z k x hx).1;rw[<-hb] at hc;obtain⟨g1,g2,g3,g4,g5,g6⟩:=hc;refine Bc.old ⟨{d:Nat//d<=4},λd=>⟨[(12,.im (.int .i64 d.1)),(11,.im (.int .i64 (CZ s.Set (Ba b) x.At x.Tile d.1))),(10,.ptr 8 0),(9,.im (.int .i64 k)),(8,.own 7),(7,.own 6),(6,.ptr 3 0),(0,.ptr 0 0),(1,.im (.sl false 3 (l.map Aj.c)))],[(8,(true,.cells 52 ((Aj.c x).map .im))),(7,(true,.arr 2 1 ((Dd s s.Seed (l.take k)).map Af))),(6,(true,.arr 2 1 ((BH s s.Seed (l.take k)).map Af))),(3,(true,.cells 30 [.im (.sl false 3 (b.Tiles.map Ar.c))])),(0,(false,.view (An.c s)))],9⟩,λd=>4 - d.1,λd=>⟨by simp[ZG,Aj.c],by simp⟩,⟨⟨0,by simp⟩,by simp only[ZZ,simprocAttr,Ab,rD,sub,CZ]⟩,λd=> ?_⟩;obtain⟨d,ac⟩:=d;simp only[ZZ,simprocAttr,Ab,rD,sub,AQ];have ad:=gO s.Set (Ba b) x.At x.Tile d;refine⟨λhd=> ?_,λhd=> ?_⟩
  .have z:d<4:=by omega
   have af:=gM z;refine⟨⟨g2,by omega⟩,O.1,λc1=>⟨⟨h1,g5,⟨by omega,by omega⟩,ON O _ c1⟩,λQ=> ?_,λQ=> ?_⟩,λc1=> ?_⟩
   .refine⟨⟨d+1,by omega⟩,by simp only;omega,by rw[AF (by omega) (by omega)];simp only;omega,?_⟩;rw[iP z,AF (by omega) (by omega),Nx _ _ _ _ _ c1 Q]
   .refine⟨⟨d+1,by omega⟩,by simp only;omega,by rw[AF (by omega) (by omega)];simp only;omega,?_⟩;rw[XL _ _ _ _ _ (λh=>Q h.2)]
   .refine⟨⟨d+1,by omega⟩,by simp only;omega,by rw[AF (by omega) (by omega)];simp only;omega,?_⟩;rw[XL _ _ _ _ _ (λh=>c1 h.1)]
  .have z:d=4:=by omega
   subst z;have aa:=(Z k x hx).2;rw[<-hb] at aa;refine⟨by simp[B7,B8,D.one],by rw[Ik,Cp];omega,⟨h1,O,g2,g5⟩,by simp[B7,B8,D.one],by rw[XM,Cp];omega,by omega,⟨k+1,by omega⟩,[(7,some 12),(6,some 10)],by simp only;omega,?_⟩;simp only[Ao,K4 hx,gG,gH,Sc,<-hb];simp only[ZZ,simprocAttr,Ab,rD,AU,AT];refine⟨by rw[AF (by omega) (by omega)];omega,?_,?_⟩
   .simp[Af,wI]
   .simp[Af]
 .rw[GE (by omega)]
  try trivial
def Bh(s:An)(l:List Aj):List (List Int):=EG l (BH s s.Seed l) l.length
def U3(m:Int)(d:Nat):(DR m d=true)=(Hd .i64 (m.fdiv (2^min d IntKind.i64.bits)) 1=1):=by
 simp only[DR,BA,B1];rfl
def KU{p q:Ac}:((p.X==q.X)=true/\(p.Y==q.Y)=true)↔p=q:=by
 cases p;cases q;simp
def N0(l:List Aj)(m:Int)(p:Ac): ∀n,(GI l m p n).length<=n
 |0=>by simp[GI]
 |n+1=>by
  have z:=N0 l m p n;have G:=(XN 4 (AW _) (q:=(l[n]?.map Aj.At).getD ⟨0,0⟩) (m:=m) (p:=p) (k:=n)).1;simp only[GI,CS];omega
def E4(l:List Aj)(Bl:List Int): ∀n,(EG l Bl n).length=n
 |0=>rfl
 |n+1=>by simp only[EG,CS,E4 l Bl n,SN]
def l12Needs.fv(a:An×(List Aj)):List (List Int):=(Bh) (a.1) (a.2)
def l12Needs.row:AO:=vK (b2 (qP 4 An.d_le) (qS Aj.d_le Aj.c_n)) (rS Xe Sk) (λa=>Cw a.1 a.2) l12Needs.fv
def l12Needs.q:=B2 (R:=l12Needs.row) rfl
def Pp:=J @l12Needs.fv.eq_1<|J @l10Inputs.q<|J @l10Inputs.fv.eq_1<|J @l01Step.q @l01Step.fv.eq_1
def l12Needs.ok:AS 64 l12Needs.row:=by
 refine vw (tC l10Inputs.ok (tC l01Step.ok tN)) Tryz.func64 ?_;intro a O;simp only[Tryz.f64,Option.getD];simp(disch:=omega)only[ZZ,simprocAttr,Ab,Pp];obtain⟨s,l⟩:=a;simp only at O⊢;refine⟨O,?_⟩;obtain⟨h1,h2,h3,h4,h5,h6⟩:=O;obtain⟨Bl,hins⟩: ∃Bl,Bl=BH s s.Seed l:=⟨_,rfl⟩;have Z:Bl.length=l.length:=by rw[hins,Ik]
 simp only[Bh,<-hins];refine Bc.frr ⟨{k:Nat//k<=l.length},λk=>⟨[(8,.im (.int .i64 k.1)),(7,.own 3),(5,.im (.sl false 1 (Bl.map Af))),(0,.ptr 0 0),(1,.im (.sl false 3 (l.map Aj.c)))],[(3,(true,.arrA 37 1 (Bo ((EG l Bl k.1).map C9)))),(0,(false,.view (An.c s)))],4⟩,λk=>l.length - k.1,λk=>⟨by simp[ZG,Jz],by simp⟩,⟨⟨0,by simp⟩,[],[(3,some 2)],?_⟩,λk=> ?_⟩
 .simp only[Ao];simp(disch:=omega)only[ZZ,simprocAttr,Ab,Pp,AU,AT,EG,BY,gN]
  try simp
 obtain⟨k,ag⟩:=k;simp(disch:=omega)only[ZZ,simprocAttr,Ab,Pp,sub,AQ,Z];intro _;refine⟨λhk=> ?_,λhk=> ?_⟩
 .obtain⟨o,ho⟩: ∃o,l[k]? =some o:=⟨_,Bk hk⟩;obtain⟨G,hmi⟩: ∃G,Bl[k]? =some G:=⟨_,Bk (by omega)⟩;have af:=(D8 (h5 k o ho).1).2.1;refine Bc.ren ⟨{m:Nat//m<=k},λm=>⟨[(10,.im (.int .i64 m.1)),(9,.own 5),(8,.im (.int .i64 k)),(7,.own 3),(5,.im (.sl false 1 (Bl.map Af))),(0,.ptr 0 0),(1,.im (.sl false 3 (l.map Aj.c)))],[(5,(true,.arr 2 1 ((GI l G o.At m.1).map Af))),(3,(true,.arrA 37 1 (Bo ((EG l Bl k).map C9)))),(0,(false,.view (An.c s)))],6⟩,λm=>k - m.1,λm=>⟨by simp[ZG,Jz],by simp⟩,⟨⟨0,by simp⟩,[(5,some 4)],?_⟩,λm=> ?_⟩
  .simp only[Ao];simp(disch:=omega)only[ZZ,simprocAttr,Ab,Pp,AU,AT,GI,BY,GC]
   try simp
  obtain⟨m,aj⟩:=m;simp(disch:=omega)only[ZZ,simprocAttr,Ab,Pp,sub,AQ];refine⟨λhm=> ?_,λhm=> ?_⟩
  .obtain⟨q,hq⟩: ∃q,l[m]? =some q:=⟨_,Bk (by omega)⟩;refine Bc.ren ⟨{d:Nat//d<=4},λd=>⟨[(11,.im (.int .i64 d.1)),(10,.im (.int .i64 m)),(9,.own 6),(8,.im (.int .i64 k)),(7,.own 3),(5,.im (.sl false 1 (Bl.map Af))),(0,.ptr 0 0),(1,.im (.sl false 3 (l.map Aj.c)))],[(6,(true,.arr 2 1 ((GI l G o.At m++IL q.At G o.At m d.1).map Af))),(3,(true,.arrA 37 1 (Bo ((EG l Bl k).map C9)))),(0,(false,.view (An.c s)))],7⟩,λd=>4 - d.1,λd=>⟨by simp[ZG,Jz],by simp⟩,⟨⟨0,by simp⟩,[(6,some 5)],?_⟩,λd=> ?_⟩
   .simp only[Ao];simp(disch:=omega)only[ZZ,simprocAttr,Ab,Pp,AU,AT,IL,CQ,GC]
    try simp
   obtain⟨d,aa⟩:=d;simp(disch:=omega)only[ZZ,simprocAttr,Ab,Pp,sub,AQ,Z];have ah:=N0 l G o.At m;have ai:=XN d aa (q:=q.At) (m:=G) (p:=o.At) (k:=m);have hR:(GI l G o.At m++IL q.At G o.At m d).length<=1000:=by rw[CS];omega
   refine⟨λhd=>⟨hk,λx hx=> ?_⟩,λhd=> ?_⟩
   .obtain rfl:G=x:=A8 (hmi.symm.trans hx);simp only[<-U3];refine⟨λc1=>⟨hk,λy hy=> ?_⟩,λc1=>⟨⟨d+1,by omega⟩,[(6,some 6)],by simp only;omega,?_⟩⟩
    .obtain rfl:o=y:=A8 (ho.symm.trans hy);refine⟨⟨af,by omega⟩,by omega,λz hz=> ?_⟩;obtain rfl:q=z:=A8 (hq.symm.trans hz);refine⟨λQ=>⟨by simp[B7,B8,D.one],by omega,⟨d+1,by omega⟩,[(6,some 8)],by simp only;omega,?_⟩,λQ=>⟨⟨d+1,by omega⟩,[(6,some 6)],by simp only;omega,?_⟩⟩
     .rw[KU] at Q;simp only[Ao];simp(disch:=omega)only[ZZ,simprocAttr,Ab,Pp,AU,AT,GC];refine⟨by rw[AF (by omega) (by omega)];omega,?_⟩;simp only[IL];rw[Ak ⟨c1,Q⟩];simp[Af]
     .rw[KU] at Q;simp only[Ao];simp(disch:=omega)only[ZZ,simprocAttr,Ab,Pp,AU,AT,GC];refine⟨by rw[AF (by omega) (by omega)];omega,?_⟩;simp only[IL];rw[Ad (λh=>Q h.2),CQ]
    .simp only[Ao];simp(disch:=omega)only[ZZ,simprocAttr,Ab,Pp,AU,AT,GC];refine⟨by rw[AF (by omega) (by omega)];omega,?_⟩;simp only[IL];rw[Ad (λh=>c1 h.1),CQ]
   .have ab:d=4:=by omega
    subst ab;refine⟨⟨m+1,by omega⟩,[(5,some 6)],by simp only;omega,?_⟩;simp only[Ao];simp(disch:=omega)only[ZZ,simprocAttr,Ab,Pp,AU,AT,GC];refine⟨by rw[AF (by omega) (by omega)];omega,?_⟩;simp only[GI,hq,CR,AJ]
  .have ad:m=k:=by omega
   subst ad;have ak:=E4 l Bl m;refine⟨by simp[AL,AV.bel],by simp[B7,Mk,AV.one],by omega,by rw[Mp,KN];simp[AL,AV.bel],⟨m+1,by omega⟩,[5],[(3,some 7)],by simp only;omega,?_⟩;have e1:EG l Bl (m+1)=EG l Bl m++[GI l G o.At m]:=by
    simp only[EG,hmi,ho,CR,AJ]
   simp only[Ao];simp(disch:=omega)only[ZZ,simprocAttr,Ab,Pp,AU,AT,Xl,YS,e1,Fg,Bm,BY];rw[AF (by omega) (by omega)];refine⟨by simp,?_⟩
   have:=SF [(3,some 7)] ((EG l Bl m).map C9++[[D.sl false 1 ((GI l G o.At m).map Af)]])
   simpa only[Bo,Fg,Bm,BY] using this
 .have ac:k=l.length:=by omega
  subst ac;simp(disch:=omega)only[ZZ,simprocAttr,Ab,Pp,OK]
end Go.Ae
