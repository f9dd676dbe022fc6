/- Lemmas. Conditions: none. -/
import Derived.Test.YtelbgmfdnnljoabGreatDoorP12
import Derived.Shelf.SlSortCmp.WholeK
import Derived.Shelf.SlicesG.Cmp
import Derived.StillTailTactics
import Derived.Lib.Small
import Derived.Lib.Walk
import Derived.Shelf.SlSortCmp.NoneTotal
set_option linter.all false
set_option maxHeartbeats 8000000
set_option maxRecDepth 100000
namespace Go.Proofs
open Go.Shelf
def Tryz.sortPl_ren:Go.Shelf.Ren:=⟨λ|6=>113|15=>141|14=>140|28=>172|29=>173|20=>164|21=>165|22=>166|23=>167|24=>168|25=>169|26=>170|27=>171|46=>188|47=>189|48=>190|49=>191|50=>192|57=>203|n=>n,λ|22=>36|24=>119|25=>169|3=>3|39=>197|0=>0|53=>233|55=>235|4=>4|46=>226|45=>225|50=>230|5=>5|9=>9|66=>253|70=>257|76=>271|77=>272|n=>n,λ|n=>n⟩
def Tryz.sortPl:Go.Proofs.SlLaysF0.n6 Tryz.prog Tryz.sortPl_ren:={
 mixed:=by kernel_rfl
 f6:=⟨Tryz.f113.name,by decide,Tryz.func113.trans (Dy some (by kernel_rfl))⟩
 f14:=⟨Tryz.f140.name,by decide,Tryz.func140.trans (Dy some (by kernel_rfl))⟩
 f15:=Tryz.func141.trans (Dy some (by kernel_rfl))
 f20:=⟨Tryz.f164.name,by decide,Tryz.func164.trans (Dy some (by kernel_rfl))⟩
 f21:=⟨Tryz.f165.name,by decide,Tryz.func165.trans (Dy some (by kernel_rfl))⟩
 f22:=⟨Tryz.f166.name,by decide,Tryz.func166.trans (Dy some (by kernel_rfl))⟩
 f23:=⟨Tryz.f167.name,by decide,Tryz.func167.trans (Dy some (by kernel_rfl))⟩
 f24:=⟨Tryz.f168.name,by decide,Tryz.func168.trans (Dy some (by kernel_rfl))⟩
 f25:=⟨Tryz.f169.name,by decide,Tryz.func169.trans (Dy some (by kernel_rfl))⟩
 f26:=⟨Tryz.f170.name,by decide,Tryz.func170.trans (Dy some (by kernel_rfl))⟩
 f27:=⟨Tryz.f171.name,by decide,Tryz.func171.trans (Dy some (by kernel_rfl))⟩
 f28:=Tryz.func172.trans (Dy some (by kernel_rfl))
 f29:=Tryz.func173.trans (Dy some (by kernel_rfl))
 f46:=⟨Tryz.f188.name,by decide,Tryz.func188.trans (Dy some (by kernel_rfl))⟩
 f47:=Tryz.func189.trans (Dy some (by kernel_rfl))
 f48:=Tryz.func190.trans (Dy some (by kernel_rfl))
 f49:=⟨Tryz.f191.name,by decide,Tryz.func191.trans (Dy some (by kernel_rfl))⟩
 f50:=⟨Tryz.f192.name,by decide,Tryz.func192.trans (Dy some (by kernel_rfl))⟩
 f57:=⟨Tryz.f203.name,by decide,Tryz.func203.trans (Dy some (by kernel_rfl))⟩
 t0:=Tryz.underlying0
 a0:=Tryz.isAgg0
 z0:=Tryz.sizeOf0
 v0:=Tryz.zeroValue0
 t3:=Tryz.underlying3
 a3:=Tryz.isAgg3
 z3:=Tryz.sizeOf3
 v3:=Tryz.zeroValue3
 t4:=Tryz.underlying4
 a4:=Tryz.isAgg4
 z4:=Tryz.sizeOf4
 v4:=Tryz.zeroValue4
 t5:=Tryz.underlying5
 a5:=Tryz.isAgg5
 z5:=Tryz.sizeOf5
 v5:=Tryz.zeroValue5
 t9:=Tryz.underlying9
 a9:=Tryz.isAgg9
 z9:=Tryz.sizeOf9
 v9:=Tryz.zeroValue9
 t22:=Tryz.underlying36
 a22:=Tryz.isAgg36
 z22:=Tryz.sizeOf36
 v22:=Tryz.zeroValue36
 t25:=Tryz.underlying169
 a25:=Tryz.isAgg169
 z25:=Tryz.sizeOf169
 v25:=Tryz.zeroValue169
 t39:=Tryz.underlying197
 a39:=Tryz.isAgg197
 z39:=Tryz.sizeOf197
 v39:=Tryz.zeroValue197
 t45:=Tryz.underlying225
 a45:=Tryz.isAgg225
 z45:=Tryz.sizeOf225
 v45:=Tryz.zeroValue225
 t46:=Tryz.underlying226
 a46:=Tryz.isAgg226
 z46:=Tryz.sizeOf226
 v46:=Tryz.zeroValue226
 t50:=Tryz.underlying230
 a50:=Tryz.isAgg230
 z50:=Tryz.sizeOf230
 v50:=Tryz.zeroValue230
 t53:=Tryz.underlying233
 a53:=Tryz.isAgg233
 z53:=Tryz.sizeOf233
 v53:=Tryz.zeroValue233
 t55:=Tryz.underlying235
 a55:=Tryz.isAgg235
 z55:=Tryz.sizeOf235
 v55:=Tryz.zeroValue235
 t66:=Tryz.underlying253
 a66:=Tryz.isAgg253
 z66:=Tryz.sizeOf253
 v66:=Tryz.zeroValue253
 t70:=Tryz.underlying257
 a70:=Tryz.isAgg257
 z70:=Tryz.sizeOf257
 v70:=Tryz.zeroValue257
 t76:=Tryz.underlying271
 a76:=Tryz.isAgg271
 z76:=Tryz.sizeOf271
 v76:=Tryz.zeroValue271
 t77:=Tryz.underlying272
 a77:=Tryz.isAgg272
 z77:=Tryz.sizeOf272
 v77:=Tryz.zeroValue272}
def Tryz.cmpI64_ren:Go.Shelf.Ren:=⟨λ|5=>143|7=>174|n=>n,λ|22=>2|3=>3|4=>4|n=>n,λ|n=>n⟩
def Tryz.cmpI64:Go.Proofs.SlLaysC2.n5 Tryz.prog Tryz.cmpI64_ren:={
 mixed:=by kernel_rfl
 f5:=⟨Tryz.f143.name,by decide,Tryz.func143.trans (Dy some (by kernel_rfl))⟩
 f7:=⟨Tryz.f174.name,by decide,Tryz.func174.trans (Dy some (by kernel_rfl))⟩
 t3:=Tryz.underlying3
 a3:=Tryz.isAgg3
 z3:=Tryz.sizeOf3
 v3:=Tryz.zeroValue3
 t4:=Tryz.underlying4
 a4:=Tryz.isAgg4
 z4:=Tryz.sizeOf4
 v4:=Tryz.zeroValue4
 t22:=Tryz.underlying2
 a22:=Tryz.isAgg2
 z22:=Tryz.sizeOf2
 v22:=Tryz.zeroValue2}
end Go.Proofs
namespace Go.Proofs
open Go.Shelf Go.RowKit Go.Lib Go.Sort
def Tryz.cmp64(x y:Int)(W:World):Calls Tryz.prog 143 #[.int .i64 x,.int .i64 y] W λe w'=>e= .returned (.int .i64 (Lib.compareInt x y))/\w'=W:=
 AnyG.cmp_Compare_int Tryz.cmpI64 x y W
def Tryz.orTwo(b:Nat)(x y:Int)(W:World)(h0:W.cell? ⟨b,0,none⟩=some (.int .i64 x))(z:W.cell? ⟨b,1,none⟩=some (.int .i64 y)):
 Calls Tryz.prog 142 #[.slice (some ⟨b,0,none⟩) 2 2] W λe w'=>e= .returned (.int .i64 (if x=0 then y else x))/\w'=W:=by
 go_enter Tryz.func142,Tryz.ntmps142
 go_wp2
 refine wp_loop_rounds 3 ?_;rw[rounds_succ]
 go_wp2
 all_goals (try rw[rounds_succ])
 all_goals (try go_wp2)
 all_goals (try rw[rounds_succ])
 all_goals (try go_wp2)
 all_goals (go_ret;refine⟨?_,rfl⟩;simp_all)
def Qr(W:World)(a b a' b':Value)(T:TypeId):
 let z:=((W.alloc (Obj.cells #[a,b] T)).alloc (Obj.cells #[a',b'] T)).drew
 z.cell? ⟨W.heap.size,0,none⟩=some a/\z.cell? ⟨W.heap.size,1,none⟩=some b/\z.cell? ⟨W.heap.size+1,0,none⟩=some a'/\z.cell? ⟨W.heap.size+1,1,none⟩=some b'/\
  ∃O,z=grow (W.drewN 1) O:=by
 have e:((W.alloc (Obj.cells #[a,b] T)).alloc (Obj.cells #[a',b'] T)).drew=grow (W.drewN 1) #[Obj.cells #[a,b] T,Obj.cells #[a',b'] T]:=by
  rw[alloc_eq_grow,alloc_eq_grow,grow_grow];rfl
 have h0:(W.heap++ #[Obj.cells #[a,b] T,Obj.cells #[a',b'] T])[W.heap.size]? =some (Obj.cells #[a,b] T):=by
  rw[Zej (AU _),Ke];rfl
 have Q:(W.heap++ #[Obj.cells #[a,b] T,Obj.cells #[a',b'] T])[W.heap.size+1]? =some (Obj.cells #[a',b'] T):=by
  rw[Zej (nB _),show W.heap.size.succ - W.heap.size=1 by omega];rfl
 simp only[e];refine⟨?_,?_,?_,?_,_,rfl⟩<;>unfold World.cell? <;>simp only[grow,World.drewN,h0,Q]<;>rfl
def Qvb(w:World)(a b:Value)(T:TypeId):(w.alloc (Obj.cells #[a,b] T)).cell? ⟨w.heap.size,0,none⟩=some a/\(w.alloc (Obj.cells #[a,b] T)).cell? ⟨w.heap.size,1,none⟩=some b:=by
 have h0:(w.heap.push (Obj.cells #[a,b] T))[w.heap.size]? =some (Obj.cells #[a,b] T):=by simp
 constructor<;>unfold World.cell? <;>simp only[World.alloc,h0]<;>rfl
def Ol(p q:Int×Int):Int:=if Lib.compareInt p.2 q.2=0 then Lib.compareInt p.1 q.1 else Lib.compareInt p.2 q.2
def Tryz.cmpPoints(x y x' y':Int)(W:World):Calls Tryz.prog 115 #[.agg #[.int .i64 x,.int .i64 y],.agg #[.int .i64 x',.int .i64 y']] W λe w'=>
 e= .returned (.int .i64 (Ol (x,y) (x',y')))/\ ∃q Z,w'=grow (W.drewN q) Z:=by
 have z:=λW'=>Tryz.cmp64 y y' W'
 have O:=λW'=>Tryz.cmp64 x x' W'
 unfold Ol;simp only;generalize Lib.compareInt y y'=r1 at z⊢;generalize Lib.compareInt x x'=r2 at O⊢;have Q:=λ(b:Nat) W'=>Tryz.orTwo b r1 r2 W'
 generalize (if r1=0 then r2 else r1)=r at Q⊢
 go_enter Tryz.func115,Tryz.ntmps115
 go_wp2
 refine wp_region_still_tail 10 (by kernel_rfl) (by kernel_rfl) ?_;simp only[Fj,E5,LO,GJ];obtain⟨d1,d2,d3,d4,hg⟩:=Qr W (.int .i64 x) (.int .i64 y) (.int .i64 x') (.int .i64 y') 95;change wpStill _ _ ((W.alloc (Obj.cells #[Value.int IntKind.i64 x,Value.int IntKind.i64 y] 95)).alloc (Obj.cells #[Value.int IntKind.i64 x',Value.int IntKind.i64 y'] 95)).drew (λa'=>wpList _ _ _ _ a' ((W.alloc (Obj.cells #[Value.int IntKind.i64 x,Value.int IntKind.i64 y] 95)).alloc (Obj.cells #[Value.int IntKind.i64 x',Value.int IntKind.i64 y'] 95)).drew) _ _;generalize ((W.alloc (Obj.cells #[Value.int IntKind.i64 x,Value.int IntKind.i64 y] 95)).alloc (Obj.cells #[Value.int IntKind.i64 x',Value.int IntKind.i64 y'] 95)).drew=w3 at d1 d2 d3 d4 hg⊢
 still_step
 still_step
 still_step
 still_step
 still_call (z _)
 still_step
 still_step
 still_step
 still_step
 still_call (O _)
 refine wpStill_nil ?_
 go_wp2_with (go_at_call 142;refine (Q _ _ (Qvb _ _ _ _).1 (Qvb _ _ _ _).2).mono ?_;rintro e w' ⟨rfl,rfl⟩)
 go_ret
 obtain⟨aa,rfl⟩:=hg;exact⟨rfl,1,_,by rw[alloc_eq_grow,grow_grow]⟩
def Tryz.cmpPlaced90(x y t x' y' t':Int)(W:World):Calls Tryz.prog 114 #[.agg #[.int .i64 x,.int .i64 y,.int .i64 t],.agg #[.int .i64 x',.int .i64 y',.int .i64 t']] W λe w'=>
 e= .returned (.int .i64 (Ol (x,y) (x',y')))/\ ∃q O,w'=grow (W.drewN q) O:=by
 have z:=λW'=>Tryz.cmpPoints x y x' y' W'
 generalize Ol (x,y) (x',y')=r at z⊢
 go_enter Tryz.func114,Tryz.ntmps114
 go_wp2_with (go_at_call 115;refine (z _).mono ?_;rintro e w' ⟨rfl,q,O,rfl⟩)
 go_ret
 exact⟨rfl,q,_,by rw[alloc_eq_grow,alloc_eq_grow,grow_grow];show grow (grow (W.drewN q) _) O=_;rw[grow_grow]⟩
end Go.Proofs
namespace Go.Ae
open Go.Proofs Go.Sort Go.Shelf
instance:Inhabited Al:=⟨⟨⟨0,0⟩,0⟩⟩
def Dc(x:Al):List Value:=[.int .i64 x.At.X,.int .i64 x.At.Y,.int .i64 x.Tile]
def cfP(x y:Al):Int:=Ol (x.At.X,x.At.Y) (y.At.X,y.At.Y)
def Qz0(x y:Al):ltOf cfP x y=Co x.At y.At:=by
 simp only[ltOf,cfP,Ol,Lib.compareInt,Co]
 grind
def swoP:SWO (ltOf cfP) where
 irrefl x:=by rw[Qz0];simp only[Co];grind
 trans x y z h1 h2:=by rw[Qz0] at*;simp only[Co] at*;grind
 ntrans x y z h1 h2:=by rw[Qz0] at*;simp only[Co] at*;grind
def DI(l:List Al):List Al:=l.foldr (λx r=>EB x.At x.Tile r) []
def tF(x:Al): ∀(l:List Al),(EB x.At x.Tile l).Perm (x::l)
 |[]=>ZeE _
 |y::r=>by
  simp only[EB];split
  .exact ZeE _
  .exact ((tF x r).cons y).trans (List.Perm.swap x y r)
def ZP: ∀(l:List Al),(DI l).Perm l
 |[]=>ZeE _
 |x::r=>(tF x (DI r)).trans ((ZP r).cons x)
def Quq{a b c:AC}(z:Co a b=true)(O:Co c b=false):Co c a=false:=by
 simp only[Co] at*;grind
def uQ(x:Al): ∀(l:List Al),l.Pairwise (λa b=>Co b.At a.At=false)->(EB x.At x.Tile l).Pairwise (λa b=>Co b.At a.At=false)
 |[],_=>by simp[EB]
 |y::r,h=>by
  rw[vL] at h;simp only[EB];split
  .rename_i Q;rw[vL,vL];refine⟨λz O=> ?_,h⟩;have Z:Co y.At x.At=false:=by simp only[Co] at*;grind
   rcases Br.1 O with rfl|O
   .exact Z
   .have:=h.1 z O
    exact Quq Q this
  .rename_i Q;rw[vL];refine⟨λz O=> ?_,uQ x r h.2⟩;rcases (Qlc _ _ _ _).1 O with rfl|O
   .simpa using Q
   .exact h.1 z O
def tH: ∀(l:List Al),(DI l).Pairwise (λa b=>Co b.At a.At=false)
 |[]=>List.Pairwise.nil
 |x::r=>uQ x _ (tH r)
def cY(l:List Al):(DI l).length=l.length:=(ZP l).length_eq
def RU{l:List Al}(h:(l.map Al.At).Nodup){x y:Al}(hx:x∈l)(hy:y∈l)(Z:x.At=y.At):x=y:=by
 induction l with
 |nil=>cases hx
 |cons z r ih=>
  rw[Be,bE] at h;rcases Br.1 hx with O|O<;>rcases Br.1 hy with Q|Q
  .rw[O,Q]
  .exact absurd (show z.At∈r.map Al.At by rw[<-O,Z];exact Zeo Q) h.1
  .exact absurd (show z.At∈r.map Al.At by rw[<-Q,<-Z];exact Zeo O) h.1
  .exact ih h.2 O Q
def zO{l l':List Al}(hd:(l.map Al.At).Nodup)(hp:l'.Perm l)(hs:l'.Pairwise (λa b=>Co b.At a.At=false)):l'=DI l:=by
 refine List.Perm.eq_of_pairwise (le:=λa b=>Co b.At a.At=false) (λa b ha hb Q Z=> ?_) hs (tH l) (hp.trans (ZP l).symm);refine RU hd (hp.mem_iff.1 ha) ((ZP l).mem_iff.1 hb) ?_;revert Q Z;obtain⟨⟨ax,ay⟩,z⟩:=a;obtain⟨⟨bx,O⟩,bt⟩:=b;simp only[Co,AC.mk.injEq]
 grind
def SK(l:List Al):List Value:=l.flatMap Dc
def Ms(l:List Al):(SK l).length=l.length*3:=by
 induction l with
 |nil=>rfl
 |cons x r ih=>simp only[SK,Kb,Ez,Dx] at ih⊢;rw[ih];simp[Dc];omega
def Ql5{ok:Nat->Prop}{hp:Nat->Option Obj}: ∀(l:List Al) (L:List Value),rdr ok hp 3 (l.map Al.c) L↔ ∃r,L=SK l++r
 |[],L=>by simp[rdr,SK]
 |x::r,L=>by
  simp only[Be,rdr,Ql5 r,Al.c,rdp,rd,SK,Kb];constructor
  .rintro⟨_,⟨v,z,rfl,rfl,Z,O,rfl,rfl,v3,Q,rfl,rfl,_⟩,q,hq⟩;exact⟨q,by simp only[LO,GJ] at hq;rw[hq];rfl⟩
  .rintro⟨q,rfl⟩;exact⟨rfl,⟨_,_,rfl,rfl,_,_,rfl,rfl,_,_,rfl,rfl,trivial⟩,q,rfl⟩
def Mr: ∀(l:List Al) (t:Nat),t<l.length*3->(SK l)[t]? =some ((Dc (l[t/3]?.getD default))[t % 3]!)
 |[],t,h=>by simp at h
 |x::r,t,h=>by
  by_cases Q:t<3
  .have:t=0\/t=1\/t=2:=by omega
   rcases this with rfl|rfl|rfl<;>simp[SK,Dc]
  .obtain⟨u,rfl⟩: ∃u,t=u+3:=⟨t - 3,by omega⟩;have z:(u+3)/3=u/3+1:=by omega
   have O:(u+3) % 3=u % 3:=by omega
   have ih:=Mr r u (by simp at h;omega);rw[z,O,QH,<-ih];simp[SK,Dc]
def Qvu(l:List Al):(flatK Dc 3 l.toArray).toList=SK l:=by
 apply RH;intro t;by_cases z:t<l.length*3
 .rw[Mr l t z];have O:t<(flatK Dc 3 l.toArray).size:=by simp only[size_flatK,bB];exact z
  have Q:=get_flatK Dc 3 l.toArray t (by simpa using z);rw[KS,QI O,<-getElem!_pos (flatK Dc 3 l.toArray) t O,Q];congr 3;simp[getElem!_def];cases l[t/3]? <;>rfl
 .have a1:(flatK Dc 3 l.toArray).toList.length<=t:=by rw[Fi,size_flatK,bB];omega
  have a2:(SK l).length<=t:=by rw[Ms];omega
  rw[Ir a1,Ir a2]
def srt.ca(_:List Al):List AV:=[.own 0,.im (.fn 114 [] [])]
def srt.H0(a:List Al):An:=[(0,(true,.arr 119 3 (a.map Al.c)))]
def srt.H1(a:List Al):An:=[(0,(true,.arr 119 3 ((DI a).map Al.c)))]
def srt.row:AF:=AD srt.ca srt.H0 1 (λa=>(a.map Al.At).Nodup) (λ_=>true) (λ_=> .im (.tup [])) srt.H1 0
def srt.ok:AL 113 srt.row:=by
 rintro args h nx K ⟨a,τ,U,KL,a8,rfl,Q,hN,hK⟩;refine⟨aA (by kernel_rfl),_,_,?_,hK⟩;intro C S vs R hW ba bc bd ab ax;have aq:Bw τ 1 nx 0=τ 0:=Ai (by omega);simp only[srt.ca,AI,AV.ren,aq,AO,Aa,rd,rdl] at ab;obtain⟨v0,r0,hv,⟨af,aj⟩,v1,r1,bj,⟨ac,cc,bm,ak,am⟩,bl⟩:=ab;have ak:ac= #[]:=by apply bG;simpa using ak
 have am:cc= #[]:=by apply bG;simpa using am
 subst ak am bl bj bm;have bn:vs= #[v0,.func (Yf 114) #[] #[]]:=by apply bG;simpa using hv
 subst bn;have hm:h (τ 0)=some (true,.arr 119 3 (a.map Al.c)):=by
  have:=Q.1
  rwa [aq] at this
 have aw:Aj (srt.H0 a) 0=true:=rfl;have Z:S.h (τ 0)=some (true,.arr 119 3 (a.map Al.c)):=by
  rw[ba (τ 0) (KQ _ (hN.u 0 aw)),hm]
 have ay: ∀n,n∈KL↔n=τ 0:=by
  intro n;constructor
  .intro hn;obtain⟨j,h1,_,h3⟩:=hN.k1 n hn
   have:j=0:=by
    simp only[Aj,srt.H0,hget] at h1;by_cases hj:j=0
    .exact hj
    .have:(0==j)=false:=by simpa using λh=>hj h.symm
     rw[this] at h1;cases h1
   rw[h3,this]
  .rintro rfl;exact hN.k2 0 aw rfl
 obtain⟨m,hmm⟩: ∃m,m=τ 0:=⟨_,rfl⟩;rw[<-hmm] at Z aj ay;have au:=cY a;have fin: ∀(w':World),KF S m (.arr 119 3 ((DI a).map Al.c)) (S.ρ m) [m] w'->
  (BP (λn=>S.h m≠none\/n≠m) S (S.one m (.arr 119 3 ((DI a).map Al.c)) (S.ρ m) [m] w')->Ao (S.one m (.arr 119 3 ((DI a).map Al.c)) (S.ρ m) [m] w') (S.ρ m) (.arr 119 3 ((DI a).map Al.c)))->R (.returned (.tuple #[])) w':=by
  intro w' af bi;have hp:=lH hW af;refine ax (.tuple #[]) _ (uB hW af (bi hp)) ?_ ⟨hp.ok,λn _=>hp.nm n (.inl (by rw[Z];simp))⟩ ⟨#[],rfl,rfl⟩;funext n;simp only[A7.one,B5.appf,srt.H1,AQ,aq,hget,Ac.ren,<-hmm];by_cases hn:n=m
  .subst hn;simp
  .have h1:(m==n)=false:=by simpa using λh=>hn h.symm
   have h2:KL.contains n=false:=by
    rw[<-mW,Jr,ay];exact hn
   simp only[h1,Bk,h2,hn,CO,BS]
 have z:=aj _ Z;have aa:=hW.obj _ _ Z;have a0:=λO=>hW.loc m _ O Z
 cases hρ:S.ρ m with
 |none=>
  rw[hρ] at z aa;simp only[Ao] at aa;have ha:a=[]:=by simpa using aa.2
  subst ha;simp only at z;rw[z,fX (by decide)];refine (AnyF.slices_SortFunc_none Tryz.sortPl none 0 (.func (.func 114) #[] #[]) S.w).mono ?_;rintro e w' ⟨rfl,rfl⟩;refine fin S.w (MY Z (λl hl=>by rw[hρ] at hl;cases hl) rfl rfl) (λ_=> ?_);rw[hρ];exact⟨C5 _,rfl⟩
 |some O=>
  rw[hρ] at z aa;simp only[Ao,Ac.len] at aa z;obtain⟨g1,g2,cv,g3,g4,g5⟩:=aa;obtain⟨ao,bp⟩:=a0 O hρ;rw[Ql5] at g5;obtain⟨bb,g5⟩:=g5;simp only[GL] at g1 g2 z;have Q:S.w.heap[O.b]? =some (.cells cv 119 (0,0)):=g3;have bo:O.p+a.length*3<=cv.size:=by omega
  have hF:(flatK Dc 3 a.toArray).size=a.length*3:=by simp
  have hget: ∀j,j<a.length*3->cv[O.p+j]? =some ((flatK Dc 3 a.toArray)[j]!):=by
   intro j hj;have h1:(cv.toList.drop O.p)[j]? =(SK a++bb)[j]? :=by rw[g5]
   rw[XC,KS,Io (by rw[Ms];exact hj),<-Qvu,KS] at h1;rw[h1,QI (by rw[hF];exact hj),getElem!_pos _ _ (by rw[hF];exact hj)]
  have hH:HoldsK Dc 3 S.w O.b O.p a.toArray:=by
   intro j hj;rw[hF] at hj;refine⟨?_,?_⟩
   .simp only[World.cell?,Q,gQ,Df,CO,id];exact hget j hj
   .simp only[World.frozen?,Q];simp
  have hc:=AnyQ.slices_SortFunc Tryz.sortPl 3 Tryz.isAgg119 Tryz.sizeOf119 Dc (λ_=>rfl) (λx v hv=>by simp[Dc] at hv;rcases hv with rfl|rfl|rfl<;>rfl) cfP swoP 114 #[] O.b O.p O.cap a.toArray S.w
   (yQ (aA (by kernel_rfl))) (λm os dk hs x y=>Tryz.cmpPlaced90 _ _ _ _ _ _ _) hH ao (by simp only[bB,JT] at g1⊢;omega)
  rw[z,fX (by decide)];refine hc.mono ?_;rintro e w' ⟨rfl,d',n,os,ag,av,rfl⟩;have a9:d'.size=a.length:=ag.1;have bg:d'.toList=DI a:=by
   refine zO a8 ?_ ?_
   .have:=ag.2.2
    rwa [show d'.extract 0 a.toArray.size=d' by rw[bB,<-a9];exact Zey,show a.toArray.extract 0 a.toArray.size=a.toArray from Zey] at this
   .rw[List.pairwise_iff_getElem];intro i j hi hj bh
    have:=av i j (C5 _) bh (by rw[bB,<-a9];simpa using hj)
    rw[Qz0,getElem!_pos d' i (by simpa using hi),getElem!_pos d' j (by simpa using hj)] at this;simpa using this
  obtain rfl:d'=(DI a).toArray:=by apply bG;rw[bg]
  have ai:(flatK Dc 3 (DI a).toArray).size=a.length*3:=by simp[au]
  have an:(flatK Dc 3 (DI a).toArray).toList.length=a.length*3:=by rw[Fi,ai]
  have ah:S.w.heap.size<=(sortWorldK Dc 3 S.w O.b O.p n (DI a).toArray os).heap.size:=by
   simp[sortWorldK,grow,putRowK,Sort.ahead]
  have hb: ∀b,b<S.w.heap.size->(sortWorldK Dc 3 S.w O.b O.p n (DI a).toArray os).heap[b]? =if O.b=b then S.w.heap[b]?.map (onCells (putCells id O.p (flatK Dc 3 (DI a).toArray))) else S.w.heap[b]? :=by
   intro b hb;have e0:b<(putRowK Dc 3 (Sort.ahead S.w n) O.b O.p (DI a).toArray).heap.size:=by simpa[putRowK,Sort.ahead] using hb
   simp only[sortWorldK,grow];rw[Zdw e0];simp only[putRowK,putRow,mapBlock,Sort.ahead,ZeP]
  refine fin _ ⟨rfl,rfl,rfl,Zee _ _,ah,?_,.inl (by simp),?_,?_,?_⟩ ?_
  .intro b be bf;rw[hb b be,Af (bf m _ O (by simp) Z hρ)]
  .intro lo az;rw[hρ] at az;obtain rfl:=AJ az;exact⟨FM ao ah,.inr ⟨m,_,O,by simp,Z,hρ,rfl⟩⟩
  .intro f hf;rw[Z] at hf;obtain rfl:=AJ hf;exact⟨rfl,rfl,by simp[Ac.len,au]⟩
  .intro n' f _ ad;rw[Z] at ad;cases ad
  .intro _;rw[hρ];simp only[Ao,GL,au];refine⟨g1,g2,putCells id O.p (flatK Dc 3 (DI a).toArray) cv,?_,by simpa[putCells] using g4,?_⟩
   .simp only[A7.one,A7.hp];rw[hb O.b ao,Ai rfl,Q];rfl
   .rw[Ql5];refine⟨(cv.toList.drop (O.p+a.length*3)),?_⟩;apply RH;intro t;rw[XC,KS,putCells,Array.getElem?_mapIdx,ai,<-Qvu];by_cases ht:t<a.length*3
    .rw[Io (by rw[an];exact ht),KS,QI (show O.p+t<cv.size by omega),QI (by rw[ai];exact ht)];simp only[Dh,id];rw[Ai ⟨by omega,by omega⟩,Zdk,getElem!_pos _ _ (by rw[ai];exact ht)]
    .rw[Kc (by rw[an];omega),an,XC,KS,show O.p+a.length*3+(t - a.length*3)=O.p+t by omega];cases cv[O.p+t]? with
     |none=>rfl
     |some x=>simp only[Dh];rw[Af (by omega)]
end Go.Ae
namespace Go.Ae
open Go.Proofs Go.Lib
def Fl(s:Ap)(k i d c:Nat):Int:=if 0<FZ s i d then (FZ s i d - 1)*k+(c:Nat)+1 else 0
def GN(s:Ap)(k i x y:Nat):Int:=if y<k - 1 then ((s.Glues.length*k+i*Bx k+(k*(k - 1)+(y*k+x))+1:Nat):Int) else Fl s k i 0 x
def GO(s:Ap)(k i x y:Nat):Int:=if x<k - 1 then ((s.Glues.length*k+i*Bx k+(y*(k - 1)+x)+1:Nat):Int) else Fl s k i 1 y
def GQ(s:Ap)(k i x y:Nat):Int:=if 0<y then ((s.Glues.length*k+i*Bx k+(k*(k - 1)+((y - 1)*k+x))+1:Nat):Int) else Fl s k i 2 x
def GR(s:Ap)(k i x y:Nat):Int:=if 0<x then ((s.Glues.length*k+i*Bx k+(y*(k - 1)+(x - 1))+1:Nat):Int) else Fl s k i 3 y
def CJ(s:Ap)(k i x y:Nat):List Int:=[GN s k i x y,GO s k i x y,GQ s k i x y,GR s k i x y]
def GC(s:Ap)(i d c:Nat):ByteArray:=if FZ s i d=0 then ⟨#[45]⟩ else E4 ⟨#[103]⟩ (FZ s i d) (c:Nat)
def OW(s:Ap)(k i x y:Nat):ByteArray:=if y=k - 1 then GC s i 0 x else Cr ⟨#[118]⟩ (i:Nat) (x:Nat) (y:Nat)
def OX(s:Ap)(k i x y:Nat):ByteArray:=if x=k - 1 then GC s i 1 y else Cr ⟨#[104]⟩ (i:Nat) (x:Nat) (y:Nat)
def OY(s:Ap)(i x y:Nat):ByteArray:=if y=0 then GC s i 2 x else Cr ⟨#[118]⟩ (i:Nat) (x:Nat) ((y - 1:Nat):Int)
def OZ(s:Ap)(i x y:Nat):ByteArray:=if x=0 then GC s i 3 y else Cr ⟨#[104]⟩ (i:Nat) ((x - 1:Nat):Int) (y:Nat)
def Ow{s:Ap}(hs:Dt s)(i d:Nat):0<=FZ s i d/\FZ s i d<=s.Glues.length:=by
 simp only[FZ,Bq];cases h:s.Tiles[i]? with
 |none=>simp
 |some t=>
  simp only[Dh,AX];cases h2:t.Sides[d]? with
  |none=>simp
  |some g=>exact (hs.2.1 t (Bg h)).2 g (Bg h2)
def L0{s:Ap}{k j:Nat}(z:1<=k/\k<=4)(O:j<CC s k)(hn:(CP s k j).Name≠⟨#[45]⟩):EW (D1 s k) (CP s k j).Name=((j+1:Nat):Int):=by
 rw[Ve _ rfl (qN z) (MT s k z),Af hn,jZ z O]
def WW{s:Ap}{k i d c:Nat}(hs:Dt s)(z:1<=k/\k<=4)(hc:c<k):EW (D1 s k) (GC s i d c)=Fl s k i d c:=by
 obtain⟨Q,Z⟩:=Ow hs i d;obtain⟨g,hg⟩: ∃g:Nat,FZ s i d=g:=⟨(FZ s i d).toNat,by omega⟩;simp only[GC,Fl,hg];rw[hg] at Q Z;by_cases h0:g=0
 .subst h0;rw[Ai (by omega),Af (by omega),Ve _ rfl (qN z) (MT s k z),Ai rfl]
 .rw[Af (by omega),Ai (by omega)];have hi:g - 1<s.Glues.length:=by omega
  have e:=G9 (s:=s) z hi hc;have hj:(g - 1)*k+c<CC s k:=by
   have:(g - 1+1)*k<=s.Glues.length*k:=Iu _ (by omega)
   rw[DB,Fk] at this;simp only[CC];omega
  have O:(CP s k ((g - 1)*k+c)).Name=E4 ⟨#[103]⟩ (g:Int) (c:Nat):=by
   rw[e];simp only;rw[show ((g - 1+1:Nat):Int)=(g:Int) by omega]
  have:=L0 z hj (by rw[O];exact YL _ g c)
  rw[O] at this;rw[this];rcases (by omega:k=1\/k=2\/k=3\/k=4) with rfl|rfl|rfl|rfl<;>omega
def bL{s:Ap}{k i r:Nat}(z:i<s.Tiles.length)(O:r<Bx k):s.Glues.length*k+i*Bx k+r<CC s k:=by
 have:(i+1)*Bx k<=s.Tiles.length*Bx k:=Iu _ (by omega)
 rw[DB,Fk] at this;simp only[CC];omega
def wB{k x y:Nat}(z:1<=k/\k<=4)(O:x<k - 1)(Q:y<k):y*(k - 1)+x<Bx k:=by
 simp only[Bx];rcases (by omega:k=1\/k=2\/k=3\/k=4) with rfl|rfl|rfl|rfl<;>omega
def wE{k x y:Nat}(z:1<=k/\k<=4)(O:x<k)(Q:y<k - 1):k*(k - 1)+(y*k+x)<Bx k:=by
 simp only[Bx];rcases (by omega:k=1\/k=2\/k=3\/k=4) with rfl|rfl|rfl|rfl<;>omega
def wA{s:Ap}{k i x y:Nat}(z:1<=k/\k<=4)(Z:i<s.Tiles.length)(O:x<k - 1)(Q:y<k):EW (D1 s k) (Cr ⟨#[104]⟩ (i:Nat) (x:Nat) (y:Nat))=((s.Glues.length*k+i*Bx k+(y*(k - 1)+x)+1:Nat):Int):=by
 have e:=GA (s:=s) (i:=i) z O Q
 have:=L0 z (bL Z (wB z O Q)) (by rw[e];exact Md _ i x y)
 rw[e] at this;exact this
def wD{s:Ap}{k i x y:Nat}(z:1<=k/\k<=4)(Z:i<s.Tiles.length)(O:x<k)(Q:y<k - 1):EW (D1 s k) (Cr ⟨#[118]⟩ (i:Nat) (x:Nat) (y:Nat))=((s.Glues.length*k+i*Bx k+(k*(k - 1)+(y*k+x))+1:Nat):Int):=by
 have e:=GB (s:=s) (i:=i) z O Q
 have:=L0 z (bL Z (wE z O Q)) (by rw[e];exact Md _ i x y)
 rw[e] at this;exact this
def Sf{s:Ap}{k i x y:Nat}(hs:Dt s)(z:1<=k/\k<=4)(O:i<s.Tiles.length)(Q:x<k)(Z:y<k):
 [OW s k i x y,OX s k i x y,OY s i x y,OZ s i x y].map (EW (D1 s k))=CJ s k i x y:=by
 have e0:EW (D1 s k) (OW s k i x y)=GN s k i x y:=by
  simp only[OW,GN];by_cases c:y=k - 1
  .rw[Ai c,Af (by omega),WW hs z Q]
  .rw[Af c,Ai (by omega),wD z O Q (by omega)]
 have e1:EW (D1 s k) (OX s k i x y)=GO s k i x y:=by
  simp only[OX,GO];by_cases c:x=k - 1
  .rw[Ai c,Af (by omega),WW hs z Z]
  .rw[Af c,Ai (by omega),wA z O (by omega) Z]
 have e2:EW (D1 s k) (OY s i x y)=GQ s k i x y:=by
  simp only[OY,GQ];by_cases c:y=0
  .rw[Ai c,Af (by omega),WW hs z Q]
  .rw[Af c,Ai (by omega),wD z O Q (by omega)]
 have e3:EW (D1 s k) (OZ s i x y)=GR s k i x y:=by
  simp only[OZ,GR];by_cases c:x=0
  .rw[Ai c,Af (by omega),WW hs z Z]
  .rw[Af c,Ai (by omega),wA z O (by omega) Z]
 simp only[Be,BF,e0,e1,e2,e3,CJ]
def KX(s:Ap)(k j:Nat):Tile:=
 let i:=j/(k*k);let t:=j % (k*k)
 ⟨Cr ⟨#[112]⟩ (i:Nat) ((t % k:Nat):Int) ((t/k:Nat):Int),CJ s k i (t % k) (t/k)⟩
def Lx(s:Ap)(k:Nat):List Tile:=(List.range (s.Tiles.length*(k*k))).map (KX s k)
def Se{s:Ap}{k i t:Nat}(Q:1<=k/\k<=4)(Z:t<k*k):KX s k (i*(k*k)+t)=⟨Cr ⟨#[112]⟩ (i:Nat) ((t % k:Nat):Int) ((t/k:Nat):Int),CJ s k i (t % k) (t/k)⟩:=by
 simp only[KX];have z:(i*(k*k)+t)/(k*k)=i:=by
  rcases (by omega:k=1\/k=2\/k=3\/k=4) with rfl|rfl|rfl|rfl<;>omega
 have O:(i*(k*k)+t) % (k*k)=t:=by
  rcases (by omega:k=1\/k=2\/k=3\/k=4) with rfl|rfl|rfl|rfl<;>omega
 rw[z,O]
def Kg(k:Nat)(x:Al)(c:Nat):Al:=⟨⟨x.At.X*k+(c % k:Nat),x.At.Y*k+(c/k:Nat)⟩,x.Tile*k*k+(c:Nat)⟩
def Bu(k:Nat)(l:List Al):List Al:=l.flatMap λx=>(List.range (k*k)).map (Kg k x)
def FC(x:Al):Bool:=Ic x.At && decide (x.Tile<=159)
def Hl(l:List Al):AB:=l.foldl (λo x=>GW o x.At x.Tile) ⟨[]⟩
def qM(l:List Al)(x:Al):Hl (l++[x])=GW (Hl l) x.At x.Tile:=by simp[Hl]
def eF: ∀(n:Nat) (l:List Al),l.length=n->(Hl l).Tiles.Perm l/\(Hl l).Tiles.Pairwise (λa b=>Co b.At a.At=false)
 |0,l,h=>by
  obtain rfl:=Wj.1 h;exact⟨ZeE _,List.Pairwise.nil⟩
 |n+1,l',h=>by
  rcases ZeS l' with rfl|⟨l,x,rfl⟩
  .simp at h
  rw[ZeR] at h⊢;obtain⟨z,O⟩:=eF n l (by simpa using h);rw[qM,yT];refine⟨((tF x _).trans (z.cons x)).trans ?_,uQ x _ O⟩;exact (List.perm_append_comm (l₁:=[x]) (l₂:=l))
def Un{l:List Al}(hd:(l.map Al.At).Nodup):Hl l=⟨DI l⟩:=by
 obtain⟨z,O⟩:=eF _ l rfl
 have:=zO hd z O
 cases h:Hl l with|mk t=>rw[h] at this;simp only at this;rw[this]
def P9(l:List Al):(Hl l).Tiles.length=l.length:=(eF _ l rfl).1.length_eq
def Pm{l:List Al}(q:Option AC)(hq: ∀p,q=some p-> ∀x∈l,Co p x.At=true)(hd:(l.map Al.At).Nodup)(hs:l.Pairwise (λa b=>Co b.At a.At=false))(h0: ∀x∈l,0<=x.Tile):Dm q l=l.all FC:=by
 induction l generalizing q with
 |nil=>simp[Qik]
 |cons x r ih=>
  rw[Be,bE] at hd;rw[vL] at hs;have O: ∀y∈r,Co x.At y.At=true:=λy z=>by
   have Z:=hs.1 y z;have h2:x.At≠y.At:=λe=>hd.1 (e▸Bl.2 ⟨y,z,rfl⟩)
   revert Z h2;obtain⟨⟨ax,ay⟩,Q⟩:=x;obtain⟨⟨bx,bz⟩,bt⟩:=y;simp only[Co,ne_eq,AC.mk.injEq]
   grind
  have ih:=ih (some x.At) (λp e y z=>by obtain rfl:=AJ e;exact O y z) hd.2 hs.2 λy z=>h0 y (BQ _ z)
  rw[rJ,ih,EZ];have hx:=h0 x (BU ..);have e:Bz x.Tile 0 159=decide (x.Tile<=159):=by
   simp only[Bz];rw[Wn hx,EL]
  rw[FC,e];cases q with
  |none=>simp[mQ]
  |some p=>
   have:=hq p rfl x (BU ..)
   simp[this,mQ]
def eB{k:Nat}(hk:1<=k/\k<=4){l:List Al}(hd:(l.map Al.At).Nodup):((Bu k l).map Al.At).Nodup:=by
 induction l with
 |nil=>simp[Bu]
 |cons x r ih=>
  rw[Be,bE] at hd;have ih:=ih hd.2;simp only[Bu] at ih;rw[Bu,Kb,DX,Wq];refine⟨?_,ih,?_⟩
  .rw[Hu];refine List.Pairwise.map _ (λa b O e=>O ?_) (Zed (n:=k*k));simp only[Function.comp,Kg,AC.mk.injEq] at e;obtain⟨Z,e2⟩:=e;rcases (by omega:k=1\/k=2\/k=3\/k=4) with rfl|rfl|rfl|rfl<;>omega
  .intro p hp q hq e;rw[Hu] at hp;obtain⟨a,ha,rfl⟩:=Bl.1 hp;obtain⟨z,Q,rfl⟩:=Bl.1 hq;obtain⟨y,hy,Q⟩:=vC.1 Q;obtain⟨b,hb,rfl⟩:=Bl.1 Q;rw[Bc] at ha hb;refine hd.1 (Bl.2 ⟨y,hy,?_⟩);simp only[Function.comp,Kg,AC.mk.injEq] at e;obtain⟨Z,e2⟩:=e;obtain⟨⟨ax,ay⟩,aa⟩:=x;obtain⟨⟨bx,bz⟩,bt⟩:=y;simp only[AC.mk.injEq] at Z e2⊢;rcases (by omega:k=1\/k=2\/k=3\/k=4) with rfl|rfl|rfl|rfl<;>omega
def CU(a:AB)(k:Nat):AB×Bool:=if a.Tiles.length*k*k<=500/\(Bu k a.Tiles).all FC=true then (⟨DI (Bu k a.Tiles)⟩,true) else (⟨[]⟩,false)
def eG(k:Nat)(l:List Al):(Bu k l).length=l.length*k*k:=by
 induction l with
 |nil=>simp[Bu]
 |cons x r ih=>
  rw[Bu,Kb,Ez];have e:(r.flatMap λx=>(List.range (k*k)).map (Kg k x)).length=r.length*k*k:=ih;rw[e];simp[DB,ZeK];omega
def Vb{a:AB}{k:Nat}(hk:1<=k/\k<=4)(hd:(a.Tiles.map Al.At).Nodup)(h0: ∀x∈a.Tiles,0<=x.Tile):(Dm none (DI (Bu k a.Tiles)) && decide ((DI (Bu k a.Tiles)).length<=500))=(CU a k).2:=by
 have Q:=eB hk hd;have hp:=ZP (Bu k a.Tiles);have Z:Dm none (DI (Bu k a.Tiles))=(Bu k a.Tiles).all FC:=by
  rw[Pm none (λp e=>by cases e) ((hp.map Al.At).nodup_iff.2 Q) (tH _) λx z=> ?_,hp.all_eq];have z:=hp.mem_iff.1 z;simp only[Bu] at z;obtain⟨y,hy,z⟩:=vC.1 z;obtain⟨c,_,rfl⟩:=Bl.1 z
  have:=h0 y hy
  simp only[Kg]
  have:=Int.mul_nonneg (Int.mul_nonneg this (by omega:(0:Int)<=k)) (by omega:(0:Int)<=k)
  omega
 rw[Z,cY,eG,CU];by_cases c1:a.Tiles.length*k*k<=500
 .rw[Wn c1,Et];by_cases O:(Bu k a.Tiles).all FC=true
  .rw[Ai ⟨c1,O⟩];exact O
  .rw[Af (λh=>O h.2)];simpa using O
 .rw[QN c1,bI,Af (λh=>c1 h.1)]
end Go.Ae
namespace Go.Ae
open Go.Proofs
def nO:PK->Prop
 | .ptr _=>True
 | .val d=>FQ d= .val d
def jG(d:D):nO (FQ d):=by cases d<;>simp[FQ,nO]
def jF{h:Nat->Option Am}{x:AV}{p:PK}(hp:DE h x=some p):nO p:=by
 cases x with
 |im d=>
  simp only[DE,AN] at hp;subst hp;exact jG d
 |ptr o off=>
  simp only[DE,JE,D4] at hp;obtain⟨_,_,rfl⟩:=hp;trivial
 |eptr o i off=>
  simp only[DE,JE,D4] at hp;obtain⟨_,_,rfl⟩:=hp;trivial
 |own o=>
  simp only[DE,DR,bk,D4] at hp;obtain⟨d,hd,rfl⟩:=hp;unfold KM at hd;split at hd
  .obtain rfl:=AJ hd;rfl
  .simp only[D4] at hd;obtain⟨_,_,rfl⟩:=hd;rfl
  .cases hd
 |mp o=>
  simp only[DE,DR,bk,D4] at hp;obtain⟨d,hd,rfl⟩:=hp;unfold Ma at hd;split at hd
  .obtain rfl:=AJ hd;rfl
  .cases hd
 |agg z=>
  simp only[DE,DR,bk,D4] at hp;obtain⟨d,⟨_,_,rfl⟩,rfl⟩:=hp;rfl
 |tup z=>
  simp only[DE,DR,bk,D4] at hp;obtain⟨d,⟨_,_,rfl⟩,rfl⟩:=hp;rfl
 |clo f a c=>
  simp only[DE,DR,bk,D4] at hp;obtain⟨d,hd,rfl⟩:=hp;unfold OV at hd;split at hd
  .obtain rfl:=AJ hd;rfl
  .cases hd
  .cases hd
 |_=>cases hp
def Nc{h:Nat->Option Am}: ∀(xs:List AV) (ps:List PK),Ce h xs=some ps-> ∀p∈ps,nO p
 |[],ps,hp=>by
  simp only[Ce,AN] at hp;subst hp;intro p z;cases z
 |x::xs,ps,hp=>by
  simp only[Ce] at hp;cases hx:DE h x with
  |none=>rw[hx] at hp;cases hp
  |some p=>
   cases hr:Ce h xs with
   |none=>rw[hx,hr] at hp;cases hp
   |some qs=>
    rw[hx,hr] at hp;simp only[Gz,AN] at hp;subst hp;intro q hq;rcases Br.1 hq with rfl|hq
    .exact jF hx
    .exact Nc xs qs hr q hq
def dV: ∀(ps:List PK) (j:Nat) (H:Nat->Option Am),(∀p∈ps,nO p)->(∀n e,hget (CY j ps) n=some e->H n=some e)->IT H (Da j ps)=some (ps,[])
 |[],_,_,_,_=>rfl
 | .val d::r,j,H,hn,hH=>by
   have z:=hn _ (BU ..);simp only[nO] at z;simp only[Da,IT,IS,z,dV r j H (λp hp=>hn p (BQ _ hp)) (by simpa only[CY] using hH),Xz,DJ]
 | .ptr Q::r,j,H,hn,hH=>by
   have z:=hH j (false,.view Q) (by simp only[CY,hget,vD,Cg]);have Z:=dV r (j+1) H (λp hp=>hn p (BQ _ hp)) (λn e O=>hH n e (by
    have h3:=(GF (j+1) r n e O).1;have hq:(j==n)=false:=by rw[HO];omega
    simp only[CY,hget,hq,Bk];exact O))
   simp only[Da,IT,IS,z,QT,GJ,Z,Xz,DJ]
def ZH{P:Program}{g:FuncId}{A B:Type}{k:AK A}{r:RK B}{pre:A->Prop}{f:A->B}(hr: ∀b,(r.e b).scs=true)(h:HC P g (vK k r pre f)):HC P g (CH k r pre f):=by
 intro args hh nx K z;unfold CH R1 at z;cases hp:Ce hh args with
 |none=>rw[hp] at z;exact z.elim
 |some Q=>
  rw[hp] at z;simp only[VP] at z;cases ha:k.r Q with
  |none=>rw[ha] at z;exact z.elim
  |some a=>
   rw[ha] at z;simp only[DZ] at z;obtain⟨ah,hK⟩:=z;have aq:=dV Q 0 (hget (CY 0 Q)) (Nc args Q hp) (λ_ _ h=>h);obtain⟨hcl,r',E,hT,av,hE⟩:=h (Da 0 Q) (hget (CY 0 Q)) (BV Q) (λx E=>x= .im (r.e (f a))/\E={use:=Au (Da 0 Q)}) (by
    unfold vK EX;rw[aq];simp only[W3,ha,DZ,QO];exact⟨ah,by trivial,by trivial⟩)
   subst av hE;refine⟨hcl,_,_,?_,hK⟩;intro C S vs RR hW ai aj ak aa af;have au:=Qtx hW args Q vs.toList (λm hm=>ai m (KQ _ hm)) hp aa;have ad:=mJ hW;obtain⟨ls,ag,hcl⟩:=mB Q vs.toList 0 au
   let S0:A7:=⟨ls,S.froz.ok,hget (CY 0 Q),S.w⟩
   let C0:Bb:=⟨S.w,λ_=>False,S.froz.ok,0,λ_=>none,λ_=>none,[]⟩
   have an:Wf C0 S0:=by
    refine⟨rfl,rfl,rfl,AU _,AU _,λ_ _ _=>rfl,λ_ hb=>hb,λ_ hb=> .inl hb,ad.oks,?_,?_,?_,ad.glN λ_ h=>h.elim⟩
    .intro n e he;obtain⟨l,h1,_,h3⟩:=ag n e he;have h4:S0.ρ n=some l:=h1;rw[h4];obtain⟨_,cs,rfl⟩:=GF 0 Q n e he;simp only[Ao] at h3⊢;exact h3
    .intro n e l he hl;obtain⟨l',h1,h2,h3⟩:=ag n e he;have h4:S0.ρ n=some l':=h1;rw[h4] at hl;obtain rfl:=AJ hl;obtain⟨_,cs,rfl⟩:=GF 0 Q n e he;exact⟨h2,.inr rfl⟩
    .intro n n' e e' l l' he ab hl ay ax ao;obtain⟨_,cs,rfl⟩:=GF 0 Q n e he;obtain⟨_,aw,rfl⟩:=GF 0 Q n' e' ab;simp at ao
   refine hT C0 S0 vs RR an (λ_ _=>rfl) (λn hn=>absurd hn (by unfold Fr;simp)) (λn e _ m _=>by unfold Fr;simp) (hcl S0 rfl rfl (λn _=>⟨rfl,rfl⟩)) ?_;intro v S1 Z _ _ hv;have O: ∀b,b<S.w.heap.size->S1.w.heap[b]? =S.w.heap[b]? :=λb hb=>Z.keep b hb (λh=>h)
   have ac:S.w.heap.size<=S1.w.heap.size:=Z.size
   let S':A7:={S with w:=S1.w}
   have hp':BP (λ_=>True) S S':=⟨λb hb=>⟨hb,O b (hW.oks b hb)⟩,λo _ e' ab=>⟨e',ab,rfl,rfl,rfl⟩⟩;have am:Wf C S':=by
    refine⟨?_,?_,?_,CS hW.dr Z.dr,CS hW.size ac,?_,hW.ok0,hW.ok1,?_,?_,?_,hW.inj,hW.gl⟩
    .exact Z.os.trans hW.os
    .exact Z.tape.trans hW.tape
    .exact Z.output.trans hW.output
    .intro b hb hM;exact (O b (FM hb hW.size)).trans (hW.keep b hb hM)
    .intro b hb;exact FM (hW.oks b hb) ac
    .intro o e he;exact HF hp' (λlc hl=>O lc.b (hW.loc o e lc he hl).1) _ (λ_ _=>trivial) (hW.obj o e he)
    .intro o e l he hl;obtain⟨h2,h3⟩:=hW.loc o e l he hl;exact⟨FM h2 ac,h3⟩
   refine af v S' am ?_ ⟨hp'.ok,λo _=>hp'.nm o trivial⟩ ?_
   .show S.h=_;funext m;simp[B5.appf,hget]
   .simp only[Aa] at hv⊢;exact WT (hr _) hv
end Go.Ae
namespace Go.Ae
open Go.Proofs Go.Lib
def FU(f:AV->List Nat)(z:Bool)(T:TypeId)(k:Nat)(rows:List (List D)):IA f (some (z,.arr T k rows))=[]:=rfl
def F2(x:List (List AV)): ∀(rows:List (List D)),B8 ((rows.map λr=>r.map AV.im)++x)=B8 x
 |[]=>rfl
 |r::rows=>by
  have h: ∀l:List D,Au (l.map AV.im)=[]:=by
   intro l;induction l with
   |nil=>rfl
   |cons d l ih=>simp only[Be,Au,AV.nms,ih,DJ]
  simp only[Be,BO,B8,h,Dg];exact F2 x rows
def FV(n:Nat)(x:List (List AV))(rows:List (List D)):((rows.map λr=>r.map AV.im)++x).all (AA n)=x.all (AA n):=by
 rw[QM,pD,EL]
def decm_.fv(a:Int):ByteArray:=(DO) a
def decm_.row:AF:=CH (b1 qI) rT (λa=>0<=a/\a<=9223372036854775807) decm_.fv
def decm_.q:=C9 (R:=decm_.row) rfl
def decm_.ok:AL 107 decm_.row:=by
 refine FR tN Tryz.func107 ?_;intro a O;simp only[Tryz.f107,Option.getD];simp(maxSteps:=9^9)(disch:=omega)only[ZZ,simprocAttr,Ab,decm_.fv,BX,D.sc,D.scs,BM,AT];refine Ba.old ⟨{q:Int×ByteArray//0<=q.1/\q.1<=a/\(if q.1=0 then [] else itoa q.1)++H5 q.2=if a=0 then [] else itoa a},λq=>⟨[(4,.im (.int .i64 q.1.1)),(3,.im (.str q.1.2)),(2,.im (.str ByteArray.empty)),(0,.im (.int .i64 a))],[],0⟩,λq=>q.1.1.toNat,λq=>⟨by simp[ZG],by simp⟩,⟨⟨(a,ByteArray.empty),O.1,OG _,by simp[H5]⟩,by simp(maxSteps:=9^9)(disch:=omega)only[ZZ,simprocAttr,Ab,decm_.fv,BX,D.sc,D.scs,BM,AT,sub];rfl⟩,λq=> ?_⟩;obtain⟨⟨m,s⟩,Z,h2,z⟩:=q;simp only at Z h2 z;have h3:s.size<=21:=by
  have l1:=Dy List.length z;have l2:=M9 (n:=a) (by omega) (by omega);have l3:(H5 s).length=s.size:=by rw[H5,Fi];rfl
  rw[Ez,l3] at l1;have l4:(if a=0 then [] else itoa a).length<=21:=by
   by_cases c:a=0
   .rw[Ai c];exact C5 _
   .rw[Af c];exact l2
  omega
 have e1:m.tmod 10=m % 10:=ZcX Z;have Q:m.tdiv 10=m/10:=Zdy Z;have e3:IntKind.i64.wrap (48+m % 10)=48+m % 10:=AG (by omega) (by omega);have e4:IntKind.u8.wrap (48+m % 10)=48+m % 10:=by
  unfold IntKind.wrap;have e:IntKind.u8.bits=8:=rfl;have Q:IntKind.u8.signed=false:=rfl;simp only[e,Q,Gu,Df,CO];omega
 simp(maxSteps:=9^9)(disch:=omega)only[ZZ,simprocAttr,Ab,decm_.fv,BX,D.sc,D.scs,BM,AT,sub,AP,e1,Q,e3,e4];have e5:(⟨#[UInt8.ofNat (48+m % 10).toNat]⟩:ByteArray).size=1:=rfl;refine⟨λhm=>⟨λh=>by omega,λ_=>⟨by rw[e5];omega,⟨⟨(m/10,⟨#[UInt8.ofNat (48+m % 10).toNat]⟩++s),by simp only;omega,by simp only;omega,?_⟩,by simp only;omega,AG (by omega) (by omega),rfl⟩⟩⟩,λhm=>⟨λh=> ?_,λh=>⟨λh2=>by omega,λ_=> ?_⟩⟩⟩
 .simp only;rw[Af hm] at z;rw[<-z];obtain⟨k,rfl⟩: ∃k:Nat,m=k:=⟨m.toNat,by omega⟩;have e6:H5 (⟨#[UInt8.ofNat (48+(k:Int) % 10).toNat]⟩++s)=UInt8.ofNat (48+k % 10)::H5 s:=by
   have:(48+(k:Int) % 10).toNat=48+k % 10:=by omega
   rw[this];simp[H5]
  rw[e6];have e7:itoa ((k:Nat):Int)=decDigits k:=by
   unfold itoa;rw[Af (by omega),Bq]
  have e8:itoa ((k:Nat)/10:Int)=decDigits (k/10):=by
   unfold itoa;rw[Af (by omega)];congr 1
  rw[e7,e8]
  conv=>rhs;rw[decDigits]
  by_cases c:k<10
  .rw[dif_pos c,Ai (by omega),ZeN c];rfl
  .rw[dif_neg c,Af (by omega)];simp
 .subst h;simp[DO,itoa,decDigits]
 .rw[Ai (GK.1 hm),Af h] at z
  have:s=DO a:=by
   have h5:H5 s=itoa a:=by simpa using z
   cases s with|mk d=>cases d with|mk l=>simp[H5] at h5;subst h5;rfl
  exact this
abbrev Mk:=List Ad×List Tile
def glN(g:List Ad)(nm:ByteArray):Int:=if jY g nm=0 then (g.length:Int)+1 else jY g nm
def J4(j:Nat):Bool:=j==0||j==2
def Fg{A:Type}(f:Nat->A)(n:Nat):(List.range (n+1)).map f=(List.range n).map f++[f n]:=by simp[gV]
def k4{k:Int}(h:1<=k/\k<=4):k=1\/k=2\/k=3\/k=4:=by omega
def bN(p:AC)(x y k:Int):AC:=⟨p.X*k+x,p.Y*k+y⟩
def cel_.fv(a:AC×Int×Int×Int):AC:=(bN) (a.1) (a.2.1) (a.2.2.1) (a.2.2.2)
def cel_.row:AF:=vK (b4 (qR AC.d_le) qI qI qI) (rA AC.d_le) (λa=>(-1000<=a.1.X/\a.1.X<=1000/\ -1000<=a.1.Y/\a.1.Y<=1000)/\(0<=a.2.1/\a.2.1<=10/\0<=a.2.2.1/\a.2.2.1<=10)/\1<=a.2.2.2/\a.2.2.2<=4) cel_.fv
def cel_.q:=Bd (R:=cel_.row) rfl
def cel_.ok:AL 65 cel_.row:=by
 refine vw tN Tryz.func65 ?_;intro a z;simp only[Tryz.f65,Option.getD];simp(maxSteps:=9^9)(disch:=omega)only[ZZ,simprocAttr,Ab,cel_.fv];obtain⟨p,x,y,k⟩:=a;obtain⟨⟨Q,Z,h3,h4⟩,⟨h5,h6,h7,h8⟩,O⟩:=z;simp only at Q Z h3 h4 h5 h6 h7 h8 O⊢;rcases k4 O with rfl|rfl|rfl|rfl<;>simp (disch:=omega) only[AG]<;>rfl
def JB(a b c:Int):ByteArray:=DO a++⟨#[95]⟩++DO b++⟨#[95]⟩++DO c
def eH{a b c:Int}(ha: -1000000<=a/\a<=1000000)(hb: -1000000<=b/\b<=1000000)(hc: -1000000<=c/\c<=1000000):(JB a b c).size<=65:=by
 have z:=F1 (n:=a) (by omega) (by omega);have O:=F1 (n:=b) (by omega) (by omega);have Q:=F1 (n:=c) (by omega) (by omega);have Z:(⟨#[95]⟩:ByteArray).size=1:=rfl;simp only[JB,Wo];omega
def eC(w:ByteArray)(a b c:Int):w++JB a b c=Cr w a b c:=by
 simp only[JB,Cr,E4,Lu,ZeO]
def num3_.fv(a:Int×Int×Int):ByteArray:=(JB) (a.1) (a.2.1) (a.2.2)
def num3_.row:AF:=vK (b3 qI qI qI) rT (λa=>(0<=a.1/\a.1<=1000000)/\(0<=a.2.1/\a.2.1<=1000000)/\0<=a.2.2/\a.2.2<=1000000) num3_.fv
def num3_.q:=Bd (R:=num3_.row) rfl
def num3_.ok:AL 69 num3_.row:=by
 refine vw (tC decm_.ok tN) Tryz.func69 ?_;intro a z;simp only[Tryz.f69,Option.getD];simp(maxSteps:=9^9)(disch:=omega)only[ZZ,simprocAttr,Ab,num3_.fv,decm_.q,decm_.fv];obtain⟨a,b,c⟩:=a;obtain⟨O,Q,Z⟩:=z;simp only at O Q Z⊢;have e1:=F1 (n:=a) (by omega) (by omega);have e2:=F1 (n:=b) (by omega) (by omega);have e3:=F1 (n:=c) (by omega) (by omega);have e4:(⟨#[95]⟩:ByteArray).size=1:=rfl;simp only[Wo];exact⟨by omega,by omega,by omega,by omega,by omega,by omega,by omega,rfl⟩
def VL{m n:Nat}(hn:1<=n/\n<=4)(z:m<=1000000):IntKind.i64.wrap (IntKind.i64.wrap ((m:Int)*n)*n)=((m*n*n:Nat):Int):=by
 rcases (by omega:n=1\/n=2\/n=3\/n=4) with rfl|rfl|rfl|rfl<;>(simp (disch:=omega) only[AG];omega)
def NJ(c n:Nat):(c:Int).tmod n=((c % n:Nat):Int):=rfl
def NE(c n:Nat):(c:Int).tdiv n=((c/n:Nat):Int):=rfl
def NR{c n:Nat}(h:c<=1000000):IntKind.i64.wrap ((c/n:Nat):Int)=((c/n:Nat):Int):=by
 have:=bF c n
 generalize c/n=m at this⊢;exact AG (by omega) (by omega)
def NS{n:Nat}(hn:1<=n/\n<=4):IntKind.i64.wrap ((n:Int)*n)=((n*n:Nat):Int):=by
 rcases (by omega:n=1\/n=2\/n=3\/n=4) with rfl|rfl|rfl|rfl<;>rfl
def dY{k:Nat}{l:List Al}{i:Nat}{x:Al}(h:l[i]? =some x):Bu k (l.take (i+1))=Bu k (l.take i)++(List.range (k*k)).map (Kg k x):=by
 rw[mI h];simp[Bu]
def Zh{k:Nat}{l:List Al}{i c:Nat}{x:Al}(h:l[i]? =some x)(z:c<k*k):Kg k x c∈Bu k l:=
 vC.2 ⟨x,Bg h,Bl.2 ⟨c,Bc.2 z,rfl⟩⟩
def Nx{a:AB}{k i c:Nat}{x:Al}(h:a.Tiles[i]? =some x)(Q:c<k*k)(O:FC (Kg k x c)=false):CU a k=(⟨[]⟩,false):=by
 rw[CU,Af];rintro⟨_,z⟩
 have:=CR.1 z _ (Zh h Q)
 rw[O] at this;cases this
def Zg{a:AB}{k:Nat}(h:500<a.Tiles.length*k*k):CU a k=(⟨[]⟩,false):=by
 rw[CU,Af (λz=>by omega)]
def Vc{a:AB}{k:Nat}(z:a.Tiles.length*k*k<=500)(O:(Bu k a.Tiles).all FC=true):CU a k=(⟨DI (Bu k a.Tiles)⟩,true):=by
 rw[CU,Ai ⟨z,O⟩]
def scl_.fv(a:AB×Int):AB×Bool:=(λa k=>CU a k.toNat) (a.1) (a.2)
def scl_.row:AF:=vK (b2 (qP 1 AB.d_le) qI) (r2 (rA AB.d_le) rB) (λa=>((∀x∈a.1.Tiles,(-1000<=x.At.X/\x.At.X<=1000/\ -1000<=x.At.Y/\x.At.Y<=1000)/\0<=x.Tile/\x.Tile<=1000)/\(a.1.Tiles.map Al.At).Nodup/\a.1.Tiles.length<=1000)/\1<=a.2/\a.2<=4) scl_.fv
def scl_.q:=Bd (R:=scl_.row) rfl
def YaC:=J @scl_.fv.eq_1<|J @cel_.q<|J @cel_.fv.eq_1<|J @l01Point.q<|J @l01Point.fv.eq_1<|J @l03Put.q @l03Put.fv.eq_1
def scl_.ok:AL 34 scl_.row:=by
 refine vw (tC cel_.ok (tC l01Point.ok (tC l03Put.ok tN))) Tryz.func34 ?_;intro a Q;simp only[Tryz.f34,Option.getD];simp(maxSteps:=9^9)(disch:=omega)only[ZZ,simprocAttr,Ab,YaC];obtain⟨a,k⟩:=a;obtain⟨⟨h1,h2,h3⟩,hk⟩:=Q;simp only at h1 h2 h3 hk⊢;obtain⟨n,rfl⟩: ∃n:Nat,k=n:=⟨k.toNat,by omega⟩;have hn:1<=n/\n<=4:=by omega
 intro _;rw[VL hn (by omega),Bq];by_cases c1:a.Tiles.length*n*n<=500
 case neg=>rw[Ai (by omega),Zg (by omega)]
 rw[Af (by omega)];refine Ba.old ⟨{i:Nat//i<=a.Tiles.length/\(Bu n (a.Tiles.take i)).all FC=true},λi=>⟨[(7,.im (.int .i64 i.1)),(6,.ptr 2 0),(5,.im (.bool false)),(4,.ptr 1 0),(0,.ptr 0 0),(1,.im (.int .i64 n))],[(2,(true,.cells 38 [.im (oD (Hl (Bu n (a.Tiles.take i.1))))])),(1,(true,.cells 38 [.im (.sl true 0 [])])),(0,(false,.view [.sl false 3 (a.Tiles.map Al.c)]))],3⟩,λi=>a.Tiles.length - i.1,λi=>⟨by simp[ZG],by simp⟩,⟨⟨0,by simp[Bu]⟩,by simp(maxSteps:=9^9)(disch:=omega)only[ZZ,simprocAttr,Ab,YaC,sub,oD];rfl⟩,λi=> ?_⟩;obtain⟨i,hi,hg⟩:=i;simp(maxSteps:=9^9)(disch:=omega)only[ZA,ZT,simprocAttr,Ab,scl_.fv,cel_.q,cel_.fv,l01Point.q,l01Point.fv,l03Put.q,l03Put.fv,sub,AP,xF,QW];intro _;refine⟨λO=>⟨O,λx Z=> ?_⟩,λO=> ?_⟩
 .have ad:=Bg Z;obtain⟨hs,ag,ah⟩:=h1 x ad;have af:n*n<=16:=by rcases (by omega:n=1\/n=2\/n=3\/n=4) with rfl|rfl|rfl|rfl<;>omega
  refine Ba.old ⟨{c:Nat//c<=n*n/\((List.range c).map (Kg n x)).all FC=true},λc=>⟨[(9,.im (.int .i64 c.1)),(8,.ptr 3 0),(7,.im (.int .i64 i)),(6,.ptr 2 0),(5,.im (.bool false)),(4,.ptr 1 0),(0,.ptr 0 0),(1,.im (.int .i64 n))],[(3,(true,.cells 119 [.im (.int .i64 x.At.X),.im (.int .i64 x.At.Y),.im (.int .i64 x.Tile)])),(2,(true,.cells 38 [.im (oD (Hl (Bu n (a.Tiles.take i)++(List.range c.1).map (Kg n x))))])),(1,(true,.cells 38 [.im (.sl true 0 [])])),(0,(false,.view [.sl false 3 (a.Tiles.map Al.c)]))],4⟩,λc=>n*n - c.1,λc=>⟨by simp[ZG],by simp⟩,⟨⟨0,by simp⟩,by simp(maxSteps:=9^9)(disch:=omega)only[ZZ,simprocAttr,Ab,YaC,sub,ES,BF,DJ]⟩,λc=> ?_⟩;obtain⟨c,hc,z⟩:=c;have e4:IntKind.i64.wrap (IntKind.i64.wrap (IntKind.i64.wrap (x.Tile*(n:Int))*n)+c)=x.Tile*n*n+c:=by
   rcases (by omega:n=1\/n=2\/n=3\/n=4) with rfl|rfl|rfl|rfl<;>simp (disch:=omega) only[AG]
  have ab:IntKind.i64.wrap ((c:Int)+1)=((c+1:Nat):Int):=by rw[AG (by omega) (by omega)];omega
  have ac:IntKind.i64.wrap ((i:Int)+1)=((i+1:Nat):Int):=by rw[AG (by omega) (by omega)];omega
  simp(maxSteps:=9^9)(disch:=omega)only[ZA,ZT,simprocAttr,Ab,scl_.fv,cel_.q,cel_.fv,l01Point.q,l01Point.fv,l03Put.q,l03Put.fv,sub,AP,xF,QW,NS hn,NJ,NE,NR (show c<=1000000 by omega),e4,ab,ac];have d1:=bF c n;have d2:=bH c (show n>0 by omega);have hp:bN x.At ((c % n:Nat):Int) ((c/n:Nat):Int) n=(Kg n x c).At:=rfl;have ht:x.Tile*n*n+c=(Kg n x c).Tile:=rfl;rw[hp,ht];refine⟨λaa=> ?_,λaa=> ?_⟩
  .have hcl:c<n*n:=by omega
   have hd:c/n<=10:=by rcases (by omega:n=1\/n=2\/n=3\/n=4) with rfl|rfl|rfl|rfl<;>omega
   refine⟨by omega,by omega,⟨hs,by omega,by omega⟩,λg1=>⟨λg2=> ?_,λg2=>⟨?_,⟨c+1,by omega,?_⟩,by simp only;omega,rfl,?_⟩⟩,λg1=> ?_⟩
   .rw[Nx Z hcl (by simp only[FC];rw[QN (by omega),bI])]
    try rfl
   .rw[P9,Ez,eG,GL,Jp,Cu]
    have:min i a.Tiles.length<=1000:=by omega
    generalize min i a.Tiles.length=m at this;rcases (by omega:n=1\/n=2\/n=3\/n=4) with rfl|rfl|rfl|rfl<;>omega
   .rw[Fg,QM,z];simp only[EZ,LQ,Et,EL,FC,g1];exact Wn (by omega)
   .rw[jE,Fg,<-Ka,qM]
   .rw[Nx Z hcl (by simp only[FC];rw[eq_false_of_ne_true g1,Gu])]
    try rfl
  .obtain rfl:c=n*n:=by omega
   refine⟨⟨i+1,by omega,?_⟩,by simp only;omega,rfl,by rw[dY Z]⟩;rw[dY Z,QM,hg,z];rfl
 .obtain rfl:i=a.Tiles.length:=by omega
  rw[IM] at hg⊢;refine⟨by simp only[oD];split<;>rfl,?_⟩;rw[Vc c1 hg,Un (eB hn h2)]
def gls_.fv(a:Ap×Int):List Ad:=(λs k=>D1 s k.toNat) (a.1) (a.2)
def gls_.row:AF:=vK (b2 (qP 2 Ap.d_le) qI) (rS Ad.d_le Ad.c_n) (λa=>(a.1.Glues.length<=1000/\a.1.Tiles.length<=1000)/\1<=a.2/\a.2<=4) gls_.fv
def gls_.q:=Bd (R:=gls_.row) rfl
def Hh:=J @gls_.fv.eq_1<|J @decm_.q<|J @decm_.fv.eq_1<|J @num3_.q @num3_.fv.eq_1
def gls_.ok:AL 68 gls_.row:=by
 refine vw (tC decm_.ok (tC num3_.ok tN)) Tryz.func68 ?_;intro a ad;simp only[Tryz.f68,Option.getD];simp(maxSteps:=9^9)(disch:=omega)only[ZZ,simprocAttr,Ab,Hh];obtain⟨s,k⟩:=a;obtain⟨⟨h1,h2⟩,hk⟩:=ad;simp only at h1 h2 hk⊢;obtain⟨n,rfl⟩: ∃n:Nat,k=n:=⟨k.toNat,by omega⟩;have hn:1<=n/\n<=4:=by omega
 have O:IntKind.i64.wrap ((n:Int) - 1)=((n - 1:Nat):Int):=by rw[AG (by omega) (by omega)];omega
 have aw:(⟨#[95]⟩:ByteArray).size=1:=rfl;have ax:(⟨#[103]⟩:ByteArray).size=1:=rfl;have ay:(⟨#[104]⟩:ByteArray).size=1:=rfl;have az:(⟨#[118]⟩:ByteArray).size=1:=rfl;rw[Bq];have af: ∀m:Nat,m<=2000->(DO ((m:Nat):Int)).size<=21:=λm hm=>F1 (by omega) (by omega)
 refine Ba.ren ⟨{i:Nat//i<=s.Glues.length},λi=>⟨[(6,.im (.int .i64 i.1)),(5,.own 3),(4,.own 1),(0,.ptr 0 0),(1,.im (.int .i64 n))],[(3,(true,.arr 128 2 (((List.range (i.1*n)).map (CP s n)).map Ad.c))),(1,(true,.arr 128 2 [])),(0,(false,.view [.sl false 2 (s.Glues.map Ad.c),.sl false 2 (s.Tiles.map Tile.c)]))],4⟩,λi=>s.Glues.length - i.1,λi=>⟨by simp[ZG],by simp⟩,⟨⟨0,C5 _⟩,[(3,some 2)],?_⟩,λi=> ?_⟩
 .simp only[Av,Kf,ES,BF];simp(maxSteps:=9^9)(disch:=omega)only[ZZ,simprocAttr,Ab,Hh,AS,AR]
 obtain⟨i,hi⟩:=i;have aa:IntKind.i64.wrap ((i:Int)+1)=((i+1:Nat):Int):=by rw[AG (by omega) (by omega)];omega
 simp(maxSteps:=9^9)(disch:=omega)only[ZZ,simprocAttr,Ab,Hh,sub,AP];intro _;refine⟨λQ=> ?_,λQ=> ?_⟩
 .have ao:i*n<=4000:=by rcases (by omega:n=1\/n=2\/n=3\/n=4) with rfl|rfl|rfl|rfl<;>omega
  refine Ba.ren ⟨{c:Nat//c<=n},λc=>⟨[(7,.im (.int .i64 c.1)),(6,.im (.int .i64 i)),(5,.own 4),(4,.own 1),(0,.ptr 0 0),(1,.im (.int .i64 n))],[(4,(true,.arr 128 2 (((List.range (i*n+c.1)).map (CP s n)).map Ad.c))),(1,(true,.arr 128 2 [])),(0,(false,.view [.sl false 2 (s.Glues.map Ad.c),.sl false 2 (s.Tiles.map Tile.c)]))],5⟩,λc=>n - c.1,λc=>⟨by simp[ZG],by simp⟩,⟨⟨0,C5 _⟩,[(4,some 3)],?_⟩,λc=> ?_⟩
  .simp only[Av,Gc];simp(maxSteps:=9^9)(disch:=omega)only[ZZ,simprocAttr,Ab,Hh,AS,AR]
  obtain⟨c,hc⟩:=c;have ai:IntKind.i64.wrap ((c:Int)+1)=((c+1:Nat):Int):=by rw[AG (by omega) (by omega)];omega
  simp(maxSteps:=9^9)(disch:=omega)only[ZZ,simprocAttr,Ab,Hh,sub,AP,O,aa];have s1:=af (i+1) (by omega);have s2:=af c (by omega);refine⟨λac=>⟨by omega,by omega,by simp only[Wo];omega,by omega,by simp only[Wo];omega,Q,λx hx=> ?_⟩,λac=> ?_⟩
  .have hr:List.map Ad.c ((List.range (i*n+c)).map (CP s n))++[[D.str (⟨#[103]⟩++DO ((i+1:Nat):Int)++⟨#[95]⟩++DO (c:Nat)),D.int .i64 x.Strength]]=((List.range (i*n+(c+1))).map (CP s n)).map Ad.c:=by
    rw[<-Fa,Fg,DX,G9 hn Q ac,hx];rfl
   refine⟨by simp[Bj,Bm,D.one],by rw[Jp];omega,?_⟩;refine⟨⟨c+1,by omega⟩,[(4,some 6)],by simp only;omega,?_⟩;simp only[Av];simp(maxSteps:=9^9)(disch:=omega)only[ZZ,simprocAttr,Ab,Hh,AS,AR,ai,hr]
  .obtain rfl:c=n:=by omega
   have hj:i*c+c=(i+1)*c:=by rw[DB,Fk]
   refine⟨⟨i+1,by omega⟩,[(3,some 4)],by simp only;omega,?_⟩;simp only[Av];simp(maxSteps:=9^9)(disch:=omega)only[ZZ,simprocAttr,Ab,Hh,AS,AR,aa,hj]
 obtain rfl:i=s.Glues.length:=by omega
 have am:s.Glues.length*n<=4000:=by rcases (by omega:n=1\/n=2\/n=3\/n=4) with rfl|rfl|rfl|rfl<;>omega
 refine Ba.ren ⟨{i:Nat//i<=s.Tiles.length},λi=>⟨[(8,.im (.int .i64 i.1)),(5,.own 4),(4,.own 1),(0,.ptr 0 0),(1,.im (.int .i64 n))],[(4,(true,.arr 128 2 (((List.range (s.Glues.length*n+i.1*Bx n)).map (CP s n)).map Ad.c))),(1,(true,.arr 128 2 [])),(0,(false,.view [.sl false 2 (s.Glues.map Ad.c),.sl false 2 (s.Tiles.map Tile.c)]))],5⟩,λi=>s.Tiles.length - i.1,λi=>⟨by simp[ZG],by simp⟩,⟨⟨0,C5 _⟩,[(4,some 3)],?_⟩,λi=> ?_⟩
 .simp only[Av,Kf,Gc];simp(maxSteps:=9^9)(disch:=omega)only[ZZ,simprocAttr,Ab,Hh,AS,AR]
 obtain⟨i,hi⟩:=i;have aa:IntKind.i64.wrap ((i:Int)+1)=((i+1:Nat):Int):=by rw[AG (by omega) (by omega)];omega
 simp(maxSteps:=9^9)(disch:=omega)only[ZZ,simprocAttr,Ab,Hh,sub,AP,O];intro _;refine⟨λQ=> ?_,λQ=> ?_⟩;rotate_left
 .obtain rfl:i=s.Tiles.length:=by omega
  rfl
 have an:i*Bx n<=24000:=by rcases (by omega:n=1\/n=2\/n=3\/n=4) with rfl|rfl|rfl|rfl<;>simp only[Bx]<;>omega
 refine Ba.ren ⟨{y:Nat//y<=n},λy=>⟨[(9,.im (.int .i64 y.1)),(8,.im (.int .i64 i)),(5,.own 5),(4,.own 1),(0,.ptr 0 0),(1,.im (.int .i64 n))],[(5,(true,.arr 128 2 (((List.range (s.Glues.length*n+i*Bx n+y.1*(n - 1))).map (CP s n)).map Ad.c))),(1,(true,.arr 128 2 [])),(0,(false,.view [.sl false 2 (s.Glues.map Ad.c),.sl false 2 (s.Tiles.map Tile.c)]))],6⟩,λy=>n - y.1,λy=>⟨by simp[ZG],by simp⟩,⟨⟨0,C5 _⟩,[(5,some 4)],?_⟩,λy=> ?_⟩
 .simp only[Av,Kf,Gc];simp(maxSteps:=9^9)(disch:=omega)only[ZZ,simprocAttr,Ab,Hh,AS,AR]
 obtain⟨y,hy⟩:=y;have aj:IntKind.i64.wrap ((y:Int)+1)=((y+1:Nat):Int):=by rw[AG (by omega) (by omega)];omega
 simp(maxSteps:=9^9)(disch:=omega)only[ZZ,simprocAttr,Ab,Hh,sub,AP,O];refine⟨λag=> ?_,λag=> ?_⟩
 .have au:y*(n - 1)<=16:=by rcases (by omega:n=1\/n=2\/n=3\/n=4) with rfl|rfl|rfl|rfl<;>omega
  refine Ba.ren ⟨{x:Nat//x<=(n - 1)},λx=>⟨[(10,.im (.int .i64 x.1)),(9,.im (.int .i64 y)),(8,.im (.int .i64 i)),(5,.own 6),(4,.own 1),(0,.ptr 0 0),(1,.im (.int .i64 n))],[(6,(true,.arr 128 2 (((List.range (s.Glues.length*n+i*Bx n+(y*(n - 1)+x.1))).map (CP s n)).map Ad.c))),(1,(true,.arr 128 2 [])),(0,(false,.view [.sl false 2 (s.Glues.map Ad.c),.sl false 2 (s.Tiles.map Tile.c)]))],7⟩,λx=>(n - 1) - x.1,λx=>⟨by simp[ZG],by simp⟩,⟨⟨0,C5 _⟩,[(6,some 5)],?_⟩,λx=> ?_⟩
  .simp only[Av,Gc];simp(maxSteps:=9^9)(disch:=omega)only[ZZ,simprocAttr,Ab,Hh,AS,AR]
  obtain⟨x,hx⟩:=x;have ab:IntKind.i64.wrap ((x:Int)+1)=((x+1:Nat):Int):=by rw[AG (by omega) (by omega)];omega
  simp(maxSteps:=9^9)(disch:=omega)only[ZZ,simprocAttr,Ab,Hh,sub,AP,O];have s1:=eH (a:=(i:Nat)) (b:=(x:Nat)) (c:=(y:Nat)) (by omega) (by omega) (by omega);refine⟨λZ=>⟨⟨by omega,by omega,by omega⟩,by omega,?_⟩,λZ=> ?_⟩
  .have hr:List.map Ad.c ((List.range (s.Glues.length*n+i*Bx n+(y*(n - 1)+x))).map (CP s n))++[[D.str (⟨#[104]⟩++JB (i:Nat) (x:Nat) (y:Nat)),D.int .i64 1]]=((List.range (s.Glues.length*n+i*Bx n+(y*(n - 1)+(x+1)))).map (CP s n)).map Ad.c:=by
    rw[show s.Glues.length*n+i*Bx n+(y*(n - 1)+(x+1))=s.Glues.length*n+i*Bx n+(y*(n - 1)+x)+1 by omega,Fg,DX,GA hn Z ag,eC];rfl
   refine⟨by simp[Bj,Bm,D.one],by rw[Jp];omega,?_⟩;refine⟨⟨x+1,by omega⟩,[(6,some 8)],by simp only;omega,?_⟩;simp only[Av];simp(maxSteps:=9^9)(disch:=omega)only[ZZ,simprocAttr,Ab,Hh,AS,AR,ab,hr]
  .obtain rfl:x=n - 1:=by omega
   have hj:s.Glues.length*n+i*Bx n+(y*(n - 1)+(n - 1))=s.Glues.length*n+i*Bx n+(y+1)*(n - 1):=by rw[DB y 1,Fk]
   refine⟨⟨y+1,by omega⟩,[(5,some 6)],by simp only;omega,?_⟩;simp only[Av];simp(maxSteps:=9^9)(disch:=omega)only[ZZ,simprocAttr,Ab,Hh,AS,AR,aj,hj]
 obtain rfl:y=n:=by omega
 have aq:y*(y - 1)<=12:=by rcases (by omega:y=1\/y=2\/y=3\/y=4) with rfl|rfl|rfl|rfl<;>omega
 obtain⟨n,hny⟩: ∃n,n=y:=⟨_,rfl⟩;subst hny;refine Ba.ren ⟨{z:Nat//z<=(n - 1)},λz=>⟨[(11,.im (.int .i64 z.1)),(8,.im (.int .i64 i)),(5,.own 6),(4,.own 1),(0,.ptr 0 0),(1,.im (.int .i64 n))],[(6,(true,.arr 128 2 (((List.range (s.Glues.length*n+i*Bx n+(n*(n - 1)+z.1*n))).map (CP s n)).map Ad.c))),(1,(true,.arr 128 2 [])),(0,(false,.view [.sl false 2 (s.Glues.map Ad.c),.sl false 2 (s.Tiles.map Tile.c)]))],7⟩,λz=>(n - 1) - z.1,λz=>⟨by simp[ZG],by simp⟩,⟨⟨0,C5 _⟩,[(6,some 5)],?_⟩,λz=> ?_⟩
 .simp only[Av,Kf,Gc];simp(maxSteps:=9^9)(disch:=omega)only[ZZ,simprocAttr,Ab,Hh,AS,AR]
 obtain⟨z,hz⟩:=z;have ak:IntKind.i64.wrap ((z:Int)+1)=((z+1:Nat):Int):=by rw[AG (by omega) (by omega)];omega
 simp(maxSteps:=9^9)(disch:=omega)only[ZZ,simprocAttr,Ab,Hh,sub,AP,O];refine⟨λah=> ?_,λah=> ?_⟩
 .have av:z*n<=16:=by rcases (by omega:n=1\/n=2\/n=3\/n=4) with rfl|rfl|rfl|rfl<;>omega
  refine Ba.ren ⟨{x:Nat//x<=n},λx=>⟨[(12,.im (.int .i64 x.1)),(11,.im (.int .i64 z)),(8,.im (.int .i64 i)),(5,.own 7),(4,.own 1),(0,.ptr 0 0),(1,.im (.int .i64 n))],[(7,(true,.arr 128 2 (((List.range (s.Glues.length*n+i*Bx n+(n*(n - 1)+(z*n+x.1)))).map (CP s n)).map Ad.c))),(1,(true,.arr 128 2 [])),(0,(false,.view [.sl false 2 (s.Glues.map Ad.c),.sl false 2 (s.Tiles.map Tile.c)]))],8⟩,λx=>n - x.1,λx=>⟨by simp[ZG],by simp⟩,⟨⟨0,C5 _⟩,[(7,some 6)],?_⟩,λx=> ?_⟩
  .simp only[Av,Gc];simp(maxSteps:=9^9)(disch:=omega)only[ZZ,simprocAttr,Ab,Hh,AS,AR]
  obtain⟨x,hx⟩:=x;have ab:IntKind.i64.wrap ((x:Int)+1)=((x+1:Nat):Int):=by rw[AG (by omega) (by omega)];omega
  simp(maxSteps:=9^9)(disch:=omega)only[ZZ,simprocAttr,Ab,Hh,sub,AP,O];have s1:=eH (a:=(i:Nat)) (b:=(x:Nat)) (c:=(z:Nat)) (by omega) (by omega) (by omega);refine⟨λZ=>⟨⟨by omega,by omega,by omega⟩,by omega,?_⟩,λZ=> ?_⟩
  .have hr:List.map Ad.c ((List.range (s.Glues.length*n+i*Bx n+(n*(n - 1)+(z*n+x)))).map (CP s n))++[[D.str (⟨#[118]⟩++JB (i:Nat) (x:Nat) (z:Nat)),D.int .i64 1]]=((List.range (s.Glues.length*n+i*Bx n+(n*(n - 1)+(z*n+(x+1))))).map (CP s n)).map Ad.c:=by
    rw[show s.Glues.length*n+i*Bx n+(n*(n - 1)+(z*n+(x+1)))=s.Glues.length*n+i*Bx n+(n*(n - 1)+(z*n+x))+1 by omega,Fg,DX,GB hn Z ah,eC];rfl
   refine⟨by simp[Bj,Bm,D.one],by rw[Jp];omega,?_⟩;refine⟨⟨x+1,by omega⟩,[(7,some 9)],by simp only;omega,?_⟩;simp only[Av];simp(maxSteps:=9^9)(disch:=omega)only[ZZ,simprocAttr,Ab,Hh,AS,AR,ab,hr]
  .obtain rfl:x=n:=by omega
   have hj:s.Glues.length*x+i*Bx x+(x*(x - 1)+(z*x+x))=s.Glues.length*x+i*Bx x+(x*(x - 1)+(z+1)*x):=by rw[DB z 1,Fk]
   refine⟨⟨z+1,by omega⟩,[(6,some 7)],by simp only;omega,?_⟩;simp only[Av];simp(maxSteps:=9^9)(disch:=omega)only[ZZ,simprocAttr,Ab,Hh,AS,AR,ak,hj]
 obtain rfl:z=n - 1:=by omega
 have hj:s.Glues.length*n+i*Bx n+(n*(n - 1)+(n - 1)*n)=s.Glues.length*n+(i+1)*Bx n:=by
  rw[DB i 1,Fk,Fa];congr 2;simp only[Bx];rcases (by omega:n=1\/n=2\/n=3\/n=4) with rfl|rfl|rfl|rfl<;>rfl
 refine⟨⟨i+1,by omega⟩,[(4,some 6)],by simp only;omega,?_⟩;simp only[Av];simp(maxSteps:=9^9)(disch:=omega)only[ZZ,simprocAttr,Ab,Hh,AS,AR,aa,hj]
def sds_.fv(a:Ap×Int×Int×Int×Int):List Int:=(λs i x y k=>CJ s k.toNat i.toNat x.toNat y.toNat) (a.1) (a.2.1) (a.2.2.1) (a.2.2.2.1) (a.2.2.2.2)
def sds_.row:AF:=vK (b5 (qP 2 Ap.d_le) qI qI qI qI) (rS F3 DU) (λa=>Dt a.1/\(a.1.Glues.length<=1000/\a.1.Tiles.length<=1000)/\(0<=a.2.1/\a.2.1<a.1.Tiles.length)/\(0<=a.2.2.1/\a.2.2.1<a.2.2.2.2)/\(0<=a.2.2.2.1/\a.2.2.2.1<a.2.2.2.2)/\1<=a.2.2.2.2/\a.2.2.2.2<=4) sds_.fv
def sds_.q:=Bd (R:=sds_.row) rfl
def sds_.ok:AL 70 sds_.row:=by
 refine vw tN Tryz.func70 ?_;intro a ab;simp only[Tryz.f70,Option.getD];simp(maxSteps:=9^9)(disch:=omega)only[ZZ,simprocAttr,Ab,sds_.fv];obtain⟨s,i,x,y,k⟩:=a;obtain⟨h1,h2,h3,h4,h5,hk⟩:=ab;simp only at h1 h2 h3 h4 h5 hk⊢;obtain⟨n,rfl⟩: ∃n:Nat,k=n:=⟨k.toNat,by omega⟩;obtain⟨i,rfl⟩: ∃n:Nat,i=n:=⟨i.toNat,by omega⟩;obtain⟨x,rfl⟩: ∃n:Nat,x=n:=⟨x.toNat,by omega⟩;obtain⟨y,rfl⟩: ∃n:Nat,y=n:=⟨y.toNat,by omega⟩;have hn:1<=n/\n<=4:=by omega
 have aa:IntKind.i64.wrap ((n:Int) - 1)=((n - 1:Nat):Int):=by rw[AG (by omega) (by omega)];omega
 have e1:IntKind.i64.wrap (IntKind.i64.wrap (IntKind.i64.wrap ((s.Glues.length:Int)*n)+IntKind.i64.wrap (IntKind.i64.wrap (IntKind.i64.wrap ((i:Int)*2)*n)*((n - 1:Nat):Int)))+1)=((s.Glues.length*n+i*Bx n+1:Nat):Int):=by
  rcases (by omega:n=1\/n=2\/n=3\/n=4) with rfl|rfl|rfl|rfl<;>simp only[Bx]<;>simp (disch:=omega) only[AG]<;>omega
 have e2:IntKind.i64.wrap (((s.Glues.length*n+i*Bx n+1:Nat):Int)+IntKind.i64.wrap ((n:Int)*((n - 1:Nat):Int)))=((s.Glues.length*n+i*Bx n+1+n*(n - 1):Nat):Int):=by
  rcases (by omega:n=1\/n=2\/n=3\/n=4) with rfl|rfl|rfl|rfl<;>simp only[Bx]<;>simp (disch:=omega) only[AG]<;>omega
 simp only[Bq,aa,e1,e2];intro _;refine Ba.ren ⟨{d:Nat//d<=4},λd=>⟨[(14,.im (.int .i64 d.1)),(13,.own 3),(12,.im (.int .i64 ((s.Glues.length*n+i*Bx n+1+n*(n - 1):Nat):Int))),(11,.im (.int .i64 ((s.Glues.length*n+i*Bx n+1:Nat):Int))),(10,.own 1),(0,.ptr 0 0),(1,.im (.int .i64 i)),(2,.im (.int .i64 x)),(3,.im (.int .i64 y)),(4,.im (.int .i64 n))],[(3,(true,.arr 2 1 (((CJ s n i x y).take d.1).map Ak))),(1,(true,.arr 2 1 [])),(0,(false,.view [.sl false 2 (s.Glues.map Ad.c),.sl false 2 (s.Tiles.map Tile.c)]))],4⟩,λd=>4 - d.1,λd=>⟨by simp[ZG],by simp⟩,⟨⟨0,C5 _⟩,[(3,some 2)],?_⟩,λd=> ?_⟩
 .simp only[Av,E5,BF];simp(maxSteps:=9^9)(disch:=omega)only[ZZ,simprocAttr,Ab,sds_.fv,AS,AR]
 obtain⟨d,hd⟩:=d;have hl:(CJ s n i x y).length=4:=rfl;by_cases d4:d=4
 .subst d4;simp(maxSteps:=9^9)(disch:=omega)only[ZZ,simprocAttr,Ab,sds_.fv,sub,AP];rfl
 have ac:IntKind.i64.wrap ((d:Int)+1)=((d+1:Nat):Int):=by rw[AG (by omega) (by omega)];omega
 rcases (by omega:d=0\/d=1\/d=2\/d=3) with rfl|rfl|rfl|rfl
 .simp(maxSteps:=9^9)(disch:=omega)only[ZZ,simprocAttr,Ab,sds_.fv,sub,AP,aa];refine⟨by omega,λt ht=>⟨by have:=(h1.2.1 t (Bg ht)).1;omega,λg hg=> ?_⟩⟩;have z:FZ s i ((0:Nat):Int)=g:=by simp[FZ,ht,hg]
  have Z:=(Ow h1 i 0);rw[z] at Z;have Q:y<n - 1->IntKind.i64.wrap (IntKind.i64.wrap (((s.Glues.length*n+i*Bx n+1+n*(n - 1):Nat):Int)+IntKind.i64.wrap ((y:Int)*n))+x)=GN s n i x y:=λc=>by
   simp only[GN];rw[Ai c];rcases (by omega:n=1\/n=2\/n=3\/n=4) with rfl|rfl|rfl|rfl<;>simp only[Bx]<;>simp (disch:=omega) only[AG]<;>omega
  refine⟨λg0=>⟨λc=> ?_,λc=> ?_⟩,λg0=>⟨λc=> ?_,λc=> ?_⟩⟩
  .have O:IntKind.i64.wrap (IntKind.i64.wrap (((s.Glues.length*n+i*Bx n+1+n*(n - 1):Nat):Int)+IntKind.i64.wrap ((y:Int)*n))+x)=GN s n i x y:=by
    exact Q (by omega)
   rw[O];refine⟨by simp[Bj,Bm,D.one],⟨1,by omega⟩,[(3,some 5)],by simp only;omega,?_⟩;simp only[Av];simp(maxSteps:=9^9)(disch:=omega)only[ZZ,simprocAttr,Ab,sds_.fv,AS,AR,CJ,Fj,E5,Be,BF,BO,Dg,Ak]
   all_goals first|rfl|exact⟨rfl,rfl⟩|exact AG (by omega) (by omega)
  .have O:IntKind.i64.wrap (IntKind.i64.wrap (IntKind.i64.wrap (IntKind.i64.wrap (g - 1)*n)+x)+1)=GN s n i x y:=by
    simp only[GN,Fl];rw[Af (by omega),Ai (by rw[z];exact g0),z];rcases (by omega:n=1\/n=2\/n=3\/n=4) with rfl|rfl|rfl|rfl<;>simp (disch:=omega) only[AG]<;>omega
   rw[O];refine⟨by simp[Bj,Bm,D.one],⟨1,by omega⟩,[(3,some 5)],by simp only;omega,?_⟩;simp only[Av];simp(maxSteps:=9^9)(disch:=omega)only[ZZ,simprocAttr,Ab,sds_.fv,AS,AR,CJ,Fj,E5,Be,BF,BO,Dg,Ak]
   all_goals first|rfl|exact⟨rfl,rfl⟩|exact AG (by omega) (by omega)
  .have O:IntKind.i64.wrap (IntKind.i64.wrap (((s.Glues.length*n+i*Bx n+1+n*(n - 1):Nat):Int)+IntKind.i64.wrap ((y:Int)*n))+x)=GN s n i x y:=by
    exact Q (by omega)
   rw[O];refine⟨by simp[Bj,Bm,D.one],⟨1,by omega⟩,[(3,some 5)],by simp only;omega,?_⟩;simp only[Av];simp(maxSteps:=9^9)(disch:=omega)only[ZZ,simprocAttr,Ab,sds_.fv,AS,AR,CJ,Fj,E5,Be,BF,BO,Dg,Ak]
   all_goals first|rfl|exact⟨rfl,rfl⟩|exact AG (by omega) (by omega)
  .have O:(0:Int)=GN s n i x y:=by
    simp only[GN,Fl];rw[Af (by omega),Af (by rw[z];exact g0)]
   rw[O];refine⟨by simp[Bj,Bm,D.one],⟨1,by omega⟩,[(3,some 5)],by simp only;omega,?_⟩;simp only[Av];simp(maxSteps:=9^9)(disch:=omega)only[ZZ,simprocAttr,Ab,sds_.fv,AS,AR,CJ,Fj,E5,Be,BF,BO,Dg,Ak]
   all_goals first|rfl|exact⟨rfl,rfl⟩|exact AG (by omega) (by omega)
 .simp(maxSteps:=9^9)(disch:=omega)only[ZZ,simprocAttr,Ab,sds_.fv,sub,AP,aa];refine⟨by omega,λt ht=>⟨by have:=(h1.2.1 t (Bg ht)).1;omega,λg hg=> ?_⟩⟩;have z:FZ s i ((1:Nat):Int)=g:=by simp[FZ,ht,hg]
  have Z:=(Ow h1 i 1);rw[z] at Z;have Q:x<n - 1->IntKind.i64.wrap (IntKind.i64.wrap (((s.Glues.length*n+i*Bx n+1:Nat):Int)+IntKind.i64.wrap ((y:Int)*((n - 1:Nat):Int)))+x)=GO s n i x y:=λc=>by
   simp only[GO];rw[Ai c];rcases (by omega:n=1\/n=2\/n=3\/n=4) with rfl|rfl|rfl|rfl<;>simp only[Bx]<;>simp (disch:=omega) only[AG]<;>omega
  refine⟨λg0=>⟨λc=> ?_,λc=> ?_⟩,λg0=>⟨λc=> ?_,λc=> ?_⟩⟩
  .have O:IntKind.i64.wrap (IntKind.i64.wrap (((s.Glues.length*n+i*Bx n+1:Nat):Int)+IntKind.i64.wrap ((y:Int)*((n - 1:Nat):Int)))+x)=GO s n i x y:=by
    exact Q (by omega)
   rw[O];refine⟨by simp[Bj,Bm,D.one],by simp[hl],⟨2,by omega⟩,[(3,some 5)],by simp only;omega,?_⟩;simp only[Av];simp(maxSteps:=9^9)(disch:=omega)only[ZZ,simprocAttr,Ab,sds_.fv,AS,AR,CJ,Fj,E5,Be,BF,BO,Dg,Ak]
   all_goals first|rfl|exact⟨rfl,rfl⟩|exact AG (by omega) (by omega)
  .have O:IntKind.i64.wrap (IntKind.i64.wrap (IntKind.i64.wrap (IntKind.i64.wrap (g - 1)*n)+y)+1)=GO s n i x y:=by
    simp only[GO,Fl];rw[Af (by omega),Ai (by rw[z];exact g0),z];rcases (by omega:n=1\/n=2\/n=3\/n=4) with rfl|rfl|rfl|rfl<;>simp (disch:=omega) only[AG]<;>omega
   rw[O];refine⟨by simp[Bj,Bm,D.one],by simp[hl],⟨2,by omega⟩,[(3,some 5)],by simp only;omega,?_⟩;simp only[Av];simp(maxSteps:=9^9)(disch:=omega)only[ZZ,simprocAttr,Ab,sds_.fv,AS,AR,CJ,Fj,E5,Be,BF,BO,Dg,Ak]
   all_goals first|rfl|exact⟨rfl,rfl⟩|exact AG (by omega) (by omega)
  .have O:IntKind.i64.wrap (IntKind.i64.wrap (((s.Glues.length*n+i*Bx n+1:Nat):Int)+IntKind.i64.wrap ((y:Int)*((n - 1:Nat):Int)))+x)=GO s n i x y:=by
    exact Q (by omega)
   rw[O];refine⟨by simp[Bj,Bm,D.one],by simp[hl],⟨2,by omega⟩,[(3,some 5)],by simp only;omega,?_⟩;simp only[Av];simp(maxSteps:=9^9)(disch:=omega)only[ZZ,simprocAttr,Ab,sds_.fv,AS,AR,CJ,Fj,E5,Be,BF,BO,Dg,Ak]
   all_goals first|rfl|exact⟨rfl,rfl⟩|exact AG (by omega) (by omega)
  .have O:(0:Int)=GO s n i x y:=by
    simp only[GO,Fl];rw[Af (by omega),Af (by rw[z];exact g0)]
   rw[O];refine⟨by simp[Bj,Bm,D.one],by simp[hl],⟨2,by omega⟩,[(3,some 5)],by simp only;omega,?_⟩;simp only[Av];simp(maxSteps:=9^9)(disch:=omega)only[ZZ,simprocAttr,Ab,sds_.fv,AS,AR,CJ,Fj,E5,Be,BF,BO,Dg,Ak]
   all_goals first|rfl|exact⟨rfl,rfl⟩|exact AG (by omega) (by omega)
 .simp(maxSteps:=9^9)(disch:=omega)only[ZZ,simprocAttr,Ab,sds_.fv,sub,AP,aa];refine⟨by omega,λt ht=>⟨by have:=(h1.2.1 t (Bg ht)).1;omega,λg hg=> ?_⟩⟩;have z:FZ s i ((2:Nat):Int)=g:=by simp[FZ,ht,hg]
  have Z:=(Ow h1 i 2);rw[z] at Z;have Q:0<y->IntKind.i64.wrap (IntKind.i64.wrap (((s.Glues.length*n+i*Bx n+1+n*(n - 1):Nat):Int)+IntKind.i64.wrap (IntKind.i64.wrap ((y:Int) - 1)*n))+x)=GQ s n i x y:=λc=>by
   simp only[GQ];rw[Ai c];rcases (by omega:n=1\/n=2\/n=3\/n=4) with rfl|rfl|rfl|rfl<;>simp only[Bx]<;>simp (disch:=omega) only[AG]<;>omega
  refine⟨λg0=>⟨λc=> ?_,λc=> ?_⟩,λg0=>⟨λc=> ?_,λc=> ?_⟩⟩
  .have O:IntKind.i64.wrap (IntKind.i64.wrap (((s.Glues.length*n+i*Bx n+1+n*(n - 1):Nat):Int)+IntKind.i64.wrap (IntKind.i64.wrap ((y:Int) - 1)*n))+x)=GQ s n i x y:=by
    exact Q (by omega)
   rw[O];refine⟨by simp[Bj,Bm,D.one],by simp[hl],⟨3,by omega⟩,[(3,some 5)],by simp only;omega,?_⟩;simp only[Av];simp(maxSteps:=9^9)(disch:=omega)only[ZZ,simprocAttr,Ab,sds_.fv,AS,AR,CJ,Fj,E5,Be,BF,BO,Dg,Ak]
   all_goals first|rfl|exact⟨rfl,rfl⟩|exact AG (by omega) (by omega)
  .have O:IntKind.i64.wrap (IntKind.i64.wrap (IntKind.i64.wrap (IntKind.i64.wrap (g - 1)*n)+x)+1)=GQ s n i x y:=by
    simp only[GQ,Fl];rw[Af (by omega),Ai (by rw[z];exact g0),z];rcases (by omega:n=1\/n=2\/n=3\/n=4) with rfl|rfl|rfl|rfl<;>simp (disch:=omega) only[AG]<;>omega
   rw[O];refine⟨by simp[Bj,Bm,D.one],by simp[hl],⟨3,by omega⟩,[(3,some 5)],by simp only;omega,?_⟩;simp only[Av];simp(maxSteps:=9^9)(disch:=omega)only[ZZ,simprocAttr,Ab,sds_.fv,AS,AR,CJ,Fj,E5,Be,BF,BO,Dg,Ak]
   all_goals first|rfl|exact⟨rfl,rfl⟩|exact AG (by omega) (by omega)
  .have O:IntKind.i64.wrap (IntKind.i64.wrap (((s.Glues.length*n+i*Bx n+1+n*(n - 1):Nat):Int)+IntKind.i64.wrap (IntKind.i64.wrap ((y:Int) - 1)*n))+x)=GQ s n i x y:=by
    exact Q (by omega)
   rw[O];refine⟨by simp[Bj,Bm,D.one],by simp[hl],⟨3,by omega⟩,[(3,some 5)],by simp only;omega,?_⟩;simp only[Av];simp(maxSteps:=9^9)(disch:=omega)only[ZZ,simprocAttr,Ab,sds_.fv,AS,AR,CJ,Fj,E5,Be,BF,BO,Dg,Ak]
   all_goals first|rfl|exact⟨rfl,rfl⟩|exact AG (by omega) (by omega)
  .have O:(0:Int)=GQ s n i x y:=by
    simp only[GQ,Fl];rw[Af (by omega),Af (by rw[z];exact g0)]
   rw[O];refine⟨by simp[Bj,Bm,D.one],by simp[hl],⟨3,by omega⟩,[(3,some 5)],by simp only;omega,?_⟩;simp only[Av];simp(maxSteps:=9^9)(disch:=omega)only[ZZ,simprocAttr,Ab,sds_.fv,AS,AR,CJ,Fj,E5,Be,BF,BO,Dg,Ak]
   all_goals first|rfl|exact⟨rfl,rfl⟩|exact AG (by omega) (by omega)
 .simp(maxSteps:=9^9)(disch:=omega)only[ZZ,simprocAttr,Ab,sds_.fv,sub,AP,aa];refine⟨by omega,λt ht=>⟨by have:=(h1.2.1 t (Bg ht)).1;omega,λg hg=> ?_⟩⟩;have z:FZ s i ((3:Nat):Int)=g:=by simp[FZ,ht,hg]
  have Z:=(Ow h1 i 3);rw[z] at Z;have Q:0<x->IntKind.i64.wrap (IntKind.i64.wrap (IntKind.i64.wrap (((s.Glues.length*n+i*Bx n+1:Nat):Int)+IntKind.i64.wrap ((y:Int)*((n - 1:Nat):Int)))+x) - 1)=GR s n i x y:=λc=>by
   simp only[GR];rw[Ai c];rcases (by omega:n=1\/n=2\/n=3\/n=4) with rfl|rfl|rfl|rfl<;>simp only[Bx]<;>simp (disch:=omega) only[AG]<;>omega
  refine⟨λg0=>⟨λc=> ?_,λc=> ?_⟩,λg0=>⟨λc=> ?_,λc=> ?_⟩⟩
  .have O:IntKind.i64.wrap (IntKind.i64.wrap (IntKind.i64.wrap (((s.Glues.length*n+i*Bx n+1:Nat):Int)+IntKind.i64.wrap ((y:Int)*((n - 1:Nat):Int)))+x) - 1)=GR s n i x y:=by
    exact Q (by omega)
   rw[O];refine⟨by simp[Bj,Bm,D.one],by simp[hl],⟨4,by omega⟩,[(3,some 5)],by simp only;omega,?_⟩;simp only[Av];simp(maxSteps:=9^9)(disch:=omega)only[ZZ,simprocAttr,Ab,sds_.fv,AS,AR,CJ,Fj,E5,Be,BF,BO,Dg,Ak]
   all_goals first|rfl|exact⟨rfl,rfl⟩|exact AG (by omega) (by omega)
  .have O:IntKind.i64.wrap (IntKind.i64.wrap (IntKind.i64.wrap (IntKind.i64.wrap (g - 1)*n)+y)+1)=GR s n i x y:=by
    simp only[GR,Fl];rw[Af (by omega),Ai (by rw[z];exact g0),z];rcases (by omega:n=1\/n=2\/n=3\/n=4) with rfl|rfl|rfl|rfl<;>simp (disch:=omega) only[AG]<;>omega
   rw[O];refine⟨by simp[Bj,Bm,D.one],by simp[hl],⟨4,by omega⟩,[(3,some 5)],by simp only;omega,?_⟩;simp only[Av];simp(maxSteps:=9^9)(disch:=omega)only[ZZ,simprocAttr,Ab,sds_.fv,AS,AR,CJ,Fj,E5,Be,BF,BO,Dg,Ak]
   all_goals first|rfl|exact⟨rfl,rfl⟩|exact AG (by omega) (by omega)
  .have O:IntKind.i64.wrap (IntKind.i64.wrap (IntKind.i64.wrap (((s.Glues.length*n+i*Bx n+1:Nat):Int)+IntKind.i64.wrap ((y:Int)*((n - 1:Nat):Int)))+x) - 1)=GR s n i x y:=by
    exact Q (by omega)
   rw[O];refine⟨by simp[Bj,Bm,D.one],by simp[hl],⟨4,by omega⟩,[(3,some 5)],by simp only;omega,?_⟩;simp only[Av];simp(maxSteps:=9^9)(disch:=omega)only[ZZ,simprocAttr,Ab,sds_.fv,AS,AR,CJ,Fj,E5,Be,BF,BO,Dg,Ak]
   all_goals first|rfl|exact⟨rfl,rfl⟩|exact AG (by omega) (by omega)
  .have O:(0:Int)=GR s n i x y:=by
    simp only[GR,Fl];rw[Af (by omega),Af (by rw[z];exact g0)]
   rw[O];refine⟨by simp[Bj,Bm,D.one],by simp[hl],⟨4,by omega⟩,[(3,some 5)],by simp only;omega,?_⟩;simp only[Av];simp(maxSteps:=9^9)(disch:=omega)only[ZZ,simprocAttr,Ab,sds_.fv,AS,AR,CJ,Fj,E5,Be,BF,BO,Dg,Ak]
   all_goals first|rfl|exact⟨rfl,rfl⟩|exact AG (by omega) (by omega)
def set_.fv(a:Ap×Int):Ap:=(λs k=>⟨D1 s k.toNat,Lx s k.toNat⟩) (a.1) (a.2)
def set_.row:AF:=vK (b2 (qP 2 Ap.d_le) qI) (rA Ap.d_le) (λa=>Dt a.1/\(a.1.Glues.length<=1000/\a.1.Tiles.length<=1000)/\1<=a.2/\a.2<=4) set_.fv
def set_.q:=Bd (R:=set_.row) rfl
def YK(s:Ap)(k:Nat):(Lx s k).length=s.Tiles.length*(k*k):=by simp[Lx]
def gK:=J @set_.fv.eq_1<|J @gls_.q<|J @gls_.fv.eq_1<|J @num3_.q<|J @num3_.fv.eq_1<|J @sds_.q @sds_.fv.eq_1
def set_.ok:AL 35 set_.row:=by
 refine vw (tC gls_.ok (tC num3_.ok (tC sds_.ok tN))) Tryz.func35 ?_;intro a Q;simp only[Tryz.f35,Option.getD];simp(maxSteps:=9^9)(disch:=omega)only[ZZ,simprocAttr,Ab,gK];obtain⟨s,k⟩:=a;obtain⟨h1,Z,hk⟩:=Q;simp only at h1 Z hk⊢;obtain⟨n,rfl⟩: ∃n:Nat,k=n:=⟨k.toNat,by omega⟩;have hn:1<=n/\n<=4:=by omega
 have ad:n*n<=16:=by rcases (by omega:n=1\/n=2\/n=3\/n=4) with rfl|rfl|rfl|rfl<;>omega
 have af:(⟨#[112]⟩:ByteArray).size=1:=rfl;rw[Bq];refine⟨⟨Z,hk⟩,?_⟩;refine Ba.ren ⟨{i:Nat//i<=s.Tiles.length},λi=>⟨[(6,.im (.int .i64 i.1)),(5,.ptr 2 0),(4,.ptr 1 0),(0,.ptr 0 0),(1,.im (.int .i64 n))],[(2,(true,.cells 35 [.im (.sl false 2 ((D1 s n).map Ad.c)),.own 3])),(3,(true,.arr 126 2 (((List.range (i.1*(n*n))).map (KX s n)).map Tile.c))),(1,(true,.cells 35 [.im (.sl true 0 []),.im (.sl true 0 [])])),(0,(false,.view [.sl false 2 (s.Glues.map Ad.c),.sl false 2 (s.Tiles.map Tile.c)]))],4⟩,λi=>s.Tiles.length - i.1,λi=>⟨by simp[ZG],by simp⟩,⟨⟨0,C5 _⟩,[(3,none)],?_⟩,λi=> ?_⟩
 .simp only[Av,Kf,ES,BF];simp(maxSteps:=9^9)(disch:=omega)only[ZZ,simprocAttr,Ab,gK,AS,AR]
 obtain⟨i,hi⟩:=i;have ab:IntKind.i64.wrap ((i:Int)+1)=((i+1:Nat):Int):=by rw[AG (by omega) (by omega)];omega
 simp(maxSteps:=9^9)(disch:=omega)only[ZZ,simprocAttr,Ab,gK,sub,AP];intro _;refine⟨λO=> ?_,λO=> ?_⟩
 .have ac:i*(n*n)<=16000:=by rcases (by omega:n=1\/n=2\/n=3\/n=4) with rfl|rfl|rfl|rfl<;>omega
  refine Ba.ren ⟨{c:Nat//c<=n*n},λc=>⟨[(7,.im (.int .i64 c.1)),(6,.im (.int .i64 i)),(5,.ptr 2 0),(4,.ptr 1 0),(0,.ptr 0 0),(1,.im (.int .i64 n))],[(2,(true,.cells 35 [.im (.sl false 2 ((D1 s n).map Ad.c)),.own 4])),(4,(true,.arr 126 2 (((List.range (i*(n*n)+c.1)).map (KX s n)).map Tile.c))),(1,(true,.cells 35 [.im (.sl true 0 []),.im (.sl true 0 [])])),(0,(false,.view [.sl false 2 (s.Glues.map Ad.c),.sl false 2 (s.Tiles.map Tile.c)]))],5⟩,λc=>n*n - c.1,λc=>⟨by simp[ZG],by simp⟩,⟨⟨0,C5 _⟩,[(4,some 3)],?_⟩,λc=> ?_⟩
  .simp only[Av,Gc];simp(maxSteps:=9^9)(disch:=omega)only[ZZ,simprocAttr,Ab,gK,AS,AR]
  obtain⟨c,hc⟩:=c;have aa:IntKind.i64.wrap ((c:Int)+1)=((c+1:Nat):Int):=by rw[AG (by omega) (by omega)];omega
  simp(maxSteps:=9^9)(disch:=omega)only[ZZ,simprocAttr,Ab,gK,sub,AP,NS hn,NJ,NE,NR (show c<=1000000 by omega),Bq];have d1:=bF c n;have d2:=bH c (show n>0 by omega);refine⟨λz=> ?_,λz=> ?_⟩
  .have hd:c/n<n:=by rcases (by omega:n=1\/n=2\/n=3\/n=4) with rfl|rfl|rfl|rfl<;>omega
   have hr:List.map Tile.c ((List.range (i*(n*n)+c)).map (KX s n))++[[D.str (⟨#[112]⟩++JB (i:Nat) ((c % n:Nat):Int) ((c/n:Nat):Int)),D.sl false 1 ((CJ s n i (c % n) (c/n)).map Ak)]]=((List.range (i*(n*n)+(c+1))).map (KX s n)).map Tile.c:=by
    rw[<-Fa,Fg,DX,Se hn z,eC];rfl
   generalize hcm:c % n=cm at*;generalize hcd:c/n=cd at*;have s1:=eH (a:=(i:Nat)) (b:=(cm:Nat)) (c:=(cd:Nat)) (by omega) (by omega) (by omega);refine⟨by omega,by omega,⟨by omega,by omega,by omega⟩,by omega,by omega,by omega,⟨h1,Z,O,d2,hd,hk⟩,by simp[Bj,Bm,D.one],by rw[Jp];omega,⟨c+1,by omega⟩,[(4,some 6)],by simp only;omega,?_⟩;simp only[Av];simp(maxSteps:=9^9)(disch:=omega)only[ZZ,simprocAttr,Ab,gK,AS,AR,aa,hr]
  .obtain rfl:c=n*n:=by omega
   have hj:i*(n*n)+n*n=(i+1)*(n*n):=by rw[DB,Fk]
   refine⟨⟨i+1,by omega⟩,[(3,some 4)],by simp only;omega,?_⟩;simp only[Av];simp(maxSteps:=9^9)(disch:=omega)only[ZZ,simprocAttr,Ab,gK,AS,AR,ab,hj]
 .obtain rfl:i=s.Tiles.length:=by omega
  rfl
def AH(s:A9)(k:Int):A9×Int:=
 if Ht s=true then (if Bz k 1 4=true then (if s.Temperature=2 then
  (if CC s.Set k.toNat<=200/\s.Set.Tiles.length*(k.toNat*k.toNat)<=160/\(CU s.Seed k.toNat).2=true then
   (if Ht ⟨⟨D1 s.Set k.toNat,Lx s.Set k.toNat⟩,(CU s.Seed k.toNat).1,2⟩=true then (⟨⟨D1 s.Set k.toNat,Lx s.Set k.toNat⟩,(CU s.Seed k.toNat).1,2⟩,0) else (⟨⟨[],[]⟩,⟨[]⟩,0⟩,5))
  else (⟨⟨[],[]⟩,⟨[]⟩,0⟩,4)) else (⟨⟨[],[]⟩,⟨[]⟩,0⟩,5)) else (⟨⟨[],[]⟩,⟨[]⟩,0⟩,2)) else (⟨⟨[],[]⟩,⟨[]⟩,0⟩,1)
def prfS_.fv(a:A9×Int):A9×Int:=(AH) (a.1) (a.2)
def prfS_.row:AF:=vK (b2 (qR A9.d_le) qI) (r2 (rA A9.d_le) rI) (λa=>True) prfS_.fv
def prfS_.q:=Bd (R:=prfS_.row) rfl
def prfS_.ok:AL 15 prfS_.row:=by
 refine vw (tC l08Ok.ok (tC l00In.ok (tC scl_.ok (tC set_.ok tN)))) Tryz.func15 ?_;intro a z;simp only[Tryz.f15,Option.getD];simp(maxSteps:=9^9)(disch:=omega)only[ZZ,simprocAttr,Ab,prfS_.fv,l08Ok.q,l08Ok.fv,l00In.q,l00In.fv,scl_.q,scl_.fv,set_.q,set_.fv];obtain⟨s,k⟩:=a;simp only;simp only[AH];by_cases c1:Ht s=true
 case neg=>rw[Ai (by simpa using c1),Af c1]
 rw[Af (by simp[c1]),Ai c1];by_cases O:Bz k 1 4=true
 case neg=>rw[Ai (by simpa using O),Af O]
 rw[Af (by simp[O]),Ai O];by_cases Q:s.Temperature=2
 case neg=>rw[Ai Q,Af Q]
 rw[Af (by simpa using Q),Ai Q];have hk:1<=k/\k<=4:=by simpa[Bz] using O
 obtain⟨n,rfl⟩: ∃n:Nat,k=n:=⟨k.toNat,by omega⟩;have hn:1<=n/\n<=4:=by omega
 obtain⟨q1,q2⟩:EH s.Set=true/\Ih s.Set s.Seed=true:=by
  simp only[Ht,AY] at c1;exact⟨c1.1,c1.2.1⟩
 have q3:=rR q1;have q4:=Qws q1;have q5:s.Set.Glues.length<=200:=by simp only[EH,AY,CF] at q1;exact q1.1.1
 have q6:Dm none s.Seed.Tiles=true/\s.Seed.Tiles.length<=500:=by simp only[Ih,AY,CF] at q2;exact q2.1
 have e1:IntKind.i64.wrap (IntKind.i64.wrap ((s.Set.Glues.length:Int)*n)+IntKind.i64.wrap (IntKind.i64.wrap (IntKind.i64.wrap ((s.Set.Tiles.length:Int)*2)*n)*IntKind.i64.wrap ((n:Int) - 1)))=(CC s.Set n:Int):=by
  rcases (by omega:n=1\/n=2\/n=3\/n=4) with rfl|rfl|rfl|rfl<;>simp only[CC,Bx]<;>simp (disch:=omega) only[AG]<;>omega
 have e2:IntKind.i64.wrap (IntKind.i64.wrap ((s.Set.Tiles.length:Int)*n)*n)=((s.Set.Tiles.length*(n*n):Nat):Int):=by
  rw[VL hn (by omega),ZeK]
 intro _ _;rw[e1,e2,Bq];have z:(∀x∈s.Seed.Tiles,(-1000<=x.At.X/\x.At.X<=1000/\ -1000<=x.At.Y/\x.At.Y<=1000)/\0<=x.Tile/\x.Tile<=1000)/\(s.Seed.Tiles.map Al.At).Nodup/\s.Seed.Tiles.length<=1000:=by
  refine⟨λx hx=> ?_,Qix q6.1,by omega⟩
  have:=lP _ _ q6.1 x hx
  simp only[Ic,Bz,AY,CF] at this;omega
 by_cases c4:CC s.Set n<=200
 case neg=>rw[Af (by omega),Af (λh=>c4 h.1)]
 rw[Ai (by omega)];by_cases c5:s.Set.Tiles.length*(n*n)<=160
 case neg=>rw[Ai (by omega),Af (λh=>c5 h.2.1)]
 rw[Af (by omega)];refine⟨⟨z,hk⟩,?_⟩;by_cases Z:(CU s.Seed n).2=true
 case neg=>rw[Ai (by simpa using Z),Af (λh=>Z h.2.2)]
 rw[Af (by simp[Z]),Ai (show CC s.Set n<=200/\s.Set.Tiles.length*(n*n)<=160/\(CU s.Seed n).2=true from ⟨c4,c5,Z⟩)];refine⟨⟨q3,⟨by omega,by omega⟩,hk⟩,?_⟩;by_cases c7:Ht ⟨⟨D1 s.Set n,Lx s.Set n⟩,(CU s.Seed n).1,2⟩=true
 .rw[Af (by simp[c7]),Ai c7]
 .rw[Ai (by simpa using c7),Af c7]
end Go.Ae
namespace Go.Ae
mutual
def D.scd:D->Bool
 | .agg z=>PS z
 | .tup z=>PS z
 |d=>d.sc
def PS:List D->Bool
 |[]=>true
 |x::r=>x.scd && PS r
end
mutual
def U3{ok ok':Nat->Prop}{hp hp':Nat->Option Obj}: ∀(d:D) (v:Value),d.scd=true->rd ok hp d v->rd ok' hp' d v
 | .agg z,v,h,hd=>by
   simp only[D.scd] at h;simp only[rd] at hd⊢;obtain⟨O,rfl,hd⟩:=hd;exact⟨O,rfl,eI z _ h hd⟩
 | .tup z,v,h,hd=>by
   simp only[D.scd] at h;simp only[rd] at hd⊢;obtain⟨O,rfl,hd⟩:=hd;exact⟨O,rfl,eI z _ h hd⟩
 | .int a b,v,h,hd=>DH h hd
 | .bool a,v,h,hd=>DH h hd
 | .str a,v,h,hd=>DH h hd
 | .nilp,v,h,hd=>DH h hd
 | .nilf,v,h,hd=>DH h hd
 | .nili,v,h,hd=>DH h hd
 | .nilc,v,h,hd=>DH h hd
 | .nilm,v,h,hd=>DH h hd
 | .sl Q k rows,v,h,hd=>DH h hd
 | .ref _,v,h,hd=>DH h hd
 | .mp _ _,v,h,hd=>DH h hd
 | .fn _ _ _,v,h,hd=>DH h hd
 | .ifc _ _,v,h,hd=>DH h hd
 | .gp _,v,h,hd=>DH h hd
 | .tok _,v,h,hd=>DH h hd
def eI{ok ok':Nat->Prop}{hp hp':Nat->Option Obj}: ∀(ds:List D) (vs:List Value),PS ds=true->rdl ok hp ds vs->rdl ok' hp' ds vs
 |[],vs,_,hd=>by simpa only[rdl] using hd
 |d::r,vs,h,hd=>by
  simp only[PS,AY] at h;simp only[rdl] at hd⊢;obtain⟨v,q,rfl,z,O⟩:=hd;exact⟨v,q,rfl,U3 d v h.1 z,eI r q h.2 O⟩
end
mutual
def H8:AV->Bool
 | .im d=>d.sc||d.scd
 | .own _=>true
 | .agg z=>ED z
 | .tup z=>ED z
 | .any| .ptr _ _| .eptr _ _ _| .mp _| .ch _| .it _| .osl _ _ _| .clo _ _ _=>false
def ED:List AV->Bool
 |[]=>true
 |x::r=>H8 x && ED r
end
def GY:Ac->Bool
 | .arr _ _ rows=>rows.all λr=>r.all D.sc
 | .arrA _ _ rows=>rows.all ED
 | .cells _ z=>ED z
 | .map _ _| .chan _ _| .iter _ _| .view _=>false
def Ek{m:Nat}: ∀{rows:List (List AV)},m∈B8 rows↔ ∃r∈rows,m∈Au r
 |[]=>by simp[B8]
 |r::z=>by simp[B8,Ek (rows:=z)]
section
variable {S1 S':A7}{F:Nat->Prop}
mutual
def dJ(hh: ∀n,F n->S'.h n=S1.h n)(hr: ∀n,F n->S'.ρ n=S1.ρ n): ∀(x:AV) (v:Value),H8 x=true->(∀m∈x.nms,F m)->Aa S1 x v->Aa S' x v
 | .im d,v,z,_,O=>by
   simp only[Aa] at O⊢;exact (Bool.or_eq_true_iff.1 (by simpa only[H8] using z)).elim (λh=>DH h O) λh=>U3 _ _ h O
 | .own o,v,_,Q,O=>by
   simp only[Aa] at O⊢;have h0:F o:=Q o (by simp[AV.nms]);rw[hh o h0,hr o h0];exact O
 | .agg Z,v,z,Q,O=>by
   simp only[Aa] at O⊢;obtain⟨vs,rfl,h⟩:=O;exact⟨vs,rfl,WD hh hr Z _ (by simpa[H8] using z) (by simpa[AV.nms] using Q) h⟩
 | .tup Z,v,z,Q,O=>by
   simp only[Aa] at O⊢;obtain⟨vs,rfl,h⟩:=O;exact⟨vs,rfl,WD hh hr Z _ (by simpa[H8] using z) (by simpa[AV.nms] using Q) h⟩
 | .any,_,z,_,_| .ptr _ _,_,z,_,_| .eptr _ _ _,_,z,_,_| .mp _,_,z,_,_| .ch _,_,z,_,_| .it _,_,z,_,_| .osl _ _ _,_,z,_,_| .clo _ _ _,_,z,_,_=>by simp[H8] at z
def WD(Q: ∀n,F n->S'.h n=S1.h n)(hr: ∀n,F n->S'.ρ n=S1.ρ n): ∀(xs:List AV) (vs:List Value),ED xs=true->(∀m∈Au xs,F m)->AO S1 xs vs->AO S' xs vs
 |[],vs,_,_,z=>by simpa only[AO] using z
 |x::r,vs,O,Z,z=>by
  simp only[AO] at z⊢;obtain⟨v,q,rfl,h1,h2⟩:=z;simp only[ED,AY] at O;exact⟨v,q,rfl,dJ Q hr x v O.1 (λm h=>Z m (by simp[Au,h])) h1,WD Q hr r q O.2 (λm h=>Z m (by simp[Au,h])) h2⟩
end
def pH(Q: ∀n,F n->S'.h n=S1.h n)(hr: ∀n,F n->S'.ρ n=S1.ρ n): ∀(xs:List AV) (vs:List Value),ED xs=true->(∀m∈Au xs,F m)->Cz S1 xs vs->Cz S' xs vs
 |[],vs,_,_,_=>trivial
 |x::r,vs,z,Z,O=>by
  simp only[Cz] at O⊢;obtain⟨v,q,rfl,h1,h2⟩:=O;simp only[ED,AY] at z;exact⟨v,q,rfl,dJ Q hr x v z.1 (λm h=>Z m (by simp[Au,h])) h1,pH Q hr r q z.2 (λm h=>Z m (by simp[Au,h])) h2⟩
def pG{k:Nat}(Z: ∀n,F n->S'.h n=S1.h n)(hr: ∀n,F n->S'.ρ n=S1.ρ n): ∀(z:List (List AV)) (vs:List Value),z.all ED=true->(∀r∈z,∀m∈Au r,F m)->BG S1 k z vs->BG S' k z vs
 |[],vs,_,_,_=>trivial
 |r::z,vs,Q,hm,O=>by
  simp only[BG] at O⊢;simp only[EZ,AY] at Q;exact⟨O.1,pH Z hr r _ Q.1 (hm r (BU ..)) O.2.1,pG Z hr z _ Q.2 (λq hq=>hm q (BQ _ hq)) O.2.2⟩
def Nl{ok ok':Nat->Prop}{hp hp':Nat->Option Obj}{k:Nat}: ∀(z:List (List D)) (vs:List Value),(z.all λr=>r.all D.sc)=true->rdr ok hp k z vs->rdr ok' hp' k z vs
 |[],_,_,_=>trivial
 |r::z,vs,Q,O=>by
  simp only[rdr] at O⊢;simp only[EZ,AY] at Q;exact⟨O.1,Ly r _ Q.1 O.2.1,Nl z _ Q.2 O.2.2⟩
def Uc(hh: ∀n,F n->S'.h n=S1.h n)(hr: ∀n,F n->S'.ρ n=S1.ρ n)(hp:S'.hp=S1.hp)(l:Option FS): ∀(e:Ac),GY e=true->(∀m∈e.nms,F m)->Ao S1 l e->Ao S' l e
 | .arr T k rows,O,_,z=>by
   cases l with
   |none=>simpa only[Ao] using z
   |some lc=>
    simp only[Ao] at z⊢;obtain⟨Q,Z,vs,h3,h4,h5⟩:=z;exact⟨Q,Z,vs,by rw[hp];exact h3,h4,Nl _ _ O h5⟩
 | .arrA T k rows,O,hm,z=>by
   cases l with
   |none=>simpa only[Ao] using z
   |some lc=>
    simp only[Ao] at z⊢;obtain⟨Q,Z,vs,h3,h4,h5⟩:=z;refine⟨Q,Z,vs,by rw[hp];exact h3,h4,pG hh hr _ _ O (λr ab m aa=>hm m ?_) h5⟩;simp only[Ac.nms];exact Ek.2 ⟨r,ab,aa⟩
 | .cells T cs,O,hm,z=>by
   simp only[Ao] at z⊢;obtain⟨lc,vs,Q,Z,h3,h4⟩:=z;exact⟨lc,vs,Q,Z,by rw[hp];exact h3,WD hh hr _ _ O (λm h=>hm m (by simpa[Ac.nms] using h)) h4⟩
 | .map _ _,O,_,_| .chan _ _,O,_,_| .iter _ _,O,_,_| .view _,O,_,_=>by simp[GY] at O
end
def K4{A:Type}(ar:List PK->Option A)(pre:A->Prop)(r0:A->AV)(H1:A->An)(cnt nx:Nat)(u:List Nat)(K:Ah):Option (List PK)->Prop
 |some z=>DZ (λa=>pre a/\K ((r0 a).ren (Bw (λj=>j) 0 nx)) {use:=u,new:=AQ (Bw (λj=>j) 0 nx) (H1 a),cnt:=cnt}) (ar z)
 |none=>False
def Fy{A:Type}(ar:List PK->Option A)(pre:A->Prop)(r0:A->AV)(H1:A->An)(cnt:Nat):AF:=λargs h nx K=>K4 ar pre r0 H1 cnt nx (Ew h args) K (Ce h args)
def Ut(ds:List D):List PK:=ds.map PK.val
def pL{S:A7}: ∀(ds:List D) (vs:List Value),Fc S (Ut ds) vs->AO S (ds.map .im) vs
 |[],vs,h=>by simpa only[Ut,BF,Fc,AO] using h
 |d::r,vs,h=>by
  simp only[Ut,Be,Fc,AO] at h⊢;obtain⟨v,q,rfl,z,O⟩:=h;exact⟨v,q,rfl,by simpa only[Aa,IV] using z,pL r q O⟩
def Np(σ:Nat->Nat): ∀(ds:List D),AI σ (ds.map AV.im)=ds.map AV.im
 |[]=>rfl
 |d::r=>by simp only[Be,AI,AV.ren,Np σ r]
mutual
def U9(σ:Nat->Nat): ∀x:AV,H8 x=true->H8 (x.ren σ)=true/\ ∀m∈(x.ren σ).nms,∃j∈x.nms,m=σ j
 | .im d,h=>⟨by simpa only[AV.ren] using h,by simp[AV.ren,AV.nms]⟩
 | .own o,_=>⟨by simp[AV.ren,H8],by simp[AV.ren,AV.nms]⟩
 | .agg z,h=>by
   obtain⟨O,Q⟩:=Ot σ z (by simpa[H8] using h);exact⟨by simpa[AV.ren,H8] using O,by simpa[AV.ren,AV.nms] using Q⟩
 | .tup z,h=>by
   obtain⟨O,Q⟩:=Ot σ z (by simpa[H8] using h);exact⟨by simpa[AV.ren,H8] using O,by simpa[AV.ren,AV.nms] using Q⟩
 | .any,h| .ptr _ _,h| .eptr _ _ _,h| .mp _,h| .ch _,h| .it _,h| .osl _ _ _,h| .clo _ _ _,h=>by simp[H8] at h
def Ot(σ:Nat->Nat): ∀xs:List AV,ED xs=true->ED (AI σ xs)=true/\ ∀m∈Au (AI σ xs),∃j∈Au xs,m=σ j
 |[],_=>⟨rfl,by simp[AI,Au]⟩
 |x::r,h=>by
  simp only[ED,AY] at h;obtain⟨Q,Z⟩:=U9 σ x h.1;obtain⟨h3,h4⟩:=Ot σ r h.2;refine⟨by simp only[AI,ED,Q,h3,gW],λm z=> ?_⟩;simp only[AI,Au,B7] at z⊢;rcases z with z|z
  .obtain⟨j,O,e⟩:=Z m z;exact⟨j,.inl O,e⟩
  .obtain⟨j,O,e⟩:=h4 m z;exact⟨j,.inr O,e⟩
end
def YW(σ:Nat->Nat): ∀e:Ac,GY e=true->GY (e.ren σ)=true/\ ∀m∈(e.ren σ).nms,∃j∈e.nms,m=σ j
 | .arr T k rows,h=>⟨by simpa only[Ac.ren] using h,by simp[Ac.ren,Ac.nms]⟩
 | .arrA T k rows,h=>by
   simp only[GY,CR] at h;refine⟨?_,?_⟩
   .simp only[Ac.ren,GY,List.all_map,CR];exact λr O=>(Ot σ r (h r O)).1
   .intro m z;simp only[Ac.ren,Ac.nms] at z⊢;obtain⟨q,hq,z⟩:=Ek.1 z;obtain⟨r,O,rfl⟩:=Bl.1 hq;obtain⟨j,hj,e⟩:=(Ot σ r (h r O)).2 m z;exact⟨j,Ek.2 ⟨r,O,hj⟩,e⟩
 | .cells T Q,h=>by
   obtain⟨Z,h2⟩:=Ot σ Q (by simpa[GY] using h);exact⟨by simpa[Ac.ren,GY] using Z,by simpa[Ac.ren,Ac.nms] using h2⟩
 | .map _ _,h| .chan _ _,h| .iter _ _,h| .view _,h=>by simp[GY] at h
def VE{pk:(Nat->Option Am)->List AV->Option (List PK)}(be: ∀{C:Bb} {S:A7} {h:Nat->Option Am},Wf C S-> ∀(xs:List AV) (ps:List PK) (vs:List Value),(∀m∈Ew h xs,S.h m=h m)->pk h xs=some ps->AO S xs vs->Fc S.froz ps vs)
 {P:Program}{g:FuncId}{A:Type}{ag:A->List AV}{ca:A->List D}{pre:A->Prop}{klB:Nat->Bool}{r0:A->AV}{H1:A->An}{cnt:Nat}
 (av:GS P g=true)(bd:HC P g (AD ag (λ_=>[]) 0 pre klB r0 H1 cnt))(au: ∀a,ag a=(ca a).map AV.im)
 {ar:List PK->Option A}(bc: ∀ps a,ar ps=some a->Cy ps (Ut (ca a)))
 (ay: ∀a,H8 (r0 a)=true/\ ∀m∈(r0 a).nms,m<cnt)
 (hH1: ∀a,∀p∈H1 a,p.1<cnt/\p.2.1=true/\GY p.2.2=true/\ ∀m∈p.2.2.nms,m<cnt):
 HC P g λargs h nx K=>K4 ar pre r0 H1 cnt nx (Ew h args) K (pk h args):=by
 intro args h nx K z;cases hp:pk h args with
 |none=>rw[hp] at z;exact z.elim
 |some ps=>
  rw[hp] at z;simp only[K4] at z;cases ha:ar ps with
  |none=>rw[ha] at z;exact z.elim
  |some a=>
   rw[ha] at z;simp only[DZ] at z;obtain⟨ax,hK⟩:=z;refine⟨aA av,_,_,?_,hK⟩;intro C S vs RR hW az ab ac am ah;have bf:=be hW args ps vs.toList (λm hm=>az m (KQ _ hm)) hp am;have a9:=mJ hW;obtain⟨σ,hσ⟩: ∃σ:Nat->Nat,σ=Bw (λj=>j) 0 nx:=⟨_,rfl⟩;have hσj: ∀j,σ j=nx+j:=λj=>by rw[hσ];simp[Bw]
   rw[<-hσ] at ah;obtain⟨_,r,E,hT,rfl,rfl⟩:=bd (ag a) (λ_=>none) nx (λr E=>r=(r0 a).ren σ/\E={use:=[],kill:=[],new:=AQ σ (H1 a),cnt:=cnt})
    ⟨a,λj=>j,[],[],ax,by rw[au,Np],trivial,⟨by simp[Aj,hget],by simp[Aj,hget],by simp[Aj,hget],by simp,by simp[Aj,hget]⟩,by rw[hσ],by rw[hσ]⟩
   have ba:AO S.froz (ag a) vs.toList:=by rw[au];exact pL _ _ ((bc ps a ha).c bf)
   refine hT (bS S) S.froz vs RR a9 (by simp) (λn hn=> ?_) (λn e he m hm hF=> ?_) ba ?_
   .have:=ab n hn
    show (S.h n).map _=none;rw[this];rfl
   .obtain⟨e0,O,rfl⟩:=lQ he;exact ac n e0 O m hm hF
   intro v S1 Z bb _ aw;have ai: ∀n e,hget (AQ σ (H1 a)) n=some e->Fr nx cnt n/\e.1=true/\GY e.2=true/\ ∀m∈e.2.nms,Fr nx cnt m:=by
    intro n e he;obtain⟨j,e0,O,Q,rfl⟩:=uS he;obtain⟨g1,g2,g3,g4⟩:=hH1 a _ O;obtain⟨q1,q2⟩:=YW σ e0.2 g3;refine⟨by rw[<-Q,hσj];exact⟨by omega,by omega⟩,g2,q1,λm hm=> ?_⟩;obtain⟨i,hi,rfl⟩:=q2 m hm
    have:=g4 i hi
    rw[hσj];exact⟨by omega,by omega⟩
   have ao:S.w.heap.size<=S1.w.heap.size:=Z.size;have aa: ∀b,b<S.w.heap.size->S1.w.heap[b]? =S.w.heap[b]? :=λb hb=>Z.keep b hb (λh=>h)
   have aq: ∀n,Fr nx cnt n->S.h n=none:=ab
   let E':B5:={use:=Ew h args,kill:=[],new:=AQ σ (H1 a),cnt:=cnt}
   have aj: ∀n,E'.appf S.h n=match hget (AQ σ (H1 a)) n with
    |some e=>some e
    |none=>S.h n:=λn=>by simp only[E',B5.appf];rfl
   have a0: ∀n,S1.h n=match hget (AQ σ (H1 a)) n with
    |some e=>some e
    |none=>S.froz.h n:=λn=>by rw[bb];simp only[B5.appf];rfl
   let S':A7:=⟨λn=>if nx<=n/\n<nx+cnt then S1.ρ n else S.ρ n,S.ok,E'.appf S.h,S1.w⟩
   have ak: ∀n,S'.h n=E'.appf S.h n:=λ_=>rfl
   have aF: ∀n,Fr nx cnt n->S'.h n=S1.h n:=by
    intro n hn;rw[ak,aj,a0];cases hget (AQ σ (H1 a)) n with
    |some e=>rfl
    |none=>
     show S.h n=(S.h n).map _;rw[aq n hn];rfl
   have aR: ∀n,Fr nx cnt n->S'.ρ n=S1.ρ n:=λn hn=>Ai hn
   have oF: ∀n,¬Fr nx cnt n->S'.h n=S.h n:=by
    intro n hn;rw[ak,aj];cases hq:hget (AQ σ (H1 a)) n with
    |some e=>exact absurd (ai n e hq).1 hn
    |none=>rfl
   have oR: ∀n,¬Fr nx cnt n->S'.ρ n=S.ρ n:=λn hn=>Af hn
   have hp':BP (λn=> ¬Fr nx cnt n) S S':=⟨λb hb=>⟨hb,aa b (hW.oks b hb)⟩,λo ho e' an=>⟨e',by rw[<-oF o ho];exact an,oR o ho,rfl,rfl⟩⟩;have nF: ∀n e,S.h n=some e-> ¬Fr nx cnt n:=λn e he hn=>by rw[aq n hn] at he;cases he
   have split: ∀o e,S'.h o=some e->(Fr nx cnt o/\S1.h o=some e/\S'.ρ o=S1.ρ o/\e.1=true/\GY e.2=true/\ ∀m∈e.2.nms,Fr nx cnt m)\/(S.h o=some e/\S'.ρ o=S.ρ o):=by
    intro o e he;by_cases hn:Fr nx cnt o
    .left;have O:S1.h o=some e:=by rw[<-aF o hn];exact he
     have Q:=he;rw[ak,aj] at Q;cases hq:hget (AQ σ (H1 a)) o with
     |some e1=>
      rw[hq] at Q;obtain rfl:=AJ Q;exact⟨hn,O,aR o hn,(ai o _ hq).2⟩
     |none=>
      rw[hq] at Q;exact absurd hn (nF o e Q)
    .right;exact⟨by rw[<-oF o hn];exact he,oR o hn⟩
   have af: ∀o e l,S1.h o=some e->S1.ρ o=some l->e.1=true->l.b<S1.w.heap.size/\S.w.heap.size<=l.b:=by
    intro o e l he hl hm;obtain⟨Q,h3⟩:=Z.loc o e l he hl;rw[hm] at h3;simp only[BD] at h3;exact⟨Q,h3.2.elim (λh=>h) (λh=>h.elim)⟩
   have a8:Wf C S':=by
    refine⟨Z.os.trans hW.os,Z.tape.trans hW.tape,Z.output.trans hW.output,CS hW.dr Z.dr,CS hW.size ao,?_,hW.ok0,hW.ok1,λb hb=>FM (hW.oks b hb) ao,?_,?_,?_,hW.gl⟩
    .intro b hb hM;exact (aa b (FM hb hW.size)).trans (hW.keep b hb hM)
    .intro o e he;rcases split o e he with ⟨_,O,Q,_,h4,h5⟩|⟨O,Q⟩
     .rw[Q];exact Uc aF aR rfl _ e.2 h4 h5 (Z.obj o e O)
     .rw[Q];exact HF hp' (λlc hl=>aa lc.b (hW.loc o e lc O hl).1) _ (λm hm hF=>ac o e O m hm hF) (hW.obj o e O)
    .intro o e l he hl;rcases split o e he with ⟨_,O,Q,h3,_⟩|⟨O,Q⟩
     .rw[Q] at hl;obtain⟨b1,b2⟩:=af o e l O hl h3;refine⟨b1,?_⟩;rw[h3];simp only[BD];exact⟨λhk=>by have:=hW.oks _ hk;omega,.inl (CS hW.size b2)⟩
     .rw[Q] at hl;obtain⟨b1,b2⟩:=hW.loc o e l O hl;exact⟨FM b1 ao,b2⟩
    .intro o o' e e' l l' he an hl ad hb hm;rcases split o e he with ⟨_,O,Q,h3,_⟩|⟨O,Q⟩<;>rcases split o' e' an with ⟨_,k1,k2,k3,_⟩|⟨k1,k2⟩<;>rw[Q] at hl<;>rw[k2] at ad
     .exact Z.inj o o' e e' l l' O k1 hl ad hb hm
     .have:=(af o e l O hl h3).2
      have:=(hW.loc o' e' l' k1 ad).1
      omega
     .have:=(af o' e' l' k1 ad k3).2
      have:=(hW.loc o e l O hl).1
      omega
     .exact hW.inj o o' e e' l l' O k1 hl ad hb hm
   obtain⟨q1,q2⟩:=U9 σ (r0 a) (ay a).1;refine ah v S' a8 rfl hp' (dJ aF aR _ v q1 (λm hm=> ?_) aw);obtain⟨j,hj,rfl⟩:=q2 m hm
   have:=(ay a).2 j hj
   rw[hσj];exact⟨by omega,by omega⟩
def pS{P:Program}{g:FuncId}{A:Type}{z:A->List AV}{ca:A->List D}{pre:A->Prop}{klB:Nat->Bool}{r0:A->AV}{H1:A->An}{cnt:Nat}
 (O:GS P g=true)(aa:HC P g (AD z (λ_=>[]) 0 pre klB r0 H1 cnt))(Q: ∀a,z a=(ca a).map AV.im)
 {ar:List PK->Option A}(Z: ∀ps a,ar ps=some a->Cy ps (Ut (ca a)))
 (ab: ∀a,H8 (r0 a)=true/\ ∀m∈(r0 a).nms,m<cnt)
 (hH1: ∀a,∀p∈H1 a,p.1<cnt/\p.2.1=true/\GY p.2.2=true/\ ∀m∈p.2.2.nms,m<cnt):
 HC P g (Fy ar pre r0 H1 cnt):=VE (pk:=Ce) (λhW=>Qtx hW) O aa Q Z ab hH1
def jH(h:Nat->Option Am):List AV->Option (List PK)
 |[]=>some []
 |x::r=>Gz (DR (bk h 9 x)) (jH h r)
def VF{A:Type}(ar:List PK->Option A)(pre:A->Prop)(r0:A->AV)(H1:A->An)(cnt:Nat):AF:=λargs h nx K=>K4 ar pre r0 H1 cnt nx (Ew h args) K (jH h args)
def VF.os{A:Type}{ar:List PK->Option A}{pre:A->Prop}{r0:A->AV}{H1:A->An}{cnt:Nat}{args:List AV}{h:Nat->Option Am}{nx:Nat}{K:Ah}(ps:List PK)(O:jH h args=some ps)(a:A)(Z:ar ps=some a)(z:pre a)
 (Q:K ((r0 a).ren (Bw (λj=>j) 0 nx)) {use:=Ew h args,new:=AQ (Bw (λj=>j) 0 nx) (H1 a),cnt:=cnt}):VF ar pre r0 H1 cnt args h nx K:=by
 unfold VF;rw[O];simp only[K4,Z,DZ];exact⟨z,Q⟩
end Go.Ae
namespace Go.Ae
open Go.Proofs Go.Lib
def numd_.fv(a:ByteArray×Int):ByteArray:=(Lu) (a.1) (a.2)
def numd_.row:AF:=CH (b2 qT qI) rT (λa=>a.1.size<=1000/\ -9223372036854775808<=a.2/\a.2<=9223372036854775807) numd_.fv
def numd_.q:=C9 (R:=numd_.row) rfl
def numd_.ok:AL 119 numd_.row:=by
 refine FR (tC dcm_.ok tN) Tryz.func119 ?_;intro a z;simp only[Tryz.f119,Option.getD];simp(maxSteps:=9^9)(disch:=omega)only[ZZ,simprocAttr,Ab,numd_.fv,dcm_.q,dcm_.fv,BX,D.sc,D.scs,BM,AT];obtain⟨Z,O,Q⟩:=z
 have:=F1 O Q
 exact⟨⟨O,Q⟩,by omega,rfl⟩
def prd_.fv(a:ByteArray×Int×Int):ByteArray:=(E4) (a.1) (a.2.1) (a.2.2)
def prd_.row:AF:=CH (b3 qT qI qI) rT (λa=>a.1.size<=1000/\(-9223372036854775808<=a.2.1/\a.2.1<=9223372036854775807)/\ -9223372036854775808<=a.2.2/\a.2.2<=9223372036854775807) prd_.fv
def prd_.q:=C9 (R:=prd_.row) rfl
def prd_.ok:AL 82 prd_.row:=by
 refine FR (tC numd_.ok (tC dcm_.ok tN)) Tryz.func82 ?_;intro a z;simp only[Tryz.f82,Option.getD];simp(maxSteps:=9^9)(disch:=omega)only[ZZ,simprocAttr,Ab,prd_.fv,numd_.q,numd_.fv,dcm_.q,dcm_.fv,BX,D.sc,D.scs,BM,AT];obtain⟨h1,O,Q,Z⟩:=z;have e1:=F1 Q Z;have e2:=MU (w:=a.1) O.1 O.2;have e3:(⟨#[95]⟩:ByteArray).size=1:=rfl;exact⟨⟨h1,O.1,O.2⟩,by omega,⟨Q,Z⟩,by rw[Wo];omega,rfl⟩
def V8(b:Bool)(s:ByteArray):ByteArray:=if b=true then ⟨#[45]⟩ else s
def unl_.fv(a:Bool×ByteArray):ByteArray:=(V8) (a.1) (a.2)
def unl_.row:AF:=CH (b2 qB qT) rT (λa=>True) unl_.fv
def unl_.q:=C9 (R:=unl_.row) rfl
def unl_.ok:AL 121 unl_.row:=by
 refine FR tN Tryz.func121 ?_;intro a z;simp only[Tryz.f121,Option.getD];simp(maxSteps:=9^9)(disch:=omega)only[ZZ,simprocAttr,Ab,unl_.fv,BX,D.sc,D.scs,BM,AT];by_cases c:a.1=true
 .rw[Ai c];simp only[V8];rw[Ai c]
 .rw[Af c];simp only[V8];rw[Af c]
def C7(g:List Ad)(t:List Tile):An:=[(0,(true,.cells 99 [.own 1,.own 2,.mp 3])),(1,(true,.arr 128 2 (g.map Ad.c))),(2,(true,.arr 126 2 (t.map Tile.c))),(3,(true,.map ⟨false,[.str]⟩ (Ck g)))]
def WS(g:List Ad)(t:List Tile)(j:Nat):Aj (C7 g t) j=true↔j<4:=by
 simp only[Aj,C7,hget];by_cases h0:j=0
 .subst h0;simp
 by_cases z:j=1
 .subst z;simp
 by_cases O:j=2
 .subst O;simp
 by_cases Q:j=3
 .subst Q;simp
 have Z:(0==j)=false:=by simpa using λh=>h0 h.symm
 have e1:(1==j)=false:=by simpa using λh=>z h.symm
 have e2:(2==j)=false:=by simpa using λh=>O h.symm
 have e3:(3==j)=false:=by simpa using λh=>Q h.symm
 simp[Z,e1,e2,e3];omega
def ZF(m:List (D×D))(a:D)(n:Int)(O: ∀e∈m,∃n,e.2= .int .i64 n): ∀e∈EF m a (.int .i64 n),∃n,e.2= .int .i64 n:=by
 induction m with
 |nil=>intro e z;simp only[EF,BS] at z;subst z;exact⟨n,rfl⟩
 |cons x m ih=>
  intro e z;obtain⟨k,w⟩:=x;simp only[EF] at z;cases h:D.beq a k with
  |true=>
   rw[h] at z;rcases Br.1 z with rfl|z
   .exact⟨n,rfl⟩
   .exact O e (BQ _ z)
  |false=>
   rw[h] at z;rcases Br.1 z with rfl|z
   .exact O (k,w) (BU ..)
   .exact ih (λe z=>O e (BQ _ z)) e z
def TW(g:List Ad): ∀e∈Ck g,∃n,e.2=D.int .i64 n:=by
 have z: ∀(g:List Ad) (m:List (D×D)) (k:Int),(∀e∈m,∃n,e.2=D.int .i64 n)-> ∀e∈(g.foldl (λ(s:List (D×D)×Int) x=>(EF s.1 (.str x.Name) (.int .i64 (s.2+1)),s.2+1)) (m,k)).1,∃n,e.2=D.int .i64 n:=by
  intro g;induction g with
  |nil=>intro m k h;exact h
  |cons x g ih=>intro m k h;exact ih _ _ (ZF m _ _ h)
 refine z g _ 0 λe O=> ?_
 simp only[BS] at O;subst O;exact⟨_,rfl⟩
def T4{x d:D}: ∀(m:List (D×D)),(∀e∈m,∃n,e.2=D.int .i64 n)->lk m x=some d-> ∃n,d= .int .i64 n
 |[],_,h=>by simp[lk] at h
 |(k,w)::m,z,h=>by
  simp only[lk] at h;cases hb:D.beq x k with
  |true=>rw[hb] at h;obtain rfl:=AJ h;exact z (k,w) (BU ..)
  |false=>rw[hb] at h;exact T4 m (λe O=>z e (BQ _ O)) h
def Tz(g:List Ad)(nm:ByteArray)(Ks:D->Prop)(Kn:Prop)(z:Ks (.int .i64 (EW g nm)))(O:EW g nm=0->Kn):IU (Ck g) (.str nm) Ks Kn:=by
 refine⟨λd hd=> ?_,λhn=>O ?_⟩
 .obtain⟨n,rfl⟩:=T4 _ (TW g) hd
  have:EW g nm=n:=by simp only[EW,Ov,hd]
  rw[<-this];exact z
 .simp only[EW,Ov,hn]
def nmC.row:AF:=AD (λ_:Unit=>[]) (λ_=>[]) 0 (λ_=>True) (λ_=>false) (λ_=> .ptr 0 0) (λ_=>C7 [] []) 20
def K5(j:Nat):Bool:=Nat.ble j 3
def nmC.ca(_:Unit):List AV:=[]
def nmC.ok:AL 43 nmC.row:=by
 refine P6 tN Tryz.func43 (exB:=K5) (R:=λ_ r=>r= .ptr 0 0) (λ_=>rfl)
  (λa=>by simp[nmC.ca,C7,K5,AA,AV.bel,Aw,B6,BT,Ac.nms,Au,AV.nms,Aj,hget]) (λa p hp=> ?_) (λa r h=>by subst h;exact CN.refl _) ?_
 rotate_left
 intro a z;simp only[Tryz.f43,Option.getD,nmC.ca,C7,K5];simp(maxSteps:=9^9)(disch:=omega)only[ZZ,simprocAttr,Ab,Bs,Aq,nmC.ca,C7,K5];rotate_left
 .simp only[C7,Br,OI,LV] at hp;rcases hp with rfl|rfl|rfl|rfl
  .exact .inr ⟨by omega,by omega,rfl,rfl⟩
  .exact .inr ⟨by omega,by omega,rfl,rfl⟩
  .exact .inr ⟨by omega,by omega,rfl,rfl⟩
  .exact .inr ⟨by omega,by omega,rfl,rfl⟩
 have e:Ck []=[(.str ⟨#[45]⟩,.int .i64 0)]:=rfl;refine⟨[],[(0,some 1),(1,none),(2,none),(3,some 0)],⟨[(0,.ptr 0 0)],C7 [] [],4⟩,?_,by simp[C7,ZG,Ck,KT.fit,KK.fit,BB],by simp,?_⟩
 .simp only[Av,C7,e,BF];simp(maxSteps:=9^9)(disch:=omega)only[ZZ,simprocAttr,Ab,Bs,Aq,nmC.ca,C7,K5,AS,AR]
 .simp(maxSteps:=9^9)(disch:=omega)only[ZZ,simprocAttr,Ab,Bs,Aq,nmC.ca,C7,K5,C7,e,K5]
def mgC.ca(a:Mk×Ad):List AV:=[.ptr 0 0,.im (.str a.2.Name),.im (.int .i64 a.2.Strength)]
def mgC.H0(a:Mk×Ad):An:=C7 a.1.1 a.1.2
def mgC.H1(a:Mk×Ad):An:=[(0,(true,.cells 99 [.own 4,.own 2,.mp 3])),(4,(true,.arr 128 2 ((a.1.1++[a.2]).map Ad.c))),(3,(true,.map ⟨false,[.str]⟩ (Ck (a.1.1++[a.2]))))]
def B9(j:Nat):Bool:=j==0||(j==1||j==3)
def mgC.row:AF:=AD mgC.ca mgC.H0 4 (λa=>a.1.1.length<=1000000) B9 (λ_=> .im (.tup [])) mgC.H1 20
def mgC.ok:AL 81 mgC.row:=by
 refine P6 tN Tryz.func81 (exB:=λj=>j==4) (R:=λa r=>r= .im (.tup [])) (λ_=>rfl)
  (λa=>by simp[mgC.ca,mgC.H0,mgC.H1,C7,B9,AA,AV.bel,Aw,B6,BT,Ac.nms,Au,AV.nms,Aj,hget]) (λa p hp=> ?_) (λa r h=>by subst h;exact CN.refl _) ?_
 rotate_left
 intro a z;simp only[Tryz.f81,Option.getD,mgC.ca,mgC.H0,mgC.H1,C7,B9];simp(maxSteps:=9^9)(disch:=omega)only[ZZ,simprocAttr,Ab,Bs,Aq,mgC.ca,mgC.H0,mgC.H1,C7,B9];rotate_left
 .simp only[mgC.H1,Br,OI,LV] at hp;rcases hp with rfl|rfl|rfl
  .exact .inl ⟨by omega,rfl,rfl⟩
  .exact .inr ⟨by omega,by omega,rfl,rfl⟩
  .exact .inl ⟨by omega,rfl,rfl⟩
 obtain⟨⟨g,t⟩,x⟩:=a;simp only at z⊢;have O:List.map Ad.c g++[[D.str x.Name,D.int .i64 x.Strength]]=(g++[x]).map Ad.c:=by rw[DX];rfl
 have Q:EF (Ck g) (.str x.Name) (.int .i64 (((g++[x]).map Ad.c).length:Nat))=Ck (g++[x]):=by rw[qE];simp
 rw[O,Q];refine⟨by omega,?_⟩;refine⟨[],[(4,some 5)],⟨[],[(0,(true,.cells 99 [.own 4,.own 2,.mp 3])),(4,(true,.arr 128 2 ((g++[x]).map Ad.c))),(2,(true,.arr 126 2 (t.map Tile.c))),(3,(true,.map ⟨false,[.str]⟩ (Ck (g++[x]))))],5⟩,?_,?_,by simp,?_⟩
 .simp only[Av];simp(maxSteps:=9^9)(disch:=omega)only[ZZ,simprocAttr,Ab,Bs,Aq,mgC.ca,mgC.H0,mgC.H1,C7,B9,AS,AR]
 .simp[ZG]
 .simp(maxSteps:=9^9)(disch:=omega)only[ZZ,simprocAttr,Ab,Bs,Aq,mgC.ca,mgC.H0,mgC.H1,C7,B9,mgC.H1,B9]
end Go.Ae
namespace Go.Ae
open Go.Proofs
def I8(q:AC×Int):Al:=⟨q.1,q.2⟩
def UA(m:Bt)(t:List (AC×Int))(x:Al):Option (List (AC×Int)):=
 if (m.Labels[x.Tile.toNat]?.getD 0)<0 then some t
 else if (Km t (fE x.At m.Scale).1).getD (m.Labels[x.Tile.toNat]?.getD 0)≠(m.Labels[x.Tile.toNat]?.getD 0) then none
 else some (L9 t (fE x.At m.Scale).1 (m.Labels[x.Tile.toNat]?.getD 0))
def Pj{l l':List Al}(hp:l.Perm l')(hd:(l'.map Al.At).Nodup)(p:AC):l.find? (λx=>decide (x.At=p))=l'.find? (λx=>decide (x.At=p)):=by
 cases h1:l.find? (λx=>decide (x.At=p)) with
 |none=>
  symm;rw[ZdL] at h1⊢;exact λx Q=>h1 x (hp.mem_iff.2 Q)
 |some x=>
  have Q:=hp.mem_iff.1 (ZeG h1);have z:=vE h1;cases h2:l'.find? (λx=>decide (x.At=p)) with
  |none=>
   rw[ZdL] at h2;exact absurd z (h2 x Q)
  |some y=>
   have Z:=ZeG h2;have O:=vE h2;rw[RU hd Q Z];rw[CF] at z O;rw[z,O]
def MH(p:AC): ∀(t:List (AC×Int)),(((t.map I8).find? (λx=>decide (x.At=p))).map Al.Tile)=Km t p
 |[]=>rfl
 |(k,w)::r=>by
  simp only[Be,Zem,I8,Km];by_cases h:k=p
  .subst h;simp
  .have z:decide (k=p)=false:=by simpa using h
   have O: ¬p=k:=λQ=>h Q.symm
   rw[z,Af O];exact MH p r
def Ln(t:List (AC×Int)):(t.map I8).map Al.At=t.map Prod.fst:=by simp[I8]
def bY{t:List (AC×Int)}(hd:(t.map Prod.fst).Nodup)(p:AC):nH ⟨DI (t.map I8)⟩ p=(Km t p).getD (-1):=by
 have z:((t.map I8).map Al.At).Nodup:=by rw[Ln];exact hd
 simp only[nH];rw[Pj (ZP _) z,MH]
def tE{t:List (AC×Int)}{p:AC}(v:Int)(h:Km t p=none):L9 t p v=t++[(p,v)]:=by
 induction t with
 |nil=>rfl
 |cons q r ih=>
  obtain⟨k,w⟩:=q;simp only[Km] at h;split at h
  .cases h
  .rename_i hn;simp only[L9,Af hn,BO];rw[ih h]
def Qs{t:List (AC×Int)}{p:AC}{v:Int}(h:Km t p=some v):L9 t p v=t:=by
 induction t with
 |nil=>cases h
 |cons q r ih=>
  obtain⟨k,w⟩:=q;simp only[Km] at h;simp only[L9];split at h
  .rename_i z;obtain rfl:=AJ h;rw[Ai z,z]
  .rename_i hn;rw[Af hn,ih h]
def Qyz{t:List (AC×Int)}{p:AC}(h:Km t p=none):p∉t.map Prod.fst:=by
 induction t with
 |nil=>simp
 |cons q r ih=>
  obtain⟨k,w⟩:=q;simp only[Km] at h;split at h
  .cases h
  .rename_i hn;simp only[Be,Br,not_or];exact⟨hn,ih h⟩
def Y1{t:List (AC×Int)}{p:AC}{v:Int}(h:Km t p=some v):(p,v)∈t:=by
 induction t with
 |nil=>cases h
 |cons q r ih=>
  obtain⟨k,w⟩:=q;simp only[Km] at h;split at h
  .rename_i z;obtain rfl:=AJ h;rw[z];exact BU ..
  .exact BQ _ (ih h)
structure RM(t:List (AC×Int))(o:AB)(k:Nat):Prop where
 nd:(t.map Prod.fst).Nodup
 pos: ∀q∈t,0<=q.2
 eq:o=⟨DI (t.map I8)⟩
 len:t.length<=k
def RM.step{m:Bt}{t:List (AC×Int)}{o:AB}{k:Nat}(h:RM t o k)(x:Al):(∃t' o',UA m t x=some t'/\UD m o x=some o'/\RM t' o' (k+1))\/(UA m t x=none/\UD m o x=none):=by
 obtain⟨nd,pos,rfl,len⟩:=h;simp only[UA,UD];generalize m.Labels[x.Tile.toNat]?.getD 0=n;generalize (fE x.At m.Scale).1=p;by_cases c1:n<0
 .rw[Ai c1,Ai c1];exact .inl ⟨_,_,rfl,rfl,nd,pos,rfl,by omega⟩
 rw[Af c1,Af c1,bY nd];cases hq:Km t p with
 |none=>
  simp only[Option.getD_none];rw[Af (by simp),Af (by omega),Ai (by omega)];refine .inl ⟨_,_,rfl,rfl,?_,?_,?_,?_⟩
  .rw[tE n hq,DX,Wq];refine⟨nd,by simp,?_⟩;intro a ha b Q z;simp only[Be,BF,BS] at Q;exact Qyz hq (by rw[<-Q,<-z];exact ha)
  .intro q O;rw[tE n hq] at O;rcases B7.1 O with O|O
   .exact pos q O
   .simp only[BS] at O;subst O;simp only;omega
  .rw[yT,tE n hq];congr 1;have aa:(((t++[(p,n)]).map I8).map Al.At).Nodup:=by
    rw[Ln,DX,Wq];refine⟨nd,by simp,?_⟩;intro a ha b Q z;simp only[Be,BF,BS] at Q;exact Qyz hq (by rw[<-Q,<-z];exact ha)
   refine zO aa ?_ (uQ ⟨p,n⟩ _ (tH _));refine (tF ⟨p,n⟩ _).trans ?_;rw[DX];refine ((ZP _).cons _).trans ?_;exact (Zew _ _).symm
  .rw[tE n hq];simp;omega
 |some v=>
  simp only[AX];have hv:=pos _ (Y1 hq);simp only at hv;by_cases Z:v=n
  .subst Z;rw[Af (by simp),Af (by simp),Af (by omega),Qs hq];exact .inl ⟨_,_,rfl,rfl,nd,pos,rfl,by omega⟩
  .rw[Ai Z,Ai ⟨hv,Z⟩];exact .inr ⟨rfl,rfl⟩
def RM.put{t:List (AC×Int)}{o:AB}{k:Nat}(h:RM t o k){p:AC}{v:Int}(hv:0<=v)(hn:Km t p=none):RM (L9 t p v) (GW o p v) (k+1):=by
 obtain⟨nd,pos,rfl,len⟩:=h;have O:((t++[(p,v)]).map Prod.fst).Nodup:=by
  rw[DX,Wq];refine⟨nd,by simp,?_⟩;intro a ha b hb Q;simp only[Be,BF,BS] at hb;exact Qyz hn (by rw[<-hb,<-Q];exact ha)
 rw[tE v hn];refine⟨O,?_,?_,by simp;omega⟩
 .intro q z;rcases B7.1 z with z|z
  .exact pos q z
  .simp only[BS] at z;subst z;exact hv
 .rw[yT];congr 1;have Z:(((t++[(p,v)]).map I8).map Al.At).Nodup:=by rw[Ln];exact O
  refine zO Z ?_ (uQ ⟨p,v⟩ _ (tH _));refine (tF ⟨p,v⟩ _).trans ?_;rw[DX];refine ((ZP _).cons _).trans ?_;exact (Zew _ _).symm
def RM.at{t:List (AC×Int)}{o:AB}{k:Nat}(h:RM t o k):kO t=nH o:=by
 funext p;rw[h.eq,bY h.nd];rfl
def RM.size{t:List (AC×Int)}{o:AB}{k:Nat}(h:RM t o k):o.Tiles.length=t.length:=by
 rw[h.eq];simp only[cY,GL]
end Go.Ae
namespace Go.Ae
end Go.Ae
namespace Go.Ae
open Go.Proofs
def Qado(l:List Int)(i:Nat)(x:Int):(l.map Ak).set i [.int .i64 x]=(l.set i x).map Ak:=by rw[Ws];rfl
def Gi(k:Int)(n:Nat):List Int:=(List.range n).map λ(i:Nat)=>k+(i:Int)
def Oq(k:Int)(n:Nat):(Gi k n).length=n:=by simp[Gi]
def pI(k:Int)(n:Nat):Gi k (n+1)=Gi k n++[k+(n:Int)]:=by simp[Gi,gV]
def Y5{k:Int}{n i:Nat}(h:i<n):(Gi k n)[i]? =some (k+(i:Int)):=by simp only[Gi,D3];rw[Ga h];rfl
def Hy(k:Int)(l:List Int)(i:Nat):List Int:=Gi k i++l.drop i
def TC{k:Int}{l:List Int}{i:Nat}(h:i<=l.length):(Hy k l i).length=l.length:=by simp[Hy,Oq];omega
def TE{k:Int}{l:List Int}{i:Nat}(h:i<l.length):(Hy k l i).set i (k+(i:Int))=Hy k l (i+1):=by
 have hd:l.drop i=l[i]::l.drop (i+1):=by rw[Wi h]
 rw[Hy,vI _ _ (by rw[Oq];omega),Oq,hd,Ke,gO,Hy,pI];simp
def TB{k:Int}{l:List Int}{i:Nat}(h:i=l.length):Hy k l i=Gi k l.length:=by
 subst h;simp[Hy]
def mkIC.ca(a:List Int×Int):List AV:=[.own 0,.im (.int .i64 a.2)]
def mkIC.H0(a:List Int×Int):An:=[(0,(true,.arr 2 1 (a.1.map Ak)))]
def mkIC.H1(a:List Int×Int):An:=[(0,(true,.arr 2 1 ((Gi a.2 a.1.length).map Ak)))]
def mkIC.row:AF:=AD mkIC.ca mkIC.H0 1 (λa=>0<=a.2/\a.2+a.1.length<=1099511627776) (λj=>j==0) (λa=> .im (.int .i64 (a.2+a.1.length))) mkIC.H1 0
def mkIC.ok:AL 26 mkIC.row:=by
 refine ow tN Tryz.func26 (exB:=λ_=>false) (R:=λa r=>r= .im (.int .i64 (a.2+a.1.length))) (λ_=>rfl)
  (λa=>by simp[mkIC.ca,mkIC.H0,mkIC.H1,AA,AV.bel,Aw,B6,BT,Ac.nms,Au,AV.nms,Aj,hget]) (λa p hp=> ?_) (λa r h=>by subst h;exact CN.refl _) ?_
 rotate_left
 intro a z;simp only[Tryz.f26,Option.getD,mkIC.ca,mkIC.H0,mkIC.H1];simp only[ZZ,simprocAttr,Ab,Aq,mkIC.ca,mkIC.H0,mkIC.H1];obtain⟨l,k⟩:=a;simp only at z⊢;obtain⟨h1,h2⟩:=z;refine Ba.old ⟨{i:Nat//i<=l.length},λi=>⟨[(5,.im (.int .i64 i.1)),(4,.im (.int .i64 0)),(1,.im (.int .i64 (k+i.1))),(0,.own 0)],[(0,(true,.arr 2 1 ((Hy k l i.1).map Ak)))],1⟩,λi=>l.length - i.1,λi=>⟨by simp[ZG],by simp⟩,⟨⟨0,by simp⟩,by simp only[ZZ,simprocAttr,Ab,Aq,mkIC.ca,mkIC.H0,mkIC.H1,sub];simp[Hy,Gi]⟩,λi=> ?_⟩;obtain⟨i,Q⟩:=i;have Z:=TC (k:=k) Q;simp only[ZZ,simprocAttr,Ab,Aq,mkIC.ca,mkIC.H0,mkIC.H1,sub,AP,Z];intro _;refine⟨λO=>⟨O,O,λx _=>⟨⟨i+1,by omega⟩,by simp only;omega,⟨?_,?_⟩,?_⟩⟩,λO=>⟨by omega,by rw[TB (by omega)]⟩⟩
 .rw[AG (by omega) (by omega)];simp only;omega
 .rw[AG (by omega) (by omega)];simp only;omega
 .rw[Qado,TE O]
 simp[mkIC.H1] at hp;subst hp;exact .inl ⟨by omega,rfl,rfl⟩
def El(l:List Int)(k:Int):Int:=if l=Gi k l.length then k+l.length else -1
def heldIS.fv(a:(List Int)×Int):Int:=(El) (a.1) (a.2)
def heldIS.row:AF:=CH (b2 (qS F3 DU) qI) rI (λa=>0<=a.2/\a.2+a.1.length<=1099511627776) heldIS.fv
def heldIS.q:=C9 (R:=heldIS.row) rfl
def heldIS.ok:AL 28 heldIS.row:=by
 refine FR tN Tryz.func28 ?_;intro a z;simp only[Tryz.f28,Option.getD];simp only[ZZ,simprocAttr,Ab,heldIS.fv,BX,D.sc,D.scs,BM,AT];obtain⟨l,k⟩:=a;simp only at z⊢;obtain⟨h1,h2⟩:=z;refine Ba.old ⟨{i:Nat//i<=l.length/\l.take i=Gi k i},λi=>⟨[(5,.im (.int .i64 i.1)),(4,.im (.int .i64 0)),(1,.im (.int .i64 (k+i.1))),(0,.im (.sl false 1 (l.map Ak)))],[],0⟩,λi=>l.length - i.1,λi=>⟨by simp[ZG],by simp⟩,⟨⟨0,by simp[Gi]⟩,by simp only[ZZ,simprocAttr,Ab,heldIS.fv,BX,D.sc,D.scs,BM,AT,sub];simp⟩,λi=> ?_⟩;obtain⟨i,aa,O⟩:=i;simp only[ZZ,simprocAttr,Ab,heldIS.fv,BX,D.sc,D.scs,BM,AT,sub,AP];intro hn;refine⟨λQ=>⟨Q,λx hx=>⟨λc=> ?_,λc=>⟨⟨i+1,by omega,?_⟩,by simp only;omega,?_,?_⟩⟩⟩,λQ=> ?_⟩
 .have: ¬l=Gi k l.length:=by
   intro h;rw[h,Y5 Q] at hx;exact c (AJ hx).symm
  simp only[El];rw[Af this]
 .rw[mI hx,O,pI,GK.1 c]
 .rw[AG (by omega) (by omega)];simp only;omega
 .rw[AG (by omega) (by omega)];simp only;omega
 .have Z:i=l.length:=by omega
  subst Z;rw[IM] at O;simp only[El];rw[Ai O]
def La(n:Nat):ByteArray:=if h:n=0 then ByteArray.empty else La (n/10)++H9 [IntKind.u8.wrap (48+((n % 10:Nat):Int))] termination_by n
def Eb(k:Int):ByteArray:=if k<=0 then "m0".toUTF8 else "m".toUTF8++La k.toNat
def mkText.fv(a:Int):ByteArray:=(Eb) a
def mkText.row:AF:=vK (b1 qI) rT (λa=>a<=1099511627776) mkText.fv
def mkText.q:=Bd (R:=mkText.row) rfl
def mkText.ok:AL 93 mkText.row:=by
 refine vw tN Tryz.func93 ?_;intro a Z;simp only[Tryz.f93,Option.getD];simp only[ZZ,simprocAttr,Ab,mkText.fv];by_cases c0:a<=0
 .rw[Ai c0];simp only[Eb];rw[Ai c0];rfl
 rw[Af c0];have eR:Eb a= "m".toUTF8++La a.toNat:=by simp only[Eb];rw[Af c0]
 refine Ba.old ⟨{q:Nat×ByteArray//(q.1:Int)<=a/\La a.toNat=La q.1++q.2/\q.2.size+q.1<=a.toNat},λq=>⟨[(3,.im (.str q.1.2)),(0,.im (.int .i64 q.1.1))],[],0⟩,λq=>q.1.1,λq=>⟨by simp[ZG],by simp⟩,⟨⟨(a.toNat,ByteArray.empty),by simp only;exact⟨by omega,by simp,by simp⟩⟩,by simp only[ZZ,simprocAttr,Ab,mkText.fv,sub];exact⟨rfl,by omega⟩⟩,λq=> ?_⟩;obtain⟨⟨q,out⟩,O,z,Q⟩:=q;simp only at O z Q;simp only[ZZ,simprocAttr,Ab,mkText.fv,sub,AP];refine⟨λc1=> ?_,λc1=> ?_⟩
 .have hq:q≠0:=by omega
  have e1:(q:Int).tmod 10=((q % 10:Nat):Int):=by rw[ZcX (by omega)];omega
  have e2:(q:Int).tdiv 10=((q/10:Nat):Int):=by rw[Zdy (by omega)];omega
  have e3:IntKind.i64.wrap (48+(q:Int).tmod 10)=48+((q % 10:Nat):Int):=by rw[e1];exact AG (by omega) (by omega)
  rw[e3,e2];have hs:({data:= #[UInt8.ofNat (IntKind.u8.wrap (48+((q % 10:Nat):Int))).toNat]}:ByteArray)=H9 [IntKind.u8.wrap (48+((q % 10:Nat):Int))]:=rfl;have hz:(H9 [IntKind.u8.wrap (48+((q % 10:Nat):Int))]).size=1:=rfl;rw[hs];refine⟨by omega,⟨(q/10,H9 [IntKind.u8.wrap (48+((q % 10:Nat):Int))]++out),by simp only;omega,?_,?_⟩,by simp only;omega,rfl,by exact AG (by omega) (by omega)⟩
  .simp only;rw[z,La,dif_neg hq,ZeO]
  .simp only[Wo,hz];omega
 .have hq:q=0:=by omega
  subst hq;refine⟨by show 1+out.size<=_;omega,?_⟩;rw[eR,z,La,dif_pos rfl,ByteArray.empty_append];rfl
def NU{A:Type}(f:Nat->A)(l:List A)(i:Nat):List A:=(List.range i).map f++l.drop i
def NW{A:Type}{f:Nat->A}{l:List A}{i:Nat}(h:i<=l.length):(NU f l i).length=l.length:=by simp[NU];omega
def pC{A:Type}(f:Nat->A)(l:List A):NU f l 0=l:=by simp[NU]
def NX{A:Type}{f:Nat->A}{l:List A}{i:Nat}(h:i<l.length):(NU f l i).set i (f i)=NU f l (i+1):=by
 have hd:l.drop i=l[i]::l.drop (i+1):=by rw[Wi h]
 have z:((List.range i).map f).length=i:=by simp
 rw[NU,vI _ _ (by rw[z];omega),z,hd,Ke,gO,NU,gV];simp
def Eg{A:Type}(f:Nat->A)(n:Nat):List A:=(List.range n).map f
def NV{A:Type}{f:Nat->A}{l:List A}{i:Nat}(h:i=l.length):NU f l i=Eg f l.length:=by
 subst h;simp[NU,Eg]
def gF(k:Int)(i:Nat):Ad:=⟨Eb (k+2*i),k+2*i+1⟩
def mkGC.ca(a:List Ad×Int):List AV:=[.own 0,.im (.int .i64 a.2)]
def mkGC.H0(a:List Ad×Int):An:=[(0,(true,.arr 128 2 (a.1.map Ad.c)))]
def mkGC.H1(a:List Ad×Int):An:=[(0,(true,.arr 128 2 ((Eg (gF a.2) a.1.length).map Ad.c)))]
def mkGC.row:AF:=AD mkGC.ca mkGC.H0 1 (λa=>0<=a.2/\a.2+2*a.1.length<=1099511627776) (λj=>j==0) (λa=> .im (.int .i64 (a.2+2*a.1.length))) mkGC.H1 0
def YaF:=J @mkText.q @mkText.fv.eq_1
def mkGC.ok:AL 54 mkGC.row:=by
 refine ow (tC mkText.ok tN) Tryz.func54 (exB:=λ_=>false) (R:=λa r=>r= .im (.int .i64 (a.2+2*a.1.length))) (λ_=>rfl)
  (λa=>by simp[mkGC.ca,mkGC.H0,mkGC.H1,AA,AV.bel,Aw,B6,BT,Ac.nms,Au,AV.nms,Aj,hget]) (λa p hp=> ?_) (λa r h=>by subst h;exact CN.refl _) ?_
 rotate_left
 intro a z;simp only[Tryz.f54,Option.getD,mkGC.ca,mkGC.H0,mkGC.H1];simp only[ZZ,simprocAttr,Ab,YaF,Aq,mkGC.ca,mkGC.H0,mkGC.H1];obtain⟨l,k⟩:=a;simp only at z⊢;obtain⟨h1,h2⟩:=z;refine Ba.old ⟨{i:Nat//i<=l.length},λi=>⟨[(5,.im (.int .i64 i.1)),(4,.im (.int .i64 0)),(1,.im (.int .i64 (k+2*i.1))),(0,.own 0)],[(0,(true,.arr 128 2 ((NU (gF k) l i.1).map Ad.c)))],1⟩,λi=>l.length - i.1,λi=>⟨by simp[ZG],by simp⟩,⟨⟨0,by simp⟩,by simp only[ZZ,simprocAttr,Ab,YaF,Aq,mkGC.ca,mkGC.H0,mkGC.H1,sub,pC];simp⟩,λi=> ?_⟩;obtain⟨i,aa⟩:=i;have Z:=NW (f:=gF k) aa;simp only[ZZ,simprocAttr,Ab,YaF,Aq,mkGC.ca,mkGC.H0,mkGC.H1,sub,AP,Z];intro _;refine⟨λQ=>⟨by omega,Q,Q,λx hx=> ?_⟩,λQ=> ?_⟩
 .have w1:IntKind.i64.wrap (k+2*(i:Int)+1)=k+2*(i:Int)+1:=AG (by omega) (by omega);have O:i<(List.map Ad.c (NU (gF k) l i)).length:=by rw[GL,Z];exact Q
  refine⟨by rw[FO];exact O,by rw[FO];exact O,LK (DW O) ?_⟩;simp only[ZZ,simprocAttr,Ab,YaF,Aq,mkGC.ca,mkGC.H0,mkGC.H1,sub,w1,Zfm];refine⟨⟨i+1,by omega⟩,by simp only;omega,⟨?_,?_⟩,?_⟩
  .rw[AG (by omega) (by omega)];simp only;omega
  .rw[AG (by omega) (by omega)];simp only;omega
  .simp only;rw[<-NX Q,Ws];rfl
 .exact⟨by omega,by rw[NV (by omega)]⟩
 simp[mkGC.H1] at hp;subst hp;exact .inl ⟨by omega,rfl,rfl⟩
def pF(k:Int)(i:Nat):Al:=⟨⟨k+3*i,k+3*i+1⟩,k+3*i+2⟩
def mkPC.ca(a:List Al×Int):List AV:=[.own 0,.im (.int .i64 a.2)]
def mkPC.H0(a:List Al×Int):An:=[(0,(true,.arr 119 3 (a.1.map Al.c)))]
def mkPC.H1(a:List Al×Int):An:=[(0,(true,.arr 119 3 ((Eg (pF a.2) a.1.length).map Al.c)))]
def mkPC.row:AF:=AD mkPC.ca mkPC.H0 1 (λa=>0<=a.2/\a.2+3*a.1.length<=1099511627776) (λj=>j==0) (λa=> .im (.int .i64 (a.2+3*a.1.length))) mkPC.H1 0
def mkPC.ok:AL 56 mkPC.row:=by
 refine ow tN Tryz.func56 (exB:=λ_=>false) (R:=λa r=>r= .im (.int .i64 (a.2+3*a.1.length))) (λ_=>rfl)
  (λa=>by simp[mkPC.ca,mkPC.H0,mkPC.H1,AA,AV.bel,Aw,B6,BT,Ac.nms,Au,AV.nms,Aj,hget]) (λa p hp=> ?_) (λa r h=>by subst h;exact CN.refl _) ?_
 rotate_left
 intro a O;simp only[Tryz.f56,Option.getD,mkPC.ca,mkPC.H0,mkPC.H1];simp only[ZZ,simprocAttr,Ab,Aq,mkPC.ca,mkPC.H0,mkPC.H1];obtain⟨l,k⟩:=a;simp only at O⊢;obtain⟨h1,h2⟩:=O;refine Ba.old ⟨{i:Nat//i<=l.length},λi=>⟨[(5,.im (.int .i64 i.1)),(4,.im (.int .i64 0)),(1,.im (.int .i64 (k+3*i.1))),(0,.own 0)],[(0,(true,.arr 119 3 ((NU (pF k) l i.1).map Al.c)))],1⟩,λi=>l.length - i.1,λi=>⟨by simp[ZG],by simp⟩,⟨⟨0,by simp⟩,by simp only[ZZ,simprocAttr,Ab,Aq,mkPC.ca,mkPC.H0,mkPC.H1,sub,pC];simp⟩,λi=> ?_⟩;obtain⟨i,aa⟩:=i;have Z:=NW (f:=pF k) aa;simp only[ZZ,simprocAttr,Ab,Aq,mkPC.ca,mkPC.H0,mkPC.H1,sub,AP,Z];intro _;refine⟨λQ=>⟨Q,Q,λx hx=> ?_⟩,λQ=> ?_⟩
 .have w1:IntKind.i64.wrap (k+3*(i:Int)+1)=k+3*(i:Int)+1:=AG (by omega) (by omega);have w2:IntKind.i64.wrap (k+3*(i:Int)+1+1)=k+3*(i:Int)+2:=(AG (by omega) (by omega)).trans (by omega);have z:i<(List.map Al.c (NU (pF k) l i)).length:=by rw[GL,Z];exact Q
  simp only[w1,w2];refine⟨by rw[FO];exact z,by rw[FO];exact z,LK (DW z) ?_⟩;simp only[ZZ,simprocAttr,Ab,Aq,mkPC.ca,mkPC.H0,mkPC.H1,sub,w1,w2,Zfm];refine⟨by rw[FO];exact z,by rw[FO];exact z,LK (DW z) ?_⟩;simp only[ZZ,simprocAttr,Ab,Aq,mkPC.ca,mkPC.H0,mkPC.H1,sub,w1,w2,Zfm];refine⟨⟨i+1,by omega⟩,by simp only;omega,⟨?_,?_⟩,?_⟩
  .rw[AG (by omega) (by omega)];simp only;omega
  .rw[AG (by omega) (by omega)];simp only;omega
  .simp only;rw[<-NX Q,Ws];rfl
 .exact⟨by omega,by rw[NV (by omega)]⟩
 simp[mkPC.H1] at hp;subst hp;exact .inl ⟨by omega,rfl,rfl⟩
def oF(k:Int)(i:Nat):DS:=⟨⟨k+3*i,k+3*i+1⟩,k+3*i+2⟩
def toIX.ca(a:List Int):List AV:=[.im (.sl false 1 (a.map Ak))]
def toIX.H1(a:List Int):An:=[(1,(true,.arr 2 1 (a.map Ak)))]
def toIX.row:AF:=AD toIX.ca (λ_=>[]) 0 (λa=>a.length<=1073741824) (λ_=>false) (λ_=> .own 1) toIX.H1 2
def toIX.ok:AL 108 toIX.row:=by
 refine ow tN Tryz.func108 (exB:=λj=>j==1) (R:=λ_ r=>r= .own 1) (λ_=>rfl)
  (λa=>by simp[toIX.ca,toIX.H1,AA,AV.bel,Aw,B6,BT,Ac.nms,Au,AV.nms,Aj,hget]) (λa p hp=> ?_) (λa r h=>by subst h;exact CN.refl _) ?_
 rotate_left
 intro a z;simp only[Tryz.f108,Option.getD,toIX.ca,toIX.H1];simp only[ZZ,simprocAttr,Ab,Aq,toIX.ca,toIX.H1];intro Z;have aa:a.length<=1073741824:=z;refine⟨by omega,?_⟩;refine Ba.old ⟨{k:Nat//k<=a.length},λk=>⟨[(4,.im (.int .i64 k.1)),(3,.own 1),(0,.im (.sl false 1 (a.map Ak)))],[(1,(true,.arr 2 1 ((a.take k.1).map Ak++List.replicate (a.length - k.1) [.int .i64 0])))],2⟩,λk=>a.length - k.1,λk=>⟨by simp[ZG],AU _⟩,⟨⟨0,by omega⟩,by simp only[ZZ,simprocAttr,Ab,Aq,toIX.ca,toIX.H1,sub];simp⟩,λk=> ?_⟩;obtain⟨k,Q⟩:=k;simp only[ZZ,simprocAttr,Ab,Aq,toIX.ca,toIX.H1,sub,AP,fQ _ _ a k Q];intro _;refine⟨λO=> ?_,λO=> ?_⟩
 .refine⟨O,λx hx=>⟨O,O,LK (fN Ak _ a k x hx) ?_⟩⟩;simp only[ZZ,simprocAttr,Ab,Aq,toIX.ca,toIX.H1,sub];refine⟨⟨k+1,by omega⟩,by simp only;omega,?_,?_⟩
  .rw[AG (by omega) (by omega)];simp only;omega
  .exact fS Ak _ a k x hx
 .rw[fR Ak _ a k (by omega)]
  try trivial
 simp[toIX.H1] at hp;subst hp;exact .inr ⟨by omega,by omega,rfl,rfl⟩
def toGX.ca(a:List Ad):List AV:=[.im (.sl false 2 (a.map Ad.c))]
def toGX.H1(a:List Ad):An:=[(1,(true,.arr 128 2 (a.map Ad.c)))]
def toGX.row:AF:=AD toGX.ca (λ_=>[]) 0 (λa=>a.length<=1073741824) (λ_=>false) (λ_=> .own 1) toGX.H1 2
def YaG:=J @toGlue.q @toGlue.fv.eq_1
def toGX.ok:AL 38 toGX.row:=by
 refine ow (tC toGlue.ok tN) Tryz.func38 (exB:=λj=>j==1) (R:=λ_ r=>r= .own 1) (λ_=>rfl)
  (λa=>by simp[toGX.ca,toGX.H1,AA,AV.bel,Aw,B6,BT,Ac.nms,Au,AV.nms,Aj,hget]) (λa p hp=> ?_) (λa r h=>by subst h;exact CN.refl _) ?_
 rotate_left
 intro a z;simp only[Tryz.f38,Option.getD,toGX.ca,toGX.H1];simp only[ZZ,simprocAttr,Ab,YaG,Aq,toGX.ca,toGX.H1];intro Z;have aa:a.length<=1073741824:=z;refine⟨by omega,?_⟩;refine Ba.old ⟨{k:Nat//k<=a.length},λk=>⟨[(4,.im (.int .i64 k.1)),(3,.own 1),(0,.im (.sl false 2 (a.map Ad.c)))],[(1,(true,.arr 128 2 ((a.take k.1).map Ad.c++List.replicate (a.length - k.1) [.str ByteArray.empty,.int .i64 0])))],2⟩,λk=>a.length - k.1,λk=>⟨by simp[ZG],AU _⟩,⟨⟨0,by omega⟩,by simp only[ZZ,simprocAttr,Ab,YaG,Aq,toGX.ca,toGX.H1,sub];simp⟩,λk=> ?_⟩;obtain⟨k,Q⟩:=k;simp only[ZZ,simprocAttr,Ab,YaG,Aq,toGX.ca,toGX.H1,sub,AP,fQ _ _ a k Q];intro _;refine⟨λO=> ?_,λO=> ?_⟩
 .refine⟨O,λx hx=>⟨O,O,LK (fN Ad.c _ a k x hx) ?_⟩⟩;simp only[ZZ,simprocAttr,Ab,YaG,Aq,toGX.ca,toGX.H1,sub];refine⟨⟨k+1,by omega⟩,by simp only;omega,?_,?_⟩
  .rw[AG (by omega) (by omega)];simp only;omega
  .exact fS Ad.c _ a k x hx
 .rw[fR Ad.c _ a k (by omega)]
  try trivial
 simp[toGX.H1] at hp;subst hp;exact .inr ⟨by omega,by omega,rfl,rfl⟩
def toPX.ca(a:List Al):List AV:=[.im (.sl false 3 (a.map Al.c))]
def toPX.H1(a:List Al):An:=[(1,(true,.arr 119 3 (a.map Al.c)))]
def toPX.row:AF:=AD toPX.ca (λ_=>[]) 0 (λa=>a.length<=1073741824) (λ_=>false) (λ_=> .own 1) toPX.H1 2
def YaH:=J @toPlaced.q @toPlaced.fv.eq_1
def toPX.ok:AL 40 toPX.row:=by
 refine ow (tC toPlaced.ok tN) Tryz.func40 (exB:=λj=>j==1) (R:=λ_ r=>r= .own 1) (λ_=>rfl)
  (λa=>by simp[toPX.ca,toPX.H1,AA,AV.bel,Aw,B6,BT,Ac.nms,Au,AV.nms,Aj,hget]) (λa p hp=> ?_) (λa r h=>by subst h;exact CN.refl _) ?_
 rotate_left
 intro a z;simp only[Tryz.f40,Option.getD,toPX.ca,toPX.H1];simp only[ZZ,simprocAttr,Ab,YaH,Aq,toPX.ca,toPX.H1];intro Z;have aa:a.length<=1073741824:=z;refine⟨by omega,?_⟩;refine Ba.old ⟨{k:Nat//k<=a.length},λk=>⟨[(4,.im (.int .i64 k.1)),(3,.own 1),(0,.im (.sl false 3 (a.map Al.c)))],[(1,(true,.arr 119 3 ((a.take k.1).map Al.c++List.replicate (a.length - k.1) [.int .i64 0,.int .i64 0,.int .i64 0])))],2⟩,λk=>a.length - k.1,λk=>⟨by simp[ZG],AU _⟩,⟨⟨0,by omega⟩,by simp only[ZZ,simprocAttr,Ab,YaH,Aq,toPX.ca,toPX.H1,sub];simp⟩,λk=> ?_⟩;obtain⟨k,Q⟩:=k;simp only[ZZ,simprocAttr,Ab,YaH,Aq,toPX.ca,toPX.H1,sub,AP,fQ _ _ a k Q];intro _;refine⟨λO=> ?_,λO=> ?_⟩
 .refine⟨O,λx hx=>⟨O,O,LK (fN Al.c _ a k x hx) ?_⟩⟩;simp only[ZZ,simprocAttr,Ab,YaH,Aq,toPX.ca,toPX.H1,sub];refine⟨⟨k+1,by omega⟩,by simp only;omega,?_,?_⟩
  .rw[AG (by omega) (by omega)];simp only;omega
  .exact fS Al.c _ a k x hx
 .rw[fR Al.c _ a k (by omega)]
  try trivial
 simp[toPX.H1] at hp;subst hp;exact .inr ⟨by omega,by omega,rfl,rfl⟩
def toTX.ca(a:Tile):List AV:=[.im (.agg (Tile.c a))]
def toTX.r0(a:Tile):AV:= .agg [.im (.str a.Name),.own 4]
def toTX.H1(a:Tile):An:=[(4,(true,.arr 2 1 (a.Sides.map Ak)))]
def toTX.row:AF:=AD toTX.ca (λ_=>[]) 0 (λa=>a.Sides.length<=1073741824) (λ_=>false) toTX.r0 toTX.H1 5
def toTX.ok:AL 73 toTX.row:=by
 refine ow (tC toIX.ok tN) Tryz.func73 (exB:=λj=>j==4) (R:=λa r=>r=toTX.r0 a) (λ_=>rfl)
  (λa=>by simp[toTX.ca,toTX.H1,Tile.c,AA,AV.bel,Aw,B6,BT,Ac.nms,Au,AV.nms,Aj,hget]) (λa p hp=> ?_) (λa r h=>by subst h;exact CN.refl _) ?_
 rotate_left
 intro a z;simp only[Tryz.f73,Option.getD,toTX.ca,toTX.H1,Tile.c];simp only[ZZ,simprocAttr,Ab,Aq,toTX.ca,toTX.H1,Tile.c];refine AD.os a.Sides [] z (λj=>by simp[Aj,hget]) rfl rfl ?_ ?_
 .simp only[ZZ,simprocAttr,Ab,Aq,toTX.ca,toTX.H1,Tile.c,toIX.ca,Db]
 simp only[ZZ,simprocAttr,Ab,Aq,toTX.ca,toTX.H1,Tile.c,toIX.H1,sub,toTX.r0,EK,Gv]
 skip
 simp[toTX.H1] at hp;subst hp;exact .inr ⟨by omega,by omega,rfl,rfl⟩
def Bv(a:List Tile)(i:Nat):Am:=(true,.arr 2 1 (((a[i]?.map Tile.Sides).getD []).map Ak))
def JQ(a:List Tile)(i:Nat):List AV:=[.im (.str ((a[i]?.map Tile.Name).getD ByteArray.empty)),.own (2+i)]
def nQ:List AV:=[.im (.str ByteArray.empty),.im (.sl true 0 [])]
def HT(a:List Tile)(k:Nat):List (List AV):=(List.range k).map (JQ a)++List.replicate (a.length - k) nQ
def dG{a:List Tile}{k:Nat}(h:k<=a.length):(HT a k).length=a.length:=by simp[HT];omega
def V4{a:List Tile}{k i:Nat}(h:i<k):(HT a k)[i]? =some (JQ a i):=by
 rw[HT,Io (by simpa using h),D3,Ga h];rfl
def V3{a:List Tile}{k i:Nat}(h:k<=i)(z:i<a.length):(HT a k)[i]? =some nQ:=by
 rw[HT,Kc (by simpa using h),LP,Ai (by simp;omega)]
def NI(a:List Tile)(k N:Nat)(h:2+k<=N):(HT a k).all (AA N)=true:=by
 rw[CR];intro r z;rcases B7.1 z with z|z
 .obtain⟨i,O,rfl⟩:=Bl.1 z
  have:=Bc.1 O
  simp[JQ,AA,AV.bel];omega
 .obtain rfl:=OF z;simp[nQ,AA,AV.bel]
def V5(a:List Tile):HT a 0=Bo (List.replicate a.length [.str ByteArray.empty,.sl true 0 []]):=by
 simp[HT,Bo,nQ]
def G1(h:Nat->Option Am)(F:AV->Option AV)(b:Nat)(f:Nat->Am)(n:Nat)(H: ∀i,i<n->h (b+i)=some (f i))(O: ∀i,i<n->BZ F (f i).2=some (f i).2):Er h F (A8 b n f):=by
 have: ∀(l:List Nat),(∀i∈l,i<n)->Er h F (l.map λi=>(b+i,f i)):=by
  intro l;induction l with
  |nil=>intro _;simp[Er]
  |cons i r ih=>
   intro z;simp only[Be,Er];refine⟨?_,ih (λj Z=>z j (BQ _ Z))⟩;rw[H i (z i (BU ..))];exact⟨rfl,O i (z i (BU ..))⟩
 exact this _ (λi Q=>Bc.1 Q)
def ZB{h:Nat->Option Am}{kx:Nat->Option Nat}{m:Nat}{a:List Tile}(O: ∀i,i<a.length->kx (2+i)=some (2+i)):Ax (Ax (Bf h kx (m+1))) (HT a a.length)=some (HT a a.length):=by
 have e:HT a a.length=(List.range a.length).map (JQ a):=by simp[HT]
 rw[e];refine R8 (g:=JQ a) (k:=JQ a) _ λi z=> ?_
 simp only[JQ,Ax,Bf,O i (Bc.1 z),kp]
def toLX.ca(a:List Tile):List AV:=[.im (.sl false 2 (a.map Tile.c))]
def toLX.H1(a:List Tile):An:=(1,(true,.arrA 126 2 (HT a a.length)))::A8 2 (min a.length 1048576) (Bv a)
def toLX.pre(a:List Tile):Prop:=a.length<=1048576/\ ∀x∈a,x.Sides.length<=1073741824
def toLX.row:AF:=AD toLX.ca (λ_=>[]) 0 toLX.pre (λ_=>false) (λ_=> .own 1) toLX.H1 2000000
def toLX.ok:AL 39 toLX.row:=by
 refine ow (tC toTX.ok tN) Tryz.func39 (exB:=λj=>Nat.ble 1 j) (R:=λ_ r=>r= .own 1) (λ_=>rfl)
  (λa=>by simp[toLX.ca,AA,AV.bel,Aw,B6,BT,Ac.nms,Au,AV.nms,Aj,hget]) (λa p hp=> ?_) (λa r h=>by subst h;exact CN.refl _) ?_
 rotate_left
 intro a ai;simp only[Tryz.f39,Option.getD,toLX.ca];simp(maxSteps:=9^9)(disch:=omega)only[ZZ,simprocAttr,Ab,Aq,toLX.ca];obtain⟨h1,h2⟩:=ai;intro _;refine⟨by omega,?_⟩;refine Ba.ren ⟨{k:Nat//k<=a.length},λk=>⟨[(4,.im (.int .i64 k.1)),(3,.own 1),(0,.im (.sl false 2 (a.map Tile.c)))],(1,(true,.arrA 126 2 (HT a k.1)))::A8 2 k.1 (Bv a),2+a.length⟩,λk=>a.length - k.1,λk=>⟨?_,by simp⟩,⟨⟨0,by simp⟩,[],?_⟩,λk=> ?_⟩
 .simp only[ZG,Et,EL];rw[O5 _ _ _ (λi=>by simp[Aw,Bv]),O2 _ _ _ _ (by omega),NI _ _ _ (by omega)];simp
  try omega
 .simp only[Av,A8,ES,BF,V5];simp(maxSteps:=9^9)(disch:=omega)only[ZZ,simprocAttr,Ab,Aq,toLX.ca,AS,AR,uD]
  try simp
 .obtain⟨k,aj⟩:=k;have aa:=dG (a:=a) aj;simp(maxSteps:=9^9)(disch:=omega)only[ZZ,simprocAttr,Ab,Aq,toLX.ca,sub,AP,aa,Bp];intro _;refine⟨λhk=>⟨by omega,hk,λx hx=> ?_⟩,λhk=> ?_⟩
  .refine AD.os x [] (h2 x (Bg hx)) (λj=>by simp[Aj,hget]) rfl rfl ?_ ?_
   .simp(maxSteps:=9^9)(disch:=omega)only[ZZ,simprocAttr,Ab,Aq,toLX.ca,toTX.ca,Db,Tile.c]
   simp(maxSteps:=9^9)(disch:=omega)only[ZZ,simprocAttr,Ab,Aq,toLX.ca,toTX.H1,toTX.r0,sub,AP,aa,Bp,LL,Ar,EK,Gv];refine⟨⟨by omega,by omega,by omega⟩,hk,by omega,hk,LK (V3 (AU _) hk) ?_⟩;simp only[nQ];simp(maxSteps:=9^9)(disch:=omega)only[ZZ,simprocAttr,Ab,Aq,toLX.ca,sub,AP,aa,Bp,LL,Ar,JW];rw[HU 2 k (Bv a) [1] (by simp)];refine⟨⟨?_,by omega⟩,⟨k+1,by omega⟩,[(2+k,some (2+a.length+4))],by simp only;omega,?_⟩
   .rw[CR];intro r hr;rcases XA hr with hr|hr
    .exact CR.1 (NI a k _ (by omega)) r hr
    .subst hr;simp[AA,AV.bel]
   obtain⟨g,hg⟩: ∃g,g=pm [(2+k,some (2+a.length+4))]:=⟨_,rfl⟩;have qx:g (2+k)=some (2+a.length+4):=by rw[hg];simp[pm]
   have qo: ∀u,u≠2+k->g u=some u:=by intro u h;rw[hg];simp only[pm];rw[Af (by omega)]
   have q1:pm [(2+k,some (2+a.length+4))] 1=some 1:=by rw[<-hg];exact qo 1 (by omega)
   have ac:=qx;have ab:=qo;rw[hg] at ac ab;refine⟨⟨by omega,trivial⟩,?_,?_,?_⟩
   .rw[aD,<-hg];simp only[F6,Xh];refine aI _ _ (eW [1] 2 (k+1) (by simp) (by simp)) ?_;have af: ∀u∈[1]++(List.range (k+1)).map (2+ ·),u<2+a.length+1:=by
     intro u hu;rcases B7.1 hu with hu|hu
     .simp at hu;omega
     .obtain⟨i,hi,rfl⟩:=Bl.1 hu
      have:=Bc.1 hi
      show 2+i<2+a.length+1;omega
    intro u hu v hv m z O;have am:=af u hu;have an:=af v hv;by_cases Q:u=2+k<;>by_cases Z:v=2+k
    .omega
    .rw[Q,qx] at z;rw[qo v Z] at O;simp only[AN] at z O;omega
    .rw[qo u Q] at z;rw[Z,qx] at O;simp only[AN] at z O;omega
    .rw[qo u Q] at z;rw[qo v Z] at O;simp only[AN] at z O;omega
   .simp only[GH,AE];simp(maxSteps:=9^9)(disch:=omega)only[ZZ,simprocAttr,Ab,Aq,toLX.ca,q1];rw[AG (by omega) (by omega)];simp
   .simp only[EJ,ZY];refine⟨?_,λi hi=> ?_⟩
    .simp(maxSteps:=9^9)(disch:=omega)only[ZZ,simprocAttr,Ab,Aq,toLX.ca,q1];rw[Wa];refine⟨by rw[FO,aa,dG (by omega)],λi r1 r2 Q Z=> ?_⟩;have ag:i<a.length:=by
      have:=(C6.1 Q).1
      rw[dG (by omega)] at this;exact this
     by_cases ad:i=k
     .subst ad;rw[V4 (by omega)] at Q;rw[DW (by rw[aa];exact ag)] at Z;obtain rfl:=AJ Q;obtain rfl:=AJ Z;simp only[JQ,hx,Dh,AX,Dz,mt,ac,EV,QL]
     .rw[Eh (by omega)] at Z;by_cases af:i<k
      .rw[V4 (by omega)] at Q Z;obtain rfl:=AJ Q;obtain rfl:=AJ Z;simp only[JQ,Dz,mt,ab (2+i) (by omega),EV,QL]
      .rw[V3 (by omega) ag] at Q Z;obtain rfl:=AJ Q;obtain rfl:=AJ Z;simp only[nQ,Dz,mt,QL]
    .show Cx _ _ true (.arr 2 1 (((a[i]?.map Tile.Sides).getD []).map Ak)) _;by_cases ad:i=k
     .subst ad;rw[ac];simp(maxSteps:=9^9)(disch:=omega)only[ZZ,simprocAttr,Ab,Aq,toLX.ca,hx,Dh,AX,Ar]
      try simp
     .rw[ab (2+i) (by omega)];simp(maxSteps:=9^9)(disch:=omega)only[ZZ,simprocAttr,Ab,Aq,toLX.ca,Dp,Ar,LL,Bv]
      try simp
  .have ak:k=a.length:=by omega
   subst ak;refine⟨by omega,by omega,?_⟩;have ah:min a.length 1048576=a.length:=by omega
   obtain⟨H,hH⟩: ∃H,H=hget ((1,(true,Ac.arrA 126 2 (HT a a.length)))::A8 2 a.length (Bv a)):=⟨_,rfl⟩;rw[<-hH];have kx: ∀i,i<a.length->(Hx [] 0 2000000 λj=>decide (1<=j)) (2+i)=some (2+i):=by
    intro i hi;have hb:(decide (1<=2+i) && (Nat.ble 0 (2+i) && Nat.blt (2+i) (0+2000000)))=true:=by
     simp only[AY,CF,FA,Ei];omega
    simp only[Hx,Aj,hget,gQ,vP,hb,Cg]
   have g1:H 1=some (true,.arrA 126 2 (HT a a.length)):=by rw[hH];rfl
   simp only[toLX.H1,Er,ah];refine⟨?_,G1 _ _ _ _ _ (λi hi=> ?_) (λi hi=>rfl)⟩
   .rw[g1];exact⟨rfl,by simp only[BZ];rw[ZB kx];rfl⟩
   .rw[hH];simp only[hget,Ar _ _ (show 1≠2+i by omega),Bk];exact Dp _ _ _ _ hi
 simp only[toLX.H1,Br,A8,Bl,Bc] at hp;rcases hp with rfl|⟨i,hi,rfl⟩
 .exact .inr ⟨by omega,by omega,rfl,rfl⟩
 .exact .inr ⟨by simp only;omega,by simp only;omega,by simp only[FA];omega,rfl⟩
def BK(b:Nat)(a:List Tile):List (List AV):=(List.range a.length).map λi=>[.im (.str ((a[i]?.map Tile.Name).getD ByteArray.empty)),.own (b+i)]
def ZC(σ:Nat->Nat)(b:Nat)(a:List Tile)(h: ∀i,i<a.length->σ (2+i)=b+i):(HT a a.length).map (AI σ)=BK b a:=by
 have e:HT a a.length=(List.range a.length).map (JQ a):=by simp[HT]
 rw[e,Hu];refine Gb λi z=> ?_
 simp only[Function.comp,JQ,AI,AV.ren,h i (Bc.1 z)]
def Z7(σ:Nat->Nat)(b n:Nat)(a:List Tile)(h: ∀i,i<n->σ (2+i)=b+i):AQ σ (A8 2 n (Bv a))=A8 b n (Bv a):=by
 simp only[A8]
 have: ∀(l:List Nat),(∀i∈l,i<n)->AQ σ (l.map λi=>(2+i,Bv a i))=l.map λi=>(b+i,Bv a i):=by
  intro l;induction l with
  |nil=>intro _;rfl
  |cons i r ih=>
   intro z;have e:=ih (λj Q=>z j (BQ _ Q));simp only[Be,AQ,h i (z i (BU ..)),Bv,Ac.ren] at e⊢;rw[e]
 exact this _ (λi O=>Bc.1 O)
def WB(k:List Nat)(nx cnt:Nat): ∀(H:An),(∀p∈H,nx<=p.1/\p.1<nx+cnt)->HL k nx cnt H=true
 |[],_=>rfl
 |(i,e)::r,h=>by
  have z:=h (i,e) (BU ..);simp only at z;simp only[HL,K1,WB k nx cnt r (λp hp=>h p (BQ _ hp)),Et,HN,AY,FA,Ei];exact .inl z
def Rm(b:Nat)(a:List Tile)(N:Nat)(h:b+a.length<=N):(BK b a).all (AA N)=true:=by
 rw[CR];intro r O;obtain⟨i,z,rfl⟩:=Bl.1 O
 have:=Bc.1 z
 simp[AA,AV.bel];omega
def V6{σ:Nat->Nat}{nx:Nat}(a:List Tile)(h: ∀j,σ j=nx+j):AQ σ (toLX.H1 a)=(nx+1,(true,.arrA 126 2 (BK (nx+2) a)))::A8 (nx+2) (min a.length 1048576) (Bv a):=by
 simp only[toLX.H1,AQ,Ac.ren];rw[ZC σ (nx+2) a (λi _=>by rw[h];omega),Z7 σ (nx+2) _ a (λi _=>by rw[h];omega),h]
def WC{b n:Nat}{f:Nat->Am}{r:An}{m:Nat}(h:m<b):hget (A8 b n f++r) m=hget r m:=by
 rw[Jm,zW _ _ _ _ (.inl h)];rfl
def pK(ks:List Nat): ∀(a b:An),AW (a++b) ks=AW a ks++AW b ks
 |[],b=>by simp[AW]
 |(i,e)::r,b=>by
  simp only[BO,AW,pK ks r b];cases ks.contains i<;>rfl
def dA{b n:Nat}{f:Nat->Am}{r:An}{k:Nat}(h:k<b):AW (A8 b n f++r) [k]=A8 b n f++AW r [k]:=by
 rw[pK,HU _ _ _ _ (λx z=>by rw[BS] at z;subst z;exact .inl h)]
def HZ{h:Nat->Option Am}{kx:Nat->Option Nat}{m b:Nat}{a:List Tile}(O: ∀i,i<a.length->kx (b+i)=some (b+i)):Ax (Ax (Bf h kx (m+1))) (BK b a)=some (BK b a):=by
 refine R8 (g:=λi=>[AV.im (.str ((a[i]?.map Tile.Name).getD ByteArray.empty)),AV.own (b+i)]) (k:=λi=>[AV.im (.str ((a[i]?.map Tile.Name).getD ByteArray.empty)),AV.own (b+i)]) _ λi z=> ?_
 simp only[Ax,Bf,O i (Bc.1 z),kp]
def K2{lo cnt m:Nat}(O:lo<=m)(Q:m<cnt):(Hx [] 0 cnt λj=>decide (lo<=j)) m=some m:=by
 have z:(decide (lo<=m) && (Nat.ble 0 m && Nat.blt m (0+cnt)))=true:=by
  simp only[AY,CF,FA,Ei];omega
 simp only[Hx,Aj,hget,gQ,vP,z,Cg]
def toSX.ca(a:Ap):List AV:=[.im (.agg (Ap.c a))]
def toSX.r0:AV:= .agg [.own 4,.own 6]
def toSX.H1(a:Ap):An:=(4,(true,.arr 128 2 (a.Glues.map Ad.c)))::(6,(true,.arrA 126 2 (BK 7 a.Tiles)))::A8 7 (min a.Tiles.length 1048576) (Bv a.Tiles)
def toSX.pre(a:Ap):Prop:=a.Glues.length<=1073741824/\toLX.pre a.Tiles
def toSX.row:AF:=AD toSX.ca (λ_=>[]) 0 toSX.pre (λ_=>false) (λ_=>toSX.r0) toSX.H1 2000005
def toSX.ok:AL 17 toSX.row:=by
 refine ow (tC toGX.ok (tC toLX.ok tN)) Tryz.func17 (exB:=λj=>Nat.ble 4 j) (R:=λ_ r=>r=toSX.r0) (λ_=>rfl)
  (λa=>by simp[toSX.ca,Ap.c,AA,AV.bel,Aw,B6,BT,Ac.nms,Au,AV.nms,Aj,hget]) (λa p hp=> ?_) (λa r h=>by subst h;exact CN.refl _) ?_
 rotate_left
 intro a Q;simp only[Tryz.f17,Option.getD,toSX.ca,Ap.c];simp only[ZZ,simprocAttr,Ab,Aq,toSX.ca,Ap.c];obtain⟨h1,Z⟩:=Q;refine AD.os a.Glues [] h1 (λj=>by simp[Aj,hget]) rfl rfl ?_ ?_
 .simp only[ZZ,simprocAttr,Ab,Aq,toSX.ca,Ap.c,toGX.ca,Db]
 simp only[ZZ,simprocAttr,Ab,Aq,toSX.ca,Ap.c,toGX.H1,sub,EK,Gv];refine AD.os a.Tiles [] Z (λj=>by simp[Aj,hget]) rfl rfl ?_ ?_
 .simp only[ZZ,simprocAttr,Ab,Aq,toSX.ca,Ap.c,toLX.ca,Db]
 have hσ: ∀j,Bw (I9 []) 0 5 j=5+j:=λj=>by simp[Bw]
 rw[V6 a.Tiles hσ];obtain⟨h3,h4⟩:=Z;have z:min a.Tiles.length 1048576=a.Tiles.length:=by omega
 rw[z];simp only[D6,AV.ren,hσ];refine⟨?_,?_⟩
 .rw[B5.ok_nr,WB _ _ _ _ (λp hp=> ?_)]
  .simp only[AV.bel,Aw];rw[O5 _ _ _ (λi=>by simp[Aw,Bv]),Rm _ _ _ (by omega)];simp
  .rcases Br.1 hp with rfl|hp
   .exact⟨by simp only;omega,by simp only;omega⟩
   .obtain⟨i,O,rfl⟩:=Bl.1 hp
    have:=Bc.1 O
    exact⟨by simp only;omega,by simp only;omega⟩
 simp only[ZZ,simprocAttr,Ab,Aq,toSX.ca,Ap.c,sub,Bp,toSX.r0,WC,dA];obtain⟨H,hH⟩: ∃H,H=hget ((1,(true,Ac.cells 35 [AV.own 4,AV.own 6]))::(2,(true,Ac.cells 35 [AV.own 4,AV.own 6]))::(6,(true,Ac.arrA 126 2 (BK 7 a.Tiles)))::
  (A8 7 a.Tiles.length (Bv a.Tiles)++[(4,(true,Ac.arr 128 2 (List.map Ad.c a.Glues))),(0,(true,Ac.cells 25 [AV.im (D.sl false 2 (List.map Ad.c a.Glues)),AV.im (D.sl false 2 (List.map Tile.c a.Tiles))]))])):=⟨_,rfl⟩
 rw[<-hH];have g4:H 4=some (true,.arr 128 2 (a.Glues.map Ad.c)):=by rw[hH];simp[hget,WC]
 have g6:H 6=some (true,.arrA 126 2 (BK 7 a.Tiles)):=by rw[hH];rfl
 have gf: ∀i,i<a.Tiles.length->H (7+i)=some (Bv a.Tiles i):=by
  intro i O;rw[hH];simp only[hget,Ar _ _ (show 1≠7+i by omega),Ar _ _ (show 2≠7+i by omega),Ar _ _ (show 6≠7+i by omega),Bk];rw[Jm,Dp _ _ _ _ O];rfl
 simp only[toSX.H1,Er,z];refine⟨?_,?_,G1 _ _ _ _ _ gf (λi O=>rfl)⟩
 .rw[g4];exact⟨rfl,rfl⟩
 .rw[g6];exact⟨rfl,by simp only[BZ];rw[HZ (λi O=>K2 (by omega) (by omega))];rfl⟩
 simp only[toSX.H1,Br,A8,Bl,Bc] at hp;rcases hp with rfl|rfl|⟨i,O,rfl⟩
 .exact .inr ⟨by omega,by simp only;omega,rfl,rfl⟩
 .exact .inr ⟨by omega,by simp only;omega,rfl,rfl⟩
 .exact .inr ⟨by simp only;omega,by simp only;omega,by simp only[FA];omega,rfl⟩
def toAX.ca(a:AB):List AV:=[.im (.agg (AB.c a))]
def toAX.H1(a:AB):An:=[(4,(true,.arr 119 3 (a.Tiles.map Al.c)))]
def toAX.row:AF:=AD toAX.ca (λ_=>[]) 0 (λa=>a.Tiles.length<=1073741824) (λ_=>false) (λ_=> .agg [.own 4]) toAX.H1 5
def toAX.ok:AL 18 toAX.row:=by
 refine ow (tC toPX.ok tN) Tryz.func18 (exB:=λj=>j==4) (R:=λ_ r=>r= .agg [.own 4]) (λ_=>rfl)
  (λa=>by simp[toAX.ca,toAX.H1,AB.c,AA,AV.bel,Aw,B6,BT,Ac.nms,Au,AV.nms,Aj,hget]) (λa p hp=> ?_) (λa r h=>by subst h;exact CN.refl _) ?_
 rotate_left
 intro a z;simp only[Tryz.f18,Option.getD,toAX.ca,toAX.H1,AB.c];simp only[ZZ,simprocAttr,Ab,Aq,toAX.ca,toAX.H1,AB.c];refine AD.os a.Tiles [] z (λj=>by simp[Aj,hget]) rfl rfl ?_ ?_
 .simp only[ZZ,simprocAttr,Ab,Aq,toAX.ca,toAX.H1,AB.c,toPX.ca,Db]
 simp only[ZZ,simprocAttr,Ab,Aq,toAX.ca,toAX.H1,AB.c,toPX.H1,sub,EK,Gv]
 skip
 simp[toAX.H1] at hp;subst hp;exact .inr ⟨by omega,by omega,rfl,rfl⟩
def V7{σ:Nat->Nat}{nx:Nat}(a:Ap)(h: ∀j,σ j=nx+j):AQ σ (toSX.H1 a)=(nx+4,(true,.arr 128 2 (a.Glues.map Ad.c)))::(nx+6,(true,.arrA 126 2 (BK (nx+7) a.Tiles)))::A8 (nx+7) (min a.Tiles.length 1048576) (Bv a.Tiles):=by
 have z:(BK 7 a.Tiles).map (AI σ)=BK (nx+7) a.Tiles:=by
  simp only[BK,Hu];refine Gb λi Q=> ?_
  simp only[Function.comp,AI,AV.ren,h];rw[show nx+(7+i)=nx+7+i by omega]
 have O: ∀n,AQ σ (A8 7 n (Bv a.Tiles))=A8 (nx+7) n (Bv a.Tiles):=by
  intro n;simp only[A8]
  have: ∀(l:List Nat),AQ σ (l.map λi=>(7+i,Bv a.Tiles i))=l.map λi=>(nx+7+i,Bv a.Tiles i):=by
   intro l;induction l with
   |nil=>rfl
   |cons i r ih=>
    simp only[Be,AQ,h,Bv,Ac.ren] at ih⊢;rw[ih,show nx+(7+i)=nx+7+i by omega]
  exact this _
 simp only[toSX.H1,AQ,Ac.ren,z,O,h]
def toYX.ca(a:A9):List AV:=[.im (.agg (A9.c a))]
def toYX.r0(a:A9):AV:= .agg [.own 7,.own 9,.own 2000012,.im (.int .i64 a.Temperature)]
def toYX.H1(a:A9):An:=(7,(true,.arr 128 2 (a.Set.Glues.map Ad.c)))::(9,(true,.arrA 126 2 (BK 10 a.Set.Tiles)))::(2000012,(true,.arr 119 3 (a.Seed.Tiles.map Al.c)))::A8 10 (min a.Set.Tiles.length 1048576) (Bv a.Set.Tiles)
def toYX.pre(a:A9):Prop:=toSX.pre a.Set/\a.Seed.Tiles.length<=1073741824
def toYX.row:AF:=AD toYX.ca (λ_=>[]) 0 toYX.pre (λ_=>false) toYX.r0 toYX.H1 2000013
def toYX.ok:AL 6 toYX.row:=by
 refine ow (tC toSX.ok (tC toAX.ok tN)) Tryz.func6 (exB:=λj=>Nat.ble 7 j) (R:=λa r=>r=toYX.r0 a) (λ_=>rfl)
  (λa=>by simp[toYX.ca,A9.c,AA,AV.bel,Aw,B6,BT,Ac.nms,Au,AV.nms,Aj,hget]) (λa p hp=> ?_) (λa r h=>by subst h;exact CN.refl _) ?_
 rotate_left
 intro a Q;simp only[Tryz.f6,Option.getD,toYX.ca,A9.c];simp only[ZZ,simprocAttr,Ab,Aq,toYX.ca,A9.c];obtain⟨Z,h2⟩:=Q;refine AD.os a.Set [] Z (λj=>by simp[Aj,hget]) rfl rfl ?_ ?_
 .simp only[ZZ,simprocAttr,Ab,Aq,toYX.ca,A9.c,toSX.ca,Ap.c,Db]
 have hσ: ∀j,Bw (I9 []) 0 3 j=3+j:=λj=>by simp[Bw]
 rw[V7 a.Set hσ];obtain⟨h0,h3,h4⟩:=Z;have z:min a.Set.Tiles.length 1048576=a.Set.Tiles.length:=by omega
 rw[z];simp only[D6,toSX.r0,AV.ren,AI,hσ];refine⟨?_,?_⟩
 .rw[B5.ok_nr,WB _ _ _ _ (λp hp=> ?_)]
  .simp only[AV.bel,AA,Aw];rw[O5 _ _ _ (λi=>by simp[Aw,Bv]),Rm _ _ _ (by omega)];simp
  .rcases Br.1 hp with rfl|hp
   .exact⟨by simp only;omega,by simp only;omega⟩
   rcases Br.1 hp with rfl|hp
   .exact⟨by simp only;omega,by simp only;omega⟩
   .obtain⟨i,O,rfl⟩:=Bl.1 hp
    have:=Bc.1 O
    exact⟨by simp only;omega,by simp only;omega⟩
 simp only[ZZ,simprocAttr,Ab,Aq,toYX.ca,A9.c,sub,Bp,WC,dA];refine AD.os a.Seed [] h2 (λj=>by simp[Aj,hget]) rfl rfl ?_ ?_
 .simp only[ZZ,simprocAttr,Ab,Aq,toYX.ca,A9.c,toAX.ca,AB.c,Db]
 simp only[ZZ,simprocAttr,Ab,Aq,toYX.ca,A9.c,toAX.H1,sub,Bp,WC,dA,toYX.r0,EK,Gv];obtain⟨H,hH⟩: ∃H,H=hget ((1,(true,Ac.cells 40 [AV.own 7,AV.own 9,AV.own 2000012,AV.im (D.int IntKind.i64 a.Temperature)]))::(2,(true,Ac.cells 40 [AV.own 7,AV.own 9,AV.own 2000012,AV.im (D.int IntKind.i64 a.Temperature)]))::
  (2000012,(true,Ac.arr 119 3 (List.map Al.c a.Seed.Tiles)))::(7,(true,Ac.arr 128 2 (List.map Ad.c a.Set.Glues)))::(9,(true,Ac.arrA 126 2 (BK 10 a.Set.Tiles)))::
  (A8 10 a.Set.Tiles.length (Bv a.Set.Tiles)++[(0,(true,Ac.cells 30 [AV.im (D.sl false 2 (List.map Ad.c a.Set.Glues)),AV.im (D.sl false 2 (List.map Tile.c a.Set.Tiles)),AV.im (D.sl false 3 (List.map Al.c a.Seed.Tiles)),AV.im (D.int IntKind.i64 a.Temperature)]))])):=⟨_,rfl⟩
 rw[<-hH];have g7:H 7=some (true,.arr 128 2 (a.Set.Glues.map Ad.c)):=by rw[hH];rfl
 have g9:H 9=some (true,.arrA 126 2 (BK 10 a.Set.Tiles)):=by rw[hH];rfl
 have gs:H 2000012=some (true,.arr 119 3 (a.Seed.Tiles.map Al.c)):=by rw[hH];simp[hget]
 have gf: ∀i,i<a.Set.Tiles.length->H (10+i)=some (Bv a.Set.Tiles i):=by
  intro i O;rw[hH];simp only[hget,Ar _ _ (show 1≠10+i by omega),Ar _ _ (show 2≠10+i by omega),Ar _ _ (show 2000012≠10+i by omega),Ar _ _ (show 7≠10+i by omega),Ar _ _ (show 9≠10+i by omega),Bk];rw[Jm,Dp _ _ _ _ O];rfl
 simp only[toYX.H1,Er,z];refine⟨?_,?_,?_,G1 _ _ _ _ _ gf (λi O=>rfl)⟩
 .rw[g7];exact⟨rfl,rfl⟩
 .rw[g9];exact⟨rfl,by simp only[BZ];rw[HZ (λi O=>K2 (by omega) (by omega))];rfl⟩
 .rw[gs];exact⟨rfl,rfl⟩
 simp only[toYX.H1,Br,A8,Bl,Bc] at hp;rcases hp with rfl|rfl|rfl|⟨i,O,rfl⟩
 .exact .inr ⟨by omega,by simp only;omega,rfl,rfl⟩
 .exact .inr ⟨by omega,by simp only;omega,rfl,rfl⟩
 .exact .inr ⟨by omega,by simp only;omega,by simp only[FA];omega,rfl⟩
 .exact .inr ⟨by simp only;omega,by simp only;omega,by simp only[FA];omega,rfl⟩
def eqInt64SF.fv(a:(List Int)×(List Int)):Bool:=(λa b=>decide (a=b)) (a.1) (a.2)
def eqInt64SF.row:AF:=CH (b2 (qS F3 DU) (qS F3 DU)) rB (λa=>True) eqInt64SF.fv
def eqInt64SF.q:=C9 (R:=eqInt64SF.row) rfl
def eqInt64SF.ok:AL 21 eqInt64SF.row:=by
 refine FR tN Tryz.func21 ?_;intro a aa;simp only[Tryz.f21,Option.getD];simp only[ZZ,simprocAttr,Ab,eqInt64SF.fv,BX,D.sc,D.scs,BM,AT];intro h1 h2;simp only[AP];refine⟨λO=> ?_,λO=> ?_⟩
 .have:a.1≠a.2:=λh=>O (by rw[h])
  simp[this]
 have O:a.1.length=a.2.length:=by omega
 refine Ba.old ⟨{k:Nat//k<=a.1.length/\a.1.take k=a.2.take k},λk=>⟨[(5,.im (.int .i64 k.1)),(4,.im (.bool false)),(0,.im (.sl false 1 (a.1.map Ak))),(1,.im (.sl false 1 (a.2.map Ak)))],[],0⟩,λk=>a.1.length - k.1,λk=>⟨by simp[ZG],AU _⟩,⟨⟨0,by simp⟩,by simp only[ZZ,simprocAttr,Ab,eqInt64SF.fv,BX,D.sc,D.scs,BM,AT,sub]⟩,λk=> ?_⟩;obtain⟨k,Z,z⟩:=k;simp only[ZZ,simprocAttr,Ab,eqInt64SF.fv,BX,D.sc,D.scs,BM,AT,sub,AP];intro _;refine⟨λQ=>⟨Q,λx hx=>⟨by omega,λy hy=> ?_⟩⟩,λQ=> ?_⟩
 .obtain⟨g1,g2⟩:=rN O Z z hx hy;exact⟨λh=>by simp[g2 h],λh=>Je Q h1 ⟨by omega,g1 (by simpa using h)⟩⟩
 .rw[F9 (by omega),F9 (by omega)] at z;simp[z]
def eqSystemF.fv(a:A9×A9):Bool:=(λa b=>decide (a=b)) (a.1) (a.2)
def eqSystemF.row:AF:=CH (b2 (qR A9.d_le) (qR A9.d_le)) rB (λa=>True) eqSystemF.fv
def eqSystemF.q:=C9 (R:=eqSystemF.row) rfl
def eqSystemF.ok:AL 9 eqSystemF.row:=by
 refine FR (tC eqTileSet.ok (tC eqAssembly.ok tN)) Tryz.func9 ?_;intro a O;simp only[Tryz.f9,Option.getD];simp only[ZZ,simprocAttr,Ab,eqSystemF.fv,eqTileSet.q,eqTileSet.fv,eqAssembly.q,eqAssembly.fv,BX,D.sc,D.scs,BM,AT];obtain⟨⟨⟨x,Q⟩,⟨y⟩,u⟩,⟨⟨z,Z⟩,⟨w⟩,v⟩⟩:=a;simp only[A9.mk.injEq,Ap.mk.injEq,AB.mk.injEq]
 grind
def mkAC.ca(a:AB×Int):List AV:=[.agg [.own 0],.im (.int .i64 a.2)]
def mkAC.H0(a:AB×Int):An:=[(0,(true,.arr 119 3 (a.1.Tiles.map Al.c)))]
def mkAC.H1(a:AB×Int):An:=[(0,(true,.arr 119 3 ((Eg (pF a.2) a.1.Tiles.length).map Al.c)))]
def mkAC.row:AF:=AD mkAC.ca mkAC.H0 1 (λa=>0<=a.2/\a.2+3*a.1.Tiles.length<=1099511627776) (λj=>j==0) (λa=> .im (.int .i64 (a.2+3*a.1.Tiles.length))) mkAC.H1 0
def mkAC.ok:AL 25 mkAC.row:=by
 refine ow (tC mkPC.ok tN) Tryz.func25 (exB:=λ_=>false) (R:=λa r=>r= .im (.int .i64 (a.2+3*a.1.Tiles.length))) (λ_=>rfl)
  (λa=>by simp[mkAC.ca,mkAC.H0,mkAC.H1,AA,AV.bel,Aw,B6,BT,Ac.nms,Au,AV.nms,Aj,hget]) (λa p hp=> ?_) (λa r h=>by subst h;exact CN.refl _) ?_
 rotate_left
 intro a z;simp only[Tryz.f25,Option.getD,mkAC.ca,mkAC.H0,mkAC.H1];simp only[ZZ,simprocAttr,Ab,Aq,mkAC.ca,mkAC.H0,mkAC.H1];refine AD.os (a.1.Tiles,a.2) [0] z (λj=> ?_) rfl rfl ?_ ?_
 .simp only[Aj,mkPC.H0,hget];by_cases O:j=0
  .subst O;simp
  .have:(0==j)=false:=by simpa using λh=>O h.symm
   rw[this];simp;omega
 .simp only[ZZ,simprocAttr,Ab,Aq,mkAC.ca,mkAC.H0,mkAC.H1,mkPC.ca,mkPC.H0,Db,EK]
  try exact⟨rfl,rfl⟩
 simp only[ZZ,simprocAttr,Ab,Aq,mkAC.ca,mkAC.H0,mkAC.H1,mkPC.H1,sub,EK,Gv]
 skip
 simp[mkAC.H1] at hp;subst hp;exact .inl ⟨by omega,rfl,rfl⟩
def nT(a:List Tile):Nat:=min a.length 1048576
def jX(a:List Tile)(i:Nat):List Int:=(a[i]?.map Tile.Sides).getD []
def DF(a:List Tile)(k:Int):Nat->Int
 |0=>k
 |i+1=>DF a k i+1+(jX a i).length
def Fx(a:List Tile)(k:Int)(i j:Nat):List AV:=if j<i then [.im (.str (Eb (DF a k j))),.own (2+j)] else JQ a j
def E3(a:List Tile)(k:Int)(i j:Nat):Am:=(true,.arr 2 1 ((if j<i then Gi (DF a k j+1) (jX a j).length else jX a j).map Ak))
def D7(a:List Tile)(k:Int)(i:Nat):An:=(0,(true,.arrA 126 2 ((List.range (nT a)).map (Fx a k i))))::A8 2 (nT a) (E3 a k i)
def mkLC.ca(a:List Tile×Int):List AV:=[.own 0,.im (.int .i64 a.2)]
def mkLC.H0(a:List Tile×Int):An:=D7 a.1 a.2 0
def mkLC.H1(a:List Tile×Int):An:=D7 a.1 a.2 (nT a.1)
def mkLC.r0(a:List Tile×Int):AV:= .im (.int .i64 (DF a.1 a.2 a.1.length))
def mkLC.pre(a:List Tile×Int):Prop:=a.1.length<=1048576/\0<=a.2/\DF a.1 a.2 a.1.length<=1099511627776
def mkLC.row:AF:=AD mkLC.ca mkLC.H0 2000000 mkLC.pre (λ_=>true) mkLC.r0 mkLC.H1 0
def CW(a:List Tile):nT a<=1048576:=LS _ _
def dL(a:List Tile)(k:Int)(i j N:Nat)(h:2+j<N):AA N (Fx a k i j)=true:=by
 simp only[Fx]
 split<;>simp[JQ,AA,AV.bel,h]
def dF(a:List Tile)(k:Int)(i j:Nat):Au (Fx a k i j)=[2+j]:=by
 simp only[Fx]
 split<;>simp[JQ,Au,AV.nms]
def pQ(a:List Tile)(k:Int)(i N:Nat)(h:2+nT a<N):Aw N (D7 a k i)=true:=by
 simp only[D7,Aw];rw[O5 _ _ _ (λj=>by simp[Aw,E3]),Et,CR];intro r O;obtain⟨j,z,rfl⟩:=Bl.1 O;exact dL _ _ _ _ _ (by have:=Bc.1 z;omega)
def mkLC.hbel(a:List Tile×Int):AA 2000000 (mkLC.ca a)=true:=by simp[mkLC.ca,AA,AV.bel]
def mkLC.hbH(a:List Tile×Int):Aw 2000000 (mkLC.H0 a)=true:=pQ _ _ _ _ (by have:=CW a.1;omega)
def mkLC.hkH(a:List Tile×Int):B6 2000000 (mkLC.H0 a)=true:=by
 simp only[mkLC.H0,D7,B6];rw[O2 _ _ _ _ (by have:=CW a.1;omega)];simp
def IX(a:List Tile)(k:Int)(i j:Nat):Aj (D7 a k i) j=true↔j=0\/(2<=j/\j<2+nT a):=by
 simp only[Aj,D7,hget,fT];by_cases h0:j=0
 .subst h0;simp
 .have:(0==j)=false:=by simpa using λh=>h0 h.symm
  rw[this];simp only[Bk];split
  .rename_i h;simp[h]
  .rename_i h;simp[h0];omega
def mkLC.hnm(a:List Tile×Int):BT (mkLC.H0 a) (mkLC.H0 a):=by
 simp only[mkLC.H0];have O: ∀m,(∃j,j<nT a.1/\m=2+j)->Aj (D7 a.1 a.2 0) m=true:=by
  rintro m ⟨j,Q,rfl⟩;exact (IX _ _ _ _).2 (.inr ⟨by omega,by omega⟩)
 conv=>arg 2;unfold D7
 simp only[BT];refine⟨λm z=> ?_,dD λi hi m z=>by simp[E3,Ac.nms] at z⟩;simp only[Ac.nms] at z;obtain⟨r,Z,z⟩:=Ek.1 z;obtain⟨j,Q,rfl⟩:=Bl.1 Z;rw[dF,BS] at z;exact O m ⟨j,Bc.1 Q,z⟩
def NH(a:List Tile)(k:Int)(h:0<=k): ∀i j,i<=j->0<=DF a k i/\DF a k i<=DF a k j:=by
 have pos: ∀i,0<=DF a k i:=by
  intro i;induction i with
  |zero=>exact h
  |succ i ih=>simp only[DF];omega
 intro i j z;refine⟨pos i,?_⟩;induction j with
 |zero=>have:i=0:=by omega
        subst this;exact OG _
 |succ j ih=>
  by_cases c:i=j+1
  .subst c;exact OG _
  .have:=ih (by omega)
   simp only[DF];omega
def pM(s:Az)(b n:Nat)(f:Nat->Am):Cm s (A8 b n f)= ∀i,i<n->hget s.h (b+i)=some (f i):=by
 have: ∀(l:List Nat),Cm s (l.map λi=>(b+i,f i))↔ ∀i∈l,hget s.h (b+i)=some (f i):=by
  intro l;induction l with
  |nil=>simp[Cm]
  |cons i r ih=>simp only[Be,Cm,ih,Br,Zeg]
 apply propext;rw[A8,this];simp only[Bc]
def dH(a:List Tile)(k:Int)(i j:Nat)(h:j<nT a):hget (D7 a k i) (2+j)=some (E3 a k i j):=by
 simp only[D7,hget,Ar _ _ (show 0≠2+j by omega),Bk];exact Dp _ _ _ _ h
def uV:=J @mkText.q @mkText.fv.eq_1
def mkLC.ok:AL 55 mkLC.row:=by
 refine ow (tC mkText.ok (tC mkIC.ok tN)) Tryz.func55 (exB:=λ_=>false) (R:=λa r=>r=mkLC.r0 a) (λ_=>rfl)
  (λa=>⟨mkLC.hbel a,mkLC.hbH a,mkLC.hkH a,mkLC.hnm a⟩) (λa p hp=> ?_) (λa r h=>by subst h;exact CN.refl _) ?_
 rotate_left
 intro a aa;simp only[Tryz.f55,Option.getD,mkLC.ca];simp(maxSteps:=9^9)(disch:=omega)only[ZZ,simprocAttr,Ab,uV,Aq,mkLC.ca];obtain⟨l,k⟩:=a;obtain⟨h1,h2,h3⟩:=aa;simp only at h1 h2 h3;have hn:nT l=l.length:=by simp only[nT];omega
 simp only[Bp,mkLC.H0,mkLC.H1];refine Ba.old ⟨{i:Nat//i<=l.length},λi=>⟨[(5,.im (.int .i64 i.1)),(4,.im (.int .i64 0)),(0,.own 0),(1,.im (.int .i64 (DF l k i.1)))],D7 l k i.1,2000000⟩,λi=>l.length - i.1,λi=>⟨?_,by simp⟩,⟨⟨0,by simp⟩,?_⟩,λi=> ?_⟩
 .simp only[Az.good,Cv,AV.bel,Et,EL];rw[pQ _ _ _ _ (by omega)];simp only[D7,B6];rw[O2 _ _ _ _ (by omega)];simp
 .simp only[sub];simp(maxSteps:=9^9)(disch:=omega)only[ZZ,simprocAttr,Ab,uV,Aq,mkLC.ca,sub,DF]
  conv=>arg 2;unfold D7
  simp only[Cm,pM];exact⟨rfl,λj z=>dH _ _ _ _ z⟩
 .obtain⟨i,ac⟩:=i;have hb:=NH l k h2 i l.length ac;have Z:((List.range (nT l)).map (Fx l k i)).length=l.length:=by simp[hn]
  simp only[D7];simp(maxSteps:=9^9)(disch:=omega)only[ZZ,simprocAttr,Ab,uV,Aq,mkLC.ca,sub,AP,Z,Bp];intro _;refine⟨λhi=>⟨by omega,hi,hi,λx hx=> ?_⟩,λhi=> ?_⟩
  .obtain rfl:i=x:=by
    rw[Ga (by omega)] at hx;exact AJ hx
   have em:Fx l k i i=[.im (.str ((l[i]?.map Tile.Name).getD ByteArray.empty)),.own (2+i)]:=by simp[Fx,JQ]
   have O:((List.range (nT l)).map (Fx l k i)).set i [.im (.str (Eb (DF l k i))),.own (2+i)]=(List.range (nT l)).map (Fx l k (i+1)):=by
    apply RH;intro j;by_cases z:i=j
    .subst z;rw[DW (by rw[Z];exact hi),D3,Ga (by omega)];simp[Fx]
    .rw[Eh z,D3,D3];cases hr:(List.range (nT l))[j]? with
     |none=>rfl
     |some y=>
      have hy:j=y:=by
       have hl:=(C6.1 hr).1;simp at hl;rw[Ga hl] at hr;exact AJ hr
      subst hy;simp only[Dh,Fx];by_cases c:j<i
      .rw[Ai c,Ai (by omega)]
      .rw[Af c,Af (by omega)]
   rw[em];simp only[LO,GJ];have Q:i<((List.range (nT l)).map (Fx l k i)).length:=by rw[Z];exact hi
   have hw:IntKind.i64.wrap (DF l k i+1)=DF l k i+1:=AG (by omega) (by omega);refine⟨by simp,?_,by rw[FO];exact Q,by rw[FO];exact Q,LK (DW Q) ?_⟩
   .rw[O,CR];intro r hr;obtain⟨j,z,rfl⟩:=Bl.1 hr;exact dL _ _ _ _ _ (by have:=Bc.1 z;omega)
   simp(maxSteps:=9^9)(disch:=omega)only[ZZ,simprocAttr,Ab,uV,Aq,mkLC.ca,sub,O,hw];have ab:=(NH l k h2 (i+1) l.length hi).2;simp only[DF] at ab;refine⟨by omega,?_⟩;simp only[Bp];rw[HU 2 (nT l) (E3 l k i) [0] (by simp)];refine AD.os (jX l i,DF l k i+1) [2+i] ⟨by simp only;omega,by simp only;omega⟩ (λj=> ?_) rfl ?_ ?_ ?_
   .simp only[Aj,mkIC.H0,hget];by_cases z:j=0
    .subst z;simp
    .have:(0==j)=false:=by simpa using λh=>z h.symm
     rw[this];simp;omega
   .simp only[aY,Et,Ei];omega
   .refine⟨by simp[mkIC.ca,AI,AV.ren,Bw,I9],?_,trivial⟩;have e:Bw (I9 [2+i]) 1 2000000 0=2+i:=by simp[Bw,I9]
    rw[e]
    have:=dH l k i i (by omega)
    simp only[D7,E3,hget,Ar _ _ (show 0≠2+i by omega),Bk] at this;simp only[hget,Ar _ _ (show 0≠2+i by omega),Bk];rw[Dp _ _ _ _ (by omega)];simp[E3,Ac.ren]
   simp(maxSteps:=9^9)(disch:=omega)only[ZZ,simprocAttr,Ab,uV,Aq,mkLC.ca,mkIC.H1,sub,Bp,Ar,LL,EK,DF];refine⟨.inr (by omega),⟨i+1,by omega⟩,by simp only;omega,⟨by rw[AG (by omega) (by omega)];simp only;omega,rfl⟩,rfl,?_⟩;rw[pM];intro j z;by_cases ag:j=i
   .subst ag;simp[hget,E3]
   .simp only[hget,Ar _ _ (show 2+i≠2+j by omega),Ar _ _ (show 0≠2+j by omega),Bk];rw[JW _ _ _ (by omega),Dp _ _ _ _ z];simp only[E3];by_cases c:j<i
    .rw[Ai c,Ai (by omega)]
    .rw[Af c,Af (by omega)]
  .have ad:i=l.length:=by omega
   subst ad;have kx: ∀j,j<nT l->Hx ((0,(true,Ac.arrA 126 2 (List.map (Fx l k 0) (List.range (nT l)))))::A8 2 (nT l) (E3 l k 0)) 2000000 0 (λ_=>false) (2+j)=some (2+j):=by
    intro j z
    have:=(IX l k 0 (2+j)).2 (.inr ⟨by omega,by omega⟩)
    simp only[D7] at this;simp only[Hx,this,mT,Cg]
   refine⟨?_,rfl,?_,?_⟩
   .have: ∀(h:Nat->Option Am) (H:An),IC h (λ_=>true) H:=by
     intro h H;induction H with
     |nil=>trivial
     |cons x r ih=>obtain⟨j,e⟩:=x;exact⟨trivial,ih⟩
    exact this _ _
   .rw[show Fx l k (nT l)=Fx l k l.length by rw[hn]];rw[R8 (g:=Fx l k l.length) (k:=Fx l k l.length) _ (λj z=> ?_)]
    .rfl
    .have af:=Bc.1 z;simp only[Fx,Ai (show j<l.length by omega),Ax,Bf,kx j af,kp]
   .refine G1 _ _ _ _ _ (λj z=> ?_) (λj z=>rfl);simp only[hget,Ar _ _ (show 0≠2+j by omega),Bk];rw[Dp _ _ _ _ z,hn]
 refine .inl ?_;have ah:p.1=0\/(2<=p.1/\p.1<2+nT a.1):=by
  simp only[mkLC.H1,D7,Br,A8,Bl,Bc] at hp;rcases hp with rfl|⟨j,z,rfl⟩
  .exact .inl rfl
  .exact .inr ⟨by simp only;omega,by simp only;omega⟩
 have:=CW a.1
 exact⟨by omega,rfl,(IX _ _ _ _).2 ah⟩
def Pu{H:An}{j:Nat}:j∈F6 H↔Aj H j=true:=by
 induction H with
 |nil=>simp[F6,Aj,hget]
 |cons e r ih=>
  obtain⟨i,e⟩:=e;simp only[F6,Br,Aj,hget];by_cases z:i=j
  .subst z;simp
  .have:(i==j)=false:=by simpa using z
   rw[this];simp only[Bk];exact⟨λh=>ih.1 (h.resolve_left λh=>z h.symm),λh=> .inr (ih.2 h)⟩
mutual
def dC{n:Nat}: ∀x:AV,(∀m∈x.nms,m<n)->x.bel n=true
 | .any,_=>rfl
 | .im _,_=>rfl
 | .agg z,h=>by simp only[AV.nms] at h;simp only[AV.bel];exact Ky z h
 | .tup z,h=>by simp only[AV.nms] at h;simp only[AV.bel];exact Ky z h
 | .ptr o _,h=>by simp only[AV.bel,Ei];exact h o (by simp[AV.nms])
 | .eptr o _ _,h=>by simp only[AV.bel,Ei];exact h o (by simp[AV.nms])
 | .own o,h=>by simp only[AV.bel,Ei];exact h o (by simp[AV.nms])
 | .mp o,h=>by simp only[AV.bel,Ei];exact h o (by simp[AV.nms])
 | .ch o,h=>by simp only[AV.bel,Ei];exact h o (by simp[AV.nms])
 | .it o,h=>by simp only[AV.bel,Ei];exact h o (by simp[AV.nms])
 | .osl o _ _,h=>by simp only[AV.bel,Ei];exact h o (by simp[AV.nms])
 | .clo _ a c,h=>by
   simp only[AV.nms,B7] at h;simp only[AV.bel,Ky a λm O=>h m (.inl O),Ky c λm O=>h m (.inr O),gW]
def Ky{n:Nat}: ∀xs:List AV,(∀m∈Au xs,m<n)->AA n xs=true
 |[],_=>rfl
 |x::r,h=>by
  simp only[Au,B7] at h;simp only[AA,dC x λm z=>h m (.inl z),Ky r λm z=>h m (.inr z),gW]
end
def cZ{n:Nat}: ∀H:An,(∀p∈H,∀m∈p.2.2.nms,m<n)->Aw n H=true
 |[],_=>rfl
 |(i,(Z,e))::r,h=>by
  have z:=h _ (BU ..);have ih:=cZ r λp hp=>h p (BQ _ hp)
  cases e with
  |cells T O=>simp only[Aw,ih,Et];exact Ky O (by simpa[Ac.nms] using z)
  |arrA T k rows=>
   simp only[Aw,ih,Et,CR];refine λq hq=>Ky q λm Q=>z m ?_
   simp only[Ac.nms];exact Ek.2 ⟨q,hq,Q⟩
  |_=>simp only[Aw,ih]
mutual
def dM(σ:Nat->Nat): ∀x:AV,(x.ren σ).nms=x.nms.map σ
 | .any=>rfl
 | .im _=>rfl
 | .agg z=>by simp only[AV.ren,AV.nms];exact Kz σ z
 | .tup z=>by simp only[AV.ren,AV.nms];exact Kz σ z
 | .ptr o _=>rfl
 | .eptr o _ _=>rfl
 | .own o=>rfl
 | .mp o=>rfl
 | .ch o=>rfl
 | .it o=>rfl
 | .osl o _ _=>rfl
 | .clo _ a c=>by simp only[AV.ren,AV.nms,Kz σ a,Kz σ c,DX]
def Kz(σ:Nat->Nat): ∀xs:List AV,Au (AI σ xs)=(Au xs).map σ
 |[]=>rfl
 |x::r=>by simp only[AI,Au,dM σ x,Kz σ r,DX]
end
def Qafh(σ:Nat->Nat)(e:Ac): ∀m∈(e.ren σ).nms,∃j∈e.nms,m=σ j:=by
 intro m z;cases e with
 |cells T Z=>
  simp only[Ac.ren,Ac.nms,Kz,Bl] at z⊢;obtain⟨j,O,rfl⟩:=z;exact⟨j,O,rfl⟩
 |arrA T k rows=>
  simp only[Ac.ren,Ac.nms] at z⊢;obtain⟨r,Q,z⟩:=Ek.1 z;obtain⟨q,hq,rfl⟩:=Bl.1 Q;rw[Kz,Bl] at z;obtain⟨j,O,rfl⟩:=z;exact⟨j,Ek.2 ⟨q,hq,O⟩,rfl⟩
 |_=>simp[Ac.ren,Ac.nms] at z
def pJ{σ:Nat->Nat}{N:Nat}(H:An)(h: ∀p∈H,∀m∈p.2.2.nms,σ m<N):Aw N (AQ σ H)=true:=by
 refine cZ _ ?_;induction H with
 |nil=>intro p hp;cases hp
 |cons x r ih=>
  obtain⟨i,Q,e⟩:=x;intro p hp m z;rcases Br.1 hp with rfl|hp
  .obtain⟨j,O,rfl⟩:=Qafh σ e m z;exact h _ (BU ..) j O
  .exact ih (λp hp=>h p (BQ _ hp)) p hp m z
def AD.tau{A:Type}{ca:A->List AV}{H0:A->An}{k:Nat}{pre:A->Prop}{klB:Nat->Bool}{r0:A->AV}{H1:A->An}{args:List AV}{tm:List (Nat×AV)}{h:An}{nx:Nat}{dst:Option Nat}{go:Az->Prop}(a:A)(τ:Nat->Nat)(ac:pre a)(ai: ∀j,Aj (H0 a) j=true->klB j=true)
 (hd: ∀j,Aj (H0 a) j=true->j<k/\τ j<nx)(aa: ∀i j,Aj (H0 a) i=true->Aj (H0 a) j=true->τ i=τ j->i=j)
 (hcl: ∀p∈H1 a,Aj (H0 a) p.1=true/\ ∀m∈p.2.2.nms,Aj (H0 a) m=true)
 (hx:args=AI (Bw τ k nx) (ca a)/\Db (hget h) (Bw τ k nx) (H0 a))
 (hb: ∀m∈(r0 a).nms,Aj (H0 a) m=true)
 (ag: ∀HH:An,(∀j e,hget (H1 a) j=some e->hget HH (τ j)=some (e.1,e.2.ren (Bw τ k nx)))->(∀m,(∀j,Aj (H0 a) j=true->τ j≠m)->hget HH m=hget h m)->go ((⟨tm,HH,nx⟩:Az).put dst ((r0 a).ren (Bw τ k nx)))):
 AD ca H0 k pre klB r0 H1 0 args (hget h) nx (D6 go ⟨tm,h,nx⟩ dst):=by
 have hσ: ∀j,Aj (H0 a) j=true->Bw τ k nx j=τ j:=λj z=>Ai (hd j z).1
 have ah: ∀i j,Aj (H0 a) i=true->Aj (H0 a) j=true->Bw τ k nx i=Bw τ k nx j->i=j:=λi j hi z h=>aa i j hi z (by rwa [hσ i hi,hσ j z] at h)
 have O: ∀m,m∈(F6 (H0 a)).map τ↔ ∃j,Aj (H0 a) j=true/\τ j=m:=λm=>by simp only[Bl,Pu]
 have Z: ∀p∈H1 a,Aj (H0 a) p.1=true:=λp hp=>(hcl p hp).1
 refine⟨a,τ,(F6 (H0 a)).map τ,(F6 (H0 a)).map τ,ac,hx.1,hx.2,⟨aa,λj z=>(hd j z).2,λj z=>(O _).2 ⟨j,z,rfl⟩,λm hm=> ?_,λj z _=>(O _).2 ⟨j,z,rfl⟩⟩,?_⟩
 .obtain⟨j,z,rfl⟩:=(O m).1 hm;exact⟨j,z,ai j z,rfl⟩
 refine⟨?_,?_⟩
 .have ad:((r0 a).ren (Bw τ k nx)).bel nx=true:=by
   refine dC _ λm hm=> ?_
   rw[dM,Bl] at hm;obtain⟨j,z,rfl⟩:=hm;rw[hσ j (hb j z)];exact (hd j (hb j z)).2
  have af:Aw nx (AQ (Bw τ k nx) (H1 a))=true:=pJ _ λp hp m hm=>by
   have:=(hcl p hp).2 m hm
   rw[hσ m this];exact (hd m this).2
  rw[B5.ok_nr,Gc,ad,af,EL,EL]
  have: ∀H:An,(∀p∈H,Aj (H0 a) p.1=true)->HL ((F6 (H0 a)).map τ) nx 0 (AQ (Bw τ k nx) H)=true:=by
   intro H;induction H with
   |nil=>intro _;rfl
   |cons e r ih=>
    obtain⟨i,mu,e⟩:=e;intro hp;have Q:=hp _ (BU ..);simp only at Q;simp only[AQ,HL,K1,AY,HN,FA,Ei];refine⟨.inr ⟨?_,?_⟩,ih λp h=>hp p (BQ _ h)⟩
    .rw[Jr,hσ i Q];exact (O _).2 ⟨i,Q,rfl⟩
    .rw[hσ i Q];exact (hd i Q).2
  exact this _ Z
 rw[Az.app_nr,Gc];refine ag _ (λj e he=> ?_) (λm hm=> ?_)
 .have z:Aj (H0 a) j=true:=by
   have: ∀H:An,hget H j=some e-> ∃p∈H,p.1=j:=by
    intro H;induction H with
    |nil=>intro h;cases h
    |cons x r ih=>
     obtain⟨i,x⟩:=x;intro h;by_cases ab:i=j
     .exact⟨_,BU ..,ab⟩
     .have hb:(i==j)=false:=by simpa using ab
      simp only[hget,hb,Bk] at h;obtain⟨p,Q,h2⟩:=ih h;exact⟨p,BQ _ Q,h2⟩
   obtain⟨p,Q,rfl⟩:=this _ he;exact Z p Q
  rw[Jm,<-hσ j z,Qv5 (D:=λj=>Aj (H0 a) j=true) ah (H1 a) Z j z,he];rfl
 .rw[Jm];cases hq:hget (AQ (Bw τ k nx) (H1 a)) m with
  |some e=>
   obtain⟨j,e0,Q,h2,_⟩:=uS hq;have z:=Z _ Q;rw[hσ j z] at h2;exact absurd h2 (hm j z)
  |none=>
   rw[Xj,Af]
   .rfl
   .rw[Jr];intro h;obtain⟨j,z,h2⟩:=(O m).1 h;exact hm j z h2
def WI{go:Az->Prop}{tm:List (Nat×AV)}{h:An}{nx:Nat}{dst:Option Nat}{σ:Nat->Nat}(hσ: ∀j,σ j=nx+j){r0:AV}{H1:An}{cnt:Nat}{u kl:List Nat}(ab:kl=[])
 (hcl: ∀p∈H1,p.1<cnt/\ ∀m∈p.2.2.nms,m<cnt)(hb: ∀m∈r0.nms,m<cnt)
 (aa: ∀O:An,(∀j e,hget H1 j=some e->hget O (nx+j)=some (e.1,e.2.ren σ))->(∀m,m<nx->hget O m=hget h m)->go ((⟨tm,O,nx+cnt⟩:Az).put dst (r0.ren σ))):
 D6 go ⟨tm,h,nx⟩ dst (r0.ren σ) {use:=u,kill:=kl,new:=AQ σ H1,cnt:=cnt}:=by
 subst ab;refine⟨?_,?_⟩
 .have Q:(r0.ren σ).bel (nx+cnt)=true:=by
   refine dC _ λm z=> ?_
   rw[dM,Bl] at z;obtain⟨j,hj,rfl⟩:=z
   have:=hb j hj
   rw[hσ];omega
  have Z:Aw (nx+cnt) (AQ σ H1)=true:=pJ _ λp hp m z=>by
   have:=(hcl p hp).2 m z
   rw[hσ];omega
  rw[B5.ok_nr,Q,Z,EL,EL];refine WB _ _ _ _ λp hp=> ?_
  have: ∀H:An,(∀p∈H,p.1<cnt)-> ∀p∈AQ σ H,nx<=p.1/\p.1<nx+cnt:=by
   intro H;induction H with
   |nil=>intro _ p hp;cases hp
   |cons x r ih=>
    obtain⟨i,mu,e⟩:=x;intro hx p hp;have h1:=hx _ (BU ..);simp only at h1;simp only[AQ,Br] at hp;rcases hp with rfl|hp
    .simp only;rw[hσ];omega
    .exact ih (λp h=>hx p (BQ _ h)) p hp
  exact this _ (λp hp=>(hcl p hp).1) p hp
 rw[Az.app_nr,Bp];refine aa _ (λj e he=> ?_) (λm z=> ?_)
 .rw[Jm,<-hσ j,pN (λi j h=>by rw[hσ,hσ] at h;omega),he];rfl
 .rw[Jm];cases hq:hget (AQ σ H1) m with
  |some e=>
   obtain⟨j,e0,_,h2,_⟩:=uS hq;rw[hσ] at h2;omega
  |none=>rfl
def AD.nw{A:Type}{ca:A->List AV}{H0:A->An}{pre:A->Prop}{klB:Nat->Bool}{r0:A->AV}{H1:A->An}{cnt:Nat}{args:List AV}{tm:List (Nat×AV)}{h:An}{nx:Nat}{dst:Option Nat}{Z:Az->Prop}(a:A)(z:pre a)(h0:H0 a=[])
 (hx:args=AI (λj=>nx+j) (ca a))(hcl: ∀p∈H1 a,p.1<cnt/\ ∀m∈p.2.2.nms,m<cnt)(hb: ∀m∈(r0 a).nms,m<cnt)
 (Q: ∀O:An,(∀j e,hget (H1 a) j=some e->hget O (nx+j)=some (e.1,e.2.ren λj=>nx+j))->(∀m,m<nx->hget O m=hget h m)->Z ((⟨tm,O,nx+cnt⟩:Az).put dst ((r0 a).ren λj=>nx+j))):
 AD ca H0 0 pre klB r0 H1 cnt args (hget h) nx (D6 Z ⟨tm,h,nx⟩ dst):=by
 have e:Bw (I9 []) 0 nx=λj=>nx+j:=funext λj=>by simp[Bw]
 refine AD.os a [] z (λj=>by rw[h0];simp[Aj,hget]) rfl rfl ⟨by rw[e];exact hx,by rw[h0];trivial⟩ ?_;rw[e];exact WI (λ_=>rfl) rfl hcl hb Q
def Fy.nw{A:Type}{ar:List PK->Option A}{pre:A->Prop}{r0:A->AV}{H1:A->An}{cnt:Nat}{args:List AV}{tm:List (Nat×AV)}{h:An}{nx:Nat}{dst:Option Nat}{go:Az->Prop}(ps:List PK)(Z:Ce (hget h) args=some ps)(a:A)(ha:ar ps=some a)(z:pre a)
 (hcl: ∀p∈H1 a,p.1<cnt/\ ∀m∈p.2.2.nms,m<cnt)(hb: ∀m∈(r0 a).nms,m<cnt)
 (Q: ∀O:An,(∀j e,hget (H1 a) j=some e->hget O (nx+j)=some (e.1,e.2.ren λj=>nx+j))->(∀m,m<nx->hget O m=hget h m)->go ((⟨tm,O,nx+cnt⟩:Az).put dst ((r0 a).ren λj=>nx+j))):
 Fy ar pre r0 H1 cnt args (hget h) nx (D6 go ⟨tm,h,nx⟩ dst):=by
 have e:Bw (λj=>j) 0 nx=λj=>nx+j:=funext λj=>by simp[Bw]
 unfold Fy;rw[Z];simp only[K4,ha,DZ];rw[e];exact⟨z,WI (λ_=>rfl) rfl hcl hb Q⟩
def vF.call{A:Type}{ar:List PK->Option A}{pre:A->Prop}{re:A->D}{args:List AV}{tm:List (Nat×AV)}{h:An}{nx:Nat}{dst:Option Nat}{Z:Az->Prop}(ps:List PK)(Q:Ce (hget h) args=some ps)(a:A)(ha:ar ps=some a)(z:pre a)
 (O:Z ((⟨tm,h,nx⟩:Az).put dst (.im (re a)))):R1 ar pre re args (hget h) nx (D6 Z ⟨tm,h,nx⟩ dst):=by
 unfold R1;rw[Q];simp only[VP,ha,DZ];refine⟨z,?_,?_⟩
 .rw[B5.ok_nr];simp[AV.bel,Aw,HL]
 .rw[Az.app_nr,Bp,Gc];exact O
def HA(G:List Ad)(rows:List (List AV))(n:Nat)(f:Nat->Am):An:=(0,(true,.arr 128 2 (G.map Ad.c)))::(1,(true,.arrA 126 2 rows))::A8 2 n f
def IY(G:List Ad)(rows:List (List AV))(n:Nat)(f:Nat->Am)(j:Nat):Aj (HA G rows n f) j=true↔j<2+n:=by
 simp only[Aj,HA,hget,fT];by_cases h0:j=0
 .subst h0;simp;omega
 by_cases z:j=1
 .subst z;simp;omega
 rw[Ar _ _ (λh=>h0 h.symm),Ar _ _ (λh=>z h.symm)];simp only[Bk];split
 .rename_i h;simp;omega
 .rename_i h;simp;omega
def kJ{G:List Ad}{rows:List (List AV)}{n:Nat}{f:Nat->Am}{p:Nat×Am}(hp:p∈HA G rows n f):p.1<2+n:=by
 simp only[HA,Br,A8,Bl,Bc] at hp;rcases hp with rfl|rfl|⟨j,z,rfl⟩<;>simp only<;>omega
def CV(a:List Tile)(k:Int)(i:Nat):List (List AV):=(List.range (nT a)).map (Fx a k i)
def V2(a:List Tile)(k:Int)(i N:Nat)(h:2+nT a<=N):(CV a k i).all (AA N)=true:=by
 rw[CR];intro r O;obtain⟨j,z,rfl⟩:=Bl.1 O;exact dL _ _ _ _ _ (by have:=Bc.1 z;omega)
def Z9(a:List Tile)(k:Int)(i j:Nat)(σ:Nat->Nat)(h:σ (2+j)=2+j):AI σ (Fx a k i j)=Fx a k i j:=by
 simp only[Fx]
 split<;>simp[JQ,AI,AV.ren,h]
def WA(a:List Tile)(k:Int)(i:Nat)(σ:Nat->Nat)(h: ∀j,j<nT a->σ (2+j)=2+j):(CV a k i).map (AI σ)=CV a k i:=by
 rw[CV,Hu];exact Gb λj z=>Z9 _ _ _ _ _ (h j (Bc.1 z))
def NB{G:List Ad}{a:List Tile}{k:Int}{i N:Nat}{f:Nat->Am}(h:2+nT a<=N)(hf: ∀i,Aw N [(2+i,f i)]=true):Aw N (HA G (CV a k i) (nT a) f)=true:=by
 simp only[HA,Aw];rw[O5 _ _ _ hf,V2 _ _ _ _ h];rfl
def pP{G:List Ad}{a:List Tile}{k:Int}{i N:Nat}{f:Nat->Am}(h:2+nT a<=N):B6 N (HA G (CV a k i) (nT a) f)=true:=by
 simp only[HA,B6];rw[O2 _ _ _ _ (by omega)];simp;omega
def dN{G:List Ad}{a:List Tile}{k:Int}{i:Nat}{f:Nat->Am}(hf: ∀j,(f j).2.nms=[]){p:Nat×Am}(hp:p∈HA G (CV a k i) (nT a) f){m:Nat}(z:m∈p.2.2.nms):m<2+nT a:=by
 simp only[HA,Br,A8,Bl,Bc] at hp;rcases hp with rfl|rfl|⟨j,O,rfl⟩
 .simp[Ac.nms] at z
 .simp only[Ac.nms] at z;obtain⟨r,Q,z⟩:=Ek.1 z;obtain⟨j,O,rfl⟩:=Bl.1 Q;rw[dF,BS] at z
  have:=Bc.1 O
  omega
 .rw[hf] at z;cases z
def WG{H0:An}: ∀{H:An},(∀p∈H,∀m∈p.2.2.nms,Aj H0 m=true)->BT H0 H
 |[],_=>trivial
 |(_,(_,_))::r,h=>⟨h _ (BU ..),WG λp hp=>h p (BQ _ hp)⟩
def CB(a:Ap×Int):Int:=a.2+2*a.1.Glues.length
def mkTS.ca(a:Ap×Int):List AV:=[.agg [.own 0,.own 1],.im (.int .i64 a.2)]
def mkTS.H0(a:Ap×Int):An:=HA a.1.Glues (CV a.1.Tiles (CB a) 0) (nT a.1.Tiles) (E3 a.1.Tiles (CB a) 0)
def mkTS.H1(a:Ap×Int):An:=HA (Eg (gF a.2) a.1.Glues.length) (CV a.1.Tiles (CB a) (nT a.1.Tiles)) (nT a.1.Tiles) (E3 a.1.Tiles (CB a) (nT a.1.Tiles))
def mkTS.r0(a:Ap×Int):AV:= .im (.int .i64 (DF a.1.Tiles (CB a) a.1.Tiles.length))
def mkTS.pre(a:Ap×Int):Prop:=0<=a.2/\a.1.Tiles.length<=1048576/\DF a.1.Tiles (CB a) a.1.Tiles.length<=1099511627776
def mkTS.row:AF:=AD mkTS.ca mkTS.H0 2000000 mkTS.pre (λ_=>true) mkTS.r0 mkTS.H1 0
def mkTS.hbel(a:Ap×Int):AA 2000000 (mkTS.ca a)=true:=by simp[mkTS.ca,AA,AV.bel]
def mkTS.hbH(a:Ap×Int):Aw 2000000 (mkTS.H0 a)=true:=NB (by have:=CW a.1.Tiles;omega) (λi=>by simp[Aw,E3])
def mkTS.hkH(a:Ap×Int):B6 2000000 (mkTS.H0 a)=true:=pP (by have:=CW a.1.Tiles;omega)
def mkTS.hnm(a:Ap×Int):BT (mkTS.H0 a) (mkTS.H0 a):=
 WG λp hp m z=>(IY _ _ _ _ _).2 (dN (λj=>by simp[E3,Ac.nms]) hp z)
def WE(h:Nat->Option Am): ∀(H:An),IC h (λ_=>true) H
 |[]=>trivial
 |(j,e)::r=>⟨trivial,WE h r⟩
def WL{H0:An}{k cnt:Nat}{exB:Nat->Bool}{j:Nat}(h:Aj H0 j=true):Hx H0 k cnt exB j=some j:=by
 simp only[Hx,h,mT,Cg]
def Z8{h:Nat->Option Am}{kx:Nat->Option Nat}{m:Nat}{a:List Tile}{k:Int}{i j:Nat}(z:kx (2+j)=some (2+j)):Ax (Bf h kx (m+1)) (Fx a k i j)=some (Fx a k i j):=by
 simp only[Fx]
 split<;>simp only[JQ,Ax,Bf,z,kp]
def pO{h:Nat->Option Am}{kx:Nat->Option Nat}{m:Nat}{a:List Tile}{k:Int}{i:Nat}(O: ∀j,j<nT a->kx (2+j)=some (2+j)):Ax (Ax (Bf h kx (m+1))) (CV a k i)=some (CV a k i):=
 R8 _ λj z=>Z8 (O j (Bc.1 z))
def mkLC.hcl(a:List Tile×Int): ∀p∈mkLC.H1 a,Aj (mkLC.H0 a) p.1=true/\ ∀m∈p.2.2.nms,Aj (mkLC.H0 a) m=true:=by
 intro p hp;simp only[mkLC.H0,IX];simp only[mkLC.H1,D7,Br,A8,Bl,Bc] at hp;rcases hp with rfl|⟨j,O,rfl⟩
 .refine⟨.inl rfl,λm z=> ?_⟩;simp only[Ac.nms] at z;obtain⟨r,Q,z⟩:=Ek.1 z;obtain⟨j,O,rfl⟩:=Bl.1 Q;rw[dF,BS] at z
  have:=Bc.1 O
  exact .inr ⟨by omega,by omega⟩
 .exact⟨.inr ⟨by simp only;omega,by simp only;omega⟩,λm z=>by simp[E3,Ac.nms] at z⟩
def mkTS.hcl(a:Ap×Int): ∀p∈mkTS.H1 a,Aj (mkTS.H0 a) p.1=true/\ ∀m∈p.2.2.nms,Aj (mkTS.H0 a) m=true:=
 λp hp=>⟨(IY _ _ _ _ _).2 (kJ hp),λm z=>(IY _ _ _ _ _).2 (dN (λj=>by simp[E3,Ac.nms]) hp z)⟩
def mkTS.ok:AL 24 mkTS.row:=by
 refine ow (tC mkGC.ok (tC mkLC.ok tN)) Tryz.func24 (exB:=λ_=>false) (R:=λa r=>r=mkTS.r0 a) (λ_=>rfl)
  (λa=>⟨mkTS.hbel a,mkTS.hbH a,mkTS.hkH a,mkTS.hnm a⟩) (λa p hp=> ?_) (λa r h=>by subst h;exact CN.refl _) ?_
 rotate_left
 intro a Z;simp only[Tryz.f24,Option.getD,mkTS.ca];simp only[ZZ,simprocAttr,Ab,Aq,mkTS.ca];obtain⟨S,k⟩:=a;obtain⟨h1,h2,h3⟩:=Z;simp only at h1 h2 h3;have hk:=NH S.Tiles (CB (S,k)) (by simp only[CB];omega) 0 S.Tiles.length (by omega);have Q:CB (S,k)<=1099511627776:=by simp only[DF] at hk;omega
 simp only[CB] at Q;have hn:=CW S.Tiles;simp only[Bp,mkTS.H0,HA];refine AD.os (S.Glues,k) [0] ⟨h1,Q⟩ (λj=> ?_) rfl rfl ?_ ?_
 .simp only[Aj,mkGC.H0,hget];by_cases z:j=0
  .subst z;simp
  .have:(0==j)=false:=by simpa using λh=>z h.symm
   rw[this];simp;omega
 .simp only[ZZ,simprocAttr,Ab,Aq,mkTS.ca,mkGC.ca,mkGC.H0,Db,EK]
  try exact⟨rfl,rfl⟩
 simp only[ZZ,simprocAttr,Ab,Aq,mkTS.ca,mkGC.H1,sub,Bp,EK,Gv];rw[HU 2 (nT S.Tiles) (E3 S.Tiles (CB (S,k)) 0) [0] (by simp)];have hσ: ∀j,j<nT S.Tiles->Bw (λj=>if j=0 then 1 else j) 2000000 2000001 (2+j)=2+j:=λj z=>by
  simp only[Bw];rw[Ai (by omega),Af (by omega)]
 have hσ0:Bw (λj=>if j=0 then 1 else j) 2000000 2000001 0=1:=rfl;refine AD.tau (S.Tiles,CB (S,k)) (λj=>if j=0 then 1 else j) ⟨h2,by simp only[CB];omega,h3⟩ (λ_ _=>rfl) (λj z=> ?_) (λi j O z h=> ?_) (mkLC.hcl _) ⟨?_,?_⟩ (by simp[mkLC.r0,AV.nms]) (λHH hH1 aa=> ?_)
 .have z:=(IX _ _ _ _).1 z;simp only at z⊢
  split<;>omega
 .have O:=(IX _ _ _ _).1 O;have z:=(IX _ _ _ _).1 z;simp only at O z h;split at h<;>split at h<;>omega
 .simp only[mkLC.ca,AI,AV.ren,hσ0,CB]
 .simp only[mkLC.H0,D7,Db,hσ0,Ac.ren];refine⟨?_,IZ λi O=> ?_⟩
  .simp only[hget,Ar _ _ (show 0≠1 by omega),Ar _ _ (show 2000000≠1 by omega),Bk,vD,Cg];rw[<-CV,WA _ _ _ _ hσ]
  .rw[hσ i O];simp only[hget,Ar _ _ (show 0≠2+i by omega),Ar _ _ (show 2000000≠2+i by omega),Ar _ _ (show 1≠2+i by omega),Bk];rw[Dp _ _ _ _ O];rfl
 have g0:hget HH 0=some (true,.arr 128 2 ((Eg (gF k) S.Glues.length).map Ad.c)):=by
  rw[aa 0 (λj z=>by
   have z:=(IX _ _ _ _).1 z;simp only at z⊢
   split<;>omega)]
  rfl
 have g1:hget HH 1=some (true,.arrA 126 2 (CV S.Tiles (CB (S,k)) (nT S.Tiles))):=by
  have g:=hH1 0 _ rfl;rw[Ai rfl] at g;rw[g];simp only[Ac.ren];rw[<-CV,WA _ _ _ _ hσ]
 have g2: ∀j,j<nT S.Tiles->hget HH (2+j)=some (E3 S.Tiles (CB (S,k)) (nT S.Tiles) j):=λj z=>by
  have:=hH1 (2+j) _ (dH _ _ _ j z)
  simp only[Af (show 2+j≠0 by omega)] at this;rw[this];rfl
 simp only[mkLC.r0,AV.ren];simp only[ZZ,simprocAttr,Ab,Aq,mkTS.ca,sub,mkTS.r0,CB,Bp,mkTS.H1,HA];have ab: ∀j,j<nT S.Tiles->Aj ((0,(true,Ac.arr 128 2 (List.map Ad.c S.Glues)))::(1,(true,Ac.arrA 126 2 (CV S.Tiles (k+2*S.Glues.length) 0)))::A8 2 (nT S.Tiles) (E3 S.Tiles (k+2*S.Glues.length) 0)) (2+j)=true:=λj z=>(IY _ _ _ _ _).2 (by omega)
 refine⟨WE _ _,?_,?_,?_⟩
 .rw[g0];exact⟨rfl,rfl⟩
 .rw[g1];refine⟨rfl,?_⟩;simp only[BZ];rw[pO (λj z=>WL (ab j z))];rfl
 .exact G1 _ _ _ _ _ (λj z=>g2 j z) (λj z=>rfl)
 obtain⟨q1,_⟩:=mkTS.hcl _ p hp
 have:=(IY _ _ _ _ _).1 q1
 have:=CW a.1.Tiles
 exact .inl ⟨by omega,rfl,q1⟩
def Xy{n:Nat}{l:Int}(h:0<=C8 n l):(n:Int)<=l/\C8 n l<=l/\0<=l:=by
 simp only[C8] at h⊢;split at h
 .omega
 .rename_i c;rw[Af c];omega
def Qu5: ∀(a:List Tile) (l:Int),0<=l->l<=1048576->0<=GG FK a l-> ∀x∈a,x.Sides.length<=1073741824
 |[],_,_,_,_=>by intro x z;cases z
 |y::r,l,h0,Z,h=>by
  simp only[GG] at h;split at h
  .omega
  .rename_i c;have O:0<=FK y l:=by omega
   have Q:0<=C8 y.Name.size l:=by
    simp only[FK] at O;split at O
    .omega
    .omega
   have e:FK y l=C8 y.Sides.length (C8 y.Name.size l):=by
    simp only[FK];rw[Af (by omega)]
   rw[e] at O h;obtain⟨a1,a2,a3⟩:=Xy O;obtain⟨b1,b2,b3⟩:=Xy Q;intro x z;rcases Br.1 z with rfl|z
   .omega
   .exact Qu5 r _ O (by omega) h x z
def Vx{s:Ap}{l:Int}(Z: -1<=l)(aa:l<=1048576)(h:0<=QD s l):Vh s:=by
 have hg:=Qo1 s.Glues l Z;simp only[QD] at h;split at h
 .omega
 rename_i c;have z:0<=HG s.Glues l:=by omega
 have Q:0<=C8 s.Glues.length l:=by
  simp only[HG] at z;split at z
  .omega
  .omega
 have O:0<=C8 s.Tiles.length (HG s.Glues l):=by
  simp only[LH] at h;split at h
  .omega
  .omega
 have e:LH s.Tiles (HG s.Glues l)=GG FK s.Tiles (C8 s.Tiles.length (HG s.Glues l)):=by
  simp only[LH];rw[Af (by omega)]
 rw[e] at h;obtain⟨a1,a2,a3⟩:=Xy Q;obtain⟨b1,b2,b3⟩:=Xy O;exact⟨by omega,by omega,Qu5 s.Tiles _ O (by omega) h⟩
def Vy{s:A9}{l:Int}(O: -1<=l)(z:l<=1048576)(h:0<=Xx s l):cN s:=by
 have Q:=Qxk s.Set l O;simp only[Xx] at h;split at h
 .omega
 rename_i c;obtain⟨a1,a2,a3⟩:=Xy h;exact⟨Vx O z (by omega),by omega⟩
def syK(a:A9×Int):Int:=DF a.1.Set.Tiles (CB (a.1.Set,a.2)) a.1.Set.Tiles.length
def mkSy.ca(a:A9×Int):List AV:=[.agg [.own 0,.own 1,.own 2000000,.im (.int .i64 a.1.Temperature)],.im (.int .i64 a.2)]
def mkSy.H0(a:A9×Int):An:=(2000000,(true,.arr 119 3 (a.1.Seed.Tiles.map Al.c)))::mkTS.H0 (a.1.Set,a.2)
def mkSy.H1(a:A9×Int):An:=(2000000,(true,.arr 119 3 ((Eg (pF (syK a)) a.1.Seed.Tiles.length).map Al.c)))::mkTS.H1 (a.1.Set,a.2)
def mkSy.r0(a:A9×Int):AV:= .im (.int .i64 (syK a+3*a.1.Seed.Tiles.length))
def mkSy.pre(a:A9×Int):Prop:=0<=a.2/\a.1.Set.Tiles.length<=1048576/\syK a+3*a.1.Seed.Tiles.length<=1099511627776
def mkSy.row:AF:=AD mkSy.ca mkSy.H0 2000001 mkSy.pre (λ_=>true) mkSy.r0 mkSy.H1 0
def mkSy.dom0(a:A9×Int)(j:Nat):Aj (mkSy.H0 a) j=true↔j=2000000\/j<2+nT a.1.Set.Tiles:=by
 by_cases h:j=2000000
 .subst h;simp[Aj,mkSy.H0,hget]
 .have z:(2000000==j)=false:=by simpa using λq=>h q.symm
  have:Aj (mkSy.H0 a) j=Aj (mkTS.H0 (a.1.Set,a.2)) j:=by simp only[Aj,mkSy.H0,hget,z,Bk]
  rw[this];simp only[mkTS.H0,IY,h,false_or]
def mkSy.hcl(a:A9×Int): ∀p∈mkSy.H1 a,Aj (mkSy.H0 a) p.1=true/\ ∀m∈p.2.2.nms,Aj (mkSy.H0 a) m=true:=by
 intro p hp;simp only[mkSy.dom0];rcases Br.1 hp with rfl|hp
 .exact⟨.inl rfl,λm z=>by simp[Ac.nms] at z⟩
 .have:=mkTS.hcl _ p hp
  simp only[mkTS.H0,IY] at this;exact⟨.inr this.1,λm z=> .inr (this.2 m z)⟩
def mkSy.hbel(a:A9×Int):AA 2000001 (mkSy.ca a)=true:=by simp[mkSy.ca,AA,AV.bel]
def mkSy.hbH(a:A9×Int):Aw 2000001 (mkSy.H0 a)=true:=by
 simp only[mkSy.H0,Aw];exact NB (by have:=CW a.1.Set.Tiles;simp only;omega) (λi=>by simp[Aw,E3])
def mkSy.hkH(a:A9×Int):B6 2000001 (mkSy.H0 a)=true:=by
 simp only[mkSy.H0,B6]
 have:=pP (G:=a.1.Set.Glues) (a:=a.1.Set.Tiles) (k:=CB (a.1.Set,a.2)) (i:=0) (N:=2000001) (f:=E3 a.1.Set.Tiles (CB (a.1.Set,a.2)) 0) (by have:=CW a.1.Set.Tiles;omega)
 simp only[mkTS.H0,this,Et];simp
def mkSy.hnm(a:A9×Int):BT (mkSy.H0 a) (mkSy.H0 a):=by
 refine WG λp hp m z=>(mkSy.dom0 _ _).2 ?_
 rcases Br.1 hp with rfl|hp
 .simp[Ac.nms] at z
 .exact .inr (dN (λj=>by simp[E3,Ac.nms]) hp z)
def dQ{G:List Ad}{rows:List (List AV)}{n:Nat}{f:Nat->Am}(i:Nat)(h:i<n):hget (HA G rows n f) (2+i)=some (f i):=by
 simp only[HA,hget,Ar _ _ (show 0≠2+i by omega),Ar _ _ (show 1≠2+i by omega),Bk];exact Dp _ _ _ _ h
def Ul{h:Nat->Option Am}{kx:Nat->Option Nat}{m:Nat}{G:List Ad}{a:List Tile}{k:Int}{i:Nat}{f:Nat->Am}(h0:h 0=some (true,.arr 128 2 (G.map Ad.c)))(z:h 1=some (true,.arrA 126 2 (CV a k i)))(O: ∀j,j<nT a->h (2+j)=some (f j))
 (hf: ∀j,BZ (Bf h kx (m+1)) (f j).2=some (f j).2)(Q: ∀j,j<nT a->kx (2+j)=some (2+j)):Er h (Bf h kx (m+1)) (HA G (CV a k i) (nT a) f):=by
 simp only[HA,Er];refine⟨?_,?_,G1 _ _ _ _ _ O (λj _=>hf j)⟩
 .rw[h0];exact⟨rfl,rfl⟩
 .rw[z];refine⟨rfl,?_⟩;simp only[BZ];rw[pO Q];rfl
def mkSy.ok:AL 10 mkSy.row:=by
 refine ow (tC mkTS.ok (tC mkAC.ok tN)) Tryz.func10 (exB:=λ_=>false) (R:=λa r=>r=mkSy.r0 a) (λ_=>rfl)
  (λa=>⟨mkSy.hbel a,mkSy.hbH a,mkSy.hkH a,mkSy.hnm a⟩) (λa p hp=> ?_) (λa r h=>by subst h;exact CN.refl _) ?_
 rotate_left
 intro a aa;simp only[Tryz.f10,Option.getD,mkSy.ca];simp only[ZZ,simprocAttr,Ab,Aq,mkSy.ca];obtain⟨S,k⟩:=a;obtain⟨h1,h2,h3⟩:=aa;simp only at h1 h2 h3;simp only[Bp,mkSy.H0];have hn:=CW S.Set.Tiles;have hk:=NH S.Set.Tiles (CB (S.Set,k)) (by simp only[CB];omega) 0 S.Set.Tiles.length (by omega);have ab:0<=syK (S,k):=by simp only[syK];omega
 have hσ: ∀j,j<2+nT S.Set.Tiles->Bw (λj=>j) 2000000 2000002 j=j:=λj z=>Ai (by omega)
 have Q:=λj=>(IY S.Set.Glues (CV S.Set.Tiles (CB (S.Set,k)) 0) (nT S.Set.Tiles) (E3 S.Set.Tiles (CB (S.Set,k)) 0) j)
 refine AD.tau (S.Set,k) (λj=>j) ⟨h1,h2,by simp only[syK] at h3;simp only;omega⟩ (λ_ _=>rfl) (λj z=> ?_) (λi j _ _ h=>h) (mkTS.hcl _) ⟨?_,?_⟩ (by simp[mkTS.r0,AV.nms]) (λO hH1 Z=> ?_)
 .have z:=(Q j).1 z;omega
 .simp only[mkTS.ca,AI,AV.ren,hσ 0 (by omega),hσ 1 (by omega)]
 .simp only[mkTS.H0,HA,Db,hσ 0 (by omega),hσ 1 (by omega),Ac.ren];rw[WA _ _ _ _ (λj z=>hσ _ (by omega))];refine⟨rfl,rfl,IZ λi hi=> ?_⟩;rw[hσ _ (by omega)];simp only[hget,Ar _ _ (show 2000001≠2+i by omega),Ar _ _ (show 2000000≠2+i by omega),Ar _ _ (show 0≠2+i by omega),Ar _ _ (show 1≠2+i by omega),Bk];rw[Dp _ _ _ _ hi];rfl
 have hu: ∀m,m=2000000\/m=2000001-> ∀j,Aj (mkTS.H0 (S.Set,k)) j=true->j≠m:=λm hm j z=>by
  have z:=(Q j).1 z;omega
 have gs:hget O 2000000=some (true,.arr 119 3 (S.Seed.Tiles.map Al.c)):=by rw[Z _ (hu _ (.inl rfl))];rfl
 have gp:hget O 2000001=some (true,.cells 40 [.own 0,.own 1,.own 2000000,.im (.int .i64 S.Temperature)]):=by rw[Z _ (hu _ (.inr rfl))];rfl
 have g0:hget O 0=some (true,.arr 128 2 ((Eg (gF k) S.Set.Glues.length).map Ad.c)):=hH1 0 _ rfl;have g1:hget O 1=some (true,.arrA 126 2 (CV S.Set.Tiles (CB (S.Set,k)) (nT S.Set.Tiles))):=by
  rw[hH1 1 _ rfl];simp only[Ac.ren];rw[WA _ _ _ _ (λj z=>hσ _ (by omega))]
 have g2: ∀j,j<nT S.Set.Tiles->hget O (2+j)=some (E3 S.Set.Tiles (CB (S.Set,k)) (nT S.Set.Tiles) j):=λj z=>by
  have e:hget (mkTS.H1 (S.Set,k)) (2+j)=some (E3 S.Set.Tiles (CB (S.Set,k)) (nT S.Set.Tiles) j):=dQ j z;rw[hH1 (2+j) _ e];rfl
 have eK:DF S.Set.Tiles (CB (S.Set,k)) S.Set.Tiles.length=syK (S,k):=rfl;simp only[mkTS.r0,AV.ren,eK];simp only[ZZ,simprocAttr,Ab,Aq,mkSy.ca,sub,Bp,gp]
 skip
 refine AD.os (S.Seed,syK (S,k)) [2000000] ⟨ab,h3⟩ (λj=> ?_) rfl rfl ?_ ?_
 .simp only[Aj,mkAC.H0,hget];by_cases z:j=0
  .subst z;simp
  .have:(0==j)=false:=by simpa using λh=>z h.symm
   rw[this];simp;omega
 .simp only[ZZ,simprocAttr,Ab,Aq,mkSy.ca,mkAC.ca,mkAC.H0,Db,EK,gs]
  try exact⟨rfl,rfl⟩
 simp only[ZZ,simprocAttr,Ab,Aq,mkSy.ca,mkAC.H1,sub,Bp,EK,Gv,mkSy.r0,mkSy.H1];obtain⟨HX,hHX⟩: ∃HX,HX=hget ((2000000,(true,Ac.arr 119 3 (List.map Al.c (Eg (pF (syK (S,k))) S.Seed.Tiles.length))))::AW O [2000000]):=⟨_,rfl⟩;rw[<-hHX];have gx: ∀m,m≠2000000->HX m=hget O m:=λm hm=>by
  rw[hHX];simp only[hget,Ar _ _ (λh=>hm h.symm:2000000≠m),Bk];exact JW _ _ _ (λh=>hm h.symm)
 refine⟨WE _ _,Ul (by rw[gx 0 (by omega)];exact g0) (by rw[gx 1 (by omega)];exact g1) (λj z=>by simp only at z;rw[gx _ (by omega)];exact g2 j z) (λj=>rfl) (λj z=>WL ?_)⟩;simp only at z
 have:=(mkSy.dom0 (S,k) (2+j)).2 (.inr (by simp only;omega))
 simpa only[mkSy.H0] using this
 obtain⟨q1,_⟩:=mkSy.hcl _ p hp
 have:=(mkSy.dom0 _ _).1 q1
 have:=CW a.1.Set.Tiles
 exact .inl ⟨by omega,rfl,q1⟩
def DG(a:List Tile):Nat:=(a.map λx=>x.Sides.length).sum
def dK(y:Tile)(r:List Tile)(k:Int): ∀i,DF (y::r) k (i+1)=DF r (k+1+y.Sides.length) i
 |0=>rfl
 |i+1=>by
  rw[DF,dK y r k i,DF];rfl
def Ro: ∀(a:List Tile) (k:Int),DF a k a.length=k+a.length+DG a
 |[],k=>by simp[DF,DG]
 |y::r,k=>by
  rw[Dx,dK,Ro r];simp only[DG,Be,KU];omega
def kL{n:Nat}{l:Int}(h:0<=C8 n l):C8 n l=l - n:=by
 simp only[C8] at h⊢;split at h
 .omega
 .rename_i c;rw[Af c]
def pB: ∀(a:List Tile) (l:Int),0<=l->0<=GG FK a l->(DG a:Int)+GG FK a l<=l
 |[],l,h0,_=>by simp[DG,GG]
 |y::r,l,h0,h=>by
  simp only[GG] at h⊢;by_cases c:FK y l<0
  .rw[Ai c] at h;omega
  .rw[Af c] at h⊢;have z:0<=FK y l:=by omega
   have O:0<=C8 y.Name.size l:=by
    simp only[FK] at z;split at z<;>omega
   have e:FK y l=C8 y.Sides.length (C8 y.Name.size l):=by
    simp only[FK];rw[Af (by omega)]
   rw[e] at z h⊢;have q1:=Xy O;have Q:=kL z;have ih:=pB r _ z h;simp only[DG,Be,KU] at ih⊢;omega
structure ER(s:A9):Prop where
 g:s.Set.Glues.length<=1048576
 t:s.Set.Tiles.length<=1048576
 d:DG s.Set.Tiles<=1048576
 p:s.Seed.Tiles.length<=1048576
def Zz{s:A9}{l:Int}(hl: -1<=l)(aa:l<=1048576)(h:0<=Xx s l):ER s:=by
 have hb:=Qxk s.Set l hl;simp only[Xx] at h;split at h
 .omega
 rename_i c;obtain⟨a1,_,_⟩:=Xy h;have z:0<=QD s.Set l:=by omega
 have hg:=Qo1 s.Set.Glues l hl;simp only[QD] at z;split at z
 .omega
 have O:0<=HG s.Set.Glues l:=by omega
 have Z:0<=C8 s.Set.Glues.length l:=by
  simp only[HG] at O;split at O<;>omega
 have Q:0<=C8 s.Set.Tiles.length (HG s.Set.Glues l):=by
  simp only[LH] at z;split at z<;>omega
 have e:LH s.Set.Tiles (HG s.Set.Glues l)=GG FK s.Set.Tiles (C8 s.Set.Tiles.length (HG s.Set.Glues l)):=by
  simp only[LH];rw[Af (by omega)]
 rw[e] at z;obtain⟨b1,_,_⟩:=Xy Z;obtain⟨d1,d2,_⟩:=Xy Q
 have:=pB s.Set.Tiles _ Q z
 exact⟨by omega,by omega,by omega,by omega⟩
def kA{a:List Tile}{x:Tile}(h:x∈a):x.Sides.length<=DG a:=by
 induction a with
 |nil=>cases h
 |cons y r ih=>
  simp only[DG,Be,KU] at ih⊢;rcases Br.1 h with rfl|h
  .omega
  .have:=ih h;omega
def ER.yx{s:A9}(h:ER s):toYX.pre s:=⟨⟨by have:=h.g;omega,⟨h.t,λx z=>by have:=kA z;have:=h.d;omega⟩⟩,by have:=h.p;omega⟩
def ER.syK{s:A9}(h:ER s){k:Int}(O:0<=k)(z:k<=1048576):0<=syK (s,k)/\Go.Ae.syK (s,k)+3*s.Seed.Tiles.length<=9437184:=by
 simp only[Go.Ae.syK,Ro,CB]
 have:=h.g;have:=h.t;have:=h.d;have:=h.p
 omega
def ER.mkp{s:A9}(h:ER s){k:Int}(O:0<=k)(z:k<=1048576):mkSy.pre (s,k):=⟨O,h.t,by have:=(h.syK O z).2;simp only;omega⟩
structure Ci(h:Nat->Option Am)(g t p f:Nat)(s:A9):Prop where
 g:h g=some (true,.arr 128 2 (s.Set.Glues.map Ad.c))
 t:h t=some (true,.arrA 126 2 (BK f s.Set.Tiles))
 p:h p=some (true,.arr 119 3 (s.Seed.Tiles.map Al.c))
 f: ∀i,i<s.Set.Tiles.length->h (f+i)=some (Bv s.Set.Tiles i)
def Rh{h:Nat->Option Am}{n f:Nat}{a:List Tile}(hf: ∀i,i<a.length->h (f+i)=some (Bv a i)):Ax (Ax (bk h (n+1))) (BK f a)=some (a.map Tile.c):=by
 have e:a.map Tile.c=(List.range a.length).map λi=>((a[i]?.map Tile.c).getD []):=by
  apply RH;intro i;rw[D3,D3];by_cases z:i<a.length
  .rw[Ga z,BA z];simp[z]
  .rw[Ir (by omega),Ir (by simp;omega)];rfl
 rw[e];refine R8 _ λi z=> ?_
 have z:=Bc.1 z;have O:a[i]? =some a[i]:=BA z;simp only[Ax,bk,hf i z,Bv,KM,O,Dh,AX,Tile.c]
def Ci.bk{h:Nat->Option Am}{g t p f n:Nat}{s:A9}(hs:Ci h g t p f s):Go.Ae.bk h (n+3) (.agg [.own g,.own t,.own p,.im (.int .i64 s.Temperature)])=some (.agg (A9.c s)):=by
 simp only[Go.Ae.bk,Ax,hs.g,hs.t,hs.p,KM,Rh hs.f,Dh,A9.c]
def Ci.pk{h:Nat->Option Am}{g t p f:Nat}{s:A9}(hs:Ci h g t p f s):DE h (.agg [.own g,.own t,.own p,.im (.int .i64 s.Temperature)])=some (.val (.agg (A9.c s))):=by
 simp only[DE,hs.bk (n:=6),DR,Dh]
def vN.call{A:Type}{ar:List PK->Option A}{pre:A->Prop}{re:A->D}{args:List AV}{tm:List (Nat×AV)}{h:An}{nx:Nat}{dst:Option Nat}{Z:Az->Prop}(ps:List PK)(Q:IT (hget h) args=some (ps,[]))(a:A)(ha:ar ps=some a)(z:pre a)
 (O:Z ((⟨tm,h,nx⟩:Az).put dst (.im (re a)))):EX ar pre re args (hget h) nx (D6 Z ⟨tm,h,nx⟩ dst):=by
 unfold EX;rw[Q];simp only[W3,ha,DZ,QO];refine⟨z,?_,?_⟩
 .rw[B5.ok_nr];simp[AV.bel,Aw,HL]
 .rw[Az.app_nr,Bp,Gc];exact O
def K3(s:A9):a1 (kR A9.d) [.val (.agg (A9.c s))]=some s:=by simp only[a1,kR,A9.d_c,Gw]
def cO(s t:A9):a2 (kR A9.d) (kR A9.d) [.val (.agg (A9.c s)),.val (.agg (A9.c t))]=some (s,t):=by simp only[a2,kR,A9.d_c,Gw]
def toYR.row:AF:=orR toSystem.row toYX.row
def toYR.ok:AL 6 toYR.row:=Ug toSystem.ok toYX.ok
def xY{s:A9}(hs:ER s): ∀p∈toYX.H1 s,p.1<2000013/\ ∀m∈p.2.2.nms,m<2000013:=by
 have z:min s.Set.Tiles.length 1048576<=1048576:=LS _ _;have ht:=hs.t;intro p hp;simp only[toYX.H1,Br,A8,Bl,Bc] at hp;rcases hp with rfl|rfl|rfl|⟨i,Z,rfl⟩
 .exact⟨by omega,by simp[Ac.nms]⟩
 .refine⟨by omega,λm z=> ?_⟩;simp only[Ac.nms] at z;obtain⟨r,Q,z⟩:=Ek.1 z;obtain⟨j,O,rfl⟩:=Bl.1 Q
  have:=Bc.1 O
  simp[Au,AV.nms] at z;omega
 .exact⟨by omega,by simp[Ac.nms]⟩
 .exact⟨by simp only;omega,by simp[Bv,Ac.nms]⟩
def Ci.mono{h h':Nat->Option Am}{g t p f:Nat}{s:A9}(hs:Ci h g t p f s)(z: ∀m,(m=g\/m=t\/m=p\/(f<=m/\m<f+s.Set.Tiles.length))->h' m=h m):Ci h' g t p f s:=
 ⟨by rw[z g (.inl rfl)];exact hs.g,by rw[z t (.inr (.inl rfl))];exact hs.t,by rw[z p (.inr (.inr (.inl rfl)))];exact hs.p,λi O=>by rw[z _ (.inr (.inr (.inr ⟨by omega,by omega⟩)))];exact hs.f i O⟩
def xX{s:A9}(hs:ER s){nx:Nat}{z:An}(h: ∀j e,hget (toYX.H1 s) j=some e->hget z (nx+j)=some (e.1,e.2.ren λj=>nx+j)):Ci (hget z) (nx+7) (nx+9) (nx+2000012) (nx+10) s:=by
 have Z:=hs.t;have Q:min s.Set.Tiles.length 1048576=s.Set.Tiles.length:=by omega
 refine⟨h 7 _ rfl,?_,h 2000012 _ rfl,λi O=> ?_⟩
 .rw[h 9 _ rfl];simp only[Ac.ren];congr 3;simp only[BK,Hu];refine Gb λi O=> ?_
  simp only[Function.comp,AI,AV.ren];rw[Fa]
 .have e:hget (toYX.H1 s) (10+i)=some (Bv s.Set.Tiles i):=by
   simp only[toYX.H1,hget,Ar _ _ (show 7≠10+i by omega),Ar _ _ (show 9≠10+i by omega),Ar _ _ (show 2000012≠10+i by omega),Bk];rw[Q];exact Dp _ _ _ _ O
  rw[Fa,h _ _ e];rfl
def G8{H:An}(e:Am)(k m:Nat)(h:k≠m):hget ((k,e)::AW H [k]) m=hget H m:=by
 simp only[hget,Ar _ _ h,Bk];exact JW _ _ _ h
def cE{h:Nat->Option Am}{x y:AV}{p q:PK}(z:DE h x=some p)(O:DE h y=some q):Ce h [x,y]=some [p,q]:=by simp only[Ce,z,O,Gz]
def pE: ∀l:List Nat,Gs l []=true
 |[]=>rfl
 |x::r=>by simp[Gs,pE r]
def K0:List Fp->Bool
 |[]=>true
 |f::r=>f.touch.isEmpty && K0 r
def dB(cl:List (List Nat))(i:Nat)(use:List Nat): ∀acc:List Fp,K0 acc=true->FT cl i use [] [] acc=true
 |[],_=>rfl
 |f::r,h=>by
  simp only[K0,AY,List.isEmpty_iff] at h;simp only[FT,bO,h.1,DJ,pE,Gs,EU,gW,Cg,dB cl i use r h.2]
def vN.callA{A:Type}{ar:List PK->Option A}{pre:A->Prop}{re:A->D}{args:List AV}{tm:List (Nat×AV)}{h:An}{nx:Nat}{dst:Option Nat}{Z:Q3}{cl:List (List Nat)}{i:Nat}{acc:List Fp}(ps:List PK)(Q:IT (hget h) args=some (ps,[]))(a:A)(ha:ar ps=some a)(z:pre a)(hq:K0 acc=true)
 (O: ∀u,Z (⟨i,u,[],nx,0⟩::acc) ((⟨tm,h,nx⟩:Az).put dst (.im (re a)))):EX ar pre re args (hget h) nx (Ja cl i acc Z ⟨tm,h,nx⟩ dst):=by
 unfold EX;rw[Q];simp only[W3,ha,DZ,QO];refine⟨z,?_,?_,?_⟩
 .rw[B5.ok_nr];simp[AV.bel,Aw,HL]
 .exact dB _ _ _ _ hq
 .rw[Az.app_nr,Bp,Gc];exact O _
def vF.callA{A:Type}{ar:List PK->Option A}{pre:A->Prop}{re:A->D}{args:List AV}{tm:List (Nat×AV)}{h:An}{nx:Nat}{dst:Option Nat}{Z:Q3}{cl:List (List Nat)}{i:Nat}{acc:List Fp}(ps:List PK)(Q:Ce (hget h) args=some ps)(a:A)(ha:ar ps=some a)(z:pre a)(hq:K0 acc=true)
 (O: ∀u,Z (⟨i,u,[],nx,0⟩::acc) ((⟨tm,h,nx⟩:Az).put dst (.im (re a)))):R1 ar pre re args (hget h) nx (Ja cl i acc Z ⟨tm,h,nx⟩ dst):=by
 unfold R1;rw[Q];simp only[VP,ha,DZ];refine⟨z,?_,?_,?_⟩
 .rw[B5.ok_nr];simp[AV.bel,Aw,HL]
 .exact dB _ _ _ _ hq
 .rw[Az.app_nr,Bp,Gc];exact O _
def mkIC.d0(a:List Int×Int)(j:Nat)(z:Aj (mkIC.H0 a) j=true):j=0:=by
 simp only[Aj,mkIC.H0,hget] at z;by_cases h:j=0
 .exact h
 .rw[Ar _ _ (λq=>h q.symm)] at z;cases z
def Pw{nx o:Nat}{tm:List (Nat×AV)}{h:An}{dst:Option Nat}{go:Az->Prop}{l:List Int}{k:Int}(hk:0<=k)(aa:k+l.length<=1099511627776)(hS:hget h o=some (true,.arr 2 1 (l.map Ak)))(ab:o<nx)
 (Z: ∀O:An,(∀j e,hget (mkIC.H1 (l,k)) j=some e->hget O o=some (e.1,e.2.ren (Bw (λ_=>o) 1 nx)))->(∀m,m≠o->hget O m=hget h m)->go ((⟨tm,O,nx⟩:Az).put dst (.im (.int .i64 (k+l.length))))):
 mkIC.row [.own o,.im (.int .i64 k)] (hget h) nx (D6 go ⟨tm,h,nx⟩ dst):=by
 refine AD.tau (l,k) (λ_=>o) ⟨hk,aa⟩ (λj z=>by rw[mkIC.d0 _ j z];rfl) (λj z=>⟨by rw[mkIC.d0 _ j z];omega,ab⟩) (λi j hi z _=>by rw[mkIC.d0 _ i hi,mkIC.d0 _ j z]) (λp hp=> ?_) ⟨rfl,hS,trivial⟩ (by simp[AV.nms]) (λO hH1 Q=>Z O hH1 λm hm=>Q m λj z h=>hm h.symm);simp only[mkIC.H1,BS] at hp;subst hp;exact⟨rfl,λm hm=>by simp[Ac.nms] at hm⟩
end Go.Ae
namespace Go.Ae
open Go.Proofs Go.Lib
def ptof_.fv(a:AC×AC×Int):AC:=(λp q k=>⟨k*p.X+q.X,k*p.Y+q.Y⟩) (a.1) (a.2.1) (a.2.2)
def ptof_.row:AF:=vK (b3 (qR AC.d_le) (qR AC.d_le) qI) (rA AC.d_le) (λa=>(-1000<=a.1.X/\a.1.X<=1000/\ -1000<=a.1.Y/\a.1.Y<=1000)/\(0<=a.2.1.X/\a.2.1.X<=10/\0<=a.2.1.Y/\a.2.1.Y<=10)/\1<=a.2.2/\a.2.2<=4) ptof_.fv
def ptof_.q:=Bd (R:=ptof_.row) rfl
def ptof_.ok:AL 78 ptof_.row:=by
 refine vw tN Tryz.func78 ?_;intro a z;simp only[Tryz.f78,Option.getD];simp(maxSteps:=9^9)(disch:=omega)only[ZZ,simprocAttr,Ab,ptof_.fv];obtain⟨p,q,k⟩:=a;obtain⟨⟨Q,Z,h3,h4⟩,⟨h5,h6,h7,h8⟩,O⟩:=z;simp only at Q Z h3 h4 h5 h6 h7 h8 O⊢;rcases k4 O with rfl|rfl|rfl|rfl<;>simp (disch:=omega) only[AG]
def Eo(k t:Nat):AC:=⟨((t % k:Nat):Int),((t/k:Nat):Int)⟩
def Em(k n:Nat):List AC:=(List.range n).map (Eo k)
def Qaxo(k n:Nat):Em k (n+1)=Em k n++[Eo k n]:=Fg _ _
def Jc(k n:Nat):(Em k n).length=n:=by simp[Em]
def Sj{k x y:Nat}(z:x<k):Eo k (y*k+x)=⟨(x:Nat),(y:Nat)⟩:=by
 have O:(y*k+x) % k=x:=by rw[Nat.mul_comm,Nat.mul_add_mod,ZeN z]
 have Q:(y*k+x)/k=y:=by rw[Nat.mul_comm,Nat.mul_add_div (by omega),Nat.div_eq_of_lt z];omega
 simp only[Eo,O,Q]
def rct_.fv(a:AC×AC):List AC:=(λ_ q=>Em (q.X.toNat+1) ((q.X.toNat+1)*(q.X.toNat+1))) (a.1) (a.2)
def rct_.row:AF:=vK (b2 (qR AC.d_le) (qR AC.d_le)) (rS AC.d_le AC.c_n) (λa=>(a.1.X=0/\a.1.Y=0)/\a.2.X=a.2.Y/\0<=a.2.X/\a.2.X<=3) rct_.fv
def rct_.q:=Bd (R:=rct_.row) rfl
def rct_.ok:AL 84 rct_.row:=by
 refine vw tN Tryz.func84 ?_;intro a z;simp only[Tryz.f84,Option.getD];simp(maxSteps:=9^9)(disch:=omega)only[ZZ,simprocAttr,Ab,rct_.fv];obtain⟨p,q⟩:=a;obtain⟨⟨O,Q⟩,Z,h4,h5⟩:=z;simp only at O Q Z h4 h5⊢;obtain⟨p1,p2⟩:=p;obtain⟨q1,q2⟩:=q;simp only at O Q Z h4 h5⊢;subst O Q Z;obtain⟨n,rfl⟩: ∃n:Nat,q1=n:=⟨q1.toNat,by omega⟩;rw[Bq];have af:(n+1)*(n+1)<=16:=by rcases (by omega:n=0\/n=1\/n=2\/n=3) with rfl|rfl|rfl|rfl<;>omega
 refine Ba.ren ⟨{y:Nat//y<=n+1},λy=>⟨[(6,.im (.int .i64 y.1)),(5,.own 4),(4,.own 2),(3,.ptr 1 0),(2,.ptr 0 0)],[(4,(true,.arr 95 2 ((Em (n+1) (y.1*(n+1))).map AC.c))),(2,(true,.arr 95 2 [])),(1,(true,.cells 95 [.im (.int .i64 n),.im (.int .i64 n)])),(0,(true,.cells 95 [.im (.int .i64 0),.im (.int .i64 0)]))],5⟩,λy=>n+1 - y.1,λy=>⟨by simp[ZG],by simp⟩,⟨⟨0,C5 _⟩,[(4,some 3)],?_⟩,λy=> ?_⟩
 .simp only[Av,Em,Kf,ES,BF];simp(maxSteps:=9^9)(disch:=omega)only[ZZ,simprocAttr,Ab,rct_.fv,AS,AR]
  try exact⟨rfl,rfl⟩
 obtain⟨y,hy⟩:=y;have ad:IntKind.i64.wrap ((y:Int)+1)=((y+1:Nat):Int):=by rw[AG (by omega) (by omega)];omega
 simp(maxSteps:=9^9)(disch:=omega)only[ZZ,simprocAttr,Ab,rct_.fv,sub,AP];refine⟨λac=> ?_,λac=> ?_⟩
 .have ag:y*(n+1)<=16:=by rcases (by omega:n=0\/n=1\/n=2\/n=3) with rfl|rfl|rfl|rfl<;>omega
  refine Ba.ren ⟨{x:Nat//x<=n+1},λx=>⟨[(7,.im (.int .i64 x.1)),(6,.im (.int .i64 y)),(5,.own 5),(4,.own 2),(3,.ptr 1 0),(2,.ptr 0 0)],[(5,(true,.arr 95 2 ((Em (n+1) (y*(n+1)+x.1)).map AC.c))),(2,(true,.arr 95 2 [])),(1,(true,.cells 95 [.im (.int .i64 n),.im (.int .i64 n)])),(0,(true,.cells 95 [.im (.int .i64 0),.im (.int .i64 0)]))],6⟩,λx=>n+1 - x.1,λx=>⟨by simp[ZG],by simp⟩,⟨⟨0,C5 _⟩,[(5,some 4)],?_⟩,λx=> ?_⟩
  .simp only[Av,Gc];simp(maxSteps:=9^9)(disch:=omega)only[ZZ,simprocAttr,Ab,rct_.fv,AS,AR]
   try exact⟨rfl,rfl⟩
  obtain⟨x,hx⟩:=x;have ab:IntKind.i64.wrap ((x:Int)+1)=((x+1:Nat):Int):=by rw[AG (by omega) (by omega)];omega
  have hcl:=Jc (n+1) (y*(n+1)+x);simp(maxSteps:=9^9)(disch:=omega)only[ZZ,simprocAttr,Ab,rct_.fv,sub,AP];refine⟨λaa=> ?_,λaa=> ?_⟩
  .have hr:List.map AC.c (Em (n+1) (y*(n+1)+x))++[[D.int .i64 x,D.int .i64 y]]=(Em (n+1) (y*(n+1)+(x+1))).map AC.c:=by
    rw[<-Fa,Qaxo,DX,Sj (by omega)];rfl
   refine⟨by simp[Bj,Bm,D.one],by rw[hcl];omega,⟨x+1,by omega⟩,[(5,some 7)],by simp only;omega,?_⟩;simp only[Av];simp(maxSteps:=9^9)(disch:=omega)only[ZZ,simprocAttr,Ab,rct_.fv,AS,AR,ab,hr]
  .obtain rfl:x=n+1:=by omega
   have hj:y*(n+1)+(n+1)=(y+1)*(n+1):=by rw[DB y 1,Fk]
   refine⟨⟨y+1,by omega⟩,[(4,some 5)],by simp only;omega,?_⟩;simp only[Av];simp(maxSteps:=9^9)(disch:=omega)only[ZZ,simprocAttr,Ab,rct_.fv,AS,AR,ad,hj]
 .obtain rfl:y=n+1:=by omega
  rfl
def cls_.fv(a:Int):List AC:=(λk=>Em k.toNat (k.toNat*k.toNat)) a
def cls_.row:AF:=vK (b1 qI) (rS AC.d_le AC.c_n) (λa=>1<=a/\a<=4) cls_.fv
def cls_.q:=Bd (R:=cls_.row) rfl
def cls_.ok:AL 47 cls_.row:=by
 refine vw (tC rct_.ok tN) Tryz.func47 ?_;intro a z;simp only[Tryz.f47,Option.getD];simp(maxSteps:=9^9)(disch:=omega)only[ZZ,simprocAttr,Ab,cls_.fv,rct_.q,rct_.fv];rcases k4 z with rfl|rfl|rfl|rfl<;>exact⟨by decide,rfl⟩
def bcd_.fv(a:AB×Int):Int:=(λa k=>if (Dm none a.Tiles && decide (a.Tiles.length<=500))=true then (if Bz k 1 4=true then 0 else 2) else 1) (a.1) (a.2)
def bcd_.row:AF:=vK (b2 (qR AB.d_le) qI) rI (λa=>True) bcd_.fv
def bcd_.q:=Bd (R:=bcd_.row) rfl
def bcd_.ok:AL 77 bcd_.row:=by
 refine vw (tC hasForm_.ok (tC blockSizeOk.ok tN)) Tryz.func77 ?_;intro a Q;simp only[Tryz.f77,Option.getD];simp(maxSteps:=9^9)(disch:=omega)only[ZZ,simprocAttr,Ab,bcd_.fv,hasForm_.q,hasForm_.fv,blockSizeOk.q,blockSizeOk.fv];by_cases c1:(Dm none a.1.Tiles && decide (a.1.Tiles.length<=500))=true
 .have O:Dm none a.1.Tiles=true/\a.1.Tiles.length<=500:=by simpa using c1
  rw[Af (by rw[c1];decide),Ai O];by_cases z:Bz a.2 1 4=true
  .rw[Af (by rw[z];decide),Ai z]
  .rw[Ai (by simpa using z),Af z]
 .have O: ¬(Dm none a.1.Tiles=true/\a.1.Tiles.length<=500):=by simpa using c1
  rw[Ai (by simpa using c1),Af O]
def bkn_.fv(a:ByteArray×Int×AC):ByteArray:=(λw i p=>Cr w i p.X p.Y) (a.1) (a.2.1) (a.2.2)
def bkn_.row:AF:=CH (b3 qT qI (qR AC.d_le)) rT (λa=>a.1.size<=1000/\(-1000000<=a.2.1/\a.2.1<=1000000)/\(-1000000<=a.2.2.X/\a.2.2.X<=1000000)/\(-1000000<=a.2.2.Y/\a.2.2.Y<=1000000)) bkn_.fv
def bkn_.q:=C9 (R:=bkn_.row) rfl
def bkn_.ok:AL 83 bkn_.row:=by
 refine FR (tC prd_.ok (tC dcm_.ok tN)) Tryz.func83 ?_;intro a z;simp only[Tryz.f83,Option.getD];simp(maxSteps:=9^9)(disch:=omega)only[ZZ,simprocAttr,Ab,bkn_.fv,prd_.q,prd_.fv,dcm_.q,dcm_.fv,BX,D.sc,D.scs,BM,AT];obtain⟨w,i,p⟩:=a;obtain⟨O,Q,Z,h4⟩:=z;simp only at O Q Z h4⊢;have e1:=eD (w:=w) (a:=i) (b:=p.X) (by omega) (by omega) (by omega) (by omega);have e2:=F1 (n:=p.Y) (by omega) (by omega);have e3:(⟨#[95]⟩:ByteArray).size=1:=rfl;exact⟨⟨O,by omega,by omega⟩,by omega,by omega,by rw[Wo];omega,rfl⟩
def AD.o0{A:Type}{ca:A->List AV}{H0:A->An}{k:Nat}{pre:A->Prop}{klB:Nat->Bool}{r0:A->AV}{H1:A->An}{cnt:Nat}{args:List AV}{h:Nat->Option Am}{nx:Nat}{K:Ah}(a:A)(τ:Nat->Nat)(O:pre a)(h0:H0 a=[])
 (hx:args=AI (Bw τ k nx) (ca a))(Q:K ((r0 a).ren (Bw τ k nx)) {use:=[],kill:=[],new:=AQ (Bw τ k nx) (H1 a),cnt:=cnt}):AD ca H0 k pre klB r0 H1 cnt args h nx K:=
 ⟨a,τ,[],[],O,hx,by rw[h0];trivial,by rw[h0];exact⟨λi j Z=>(by simp[Aj,hget] at Z),λj z=>(by simp[Aj,hget] at z),λj z=>(by simp[Aj,hget] at z),λn hn=>(by cases hn),λj z=>(by simp[Aj,hget] at z)⟩,Q⟩
def Cs(s:Ap)(k:Int):AV:= .agg [.ptr 0 0,.im (.sl false 2 (s.Glues.map Ad.c)),.im (.sl false 2 (s.Tiles.map Tile.c)),.im (.int .i64 k)]
def bszC.ca(a:Ap×Int):List AV:=[Cs a.1 a.2]
def bszC.row:AF:=AD bszC.ca (λ_=>[]) 1 (λa=>(a.1.Glues.length<=1000/\a.1.Tiles.length<=1000)/\1<=a.2/\a.2<=4) (λ_=>false) (λa=> .im (.tup [.int .i64 (CC a.1 a.2.toNat),.int .i64 ((a.1.Tiles.length*(a.2.toNat*a.2.toNat):Nat):Int)])) (λ_=>[]) 20
def bszC.ok:AL 45 bszC.row:=by
 refine P6 tN Tryz.func45 (exB:=λ_=>false) (R:=λa r=>r= .im (.tup [.int .i64 (CC a.1 a.2.toNat),.int .i64 ((a.1.Tiles.length*(a.2.toNat*a.2.toNat):Nat):Int)])) (λ_=>rfl)
  (λa=>by simp[bszC.ca,Cs,AA,AV.bel,Aw,B6,BT,Ac.nms,Au,AV.nms,Aj,hget]) (λa p hp=> ?_) (λa r h=>by subst h;exact CN.refl _) ?_
 rotate_left
 intro a z;simp only[Tryz.f45,Option.getD,bszC.ca,Cs];simp(maxSteps:=9^9)(disch:=omega)only[ZZ,simprocAttr,Ab,Bs,Aq,bszC.ca,Cs];rotate_left
 .cases hp
 obtain⟨s,k⟩:=a;obtain⟨⟨Z,h2⟩,hk⟩:=z;simp only at Z h2 hk⊢;obtain⟨n,rfl⟩: ∃n:Nat,k=n:=⟨k.toNat,by omega⟩;have hn:1<=n/\n<=4:=by omega
 have O:IntKind.i64.wrap (IntKind.i64.wrap ((n:Int)*s.Glues.length)+IntKind.i64.wrap (IntKind.i64.wrap (IntKind.i64.wrap (2*(s.Tiles.length:Int))*n)*IntKind.i64.wrap ((n:Int) - 1)))=(CC s n:Int):=by
  rcases (by omega:n=1\/n=2\/n=3\/n=4) with rfl|rfl|rfl|rfl<;>simp only[CC,Bx]<;>simp (disch:=omega) only[AG]<;>omega
 have Q:IntKind.i64.wrap (IntKind.i64.wrap ((s.Tiles.length:Int)*n)*n)=((s.Tiles.length*(n*n):Nat):Int):=by
  rw[VL hn (by omega),ZeK]
 intro _;rw[O,Q,Bq];refine⟨[],[],⟨[(3,.im (.int .i64 ((s.Tiles.length*(n*n):Nat):Int))),(2,.im (.int .i64 (CC s n)))],[],1⟩,?_,by simp[ZG],by simp,?_⟩
 .simp only[Av];simp(maxSteps:=9^9)(disch:=omega)only[ZZ,simprocAttr,Ab,Bs,Aq,bszC.ca,Cs,AS,AR]
 .simp(maxSteps:=9^9)(disch:=omega)only[ZZ,simprocAttr,Ab,Bs,Aq,bszC.ca,Cs]
def botC.ca(a:(Ap×Int)×Int×Int×Int):List AV:=[Cs a.1.1 a.1.2,.im (.int .i64 a.2.1),.im (.int .i64 a.2.2.1),.im (.int .i64 a.2.2.2)]
def botC.row:AF:=AD botC.ca (λ_=>[]) 1 (λa=>Dt a.1.1/\a.1.1.Glues.length<=1000/\(0<=a.2.1/\a.2.1<a.1.1.Tiles.length)/\(0<=a.2.2.1/\a.2.2.1<4)/\0<=a.2.2.2/\a.2.2.2<=10) (λ_=>false) (λa=> .im (.str (GC a.1.1 a.2.1.toNat a.2.2.1.toNat a.2.2.2.toNat))) (λ_=>[]) 0
def YaJ:=J @prd_.q<|J @prd_.fv.eq_1<|J @unl_.q @unl_.fv.eq_1
def botC.ok:AL 85 botC.row:=by
 refine P6 (tC prd_.ok (tC unl_.ok tN)) Tryz.func85 (exB:=λ_=>false) (R:=λa r=>r= .im (.str (GC a.1.1 a.2.1.toNat a.2.2.1.toNat a.2.2.2.toNat))) (λ_=>rfl)
  (λa=>by simp[botC.ca,Cs,AA,AV.bel,Aw,B6,BT,Ac.nms,Au,AV.nms,Aj,hget]) (λa p hp=> ?_) (λa r h=>by subst h;exact CN.refl _) ?_
 rotate_left
 intro a O;simp only[Tryz.f85,Option.getD,botC.ca,Cs];simp(maxSteps:=9^9)(disch:=omega)only[ZZ,simprocAttr,Ab,YaJ,Bs,Aq,botC.ca,Cs];rotate_left
 .cases hp
 obtain⟨⟨s,k⟩,i,d,c⟩:=a;obtain⟨Q,h2,h3,h4,h5⟩:=O;simp only at Q h2 h3 h4 h5⊢;obtain⟨i,rfl⟩: ∃n:Nat,i=n:=⟨i.toNat,by omega⟩;obtain⟨d,rfl⟩: ∃n:Nat,d=n:=⟨d.toNat,by omega⟩;obtain⟨c,rfl⟩: ∃n:Nat,c=n:=⟨c.toNat,by omega⟩;simp only[Bq];refine⟨by omega,h3.2,λt ht=>⟨by omega,by have:=(Q.2.1 t (Bg ht)).1;omega,λg hg=> ?_⟩⟩;have z:FZ s i (d:Nat)=g:=by simp[FZ,ht,hg]
 have Z:=Ow Q i d;rw[z] at Z;have aa:(⟨#[103]⟩:ByteArray).size=1:=rfl;have hv:V8 (decide (g=0)) (E4 ⟨#[103]⟩ g (c:Nat))=GC s i d c:=by
  simp only[V8,GC,z];by_cases c0:g=0
  .rw[Ai (by simpa using c0),Ai c0]
  .rw[Af (by simpa using c0),Af c0]
 rw[hv];refine⟨⟨by omega,by omega,by omega⟩,?_⟩;refine⟨[],[],⟨[(8,.im (.str (GC s i d c)))],[],1⟩,?_,by simp[ZG],by simp,?_⟩
 .simp only[Av];simp(maxSteps:=9^9)(disch:=omega)only[ZZ,simprocAttr,Ab,YaJ,Bs,Aq,botC.ca,Cs,AS,AR]
 .simp(maxSteps:=9^9)(disch:=omega)only[ZZ,simprocAttr,Ab,YaJ,Bs,Aq,botC.ca,Cs]
def J1(n t:Nat):Nat:=(t/n)*(n - 1)+min (t % n) (n - 1)
def iK{n t:Nat}(hn:1<=n/\n<=4)(h:t<n*n)(z:t % n<n - 1):J1 n (t+1)=J1 n t+1/\J1 n t=(t/n)*(n - 1)+t % n/\t/n<n:=by
 rcases (by omega:n=1\/n=2\/n=3\/n=4) with rfl|rfl|rfl|rfl<;>simp only[J1]<;>omega
def Yp{n t:Nat}(hn:1<=n/\n<=4)(h:t<n*n)(z: ¬t % n<n - 1):J1 n (t+1)=J1 n t:=by
 rcases (by omega:n=1\/n=2\/n=3\/n=4) with rfl|rfl|rfl|rfl<;>simp only[J1]<;>omega
def wO(n:Nat):J1 n 0=0:=by simp[J1]
def wN{n:Nat}(hn:1<=n/\n<=4):J1 n (n*n)=n*(n - 1):=by
 rcases (by omega:n=1\/n=2\/n=3\/n=4) with rfl|rfl|rfl|rfl<;>rfl
def wM{n t:Nat}(hn:1<=n/\n<=4)(h:t<=n*n):J1 n t<=16:=by
 rcases (by omega:n=1\/n=2\/n=3\/n=4) with rfl|rfl|rfl|rfl<;>simp only[J1]<;>omega
def kV{n t:Nat}(hn:1<=n/\n<=4)(h:t<n*n)(z:t/n<n - 1):t<n*(n - 1)/\(t/n)*n+t % n=t/\t % n<n:=by
 rcases (by omega:n=1\/n=2\/n=3\/n=4) with rfl|rfl|rfl|rfl<;>omega
def ZK{n t:Nat}(hn:1<=n/\n<=4)(h:t<n*n)(z: ¬t/n<n - 1): ¬t<n*(n - 1):=by
 rcases (by omega:n=1\/n=2\/n=3\/n=4) with rfl|rfl|rfl|rfl<;>omega
def wC{n:Nat}(hn:1<=n/\n<=4):n*(n - 1)<=n*n/\n*(n - 1)+n*(n - 1)=Bx n/\n*n<=16:=by
 rcases (by omega:n=1\/n=2\/n=3\/n=4) with rfl|rfl|rfl|rfl<;>decide
def WU{k n t:Nat}{p:AC}(z:t<n)(h:(Em k n)[t]? =some p):p=Eo k t:=by
 rw[Em,D3,Ga z] at h;exact (AJ h).symm
def bglC.ca(a:Ap×Int):List AV:=[Cs a.1 a.2]
def bglC.H0(_:Ap×Int):An:=C7 [] []
def bglC.H1(a:Ap×Int):An:=[(0,(true,.cells 99 [.own 4,.own 2,.mp 3])),(4,(true,.arr 128 2 ((D1 a.1 a.2.toNat).map Ad.c))),(3,(true,.map ⟨false,[.str]⟩ (Ck (D1 a.1 a.2.toNat))))]
def bglC.row:AF:=AD bglC.ca bglC.H0 4 (λa=>(a.1.Glues.length<=1000/\a.1.Tiles.length<=1000)/\1<=a.2/\a.2<=4) B9 (λ_=> .im (.tup [])) bglC.H1 100
def FL:=J @prd_.q<|J @prd_.fv.eq_1<|J @cls_.q<|J @cls_.fv.eq_1<|J @bkn_.q @bkn_.fv.eq_1
def bglC.ok:AL 46 bglC.row:=by
 refine P6 (tC prd_.ok (tC mgC.ok (tC cls_.ok (tC bkn_.ok tN)))) Tryz.func46 (exB:=λj=>j==4) (R:=λa r=>r= .im (.tup [])) (λ_=>rfl)
  (λa=>by simp[bglC.ca,bglC.H0,bglC.H1,C7,B9,Cs,AA,AV.bel,Aw,B6,BT,Ac.nms,Au,AV.nms,Aj,hget]) (λa p hp=> ?_) (λa r h=>by subst h;exact CN.refl _) ?_
 rotate_left
 intro a ac;simp only[Tryz.f46,Option.getD,bglC.ca,bglC.H0,bglC.H1,C7,B9,Cs];simp(maxSteps:=9^9)(disch:=omega)only[ZZ,simprocAttr,Ab,FL,Bs,Aq,bglC.ca,bglC.H0,bglC.H1,C7,B9,Cs];rotate_left
 .simp only[bglC.H1,Br,OI,LV] at hp;rcases hp with rfl|rfl|rfl
  .exact .inl ⟨by omega,rfl,rfl⟩
  .exact .inr ⟨by omega,by omega,rfl,rfl⟩
  .exact .inl ⟨by omega,rfl,rfl⟩
 obtain⟨s,k⟩:=a;obtain⟨⟨h1,h2⟩,hk⟩:=ac;simp only at h1 h2 hk⊢;obtain⟨n,rfl⟩: ∃n:Nat,k=n:=⟨k.toNat,by omega⟩;have hn:1<=n/\n<=4:=by omega
 have Q:IntKind.i64.wrap ((n:Int) - 1)=((n - 1:Nat):Int):=by rw[AG (by omega) (by omega)];omega
 have aq:(⟨#[103]⟩:ByteArray).size=1:=rfl;have au:(⟨#[104]⟩:ByteArray).size=1:=rfl;have av:(⟨#[118]⟩:ByteArray).size=1:=rfl;obtain⟨ag,ah,ak⟩:=wC hn;have am:s.Glues.length*n<=4000:=by rcases (by omega:n=1\/n=2\/n=3\/n=4) with rfl|rfl|rfl|rfl<;>omega
 intro _;refine Ba.ren ⟨{i:Nat//i<=s.Glues.length},λi=>⟨[(15,.im (.int .i64 i.1)),(14,.im (.int .i64 s.Glues.length)),(13,.im (.sl false 2 (s.Glues.map Ad.c))),(1,.ptr 4 0)],[(4,(true,.cells 87 [.ptr 0 0,.im (.sl false 2 (s.Glues.map Ad.c)),.im (.sl false 2 (s.Tiles.map Tile.c)),.im (.int .i64 n)])),(0,(true,.cells 99 [.own 5,.own 2,.mp 3])),(5,(true,.arr 128 2 (((List.range (i.1*n)).map (CP s n)).map Ad.c))),(2,(true,.arr 126 2 [])),(3,(true,.map ⟨false,[.str]⟩ (Ck ((List.range (i.1*n)).map (CP s n)))))],6⟩,λi=>s.Glues.length - i.1,λi=>⟨by simp[ZG],by simp⟩,⟨⟨0,C5 _⟩,[(5,some 1)],?_⟩,λi=> ?_⟩
 .simp only[Av,Kf,ES,BF];simp(maxSteps:=9^9)(disch:=omega)only[ZZ,simprocAttr,Ab,FL,Bs,Aq,bglC.ca,bglC.H0,bglC.H1,C7,B9,Cs,AS,AR]
  try exact⟨rfl,rfl⟩
 obtain⟨i,hi⟩:=i;have Z:IntKind.i64.wrap ((i:Int)+1)=((i+1:Nat):Int):=by rw[AG (by omega) (by omega)];omega
 simp(maxSteps:=9^9)(disch:=omega)only[ZZ,simprocAttr,Ab,FL,Bs,Aq,bglC.ca,bglC.H0,bglC.H1,C7,B9,Cs,sub,AP,Q];refine⟨λO=>⟨O,λx hx=> ?_⟩,λO=> ?_⟩
 .have ao:i*n<=4000:=by rcases (by omega:n=1\/n=2\/n=3\/n=4) with rfl|rfl|rfl|rfl<;>omega
  refine Ba.ren ⟨{c:Nat//c<=n},λc=>⟨[(22,.im (.int .i64 c.1)),(21,.im (.int .i64 n)),(2,.im (.int .i64 i)),(3,.ptr 6 0),(15,.im (.int .i64 i)),(14,.im (.int .i64 s.Glues.length)),(13,.im (.sl false 2 (s.Glues.map Ad.c))),(1,.ptr 4 0)],[(6,(true,.cells 128 [.im (.str x.Name),.im (.int .i64 x.Strength)])),(4,(true,.cells 87 [.ptr 0 0,.im (.sl false 2 (s.Glues.map Ad.c)),.im (.sl false 2 (s.Tiles.map Tile.c)),.im (.int .i64 n)])),(0,(true,.cells 99 [.own 7,.own 2,.mp 3])),(7,(true,.arr 128 2 (((List.range (i*n+c.1)).map (CP s n)).map Ad.c))),(2,(true,.arr 126 2 [])),(3,(true,.map ⟨false,[.str]⟩ (Ck ((List.range (i*n+c.1)).map (CP s n)))))],8⟩,λc=>n - c.1,λc=>⟨by simp[ZG],by simp⟩,⟨⟨0,C5 _⟩,[(7,some 5)],?_⟩,λc=> ?_⟩
  .simp only[Av,Gc];simp(maxSteps:=9^9)(disch:=omega)only[ZZ,simprocAttr,Ab,FL,Bs,Aq,bglC.ca,bglC.H0,bglC.H1,C7,B9,Cs,AS,AR]
   try exact⟨rfl,rfl⟩
  obtain⟨c,hc⟩:=c;have ai:IntKind.i64.wrap ((c:Int)+1)=((c+1:Nat):Int):=by rw[AG (by omega) (by omega)];omega
  simp(maxSteps:=9^9)(disch:=omega)only[ZZ,simprocAttr,Ab,FL,Bs,Aq,bglC.ca,bglC.H0,bglC.H1,C7,B9,Cs,sub,AP,Q];refine⟨λab=> ?_,λab=> ?_⟩
  .rw[Z];refine⟨⟨by omega,by omega,by omega⟩,?_⟩;have hs:(List.range (i*n+c)).map (CP s n)++[⟨E4 ⟨#[103]⟩ ((i+1:Nat):Int) (c:Nat),x.Strength⟩]=(List.range (i*n+(c+1))).map (CP s n):=by
    rw[<-Fa,Fg,G9 hn O ab,hx];rfl
   refine AD.os (((List.range (i*n+c)).map (CP s n),[]),(⟨E4 ⟨#[103]⟩ ((i+1:Nat):Int) (c:Nat),x.Strength⟩:Ad)) [0,7,2,3] (by simp only[GL,Jp];omega) (λj=>WS _ _ j) rfl rfl ?_ ?_
   .simp(maxSteps:=9^9)(disch:=omega)only[ZZ,simprocAttr,Ab,FL,Bs,Aq,bglC.ca,bglC.H0,bglC.H1,C7,B9,Cs,mgC.ca,mgC.H0,C7,BD,EK,Gv,BF]
    try exact⟨rfl,rfl⟩
   simp(maxSteps:=9^9)(disch:=omega)only[ZZ,simprocAttr,Ab,FL,Bs,Aq,bglC.ca,bglC.H0,bglC.H1,C7,B9,Cs,mgC.H1,B9,sub,EK,Gv,hs,ai];refine⟨⟨c+1,by omega⟩,[(7,some 8)],by simp only;omega,?_⟩;simp only[Av];simp(maxSteps:=9^9)(disch:=omega)only[ZZ,simprocAttr,Ab,FL,Bs,Aq,bglC.ca,bglC.H0,bglC.H1,C7,B9,Cs,AS,AR]
  .obtain rfl:c=n:=by omega
   have hj:i*c+c=(i+1)*c:=by rw[DB,Fk]
   refine⟨⟨i+1,by omega⟩,[(5,some 7)],by simp only;omega,?_⟩;simp only[Av];simp(maxSteps:=9^9)(disch:=omega)only[ZZ,simprocAttr,Ab,FL,Bs,Aq,bglC.ca,bglC.H0,bglC.H1,C7,B9,Cs,AS,AR,Z,hj]
 obtain rfl:i=s.Glues.length:=by omega
 intro _;refine Ba.ren ⟨{i:Nat//i<=s.Tiles.length},λi=>⟨[(40,.im (.int .i64 i.1)),(39,.im (.int .i64 s.Tiles.length)),(1,.ptr 4 0)],[(4,(true,.cells 87 [.ptr 0 0,.im (.sl false 2 (s.Glues.map Ad.c)),.im (.sl false 2 (s.Tiles.map Tile.c)),.im (.int .i64 n)])),(0,(true,.cells 99 [.own 6,.own 2,.mp 3])),(6,(true,.arr 128 2 (((List.range (s.Glues.length*n+i.1*Bx n)).map (CP s n)).map Ad.c))),(2,(true,.arr 126 2 [])),(3,(true,.map ⟨false,[.str]⟩ (Ck ((List.range (s.Glues.length*n+i.1*Bx n)).map (CP s n)))))],7⟩,λi=>s.Tiles.length - i.1,λi=>⟨by simp[ZG],by simp⟩,⟨⟨0,C5 _⟩,[(6,some 5)],?_⟩,λi=> ?_⟩
 .simp only[Av,Kf,Gc];simp(maxSteps:=9^9)(disch:=omega)only[ZZ,simprocAttr,Ab,FL,Bs,Aq,bglC.ca,bglC.H0,bglC.H1,C7,B9,Cs,AS,AR]
  try exact⟨rfl,rfl⟩
 obtain⟨i,hi⟩:=i;have Z:IntKind.i64.wrap ((i:Int)+1)=((i+1:Nat):Int):=by rw[AG (by omega) (by omega)];omega
 simp(maxSteps:=9^9)(disch:=omega)only[ZZ,simprocAttr,Ab,FL,Bs,Aq,bglC.ca,bglC.H0,bglC.H1,C7,B9,Cs,sub,AP,Q];refine⟨λO=> ?_,λO=> ?_⟩;rotate_left
 .obtain rfl:i=s.Tiles.length:=by omega
  have hP:(List.range (s.Glues.length*n+s.Tiles.length*Bx n)).map (CP s n)=D1 s n:=rfl;rw[hP];refine⟨[],[(4,some 6)],⟨[],[(0,(true,.cells 99 [.own 4,.own 2,.mp 3])),(4,(true,.arr 128 2 ((D1 s n).map Ad.c))),(2,(true,.arr 126 2 [])),(3,(true,.map ⟨false,[.str]⟩ (Ck (D1 s n))))],5⟩,?_,by simp[ZG],by simp,?_⟩
  .simp only[Av];simp(maxSteps:=9^9)(disch:=omega)only[ZZ,simprocAttr,Ab,FL,Bs,Aq,bglC.ca,bglC.H0,bglC.H1,C7,B9,Cs,AS,AR]
  .simp(maxSteps:=9^9)(disch:=omega)only[ZZ,simprocAttr,Ab,FL,Bs,Aq,bglC.ca,bglC.H0,bglC.H1,C7,B9,Cs]
   try exact⟨rfl,rfl⟩
 have an:i*Bx n<=24000:=by rcases (by omega:n=1\/n=2\/n=3\/n=4) with rfl|rfl|rfl|rfl<;>simp only[Bx]<;>omega
 refine⟨hk,?_⟩;rw[Jc];intro _;refine Ba.ren ⟨{t:Nat//t<=n*n},λt=>⟨[(48,.im (.int .i64 t.1)),(47,.im (.int .i64 ((n*n:Nat):Int))),(46,.im (.sl false 2 ((Em n (n*n)).map AC.c))),(6,.im (.int .i64 i)),(40,.im (.int .i64 i)),(39,.im (.int .i64 s.Tiles.length)),(1,.ptr 4 0)],[(4,(true,.cells 87 [.ptr 0 0,.im (.sl false 2 (s.Glues.map Ad.c)),.im (.sl false 2 (s.Tiles.map Tile.c)),.im (.int .i64 n)])),(0,(true,.cells 99 [.own 7,.own 2,.mp 3])),(7,(true,.arr 128 2 (((List.range (s.Glues.length*n+i*Bx n+J1 n t.1)).map (CP s n)).map Ad.c))),(2,(true,.arr 126 2 [])),(3,(true,.map ⟨false,[.str]⟩ (Ck ((List.range (s.Glues.length*n+i*Bx n+J1 n t.1)).map (CP s n)))))],8⟩,λt=>n*n - t.1,λt=>⟨by simp[ZG],by simp⟩,⟨⟨0,C5 _⟩,[(7,some 6)],?_⟩,λt=> ?_⟩
 .simp only[Av,wO,Gc];simp(maxSteps:=9^9)(disch:=omega)only[ZZ,simprocAttr,Ab,FL,Bs,Aq,bglC.ca,bglC.H0,bglC.H1,C7,B9,Cs,AS,AR]
  try exact⟨rfl,rfl⟩
 obtain⟨t,ht⟩:=t;have z:IntKind.i64.wrap ((t:Int)+1)=((t+1:Nat):Int):=by rw[AG (by omega) (by omega)];omega
 simp(maxSteps:=9^9)(disch:=omega)only[ZZ,simprocAttr,Ab,FL,Bs,Aq,bglC.ca,bglC.H0,bglC.H1,C7,B9,Cs,sub,AP,Q];have hcl:=Jc n (n*n);have d1:=bF t n;have d2:=bH t (show n>0 by omega);have d3:(0:Int)<=((t/n:Nat):Int):=ZdK _;have aj:=wM hn ht;refine⟨λaa=> ?_,λaa=> ?_⟩
 .refine⟨by omega,λp hp=> ?_⟩;obtain rfl:=WU (by omega) hp;refine⟨λhx=> ?_,λhx=> ?_⟩
  .simp only[Eo] at hx⊢;have ad:t % n<n - 1:=by omega
   obtain⟨q1,q2,q3⟩:=iK hn (by omega) ad;refine⟨⟨by omega,by omega,by omega,by omega⟩,?_⟩;have hs:(List.range (s.Glues.length*n+i*Bx n+J1 n t)).map (CP s n)++[⟨Cr ⟨#[104]⟩ (i:Nat) ((t % n:Nat):Int) ((t/n:Nat):Int),1⟩]=(List.range (s.Glues.length*n+i*Bx n+J1 n (t+1))).map (CP s n):=by
    rw[q1,<-Fa,Fg,q2,GA hn ad q3]
   refine AD.os (((List.range (s.Glues.length*n+i*Bx n+J1 n t)).map (CP s n),[]),(⟨Cr ⟨#[104]⟩ (i:Nat) ((t % n:Nat):Int) ((t/n:Nat):Int),1⟩:Ad)) [0,7,2,3] (by simp only[GL,Jp];omega) (λj=>WS _ _ j) rfl rfl ?_ ?_
   .simp(maxSteps:=9^9)(disch:=omega)only[ZZ,simprocAttr,Ab,FL,Bs,Aq,bglC.ca,bglC.H0,bglC.H1,C7,B9,Cs,mgC.ca,mgC.H0,C7,BD,EK,Gv,BF]
    try exact⟨rfl,rfl⟩
   simp(maxSteps:=9^9)(disch:=omega)only[ZZ,simprocAttr,Ab,FL,Bs,Aq,bglC.ca,bglC.H0,bglC.H1,C7,B9,Cs,mgC.H1,B9,sub,EK,Gv,hs,z];refine⟨⟨t+1,by omega⟩,[(7,some 9)],by simp only;omega,?_⟩;simp only[Av];simp(maxSteps:=9^9)(disch:=omega)only[ZZ,simprocAttr,Ab,FL,Bs,Aq,bglC.ca,bglC.H0,bglC.H1,C7,B9,Cs,AS,AR]
  .simp only[Eo] at hx;have q1:=Yp hn (show t<n*n by omega) (by omega);refine⟨⟨t+1,by omega⟩,[],by simp only;omega,?_⟩;simp only[Av];simp(maxSteps:=9^9)(disch:=omega)only[ZZ,simprocAttr,Ab,FL,Bs,Aq,bglC.ca,bglC.H0,bglC.H1,C7,B9,Cs,AS,AR,z,q1]
 obtain rfl:t=n*n:=by omega
 rw[wN hn];refine⟨hk,?_⟩;rw[Jc];intro _;clear aj d1 d2 d3 z aa ht;refine Ba.ren ⟨{t:Nat//t<=n*n},λt=>⟨[(69,.im (.int .i64 t.1)),(68,.im (.int .i64 ((n*n:Nat):Int))),(67,.im (.sl false 2 ((Em n (n*n)).map AC.c))),(6,.im (.int .i64 i)),(40,.im (.int .i64 i)),(39,.im (.int .i64 s.Tiles.length)),(1,.ptr 4 0)],[(4,(true,.cells 87 [.ptr 0 0,.im (.sl false 2 (s.Glues.map Ad.c)),.im (.sl false 2 (s.Tiles.map Tile.c)),.im (.int .i64 n)])),(0,(true,.cells 99 [.own 8,.own 2,.mp 3])),(8,(true,.arr 128 2 (((List.range (s.Glues.length*n+i*Bx n+(n*(n - 1)+min t.1 (n*(n - 1))))).map (CP s n)).map Ad.c))),(2,(true,.arr 126 2 [])),(3,(true,.map ⟨false,[.str]⟩ (Ck ((List.range (s.Glues.length*n+i*Bx n+(n*(n - 1)+min t.1 (n*(n - 1))))).map (CP s n)))))],9⟩,λt=>n*n - t.1,λt=>⟨by simp[ZG],by simp⟩,⟨⟨0,C5 _⟩,[(8,some 7)],?_⟩,λt=> ?_⟩
 .simp only[Av,Nat.zero_min,Gc];simp(maxSteps:=9^9)(disch:=omega)only[ZZ,simprocAttr,Ab,FL,Bs,Aq,bglC.ca,bglC.H0,bglC.H1,C7,B9,Cs,AS,AR]
  try exact⟨rfl,rfl⟩
 obtain⟨t,ht⟩:=t;have z:IntKind.i64.wrap ((t:Int)+1)=((t+1:Nat):Int):=by rw[AG (by omega) (by omega)];omega
 simp(maxSteps:=9^9)(disch:=omega)only[ZZ,simprocAttr,Ab,FL,Bs,Aq,bglC.ca,bglC.H0,bglC.H1,C7,B9,Cs,sub,AP,Q];have d1:=bF t n;have d2:=bH t (show n>0 by omega);have d3:(0:Int)<=((t/n:Nat):Int):=ZdK _;refine⟨λaa=> ?_,λaa=> ?_⟩
 .refine⟨by omega,λp hp=> ?_⟩;obtain rfl:=WU (by omega) hp;refine⟨λhy=> ?_,λhy=> ?_⟩
  .simp only[Eo] at hy⊢;have af:t/n<n - 1:=by omega
   obtain⟨q1,q2,q3⟩:=kV hn (by omega) af;refine⟨⟨by omega,by omega,by omega,by omega⟩,?_⟩;have hs:(List.range (s.Glues.length*n+i*Bx n+(n*(n - 1)+min t (n*(n - 1))))).map (CP s n)++[⟨Cr ⟨#[118]⟩ (i:Nat) ((t % n:Nat):Int) ((t/n:Nat):Int),1⟩]=(List.range (s.Glues.length*n+i*Bx n+(n*(n - 1)+min (t+1) (n*(n - 1))))).map (CP s n):=by
    rw[vG (show t<=n*(n - 1) by omega),vG (show t+1<=n*(n - 1) by omega),<-Fa (n*(n - 1)),<-Fa _ _ 1,Fg,<-GB hn q3 af,q2]
   refine AD.os (((List.range (s.Glues.length*n+i*Bx n+(n*(n - 1)+min t (n*(n - 1))))).map (CP s n),[]),(⟨Cr ⟨#[118]⟩ (i:Nat) ((t % n:Nat):Int) ((t/n:Nat):Int),1⟩:Ad)) [0,8,2,3] (by simp only[GL,Jp];omega) (λj=>WS _ _ j) rfl rfl ?_ ?_
   .simp(maxSteps:=9^9)(disch:=omega)only[ZZ,simprocAttr,Ab,FL,Bs,Aq,bglC.ca,bglC.H0,bglC.H1,C7,B9,Cs,mgC.ca,mgC.H0,C7,BD,EK,Gv,BF]
    try exact⟨rfl,rfl⟩
   simp(maxSteps:=9^9)(disch:=omega)only[ZZ,simprocAttr,Ab,FL,Bs,Aq,bglC.ca,bglC.H0,bglC.H1,C7,B9,Cs,mgC.H1,B9,sub,EK,Gv,hs,z];refine⟨⟨t+1,by omega⟩,[(8,some 10)],by simp only;omega,?_⟩;simp only[Av];simp(maxSteps:=9^9)(disch:=omega)only[ZZ,simprocAttr,Ab,FL,Bs,Aq,bglC.ca,bglC.H0,bglC.H1,C7,B9,Cs,AS,AR]
  .simp only[Eo] at hy;have q1:=ZK hn (show t<n*n by omega) (by omega);have q2:min (t+1) (n*(n - 1))=min t (n*(n - 1)):=by omega
   refine⟨⟨t+1,by omega⟩,[],by simp only;omega,?_⟩;simp only[Av];simp(maxSteps:=9^9)(disch:=omega)only[ZZ,simprocAttr,Ab,FL,Bs,Aq,bglC.ca,bglC.H0,bglC.H1,C7,B9,Cs,AS,AR,z,q2]
 obtain rfl:t=n*n:=by omega
 have hj:s.Glues.length*n+i*Bx n+(n*(n - 1)+min (n*n) (n*(n - 1)))=s.Glues.length*n+(i+1)*Bx n:=by
  rw[Nat.min_eq_right ag,ah,DB i 1,Fk,Fa]
 refine⟨⟨i+1,by omega⟩,[(6,some 8)],by simp only;omega,?_⟩;simp only[Av];simp(maxSteps:=9^9)(disch:=omega)only[ZZ,simprocAttr,Ab,FL,Bs,Aq,bglC.ca,bglC.H0,bglC.H1,C7,B9,Cs,AS,AR,Z,hj]
end Go.Ae
namespace Go.Ae
open Go.Proofs
end Go.Ae
namespace Go.Ae
open Go.Proofs Go.Sort Go.Shelf
instance:Inhabited AC:=⟨⟨0,0⟩⟩
end Go.Ae
namespace Go.Ae
open Go.Proofs
end Go.Ae
namespace Go.Ae
open Go.Proofs Go.RowKit Go.Lib Go.Sort
end Go.Ae
namespace Go.Ae
open Go.Proofs
def Fy.os{A:Type}{ar:List PK->Option A}{pre:A->Prop}{r0:A->AV}{H1:A->An}{cnt:Nat}{args:List AV}{h:Nat->Option Am}{nx:Nat}{K:Ah}(ps:List PK)(O:Ce h args=some ps)(a:A)(Z:ar ps=some a)(z:pre a)
 (Q:K ((r0 a).ren (Bw (λj=>j) 0 nx)) {use:=Ew h args,new:=AQ (Bw (λj=>j) 0 nx) (H1 a),cnt:=cnt}):Fy ar pre r0 H1 cnt args h nx K:=by
 unfold Fy;rw[O];simp only[K4,Z,DZ];exact⟨z,Q⟩
def xK{h:Nat->Option Am}{o T k:Nat}{z:Bool}{rows:List (List D)}(g:h o=some (z,.arr T k rows)):Ce h [.own o]=some [.val (.sl false k rows)]:=by
 simp only[Ce,DE,bk,g,KM,DR,Gz,Dh]
def asmX.ca(l:List Al):List AV:=[.im (.sl false 3 (l.map Al.c))]
def asmX.H1(l:List Al):An:=[(0,(true,.arr 119 3 ((DI l).map Al.c)))]
def asmX.r0(_:List Al):AV:= .agg [.own 0]
def asmX.row:AF:=AD asmX.ca (λ_=>[]) 0 (λl=>(l.map Al.At).Nodup/\l.length<=1000000) (λ_=>false) asmX.r0 asmX.H1 20
def asmX.ok:AL 79 asmX.row:=by
 refine P6 (tC clonC.ok (tC srt.ok tN)) Tryz.func79 (exB:=λj=>j==0) (R:=λa r=>r=asmX.r0 a) (λ_=>rfl)
  (λa=>by simp[asmX.ca,asmX.H1,AA,AV.bel,Aw,B6,BT,Ac.nms,Au,AV.nms,Aj,hget]) (λa p hp=> ?_) (λa r h=>by subst h;exact CN.refl _) ?_
 rotate_left
 intro a z;simp only[Tryz.f79,Option.getD,asmX.ca,asmX.H1];simp only[ZZ,simprocAttr,Ab,Bs,Aq,asmX.ca,asmX.H1];refine AD.os a [] z.2 (λj=>by simp[Aj,hget]) rfl rfl ?_ ?_
 .simp only[ZZ,simprocAttr,Ab,Bs,Aq,asmX.ca,asmX.H1,clonC.ca,Db,Rs]
 simp only[ZZ,simprocAttr,Ab,Bs,Aq,asmX.ca,asmX.H1,clonC.H1,sub];refine AD.os a [1] z.1 (λj=> ?_) rfl rfl ?_ ?_
 .simp only[Aj,srt.H0,hget];by_cases O:j=0
  .subst O;simp
  .have:(0==j)=false:=by simpa using λh=>O h.symm
   rw[this];simp;omega
 .simp only[ZZ,simprocAttr,Ab,Bs,Aq,asmX.ca,asmX.H1,srt.ca,srt.H0,Db]
  try exact⟨rfl,rfl⟩
 simp only[ZZ,simprocAttr,Ab,Bs,Aq,asmX.ca,asmX.H1,srt.H1,sub,EK,Gv];refine⟨[],[(1,some 0),(0,some 1)],⟨[(2,.ptr 1 0)],[(1,(true,.cells 38 [.own 0])),(0,(true,.arr 119 3 ((DI a).map Al.c)))],2⟩,?_,by simp[ZG],by simp,?_⟩
 .simp only[Av];simp only[ZZ,simprocAttr,Ab,Bs,Aq,asmX.ca,asmX.H1,AS,AR]
  try simp
 .simp only[ZZ,simprocAttr,Ab,Bs,Aq,asmX.ca,asmX.H1,asmX.r0]
 simp[asmX.H1] at hp;subst hp;exact .inr ⟨by omega,by omega,rfl,rfl⟩
def asmXV.ar:List PK->Option (List Al):=a1 (kS Al.d)
def asmXV.row:AF:=Fy asmXV.ar (λl=>(l.map Al.At).Nodup/\l.length<=1000000) asmX.r0 asmX.H1 20
def asmXV.ok:AL 79 asmXV.row:=
 pS (A:=List Al) (ca:=λ(a:List Al)=>[D.sl false 3 (a.map Al.c)]) (by kernel_rfl) asmX.ok (λ_=>rfl) (bK (bW 3 Al.d_le (λ_=>rfl)))
  (λa=>by simp[asmX.r0,H8,ED,D.sc,AV.nms,Au])
  (λa p hp=>by
   simp only[asmX.H1,BS] at hp;subst hp;exact⟨by omega,rfl,by simp[GY,Al.c,D.sc],by simp[Ac.nms]⟩)
end Go.Ae
namespace Go.Ae
open Go.Proofs Go.Lib
def hfF_.fv(a:AB):Bool:=(λa=>Dm none a.Tiles && decide (a.Tiles.length<=500)) a
def hfF_.row:AF:=CH (b1 (qR AB.d_le)) rB (λa=>True) hfF_.fv
def hfF_.q:=C9 (R:=hfF_.row) rfl
def hfF_.ok:AL 80 hfF_.row:=ZH (λ_=>rfl) hasForm_.ok
def scuC.ca(a:AB×Int):List AV:=[.im (.agg (AB.c a.1)),.im (.int .i64 a.2)]
def scuC.pre(a:AB×Int):Prop:=(Dm none a.1.Tiles=true/\a.1.Tiles.length<=500)/\1<=a.2/\a.2<=4
def scuC.r0(a:AB×Int):AV:=if (CU a.1 a.2.toNat).2=true then .tup [.agg [.own 3],.im (.int .i64 0)] else .im (.tup [.agg [.sl true 0 []],.int .i64 4])
def scuC.H1(a:AB×Int):An:=if (CU a.1 a.2.toNat).2=true then [(3,(true,.arr 119 3 ((DI (Bu a.2.toNat a.1.Tiles)).map Al.c)))] else []
def scuC.row:AF:=AD scuC.ca (λ_=>[]) 0 scuC.pre (λ_=>false) scuC.r0 scuC.H1 100
def QE:=J @bcd_.q<|J @bcd_.fv.eq_1<|J @cls_.q<|J @cls_.fv.eq_1<|J @ptof_.q<|J @ptof_.fv.eq_1<|J @hfF_.q @hfF_.fv.eq_1
def scuC.ok:AL 44 scuC.row:=by
 refine P6 (tC bcd_.ok (tC cls_.ok (tC ptof_.ok (tC asmXV.ok (tC hfF_.ok tN))))) Tryz.func44 (exB:=λj=>j==3) (R:=λa r=>r=scuC.r0 a) (λ_=>rfl)
  (λa=>by simp[scuC.ca,AB.c,AA,AV.bel,Aw,B6,BT,Ac.nms,Au,AV.nms,Aj,hget]) (λa p hp=> ?_) (λa r h=>by subst h;exact CN.refl _) ?_
 rotate_left
 intro a aa;simp only[Tryz.f44,Option.getD,scuC.ca,AB.c];simp(maxSteps:=9^9)(disch:=omega)only[ZZ,simprocAttr,Ab,QE,Bs,Aq,scuC.ca,AB.c];rotate_left
 .simp only[scuC.H1] at hp;split at hp
  .simp only[BS] at hp;subst hp;exact .inr ⟨by omega,by omega,rfl,rfl⟩
  .cases hp
 obtain⟨a,k⟩:=a;obtain⟨⟨O,h2⟩,hk⟩:=aa;simp only at O h2 hk⊢;obtain⟨n,rfl⟩: ∃n:Nat,k=n:=⟨k.toNat,by omega⟩;have hn:1<=n/\n<=4:=by omega
 have hw:Bz (n:Int) 1 4=true:=by simp[Bz];omega
 have ai:n*n<=16:=by rcases (by omega:n=1\/n=2\/n=3\/n=4) with rfl|rfl|rfl|rfl<;>decide
 rw[Ai (show Dm none a.Tiles=true/\a.Tiles.length<=500 from ⟨O,h2⟩),Ai hw,Af (by simp)];intro _;refine Ba.ren ⟨{i:Nat//i<=a.Tiles.length},λi=>⟨[(23,.im (.int .i64 i.1)),(22,.im (.int .i64 a.Tiles.length)),(21,.im (.sl false 3 (a.Tiles.map Al.c))),(7,.own 3),(5,.im (.int .i64 0)),(4,.ptr 1 0),(1,.im (.int .i64 n))],[(3,(true,.arr 119 3 ((Bu n (a.Tiles.take i.1)).map Al.c))),(1,(true,.cells 38 [.im (.sl true 0 [])]))],4⟩,λi=>a.Tiles.length - i.1,λi=>⟨by simp[ZG],by simp⟩,⟨⟨0,C5 _⟩,[(3,some 2)],?_⟩,λi=> ?_⟩
 .simp only[Av,Bu,E5,Zec,BF];simp(maxSteps:=9^9)(disch:=omega)only[ZZ,simprocAttr,Ab,QE,Bs,Aq,scuC.ca,AB.c,AS,AR]
 obtain⟨i,hi⟩:=i;have ad:IntKind.i64.wrap ((i:Int)+1)=((i+1:Nat):Int):=by rw[AG (by omega) (by omega)];omega
 simp(maxSteps:=9^9)(disch:=omega)only[ZZ,simprocAttr,Ab,QE,Bs,Aq,scuC.ca,AB.c,sub,AP];have ag:(Bu n (a.Tiles.take i)).length<=8000:=by
  rw[eG,Cu]
  have:min i a.Tiles.length<=500:=by omega
  generalize min i a.Tiles.length=m at this;rcases (by omega:n=1\/n=2\/n=3\/n=4) with rfl|rfl|rfl|rfl<;>omega
 refine⟨λZ=>⟨Z,λx hx=>⟨hk,?_⟩⟩,λZ=> ?_⟩
 .have ah:=Bg hx;have Q:=lP _ _ O x ah;simp only[Ic,Bz,AY,CF] at Q;obtain⟨⟨⟨f1,f2⟩,f3,f4⟩,f5,f6⟩:=Q;rw[Jc];intro _;refine Ba.ren ⟨{c:Nat//c<=n*n},λc=>⟨[(30,.im (.int .i64 c.1)),(29,.im (.int .i64 ((n*n:Nat):Int))),(28,.im (.sl false 2 ((Em n (n*n)).map AC.c))),(9,.ptr 4 0),(23,.im (.int .i64 i)),(22,.im (.int .i64 a.Tiles.length)),(21,.im (.sl false 3 (a.Tiles.map Al.c))),(7,.own 5),(5,.im (.int .i64 0)),(4,.ptr 1 0),(1,.im (.int .i64 n))],[(4,(true,.cells 119 [.im (.int .i64 x.At.X),.im (.int .i64 x.At.Y),.im (.int .i64 x.Tile)])),(5,(true,.arr 119 3 ((Bu n (a.Tiles.take i)++(List.range c.1).map (Kg n x)).map Al.c))),(1,(true,.cells 38 [.im (.sl true 0 [])]))],6⟩,λc=>n*n - c.1,λc=>⟨by simp[ZG],by simp⟩,⟨⟨0,C5 _⟩,[(5,some 3)],?_⟩,λc=> ?_⟩
  .simp only[Av,ES,BF,DJ];simp(maxSteps:=9^9)(disch:=omega)only[ZZ,simprocAttr,Ab,QE,Bs,Aq,scuC.ca,AB.c,AS,AR]
   try exact⟨rfl,rfl⟩
  obtain⟨c,hc⟩:=c;have ac:IntKind.i64.wrap ((c:Int)+1)=((c+1:Nat):Int):=by rw[AG (by omega) (by omega)];omega
  have e4:IntKind.i64.wrap (IntKind.i64.wrap (IntKind.i64.wrap (x.Tile*(n:Int))*n)+c)=x.Tile*n*n+c:=by
   rcases (by omega:n=1\/n=2\/n=3\/n=4) with rfl|rfl|rfl|rfl<;>simp (disch:=omega) only[AG]
  have hcl:=Jc n (n*n);simp(maxSteps:=9^9)(disch:=omega)only[ZZ,simprocAttr,Ab,QE,Bs,Aq,scuC.ca,AB.c,sub,AP,e4];refine⟨λab=>⟨by omega,λp hp=> ?_⟩,λab=> ?_⟩
  .obtain rfl:=WU (by omega) hp;have d1:=bF c n;have d2:=bH c (show n>0 by omega);have d3:(0:Int)<=((c/n:Nat):Int):=ZdK _;have hd:c/n<=10:=by rcases (by omega:n=1\/n=2\/n=3\/n=4) with rfl|rfl|rfl|rfl<;>omega
   have hr:List.map Al.c (Bu n (a.Tiles.take i)++(List.range c).map (Kg n x))++[[D.int .i64 ((n:Int)*x.At.X+(Eo n c).X),D.int .i64 ((n:Int)*x.At.Y+(Eo n c).Y),D.int .i64 (x.Tile*n*n+c)]]=(Bu n (a.Tiles.take i)++(List.range (c+1)).map (Kg n x)).map Al.c:=by
    rw[Fg,<-Ka,DX (l₁:=Bu n (a.Tiles.take i)++_)];simp only[Be,BF,Al.c,Kg,Eo,Int.mul_comm (n:Int)]
   refine⟨⟨⟨by omega,by omega,by omega,by omega⟩,⟨by simp only[Eo];omega,by simp only[Eo];omega,by simp only[Eo];omega,by simp only[Eo];omega⟩,hk⟩,?_⟩;refine⟨by simp only[Ez,GL,Jp];omega,⟨c+1,by omega⟩,[(5,some 8)],by simp only;omega,?_⟩;simp only[Av];simp(maxSteps:=9^9)(disch:=omega)only[ZZ,simprocAttr,Ab,QE,Bs,Aq,scuC.ca,AB.c,AS,AR,ac,hr]
  .obtain rfl:c=n*n:=by omega
   refine⟨⟨i+1,by omega⟩,[(3,some 5)],by simp only;omega,?_⟩;simp only[Av];simp(maxSteps:=9^9)(disch:=omega)only[ZZ,simprocAttr,Ab,QE,Bs,Aq,scuC.ca,AB.c,AS,AR,ad,dY hx]
 .obtain rfl:i=a.Tiles.length:=by omega
  rw[IM];have af:=eB hn (Qix O);rw[IM] at ag;refine Fy.os [.val (.sl false 3 ((Bu n a.Tiles).map Al.c))] (xK rfl) (Bu n a.Tiles) (by simp only[asmXV.ar,a1,kS,Al.d_R,Gw]) ⟨af,by omega⟩ ?_;have z:=Vb hn (Qix O) (λx hx=>by have:=(lP _ _ O x hx).2;simp only[Bz,AY,CF] at this;exact this.1);simp(maxSteps:=9^9)(disch:=omega)only[ZZ,simprocAttr,Ab,QE,Bs,Aq,scuC.ca,AB.c,asmX.r0,asmX.H1,sub];rw[z];by_cases c9:(CU a n).2=true
  .rw[Af (by rw[c9];decide)];refine⟨[],[(3,some 4),(4,some 1)],⟨[(5,.im (.int .i64 0)),(4,.ptr 4 0)],[(4,(true,.cells 38 [.own 3])),(3,(true,.arr 119 3 ((DI (Bu n a.Tiles)).map Al.c)))],5⟩,?_,by simp[ZG],by simp,?_⟩
   .simp only[Av];simp(maxSteps:=9^9)(disch:=omega)only[ZZ,simprocAttr,Ab,QE,Bs,Aq,scuC.ca,AB.c,AS,AR]
   .simp only[scuC.H1,scuC.r0,Bq,Ai c9];simp(maxSteps:=9^9)(disch:=omega)only[ZZ,simprocAttr,Ab,QE,Bs,Aq,scuC.ca,AB.c]
    try exact⟨rfl,rfl⟩
  .rw[Ai (by simpa using c9)];refine⟨[],[],⟨[(5,.im (.int .i64 4)),(4,.ptr 1 0)],[(1,(true,.cells 38 [.im (.sl true 0 [])]))],2⟩,?_,by simp[ZG],by simp,?_⟩
   .simp only[Av];simp(maxSteps:=9^9)(disch:=omega)only[ZZ,simprocAttr,Ab,QE,Bs,Aq,scuC.ca,AB.c,AS,AR]
   .simp only[scuC.H1,scuC.r0,Bq,Af c9];simp(maxSteps:=9^9)(disch:=omega)only[ZZ,simprocAttr,Ab,QE,Bs,Aq,scuC.ca,AB.c]
    try exact⟨rfl,rfl⟩
end Go.Ae
namespace Go.Ae
open Go.Proofs
def pR(k:Int)(n:Nat):El (Gi k n) k=k+n:=by
 simp only[El,Oq,BD]
def needX.pre(a:Kx):Prop:=(∀o∈a.Seq,Ry o.At)/\a.Inputs.length=a.Seq.length/\a.Seq.length<=500
def M7(π:List (Nat×Option Nat)): ∀a b:An,DC π (a++b)=DC π a++DC π b
 |[],_=>rfl
 |(n,_)::r,b=>by simp only[BO,DC,M7 π r b]
def dO: ∀a b:List (Option Nat),Cj a=true->Cj b=true->(∀m,some m∈a->some m∉b)->Cj (a++b)=true
 |[],_,_,h,_=>h
 |none::r,b,z,Q,O=>by
  simp only[BO,Cj] at z⊢;exact dO r b z Q λm Z=>O m (BQ _ Z)
 |some x::r,b,z,Q,O=>by
  simp only[BO,Cj,AY,QJ,List.contains_eq_mem,B7,Kd] at z⊢;refine⟨λh=> ?_,dO r b z.2 Q λm Z=>O m (BQ _ Z)⟩;rcases h with h|h
  .exact z.1 h
  .exact O x (BU ..) h
def Hk{lo:Nat}{π:List (Nat×Option Nat)}{s:Az}{tm:List (Nat×AV)}{A:An}{b n nx:Nat}{f:Nat->Am}(g:Nat->Nat)(ab:GU lo π)(hA:Cj (DC π A)=true)(z: ∀i,i<n->pm π (b+i)=some (g i))(hg: ∀i j,i<n->j<n->g i=g j->i=j)
 (hd: ∀m,some m∈DC π A-> ∀i,i<n->g i≠m)(hT:GH π s tm)(aa:EJ π s A)(hE: ∀i,i<n->Cx s π (f i).1 (f i).2 (some (g i))):Av lo π s ⟨tm,A++A8 b n f,nx⟩:=by
 have e:DC π (A8 b n f)=(List.range n).map λi=>pm π (b+i):=by
  rw[aD,Xh,Hu];rfl
 refine⟨ab,?_,hT,?_⟩
 .simp only;rw[M7,e];refine dO _ _ hA (aI _ _ Zed λx Q y Z m h1 h2=> ?_) λm hm h=> ?_
  .have Q:=Bc.1 Q;have Z:=Bc.1 Z;rw[z x Q] at h1;rw[z y Z] at h2;exact hg x y Q Z (AJ (h1.trans h2.symm))
  .obtain⟨i,O,h⟩:=Bl.1 h;have O:=Bc.1 O;rw[z i O] at h;exact hd m hm i O (AJ h)
 .simp only;rw[Qns];exact⟨aa,(ZY _ _ _ _ _).2 λi O=>by rw[z i O];exact hE i O⟩
def WK{N b n:Nat}{f:Nat->Am}{tm:List (Nat×AV)}{A:An}(Q:Cv N tm=true)(z:Aw N A=true)(O:B6 N A=true)(hf: ∀i,Aw N [(b+i,f i)]=true)(h:b+n<=N):Az.good ⟨tm,A++A8 b n f,N⟩=true:=by
 simp only[Az.good,lU,zV,Q,z,O,EL,AY];exact⟨O5 _ _ _ hf _,O2 _ _ _ _ h⟩
def Fz{b n k:Nat}{f:Nat->Am}(h:k<b\/b+n<=k):AW (A8 b n f) [k]=A8 b n f:=HU _ _ _ _ λx z=>by rw[BS] at z;subst z;exact h
end Go.Ae
