/- Lemmas. Conditions: none. -/
import Derived.Test.YtelbgmfdnnljoaaGreatDoorP12
import Derived.Shelf.SlSortCmp.WholeK
import Derived.Shelf.SlicesG.Cmp
import Derived.StillTailTactics
import Derived.Lib.Small
import Derived.Lib.Walk
import Derived.Shelf.SlSortCmp.NoneTotal
set_option linter.all false
set_option maxHeartbeats 8000000
set_option maxRecDepth 100000
namespace Go.Proofs
open Go.Shelf
def Tryz.sortPl_ren:Go.Shelf.Ren:=⟨λ|6=>89|15=>125|14=>124|28=>158|29=>159|20=>150|21=>151|22=>152|23=>153|24=>154|25=>155|26=>156|27=>157|46=>174|47=>175|48=>176|49=>177|50=>178|57=>189|n=>n,λ|22=>36|24=>89|25=>148|3=>3|39=>183|0=>0|53=>220|55=>222|4=>4|46=>213|45=>212|50=>217|5=>5|9=>9|66=>240|70=>244|76=>258|77=>259|n=>n,λ|n=>n⟩
def Tryz.sortPl:Go.Proofs.SlLaysF0.n6 Tryz.prog Tryz.sortPl_ren:={
 mixed:=by kernel_rfl
 f6:=⟨Tryz.f89.name,by decide,Tryz.func89.trans (De some (by kernel_rfl))⟩
 f14:=⟨Tryz.f124.name,by decide,Tryz.func124.trans (De some (by kernel_rfl))⟩
 f15:=Tryz.func125.trans (De some (by kernel_rfl))
 f20:=⟨Tryz.f150.name,by decide,Tryz.func150.trans (De some (by kernel_rfl))⟩
 f21:=⟨Tryz.f151.name,by decide,Tryz.func151.trans (De some (by kernel_rfl))⟩
 f22:=⟨Tryz.f152.name,by decide,Tryz.func152.trans (De some (by kernel_rfl))⟩
 f23:=⟨Tryz.f153.name,by decide,Tryz.func153.trans (De some (by kernel_rfl))⟩
 f24:=⟨Tryz.f154.name,by decide,Tryz.func154.trans (De some (by kernel_rfl))⟩
 f25:=⟨Tryz.f155.name,by decide,Tryz.func155.trans (De some (by kernel_rfl))⟩
 f26:=⟨Tryz.f156.name,by decide,Tryz.func156.trans (De some (by kernel_rfl))⟩
 f27:=⟨Tryz.f157.name,by decide,Tryz.func157.trans (De some (by kernel_rfl))⟩
 f28:=Tryz.func158.trans (De some (by kernel_rfl))
 f29:=Tryz.func159.trans (De some (by kernel_rfl))
 f46:=⟨Tryz.f174.name,by decide,Tryz.func174.trans (De some (by kernel_rfl))⟩
 f47:=Tryz.func175.trans (De some (by kernel_rfl))
 f48:=Tryz.func176.trans (De some (by kernel_rfl))
 f49:=⟨Tryz.f177.name,by decide,Tryz.func177.trans (De some (by kernel_rfl))⟩
 f50:=⟨Tryz.f178.name,by decide,Tryz.func178.trans (De some (by kernel_rfl))⟩
 f57:=⟨Tryz.f189.name,by decide,Tryz.func189.trans (De some (by kernel_rfl))⟩
 t0:=Tryz.underlying0
 a0:=Tryz.isAgg0
 z0:=Tryz.sizeOf0
 v0:=Tryz.zeroValue0
 t3:=Tryz.underlying3
 a3:=Tryz.isAgg3
 z3:=Tryz.sizeOf3
 v3:=Tryz.zeroValue3
 t4:=Tryz.underlying4
 a4:=Tryz.isAgg4
 z4:=Tryz.sizeOf4
 v4:=Tryz.zeroValue4
 t5:=Tryz.underlying5
 a5:=Tryz.isAgg5
 z5:=Tryz.sizeOf5
 v5:=Tryz.zeroValue5
 t9:=Tryz.underlying9
 a9:=Tryz.isAgg9
 z9:=Tryz.sizeOf9
 v9:=Tryz.zeroValue9
 t22:=Tryz.underlying36
 a22:=Tryz.isAgg36
 z22:=Tryz.sizeOf36
 v22:=Tryz.zeroValue36
 t25:=Tryz.underlying148
 a25:=Tryz.isAgg148
 z25:=Tryz.sizeOf148
 v25:=Tryz.zeroValue148
 t39:=Tryz.underlying183
 a39:=Tryz.isAgg183
 z39:=Tryz.sizeOf183
 v39:=Tryz.zeroValue183
 t45:=Tryz.underlying212
 a45:=Tryz.isAgg212
 z45:=Tryz.sizeOf212
 v45:=Tryz.zeroValue212
 t46:=Tryz.underlying213
 a46:=Tryz.isAgg213
 z46:=Tryz.sizeOf213
 v46:=Tryz.zeroValue213
 t50:=Tryz.underlying217
 a50:=Tryz.isAgg217
 z50:=Tryz.sizeOf217
 v50:=Tryz.zeroValue217
 t53:=Tryz.underlying220
 a53:=Tryz.isAgg220
 z53:=Tryz.sizeOf220
 v53:=Tryz.zeroValue220
 t55:=Tryz.underlying222
 a55:=Tryz.isAgg222
 z55:=Tryz.sizeOf222
 v55:=Tryz.zeroValue222
 t66:=Tryz.underlying240
 a66:=Tryz.isAgg240
 z66:=Tryz.sizeOf240
 v66:=Tryz.zeroValue240
 t70:=Tryz.underlying244
 a70:=Tryz.isAgg244
 z70:=Tryz.sizeOf244
 v70:=Tryz.zeroValue244
 t76:=Tryz.underlying258
 a76:=Tryz.isAgg258
 z76:=Tryz.sizeOf258
 v76:=Tryz.zeroValue258
 t77:=Tryz.underlying259
 a77:=Tryz.isAgg259
 z77:=Tryz.sizeOf259
 v77:=Tryz.zeroValue259}
def Tryz.cmpI64_ren:Go.Shelf.Ren:=⟨λ|5=>127|7=>160|n=>n,λ|22=>2|3=>3|4=>4|n=>n,λ|n=>n⟩
def Tryz.cmpI64:Go.Proofs.SlLaysC2.n5 Tryz.prog Tryz.cmpI64_ren:={
 mixed:=by kernel_rfl
 f5:=⟨Tryz.f127.name,by decide,Tryz.func127.trans (De some (by kernel_rfl))⟩
 f7:=⟨Tryz.f160.name,by decide,Tryz.func160.trans (De some (by kernel_rfl))⟩
 t3:=Tryz.underlying3
 a3:=Tryz.isAgg3
 z3:=Tryz.sizeOf3
 v3:=Tryz.zeroValue3
 t4:=Tryz.underlying4
 a4:=Tryz.isAgg4
 z4:=Tryz.sizeOf4
 v4:=Tryz.zeroValue4
 t22:=Tryz.underlying2
 a22:=Tryz.isAgg2
 z22:=Tryz.sizeOf2
 v22:=Tryz.zeroValue2}
end Go.Proofs
namespace Go.Proofs
open Go.Shelf Go.RowKit Go.Lib Go.Sort
def Tryz.cmp64(x y:Int)(W:World):Calls Tryz.prog 127 #[.int .i64 x,.int .i64 y] W λe w'=>e= .returned (.int .i64 (Lib.compareInt x y))/\w'=W:=
 AnyG.cmp_Compare_int Tryz.cmpI64 x y W
def Tryz.orTwo(b:Nat)(x y:Int)(W:World)(h0:W.cell? ⟨b,0,none⟩=some (.int .i64 x))(z:W.cell? ⟨b,1,none⟩=some (.int .i64 y)):
 Calls Tryz.prog 126 #[.slice (some ⟨b,0,none⟩) 2 2] W λe w'=>e= .returned (.int .i64 (if x=0 then y else x))/\w'=W:=by
 go_enter Tryz.func126,Tryz.ntmps126
 go_wp2
 refine wp_loop_rounds 3 ?_;rw[rounds_succ]
 go_wp2
 all_goals (try rw[rounds_succ])
 all_goals (try go_wp2)
 all_goals (try rw[rounds_succ])
 all_goals (try go_wp2)
 all_goals (go_ret;refine⟨?_,rfl⟩;simp_all)
def Pu(W:World)(a b a' b':Value)(T:TypeId):
 let z:=((W.alloc (Obj.cells #[a,b] T)).alloc (Obj.cells #[a',b'] T)).drew
 z.cell? ⟨W.heap.size,0,none⟩=some a/\z.cell? ⟨W.heap.size,1,none⟩=some b/\z.cell? ⟨W.heap.size+1,0,none⟩=some a'/\z.cell? ⟨W.heap.size+1,1,none⟩=some b'/\
  ∃G,z=grow (W.drewN 1) G:=by
 have e:((W.alloc (Obj.cells #[a,b] T)).alloc (Obj.cells #[a',b'] T)).drew=grow (W.drewN 1) #[Obj.cells #[a,b] T,Obj.cells #[a',b'] T]:=by
  rw[alloc_eq_grow,alloc_eq_grow,grow_grow];rfl
 have h0:(W.heap++ #[Obj.cells #[a,b] T,Obj.cells #[a',b'] T])[W.heap.size]? =some (Obj.cells #[a,b] T):=by
  rw[Zeh (AP _),J4];rfl
 have O:(W.heap++ #[Obj.cells #[a,b] T,Obj.cells #[a',b'] T])[W.heap.size+1]? =some (Obj.cells #[a',b'] T):=by
  rw[Zeh (jP _),show W.heap.size.succ - W.heap.size=1 by omega];rfl
 simp only[e];refine⟨?_,?_,?_,?_,_,rfl⟩<;>unfold World.cell? <;>simp only[grow,World.drewN,h0,O]<;>rfl
def Qvb(w:World)(a b:Value)(T:TypeId):(w.alloc (Obj.cells #[a,b] T)).cell? ⟨w.heap.size,0,none⟩=some a/\(w.alloc (Obj.cells #[a,b] T)).cell? ⟨w.heap.size,1,none⟩=some b:=by
 have h0:(w.heap.push (Obj.cells #[a,b] T))[w.heap.size]? =some (Obj.cells #[a,b] T):=by simp
 constructor<;>unfold World.cell? <;>simp only[World.alloc,h0]<;>rfl
def Nt(p q:Int×Int):Int:=if Lib.compareInt p.2 q.2=0 then Lib.compareInt p.1 q.1 else Lib.compareInt p.2 q.2
def Tryz.cmpPoints(x y x' y':Int)(W:World):Calls Tryz.prog 91 #[.agg #[.int .i64 x,.int .i64 y],.agg #[.int .i64 x',.int .i64 y']] W λe w'=>
 e= .returned (.int .i64 (Nt (x,y) (x',y')))/\ ∃q Q,w'=grow (W.drewN q) Q:=by
 have z:=λW'=>Tryz.cmp64 y y' W'
 have G:=λW'=>Tryz.cmp64 x x' W'
 unfold Nt;simp only;generalize Lib.compareInt y y'=r1 at z⊢;generalize Lib.compareInt x x'=r2 at G⊢;have O:=λ(b:Nat) W'=>Tryz.orTwo b r1 r2 W'
 generalize (if r1=0 then r2 else r1)=r at O⊢
 go_enter Tryz.func91,Tryz.ntmps91
 go_wp2
 refine wp_region_still_tail 10 (by kernel_rfl) (by kernel_rfl) ?_;simp only[EG,Eo,Lg,Gf];obtain⟨d1,d2,d3,d4,Z⟩:=Pu W (.int .i64 x) (.int .i64 y) (.int .i64 x') (.int .i64 y') 72;change wpStill _ _ ((W.alloc (Obj.cells #[Value.int IntKind.i64 x,Value.int IntKind.i64 y] 72)).alloc (Obj.cells #[Value.int IntKind.i64 x',Value.int IntKind.i64 y'] 72)).drew (λa'=>wpList _ _ _ _ a' ((W.alloc (Obj.cells #[Value.int IntKind.i64 x,Value.int IntKind.i64 y] 72)).alloc (Obj.cells #[Value.int IntKind.i64 x',Value.int IntKind.i64 y'] 72)).drew) _ _;generalize ((W.alloc (Obj.cells #[Value.int IntKind.i64 x,Value.int IntKind.i64 y] 72)).alloc (Obj.cells #[Value.int IntKind.i64 x',Value.int IntKind.i64 y'] 72)).drew=w3 at d1 d2 d3 d4 Z⊢
 still_step
 still_step
 still_step
 still_step
 still_call (z _)
 still_step
 still_step
 still_step
 still_step
 still_call (G _)
 refine wpStill_nil ?_
 go_wp2_with (go_at_call 126;refine (O _ _ (Qvb _ _ _ _).1 (Qvb _ _ _ _).2).mono ?_;rintro e w' ⟨rfl,rfl⟩)
 go_ret
 obtain⟨aa,rfl⟩:=Z;exact⟨rfl,1,_,by rw[alloc_eq_grow,grow_grow]⟩
def Tryz.cmpPlaced90(x y t x' y' t':Int)(W:World):Calls Tryz.prog 90 #[.agg #[.int .i64 x,.int .i64 y,.int .i64 t],.agg #[.int .i64 x',.int .i64 y',.int .i64 t']] W λe w'=>
 e= .returned (.int .i64 (Nt (x,y) (x',y')))/\ ∃q G,w'=grow (W.drewN q) G:=by
 have z:=λW'=>Tryz.cmpPoints x y x' y' W'
 generalize Nt (x,y) (x',y')=r at z⊢
 go_enter Tryz.func90,Tryz.ntmps90
 go_wp2_with (go_at_call 91;refine (z _).mono ?_;rintro e w' ⟨rfl,q,G,rfl⟩)
 go_ret
 exact⟨rfl,q,_,by rw[alloc_eq_grow,alloc_eq_grow,grow_grow];show grow (grow (W.drewN q) _) G=_;rw[grow_grow]⟩
end Go.Proofs
namespace Go.Ae
open Go.Proofs Go.Sort Go.Shelf
instance:Inhabited Al:=⟨⟨⟨0,0⟩,0⟩⟩
def CN(x:Al):List Value:=[.int .i64 x.At.X,.int .i64 x.At.Y,.int .i64 x.Tile]
def zO(x y:Al):Int:=Nt (x.At.X,x.At.Y) (y.At.X,y.At.Y)
def yD(x y:Al):ltOf zO x y=Cb x.At y.At:=by
 simp only[ltOf,zO,Nt,Lib.compareInt,Cb]
 grind
def swoP:SWO (ltOf zO) where
 irrefl x:=by rw[yD];simp only[Cb];grind
 trans x y z h1 h2:=by rw[yD] at*;simp only[Cb] at*;grind
 ntrans x y z h1 h2:=by rw[yD] at*;simp only[Cb] at*;grind
def Dw(l:List Al):List Al:=l.foldr (λx r=>Eh x.At x.Tile r) []
def oZ(x:Al): ∀(l:List Al),(Eh x.At x.Tile l).Perm (x::l)
 |[]=>zC _
 |y::r=>by
  simp only[Eh];split
  .exact zC _
  .exact ((oZ x r).cons y).trans (List.Perm.swap x y r)
def Y8: ∀(l:List Al),(Dw l).Perm l
 |[]=>zC _
 |x::r=>(oZ x (Dw r)).trans ((Y8 r).cons x)
def Quq{a b c:A7}(z:Cb a b=true)(G:Cb c b=false):Cb c a=false:=by
 simp only[Cb] at*;grind
def qM(x:Al): ∀(l:List Al),l.Pairwise (λa b=>Cb b.At a.At=false)->(Eh x.At x.Tile l).Pairwise (λa b=>Cb b.At a.At=false)
 |[],_=>by simp[Eh]
 |y::r,h=>by
  rw[rM] at h;simp only[Eh];split
  .rename_i O;rw[rM,rM];refine⟨λz G=> ?_,h⟩;have Q:Cb y.At x.At=false:=by simp only[Cb] at*;grind
   rcases Bt.1 G with rfl|G
   .exact Q
   .have:=h.1 z G
    exact Quq O this
  .rename_i O;rw[rM];refine⟨λz G=> ?_,qM x r h.2⟩;rcases (Qlc _ _ _ _).1 G with rfl|G
   .simpa using O
   .exact h.1 z G
def pB: ∀(l:List Al),(Dw l).Pairwise (λa b=>Cb b.At a.At=false)
 |[]=>List.Pairwise.nil
 |x::r=>qM x _ (pB r)
def ZS(l:List Al):(Dw l).length=l.length:=(Y8 l).length_eq
def QU{l:List Al}(h:(l.map Al.At).Nodup){x y:Al}(Z:x∈l)(hy:y∈l)(Q:x.At=y.At):x=y:=by
 induction l with
 |nil=>cases Z
 |cons z r ih=>
  rw[Bb,Zj] at h;rcases Bt.1 Z with G|G<;>rcases Bt.1 hy with O|O
  .rw[G,O]
  .exact absurd (show z.At∈r.map Al.At by rw[<-G,Q];exact Zem O) h.1
  .exact absurd (show z.At∈r.map Al.At by rw[<-O,<-Q];exact Zem G) h.1
  .exact ih h.2 G O
def vQ{l l':List Al}(hd:(l.map Al.At).Nodup)(hp:l'.Perm l)(hs:l'.Pairwise (λa b=>Cb b.At a.At=false)):l'=Dw l:=by
 refine List.Perm.eq_of_pairwise (le:=λa b=>Cb b.At a.At=false) (λa b Z hb O Q=> ?_) hs (pB l) (hp.trans (Y8 l).symm);refine QU hd (hp.mem_iff.1 Z) ((Y8 l).mem_iff.1 hb) ?_;revert O Q;obtain⟨⟨ax,ay⟩,z⟩:=a;obtain⟨⟨bx,G⟩,bt⟩:=b;simp only[Cb,A7.mk.injEq]
 grind
def RE(l:List Al):List Value:=l.flatMap CN
def L8(l:List Al):(RE l).length=l.length*3:=by
 induction l with
 |nil=>rfl
 |cons x r ih=>simp only[RE,J1,DZ,Dd] at ih⊢;rw[ih];simp[CN];omega
def Ql5{ok:Nat->Prop}{hp:Nat->Option Obj}: ∀(l:List Al) (L:List Value),rdr ok hp 3 (l.map Al.c) L↔ ∃r,L=RE l++r
 |[],L=>by simp[rdr,RE]
 |x::r,L=>by
  simp only[Bb,rdr,Ql5 r,Al.c,rdp,rd,RE,J1];constructor
  .rintro⟨_,⟨v,z,rfl,rfl,Q,G,rfl,rfl,Z,O,rfl,rfl,_⟩,q,hq⟩;exact⟨q,by simp only[Lg,Gf] at hq;rw[hq];rfl⟩
  .rintro⟨q,rfl⟩;exact⟨rfl,⟨_,_,rfl,rfl,_,_,rfl,rfl,_,_,rfl,rfl,trivial⟩,q,rfl⟩
def L7: ∀(l:List Al) (t:Nat),t<l.length*3->(RE l)[t]? =some ((CN (l[t/3]?.getD default))[t % 3]!)
 |[],t,h=>by simp at h
 |x::r,t,h=>by
  by_cases O:t<3
  .have:t=0\/t=1\/t=2:=by omega
   rcases this with rfl|rfl|rfl<;>simp[RE,CN]
  .obtain⟨u,rfl⟩: ∃u,t=u+3:=⟨t - 3,by omega⟩;have z:(u+3)/3=u/3+1:=by omega
   have G:(u+3) % 3=u % 3:=by omega
   have ih:=L7 r u (by simp at h;omega);rw[z,G,PG,<-ih];simp[RE,CN]
def Qvu(l:List Al):(flatK CN 3 l.toArray).toList=RE l:=by
 apply QI;intro t;by_cases z:t<l.length*3
 .rw[L7 l t z];have G:t<(flatK CN 3 l.toArray).size:=by simp only[size_flatK,Zf];exact z
  have O:=get_flatK CN 3 l.toArray t (by simpa using z);rw[Kk,PH G,<-getElem!_pos (flatK CN 3 l.toArray) t G,O];congr 3;simp[getElem!_def];cases l[t/3]? <;>rfl
 .have a1:(flatK CN 3 l.toArray).toList.length<=t:=by rw[EE,size_flatK,Zf];omega
  have a2:(RE l).length<=t:=by rw[L8];omega
  rw[HB a1,HB a2]
def srt.ca(_:List Al):List AV:=[.own 0,.im (.fn 90 [] [])]
def srt.H0(a:List Al):Ao:=[(0,(true,.arr 89 3 (a.map Al.c)))]
def srt.H1(a:List Al):Ao:=[(0,(true,.arr 89 3 ((Dw a).map Al.c)))]
def srt.row:AE:=AL srt.ca srt.H0 1 (λa=>(a.map Al.At).Nodup) (λ_=>true) (λ_=> .im (.tup [])) srt.H1 0
def srt.ok:AI 89 srt.row:=by
 rintro args h nx K ⟨a,τ,U,KL,a0,rfl,O,hN,hK⟩;refine⟨YH (by kernel_rfl),_,_,?_,hK⟩;intro C S vs R hW a9 bb bc aa aw;have ao:B0 τ 1 nx 0=τ 0:=Ai (by omega);simp only[srt.ca,AH,AV.ren,ao,AN,Aa,rd,rdl] at aa;obtain⟨v0,r0,hv,⟨ad,ai⟩,v1,r1,bi,⟨ac,cc,bl,aj,ak⟩,bj⟩:=aa;have aj:ac= #[]:=by apply Zl;simpa using aj
 have ak:cc= #[]:=by apply Zl;simpa using ak
 subst aj ak bj bi bl;have bm:vs= #[v0,.func (Xa 90) #[] #[]]:=by apply Zl;simpa using hv
 subst bm;have hm:h (τ 0)=some (true,.arr 89 3 (a.map Al.c)):=by
  have:=O.1
  rwa [ao] at this
 have av:Aj (srt.H0 a) 0=true:=rfl;have Q:S.h (τ 0)=some (true,.arr 89 3 (a.map Al.c)):=by
  rw[a9 (τ 0) (Ki _ (hN.u 0 av)),hm]
 have ax: ∀n,n∈KL↔n=τ 0:=by
  intro n;constructor
  .intro hn;obtain⟨j,h1,_,h3⟩:=hN.k1 n hn
   have:j=0:=by
    simp only[Aj,srt.H0,hget] at h1;by_cases hj:j=0
    .exact hj
    .have:(0==j)=false:=by simpa using λh=>hj h.symm
     rw[this] at h1;cases h1
   rw[h3,this]
  .rintro rfl;exact hN.k2 0 av rfl
 obtain⟨m,hmm⟩: ∃m,m=τ 0:=⟨_,rfl⟩;rw[<-hmm] at Q ai ax;have aq:=ZS a;have fin: ∀(w':World),Kb S m (.arr 89 3 ((Dw a).map Al.c)) (S.ρ m) [m] w'->
  (BE (λn=>S.h m≠none\/n≠m) S (S.one m (.arr 89 3 ((Dw a).map Al.c)) (S.ρ m) [m] w')->An (S.one m (.arr 89 3 ((Dw a).map Al.c)) (S.ρ m) [m] w') (S.ρ m) (.arr 89 3 ((Dw a).map Al.c)))->R (.returned (.tuple #[])) w':=by
  intro w' ad bh;have hp:=gW hW ad;refine aw (.tuple #[]) _ (pU hW ad (bh hp)) ?_ ⟨hp.ok,λn _=>hp.nm n (.inl (by rw[Q];simp))⟩ ⟨#[],rfl,rfl⟩;funext n;simp only[Ay.one,Bv.appf,srt.H1,AX,ao,hget,Ac.ren,<-hmm];by_cases hn:n=m
  .subst hn;simp
  .have h1:(m==n)=false:=by simpa using λh=>hn h.symm
   have h2:KL.contains n=false:=by
    rw[<-jJ,IC,ax];exact hn
   simp only[h1,Bs,h2,hn,CA,BL]
 have z:=ai _ Q;have Z:=hW.obj _ _ Q;have az:=λG=>hW.loc m _ G Q
 cases hρ:S.ρ m with
 |none=>
  rw[hρ] at z Z;simp only[An] at Z;have ha:a=[]:=by simpa using Z.2
  subst ha;simp only at z;rw[z,cT (by decide)];refine (AnyF.slices_SortFunc_none Tryz.sortPl none 0 (.func (.func 90) #[] #[]) S.w).mono ?_;rintro e w' ⟨rfl,rfl⟩;refine fin S.w (Mq Q (λl hl=>by rw[hρ] at hl;cases hl) rfl rfl) (λ_=> ?_);rw[hρ];exact⟨Cz _,rfl⟩
 |some G=>
  rw[hρ] at z Z;simp only[An,Ac.len] at Z z;obtain⟨g1,g2,cv,g3,g4,g5⟩:=Z;obtain⟨an,bo⟩:=az G hρ;rw[Ql5] at g5;obtain⟨ba,g5⟩:=g5;simp only[Gh] at g1 g2 z;have O:S.w.heap[G.b]? =some (.cells cv 89 (0,0)):=g3;have bn:G.p+a.length*3<=cv.size:=by omega
  have hF:(flatK CN 3 a.toArray).size=a.length*3:=by simp
  have hget: ∀j,j<a.length*3->cv[G.p+j]? =some ((flatK CN 3 a.toArray)[j]!):=by
   intro j hj;have h1:(cv.toList.drop G.p)[j]? =(RE a++ba)[j]? :=by rw[g5]
   rw[W8,Kk,H6 (by rw[L8];exact hj),<-Qvu,Kk] at h1;rw[h1,PH (by rw[hF];exact hj),getElem!_pos _ _ (by rw[hF];exact hj)]
  have hH:HoldsK CN 3 S.w G.b G.p a.toArray:=by
   intro j hj;rw[hF] at hj;refine⟨?_,?_⟩
   .simp only[World.cell?,O,dM,CQ,CA,id];exact hget j hj
   .simp only[World.frozen?,O];simp
  have hc:=AnyQ.slices_SortFunc Tryz.sortPl 3 Tryz.isAgg89 Tryz.sizeOf89 CN (λ_=>rfl) (λx v hv=>by simp[CN] at hv;rcases hv with rfl|rfl|rfl<;>rfl) zO swoP 90 #[] G.b G.p G.cap a.toArray S.w
   (uP (YH (by kernel_rfl))) (λm os dk hs x y=>Tryz.cmpPlaced90 _ _ _ _ _ _ _) hH an (by simp only[Zf,Jr] at g1⊢;omega)
  rw[z,cT (by decide)];refine hc.mono ?_;rintro e w' ⟨rfl,d',n,os,af,au,rfl⟩;have a8:d'.size=a.length:=af.1;have bf:d'.toList=Dw a:=by
   refine vQ a0 ?_ ?_
   .have:=af.2.2
    rwa [show d'.extract 0 a.toArray.size=d' by rw[Zf,<-a8];exact Zew,show a.toArray.extract 0 a.toArray.size=a.toArray from Zew] at this
   .rw[List.pairwise_iff_getElem];intro i j hi hj bg
    have:=au i j (Cz _) bg (by rw[Zf,<-a8];simpa using hj)
    rw[yD,getElem!_pos d' i (by simpa using hi),getElem!_pos d' j (by simpa using hj)] at this;simpa using this
  obtain rfl:d'=(Dw a).toArray:=by apply Zl;rw[bf]
  have ah:(flatK CN 3 (Dw a).toArray).size=a.length*3:=by simp[aq]
  have am:(flatK CN 3 (Dw a).toArray).toList.length=a.length*3:=by rw[EE,ah]
  have ag:S.w.heap.size<=(sortWorldK CN 3 S.w G.b G.p n (Dw a).toArray os).heap.size:=by
   simp[sortWorldK,grow,putRowK,Sort.ahead]
  have hb: ∀b,b<S.w.heap.size->(sortWorldK CN 3 S.w G.b G.p n (Dw a).toArray os).heap[b]? =if G.b=b then S.w.heap[b]?.map (onCells (putCells id G.p (flatK CN 3 (Dw a).toArray))) else S.w.heap[b]? :=by
   intro b hb;have e0:b<(putRowK CN 3 (Sort.ahead S.w n) G.b G.p (Dw a).toArray).heap.size:=by simpa[putRowK,Sort.ahead] using hb
   simp only[sortWorldK,grow];rw[Zdu e0];simp only[putRowK,putRow,mapBlock,Sort.ahead,ZeO]
  refine fin _ ⟨rfl,rfl,rfl,zK _ _,ag,?_,.inl (by simp),?_,?_,?_⟩ ?_
  .intro b bd be;rw[hb b bd,Af (be m _ G (by simp) Q hρ)]
  .intro lo ay;rw[hρ] at ay;obtain rfl:=AB ay;exact⟨Fx an ag,.inr ⟨m,_,G,by simp,Q,hρ,rfl⟩⟩
  .intro f hf;rw[Q] at hf;obtain rfl:=AB hf;exact⟨rfl,rfl,by simp[Ac.len,aq]⟩
  .intro n' f _ ab;rw[Q] at ab;cases ab
  .intro _;rw[hρ];simp only[An,Gh,aq];refine⟨g1,g2,putCells id G.p (flatK CN 3 (Dw a).toArray) cv,?_,by simpa[putCells] using g4,?_⟩
   .simp only[Ay.one,Ay.hp];rw[hb G.b an,Ai rfl,O];rfl
   .rw[Ql5];refine⟨(cv.toList.drop (G.p+a.length*3)),?_⟩;apply QI;intro t;rw[W8,Kk,putCells,Array.getElem?_mapIdx,ah,<-Qvu];by_cases ht:t<a.length*3
    .rw[H6 (by rw[am];exact ht),Kk,PH (show G.p+t<cv.size by omega),PH (by rw[ah];exact ht)];simp only[D7,id];rw[Ai ⟨by omega,by omega⟩,yZ,getElem!_pos _ _ (by rw[ah];exact ht)]
    .rw[J2 (by rw[am];omega),am,W8,Kk,show G.p+a.length*3+(t - a.length*3)=G.p+t by omega];cases cv[G.p+t]? with
     |none=>rfl
     |some x=>simp only[D7];rw[Af (by omega)]
end Go.Ae
namespace Go.Ae
open Go.Proofs Go.Lib
def EI(s:Au)(k i d c:Nat):Int:=if 0<F8 s i d then (F8 s i d - 1)*k+(c:Nat)+1 else 0
def Gk(s:Au)(k i x y:Nat):Int:=if y<k - 1 then ((s.Glues.length*k+i*Bu k+(k*(k - 1)+(y*k+x))+1:Nat):Int) else EI s k i 0 x
def Gl(s:Au)(k i x y:Nat):Int:=if x<k - 1 then ((s.Glues.length*k+i*Bu k+(y*(k - 1)+x)+1:Nat):Int) else EI s k i 1 y
def Gm(s:Au)(k i x y:Nat):Int:=if 0<y then ((s.Glues.length*k+i*Bu k+(k*(k - 1)+((y - 1)*k+x))+1:Nat):Int) else EI s k i 2 x
def Gp(s:Au)(k i x y:Nat):Int:=if 0<x then ((s.Glues.length*k+i*Bu k+(y*(k - 1)+(x - 1))+1:Nat):Int) else EI s k i 3 y
def C7(s:Au)(k i x y:Nat):List Int:=[Gk s k i x y,Gl s k i x y,Gm s k i x y,Gp s k i x y]
def FY(s:Au)(i d c:Nat):ByteArray:=if F8 s i d=0 then ⟨#[45]⟩ else Ec ⟨#[103]⟩ (F8 s i d) (c:Nat)
def NX(s:Au)(k i x y:Nat):ByteArray:=if y=k - 1 then FY s i 0 x else Cg ⟨#[118]⟩ (i:Nat) (x:Nat) (y:Nat)
def NY(s:Au)(k i x y:Nat):ByteArray:=if x=k - 1 then FY s i 1 y else Cg ⟨#[104]⟩ (i:Nat) (x:Nat) (y:Nat)
def NZ(s:Au)(i x y:Nat):ByteArray:=if y=0 then FY s i 2 x else Cg ⟨#[118]⟩ (i:Nat) (x:Nat) ((y - 1:Nat):Int)
def Oa(s:Au)(i x y:Nat):ByteArray:=if x=0 then FY s i 3 y else Cg ⟨#[104]⟩ (i:Nat) ((x - 1:Nat):Int) (y:Nat)
def N1{s:Au}(hs:CY s)(i d:Nat):0<=F8 s i d/\F8 s i d<=s.Glues.length:=by
 simp only[F8,Bj];cases h:s.Tiles[i]? with
 |none=>simp
 |some t=>
  simp only[D7,AT];cases h2:t.Sides[d]? with
  |none=>simp
  |some g=>exact (hs.2.1 t (Bf h)).2 g (Bf h2)
def KH{s:Au}{k j:Nat}(z:1<=k/\k<=4)(G:j<Cv s k)(hn:(CB s k j).Name≠⟨#[45]⟩):E3 (Dg s k) (CB s k j).Name=((j+1:Nat):Int):=by
 rw[Ub _ rfl (mY z) (Ml s k z),Af hn,fW z G]
def VO{s:Au}{k i d c:Nat}(hs:CY s)(z:1<=k/\k<=4)(Z:c<k):E3 (Dg s k) (FY s i d c)=EI s k i d c:=by
 obtain⟨O,Q⟩:=N1 hs i d;obtain⟨g,hg⟩: ∃g:Nat,F8 s i d=g:=⟨(F8 s i d).toNat,by omega⟩;simp only[FY,EI,hg];rw[hg] at O Q;by_cases h0:g=0
 .subst h0;rw[Ai (by omega),Af (by omega),Ub _ rfl (mY z) (Ml s k z),Ai rfl]
 .rw[Af (by omega),Ai (by omega)];have hi:g - 1<s.Glues.length:=by omega
  have e:=FV (s:=s) z hi Z;have hj:(g - 1)*k+c<Cv s k:=by
   have:(g - 1+1)*k<=s.Glues.length*k:=HC _ (by omega)
   rw[Du,EH] at this;simp only[Cv];omega
  have G:(CB s k ((g - 1)*k+c)).Name=Ec ⟨#[103]⟩ (g:Int) (c:Nat):=by
   rw[e];simp only;rw[show ((g - 1+1:Nat):Int)=(g:Int) by omega]
  have:=KH z hj (by rw[G];exact XH _ g c)
  rw[G] at this;rw[this];rcases (by omega:k=1\/k=2\/k=3\/k=4) with rfl|rfl|rfl|rfl<;>omega
def Zp{s:Au}{k i r:Nat}(z:i<s.Tiles.length)(G:r<Bu k):s.Glues.length*k+i*Bu k+r<Cv s k:=by
 have:(i+1)*Bu k<=s.Tiles.length*Bu k:=HC _ (by omega)
 rw[Du,EH] at this;simp only[Cv];omega
def sD{k x y:Nat}(z:1<=k/\k<=4)(G:x<k - 1)(O:y<k):y*(k - 1)+x<Bu k:=by
 simp only[Bu];rcases (by omega:k=1\/k=2\/k=3\/k=4) with rfl|rfl|rfl|rfl<;>omega
def sG{k x y:Nat}(z:1<=k/\k<=4)(G:x<k)(O:y<k - 1):k*(k - 1)+(y*k+x)<Bu k:=by
 simp only[Bu];rcases (by omega:k=1\/k=2\/k=3\/k=4) with rfl|rfl|rfl|rfl<;>omega
def sC{s:Au}{k i x y:Nat}(z:1<=k/\k<=4)(Q:i<s.Tiles.length)(G:x<k - 1)(O:y<k):E3 (Dg s k) (Cg ⟨#[104]⟩ (i:Nat) (x:Nat) (y:Nat))=((s.Glues.length*k+i*Bu k+(y*(k - 1)+x)+1:Nat):Int):=by
 have e:=FW (s:=s) (i:=i) z G O
 have:=KH z (Zp Q (sD z G O)) (by rw[e];exact Ls _ i x y)
 rw[e] at this;exact this
def sF{s:Au}{k i x y:Nat}(z:1<=k/\k<=4)(Q:i<s.Tiles.length)(G:x<k)(O:y<k - 1):E3 (Dg s k) (Cg ⟨#[118]⟩ (i:Nat) (x:Nat) (y:Nat))=((s.Glues.length*k+i*Bu k+(k*(k - 1)+(y*k+x))+1:Nat):Int):=by
 have e:=FX (s:=s) (i:=i) z G O
 have:=KH z (Zp Q (sG z G O)) (by rw[e];exact Ls _ i x y)
 rw[e] at this;exact this
def Rf{s:Au}{k i x y:Nat}(hs:CY s)(z:1<=k/\k<=4)(G:i<s.Tiles.length)(O:x<k)(Q:y<k):
 [NX s k i x y,NY s k i x y,NZ s i x y,Oa s i x y].map (E3 (Dg s k))=C7 s k i x y:=by
 have Z:E3 (Dg s k) (NX s k i x y)=Gk s k i x y:=by
  simp only[NX,Gk];by_cases c:y=k - 1
  .rw[Ai c,Af (by omega),VO hs z O]
  .rw[Af c,Ai (by omega),sF z G O (by omega)]
 have e1:E3 (Dg s k) (NY s k i x y)=Gl s k i x y:=by
  simp only[NY,Gl];by_cases c:x=k - 1
  .rw[Ai c,Af (by omega),VO hs z Q]
  .rw[Af c,Ai (by omega),sC z G (by omega) Q]
 have e2:E3 (Dg s k) (NZ s i x y)=Gm s k i x y:=by
  simp only[NZ,Gm];by_cases c:y=0
  .rw[Ai c,Af (by omega),VO hs z O]
  .rw[Af c,Ai (by omega),sF z G O (by omega)]
 have e3:E3 (Dg s k) (Oa s i x y)=Gp s k i x y:=by
  simp only[Oa,Gp];by_cases c:x=0
  .rw[Ai c,Af (by omega),VO hs z Q]
  .rw[Af c,Ai (by omega),sC z G (by omega) Q]
 simp only[Bb,BD,Z,e1,e2,e3,C7]
def Kq(s:Au)(k j:Nat):Tile:=
 let i:=j/(k*k);let t:=j % (k*k)
 ⟨Cg ⟨#[112]⟩ (i:Nat) ((t % k:Nat):Int) ((t/k:Nat):Int),C7 s k i (t % k) (t/k)⟩
def KE(s:Au)(k:Nat):List Tile:=(List.range (s.Tiles.length*(k*k))).map (Kq s k)
def Re{s:Au}{k i t:Nat}(O:1<=k/\k<=4)(Q:t<k*k):Kq s k (i*(k*k)+t)=⟨Cg ⟨#[112]⟩ (i:Nat) ((t % k:Nat):Int) ((t/k:Nat):Int),C7 s k i (t % k) (t/k)⟩:=by
 simp only[Kq];have z:(i*(k*k)+t)/(k*k)=i:=by
  rcases (by omega:k=1\/k=2\/k=3\/k=4) with rfl|rfl|rfl|rfl<;>omega
 have G:(i*(k*k)+t) % (k*k)=t:=by
  rcases (by omega:k=1\/k=2\/k=3\/k=4) with rfl|rfl|rfl|rfl<;>omega
 rw[z,G]
def J6(k:Nat)(x:Al)(c:Nat):Al:=⟨⟨x.At.X*k+(c % k:Nat),x.At.Y*k+(c/k:Nat)⟩,x.Tile*k*k+(c:Nat)⟩
def Bp(k:Nat)(l:List Al):List Al:=l.flatMap λx=>(List.range (k*k)).map (J6 k x)
def Fi(x:Al):Bool:=Ht x.At && decide (x.Tile<=159)
def GG(l:List Al):A9:=l.foldl (λo x=>Gu o x.At x.Tile) ⟨[]⟩
def mX(l:List Al)(x:Al):GG (l++[x])=Gu (GG l) x.At x.Tile:=by simp[GG]
def bC: ∀(n:Nat) (l:List Al),l.length=n->(GG l).Tiles.Perm l/\(GG l).Tiles.Pairwise (λa b=>Cb b.At a.At=false)
 |0,l,h=>by
  obtain rfl:=Vi.1 h;exact⟨zC _,List.Pairwise.nil⟩
 |n+1,l',h=>by
  rcases ZeR l' with rfl|⟨l,x,rfl⟩
  .simp at h
  rw[ZeQ] at h⊢;obtain⟨z,G⟩:=bC n l (by simpa using h);rw[mX,uS];refine⟨((oZ x _).trans (z.cons x)).trans ?_,qM x _ G⟩;exact (List.perm_append_comm (l₁:=[x]) (l₂:=l))
def Te{l:List Al}(hd:(l.map Al.At).Nodup):GG l=⟨Dw l⟩:=by
 obtain⟨z,G⟩:=bC _ l rfl
 have:=vQ hd z G
 cases h:GG l with|mk t=>rw[h] at this;simp only at this;rw[this]
def OC(l:List Al):(GG l).Tiles.length=l.length:=(bC _ l rfl).1.length_eq
def Oq{l:List Al}(q:Option A7)(hq: ∀p,q=some p-> ∀x∈l,Cb p x.At=true)(hd:(l.map Al.At).Nodup)(hs:l.Pairwise (λa b=>Cb b.At a.At=false))(h0: ∀x∈l,0<=x.Tile):CS q l=l.all Fi:=by
 induction l generalizing q with
 |nil=>simp[Qik]
 |cons x r ih=>
  rw[Bb,Zj] at hd;rw[rM] at hs;have G: ∀y∈r,Cb x.At y.At=true:=λy z=>by
   have Q:=hs.1 y z;have Z:x.At≠y.At:=λe=>hd.1 (e▸Bn.2 ⟨y,z,rfl⟩)
   revert Q Z;obtain⟨⟨ax,ay⟩,O⟩:=x;obtain⟨⟨bx,bz⟩,bt⟩:=y;simp only[Cb,ne_eq,A7.mk.injEq]
   grind
  have ih:=ih (some x.At) (λp e y z=>by obtain rfl:=AB e;exact G y z) hd.2 hs.2 λy z=>h0 y (BK _ z)
  rw[nC,ih,ET];have hx:=h0 x (BQ ..);have e:Bw x.Tile 0 159=decide (x.Tile<=159):=by
   simp only[Bw];rw[Vl hx,Ew]
  rw[Fi,e];cases q with
  |none=>simp[jM]
  |some p=>
   have:=hq p rfl x (BQ ..)
   simp[this,jM]
def aX{k:Nat}(hk:1<=k/\k<=4){l:List Al}(hd:(l.map Al.At).Nodup):((Bp k l).map Al.At).Nodup:=by
 induction l with
 |nil=>simp[Bp]
 |cons x r ih=>
  rw[Bb,Zj] at hd;have ih:=ih hd.2;simp only[Bp] at ih;rw[Bp,J1,En,Vp];refine⟨?_,ih,?_⟩
  .rw[Km];refine List.Pairwise.map _ (λa b G e=>G ?_) (zJ (n:=k*k));simp only[Function.comp,J6,A7.mk.injEq] at e;obtain⟨Q,Z⟩:=e;rcases (by omega:k=1\/k=2\/k=3\/k=4) with rfl|rfl|rfl|rfl<;>omega
  .intro p hp q hq e;rw[Km] at hp;obtain⟨a,ha,rfl⟩:=Bn.1 hp;obtain⟨z,O,rfl⟩:=Bn.1 hq;obtain⟨y,hy,O⟩:=rE.1 O;obtain⟨b,hb,rfl⟩:=Bn.1 O;rw[Bk] at ha hb;refine hd.1 (Bn.2 ⟨y,hy,?_⟩);simp only[Function.comp,J6,A7.mk.injEq] at e;obtain⟨Q,Z⟩:=e;obtain⟨⟨ax,ay⟩,aa⟩:=x;obtain⟨⟨bx,bz⟩,bt⟩:=y;simp only[A7.mk.injEq] at Q Z⊢;rcases (by omega:k=1\/k=2\/k=3\/k=4) with rfl|rfl|rfl|rfl<;>omega
def CF(a:A9)(k:Nat):A9×Bool:=if a.Tiles.length*k*k<=500/\(Bp k a.Tiles).all Fi=true then (⟨Dw (Bp k a.Tiles)⟩,true) else (⟨[]⟩,false)
def bD(k:Nat)(l:List Al):(Bp k l).length=l.length*k*k:=by
 induction l with
 |nil=>simp[Bp]
 |cons x r ih=>
  rw[Bp,J1,DZ];have e:(r.flatMap λx=>(List.range (k*k)).map (J6 k x)).length=r.length*k*k:=ih;rw[e];simp[Du,zE];omega
def TX{a:A9}{k:Nat}(Z:1<=k/\k<=4)(hd:(a.Tiles.map Al.At).Nodup)(h0: ∀x∈a.Tiles,0<=x.Tile):(CS none (Dw (Bp k a.Tiles)) && decide ((Dw (Bp k a.Tiles)).length<=500))=(CF a k).2:=by
 have O:=aX Z hd;have hp:=Y8 (Bp k a.Tiles);have Q:CS none (Dw (Bp k a.Tiles))=(Bp k a.Tiles).all Fi:=by
  rw[Oq none (λp e=>by cases e) ((hp.map Al.At).nodup_iff.2 O) (pB _) λx z=> ?_,hp.all_eq];have z:=hp.mem_iff.1 z;simp only[Bp] at z;obtain⟨y,hy,z⟩:=rE.1 z;obtain⟨c,_,rfl⟩:=Bn.1 z
  have:=h0 y hy
  simp only[J6]
  have:=Int.mul_nonneg (Int.mul_nonneg this (by omega:(0:Int)<=k)) (by omega:(0:Int)<=k)
  omega
 rw[Q,ZS,bD,CF];by_cases c1:a.Tiles.length*k*k<=500
 .rw[Vl c1,Ep];by_cases G:(Bp k a.Tiles).all Fi=true
  .rw[Ai ⟨c1,G⟩];exact G
  .rw[Af (λh=>G h.2)];simpa using G
 .rw[PN c1,Zn,Af (λh=>c1 h.1)]
end Go.Ae
namespace Go.Ae
open Go.Proofs
def kC:PK->Prop
 | .ptr _=>True
 | .val d=>F1 d= .val d
def fH(d:D):kC (F1 d):=by cases d<;>simp[F1,kC]
def fG{h:Nat->Option Am}{x:AV}{p:PK}(hp:DN h x=some p):kC p:=by
 cases x with
 |im d=>
  simp only[DN,AM] at hp;subst hp;exact fH d
 |ptr o off=>
  simp only[DN,Jb,Dl] at hp;obtain⟨_,_,rfl⟩:=hp;trivial
 |eptr o i off=>
  simp only[DN,Jb,Dl] at hp;obtain⟨_,_,rfl⟩:=hp;trivial
 |own o=>
  simp only[DN,DU,bk,Dl] at hp;obtain⟨d,hd,rfl⟩:=hp;unfold ND at hd;split at hd
  .obtain rfl:=AB hd;rfl
  .simp only[Dl] at hd;obtain⟨_,_,rfl⟩:=hd;rfl
  .cases hd
 |mp o=>
  simp only[DN,DU,bk,Dl] at hp;obtain⟨d,hd,rfl⟩:=hp;unfold Lp at hd;split at hd
  .obtain rfl:=AB hd;rfl
  .cases hd
 |agg z=>
  simp only[DN,DU,bk,Dl] at hp;obtain⟨d,⟨_,_,rfl⟩,rfl⟩:=hp;rfl
 |tup z=>
  simp only[DN,DU,bk,Dl] at hp;obtain⟨d,⟨_,_,rfl⟩,rfl⟩:=hp;rfl
 |clo f a c=>
  simp only[DN,DU,bk,Dl] at hp;obtain⟨d,hd,rfl⟩:=hp;unfold NW at hd;split at hd
  .obtain rfl:=AB hd;rfl
  .cases hd
  .cases hd
 |_=>cases hp
def Mu{h:Nat->Option Am}: ∀(xs:List AV) (ps:List PK),BR h xs=some ps-> ∀p∈ps,kC p
 |[],ps,hp=>by
  simp only[BR,AM] at hp;subst hp;intro p z;cases z
 |x::xs,ps,hp=>by
  simp only[BR] at hp;cases hx:DN h x with
  |none=>rw[hx] at hp;cases hp
  |some p=>
   cases hr:BR h xs with
   |none=>rw[hx,hr] at hp;cases hp
   |some qs=>
    rw[hx,hr] at hp;simp only[FT,AM] at hp;subst hp;intro q hq;rcases Bt.1 hq with rfl|hq
    .exact fG hx
    .exact Mu xs qs hr q hq
def aQ: ∀(ps:List PK) (j:Nat) (H:Nat->Option Am),(∀p∈ps,kC p)->(∀n e,hget (CJ j ps) n=some e->H n=some e)->Io H (CL j ps)=some (ps,[])
 |[],_,_,_,_=>rfl
 | .val d::r,j,H,hn,hH=>by
   have z:=hn _ (BQ ..);simp only[kC] at z;simp only[CL,Io,Im,z,aQ r j H (λp hp=>hn p (BK _ hp)) (by simpa only[CJ] using hH),Wt,D6]
 | .ptr O::r,j,H,hn,hH=>by
   have z:=hH j (false,.view O) (by simp only[CJ,hget,rF,BV]);have Q:=aQ r (j+1) H (λp hp=>hn p (BK _ hp)) (λn e G=>hH n e (by
    have Z:=(Gc (j+1) r n e G).1;have hq:(j==n)=false:=by rw[HE];omega
    simp only[CJ,hget,hq,Bs];exact G))
   simp only[CL,Io,Im,z,PU,Gf,Q,Wt,D6]
def Y0{P:Program}{g:FuncId}{A B:Type}{k:AK A}{r:RK B}{pre:A->Prop}{f:A->B}(hr: ∀b,(r.e b).scs=true)(h:Hb P g (vK k r pre f)):Hb P g (CG k r pre f):=by
 intro args hh nx K z;unfold CG Q3 at z;cases hp:BR hh args with
 |none=>rw[hp] at z;exact z.elim
 |some O=>
  rw[hp] at z;simp only[UQ] at z;cases ha:k.r O with
  |none=>rw[ha] at z;exact z.elim
  |some a=>
   rw[ha] at z;simp only[DE] at z;obtain⟨ah,hK⟩:=z;have aq:=aQ O 0 (hget (CJ 0 O)) (Mu args O hp) (λ_ _ h=>h);obtain⟨hcl,r',E,hT,av,hE⟩:=h (CL 0 O) (hget (CJ 0 O)) (BH O) (λx E=>x= .im (r.e (f a))/\E={use:=Aw (CL 0 O)}) (by
    unfold vK E4;rw[aq];simp only[V1,ha,DE,PP];exact⟨ah,by trivial,by trivial⟩)
   subst av hE;refine⟨hcl,_,_,?_,hK⟩;intro C S vs RR hW ai aj ak aa af;have au:=xU hW args O vs.toList (λm hm=>ai m (Ki _ hm)) hp aa;have ad:=iX hW;obtain⟨ls,ag,hcl⟩:=iQ O vs.toList 0 au
   let S0:Ay:=⟨ls,S.froz.ok,hget (CJ 0 O),S.w⟩
   let C0:AZ:=⟨S.w,λ_=>False,S.froz.ok,0,λ_=>none,λ_=>none,[]⟩
   have an:Wf C0 S0:=by
    refine⟨rfl,rfl,rfl,AP _,AP _,λ_ _ _=>rfl,λ_ Z=>Z,λ_ Z=> .inl Z,ad.oks,?_,?_,?_,ad.glN λ_ h=>h.elim⟩
    .intro n e he;obtain⟨l,h1,_,h3⟩:=ag n e he;have h4:S0.ρ n=some l:=h1;rw[h4];obtain⟨_,cs,rfl⟩:=Gc 0 O n e he;simp only[An] at h3⊢;exact h3
    .intro n e l he hl;obtain⟨l',h1,h2,h3⟩:=ag n e he;have h4:S0.ρ n=some l':=h1;rw[h4] at hl;obtain rfl:=AB hl;obtain⟨_,cs,rfl⟩:=Gc 0 O n e he;exact⟨h2,.inr rfl⟩
    .intro n n' e e' l l' he ab hl ay ax ao;obtain⟨_,cs,rfl⟩:=Gc 0 O n e he;obtain⟨_,aw,rfl⟩:=Gc 0 O n' e' ab;simp at ao
   refine hT C0 S0 vs RR an (λ_ _=>rfl) (λn hn=>absurd hn (by unfold Fr;simp)) (λn e _ m _=>by unfold Fr;simp) (hcl S0 rfl rfl (λn _=>⟨rfl,rfl⟩)) ?_;intro v S1 Q _ _ hv;have G: ∀b,b<S.w.heap.size->S1.w.heap[b]? =S.w.heap[b]? :=λb Z=>Q.keep b Z (λh=>h)
   have ac:S.w.heap.size<=S1.w.heap.size:=Q.size
   let S':Ay:={S with w:=S1.w}
   have hp':BE (λ_=>True) S S':=⟨λb Z=>⟨Z,G b (hW.oks b Z)⟩,λo _ e' ab=>⟨e',ab,rfl,rfl,rfl⟩⟩;have am:Wf C S':=by
    refine⟨?_,?_,?_,CD hW.dr Q.dr,CD hW.size ac,?_,hW.ok0,hW.ok1,?_,?_,?_,hW.inj,hW.gl⟩
    .exact Q.os.trans hW.os
    .exact Q.tape.trans hW.tape
    .exact Q.output.trans hW.output
    .intro b Z hM;exact (G b (Fx Z hW.size)).trans (hW.keep b Z hM)
    .intro b Z;exact Fx (hW.oks b Z) ac
    .intro o e he;exact Hd hp' (λlc hl=>G lc.b (hW.loc o e lc he hl).1) _ (λ_ _=>trivial) (hW.obj o e he)
    .intro o e l he hl;obtain⟨h2,h3⟩:=hW.loc o e l he hl;exact⟨Fx h2 ac,h3⟩
   refine af v S' am ?_ ⟨hp'.ok,λo _=>hp'.nm o trivial⟩ ?_
   .show S.h=_;funext m;simp[Bv.appf,hget]
   .simp only[Aa] at hv⊢;exact VK (hr _) hv
end Go.Ae
namespace Go.Ae
open Go.Proofs Go.Lib
def F3(f:AV->List Nat)(z:Bool)(T:TypeId)(k:Nat)(rows:List (List D)):HR f (some (z,.arr T k rows))=[]:=rfl
def EZ(x:List (List AV)): ∀(rows:List (List D)),Bx ((rows.map λr=>r.map AV.im)++x)=Bx x
 |[]=>rfl
 |r::rows=>by
  have h: ∀l:List D,Aw (l.map AV.im)=[]:=by
   intro l;induction l with
   |nil=>rfl
   |cons d l ih=>simp only[Bb,Aw,AV.nms,ih,D6]
  simp only[Bb,BG,Bx,h,Dj];exact EZ x rows
def F5(n:Nat)(x:List (List AV))(rows:List (List D)):((rows.map λr=>r.map AV.im)++x).all (AD n)=x.all (AD n):=by
 rw[QL,lV,Ew]
def decm_.fv(a:Int):ByteArray:=(D1) a
def decm_.row:AE:=CG (b1 qI) rT (λa=>0<=a/\a<=9223372036854775807) decm_.fv
def decm_.q:=CH (R:=decm_.row) rfl
def decm_.ok:AI 81 decm_.row:=by
 refine Gy tN Tryz.func81 ?_;intro a G;simp only[Tryz.f81,Option.getD];simp(maxSteps:=9^9)(disch:=omega)only[ZZ,simprocAttr,Ab,decm_.fv,BS,D.sc,D.scs,BJ,AQ];refine AY.old ⟨{q:Int×ByteArray//0<=q.1/\q.1<=a/\(if q.1=0 then [] else itoa q.1)++GX q.2=if a=0 then [] else itoa a},λq=>⟨[(4,.im (.int .i64 q.1.1)),(3,.im (.str q.1.2)),(2,.im (.str ByteArray.empty)),(0,.im (.int .i64 a))],[],0⟩,λq=>q.1.1.toNat,λq=>⟨by simp[ZG],by simp⟩,⟨⟨(a,ByteArray.empty),G.1,NK _,by simp[GX]⟩,by simp(maxSteps:=9^9)(disch:=omega)only[ZZ,simprocAttr,Ab,decm_.fv,BS,D.sc,D.scs,BJ,AQ,sub];rfl⟩,λq=> ?_⟩;obtain⟨⟨m,s⟩,Q,h2,z⟩:=q;simp only at Q h2 z;have h3:s.size<=21:=by
  have l1:=De List.length z;have l2:=LO (n:=a) (by omega) (by omega);have l3:(GX s).length=s.size:=by rw[GX,EE];rfl
  rw[DZ,l3] at l1;have l4:(if a=0 then [] else itoa a).length<=21:=by
   by_cases c:a=0
   .rw[Ai c];exact Cz _
   .rw[Af c];exact l2
  omega
 have e1:m.tmod 10=m % 10:=yP Q;have O:m.tdiv 10=m/10:=Zdw Q;have e3:IntKind.i64.wrap (48+m % 10)=48+m % 10:=AA (by omega) (by omega);have e4:IntKind.u8.wrap (48+m % 10)=48+m % 10:=by
  unfold IntKind.wrap;have e:IntKind.u8.bits=8:=rfl;have O:IntKind.u8.signed=false:=rfl;simp only[e,O,FP,CQ,CA];omega
 simp(maxSteps:=9^9)(disch:=omega)only[ZZ,simprocAttr,Ab,decm_.fv,BS,D.sc,D.scs,BJ,AQ,sub,AO,e1,O,e3,e4];have e5:(⟨#[UInt8.ofNat (48+m % 10).toNat]⟩:ByteArray).size=1:=rfl;refine⟨λZ=>⟨λh=>by omega,λ_=>⟨by rw[e5];omega,⟨⟨(m/10,⟨#[UInt8.ofNat (48+m % 10).toNat]⟩++s),by simp only;omega,by simp only;omega,?_⟩,by simp only;omega,AA (by omega) (by omega),rfl⟩⟩⟩,λZ=>⟨λh=> ?_,λh=>⟨λh2=>by omega,λ_=> ?_⟩⟩⟩
 .simp only;rw[Af Z] at z;rw[<-z];obtain⟨k,rfl⟩: ∃k:Nat,m=k:=⟨m.toNat,by omega⟩;have e6:GX (⟨#[UInt8.ofNat (48+(k:Int) % 10).toNat]⟩++s)=UInt8.ofNat (48+k % 10)::GX s:=by
   have:(48+(k:Int) % 10).toNat=48+k % 10:=by omega
   rw[this];simp[GX]
  rw[e6];have e7:itoa ((k:Nat):Int)=decDigits k:=by
   unfold itoa;rw[Af (by omega),Bj]
  have e8:itoa ((k:Nat)/10:Int)=decDigits (k/10):=by
   unfold itoa;rw[Af (by omega)];congr 1
  rw[e7,e8]
  conv=>rhs;rw[decDigits]
  by_cases c:k<10
  .rw[dif_pos c,Ai (by omega),ZeM c];rfl
  .rw[dif_neg c,Af (by omega)];simp
 .subst h;simp[D1,itoa,decDigits]
 .rw[Ai (Gg.1 Z),Af h] at z
  have:s=D1 a:=by
   have h5:GX s=itoa a:=by simpa using z
   cases s with|mk d=>cases d with|mk l=>simp[GX] at h5;subst h5;rfl
  exact this
abbrev Mk:=List Ad×List Tile
def glN(g:List Ad)(nm:ByteArray):Int:=if fV g nm=0 then (g.length:Int)+1 else fV g nm
def IQ(j:Nat):Bool:=j==0||j==2
def F4{A:Type}(f:Nat->A)(n:Nat):(List.range (n+1)).map f=(List.range n).map f++[f n]:=by simp[dS]
def k4{k:Int}(h:1<=k/\k<=4):k=1\/k=2\/k=3\/k=4:=by omega
def Zr(p:A7)(x y k:Int):A7:=⟨p.X*k+x,p.Y*k+y⟩
def cel_.fv(a:A7×Int×Int×Int):A7:=(Zr) (a.1) (a.2.1) (a.2.2.1) (a.2.2.2)
def cel_.row:AE:=vK (b4 (qR A7.d_le) qI qI qI) (rA A7.d_le) (λa=>(-1000<=a.1.X/\a.1.X<=1000/\ -1000<=a.1.Y/\a.1.Y<=1000)/\(0<=a.2.1/\a.2.1<=10/\0<=a.2.2.1/\a.2.2.1<=10)/\1<=a.2.2.2/\a.2.2.2<=4) cel_.fv
def cel_.q:=Bg (R:=cel_.row) rfl
def cel_.ok:AI 40 cel_.row:=by
 refine vw tN Tryz.func40 ?_;intro a z;simp only[Tryz.f40,Option.getD];simp(maxSteps:=9^9)(disch:=omega)only[ZZ,simprocAttr,Ab,cel_.fv];obtain⟨p,x,y,k⟩:=a;obtain⟨⟨O,Q,Z,h4⟩,⟨h5,h6,h7,h8⟩,G⟩:=z;simp only at O Q Z h4 h5 h6 h7 h8 G⊢;rcases k4 G with rfl|rfl|rfl|rfl<;>simp (disch:=omega) only[AA]<;>rfl
def IX(a b c:Int):ByteArray:=D1 a++⟨#[95]⟩++D1 b++⟨#[95]⟩++D1 c
def bF{a b c:Int}(Z: -1000000<=a/\a<=1000000)(hb: -1000000<=b/\b<=1000000)(hc: -1000000<=c/\c<=1000000):(IX a b c).size<=65:=by
 have z:=EY (n:=a) (by omega) (by omega);have G:=EY (n:=b) (by omega) (by omega);have O:=EY (n:=c) (by omega) (by omega);have Q:(⟨#[95]⟩:ByteArray).size=1:=rfl;simp only[IX,Vn];omega
def aZ(w:ByteArray)(a b c:Int):w++IX a b c=Cg w a b c:=by
 simp only[IX,Cg,Ec,KB,ZeN]
def num3_.fv(a:Int×Int×Int):ByteArray:=(IX) (a.1) (a.2.1) (a.2.2)
def num3_.row:AE:=vK (b3 qI qI qI) rT (λa=>(0<=a.1/\a.1<=1000000)/\(0<=a.2.1/\a.2.1<=1000000)/\0<=a.2.2/\a.2.2<=1000000) num3_.fv
def num3_.q:=Bg (R:=num3_.row) rfl
def num3_.ok:AI 44 num3_.row:=by
 refine vw (tC decm_.ok tN) Tryz.func44 ?_;intro a z;simp only[Tryz.f44,Option.getD];simp(maxSteps:=9^9)(disch:=omega)only[ZZ,simprocAttr,Ab,num3_.fv,decm_.q,decm_.fv];obtain⟨a,b,c⟩:=a;obtain⟨G,O,Q⟩:=z;simp only at G O Q⊢;have Z:=EY (n:=a) (by omega) (by omega);have e2:=EY (n:=b) (by omega) (by omega);have e3:=EY (n:=c) (by omega) (by omega);have e4:(⟨#[95]⟩:ByteArray).size=1:=rfl;simp only[Vn];exact⟨by omega,by omega,by omega,by omega,by omega,by omega,by omega,rfl⟩
def UM{m n:Nat}(hn:1<=n/\n<=4)(z:m<=1000000):IntKind.i64.wrap (IntKind.i64.wrap ((m:Int)*n)*n)=((m*n*n:Nat):Int):=by
 rcases (by omega:n=1\/n=2\/n=3\/n=4) with rfl|rfl|rfl|rfl<;>(simp (disch:=omega) only[AA];omega)
def ZI(c n:Nat):(c:Int).tmod n=((c % n:Nat):Int):=rfl
def ZH(c n:Nat):(c:Int).tdiv n=((c/n:Nat):Int):=rfl
def ZK{c n:Nat}(h:c<=1000000):IntKind.i64.wrap ((c/n:Nat):Int)=((c/n:Nat):Int):=by
 have:=Zk c n
 generalize c/n=m at this⊢;exact AA (by omega) (by omega)
def ZL{n:Nat}(hn:1<=n/\n<=4):IntKind.i64.wrap ((n:Int)*n)=((n*n:Nat):Int):=by
 rcases (by omega:n=1\/n=2\/n=3\/n=4) with rfl|rfl|rfl|rfl<;>rfl
def aU{k:Nat}{l:List Al}{i:Nat}{x:Al}(h:l[i]? =some x):Bp k (l.take (i+1))=Bp k (l.take i)++(List.range (k*k)).map (J6 k x):=by
 rw[qH h];simp[Bp]
def XX{k:Nat}{l:List Al}{i c:Nat}{x:Al}(h:l[i]? =some x)(z:c<k*k):J6 k x c∈Bp k l:=
 rE.2 ⟨x,Bf h,Bn.2 ⟨c,Bk.2 z,rfl⟩⟩
def MD{a:A9}{k i c:Nat}{x:Al}(h:a.Tiles[i]? =some x)(O:c<k*k)(G:Fi (J6 k x c)=false):CF a k=(⟨[]⟩,false):=by
 rw[CF,Af];rintro⟨_,z⟩
 have:=CM.1 z _ (XX h O)
 rw[G] at this;cases this
def XW{a:A9}{k:Nat}(h:500<a.Tiles.length*k*k):CF a k=(⟨[]⟩,false):=by
 rw[CF,Af (λz=>by omega)]
def TY{a:A9}{k:Nat}(z:a.Tiles.length*k*k<=500)(G:(Bp k a.Tiles).all Fi=true):CF a k=(⟨Dw (Bp k a.Tiles)⟩,true):=by
 rw[CF,Ai ⟨z,G⟩]
def scl_.fv(a:A9×Int):A9×Bool:=(λa k=>CF a k.toNat) (a.1) (a.2)
def scl_.row:AE:=vK (b2 (qP 1 A9.d_le) qI) (r2 (rA A9.d_le) rB) (λa=>((∀x∈a.1.Tiles,(-1000<=x.At.X/\x.At.X<=1000/\ -1000<=x.At.Y/\x.At.Y<=1000)/\0<=x.Tile/\x.Tile<=1000)/\(a.1.Tiles.map Al.At).Nodup/\a.1.Tiles.length<=1000)/\1<=a.2/\a.2<=4) scl_.fv
def scl_.q:=Bg (R:=scl_.row) rfl
def YaC:=J @scl_.fv.eq_1<|J @cel_.q<|J @cel_.fv.eq_1<|J @l01Point.q<|J @l01Point.fv.eq_1<|J @l03Put.q @l03Put.fv.eq_1
def scl_.ok:AI 15 scl_.row:=by
 refine vw (tC cel_.ok (tC l01Point.ok (tC l03Put.ok tN))) Tryz.func15 ?_;intro a O;simp only[Tryz.f15,Option.getD];simp(maxSteps:=9^9)(disch:=omega)only[ZZ,simprocAttr,Ab,YaC];obtain⟨a,k⟩:=a;obtain⟨⟨h1,h2,h3⟩,hk⟩:=O;simp only at h1 h2 h3 hk⊢;obtain⟨n,rfl⟩: ∃n:Nat,k=n:=⟨k.toNat,by omega⟩;have hn:1<=n/\n<=4:=by omega
 intro _;rw[UM hn (by omega),Bj];by_cases c1:a.Tiles.length*n*n<=500
 case neg=>rw[Ai (by omega),XW (by omega)]
 rw[Af (by omega)];refine AY.old ⟨{i:Nat//i<=a.Tiles.length/\(Bp n (a.Tiles.take i)).all Fi=true},λi=>⟨[(7,.im (.int .i64 i.1)),(6,.ptr 2 0),(5,.im (.bool false)),(4,.ptr 1 0),(0,.ptr 0 0),(1,.im (.int .i64 n))],[(2,(true,.cells 38 [.im (oD (GG (Bp n (a.Tiles.take i.1))))])),(1,(true,.cells 38 [.im (.sl true 0 [])])),(0,(false,.view [.sl false 3 (a.Tiles.map Al.c)]))],3⟩,λi=>a.Tiles.length - i.1,λi=>⟨by simp[ZG],by simp⟩,⟨⟨0,by simp[Bp]⟩,by simp(maxSteps:=9^9)(disch:=omega)only[ZZ,simprocAttr,Ab,YaC,sub,oD];rfl⟩,λi=> ?_⟩;obtain⟨i,hi,hg⟩:=i;simp(maxSteps:=9^9)(disch:=omega)only[ZA,ZT,simprocAttr,Ab,scl_.fv,cel_.q,cel_.fv,l01Point.q,l01Point.fv,l03Put.q,l03Put.fv,sub,AO,tG,PX];intro _;refine⟨λG=>⟨G,λx Q=> ?_⟩,λG=> ?_⟩
 .have ac:=Bf Q;obtain⟨hs,af,ag⟩:=h1 x ac;have ad:n*n<=16:=by rcases (by omega:n=1\/n=2\/n=3\/n=4) with rfl|rfl|rfl|rfl<;>omega
  refine AY.old ⟨{c:Nat//c<=n*n/\((List.range c).map (J6 n x)).all Fi=true},λc=>⟨[(9,.im (.int .i64 c.1)),(8,.ptr 3 0),(7,.im (.int .i64 i)),(6,.ptr 2 0),(5,.im (.bool false)),(4,.ptr 1 0),(0,.ptr 0 0),(1,.im (.int .i64 n))],[(3,(true,.cells 89 [.im (.int .i64 x.At.X),.im (.int .i64 x.At.Y),.im (.int .i64 x.Tile)])),(2,(true,.cells 38 [.im (oD (GG (Bp n (a.Tiles.take i)++(List.range c.1).map (J6 n x))))])),(1,(true,.cells 38 [.im (.sl true 0 [])])),(0,(false,.view [.sl false 3 (a.Tiles.map Al.c)]))],4⟩,λc=>n*n - c.1,λc=>⟨by simp[ZG],by simp⟩,⟨⟨0,by simp⟩,by simp(maxSteps:=9^9)(disch:=omega)only[ZZ,simprocAttr,Ab,YaC,sub,Vk,BD,D6]⟩,λc=> ?_⟩;obtain⟨c,hc,z⟩:=c;have e4:IntKind.i64.wrap (IntKind.i64.wrap (IntKind.i64.wrap (x.Tile*(n:Int))*n)+c)=x.Tile*n*n+c:=by
   rcases (by omega:n=1\/n=2\/n=3\/n=4) with rfl|rfl|rfl|rfl<;>simp (disch:=omega) only[AA]
  have aa:IntKind.i64.wrap ((c:Int)+1)=((c+1:Nat):Int):=by rw[AA (by omega) (by omega)];omega
  have ab:IntKind.i64.wrap ((i:Int)+1)=((i+1:Nat):Int):=by rw[AA (by omega) (by omega)];omega
  simp(maxSteps:=9^9)(disch:=omega)only[ZA,ZT,simprocAttr,Ab,scl_.fv,cel_.q,cel_.fv,l01Point.q,l01Point.fv,l03Put.q,l03Put.fv,sub,AO,tG,PX,ZL hn,ZI,ZH,ZK (show c<=1000000 by omega),e4,aa,ab];have d1:=Zk c n;have d2:=Zm c (show n>0 by omega);have hp:Zr x.At ((c % n:Nat):Int) ((c/n:Nat):Int) n=(J6 n x c).At:=rfl;have ht:x.Tile*n*n+c=(J6 n x c).Tile:=rfl;rw[hp,ht];refine⟨λZ=> ?_,λZ=> ?_⟩
  .have hcl:c<n*n:=by omega
   have hd:c/n<=10:=by rcases (by omega:n=1\/n=2\/n=3\/n=4) with rfl|rfl|rfl|rfl<;>omega
   refine⟨by omega,by omega,⟨hs,by omega,by omega⟩,λg1=>⟨λg2=> ?_,λg2=>⟨?_,⟨c+1,by omega,?_⟩,by simp only;omega,rfl,?_⟩⟩,λg1=> ?_⟩
   .rw[MD Q hcl (by simp only[Fi];rw[PN (by omega),Zn])]
    try rfl
   .rw[OC,DZ,bD,Gh,I9,Ck]
    have:min i a.Tiles.length<=1000:=by omega
    generalize min i a.Tiles.length=m at this;rcases (by omega:n=1\/n=2\/n=3\/n=4) with rfl|rfl|rfl|rfl<;>omega
   .rw[F4,QL,z];simp only[ET,Li,Ep,Ew,Fi,g1];exact Vl (by omega)
   .rw[fF,F4,<-J0,mX]
   .rw[MD Q hcl (by simp only[Fi];rw[eq_false_of_ne_true g1,FP])]
    try rfl
  .obtain rfl:c=n*n:=by omega
   refine⟨⟨i+1,by omega,?_⟩,by simp only;omega,rfl,by rw[aU Q]⟩;rw[aU Q,QL,hg,z];rfl
 .obtain rfl:i=a.Tiles.length:=by omega
  rw[IB] at hg⊢;refine⟨by simp only[oD];split<;>rfl,?_⟩;rw[TY c1 hg,Te (aX hn h2)]
def gls_.fv(a:Au×Int):List Ad:=(λs k=>Dg s k.toNat) (a.1) (a.2)
def gls_.row:AE:=vK (b2 (qP 2 Au.d_le) qI) (rS Ad.d_le Ad.c_n) (λa=>(a.1.Glues.length<=1000/\a.1.Tiles.length<=1000)/\1<=a.2/\a.2<=4) gls_.fv
def gls_.q:=Bg (R:=gls_.row) rfl
def GB:=J @gls_.fv.eq_1<|J @decm_.q<|J @decm_.fv.eq_1<|J @num3_.q @num3_.fv.eq_1
def gls_.ok:AI 43 gls_.row:=by
 refine vw (tC decm_.ok (tC num3_.ok tN)) Tryz.func43 ?_;intro a ac;simp only[Tryz.f43,Option.getD];simp(maxSteps:=9^9)(disch:=omega)only[ZZ,simprocAttr,Ab,GB];obtain⟨s,k⟩:=a;obtain⟨⟨h1,h2⟩,hk⟩:=ac;simp only at h1 h2 hk⊢;obtain⟨n,rfl⟩: ∃n:Nat,k=n:=⟨k.toNat,by omega⟩;have hn:1<=n/\n<=4:=by omega
 have G:IntKind.i64.wrap ((n:Int) - 1)=((n - 1:Nat):Int):=by rw[AA (by omega) (by omega)];omega
 have av:(⟨#[95]⟩:ByteArray).size=1:=rfl;have aw:(⟨#[103]⟩:ByteArray).size=1:=rfl;have ax:(⟨#[104]⟩:ByteArray).size=1:=rfl;have ay:(⟨#[118]⟩:ByteArray).size=1:=rfl;rw[Bj];have ad: ∀m:Nat,m<=2000->(D1 ((m:Nat):Int)).size<=21:=λm hm=>EY (by omega) (by omega)
 refine AY.ren ⟨{i:Nat//i<=s.Glues.length},λi=>⟨[(6,.im (.int .i64 i.1)),(5,.own 3),(4,.own 1),(0,.ptr 0 0),(1,.im (.int .i64 n))],[(3,(true,.arr 108 2 (((List.range (i.1*n)).map (CB s n)).map Ad.c))),(1,(true,.arr 108 2 [])),(0,(false,.view [.sl false 2 (s.Glues.map Ad.c),.sl false 2 (s.Tiles.map Tile.c)]))],4⟩,λi=>s.Glues.length - i.1,λi=>⟨by simp[ZG],by simp⟩,⟨⟨0,Cz _⟩,[(3,some 2)],?_⟩,λi=> ?_⟩
 .simp only[Ar,J5,Vk,BD];simp(maxSteps:=9^9)(disch:=omega)only[ZZ,simprocAttr,Ab,GB,AS,AR]
 obtain⟨i,hi⟩:=i;have Z:IntKind.i64.wrap ((i:Int)+1)=((i+1:Nat):Int):=by rw[AA (by omega) (by omega)];omega
 simp(maxSteps:=9^9)(disch:=omega)only[ZZ,simprocAttr,Ab,GB,sub,AO];intro _;refine⟨λO=> ?_,λO=> ?_⟩
 .have an:i*n<=4000:=by rcases (by omega:n=1\/n=2\/n=3\/n=4) with rfl|rfl|rfl|rfl<;>omega
  refine AY.ren ⟨{c:Nat//c<=n},λc=>⟨[(7,.im (.int .i64 c.1)),(6,.im (.int .i64 i)),(5,.own 4),(4,.own 1),(0,.ptr 0 0),(1,.im (.int .i64 n))],[(4,(true,.arr 108 2 (((List.range (i*n+c.1)).map (CB s n)).map Ad.c))),(1,(true,.arr 108 2 [])),(0,(false,.view [.sl false 2 (s.Glues.map Ad.c),.sl false 2 (s.Tiles.map Tile.c)]))],5⟩,λc=>n - c.1,λc=>⟨by simp[ZG],by simp⟩,⟨⟨0,Cz _⟩,[(4,some 3)],?_⟩,λc=> ?_⟩
  .simp only[Ar,FO];simp(maxSteps:=9^9)(disch:=omega)only[ZZ,simprocAttr,Ab,GB,AS,AR]
  obtain⟨c,hc⟩:=c;have ah:IntKind.i64.wrap ((c:Int)+1)=((c+1:Nat):Int):=by rw[AA (by omega) (by omega)];omega
  simp(maxSteps:=9^9)(disch:=omega)only[ZZ,simprocAttr,Ab,GB,sub,AO,G,Z];have s1:=ad (i+1) (by omega);have s2:=ad c (by omega);refine⟨λab=>⟨by omega,by omega,by simp only[Vn];omega,by omega,by simp only[Vn];omega,O,λx hx=> ?_⟩,λab=> ?_⟩
  .have hr:List.map Ad.c ((List.range (i*n+c)).map (CB s n))++[[D.str (⟨#[103]⟩++D1 ((i+1:Nat):Int)++⟨#[95]⟩++D1 (c:Nat)),D.int .i64 x.Strength]]=((List.range (i*n+(c+1))).map (CB s n)).map Ad.c:=by
    rw[<-FA,F4,En,FV hn O ab,hx];rfl
   refine⟨by simp[Bl,Bo,D.one],by rw[I9];omega,?_⟩;refine⟨⟨c+1,by omega⟩,[(4,some 6)],by simp only;omega,?_⟩;simp only[Ar];simp(maxSteps:=9^9)(disch:=omega)only[ZZ,simprocAttr,Ab,GB,AS,AR,ah,hr]
  .obtain rfl:c=n:=by omega
   have hj:i*c+c=(i+1)*c:=by rw[Du,EH]
   refine⟨⟨i+1,by omega⟩,[(3,some 4)],by simp only;omega,?_⟩;simp only[Ar];simp(maxSteps:=9^9)(disch:=omega)only[ZZ,simprocAttr,Ab,GB,AS,AR,Z,hj]
 obtain rfl:i=s.Glues.length:=by omega
 have ak:s.Glues.length*n<=4000:=by rcases (by omega:n=1\/n=2\/n=3\/n=4) with rfl|rfl|rfl|rfl<;>omega
 refine AY.ren ⟨{i:Nat//i<=s.Tiles.length},λi=>⟨[(8,.im (.int .i64 i.1)),(5,.own 4),(4,.own 1),(0,.ptr 0 0),(1,.im (.int .i64 n))],[(4,(true,.arr 108 2 (((List.range (s.Glues.length*n+i.1*Bu n)).map (CB s n)).map Ad.c))),(1,(true,.arr 108 2 [])),(0,(false,.view [.sl false 2 (s.Glues.map Ad.c),.sl false 2 (s.Tiles.map Tile.c)]))],5⟩,λi=>s.Tiles.length - i.1,λi=>⟨by simp[ZG],by simp⟩,⟨⟨0,Cz _⟩,[(4,some 3)],?_⟩,λi=> ?_⟩
 .simp only[Ar,J5,FO];simp(maxSteps:=9^9)(disch:=omega)only[ZZ,simprocAttr,Ab,GB,AS,AR]
 obtain⟨i,hi⟩:=i;have Z:IntKind.i64.wrap ((i:Int)+1)=((i+1:Nat):Int):=by rw[AA (by omega) (by omega)];omega
 simp(maxSteps:=9^9)(disch:=omega)only[ZZ,simprocAttr,Ab,GB,sub,AO,G];intro _;refine⟨λO=> ?_,λO=> ?_⟩;rotate_left
 .obtain rfl:i=s.Tiles.length:=by omega
  rfl
 have am:i*Bu n<=24000:=by rcases (by omega:n=1\/n=2\/n=3\/n=4) with rfl|rfl|rfl|rfl<;>simp only[Bu]<;>omega
 refine AY.ren ⟨{y:Nat//y<=n},λy=>⟨[(9,.im (.int .i64 y.1)),(8,.im (.int .i64 i)),(5,.own 5),(4,.own 1),(0,.ptr 0 0),(1,.im (.int .i64 n))],[(5,(true,.arr 108 2 (((List.range (s.Glues.length*n+i*Bu n+y.1*(n - 1))).map (CB s n)).map Ad.c))),(1,(true,.arr 108 2 [])),(0,(false,.view [.sl false 2 (s.Glues.map Ad.c),.sl false 2 (s.Tiles.map Tile.c)]))],6⟩,λy=>n - y.1,λy=>⟨by simp[ZG],by simp⟩,⟨⟨0,Cz _⟩,[(5,some 4)],?_⟩,λy=> ?_⟩
 .simp only[Ar,J5,FO];simp(maxSteps:=9^9)(disch:=omega)only[ZZ,simprocAttr,Ab,GB,AS,AR]
 obtain⟨y,hy⟩:=y;have ai:IntKind.i64.wrap ((y:Int)+1)=((y+1:Nat):Int):=by rw[AA (by omega) (by omega)];omega
 simp(maxSteps:=9^9)(disch:=omega)only[ZZ,simprocAttr,Ab,GB,sub,AO,G];refine⟨λaf=> ?_,λaf=> ?_⟩
 .have aq:y*(n - 1)<=16:=by rcases (by omega:n=1\/n=2\/n=3\/n=4) with rfl|rfl|rfl|rfl<;>omega
  refine AY.ren ⟨{x:Nat//x<=(n - 1)},λx=>⟨[(10,.im (.int .i64 x.1)),(9,.im (.int .i64 y)),(8,.im (.int .i64 i)),(5,.own 6),(4,.own 1),(0,.ptr 0 0),(1,.im (.int .i64 n))],[(6,(true,.arr 108 2 (((List.range (s.Glues.length*n+i*Bu n+(y*(n - 1)+x.1))).map (CB s n)).map Ad.c))),(1,(true,.arr 108 2 [])),(0,(false,.view [.sl false 2 (s.Glues.map Ad.c),.sl false 2 (s.Tiles.map Tile.c)]))],7⟩,λx=>(n - 1) - x.1,λx=>⟨by simp[ZG],by simp⟩,⟨⟨0,Cz _⟩,[(6,some 5)],?_⟩,λx=> ?_⟩
  .simp only[Ar,FO];simp(maxSteps:=9^9)(disch:=omega)only[ZZ,simprocAttr,Ab,GB,AS,AR]
  obtain⟨x,hx⟩:=x;have aa:IntKind.i64.wrap ((x:Int)+1)=((x+1:Nat):Int):=by rw[AA (by omega) (by omega)];omega
  simp(maxSteps:=9^9)(disch:=omega)only[ZZ,simprocAttr,Ab,GB,sub,AO,G];have s1:=bF (a:=(i:Nat)) (b:=(x:Nat)) (c:=(y:Nat)) (by omega) (by omega) (by omega);refine⟨λQ=>⟨⟨by omega,by omega,by omega⟩,by omega,?_⟩,λQ=> ?_⟩
  .have hr:List.map Ad.c ((List.range (s.Glues.length*n+i*Bu n+(y*(n - 1)+x))).map (CB s n))++[[D.str (⟨#[104]⟩++IX (i:Nat) (x:Nat) (y:Nat)),D.int .i64 1]]=((List.range (s.Glues.length*n+i*Bu n+(y*(n - 1)+(x+1)))).map (CB s n)).map Ad.c:=by
    rw[show s.Glues.length*n+i*Bu n+(y*(n - 1)+(x+1))=s.Glues.length*n+i*Bu n+(y*(n - 1)+x)+1 by omega,F4,En,FW hn Q af,aZ];rfl
   refine⟨by simp[Bl,Bo,D.one],by rw[I9];omega,?_⟩;refine⟨⟨x+1,by omega⟩,[(6,some 8)],by simp only;omega,?_⟩;simp only[Ar];simp(maxSteps:=9^9)(disch:=omega)only[ZZ,simprocAttr,Ab,GB,AS,AR,aa,hr]
  .obtain rfl:x=n - 1:=by omega
   have hj:s.Glues.length*n+i*Bu n+(y*(n - 1)+(n - 1))=s.Glues.length*n+i*Bu n+(y+1)*(n - 1):=by rw[Du y 1,EH]
   refine⟨⟨y+1,by omega⟩,[(5,some 6)],by simp only;omega,?_⟩;simp only[Ar];simp(maxSteps:=9^9)(disch:=omega)only[ZZ,simprocAttr,Ab,GB,AS,AR,ai,hj]
 obtain rfl:y=n:=by omega
 have ao:y*(y - 1)<=12:=by rcases (by omega:y=1\/y=2\/y=3\/y=4) with rfl|rfl|rfl|rfl<;>omega
 obtain⟨n,hny⟩: ∃n,n=y:=⟨_,rfl⟩;subst hny;refine AY.ren ⟨{z:Nat//z<=(n - 1)},λz=>⟨[(11,.im (.int .i64 z.1)),(8,.im (.int .i64 i)),(5,.own 6),(4,.own 1),(0,.ptr 0 0),(1,.im (.int .i64 n))],[(6,(true,.arr 108 2 (((List.range (s.Glues.length*n+i*Bu n+(n*(n - 1)+z.1*n))).map (CB s n)).map Ad.c))),(1,(true,.arr 108 2 [])),(0,(false,.view [.sl false 2 (s.Glues.map Ad.c),.sl false 2 (s.Tiles.map Tile.c)]))],7⟩,λz=>(n - 1) - z.1,λz=>⟨by simp[ZG],by simp⟩,⟨⟨0,Cz _⟩,[(6,some 5)],?_⟩,λz=> ?_⟩
 .simp only[Ar,J5,FO];simp(maxSteps:=9^9)(disch:=omega)only[ZZ,simprocAttr,Ab,GB,AS,AR]
 obtain⟨z,hz⟩:=z;have aj:IntKind.i64.wrap ((z:Int)+1)=((z+1:Nat):Int):=by rw[AA (by omega) (by omega)];omega
 simp(maxSteps:=9^9)(disch:=omega)only[ZZ,simprocAttr,Ab,GB,sub,AO,G];refine⟨λag=> ?_,λag=> ?_⟩
 .have au:z*n<=16:=by rcases (by omega:n=1\/n=2\/n=3\/n=4) with rfl|rfl|rfl|rfl<;>omega
  refine AY.ren ⟨{x:Nat//x<=n},λx=>⟨[(12,.im (.int .i64 x.1)),(11,.im (.int .i64 z)),(8,.im (.int .i64 i)),(5,.own 7),(4,.own 1),(0,.ptr 0 0),(1,.im (.int .i64 n))],[(7,(true,.arr 108 2 (((List.range (s.Glues.length*n+i*Bu n+(n*(n - 1)+(z*n+x.1)))).map (CB s n)).map Ad.c))),(1,(true,.arr 108 2 [])),(0,(false,.view [.sl false 2 (s.Glues.map Ad.c),.sl false 2 (s.Tiles.map Tile.c)]))],8⟩,λx=>n - x.1,λx=>⟨by simp[ZG],by simp⟩,⟨⟨0,Cz _⟩,[(7,some 6)],?_⟩,λx=> ?_⟩
  .simp only[Ar,FO];simp(maxSteps:=9^9)(disch:=omega)only[ZZ,simprocAttr,Ab,GB,AS,AR]
  obtain⟨x,hx⟩:=x;have aa:IntKind.i64.wrap ((x:Int)+1)=((x+1:Nat):Int):=by rw[AA (by omega) (by omega)];omega
  simp(maxSteps:=9^9)(disch:=omega)only[ZZ,simprocAttr,Ab,GB,sub,AO,G];have s1:=bF (a:=(i:Nat)) (b:=(x:Nat)) (c:=(z:Nat)) (by omega) (by omega) (by omega);refine⟨λQ=>⟨⟨by omega,by omega,by omega⟩,by omega,?_⟩,λQ=> ?_⟩
  .have hr:List.map Ad.c ((List.range (s.Glues.length*n+i*Bu n+(n*(n - 1)+(z*n+x)))).map (CB s n))++[[D.str (⟨#[118]⟩++IX (i:Nat) (x:Nat) (z:Nat)),D.int .i64 1]]=((List.range (s.Glues.length*n+i*Bu n+(n*(n - 1)+(z*n+(x+1))))).map (CB s n)).map Ad.c:=by
    rw[show s.Glues.length*n+i*Bu n+(n*(n - 1)+(z*n+(x+1)))=s.Glues.length*n+i*Bu n+(n*(n - 1)+(z*n+x))+1 by omega,F4,En,FX hn Q ag,aZ];rfl
   refine⟨by simp[Bl,Bo,D.one],by rw[I9];omega,?_⟩;refine⟨⟨x+1,by omega⟩,[(7,some 9)],by simp only;omega,?_⟩;simp only[Ar];simp(maxSteps:=9^9)(disch:=omega)only[ZZ,simprocAttr,Ab,GB,AS,AR,aa,hr]
  .obtain rfl:x=n:=by omega
   have hj:s.Glues.length*x+i*Bu x+(x*(x - 1)+(z*x+x))=s.Glues.length*x+i*Bu x+(x*(x - 1)+(z+1)*x):=by rw[Du z 1,EH]
   refine⟨⟨z+1,by omega⟩,[(6,some 7)],by simp only;omega,?_⟩;simp only[Ar];simp(maxSteps:=9^9)(disch:=omega)only[ZZ,simprocAttr,Ab,GB,AS,AR,aj,hj]
 obtain rfl:z=n - 1:=by omega
 have hj:s.Glues.length*n+i*Bu n+(n*(n - 1)+(n - 1)*n)=s.Glues.length*n+(i+1)*Bu n:=by
  rw[Du i 1,EH,FA];congr 2;simp only[Bu];rcases (by omega:n=1\/n=2\/n=3\/n=4) with rfl|rfl|rfl|rfl<;>rfl
 refine⟨⟨i+1,by omega⟩,[(4,some 6)],by simp only;omega,?_⟩;simp only[Ar];simp(maxSteps:=9^9)(disch:=omega)only[ZZ,simprocAttr,Ab,GB,AS,AR,Z,hj]
def sds_.fv(a:Au×Int×Int×Int×Int):List Int:=(λs i x y k=>C7 s k.toNat i.toNat x.toNat y.toNat) (a.1) (a.2.1) (a.2.2.1) (a.2.2.2.1) (a.2.2.2.2)
def sds_.row:AE:=vK (b5 (qP 2 Au.d_le) qI qI qI qI) (rS GH EX) (λa=>CY a.1/\(a.1.Glues.length<=1000/\a.1.Tiles.length<=1000)/\(0<=a.2.1/\a.2.1<a.1.Tiles.length)/\(0<=a.2.2.1/\a.2.2.1<a.2.2.2.2)/\(0<=a.2.2.2.1/\a.2.2.2.1<a.2.2.2.2)/\1<=a.2.2.2.2/\a.2.2.2.2<=4) sds_.fv
def sds_.q:=Bg (R:=sds_.row) rfl
def sds_.ok:AI 45 sds_.row:=by
 refine vw tN Tryz.func45 ?_;intro a ab;simp only[Tryz.f45,Option.getD];simp(maxSteps:=9^9)(disch:=omega)only[ZZ,simprocAttr,Ab,sds_.fv];obtain⟨s,i,x,y,k⟩:=a;obtain⟨h1,h2,h3,h4,h5,hk⟩:=ab;simp only at h1 h2 h3 h4 h5 hk⊢;obtain⟨n,rfl⟩: ∃n:Nat,k=n:=⟨k.toNat,by omega⟩;obtain⟨i,rfl⟩: ∃n:Nat,i=n:=⟨i.toNat,by omega⟩;obtain⟨x,rfl⟩: ∃n:Nat,x=n:=⟨x.toNat,by omega⟩;obtain⟨y,rfl⟩: ∃n:Nat,y=n:=⟨y.toNat,by omega⟩;have hn:1<=n/\n<=4:=by omega
 have aa:IntKind.i64.wrap ((n:Int) - 1)=((n - 1:Nat):Int):=by rw[AA (by omega) (by omega)];omega
 have e1:IntKind.i64.wrap (IntKind.i64.wrap (IntKind.i64.wrap ((s.Glues.length:Int)*n)+IntKind.i64.wrap (IntKind.i64.wrap (IntKind.i64.wrap ((i:Int)*2)*n)*((n - 1:Nat):Int)))+1)=((s.Glues.length*n+i*Bu n+1:Nat):Int):=by
  rcases (by omega:n=1\/n=2\/n=3\/n=4) with rfl|rfl|rfl|rfl<;>simp only[Bu]<;>simp (disch:=omega) only[AA]<;>omega
 have e2:IntKind.i64.wrap (((s.Glues.length*n+i*Bu n+1:Nat):Int)+IntKind.i64.wrap ((n:Int)*((n - 1:Nat):Int)))=((s.Glues.length*n+i*Bu n+1+n*(n - 1):Nat):Int):=by
  rcases (by omega:n=1\/n=2\/n=3\/n=4) with rfl|rfl|rfl|rfl<;>simp only[Bu]<;>simp (disch:=omega) only[AA]<;>omega
 simp only[Bj,aa,e1,e2];intro _;refine AY.ren ⟨{d:Nat//d<=4},λd=>⟨[(14,.im (.int .i64 d.1)),(13,.own 3),(12,.im (.int .i64 ((s.Glues.length*n+i*Bu n+1+n*(n - 1):Nat):Int))),(11,.im (.int .i64 ((s.Glues.length*n+i*Bu n+1:Nat):Int))),(10,.own 1),(0,.ptr 0 0),(1,.im (.int .i64 i)),(2,.im (.int .i64 x)),(3,.im (.int .i64 y)),(4,.im (.int .i64 n))],[(3,(true,.arr 2 1 (((C7 s n i x y).take d.1).map Ak))),(1,(true,.arr 2 1 [])),(0,(false,.view [.sl false 2 (s.Glues.map Ad.c),.sl false 2 (s.Tiles.map Tile.c)]))],4⟩,λd=>4 - d.1,λd=>⟨by simp[ZG],by simp⟩,⟨⟨0,Cz _⟩,[(3,some 2)],?_⟩,λd=> ?_⟩
 .simp only[Ar,Eo,BD];simp(maxSteps:=9^9)(disch:=omega)only[ZZ,simprocAttr,Ab,sds_.fv,AS,AR]
 obtain⟨d,hd⟩:=d;have Z:(C7 s n i x y).length=4:=rfl;by_cases d4:d=4
 .subst d4;simp(maxSteps:=9^9)(disch:=omega)only[ZZ,simprocAttr,Ab,sds_.fv,sub,AO];rfl
 have ac:IntKind.i64.wrap ((d:Int)+1)=((d+1:Nat):Int):=by rw[AA (by omega) (by omega)];omega
 rcases (by omega:d=0\/d=1\/d=2\/d=3) with rfl|rfl|rfl|rfl
 .simp(maxSteps:=9^9)(disch:=omega)only[ZZ,simprocAttr,Ab,sds_.fv,sub,AO,aa];refine⟨by omega,λt ht=>⟨by have:=(h1.2.1 t (Bf ht)).1;omega,λg hg=> ?_⟩⟩;have z:F8 s i ((0:Nat):Int)=g:=by simp[F8,ht,hg]
  have Q:=(N1 h1 i 0);rw[z] at Q;have O:y<n - 1->IntKind.i64.wrap (IntKind.i64.wrap (((s.Glues.length*n+i*Bu n+1+n*(n - 1):Nat):Int)+IntKind.i64.wrap ((y:Int)*n))+x)=Gk s n i x y:=λc=>by
   simp only[Gk];rw[Ai c];rcases (by omega:n=1\/n=2\/n=3\/n=4) with rfl|rfl|rfl|rfl<;>simp only[Bu]<;>simp (disch:=omega) only[AA]<;>omega
  refine⟨λg0=>⟨λc=> ?_,λc=> ?_⟩,λg0=>⟨λc=> ?_,λc=> ?_⟩⟩
  .have G:IntKind.i64.wrap (IntKind.i64.wrap (((s.Glues.length*n+i*Bu n+1+n*(n - 1):Nat):Int)+IntKind.i64.wrap ((y:Int)*n))+x)=Gk s n i x y:=by
    exact O (by omega)
   rw[G];refine⟨by simp[Bl,Bo,D.one],⟨1,by omega⟩,[(3,some 5)],by simp only;omega,?_⟩;simp only[Ar];simp(maxSteps:=9^9)(disch:=omega)only[ZZ,simprocAttr,Ab,sds_.fv,AS,AR,C7,EG,Eo,Bb,BD,BG,Dj,Ak]
   all_goals first|rfl|exact⟨rfl,rfl⟩|exact AA (by omega) (by omega)
  .have G:IntKind.i64.wrap (IntKind.i64.wrap (IntKind.i64.wrap (IntKind.i64.wrap (g - 1)*n)+x)+1)=Gk s n i x y:=by
    simp only[Gk,EI];rw[Af (by omega),Ai (by rw[z];exact g0),z];rcases (by omega:n=1\/n=2\/n=3\/n=4) with rfl|rfl|rfl|rfl<;>simp (disch:=omega) only[AA]<;>omega
   rw[G];refine⟨by simp[Bl,Bo,D.one],⟨1,by omega⟩,[(3,some 5)],by simp only;omega,?_⟩;simp only[Ar];simp(maxSteps:=9^9)(disch:=omega)only[ZZ,simprocAttr,Ab,sds_.fv,AS,AR,C7,EG,Eo,Bb,BD,BG,Dj,Ak]
   all_goals first|rfl|exact⟨rfl,rfl⟩|exact AA (by omega) (by omega)
  .have G:IntKind.i64.wrap (IntKind.i64.wrap (((s.Glues.length*n+i*Bu n+1+n*(n - 1):Nat):Int)+IntKind.i64.wrap ((y:Int)*n))+x)=Gk s n i x y:=by
    exact O (by omega)
   rw[G];refine⟨by simp[Bl,Bo,D.one],⟨1,by omega⟩,[(3,some 5)],by simp only;omega,?_⟩;simp only[Ar];simp(maxSteps:=9^9)(disch:=omega)only[ZZ,simprocAttr,Ab,sds_.fv,AS,AR,C7,EG,Eo,Bb,BD,BG,Dj,Ak]
   all_goals first|rfl|exact⟨rfl,rfl⟩|exact AA (by omega) (by omega)
  .have G:(0:Int)=Gk s n i x y:=by
    simp only[Gk,EI];rw[Af (by omega),Af (by rw[z];exact g0)]
   rw[G];refine⟨by simp[Bl,Bo,D.one],⟨1,by omega⟩,[(3,some 5)],by simp only;omega,?_⟩;simp only[Ar];simp(maxSteps:=9^9)(disch:=omega)only[ZZ,simprocAttr,Ab,sds_.fv,AS,AR,C7,EG,Eo,Bb,BD,BG,Dj,Ak]
   all_goals first|rfl|exact⟨rfl,rfl⟩|exact AA (by omega) (by omega)
 .simp(maxSteps:=9^9)(disch:=omega)only[ZZ,simprocAttr,Ab,sds_.fv,sub,AO,aa];refine⟨by omega,λt ht=>⟨by have:=(h1.2.1 t (Bf ht)).1;omega,λg hg=> ?_⟩⟩;have z:F8 s i ((1:Nat):Int)=g:=by simp[F8,ht,hg]
  have Q:=(N1 h1 i 1);rw[z] at Q;have O:x<n - 1->IntKind.i64.wrap (IntKind.i64.wrap (((s.Glues.length*n+i*Bu n+1:Nat):Int)+IntKind.i64.wrap ((y:Int)*((n - 1:Nat):Int)))+x)=Gl s n i x y:=λc=>by
   simp only[Gl];rw[Ai c];rcases (by omega:n=1\/n=2\/n=3\/n=4) with rfl|rfl|rfl|rfl<;>simp only[Bu]<;>simp (disch:=omega) only[AA]<;>omega
  refine⟨λg0=>⟨λc=> ?_,λc=> ?_⟩,λg0=>⟨λc=> ?_,λc=> ?_⟩⟩
  .have G:IntKind.i64.wrap (IntKind.i64.wrap (((s.Glues.length*n+i*Bu n+1:Nat):Int)+IntKind.i64.wrap ((y:Int)*((n - 1:Nat):Int)))+x)=Gl s n i x y:=by
    exact O (by omega)
   rw[G];refine⟨by simp[Bl,Bo,D.one],by simp[Z],⟨2,by omega⟩,[(3,some 5)],by simp only;omega,?_⟩;simp only[Ar];simp(maxSteps:=9^9)(disch:=omega)only[ZZ,simprocAttr,Ab,sds_.fv,AS,AR,C7,EG,Eo,Bb,BD,BG,Dj,Ak]
   all_goals first|rfl|exact⟨rfl,rfl⟩|exact AA (by omega) (by omega)
  .have G:IntKind.i64.wrap (IntKind.i64.wrap (IntKind.i64.wrap (IntKind.i64.wrap (g - 1)*n)+y)+1)=Gl s n i x y:=by
    simp only[Gl,EI];rw[Af (by omega),Ai (by rw[z];exact g0),z];rcases (by omega:n=1\/n=2\/n=3\/n=4) with rfl|rfl|rfl|rfl<;>simp (disch:=omega) only[AA]<;>omega
   rw[G];refine⟨by simp[Bl,Bo,D.one],by simp[Z],⟨2,by omega⟩,[(3,some 5)],by simp only;omega,?_⟩;simp only[Ar];simp(maxSteps:=9^9)(disch:=omega)only[ZZ,simprocAttr,Ab,sds_.fv,AS,AR,C7,EG,Eo,Bb,BD,BG,Dj,Ak]
   all_goals first|rfl|exact⟨rfl,rfl⟩|exact AA (by omega) (by omega)
  .have G:IntKind.i64.wrap (IntKind.i64.wrap (((s.Glues.length*n+i*Bu n+1:Nat):Int)+IntKind.i64.wrap ((y:Int)*((n - 1:Nat):Int)))+x)=Gl s n i x y:=by
    exact O (by omega)
   rw[G];refine⟨by simp[Bl,Bo,D.one],by simp[Z],⟨2,by omega⟩,[(3,some 5)],by simp only;omega,?_⟩;simp only[Ar];simp(maxSteps:=9^9)(disch:=omega)only[ZZ,simprocAttr,Ab,sds_.fv,AS,AR,C7,EG,Eo,Bb,BD,BG,Dj,Ak]
   all_goals first|rfl|exact⟨rfl,rfl⟩|exact AA (by omega) (by omega)
  .have G:(0:Int)=Gl s n i x y:=by
    simp only[Gl,EI];rw[Af (by omega),Af (by rw[z];exact g0)]
   rw[G];refine⟨by simp[Bl,Bo,D.one],by simp[Z],⟨2,by omega⟩,[(3,some 5)],by simp only;omega,?_⟩;simp only[Ar];simp(maxSteps:=9^9)(disch:=omega)only[ZZ,simprocAttr,Ab,sds_.fv,AS,AR,C7,EG,Eo,Bb,BD,BG,Dj,Ak]
   all_goals first|rfl|exact⟨rfl,rfl⟩|exact AA (by omega) (by omega)
 .simp(maxSteps:=9^9)(disch:=omega)only[ZZ,simprocAttr,Ab,sds_.fv,sub,AO,aa];refine⟨by omega,λt ht=>⟨by have:=(h1.2.1 t (Bf ht)).1;omega,λg hg=> ?_⟩⟩;have z:F8 s i ((2:Nat):Int)=g:=by simp[F8,ht,hg]
  have Q:=(N1 h1 i 2);rw[z] at Q;have O:0<y->IntKind.i64.wrap (IntKind.i64.wrap (((s.Glues.length*n+i*Bu n+1+n*(n - 1):Nat):Int)+IntKind.i64.wrap (IntKind.i64.wrap ((y:Int) - 1)*n))+x)=Gm s n i x y:=λc=>by
   simp only[Gm];rw[Ai c];rcases (by omega:n=1\/n=2\/n=3\/n=4) with rfl|rfl|rfl|rfl<;>simp only[Bu]<;>simp (disch:=omega) only[AA]<;>omega
  refine⟨λg0=>⟨λc=> ?_,λc=> ?_⟩,λg0=>⟨λc=> ?_,λc=> ?_⟩⟩
  .have G:IntKind.i64.wrap (IntKind.i64.wrap (((s.Glues.length*n+i*Bu n+1+n*(n - 1):Nat):Int)+IntKind.i64.wrap (IntKind.i64.wrap ((y:Int) - 1)*n))+x)=Gm s n i x y:=by
    exact O (by omega)
   rw[G];refine⟨by simp[Bl,Bo,D.one],by simp[Z],⟨3,by omega⟩,[(3,some 5)],by simp only;omega,?_⟩;simp only[Ar];simp(maxSteps:=9^9)(disch:=omega)only[ZZ,simprocAttr,Ab,sds_.fv,AS,AR,C7,EG,Eo,Bb,BD,BG,Dj,Ak]
   all_goals first|rfl|exact⟨rfl,rfl⟩|exact AA (by omega) (by omega)
  .have G:IntKind.i64.wrap (IntKind.i64.wrap (IntKind.i64.wrap (IntKind.i64.wrap (g - 1)*n)+x)+1)=Gm s n i x y:=by
    simp only[Gm,EI];rw[Af (by omega),Ai (by rw[z];exact g0),z];rcases (by omega:n=1\/n=2\/n=3\/n=4) with rfl|rfl|rfl|rfl<;>simp (disch:=omega) only[AA]<;>omega
   rw[G];refine⟨by simp[Bl,Bo,D.one],by simp[Z],⟨3,by omega⟩,[(3,some 5)],by simp only;omega,?_⟩;simp only[Ar];simp(maxSteps:=9^9)(disch:=omega)only[ZZ,simprocAttr,Ab,sds_.fv,AS,AR,C7,EG,Eo,Bb,BD,BG,Dj,Ak]
   all_goals first|rfl|exact⟨rfl,rfl⟩|exact AA (by omega) (by omega)
  .have G:IntKind.i64.wrap (IntKind.i64.wrap (((s.Glues.length*n+i*Bu n+1+n*(n - 1):Nat):Int)+IntKind.i64.wrap (IntKind.i64.wrap ((y:Int) - 1)*n))+x)=Gm s n i x y:=by
    exact O (by omega)
   rw[G];refine⟨by simp[Bl,Bo,D.one],by simp[Z],⟨3,by omega⟩,[(3,some 5)],by simp only;omega,?_⟩;simp only[Ar];simp(maxSteps:=9^9)(disch:=omega)only[ZZ,simprocAttr,Ab,sds_.fv,AS,AR,C7,EG,Eo,Bb,BD,BG,Dj,Ak]
   all_goals first|rfl|exact⟨rfl,rfl⟩|exact AA (by omega) (by omega)
  .have G:(0:Int)=Gm s n i x y:=by
    simp only[Gm,EI];rw[Af (by omega),Af (by rw[z];exact g0)]
   rw[G];refine⟨by simp[Bl,Bo,D.one],by simp[Z],⟨3,by omega⟩,[(3,some 5)],by simp only;omega,?_⟩;simp only[Ar];simp(maxSteps:=9^9)(disch:=omega)only[ZZ,simprocAttr,Ab,sds_.fv,AS,AR,C7,EG,Eo,Bb,BD,BG,Dj,Ak]
   all_goals first|rfl|exact⟨rfl,rfl⟩|exact AA (by omega) (by omega)
 .simp(maxSteps:=9^9)(disch:=omega)only[ZZ,simprocAttr,Ab,sds_.fv,sub,AO,aa];refine⟨by omega,λt ht=>⟨by have:=(h1.2.1 t (Bf ht)).1;omega,λg hg=> ?_⟩⟩;have z:F8 s i ((3:Nat):Int)=g:=by simp[F8,ht,hg]
  have Q:=(N1 h1 i 3);rw[z] at Q;have O:0<x->IntKind.i64.wrap (IntKind.i64.wrap (IntKind.i64.wrap (((s.Glues.length*n+i*Bu n+1:Nat):Int)+IntKind.i64.wrap ((y:Int)*((n - 1:Nat):Int)))+x) - 1)=Gp s n i x y:=λc=>by
   simp only[Gp];rw[Ai c];rcases (by omega:n=1\/n=2\/n=3\/n=4) with rfl|rfl|rfl|rfl<;>simp only[Bu]<;>simp (disch:=omega) only[AA]<;>omega
  refine⟨λg0=>⟨λc=> ?_,λc=> ?_⟩,λg0=>⟨λc=> ?_,λc=> ?_⟩⟩
  .have G:IntKind.i64.wrap (IntKind.i64.wrap (IntKind.i64.wrap (((s.Glues.length*n+i*Bu n+1:Nat):Int)+IntKind.i64.wrap ((y:Int)*((n - 1:Nat):Int)))+x) - 1)=Gp s n i x y:=by
    exact O (by omega)
   rw[G];refine⟨by simp[Bl,Bo,D.one],by simp[Z],⟨4,by omega⟩,[(3,some 5)],by simp only;omega,?_⟩;simp only[Ar];simp(maxSteps:=9^9)(disch:=omega)only[ZZ,simprocAttr,Ab,sds_.fv,AS,AR,C7,EG,Eo,Bb,BD,BG,Dj,Ak]
   all_goals first|rfl|exact⟨rfl,rfl⟩|exact AA (by omega) (by omega)
  .have G:IntKind.i64.wrap (IntKind.i64.wrap (IntKind.i64.wrap (IntKind.i64.wrap (g - 1)*n)+y)+1)=Gp s n i x y:=by
    simp only[Gp,EI];rw[Af (by omega),Ai (by rw[z];exact g0),z];rcases (by omega:n=1\/n=2\/n=3\/n=4) with rfl|rfl|rfl|rfl<;>simp (disch:=omega) only[AA]<;>omega
   rw[G];refine⟨by simp[Bl,Bo,D.one],by simp[Z],⟨4,by omega⟩,[(3,some 5)],by simp only;omega,?_⟩;simp only[Ar];simp(maxSteps:=9^9)(disch:=omega)only[ZZ,simprocAttr,Ab,sds_.fv,AS,AR,C7,EG,Eo,Bb,BD,BG,Dj,Ak]
   all_goals first|rfl|exact⟨rfl,rfl⟩|exact AA (by omega) (by omega)
  .have G:IntKind.i64.wrap (IntKind.i64.wrap (IntKind.i64.wrap (((s.Glues.length*n+i*Bu n+1:Nat):Int)+IntKind.i64.wrap ((y:Int)*((n - 1:Nat):Int)))+x) - 1)=Gp s n i x y:=by
    exact O (by omega)
   rw[G];refine⟨by simp[Bl,Bo,D.one],by simp[Z],⟨4,by omega⟩,[(3,some 5)],by simp only;omega,?_⟩;simp only[Ar];simp(maxSteps:=9^9)(disch:=omega)only[ZZ,simprocAttr,Ab,sds_.fv,AS,AR,C7,EG,Eo,Bb,BD,BG,Dj,Ak]
   all_goals first|rfl|exact⟨rfl,rfl⟩|exact AA (by omega) (by omega)
  .have G:(0:Int)=Gp s n i x y:=by
    simp only[Gp,EI];rw[Af (by omega),Af (by rw[z];exact g0)]
   rw[G];refine⟨by simp[Bl,Bo,D.one],by simp[Z],⟨4,by omega⟩,[(3,some 5)],by simp only;omega,?_⟩;simp only[Ar];simp(maxSteps:=9^9)(disch:=omega)only[ZZ,simprocAttr,Ab,sds_.fv,AS,AR,C7,EG,Eo,Bb,BD,BG,Dj,Ak]
   all_goals first|rfl|exact⟨rfl,rfl⟩|exact AA (by omega) (by omega)
def set_.fv(a:Au×Int):Au:=(λs k=>⟨Dg s k.toNat,KE s k.toNat⟩) (a.1) (a.2)
def set_.row:AE:=vK (b2 (qP 2 Au.d_le) qI) (rA Au.d_le) (λa=>CY a.1/\(a.1.Glues.length<=1000/\a.1.Tiles.length<=1000)/\1<=a.2/\a.2<=4) set_.fv
def set_.q:=Bg (R:=set_.row) rfl
def XG(s:Au)(k:Nat):(KE s k).length=s.Tiles.length*(k*k):=by simp[KE]
def dF:=J @set_.fv.eq_1<|J @gls_.q<|J @gls_.fv.eq_1<|J @num3_.q<|J @num3_.fv.eq_1<|J @sds_.q @sds_.fv.eq_1
def set_.ok:AI 16 set_.row:=by
 refine vw (tC gls_.ok (tC num3_.ok (tC sds_.ok tN))) Tryz.func16 ?_;intro a O;simp only[Tryz.f16,Option.getD];simp(maxSteps:=9^9)(disch:=omega)only[ZZ,simprocAttr,Ab,dF];obtain⟨s,k⟩:=a;obtain⟨h1,Q,hk⟩:=O;simp only at h1 Q hk⊢;obtain⟨n,rfl⟩: ∃n:Nat,k=n:=⟨k.toNat,by omega⟩;have hn:1<=n/\n<=4:=by omega
 have ac:n*n<=16:=by rcases (by omega:n=1\/n=2\/n=3\/n=4) with rfl|rfl|rfl|rfl<;>omega
 have ad:(⟨#[112]⟩:ByteArray).size=1:=rfl;rw[Bj];refine⟨⟨Q,hk⟩,?_⟩;refine AY.ren ⟨{i:Nat//i<=s.Tiles.length},λi=>⟨[(6,.im (.int .i64 i.1)),(5,.ptr 2 0),(4,.ptr 1 0),(0,.ptr 0 0),(1,.im (.int .i64 n))],[(2,(true,.cells 35 [.im (.sl false 2 ((Dg s n).map Ad.c)),.own 3])),(3,(true,.arr 98 2 (((List.range (i.1*(n*n))).map (Kq s n)).map Tile.c))),(1,(true,.cells 35 [.im (.sl true 0 []),.im (.sl true 0 [])])),(0,(false,.view [.sl false 2 (s.Glues.map Ad.c),.sl false 2 (s.Tiles.map Tile.c)]))],4⟩,λi=>s.Tiles.length - i.1,λi=>⟨by simp[ZG],by simp⟩,⟨⟨0,Cz _⟩,[(3,none)],?_⟩,λi=> ?_⟩
 .simp only[Ar,J5,Vk,BD];simp(maxSteps:=9^9)(disch:=omega)only[ZZ,simprocAttr,Ab,dF,AS,AR]
 obtain⟨i,hi⟩:=i;have aa:IntKind.i64.wrap ((i:Int)+1)=((i+1:Nat):Int):=by rw[AA (by omega) (by omega)];omega
 simp(maxSteps:=9^9)(disch:=omega)only[ZZ,simprocAttr,Ab,dF,sub,AO];intro _;refine⟨λG=> ?_,λG=> ?_⟩
 .have ab:i*(n*n)<=16000:=by rcases (by omega:n=1\/n=2\/n=3\/n=4) with rfl|rfl|rfl|rfl<;>omega
  refine AY.ren ⟨{c:Nat//c<=n*n},λc=>⟨[(7,.im (.int .i64 c.1)),(6,.im (.int .i64 i)),(5,.ptr 2 0),(4,.ptr 1 0),(0,.ptr 0 0),(1,.im (.int .i64 n))],[(2,(true,.cells 35 [.im (.sl false 2 ((Dg s n).map Ad.c)),.own 4])),(4,(true,.arr 98 2 (((List.range (i*(n*n)+c.1)).map (Kq s n)).map Tile.c))),(1,(true,.cells 35 [.im (.sl true 0 []),.im (.sl true 0 [])])),(0,(false,.view [.sl false 2 (s.Glues.map Ad.c),.sl false 2 (s.Tiles.map Tile.c)]))],5⟩,λc=>n*n - c.1,λc=>⟨by simp[ZG],by simp⟩,⟨⟨0,Cz _⟩,[(4,some 3)],?_⟩,λc=> ?_⟩
  .simp only[Ar,FO];simp(maxSteps:=9^9)(disch:=omega)only[ZZ,simprocAttr,Ab,dF,AS,AR]
  obtain⟨c,hc⟩:=c;have Z:IntKind.i64.wrap ((c:Int)+1)=((c+1:Nat):Int):=by rw[AA (by omega) (by omega)];omega
  simp(maxSteps:=9^9)(disch:=omega)only[ZZ,simprocAttr,Ab,dF,sub,AO,ZL hn,ZI,ZH,ZK (show c<=1000000 by omega),Bj];have d1:=Zk c n;have d2:=Zm c (show n>0 by omega);refine⟨λz=> ?_,λz=> ?_⟩
  .have hd:c/n<n:=by rcases (by omega:n=1\/n=2\/n=3\/n=4) with rfl|rfl|rfl|rfl<;>omega
   have hr:List.map Tile.c ((List.range (i*(n*n)+c)).map (Kq s n))++[[D.str (⟨#[112]⟩++IX (i:Nat) ((c % n:Nat):Int) ((c/n:Nat):Int)),D.sl false 1 ((C7 s n i (c % n) (c/n)).map Ak)]]=((List.range (i*(n*n)+(c+1))).map (Kq s n)).map Tile.c:=by
    rw[<-FA,F4,En,Re hn z,aZ];rfl
   generalize hcm:c % n=cm at*;generalize hcd:c/n=cd at*;have s1:=bF (a:=(i:Nat)) (b:=(cm:Nat)) (c:=(cd:Nat)) (by omega) (by omega) (by omega);refine⟨by omega,by omega,⟨by omega,by omega,by omega⟩,by omega,by omega,by omega,⟨h1,Q,G,d2,hd,hk⟩,by simp[Bl,Bo,D.one],by rw[I9];omega,⟨c+1,by omega⟩,[(4,some 6)],by simp only;omega,?_⟩;simp only[Ar];simp(maxSteps:=9^9)(disch:=omega)only[ZZ,simprocAttr,Ab,dF,AS,AR,Z,hr]
  .obtain rfl:c=n*n:=by omega
   have hj:i*(n*n)+n*n=(i+1)*(n*n):=by rw[Du,EH]
   refine⟨⟨i+1,by omega⟩,[(3,some 4)],by simp only;omega,?_⟩;simp only[Ar];simp(maxSteps:=9^9)(disch:=omega)only[ZZ,simprocAttr,Ab,dF,AS,AR,aa,hj]
 .obtain rfl:i=s.Tiles.length:=by omega
  rfl
def Bm(s:AF)(k:Int):AF×Int:=
 if Ih s=true then (if Bw k 1 4=true then (if s.Temperature=2 then
  (if Cv s.Set k.toNat<=200/\s.Set.Tiles.length*(k.toNat*k.toNat)<=160/\(CF s.Seed k.toNat).2=true then
   (if Ih ⟨⟨Dg s.Set k.toNat,KE s.Set k.toNat⟩,(CF s.Seed k.toNat).1,2⟩=true then (⟨⟨Dg s.Set k.toNat,KE s.Set k.toNat⟩,(CF s.Seed k.toNat).1,2⟩,0) else (⟨⟨[],[]⟩,⟨[]⟩,0⟩,5))
  else (⟨⟨[],[]⟩,⟨[]⟩,0⟩,4)) else (⟨⟨[],[]⟩,⟨[]⟩,0⟩,5)) else (⟨⟨[],[]⟩,⟨[]⟩,0⟩,2)) else (⟨⟨[],[]⟩,⟨[]⟩,0⟩,1)
def prfS_.fv(a:AF×Int):AF×Int:=(Bm) (a.1) (a.2)
def prfS_.row:AE:=vK (b2 (qR AF.d_le) qI) (r2 (rA AF.d_le) rI) (λa=>True) prfS_.fv
def prfS_.q:=Bg (R:=prfS_.row) rfl
def prfS_.ok:AI 5 prfS_.row:=by
 refine vw (tC l08Ok.ok (tC l00In.ok (tC scl_.ok (tC set_.ok tN)))) Tryz.func5 ?_;intro a z;simp only[Tryz.f5,Option.getD];simp(maxSteps:=9^9)(disch:=omega)only[ZZ,simprocAttr,Ab,prfS_.fv,l08Ok.q,l08Ok.fv,l00In.q,l00In.fv,scl_.q,scl_.fv,set_.q,set_.fv];obtain⟨s,k⟩:=a;simp only;simp only[Bm];by_cases c1:Ih s=true
 case neg=>rw[Ai (by simpa using c1),Af c1]
 rw[Af (by simp[c1]),Ai c1];by_cases G:Bw k 1 4=true
 case neg=>rw[Ai (by simpa using G),Af G]
 rw[Af (by simp[G]),Ai G];by_cases O:s.Temperature=2
 case neg=>rw[Ai O,Af O]
 rw[Af (by simpa using O),Ai O];have hk:1<=k/\k<=4:=by simpa[Bw] using G
 obtain⟨n,rfl⟩: ∃n:Nat,k=n:=⟨k.toNat,by omega⟩;have hn:1<=n/\n<=4:=by omega
 obtain⟨q1,q2⟩:El s.Set=true/\Hw s.Set s.Seed=true:=by
  simp only[Ih,AW] at c1;exact⟨c1.1,c1.2.1⟩
 have q3:=nL q1;have q4:=Qws q1;have q5:s.Set.Glues.length<=200:=by simp only[El,AW,Cy] at q1;exact q1.1.1
 have q6:CS none s.Seed.Tiles=true/\s.Seed.Tiles.length<=500:=by simp only[Hw,AW,Cy] at q2;exact q2.1
 have e1:IntKind.i64.wrap (IntKind.i64.wrap ((s.Set.Glues.length:Int)*n)+IntKind.i64.wrap (IntKind.i64.wrap (IntKind.i64.wrap ((s.Set.Tiles.length:Int)*2)*n)*IntKind.i64.wrap ((n:Int) - 1)))=(Cv s.Set n:Int):=by
  rcases (by omega:n=1\/n=2\/n=3\/n=4) with rfl|rfl|rfl|rfl<;>simp only[Cv,Bu]<;>simp (disch:=omega) only[AA]<;>omega
 have e2:IntKind.i64.wrap (IntKind.i64.wrap ((s.Set.Tiles.length:Int)*n)*n)=((s.Set.Tiles.length*(n*n):Nat):Int):=by
  rw[UM hn (by omega),zE]
 intro _ _;rw[e1,e2,Bj];have z:(∀x∈s.Seed.Tiles,(-1000<=x.At.X/\x.At.X<=1000/\ -1000<=x.At.Y/\x.At.Y<=1000)/\0<=x.Tile/\x.Tile<=1000)/\(s.Seed.Tiles.map Al.At).Nodup/\s.Seed.Tiles.length<=1000:=by
  refine⟨λx hx=> ?_,Qix q6.1,by omega⟩
  have:=iC _ _ q6.1 x hx
  simp only[Ht,Bw,AW,Cy] at this;omega
 by_cases c4:Cv s.Set n<=200
 case neg=>rw[Af (by omega),Af (λh=>c4 h.1)]
 rw[Ai (by omega)];by_cases c5:s.Set.Tiles.length*(n*n)<=160
 case neg=>rw[Ai (by omega),Af (λh=>c5 h.2.1)]
 rw[Af (by omega)];refine⟨⟨z,hk⟩,?_⟩;by_cases Q:(CF s.Seed n).2=true
 case neg=>rw[Ai (by simpa using Q),Af (λh=>Q h.2.2)]
 rw[Af (by simp[Q]),Ai (show Cv s.Set n<=200/\s.Set.Tiles.length*(n*n)<=160/\(CF s.Seed n).2=true from ⟨c4,c5,Q⟩)];refine⟨⟨q3,⟨by omega,by omega⟩,hk⟩,?_⟩;by_cases Z:Ih ⟨⟨Dg s.Set n,KE s.Set n⟩,(CF s.Seed n).1,2⟩=true
 .rw[Af (by simp[Z]),Ai Z]
 .rw[Ai (by simpa using Z),Af Z]
end Go.Ae
namespace Go.Ae
mutual
def D.scd:D->Bool
 | .agg z=>OU z
 | .tup z=>OU z
 |d=>d.sc
def OU:List D->Bool
 |[]=>true
 |x::r=>x.scd && OU r
end
mutual
def Tu{ok ok':Nat->Prop}{hp hp':Nat->Option Obj}: ∀(d:D) (v:Value),d.scd=true->rd ok hp d v->rd ok' hp' d v
 | .agg z,v,h,hd=>by
   simp only[D.scd] at h;simp only[rd] at hd⊢;obtain⟨G,rfl,hd⟩:=hd;exact⟨G,rfl,bH z _ h hd⟩
 | .tup z,v,h,hd=>by
   simp only[D.scd] at h;simp only[rd] at hd⊢;obtain⟨G,rfl,hd⟩:=hd;exact⟨G,rfl,bH z _ h hd⟩
 | .int a b,v,h,hd=>Dv h hd
 | .bool a,v,h,hd=>Dv h hd
 | .str a,v,h,hd=>Dv h hd
 | .nilp,v,h,hd=>Dv h hd
 | .nilf,v,h,hd=>Dv h hd
 | .nili,v,h,hd=>Dv h hd
 | .nilc,v,h,hd=>Dv h hd
 | .nilm,v,h,hd=>Dv h hd
 | .sl O k rows,v,h,hd=>Dv h hd
 | .ref _,v,h,hd=>Dv h hd
 | .mp _ _,v,h,hd=>Dv h hd
 | .fn _ _ _,v,h,hd=>Dv h hd
 | .ifc _ _,v,h,hd=>Dv h hd
 | .gp _,v,h,hd=>Dv h hd
 | .tok _,v,h,hd=>Dv h hd
def bH{ok ok':Nat->Prop}{hp hp':Nat->Option Obj}: ∀(ds:List D) (vs:List Value),OU ds=true->rdl ok hp ds vs->rdl ok' hp' ds vs
 |[],vs,_,hd=>by simpa only[rdl] using hd
 |d::r,vs,h,hd=>by
  simp only[OU,AW] at h;simp only[rdl] at hd⊢;obtain⟨v,q,rfl,z,G⟩:=hd;exact⟨v,q,rfl,Tu d v h.1 z,bH r q h.2 G⟩
end
mutual
def Hn:AV->Bool
 | .im d=>d.sc||d.scd
 | .own _=>true
 | .agg z=>Ej z
 | .tup z=>Ej z
 | .any| .ptr _ _| .eptr _ _ _| .mp _| .ch _| .it _| .osl _ _ _| .clo _ _ _=>false
def Ej:List AV->Bool
 |[]=>true
 |x::r=>Hn x && Ej r
end
def HU:Ac->Bool
 | .arr _ _ rows=>rows.all λr=>r.all D.sc
 | .arrA _ _ rows=>rows.all Ej
 | .cells _ z=>Ej z
 | .map _ _| .chan _ _| .iter _ _| .view _=>false
def EU{m:Nat}: ∀{rows:List (List AV)},m∈Bx rows↔ ∃r∈rows,m∈Aw r
 |[]=>by simp[Bx]
 |r::z=>by simp[Bx,EU (rows:=z)]
section
variable {S1 S':Ay}{F:Nat->Prop}
mutual
def aE(Z: ∀n,F n->S'.h n=S1.h n)(hr: ∀n,F n->S'.ρ n=S1.ρ n): ∀(x:AV) (v:Value),Hn x=true->(∀m∈x.nms,F m)->Aa S1 x v->Aa S' x v
 | .im d,v,z,_,G=>by
   simp only[Aa] at G⊢;exact (Bool.or_eq_true_iff.1 (by simpa only[Hn] using z)).elim (λh=>Dv h G) λh=>Tu _ _ h G
 | .own o,v,_,O,G=>by
   simp only[Aa] at G⊢;have h0:F o:=O o (by simp[AV.nms]);rw[Z o h0,hr o h0];exact G
 | .agg Q,v,z,O,G=>by
   simp only[Aa] at G⊢;obtain⟨vs,rfl,h⟩:=G;exact⟨vs,rfl,VB Z hr Q _ (by simpa[Hn] using z) (by simpa[AV.nms] using O) h⟩
 | .tup Q,v,z,O,G=>by
   simp only[Aa] at G⊢;obtain⟨vs,rfl,h⟩:=G;exact⟨vs,rfl,VB Z hr Q _ (by simpa[Hn] using z) (by simpa[AV.nms] using O) h⟩
 | .any,_,z,_,_| .ptr _ _,_,z,_,_| .eptr _ _ _,_,z,_,_| .mp _,_,z,_,_| .ch _,_,z,_,_| .it _,_,z,_,_| .osl _ _ _,_,z,_,_| .clo _ _ _,_,z,_,_=>by simp[Hn] at z
def VB(O: ∀n,F n->S'.h n=S1.h n)(Z: ∀n,F n->S'.ρ n=S1.ρ n): ∀(xs:List AV) (vs:List Value),Ej xs=true->(∀m∈Aw xs,F m)->AN S1 xs vs->AN S' xs vs
 |[],vs,_,_,z=>by simpa only[AN] using z
 |x::r,vs,G,Q,z=>by
  simp only[AN] at z⊢;obtain⟨v,q,rfl,h1,h2⟩:=z;simp only[Ej,AW] at G;exact⟨v,q,rfl,aE O Z x v G.1 (λm h=>Q m (by simp[Aw,h])) h1,VB O Z r q G.2 (λm h=>Q m (by simp[Aw,h])) h2⟩
end
def lY(O: ∀n,F n->S'.h n=S1.h n)(Z: ∀n,F n->S'.ρ n=S1.ρ n): ∀(xs:List AV) (vs:List Value),Ej xs=true->(∀m∈Aw xs,F m)->Cm S1 xs vs->Cm S' xs vs
 |[],vs,_,_,_=>trivial
 |x::r,vs,z,Q,G=>by
  simp only[Cm] at G⊢;obtain⟨v,q,rfl,h1,h2⟩:=G;simp only[Ej,AW] at z;exact⟨v,q,rfl,aE O Z x v z.1 (λm h=>Q m (by simp[Aw,h])) h1,lY O Z r q z.2 (λm h=>Q m (by simp[Aw,h])) h2⟩
def lX{k:Nat}(Q: ∀n,F n->S'.h n=S1.h n)(hr: ∀n,F n->S'.ρ n=S1.ρ n): ∀(z:List (List AV)) (vs:List Value),z.all Ej=true->(∀r∈z,∀m∈Aw r,F m)->B7 S1 k z vs->B7 S' k z vs
 |[],vs,_,_,_=>trivial
 |r::z,vs,O,Z,G=>by
  simp only[B7] at G⊢;simp only[ET,AW] at O;exact⟨G.1,lY Q hr r _ O.1 (Z r (BQ ..)) G.2.1,lX Q hr z _ O.2 (λq hq=>Z q (BK _ hq)) G.2.2⟩
def M2{ok ok':Nat->Prop}{hp hp':Nat->Option Obj}{k:Nat}: ∀(z:List (List D)) (vs:List Value),(z.all λr=>r.all D.sc)=true->rdr ok hp k z vs->rdr ok' hp' k z vs
 |[],_,_,_=>trivial
 |r::z,vs,O,G=>by
  simp only[rdr] at G⊢;simp only[ET,AW] at O;exact⟨G.1,KF r _ O.1 G.2.1,M2 z _ O.2 G.2.2⟩
def SR(hh: ∀n,F n->S'.h n=S1.h n)(hr: ∀n,F n->S'.ρ n=S1.ρ n)(hp:S'.hp=S1.hp)(l:Option F2): ∀(e:Ac),HU e=true->(∀m∈e.nms,F m)->An S1 l e->An S' l e
 | .arr T k rows,G,_,z=>by
   cases l with
   |none=>simpa only[An] using z
   |some lc=>
    simp only[An] at z⊢;obtain⟨O,Q,vs,Z,h4,h5⟩:=z;exact⟨O,Q,vs,by rw[hp];exact Z,h4,M2 _ _ G h5⟩
 | .arrA T k rows,G,hm,z=>by
   cases l with
   |none=>simpa only[An] using z
   |some lc=>
    simp only[An] at z⊢;obtain⟨O,Q,vs,Z,h4,h5⟩:=z;refine⟨O,Q,vs,by rw[hp];exact Z,h4,lX hh hr _ _ G (λr ab m aa=>hm m ?_) h5⟩;simp only[Ac.nms];exact EU.2 ⟨r,ab,aa⟩
 | .cells T cs,G,hm,z=>by
   simp only[An] at z⊢;obtain⟨lc,vs,O,Q,Z,h4⟩:=z;exact⟨lc,vs,O,Q,by rw[hp];exact Z,VB hh hr _ _ G (λm h=>hm m (by simpa[Ac.nms] using h)) h4⟩
 | .map _ _,G,_,_| .chan _ _,G,_,_| .iter _ _,G,_,_| .view _,G,_,_=>by simp[HU] at G
end
def JS{A:Type}(ar:List PK->Option A)(pre:A->Prop)(r0:A->AV)(H1:A->Ao)(cnt nx:Nat)(u:List Nat)(K:Ah):Option (List PK)->Prop
 |some z=>DE (λa=>pre a/\K ((r0 a).ren (B0 (λj=>j) 0 nx)) {use:=u,new:=AX (B0 (λj=>j) 0 nx) (H1 a),cnt:=cnt}) (ar z)
 |none=>False
def EV{A:Type}(ar:List PK->Option A)(pre:A->Prop)(r0:A->AV)(H1:A->Ao)(cnt:Nat):AE:=λargs h nx K=>JS ar pre r0 H1 cnt nx (DV h args) K (BR h args)
def Ti(ds:List D):List PK:=ds.map PK.val
def mC{S:Ay}: ∀(ds:List D) (vs:List Value),EA S (Ti ds) vs->AN S (ds.map .im) vs
 |[],vs,h=>by simpa only[Ti,BD,EA,AN] using h
 |d::r,vs,h=>by
  simp only[Ti,Bb,EA,AN] at h⊢;obtain⟨v,q,rfl,z,G⟩:=h;exact⟨v,q,rfl,by simpa only[Aa,Iq] using z,mC r q G⟩
def M5(σ:Nat->Nat): ∀(ds:List D),AH σ (ds.map AV.im)=ds.map AV.im
 |[]=>rfl
 |d::r=>by simp only[Bb,AH,AV.ren,M5 σ r]
mutual
def T1(σ:Nat->Nat): ∀x:AV,Hn x=true->Hn (x.ren σ)=true/\ ∀m∈(x.ren σ).nms,∃j∈x.nms,m=σ j
 | .im d,h=>⟨by simpa only[AV.ren] using h,by simp[AV.ren,AV.nms]⟩
 | .own o,_=>⟨by simp[AV.ren,Hn],by simp[AV.ren,AV.nms]⟩
 | .agg z,h=>by
   obtain⟨G,O⟩:=Nx σ z (by simpa[Hn] using h);exact⟨by simpa[AV.ren,Hn] using G,by simpa[AV.ren,AV.nms] using O⟩
 | .tup z,h=>by
   obtain⟨G,O⟩:=Nx σ z (by simpa[Hn] using h);exact⟨by simpa[AV.ren,Hn] using G,by simpa[AV.ren,AV.nms] using O⟩
 | .any,h| .ptr _ _,h| .eptr _ _ _,h| .mp _,h| .ch _,h| .it _,h| .osl _ _ _,h| .clo _ _ _,h=>by simp[Hn] at h
def Nx(σ:Nat->Nat): ∀xs:List AV,Ej xs=true->Ej (AH σ xs)=true/\ ∀m∈Aw (AH σ xs),∃j∈Aw xs,m=σ j
 |[],_=>⟨rfl,by simp[AH,Aw]⟩
 |x::r,h=>by
  simp only[Ej,AW] at h;obtain⟨O,Q⟩:=T1 σ x h.1;obtain⟨Z,h4⟩:=Nx σ r h.2;refine⟨by simp only[AH,Ej,O,Z,dT],λm z=> ?_⟩;simp only[AH,Aw,Bz] at z⊢;rcases z with z|z
  .obtain⟨j,G,e⟩:=Q m z;exact⟨j,.inl G,e⟩
  .obtain⟨j,G,e⟩:=h4 m z;exact⟨j,.inr G,e⟩
end
def XN(σ:Nat->Nat): ∀e:Ac,HU e=true->HU (e.ren σ)=true/\ ∀m∈(e.ren σ).nms,∃j∈e.nms,m=σ j
 | .arr T k rows,h=>⟨by simpa only[Ac.ren] using h,by simp[Ac.ren,Ac.nms]⟩
 | .arrA T k rows,h=>by
   simp only[HU,CM] at h;refine⟨?_,?_⟩
   .simp only[Ac.ren,HU,List.all_map,CM];exact λr G=>(Nx σ r (h r G)).1
   .intro m z;simp only[Ac.ren,Ac.nms] at z⊢;obtain⟨q,hq,z⟩:=EU.1 z;obtain⟨r,G,rfl⟩:=Bn.1 hq;obtain⟨j,hj,e⟩:=(Nx σ r (h r G)).2 m z;exact⟨j,EU.2 ⟨r,G,hj⟩,e⟩
 | .cells T O,h=>by
   obtain⟨Q,Z⟩:=Nx σ O (by simpa[HU] using h);exact⟨by simpa[Ac.ren,HU] using Q,by simpa[Ac.ren,Ac.nms] using Z⟩
 | .map _ _,h| .chan _ _,h| .iter _ _,h| .view _,h=>by simp[HU] at h
def UF{pk:(Nat->Option Am)->List AV->Option (List PK)}(be: ∀{C:AZ} {S:Ay} {h:Nat->Option Am},Wf C S-> ∀(xs:List AV) (ps:List PK) (vs:List Value),(∀m∈DV h xs,S.h m=h m)->pk h xs=some ps->AN S xs vs->EA S.froz ps vs)
 {P:Program}{g:FuncId}{A:Type}{ag:A->List AV}{ca:A->List D}{pre:A->Prop}{klB:Nat->Bool}{r0:A->AV}{H1:A->Ao}{cnt:Nat}
 (av:Gq P g=true)(bd:Hb P g (AL ag (λ_=>[]) 0 pre klB r0 H1 cnt))(au: ∀a,ag a=(ca a).map AV.im)
 {ar:List PK->Option A}(bc: ∀ps a,ar ps=some a->Cl ps (Ti (ca a)))
 (ay: ∀a,Hn (r0 a)=true/\ ∀m∈(r0 a).nms,m<cnt)
 (hH1: ∀a,∀p∈H1 a,p.1<cnt/\p.2.1=true/\HU p.2.2=true/\ ∀m∈p.2.2.nms,m<cnt):
 Hb P g λargs h nx K=>JS ar pre r0 H1 cnt nx (DV h args) K (pk h args):=by
 intro args h nx K z;cases hp:pk h args with
 |none=>rw[hp] at z;exact z.elim
 |some ps=>
  rw[hp] at z;simp only[JS] at z;cases ha:ar ps with
  |none=>rw[ha] at z;exact z.elim
  |some a=>
   rw[ha] at z;simp only[DE] at z;obtain⟨ax,hK⟩:=z;refine⟨YH av,_,_,?_,hK⟩;intro C S vs RR hW az ab ac am ah;have bf:=be hW args ps vs.toList (λm hm=>az m (Ki _ hm)) hp am;have a9:=iX hW;obtain⟨σ,hσ⟩: ∃σ:Nat->Nat,σ=B0 (λj=>j) 0 nx:=⟨_,rfl⟩;have hσj: ∀j,σ j=nx+j:=λj=>by rw[hσ];simp[B0]
   rw[<-hσ] at ah;obtain⟨_,r,E,hT,rfl,rfl⟩:=bd (ag a) (λ_=>none) nx (λr E=>r=(r0 a).ren σ/\E={use:=[],kill:=[],new:=AX σ (H1 a),cnt:=cnt})
    ⟨a,λj=>j,[],[],ax,by rw[au,M5],trivial,⟨by simp[Aj,hget],by simp[Aj,hget],by simp[Aj,hget],by simp,by simp[Aj,hget]⟩,by rw[hσ],by rw[hσ]⟩
   have ba:AN S.froz (ag a) vs.toList:=by rw[au];exact mC _ _ ((bc ps a ha).c bf)
   refine hT (Zv S) S.froz vs RR a9 (by simp) (λn hn=> ?_) (λn e Z m hm hF=> ?_) ba ?_
   .have:=ab n hn
    show (S.h n).map _=none;rw[this];rfl
   .obtain⟨e0,G,rfl⟩:=iD Z;exact ac n e0 G m hm hF
   intro v S1 Q bb _ aw;have ai: ∀n e,hget (AX σ (H1 a)) n=some e->Fr nx cnt n/\e.1=true/\HU e.2=true/\ ∀m∈e.2.nms,Fr nx cnt m:=by
    intro n e Z;obtain⟨j,e0,G,O,rfl⟩:=qO Z;obtain⟨g1,g2,g3,g4⟩:=hH1 a _ G;obtain⟨q1,q2⟩:=XN σ e0.2 g3;refine⟨by rw[<-O,hσj];exact⟨by omega,by omega⟩,g2,q1,λm hm=> ?_⟩;obtain⟨i,hi,rfl⟩:=q2 m hm
    have:=g4 i hi
    rw[hσj];exact⟨by omega,by omega⟩
   have ao:S.w.heap.size<=S1.w.heap.size:=Q.size;have aa: ∀b,b<S.w.heap.size->S1.w.heap[b]? =S.w.heap[b]? :=λb hb=>Q.keep b hb (λh=>h)
   have aq: ∀n,Fr nx cnt n->S.h n=none:=ab
   let E':Bv:={use:=DV h args,kill:=[],new:=AX σ (H1 a),cnt:=cnt}
   have aj: ∀n,E'.appf S.h n=match hget (AX σ (H1 a)) n with
    |some e=>some e
    |none=>S.h n:=λn=>by simp only[E',Bv.appf];rfl
   have a0: ∀n,S1.h n=match hget (AX σ (H1 a)) n with
    |some e=>some e
    |none=>S.froz.h n:=λn=>by rw[bb];simp only[Bv.appf];rfl
   let S':Ay:=⟨λn=>if nx<=n/\n<nx+cnt then S1.ρ n else S.ρ n,S.ok,E'.appf S.h,S1.w⟩
   have ak: ∀n,S'.h n=E'.appf S.h n:=λ_=>rfl
   have aF: ∀n,Fr nx cnt n->S'.h n=S1.h n:=by
    intro n hn;rw[ak,aj,a0];cases hget (AX σ (H1 a)) n with
    |some e=>rfl
    |none=>
     show S.h n=(S.h n).map _;rw[aq n hn];rfl
   have aR: ∀n,Fr nx cnt n->S'.ρ n=S1.ρ n:=λn hn=>Ai hn
   have oF: ∀n,¬Fr nx cnt n->S'.h n=S.h n:=by
    intro n hn;rw[ak,aj];cases hq:hget (AX σ (H1 a)) n with
    |some e=>exact absurd (ai n e hq).1 hn
    |none=>rfl
   have oR: ∀n,¬Fr nx cnt n->S'.ρ n=S.ρ n:=λn hn=>Af hn
   have hp':BE (λn=> ¬Fr nx cnt n) S S':=⟨λb hb=>⟨hb,aa b (hW.oks b hb)⟩,λo ho e' an=>⟨e',by rw[<-oF o ho];exact an,oR o ho,rfl,rfl⟩⟩;have nF: ∀n e,S.h n=some e-> ¬Fr nx cnt n:=λn e Z hn=>by rw[aq n hn] at Z;cases Z
   have split: ∀o e,S'.h o=some e->(Fr nx cnt o/\S1.h o=some e/\S'.ρ o=S1.ρ o/\e.1=true/\HU e.2=true/\ ∀m∈e.2.nms,Fr nx cnt m)\/(S.h o=some e/\S'.ρ o=S.ρ o):=by
    intro o e Z;by_cases hn:Fr nx cnt o
    .left;have G:S1.h o=some e:=by rw[<-aF o hn];exact Z
     have O:=Z;rw[ak,aj] at O;cases hq:hget (AX σ (H1 a)) o with
     |some e1=>
      rw[hq] at O;obtain rfl:=AB O;exact⟨hn,G,aR o hn,(ai o _ hq).2⟩
     |none=>
      rw[hq] at O;exact absurd hn (nF o e O)
    .right;exact⟨by rw[<-oF o hn];exact Z,oR o hn⟩
   have af: ∀o e l,S1.h o=some e->S1.ρ o=some l->e.1=true->l.b<S1.w.heap.size/\S.w.heap.size<=l.b:=by
    intro o e l Z hl hm;obtain⟨O,h3⟩:=Q.loc o e l Z hl;rw[hm] at h3;simp only[B5] at h3;exact⟨O,h3.2.elim (λh=>h) (λh=>h.elim)⟩
   have a8:Wf C S':=by
    refine⟨Q.os.trans hW.os,Q.tape.trans hW.tape,Q.output.trans hW.output,CD hW.dr Q.dr,CD hW.size ao,?_,hW.ok0,hW.ok1,λb hb=>Fx (hW.oks b hb) ao,?_,?_,?_,hW.gl⟩
    .intro b hb hM;exact (aa b (Fx hb hW.size)).trans (hW.keep b hb hM)
    .intro o e Z;rcases split o e Z with ⟨_,G,O,_,h4,h5⟩|⟨G,O⟩
     .rw[O];exact SR aF aR rfl _ e.2 h4 h5 (Q.obj o e G)
     .rw[O];exact Hd hp' (λlc hl=>aa lc.b (hW.loc o e lc G hl).1) _ (λm hm hF=>ac o e G m hm hF) (hW.obj o e G)
    .intro o e l Z hl;rcases split o e Z with ⟨_,G,O,h3,_⟩|⟨G,O⟩
     .rw[O] at hl;obtain⟨b1,b2⟩:=af o e l G hl h3;refine⟨b1,?_⟩;rw[h3];simp only[B5];exact⟨λhk=>by have:=hW.oks _ hk;omega,.inl (CD hW.size b2)⟩
     .rw[O] at hl;obtain⟨b1,b2⟩:=hW.loc o e l G hl;exact⟨Fx b1 ao,b2⟩
    .intro o o' e e' l l' Z an hl ad hb hm;rcases split o e Z with ⟨_,G,O,h3,_⟩|⟨G,O⟩<;>rcases split o' e' an with ⟨_,k1,k2,k3,_⟩|⟨k1,k2⟩<;>rw[O] at hl<;>rw[k2] at ad
     .exact Q.inj o o' e e' l l' G k1 hl ad hb hm
     .have:=(af o e l G hl h3).2
      have:=(hW.loc o' e' l' k1 ad).1
      omega
     .have:=(af o' e' l' k1 ad k3).2
      have:=(hW.loc o e l G hl).1
      omega
     .exact hW.inj o o' e e' l l' G k1 hl ad hb hm
   obtain⟨q1,q2⟩:=T1 σ (r0 a) (ay a).1;refine ah v S' a8 rfl hp' (aE aF aR _ v q1 (λm hm=> ?_) aw);obtain⟨j,hj,rfl⟩:=q2 m hm
   have:=(ay a).2 j hj
   rw[hσj];exact⟨by omega,by omega⟩
def mK{P:Program}{g:FuncId}{A:Type}{z:A->List AV}{ca:A->List D}{pre:A->Prop}{klB:Nat->Bool}{r0:A->AV}{H1:A->Ao}{cnt:Nat}
 (G:Gq P g=true)(Z:Hb P g (AL z (λ_=>[]) 0 pre klB r0 H1 cnt))(O: ∀a,z a=(ca a).map AV.im)
 {ar:List PK->Option A}(Q: ∀ps a,ar ps=some a->Cl ps (Ti (ca a)))
 (aa: ∀a,Hn (r0 a)=true/\ ∀m∈(r0 a).nms,m<cnt)
 (hH1: ∀a,∀p∈H1 a,p.1<cnt/\p.2.1=true/\HU p.2.2=true/\ ∀m∈p.2.2.nms,m<cnt):
 Hb P g (EV ar pre r0 H1 cnt):=UF (pk:=BR) (λhW=>xU hW) G Z O Q aa hH1
def fI(h:Nat->Option Am):List AV->Option (List PK)
 |[]=>some []
 |x::r=>FT (DU (bk h 9 x)) (fI h r)
def UG{A:Type}(ar:List PK->Option A)(pre:A->Prop)(r0:A->AV)(H1:A->Ao)(cnt:Nat):AE:=λargs h nx K=>JS ar pre r0 H1 cnt nx (DV h args) K (fI h args)
def UG.os{A:Type}{ar:List PK->Option A}{pre:A->Prop}{r0:A->AV}{H1:A->Ao}{cnt:Nat}{args:List AV}{h:Nat->Option Am}{nx:Nat}{K:Ah}(ps:List PK)(G:fI h args=some ps)(a:A)(Q:ar ps=some a)(z:pre a)
 (O:K ((r0 a).ren (B0 (λj=>j) 0 nx)) {use:=DV h args,new:=AX (B0 (λj=>j) 0 nx) (H1 a),cnt:=cnt}):UG ar pre r0 H1 cnt args h nx K:=by
 unfold UG;rw[G];simp only[JS,Q,DE];exact⟨z,O⟩
end Go.Ae
namespace Go.Ae
open Go.Proofs Go.Lib
def numd_.fv(a:ByteArray×Int):ByteArray:=(KB) (a.1) (a.2)
def numd_.row:AE:=CG (b2 qT qI) rT (λa=>a.1.size<=1000/\ -9223372036854775808<=a.2/\a.2<=9223372036854775807) numd_.fv
def numd_.q:=CH (R:=numd_.row) rfl
def numd_.ok:AI 95 numd_.row:=by
 refine Gy (tC dcm_.ok tN) Tryz.func95 ?_;intro a z;simp only[Tryz.f95,Option.getD];simp(maxSteps:=9^9)(disch:=omega)only[ZZ,simprocAttr,Ab,numd_.fv,dcm_.q,dcm_.fv,BS,D.sc,D.scs,BJ,AQ];obtain⟨Q,G,O⟩:=z
 have:=EY G O
 exact⟨⟨G,O⟩,by omega,rfl⟩
def prd_.fv(a:ByteArray×Int×Int):ByteArray:=(Ec) (a.1) (a.2.1) (a.2.2)
def prd_.row:AE:=CG (b3 qT qI qI) rT (λa=>a.1.size<=1000/\(-9223372036854775808<=a.2.1/\a.2.1<=9223372036854775807)/\ -9223372036854775808<=a.2.2/\a.2.2<=9223372036854775807) prd_.fv
def prd_.q:=CH (R:=prd_.row) rfl
def prd_.ok:AI 56 prd_.row:=by
 refine Gy (tC numd_.ok (tC dcm_.ok tN)) Tryz.func56 ?_;intro a z;simp only[Tryz.f56,Option.getD];simp(maxSteps:=9^9)(disch:=omega)only[ZZ,simprocAttr,Ab,prd_.fv,numd_.q,numd_.fv,dcm_.q,dcm_.fv,BS,D.sc,D.scs,BJ,AQ];obtain⟨Z,G,O,Q⟩:=z;have e1:=EY O Q;have e2:=Mm (w:=a.1) G.1 G.2;have e3:(⟨#[95]⟩:ByteArray).size=1:=rfl;exact⟨⟨Z,G.1,G.2⟩,by omega,⟨O,Q⟩,by rw[Vn];omega,rfl⟩
def U9(b:Bool)(s:ByteArray):ByteArray:=if b=true then ⟨#[45]⟩ else s
def unl_.fv(a:Bool×ByteArray):ByteArray:=(U9) (a.1) (a.2)
def unl_.row:AE:=CG (b2 qB qT) rT (λa=>True) unl_.fv
def unl_.q:=CH (R:=unl_.row) rfl
def unl_.ok:AI 97 unl_.row:=by
 refine Gy tN Tryz.func97 ?_;intro a z;simp only[Tryz.f97,Option.getD];simp(maxSteps:=9^9)(disch:=omega)only[ZZ,simprocAttr,Ab,unl_.fv,BS,D.sc,D.scs,BJ,AQ];by_cases c:a.1=true
 .rw[Ai c];simp only[U9];rw[Ai c]
 .rw[Af c];simp only[U9];rw[Af c]
def Cq(g:List Ad)(t:List Tile):Ao:=[(0,(true,.cells 76 [.own 1,.own 2,.mp 3])),(1,(true,.arr 108 2 (g.map Ad.c))),(2,(true,.arr 98 2 (t.map Tile.c))),(3,(true,.map ⟨false,[.str]⟩ (BX g)))]
def VJ(g:List Ad)(t:List Tile)(j:Nat):Aj (Cq g t) j=true↔j<4:=by
 simp only[Aj,Cq,hget];by_cases h0:j=0
 .subst h0;simp
 by_cases z:j=1
 .subst z;simp
 by_cases G:j=2
 .subst G;simp
 by_cases O:j=3
 .subst O;simp
 have Q:(0==j)=false:=by simpa using λh=>h0 h.symm
 have Z:(1==j)=false:=by simpa using λh=>z h.symm
 have e2:(2==j)=false:=by simpa using λh=>G h.symm
 have e3:(3==j)=false:=by simpa using λh=>O h.symm
 simp[Q,Z,e2,e3];omega
def Yz(m:List (D×D))(a:D)(n:Int)(G: ∀e∈m,∃n,e.2= .int .i64 n): ∀e∈Ek m a (.int .i64 n),∃n,e.2= .int .i64 n:=by
 induction m with
 |nil=>intro e z;simp only[Ek,BL] at z;subst z;exact⟨n,rfl⟩
 |cons x m ih=>
  intro e z;obtain⟨k,w⟩:=x;simp only[Ek] at z;cases h:D.beq a k with
  |true=>
   rw[h] at z;rcases Bt.1 z with rfl|z
   .exact⟨n,rfl⟩
   .exact G e (BK _ z)
  |false=>
   rw[h] at z;rcases Bt.1 z with rfl|z
   .exact G (k,w) (BQ ..)
   .exact ih (λe z=>G e (BK _ z)) e z
def SL(g:List Ad): ∀e∈BX g,∃n,e.2=D.int .i64 n:=by
 have z: ∀(g:List Ad) (m:List (D×D)) (k:Int),(∀e∈m,∃n,e.2=D.int .i64 n)-> ∀e∈(g.foldl (λ(s:List (D×D)×Int) x=>(Ek s.1 (.str x.Name) (.int .i64 (s.2+1)),s.2+1)) (m,k)).1,∃n,e.2=D.int .i64 n:=by
  intro g;induction g with
  |nil=>intro m k h;exact h
  |cons x g ih=>intro m k h;exact ih _ _ (Yz m _ _ h)
 refine z g _ 0 λe G=> ?_
 simp only[BL] at G;subst G;exact⟨_,rfl⟩
def Sv{x d:D}: ∀(m:List (D×D)),(∀e∈m,∃n,e.2=D.int .i64 n)->lk m x=some d-> ∃n,d= .int .i64 n
 |[],_,h=>by simp[lk] at h
 |(k,w)::m,z,h=>by
  simp only[lk] at h;cases hb:D.beq x k with
  |true=>rw[hb] at h;obtain rfl:=AB h;exact z (k,w) (BQ ..)
  |false=>rw[hb] at h;exact Sv m (λe G=>z e (BK _ G)) h
def Ss(g:List Ad)(nm:ByteArray)(Ks:D->Prop)(Kn:Prop)(z:Ks (.int .i64 (E3 g nm)))(G:E3 g nm=0->Kn):Ip (BX g) (.str nm) Ks Kn:=by
 refine⟨λd hd=> ?_,λhn=>G ?_⟩
 .obtain⟨n,rfl⟩:=Sv _ (SL g) hd
  have:E3 g nm=n:=by simp only[E3,N0,hd]
  rw[<-this];exact z
 .simp only[E3,N0,hn]
def nmC.row:AE:=AL (λ_:Unit=>[]) (λ_=>[]) 0 (λ_=>True) (λ_=>false) (λ_=> .ptr 0 0) (λ_=>Cq [] []) 20
def JT(j:Nat):Bool:=Nat.ble j 3
def nmC.ca(_:Unit):List AV:=[]
def nmC.ok:AI 21 nmC.row:=by
 refine Td tN Tryz.func21 (exB:=JT) (R:=λ_ r=>r= .ptr 0 0) (λ_=>rfl)
  (λa=>by simp[nmC.ca,Cq,JT,AD,AV.bel,Av,BB,BU,Ac.nms,Aw,AV.nms,Aj,hget]) (λa p hp=> ?_) (λa r h=>by subst h;exact Dh.refl _) ?_
 rotate_left
 intro a z;simp only[Tryz.f21,Option.getD,nmC.ca,Cq,JT];simp(maxSteps:=9^9)(disch:=omega)only[ZZ,simprocAttr,Ab,Br,Ax,nmC.ca,Cq,JT];rotate_left
 .simp only[Cq,Bt,PM,Lk] at hp;rcases hp with rfl|rfl|rfl|rfl
  .exact .inr ⟨by omega,by omega,rfl,rfl⟩
  .exact .inr ⟨by omega,by omega,rfl,rfl⟩
  .exact .inr ⟨by omega,by omega,rfl,rfl⟩
  .exact .inr ⟨by omega,by omega,rfl,rfl⟩
 have e:BX []=[(.str ⟨#[45]⟩,.int .i64 0)]:=rfl;refine⟨[],[(0,some 1),(1,none),(2,none),(3,some 0)],⟨[(0,.ptr 0 0)],Cq [] [],4⟩,?_,by simp[Cq,ZG,BX,KT.fit,KK.fit,B3],by simp,?_⟩
 .simp only[Ar,Cq,e,BD];simp(maxSteps:=9^9)(disch:=omega)only[ZZ,simprocAttr,Ab,Br,Ax,nmC.ca,Cq,JT,AS,AR]
 .simp(maxSteps:=9^9)(disch:=omega)only[ZZ,simprocAttr,Ab,Br,Ax,nmC.ca,Cq,JT,Cq,e,JT]
def mgC.ca(a:Mk×Ad):List AV:=[.ptr 0 0,.im (.str a.2.Name),.im (.int .i64 a.2.Strength)]
def mgC.H0(a:Mk×Ad):Ao:=Cq a.1.1 a.1.2
def mgC.H1(a:Mk×Ad):Ao:=[(0,(true,.cells 76 [.own 4,.own 2,.mp 3])),(4,(true,.arr 108 2 ((a.1.1++[a.2]).map Ad.c))),(3,(true,.map ⟨false,[.str]⟩ (BX (a.1.1++[a.2]))))]
def B1(j:Nat):Bool:=j==0||(j==1||j==3)
def mgC.row:AE:=AL mgC.ca mgC.H0 4 (λa=>a.1.1.length<=1000000) B1 (λ_=> .im (.tup [])) mgC.H1 20
def mgC.ok:AI 55 mgC.row:=by
 refine Td tN Tryz.func55 (exB:=λj=>j==4) (R:=λa r=>r= .im (.tup [])) (λ_=>rfl)
  (λa=>by simp[mgC.ca,mgC.H0,mgC.H1,Cq,B1,AD,AV.bel,Av,BB,BU,Ac.nms,Aw,AV.nms,Aj,hget]) (λa p hp=> ?_) (λa r h=>by subst h;exact Dh.refl _) ?_
 rotate_left
 intro a z;simp only[Tryz.f55,Option.getD,mgC.ca,mgC.H0,mgC.H1,Cq,B1];simp(maxSteps:=9^9)(disch:=omega)only[ZZ,simprocAttr,Ab,Br,Ax,mgC.ca,mgC.H0,mgC.H1,Cq,B1];rotate_left
 .simp only[mgC.H1,Bt,PM,Lk] at hp;rcases hp with rfl|rfl|rfl
  .exact .inl ⟨by omega,rfl,rfl⟩
  .exact .inr ⟨by omega,by omega,rfl,rfl⟩
  .exact .inl ⟨by omega,rfl,rfl⟩
 obtain⟨⟨g,t⟩,x⟩:=a;simp only at z⊢;have G:List.map Ad.c g++[[D.str x.Name,D.int .i64 x.Strength]]=(g++[x]).map Ad.c:=by rw[En];rfl
 have O:Ek (BX g) (.str x.Name) (.int .i64 (((g++[x]).map Ad.c).length:Nat))=BX (g++[x]):=by rw[mS];simp
 rw[G,O];refine⟨by omega,?_⟩;refine⟨[],[(4,some 5)],⟨[],[(0,(true,.cells 76 [.own 4,.own 2,.mp 3])),(4,(true,.arr 108 2 ((g++[x]).map Ad.c))),(2,(true,.arr 98 2 (t.map Tile.c))),(3,(true,.map ⟨false,[.str]⟩ (BX (g++[x]))))],5⟩,?_,?_,by simp,?_⟩
 .simp only[Ar];simp(maxSteps:=9^9)(disch:=omega)only[ZZ,simprocAttr,Ab,Br,Ax,mgC.ca,mgC.H0,mgC.H1,Cq,B1,AS,AR]
 .simp[ZG]
 .simp(maxSteps:=9^9)(disch:=omega)only[ZZ,simprocAttr,Ab,Br,Ax,mgC.ca,mgC.H0,mgC.H1,Cq,B1,mgC.H1,B1]
end Go.Ae
namespace Go.Ae
open Go.Proofs
def HQ(q:A7×Int):Al:=⟨q.1,q.2⟩
def T3(m:I7)(t:List (A7×Int))(x:Al):Option (List (A7×Int)):=
 if (m.Labels[x.Tile.toNat]?.getD 0)<0 then some t
 else if (JC t (cC x.At m.Scale).1).getD (m.Labels[x.Tile.toNat]?.getD 0)≠(m.Labels[x.Tile.toNat]?.getD 0) then none
 else some (KO t (cC x.At m.Scale).1 (m.Labels[x.Tile.toNat]?.getD 0))
def Ol{l l':List Al}(hp:l.Perm l')(hd:(l'.map Al.At).Nodup)(p:A7):l.find? (λx=>decide (x.At=p))=l'.find? (λx=>decide (x.At=p)):=by
 cases h1:l.find? (λx=>decide (x.At=p)) with
 |none=>
  symm;rw[yU] at h1⊢;exact λx O=>h1 x (hp.mem_iff.2 O)
 |some x=>
  have O:=hp.mem_iff.1 (ZeE h1);have z:=rG h1;cases h2:l'.find? (λx=>decide (x.At=p)) with
  |none=>
   rw[yU] at h2;exact absurd z (h2 x O)
  |some y=>
   have Q:=ZeE h2;have G:=rG h2;rw[QU hd O Q];rw[Cy] at z G;rw[z,G]
def LY(p:A7): ∀(t:List (A7×Int)),(((t.map HQ).find? (λx=>decide (x.At=p))).map Al.Tile)=JC t p
 |[]=>rfl
 |(k,w)::r=>by
  simp only[Bb,zM,HQ,JC];by_cases h:k=p
  .subst h;simp
  .have z:decide (k=p)=false:=by simpa using h
   have G: ¬p=k:=λO=>h O.symm
   rw[z,Af G];exact LY p r
def K5(t:List (A7×Int)):(t.map HQ).map Al.At=t.map Prod.fst:=by simp[HQ]
def Z1{t:List (A7×Int)}(hd:(t.map Prod.fst).Nodup)(p:A7):jT ⟨Dw (t.map HQ)⟩ p=(JC t p).getD (-1):=by
 have z:((t.map HQ).map Al.At).Nodup:=by rw[K5];exact hd
 simp only[jT];rw[Ol (Y8 _) z,LY]
def oY{t:List (A7×Int)}{p:A7}(v:Int)(h:JC t p=none):KO t p v=t++[(p,v)]:=by
 induction t with
 |nil=>rfl
 |cons q r ih=>
  obtain⟨k,w⟩:=q;simp only[JC] at h;split at h
  .cases h
  .rename_i hn;simp only[KO,Af hn,BG];rw[ih h]
def Pv{t:List (A7×Int)}{p:A7}{v:Int}(h:JC t p=some v):KO t p v=t:=by
 induction t with
 |nil=>cases h
 |cons q r ih=>
  obtain⟨k,w⟩:=q;simp only[JC] at h;simp only[KO];split at h
  .rename_i z;obtain rfl:=AB h;rw[Ai z,z]
  .rename_i hn;rw[Af hn,ih h]
def Qyz{t:List (A7×Int)}{p:A7}(h:JC t p=none):p∉t.map Prod.fst:=by
 induction t with
 |nil=>simp
 |cons q r ih=>
  obtain⟨k,w⟩:=q;simp only[JC] at h;split at h
  .cases h
  .rename_i hn;simp only[Bb,Bt,not_or];exact⟨hn,ih h⟩
def Xw{t:List (A7×Int)}{p:A7}{v:Int}(h:JC t p=some v):(p,v)∈t:=by
 induction t with
 |nil=>cases h
 |cons q r ih=>
  obtain⟨k,w⟩:=q;simp only[JC] at h;split at h
  .rename_i z;obtain rfl:=AB h;rw[z];exact BQ ..
  .exact BK _ (ih h)
structure RM(t:List (A7×Int))(o:A9)(k:Nat):Prop where
 nd:(t.map Prod.fst).Nodup
 pos: ∀q∈t,0<=q.2
 eq:o=⟨Dw (t.map HQ)⟩
 len:t.length<=k
def RM.step{m:I7}{t:List (A7×Int)}{o:A9}{k:Nat}(h:RM t o k)(x:Al):(∃t' o',T3 m t x=some t'/\T6 m o x=some o'/\RM t' o' (k+1))\/(T3 m t x=none/\T6 m o x=none):=by
 obtain⟨nd,pos,rfl,len⟩:=h;simp only[T3,T6];generalize m.Labels[x.Tile.toNat]?.getD 0=n;generalize (cC x.At m.Scale).1=p;by_cases c1:n<0
 .rw[Ai c1,Ai c1];exact .inl ⟨_,_,rfl,rfl,nd,pos,rfl,by omega⟩
 rw[Af c1,Af c1,Z1 nd];cases hq:JC t p with
 |none=>
  simp only[Option.getD_none];rw[Af (by simp),Af (by omega),Ai (by omega)];refine .inl ⟨_,_,rfl,rfl,?_,?_,?_,?_⟩
  .rw[oY n hq,En,Vp];refine⟨nd,by simp,?_⟩;intro a Z b O z;simp only[Bb,BD,BL] at O;exact Qyz hq (by rw[<-O,<-z];exact Z)
  .intro q G;rw[oY n hq] at G;rcases Bz.1 G with G|G
   .exact pos q G
   .simp only[BL] at G;subst G;simp only;omega
  .rw[uS,oY n hq];congr 1;have aa:(((t++[(p,n)]).map HQ).map Al.At).Nodup:=by
    rw[K5,En,Vp];refine⟨nd,by simp,?_⟩;intro a Z b O z;simp only[Bb,BD,BL] at O;exact Qyz hq (by rw[<-O,<-z];exact Z)
   refine vQ aa ?_ (qM ⟨p,n⟩ _ (pB _));refine (oZ ⟨p,n⟩ _).trans ?_;rw[En];refine ((Y8 _).cons _).trans ?_;exact (Zeu _ _).symm
  .rw[oY n hq];simp;omega
 |some v=>
  simp only[AT];have hv:=pos _ (Xw hq);simp only at hv;by_cases Q:v=n
  .subst Q;rw[Af (by simp),Af (by simp),Af (by omega),Pv hq];exact .inl ⟨_,_,rfl,rfl,nd,pos,rfl,by omega⟩
  .rw[Ai Q,Ai ⟨hv,Q⟩];exact .inr ⟨rfl,rfl⟩
def RM.put{t:List (A7×Int)}{o:A9}{k:Nat}(h:RM t o k){p:A7}{v:Int}(hv:0<=v)(hn:JC t p=none):RM (KO t p v) (Gu o p v) (k+1):=by
 obtain⟨nd,pos,rfl,len⟩:=h;have G:((t++[(p,v)]).map Prod.fst).Nodup:=by
  rw[En,Vp];refine⟨nd,by simp,?_⟩;intro a ha b Z O;simp only[Bb,BD,BL] at Z;exact Qyz hn (by rw[<-Z,<-O];exact ha)
 rw[oY v hn];refine⟨G,?_,?_,by simp;omega⟩
 .intro q z;rcases Bz.1 z with z|z
  .exact pos q z
  .simp only[BL] at z;subst z;exact hv
 .rw[uS];congr 1;have Q:(((t++[(p,v)]).map HQ).map Al.At).Nodup:=by rw[K5];exact G
  refine vQ Q ?_ (qM ⟨p,v⟩ _ (pB _));refine (oZ ⟨p,v⟩ _).trans ?_;rw[En];refine ((Y8 _).cons _).trans ?_;exact (Zeu _ _).symm
def RM.at{t:List (A7×Int)}{o:A9}{k:Nat}(h:RM t o k):gH t=jT o:=by
 funext p;rw[h.eq,Z1 h.nd];rfl
def RM.size{t:List (A7×Int)}{o:A9}{k:Nat}(h:RM t o k):o.Tiles.length=t.length:=by
 rw[h.eq];simp only[ZS,Gh]
end Go.Ae
namespace Go.Ae
end Go.Ae
namespace Go.Ae
open Go.Proofs
def Qado(l:List Int)(i:Nat)(x:Int):(l.map Ak).set i [.int .i64 x]=(l.set i x).map Ak:=by rw[Vm];rfl
def Hm(k:Int)(n:Nat):List Int:=(List.range n).map λ(i:Nat)=>k+(i:Int)
def Qg(k:Int)(n:Nat):(Hm k n).length=n:=by simp[Hm]
def lZ(k:Int)(n:Nat):Hm k (n+1)=Hm k n++[k+(n:Int)]:=by simp[Hm,dS]
def X0{k:Int}{n i:Nat}(h:i<n):(Hm k n)[i]? =some (k+(i:Int)):=by simp only[Hm,Dt];rw[FN h];rfl
def GV(k:Int)(l:List Int)(i:Nat):List Int:=Hm k i++l.drop i
def S7{k:Int}{l:List Int}{i:Nat}(h:i<=l.length):(GV k l i).length=l.length:=by simp[GV,Qg];omega
def S8{k:Int}{l:List Int}{i:Nat}(h:i<l.length):(GV k l i).set i (k+(i:Int))=GV k l (i+1):=by
 have hd:l.drop i=l[i]::l.drop (i+1):=by rw[Vh h]
 rw[GV,rK _ _ (by rw[Qg];omega),Qg,hd,J4,dL,GV,lZ];simp
def S6{k:Int}{l:List Int}{i:Nat}(h:i=l.length):GV k l i=Hm k l.length:=by
 subst h;simp[GV]
def mkIC.ca(a:List Int×Int):List AV:=[.own 0,.im (.int .i64 a.2)]
def mkIC.H0(a:List Int×Int):Ao:=[(0,(true,.arr 2 1 (a.1.map Ak)))]
def mkIC.H1(a:List Int×Int):Ao:=[(0,(true,.arr 2 1 ((Hm a.2 a.1.length).map Ak)))]
def mkIC.row:AE:=AL mkIC.ca mkIC.H0 1 (λa=>0<=a.2/\a.2+a.1.length<=1099511627776) (λj=>j==0) (λa=> .im (.int .i64 (a.2+a.1.length))) mkIC.H1 0
def mkIC.ok:AI 102 mkIC.row:=by
 refine ow tN Tryz.func102 (exB:=λ_=>false) (R:=λa r=>r= .im (.int .i64 (a.2+a.1.length))) (λ_=>rfl)
  (λa=>by simp[mkIC.ca,mkIC.H0,mkIC.H1,AD,AV.bel,Av,BB,BU,Ac.nms,Aw,AV.nms,Aj,hget]) (λa p hp=> ?_) (λa r h=>by subst h;exact Dh.refl _) ?_
 rotate_left
 intro a z;simp only[Tryz.f102,Option.getD,mkIC.ca,mkIC.H0,mkIC.H1];simp only[ZZ,simprocAttr,Ab,Ax,mkIC.ca,mkIC.H0,mkIC.H1];obtain⟨l,k⟩:=a;simp only at z⊢;obtain⟨Z,h2⟩:=z;refine AY.old ⟨{i:Nat//i<=l.length},λi=>⟨[(5,.im (.int .i64 i.1)),(4,.im (.int .i64 0)),(1,.im (.int .i64 (k+i.1))),(0,.own 0)],[(0,(true,.arr 2 1 ((GV k l i.1).map Ak)))],1⟩,λi=>l.length - i.1,λi=>⟨by simp[ZG],by simp⟩,⟨⟨0,by simp⟩,by simp only[ZZ,simprocAttr,Ab,Ax,mkIC.ca,mkIC.H0,mkIC.H1,sub];simp[GV,Hm]⟩,λi=> ?_⟩;obtain⟨i,O⟩:=i;have Q:=S7 (k:=k) O;simp only[ZZ,simprocAttr,Ab,Ax,mkIC.ca,mkIC.H0,mkIC.H1,sub,AO,Q];intro _;refine⟨λG=>⟨G,G,λx _=>⟨⟨i+1,by omega⟩,by simp only;omega,⟨?_,?_⟩,?_⟩⟩,λG=>⟨by omega,by rw[S6 (by omega)]⟩⟩
 .rw[AA (by omega) (by omega)];simp only;omega
 .rw[AA (by omega) (by omega)];simp only;omega
 .rw[Qado,S8 G]
 simp[mkIC.H1] at hp;subst hp;exact .inl ⟨by omega,rfl,rfl⟩
def EW(l:List Int)(k:Int):Int:=if l=Hm k l.length then k+l.length else -1
def heldIS.fv(a:(List Int)×Int):Int:=(EW) (a.1) (a.2)
def heldIS.row:AE:=CG (b2 (qS GH EX) qI) rI (λa=>0<=a.2/\a.2+a.1.length<=1099511627776) heldIS.fv
def heldIS.q:=CH (R:=heldIS.row) rfl
def heldIS.ok:AI 103 heldIS.row:=by
 refine Gy tN Tryz.func103 ?_;intro a z;simp only[Tryz.f103,Option.getD];simp only[ZZ,simprocAttr,Ab,heldIS.fv,BS,D.sc,D.scs,BJ,AQ];obtain⟨l,k⟩:=a;simp only at z⊢;obtain⟨h1,h2⟩:=z;refine AY.old ⟨{i:Nat//i<=l.length/\l.take i=Hm k i},λi=>⟨[(5,.im (.int .i64 i.1)),(4,.im (.int .i64 0)),(1,.im (.int .i64 (k+i.1))),(0,.im (.sl false 1 (l.map Ak)))],[],0⟩,λi=>l.length - i.1,λi=>⟨by simp[ZG],by simp⟩,⟨⟨0,by simp[Hm]⟩,by simp only[ZZ,simprocAttr,Ab,heldIS.fv,BS,D.sc,D.scs,BJ,AQ,sub];simp⟩,λi=> ?_⟩;obtain⟨i,aa,G⟩:=i;simp only[ZZ,simprocAttr,Ab,heldIS.fv,BS,D.sc,D.scs,BJ,AQ,sub,AO];intro hn;refine⟨λO=>⟨O,λx Z=>⟨λc=> ?_,λc=>⟨⟨i+1,by omega,?_⟩,by simp only;omega,?_,?_⟩⟩⟩,λO=> ?_⟩
 .have: ¬l=Hm k l.length:=by
   intro h;rw[h,X0 O] at Z;exact c (AB Z).symm
  simp only[EW];rw[Af this]
 .rw[qH Z,G,lZ,Gg.1 c]
 .rw[AA (by omega) (by omega)];simp only;omega
 .rw[AA (by omega) (by omega)];simp only;omega
 .have Q:i=l.length:=by omega
  subst Q;rw[IB] at G;simp only[EW];rw[Ai G]
def Ku(n:Nat):ByteArray:=if h:n=0 then ByteArray.empty else Ku (n/10)++GZ [IntKind.u8.wrap (48+((n % 10:Nat):Int))] termination_by n
def FG(k:Int):ByteArray:=if k<=0 then "m0".toUTF8 else "m".toUTF8++Ku k.toNat
def mkText.fv(a:Int):ByteArray:=(FG) a
def mkText.row:AE:=vK (b1 qI) rT (λa=>a<=1099511627776) mkText.fv
def mkText.q:=Bg (R:=mkText.row) rfl
def mkText.ok:AI 101 mkText.row:=by
 refine vw tN Tryz.func101 ?_;intro a Q;simp only[Tryz.f101,Option.getD];simp only[ZZ,simprocAttr,Ab,mkText.fv];by_cases c0:a<=0
 .rw[Ai c0];simp only[FG];rw[Ai c0];rfl
 rw[Af c0];have eR:FG a= "m".toUTF8++Ku a.toNat:=by simp only[FG];rw[Af c0]
 refine AY.old ⟨{q:Nat×ByteArray//(q.1:Int)<=a/\Ku a.toNat=Ku q.1++q.2/\q.2.size+q.1<=a.toNat},λq=>⟨[(3,.im (.str q.1.2)),(0,.im (.int .i64 q.1.1))],[],0⟩,λq=>q.1.1,λq=>⟨by simp[ZG],by simp⟩,⟨⟨(a.toNat,ByteArray.empty),by simp only;exact⟨by omega,by simp,by simp⟩⟩,by simp only[ZZ,simprocAttr,Ab,mkText.fv,sub];exact⟨rfl,by omega⟩⟩,λq=> ?_⟩;obtain⟨⟨q,out⟩,G,z,O⟩:=q;simp only at G z O;simp only[ZZ,simprocAttr,Ab,mkText.fv,sub,AO];refine⟨λc1=> ?_,λc1=> ?_⟩
 .have hq:q≠0:=by omega
  have Z:(q:Int).tmod 10=((q % 10:Nat):Int):=by rw[yP (by omega)];omega
  have e2:(q:Int).tdiv 10=((q/10:Nat):Int):=by rw[Zdw (by omega)];omega
  have e3:IntKind.i64.wrap (48+(q:Int).tmod 10)=48+((q % 10:Nat):Int):=by rw[Z];exact AA (by omega) (by omega)
  rw[e3,e2];have hs:({data:= #[UInt8.ofNat (IntKind.u8.wrap (48+((q % 10:Nat):Int))).toNat]}:ByteArray)=GZ [IntKind.u8.wrap (48+((q % 10:Nat):Int))]:=rfl;have hz:(GZ [IntKind.u8.wrap (48+((q % 10:Nat):Int))]).size=1:=rfl;rw[hs];refine⟨by omega,⟨(q/10,GZ [IntKind.u8.wrap (48+((q % 10:Nat):Int))]++out),by simp only;omega,?_,?_⟩,by simp only;omega,rfl,by exact AA (by omega) (by omega)⟩
  .simp only;rw[z,Ku,dif_neg hq,ZeN]
  .simp only[Vn,hz];omega
 .have hq:q=0:=by omega
  subst hq;refine⟨by show 1+out.size<=_;omega,?_⟩;rw[eR,z,Ku,dif_pos rfl,ByteArray.empty_append];rfl
def Nb{A:Type}(f:Nat->A)(l:List A)(i:Nat):List A:=(List.range i).map f++l.drop i
def Nd{A:Type}{f:Nat->A}{l:List A}{i:Nat}(h:i<=l.length):(Nb f l i).length=l.length:=by simp[Nb];omega
def lU{A:Type}(f:Nat->A)(l:List A):Nb f l 0=l:=by simp[Nb]
def Nf{A:Type}{f:Nat->A}{l:List A}{i:Nat}(h:i<l.length):(Nb f l i).set i (f i)=Nb f l (i+1):=by
 have hd:l.drop i=l[i]::l.drop (i+1):=by rw[Vh h]
 have z:((List.range i).map f).length=i:=by simp
 rw[Nb,rK _ _ (by rw[z];omega),z,hd,J4,dL,Nb,dS];simp
def Ft{A:Type}(f:Nat->A)(n:Nat):List A:=(List.range n).map f
def Nc{A:Type}{f:Nat->A}{l:List A}{i:Nat}(h:i=l.length):Nb f l i=Ft f l.length:=by
 subst h;simp[Nb,Ft]
def gF(k:Int)(i:Nat):Ad:=⟨FG (k+2*i),k+2*i+1⟩
def mkGC.ca(a:List Ad×Int):List AV:=[.own 0,.im (.int .i64 a.2)]
def mkGC.H0(a:List Ad×Int):Ao:=[(0,(true,.arr 108 2 (a.1.map Ad.c)))]
def mkGC.H1(a:List Ad×Int):Ao:=[(0,(true,.arr 108 2 ((Ft (gF a.2) a.1.length).map Ad.c)))]
def mkGC.row:AE:=AL mkGC.ca mkGC.H0 1 (λa=>0<=a.2/\a.2+2*a.1.length<=1099511627776) (λj=>j==0) (λa=> .im (.int .i64 (a.2+2*a.1.length))) mkGC.H1 0
def yJ:=J @mkText.q @mkText.fv.eq_1
def mkGC.ok:AI 64 mkGC.row:=by
 refine ow (tC mkText.ok tN) Tryz.func64 (exB:=λ_=>false) (R:=λa r=>r= .im (.int .i64 (a.2+2*a.1.length))) (λ_=>rfl)
  (λa=>by simp[mkGC.ca,mkGC.H0,mkGC.H1,AD,AV.bel,Av,BB,BU,Ac.nms,Aw,AV.nms,Aj,hget]) (λa p hp=> ?_) (λa r h=>by subst h;exact Dh.refl _) ?_
 rotate_left
 intro a z;simp only[Tryz.f64,Option.getD,mkGC.ca,mkGC.H0,mkGC.H1];simp only[ZZ,simprocAttr,Ab,yJ,Ax,mkGC.ca,mkGC.H0,mkGC.H1];obtain⟨l,k⟩:=a;simp only at z⊢;obtain⟨h1,h2⟩:=z;refine AY.old ⟨{i:Nat//i<=l.length},λi=>⟨[(5,.im (.int .i64 i.1)),(4,.im (.int .i64 0)),(1,.im (.int .i64 (k+2*i.1))),(0,.own 0)],[(0,(true,.arr 108 2 ((Nb (gF k) l i.1).map Ad.c)))],1⟩,λi=>l.length - i.1,λi=>⟨by simp[ZG],by simp⟩,⟨⟨0,by simp⟩,by simp only[ZZ,simprocAttr,Ab,yJ,Ax,mkGC.ca,mkGC.H0,mkGC.H1,sub,lU];simp⟩,λi=> ?_⟩;obtain⟨i,Z⟩:=i;have Q:=Nd (f:=gF k) Z;simp only[ZZ,simprocAttr,Ab,yJ,Ax,mkGC.ca,mkGC.H0,mkGC.H1,sub,AO,Q];intro _;refine⟨λO=>⟨by omega,O,O,λx hx=> ?_⟩,λO=> ?_⟩
 .have w1:IntKind.i64.wrap (k+2*(i:Int)+1)=k+2*(i:Int)+1:=AA (by omega) (by omega);have G:i<(List.map Ad.c (Nb (gF k) l i)).length:=by rw[Gh,Q];exact O
  refine⟨by rw[Fy];exact G,by rw[Fy];exact G,La (DC G) ?_⟩;simp only[ZZ,simprocAttr,Ab,yJ,Ax,mkGC.ca,mkGC.H0,mkGC.H1,sub,w1,Zfl];refine⟨⟨i+1,by omega⟩,by simp only;omega,⟨?_,?_⟩,?_⟩
  .rw[AA (by omega) (by omega)];simp only;omega
  .rw[AA (by omega) (by omega)];simp only;omega
  .simp only;rw[<-Nf O,Vm];rfl
 .exact⟨by omega,by rw[Nc (by omega)]⟩
 simp[mkGC.H1] at hp;subst hp;exact .inl ⟨by omega,rfl,rfl⟩
def pF(k:Int)(i:Nat):Al:=⟨⟨k+3*i,k+3*i+1⟩,k+3*i+2⟩
def mkPC.ca(a:List Al×Int):List AV:=[.own 0,.im (.int .i64 a.2)]
def mkPC.H0(a:List Al×Int):Ao:=[(0,(true,.arr 89 3 (a.1.map Al.c)))]
def mkPC.H1(a:List Al×Int):Ao:=[(0,(true,.arr 89 3 ((Ft (pF a.2) a.1.length).map Al.c)))]
def mkPC.row:AE:=AL mkPC.ca mkPC.H0 1 (λa=>0<=a.2/\a.2+3*a.1.length<=1099511627776) (λj=>j==0) (λa=> .im (.int .i64 (a.2+3*a.1.length))) mkPC.H1 0
def mkPC.ok:AI 66 mkPC.row:=by
 refine ow tN Tryz.func66 (exB:=λ_=>false) (R:=λa r=>r= .im (.int .i64 (a.2+3*a.1.length))) (λ_=>rfl)
  (λa=>by simp[mkPC.ca,mkPC.H0,mkPC.H1,AD,AV.bel,Av,BB,BU,Ac.nms,Aw,AV.nms,Aj,hget]) (λa p hp=> ?_) (λa r h=>by subst h;exact Dh.refl _) ?_
 rotate_left
 intro a G;simp only[Tryz.f66,Option.getD,mkPC.ca,mkPC.H0,mkPC.H1];simp only[ZZ,simprocAttr,Ab,Ax,mkPC.ca,mkPC.H0,mkPC.H1];obtain⟨l,k⟩:=a;simp only at G⊢;obtain⟨h1,h2⟩:=G;refine AY.old ⟨{i:Nat//i<=l.length},λi=>⟨[(5,.im (.int .i64 i.1)),(4,.im (.int .i64 0)),(1,.im (.int .i64 (k+3*i.1))),(0,.own 0)],[(0,(true,.arr 89 3 ((Nb (pF k) l i.1).map Al.c)))],1⟩,λi=>l.length - i.1,λi=>⟨by simp[ZG],by simp⟩,⟨⟨0,by simp⟩,by simp only[ZZ,simprocAttr,Ab,Ax,mkPC.ca,mkPC.H0,mkPC.H1,sub,lU];simp⟩,λi=> ?_⟩;obtain⟨i,Z⟩:=i;have Q:=Nd (f:=pF k) Z;simp only[ZZ,simprocAttr,Ab,Ax,mkPC.ca,mkPC.H0,mkPC.H1,sub,AO,Q];intro _;refine⟨λO=>⟨O,O,λx hx=> ?_⟩,λO=> ?_⟩
 .have w1:IntKind.i64.wrap (k+3*(i:Int)+1)=k+3*(i:Int)+1:=AA (by omega) (by omega);have w2:IntKind.i64.wrap (k+3*(i:Int)+1+1)=k+3*(i:Int)+2:=(AA (by omega) (by omega)).trans (by omega);have z:i<(List.map Al.c (Nb (pF k) l i)).length:=by rw[Gh,Q];exact O
  simp only[w1,w2];refine⟨by rw[Fy];exact z,by rw[Fy];exact z,La (DC z) ?_⟩;simp only[ZZ,simprocAttr,Ab,Ax,mkPC.ca,mkPC.H0,mkPC.H1,sub,w1,w2,Zfl];refine⟨by rw[Fy];exact z,by rw[Fy];exact z,La (DC z) ?_⟩;simp only[ZZ,simprocAttr,Ab,Ax,mkPC.ca,mkPC.H0,mkPC.H1,sub,w1,w2,Zfl];refine⟨⟨i+1,by omega⟩,by simp only;omega,⟨?_,?_⟩,?_⟩
  .rw[AA (by omega) (by omega)];simp only;omega
  .rw[AA (by omega) (by omega)];simp only;omega
  .simp only;rw[<-Nf O,Vm];rfl
 .exact⟨by omega,by rw[Nc (by omega)]⟩
 simp[mkPC.H1] at hp;subst hp;exact .inl ⟨by omega,rfl,rfl⟩
def oF(k:Int)(i:Nat):D4:=⟨⟨k+3*i,k+3*i+1⟩,k+3*i+2⟩
def toIX.ca(a:List Int):List AV:=[.im (.sl false 1 (a.map Ak))]
def toIX.H1(a:List Int):Ao:=[(1,(true,.arr 2 1 (a.map Ak)))]
def toIX.row:AE:=AL toIX.ca (λ_=>[]) 0 (λa=>a.length<=1073741824) (λ_=>false) (λ_=> .own 1) toIX.H1 2
def toIX.ok:AI 115 toIX.row:=by
 refine ow tN Tryz.func115 (exB:=λj=>j==1) (R:=λ_ r=>r= .own 1) (λ_=>rfl)
  (λa=>by simp[toIX.ca,toIX.H1,AD,AV.bel,Av,BB,BU,Ac.nms,Aw,AV.nms,Aj,hget]) (λa p hp=> ?_) (λa r h=>by subst h;exact Dh.refl _) ?_
 rotate_left
 intro a z;simp only[Tryz.f115,Option.getD,toIX.ca,toIX.H1];simp only[ZZ,simprocAttr,Ab,Ax,toIX.ca,toIX.H1];intro Q;have aa:a.length<=1073741824:=z;refine⟨by omega,?_⟩;refine AY.old ⟨{k:Nat//k<=a.length},λk=>⟨[(4,.im (.int .i64 k.1)),(3,.own 1),(0,.im (.sl false 1 (a.map Ak)))],[(1,(true,.arr 2 1 ((a.take k.1).map Ak++List.replicate (a.length - k.1) [.int .i64 0])))],2⟩,λk=>a.length - k.1,λk=>⟨by simp[ZG],AP _⟩,⟨⟨0,by omega⟩,by simp only[ZZ,simprocAttr,Ab,Ax,toIX.ca,toIX.H1,sub];simp⟩,λk=> ?_⟩;obtain⟨k,O⟩:=k;simp only[ZZ,simprocAttr,Ab,Ax,toIX.ca,toIX.H1,sub,AO,cO _ _ a k O];intro _;refine⟨λG=> ?_,λG=> ?_⟩
 .refine⟨G,λx Z=>⟨G,G,La (cL Ak _ a k x Z) ?_⟩⟩;simp only[ZZ,simprocAttr,Ab,Ax,toIX.ca,toIX.H1,sub];refine⟨⟨k+1,by omega⟩,by simp only;omega,?_,?_⟩
  .rw[AA (by omega) (by omega)];simp only;omega
  .exact cQ Ak _ a k x Z
 .rw[cP Ak _ a k (by omega)]
  try trivial
 simp[toIX.H1] at hp;subst hp;exact .inr ⟨by omega,by omega,rfl,rfl⟩
def toGX.ca(a:List Ad):List AV:=[.im (.sl false 2 (a.map Ad.c))]
def toGX.H1(a:List Ad):Ao:=[(1,(true,.arr 108 2 (a.map Ad.c)))]
def toGX.row:AE:=AL toGX.ca (λ_=>[]) 0 (λa=>a.length<=1073741824) (λ_=>false) (λ_=> .own 1) toGX.H1 2
def yK:=J @toGlue.q @toGlue.fv.eq_1
def toGX.ok:AI 46 toGX.row:=by
 refine ow (tC toGlue.ok tN) Tryz.func46 (exB:=λj=>j==1) (R:=λ_ r=>r= .own 1) (λ_=>rfl)
  (λa=>by simp[toGX.ca,toGX.H1,AD,AV.bel,Av,BB,BU,Ac.nms,Aw,AV.nms,Aj,hget]) (λa p hp=> ?_) (λa r h=>by subst h;exact Dh.refl _) ?_
 rotate_left
 intro a z;simp only[Tryz.f46,Option.getD,toGX.ca,toGX.H1];simp only[ZZ,simprocAttr,Ab,yK,Ax,toGX.ca,toGX.H1];intro Q;have aa:a.length<=1073741824:=z;refine⟨by omega,?_⟩;refine AY.old ⟨{k:Nat//k<=a.length},λk=>⟨[(4,.im (.int .i64 k.1)),(3,.own 1),(0,.im (.sl false 2 (a.map Ad.c)))],[(1,(true,.arr 108 2 ((a.take k.1).map Ad.c++List.replicate (a.length - k.1) [.str ByteArray.empty,.int .i64 0])))],2⟩,λk=>a.length - k.1,λk=>⟨by simp[ZG],AP _⟩,⟨⟨0,by omega⟩,by simp only[ZZ,simprocAttr,Ab,yK,Ax,toGX.ca,toGX.H1,sub];simp⟩,λk=> ?_⟩;obtain⟨k,O⟩:=k;simp only[ZZ,simprocAttr,Ab,yK,Ax,toGX.ca,toGX.H1,sub,AO,cO _ _ a k O];intro _;refine⟨λG=> ?_,λG=> ?_⟩
 .refine⟨G,λx Z=>⟨G,G,La (cL Ad.c _ a k x Z) ?_⟩⟩;simp only[ZZ,simprocAttr,Ab,yK,Ax,toGX.ca,toGX.H1,sub];refine⟨⟨k+1,by omega⟩,by simp only;omega,?_,?_⟩
  .rw[AA (by omega) (by omega)];simp only;omega
  .exact cQ Ad.c _ a k x Z
 .rw[cP Ad.c _ a k (by omega)]
  try trivial
 simp[toGX.H1] at hp;subst hp;exact .inr ⟨by omega,by omega,rfl,rfl⟩
def toPX.ca(a:List Al):List AV:=[.im (.sl false 3 (a.map Al.c))]
def toPX.H1(a:List Al):Ao:=[(1,(true,.arr 89 3 (a.map Al.c)))]
def toPX.row:AE:=AL toPX.ca (λ_=>[]) 0 (λa=>a.length<=1073741824) (λ_=>false) (λ_=> .own 1) toPX.H1 2
def yL:=J @toPlaced.q @toPlaced.fv.eq_1
def toPX.ok:AI 48 toPX.row:=by
 refine ow (tC toPlaced.ok tN) Tryz.func48 (exB:=λj=>j==1) (R:=λ_ r=>r= .own 1) (λ_=>rfl)
  (λa=>by simp[toPX.ca,toPX.H1,AD,AV.bel,Av,BB,BU,Ac.nms,Aw,AV.nms,Aj,hget]) (λa p hp=> ?_) (λa r h=>by subst h;exact Dh.refl _) ?_
 rotate_left
 intro a z;simp only[Tryz.f48,Option.getD,toPX.ca,toPX.H1];simp only[ZZ,simprocAttr,Ab,yL,Ax,toPX.ca,toPX.H1];intro Q;have aa:a.length<=1073741824:=z;refine⟨by omega,?_⟩;refine AY.old ⟨{k:Nat//k<=a.length},λk=>⟨[(4,.im (.int .i64 k.1)),(3,.own 1),(0,.im (.sl false 3 (a.map Al.c)))],[(1,(true,.arr 89 3 ((a.take k.1).map Al.c++List.replicate (a.length - k.1) [.int .i64 0,.int .i64 0,.int .i64 0])))],2⟩,λk=>a.length - k.1,λk=>⟨by simp[ZG],AP _⟩,⟨⟨0,by omega⟩,by simp only[ZZ,simprocAttr,Ab,yL,Ax,toPX.ca,toPX.H1,sub];simp⟩,λk=> ?_⟩;obtain⟨k,O⟩:=k;simp only[ZZ,simprocAttr,Ab,yL,Ax,toPX.ca,toPX.H1,sub,AO,cO _ _ a k O];intro _;refine⟨λG=> ?_,λG=> ?_⟩
 .refine⟨G,λx Z=>⟨G,G,La (cL Al.c _ a k x Z) ?_⟩⟩;simp only[ZZ,simprocAttr,Ab,yL,Ax,toPX.ca,toPX.H1,sub];refine⟨⟨k+1,by omega⟩,by simp only;omega,?_,?_⟩
  .rw[AA (by omega) (by omega)];simp only;omega
  .exact cQ Al.c _ a k x Z
 .rw[cP Al.c _ a k (by omega)]
  try trivial
 simp[toPX.H1] at hp;subst hp;exact .inr ⟨by omega,by omega,rfl,rfl⟩
def toTX.ca(a:Tile):List AV:=[.im (.agg (Tile.c a))]
def toTX.r0(a:Tile):AV:= .agg [.im (.str a.Name),.own 4]
def toTX.H1(a:Tile):Ao:=[(4,(true,.arr 2 1 (a.Sides.map Ak)))]
def toTX.row:AE:=AL toTX.ca (λ_=>[]) 0 (λa=>a.Sides.length<=1073741824) (λ_=>false) toTX.r0 toTX.H1 5
def toTX.ok:AI 83 toTX.row:=by
 refine ow (tC toIX.ok tN) Tryz.func83 (exB:=λj=>j==4) (R:=λa r=>r=toTX.r0 a) (λ_=>rfl)
  (λa=>by simp[toTX.ca,toTX.H1,Tile.c,AD,AV.bel,Av,BB,BU,Ac.nms,Aw,AV.nms,Aj,hget]) (λa p hp=> ?_) (λa r h=>by subst h;exact Dh.refl _) ?_
 rotate_left
 intro a z;simp only[Tryz.f83,Option.getD,toTX.ca,toTX.H1,Tile.c];simp only[ZZ,simprocAttr,Ab,Ax,toTX.ca,toTX.H1,Tile.c];refine AL.os a.Sides [] z (λj=>by simp[Aj,hget]) rfl rfl ?_ ?_
 .simp only[ZZ,simprocAttr,Ab,Ax,toTX.ca,toTX.H1,Tile.c,toIX.ca,D5]
 simp only[ZZ,simprocAttr,Ab,Ax,toTX.ca,toTX.H1,Tile.c,toIX.H1,sub,toTX.r0,EF,GQ]
 skip
 simp[toTX.H1] at hp;subst hp;exact .inr ⟨by omega,by omega,rfl,rfl⟩
def Ca(a:List Tile)(i:Nat):Am:=(true,.arr 2 1 (((a[i]?.map Tile.Sides).getD []).map Ak))
def Jo(a:List Tile)(i:Nat):List AV:=[.im (.str ((a[i]?.map Tile.Name).getD ByteArray.empty)),.own (2+i)]
def kE:List AV:=[.im (.str ByteArray.empty),.im (.sl true 0 [])]
def Hp(a:List Tile)(k:Nat):List (List AV):=(List.range k).map (Jo a)++List.replicate (a.length - k) kE
def aA{a:List Tile}{k:Nat}(h:k<=a.length):(Hp a k).length=a.length:=by simp[Hp];omega
def U5{a:List Tile}{k i:Nat}(h:i<k):(Hp a k)[i]? =some (Jo a i):=by
 rw[Hp,H6 (by simpa using h),Dt,FN h];rfl
def U4{a:List Tile}{k i:Nat}(h:k<=i)(z:i<a.length):(Hp a k)[i]? =some kE:=by
 rw[Hp,J2 (by simpa using h),Lh,Ai (by simp;omega)]
def MT(a:List Tile)(k N:Nat)(h:2+k<=N):(Hp a k).all (AD N)=true:=by
 rw[CM];intro r z;rcases Bz.1 z with z|z
 .obtain⟨i,G,rfl⟩:=Bn.1 z
  have:=Bk.1 G
  simp[Jo,AD,AV.bel];omega
 .obtain rfl:=NJ z;simp[kE,AD,AV.bel]
def U6(a:List Tile):Hp a 0=Bi (List.replicate a.length [.str ByteArray.empty,.sl true 0 []]):=by
 simp[Hp,Bi,kE]
def JL(h:Nat->Option Am)(F:AV->Option AV)(b:Nat)(f:Nat->Am)(n:Nat)(H: ∀i,i<n->h (b+i)=some (f i))(G: ∀i,i<n->Cd F (f i).2=some (f i).2):E5 h F (AG b n f):=by
 have: ∀(l:List Nat),(∀i∈l,i<n)->E5 h F (l.map λi=>(b+i,f i)):=by
  intro l;induction l with
  |nil=>intro _;simp[E5]
  |cons i r ih=>
   intro z;simp only[Bb,E5];refine⟨?_,ih (λj Q=>z j (BK _ Q))⟩;rw[H i (z i (BQ ..))];exact⟨rfl,G i (z i (BQ ..))⟩
 exact this _ (λi O=>Bk.1 O)
def Yv{h:Nat->Option Am}{kx:Nat->Option Nat}{m:Nat}{a:List Tile}(G: ∀i,i<a.length->kx (2+i)=some (2+i)):Aq (Aq (Bd h kx (m+1))) (Hp a a.length)=some (Hp a a.length):=by
 have e:Hp a a.length=(List.range a.length).map (Jo a):=by simp[Hp]
 rw[e];refine Vb (g:=Jo a) (k:=Jo a) _ λi z=> ?_
 simp only[Jo,Aq,Bd,G i (Bk.1 z),kp]
def toLX.ca(a:List Tile):List AV:=[.im (.sl false 2 (a.map Tile.c))]
def toLX.H1(a:List Tile):Ao:=(1,(true,.arrA 98 2 (Hp a a.length)))::AG 2 (min a.length 1048576) (Ca a)
def toLX.pre(a:List Tile):Prop:=a.length<=1048576/\ ∀x∈a,x.Sides.length<=1073741824
def toLX.row:AE:=AL toLX.ca (λ_=>[]) 0 toLX.pre (λ_=>false) (λ_=> .own 1) toLX.H1 2000000
def toLX.ok:AI 47 toLX.row:=by
 refine ow (tC toTX.ok tN) Tryz.func47 (exB:=λj=>Nat.ble 1 j) (R:=λ_ r=>r= .own 1) (λ_=>rfl)
  (λa=>by simp[toLX.ca,AD,AV.bel,Av,BB,BU,Ac.nms,Aw,AV.nms,Aj,hget]) (λa p hp=> ?_) (λa r h=>by subst h;exact Dh.refl _) ?_
 rotate_left
 intro a ah;simp only[Tryz.f47,Option.getD,toLX.ca];simp(maxSteps:=9^9)(disch:=omega)only[ZZ,simprocAttr,Ab,Ax,toLX.ca];obtain⟨h1,h2⟩:=ah;intro _;refine⟨by omega,?_⟩;refine AY.ren ⟨{k:Nat//k<=a.length},λk=>⟨[(4,.im (.int .i64 k.1)),(3,.own 1),(0,.im (.sl false 2 (a.map Tile.c)))],(1,(true,.arrA 98 2 (Hp a k.1)))::AG 2 k.1 (Ca a),2+a.length⟩,λk=>a.length - k.1,λk=>⟨?_,by simp⟩,⟨⟨0,by simp⟩,[],?_⟩,λk=> ?_⟩
 .simp only[ZG,Ep,Ew];rw[N9 _ _ _ (λi=>by simp[Av,Ca]),N6 _ _ _ _ (by omega),MT _ _ _ (by omega)];simp
  try omega
 .simp only[Ar,AG,Vk,BD,U6];simp(maxSteps:=9^9)(disch:=omega)only[ZZ,simprocAttr,Ab,Ax,toLX.ca,AS,AR,pW]
  try simp
 .obtain⟨k,ai⟩:=k;have Z:=aA (a:=a) ai;simp(maxSteps:=9^9)(disch:=omega)only[ZZ,simprocAttr,Ab,Ax,toLX.ca,sub,AO,Z,Bq];intro _;refine⟨λhk=>⟨by omega,hk,λx hx=> ?_⟩,λhk=> ?_⟩
  .refine AL.os x [] (h2 x (Bf hx)) (λj=>by simp[Aj,hget]) rfl rfl ?_ ?_
   .simp(maxSteps:=9^9)(disch:=omega)only[ZZ,simprocAttr,Ab,Ax,toLX.ca,toTX.ca,D5,Tile.c]
   simp(maxSteps:=9^9)(disch:=omega)only[ZZ,simprocAttr,Ab,Ax,toLX.ca,toTX.H1,toTX.r0,sub,AO,Z,Bq,Lb,AC,EF,GQ];refine⟨⟨by omega,by omega,by omega⟩,hk,by omega,hk,La (U4 (AP _) hk) ?_⟩;simp only[kE];simp(maxSteps:=9^9)(disch:=omega)only[ZZ,simprocAttr,Ab,Ax,toLX.ca,sub,AO,Z,Bq,Lb,AC,Jv];rw[Iw 2 k (Ca a) [1] (by simp)];refine⟨⟨?_,by omega⟩,⟨k+1,by omega⟩,[(2+k,some (2+a.length+4))],by simp only;omega,?_⟩
   .rw[CM];intro r hr;rcases W5 hr with hr|hr
    .exact CM.1 (MT a k _ (by omega)) r hr
    .subst hr;simp[AD,AV.bel]
   obtain⟨g,hg⟩: ∃g,g=pm [(2+k,some (2+a.length+4))]:=⟨_,rfl⟩;have qx:g (2+k)=some (2+a.length+4):=by rw[hg];simp[pm]
   have qo: ∀u,u≠2+k->g u=some u:=by intro u h;rw[hg];simp only[pm];rw[Af (by omega)]
   have q1:pm [(2+k,some (2+a.length+4))] 1=some 1:=by rw[<-hg];exact qo 1 (by omega)
   have ab:=qx;have aa:=qo;rw[hg] at ab aa;refine⟨⟨by omega,trivial⟩,?_,?_,?_⟩
   .rw[YK,<-hg];simp only[Fc,VZ];refine YO _ _ (bT [1] 2 (k+1) (by simp) (by simp)) ?_;have ad: ∀u∈[1]++(List.range (k+1)).map (2+ ·),u<2+a.length+1:=by
     intro u hu;rcases Bz.1 hu with hu|hu
     .simp at hu;omega
     .obtain⟨i,hi,rfl⟩:=Bn.1 hu
      have:=Bk.1 hi
      show 2+i<2+a.length+1;omega
    intro u hu v hv m z G;have ak:=ad u hu;have am:=ad v hv;by_cases O:u=2+k<;>by_cases Q:v=2+k
    .omega
    .rw[O,qx] at z;rw[qo v Q] at G;simp only[AM] at z G;omega
    .rw[qo u O] at z;rw[Q,qx] at G;simp only[AM] at z G;omega
    .rw[qo u O] at z;rw[qo v Q] at G;simp only[AM] at z G;omega
   .simp only[H4,A8];simp(maxSteps:=9^9)(disch:=omega)only[ZZ,simprocAttr,Ab,Ax,toLX.ca,q1];rw[AA (by omega) (by omega)];simp
   .simp only[ES,YG];refine⟨?_,λi hi=> ?_⟩
    .simp(maxSteps:=9^9)(disch:=omega)only[ZZ,simprocAttr,Ab,Ax,toLX.ca,q1];rw[Wp];refine⟨by rw[Fy,Z,aA (by omega)],λi r1 r2 O Q=> ?_⟩;have af:i<a.length:=by
      have:=(Cu.1 O).1
      rw[aA (by omega)] at this;exact this
     by_cases ac:i=k
     .subst ac;rw[U5 (by omega)] at O;rw[DC (by rw[Z];exact af)] at Q;obtain rfl:=AB O;obtain rfl:=AB Q;simp only[Jo,hx,D7,AT,Dp,mt,ab,EO,E8]
     .rw[DL (by omega)] at Q;by_cases ad:i<k
      .rw[U5 (by omega)] at O Q;obtain rfl:=AB O;obtain rfl:=AB Q;simp only[Jo,Dp,mt,aa (2+i) (by omega),EO,E8]
      .rw[U4 (by omega) af] at O Q;obtain rfl:=AB O;obtain rfl:=AB Q;simp only[kE,Dp,mt,E8]
    .show CE _ _ true (.arr 2 1 (((a[i]?.map Tile.Sides).getD []).map Ak)) _;by_cases ac:i=k
     .subst ac;rw[ab];simp(maxSteps:=9^9)(disch:=omega)only[ZZ,simprocAttr,Ab,Ax,toLX.ca,hx,D7,AT,AC]
      try simp
     .rw[aa (2+i) (by omega)];simp(maxSteps:=9^9)(disch:=omega)only[ZZ,simprocAttr,Ab,Ax,toLX.ca,DY,AC,Lb,Ca]
      try simp
  .have aj:k=a.length:=by omega
   subst aj;refine⟨by omega,by omega,?_⟩;have ag:min a.length 1048576=a.length:=by omega
   obtain⟨H,hH⟩: ∃H,H=hget ((1,(true,Ac.arrA 98 2 (Hp a a.length)))::AG 2 a.length (Ca a)):=⟨_,rfl⟩;rw[<-hH];have kx: ∀i,i<a.length->(GU [] 0 2000000 λj=>decide (1<=j)) (2+i)=some (2+i):=by
    intro i hi;have hb:(decide (1<=2+i) && (Nat.ble 0 (2+i) && Nat.blt (2+i) (0+2000000)))=true:=by
     simp only[AW,Cy,Gi,Ed];omega
    simp only[GU,Aj,hget,dM,rP,hb,BV]
   have g1:H 1=some (true,.arrA 98 2 (Hp a a.length)):=by rw[hH];rfl
   simp only[toLX.H1,E5,ag];refine⟨?_,JL _ _ _ _ _ (λi hi=> ?_) (λi hi=>rfl)⟩
   .rw[g1];exact⟨rfl,by simp only[Cd];rw[Yv kx];rfl⟩
   .rw[hH];simp only[hget,AC _ _ (show 1≠2+i by omega),Bs];exact DY _ _ _ _ hi
 simp only[toLX.H1,Bt,AG,Bn,Bk] at hp;rcases hp with rfl|⟨i,hi,rfl⟩
 .exact .inr ⟨by omega,by omega,rfl,rfl⟩
 .exact .inr ⟨by simp only;omega,by simp only;omega,by simp only[Gi];omega,rfl⟩
def C4(b:Nat)(a:List Tile):List (List AV):=(List.range a.length).map λi=>[.im (.str ((a[i]?.map Tile.Name).getD ByteArray.empty)),.own (b+i)]
def Yw(σ:Nat->Nat)(b:Nat)(a:List Tile)(h: ∀i,i<a.length->σ (2+i)=b+i):(Hp a a.length).map (AH σ)=C4 b a:=by
 have e:Hp a a.length=(List.range a.length).map (Jo a):=by simp[Hp]
 rw[e,Km];refine Ii λi z=> ?_
 simp only[Function.comp,Jo,AH,AV.ren,h i (Bk.1 z)]
def Ys(σ:Nat->Nat)(b n:Nat)(a:List Tile)(h: ∀i,i<n->σ (2+i)=b+i):AX σ (AG 2 n (Ca a))=AG b n (Ca a):=by
 simp only[AG]
 have: ∀(l:List Nat),(∀i∈l,i<n)->AX σ (l.map λi=>(2+i,Ca a i))=l.map λi=>(b+i,Ca a i):=by
  intro l;induction l with
  |nil=>intro _;rfl
  |cons i r ih=>
   intro z;have e:=ih (λj O=>z j (BK _ O));simp only[Bb,AX,h i (z i (BQ ..)),Ca,Ac.ren] at e⊢;rw[e]
 exact this _ (λi G=>Bk.1 G)
def V9(k:List Nat)(nx cnt:Nat): ∀(H:Ao),(∀p∈H,nx<=p.1/\p.1<nx+cnt)->Hi k nx cnt H=true
 |[],_=>rfl
 |(i,e)::r,h=>by
  have z:=h (i,e) (BQ ..);simp only at z;simp only[Hi,JO,V9 k nx cnt r (λp hp=>h p (BK _ hp)),Ep,H8,AW,Gi,Ed];exact .inl z
def Qp(b:Nat)(a:List Tile)(N:Nat)(h:b+a.length<=N):(C4 b a).all (AD N)=true:=by
 rw[CM];intro r G;obtain⟨i,z,rfl⟩:=Bn.1 G
 have:=Bk.1 z
 simp[AD,AV.bel];omega
def U7{σ:Nat->Nat}{nx:Nat}(a:List Tile)(h: ∀j,σ j=nx+j):AX σ (toLX.H1 a)=(nx+1,(true,.arrA 98 2 (C4 (nx+2) a)))::AG (nx+2) (min a.length 1048576) (Ca a):=by
 simp only[toLX.H1,AX,Ac.ren];rw[Yw σ (nx+2) a (λi _=>by rw[h];omega),Ys σ (nx+2) _ a (λi _=>by rw[h];omega),h]
def VA{b n:Nat}{f:Nat->Am}{r:Ao}{m:Nat}(h:m<b):hget (AG b n f++r) m=hget r m:=by
 rw[PB,vY _ _ _ _ (.inl h)];rfl
def mB(ks:List Nat): ∀(a b:Ao),Ba (a++b) ks=Ba a ks++Ba b ks
 |[],b=>by simp[Ba]
 |(i,e)::r,b=>by
  simp only[BG,Ba,mB ks r b];cases ks.contains i<;>rfl
def ZU{b n:Nat}{f:Nat->Am}{r:Ao}{k:Nat}(h:k<b):Ba (AG b n f++r) [k]=AG b n f++Ba r [k]:=by
 rw[mB,Iw _ _ _ _ (λx z=>by rw[BL] at z;subst z;exact .inl h)]
def Qj{h:Nat->Option Am}{kx:Nat->Option Nat}{m b:Nat}{a:List Tile}(G: ∀i,i<a.length->kx (b+i)=some (b+i)):Aq (Aq (Bd h kx (m+1))) (C4 b a)=some (C4 b a):=by
 refine Vb (g:=λi=>[AV.im (.str ((a[i]?.map Tile.Name).getD ByteArray.empty)),AV.own (b+i)]) (k:=λi=>[AV.im (.str ((a[i]?.map Tile.Name).getD ByteArray.empty)),AV.own (b+i)]) _ λi z=> ?_
 simp only[Aq,Bd,G i (Bk.1 z),kp]
def K2{lo cnt m:Nat}(G:lo<=m)(O:m<cnt):(GU [] 0 cnt λj=>decide (lo<=j)) m=some m:=by
 have z:(decide (lo<=m) && (Nat.ble 0 m && Nat.blt m (0+cnt)))=true:=by
  simp only[AW,Cy,Gi,Ed];omega
 simp only[GU,Aj,hget,dM,rP,z,BV]
def toSX.ca(a:Au):List AV:=[.im (.agg (Au.c a))]
def toSX.r0:AV:= .agg [.own 4,.own 6]
def toSX.H1(a:Au):Ao:=(4,(true,.arr 108 2 (a.Glues.map Ad.c)))::(6,(true,.arrA 98 2 (C4 7 a.Tiles)))::AG 7 (min a.Tiles.length 1048576) (Ca a.Tiles)
def toSX.pre(a:Au):Prop:=a.Glues.length<=1073741824/\toLX.pre a.Tiles
def toSX.row:AE:=AL toSX.ca (λ_=>[]) 0 toSX.pre (λ_=>false) (λ_=>toSX.r0) toSX.H1 2000005
def toSX.ok:AI 17 toSX.row:=by
 refine ow (tC toGX.ok (tC toLX.ok tN)) Tryz.func17 (exB:=λj=>Nat.ble 4 j) (R:=λ_ r=>r=toSX.r0) (λ_=>rfl)
  (λa=>by simp[toSX.ca,Au.c,AD,AV.bel,Av,BB,BU,Ac.nms,Aw,AV.nms,Aj,hget]) (λa p hp=> ?_) (λa r h=>by subst h;exact Dh.refl _) ?_
 rotate_left
 intro a O;simp only[Tryz.f17,Option.getD,toSX.ca,Au.c];simp only[ZZ,simprocAttr,Ab,Ax,toSX.ca,Au.c];obtain⟨h1,Q⟩:=O;refine AL.os a.Glues [] h1 (λj=>by simp[Aj,hget]) rfl rfl ?_ ?_
 .simp only[ZZ,simprocAttr,Ab,Ax,toSX.ca,Au.c,toGX.ca,D5]
 simp only[ZZ,simprocAttr,Ab,Ax,toSX.ca,Au.c,toGX.H1,sub,EF,GQ];refine AL.os a.Tiles [] Q (λj=>by simp[Aj,hget]) rfl rfl ?_ ?_
 .simp only[ZZ,simprocAttr,Ab,Ax,toSX.ca,Au.c,toLX.ca,D5]
 have hσ: ∀j,B0 (IY []) 0 5 j=5+j:=λj=>by simp[B0]
 rw[U7 a.Tiles hσ];obtain⟨h3,h4⟩:=Q;have z:min a.Tiles.length 1048576=a.Tiles.length:=by omega
 rw[z];simp only[Ez,AV.ren,hσ];refine⟨?_,?_⟩
 .rw[Bv.ok_nr,V9 _ _ _ _ (λp hp=> ?_)]
  .simp only[AV.bel,Av];rw[N9 _ _ _ (λi=>by simp[Av,Ca]),Qp _ _ _ (by omega)];simp
  .rcases Bt.1 hp with rfl|hp
   .exact⟨by simp only;omega,by simp only;omega⟩
   .obtain⟨i,G,rfl⟩:=Bn.1 hp
    have:=Bk.1 G
    exact⟨by simp only;omega,by simp only;omega⟩
 simp only[ZZ,simprocAttr,Ab,Ax,toSX.ca,Au.c,sub,Bq,toSX.r0,VA,ZU];obtain⟨H,hH⟩: ∃H,H=hget ((1,(true,Ac.cells 35 [AV.own 4,AV.own 6]))::(2,(true,Ac.cells 35 [AV.own 4,AV.own 6]))::(6,(true,Ac.arrA 98 2 (C4 7 a.Tiles)))::
  (AG 7 a.Tiles.length (Ca a.Tiles)++[(4,(true,Ac.arr 108 2 (List.map Ad.c a.Glues))),(0,(true,Ac.cells 25 [AV.im (D.sl false 2 (List.map Ad.c a.Glues)),AV.im (D.sl false 2 (List.map Tile.c a.Tiles))]))])):=⟨_,rfl⟩
 rw[<-hH];have Z:H 4=some (true,.arr 108 2 (a.Glues.map Ad.c)):=by rw[hH];simp[hget,VA]
 have g6:H 6=some (true,.arrA 98 2 (C4 7 a.Tiles)):=by rw[hH];rfl
 have gf: ∀i,i<a.Tiles.length->H (7+i)=some (Ca a.Tiles i):=by
  intro i G;rw[hH];simp only[hget,AC _ _ (show 1≠7+i by omega),AC _ _ (show 2≠7+i by omega),AC _ _ (show 6≠7+i by omega),Bs];rw[PB,DY _ _ _ _ G];rfl
 simp only[toSX.H1,E5,z];refine⟨?_,?_,JL _ _ _ _ _ gf (λi G=>rfl)⟩
 .rw[Z];exact⟨rfl,rfl⟩
 .rw[g6];exact⟨rfl,by simp only[Cd];rw[Qj (λi G=>K2 (by omega) (by omega))];rfl⟩
 simp only[toSX.H1,Bt,AG,Bn,Bk] at hp;rcases hp with rfl|rfl|⟨i,G,rfl⟩
 .exact .inr ⟨by omega,by simp only;omega,rfl,rfl⟩
 .exact .inr ⟨by omega,by simp only;omega,rfl,rfl⟩
 .exact .inr ⟨by simp only;omega,by simp only;omega,by simp only[Gi];omega,rfl⟩
def toAX.ca(a:A9):List AV:=[.im (.agg (A9.c a))]
def toAX.H1(a:A9):Ao:=[(4,(true,.arr 89 3 (a.Tiles.map Al.c)))]
def toAX.row:AE:=AL toAX.ca (λ_=>[]) 0 (λa=>a.Tiles.length<=1073741824) (λ_=>false) (λ_=> .agg [.own 4]) toAX.H1 5
def toAX.ok:AI 18 toAX.row:=by
 refine ow (tC toPX.ok tN) Tryz.func18 (exB:=λj=>j==4) (R:=λ_ r=>r= .agg [.own 4]) (λ_=>rfl)
  (λa=>by simp[toAX.ca,toAX.H1,A9.c,AD,AV.bel,Av,BB,BU,Ac.nms,Aw,AV.nms,Aj,hget]) (λa p hp=> ?_) (λa r h=>by subst h;exact Dh.refl _) ?_
 rotate_left
 intro a z;simp only[Tryz.f18,Option.getD,toAX.ca,toAX.H1,A9.c];simp only[ZZ,simprocAttr,Ab,Ax,toAX.ca,toAX.H1,A9.c];refine AL.os a.Tiles [] z (λj=>by simp[Aj,hget]) rfl rfl ?_ ?_
 .simp only[ZZ,simprocAttr,Ab,Ax,toAX.ca,toAX.H1,A9.c,toPX.ca,D5]
 simp only[ZZ,simprocAttr,Ab,Ax,toAX.ca,toAX.H1,A9.c,toPX.H1,sub,EF,GQ]
 skip
 simp[toAX.H1] at hp;subst hp;exact .inr ⟨by omega,by omega,rfl,rfl⟩
def U8{σ:Nat->Nat}{nx:Nat}(a:Au)(h: ∀j,σ j=nx+j):AX σ (toSX.H1 a)=(nx+4,(true,.arr 108 2 (a.Glues.map Ad.c)))::(nx+6,(true,.arrA 98 2 (C4 (nx+7) a.Tiles)))::AG (nx+7) (min a.Tiles.length 1048576) (Ca a.Tiles):=by
 have z:(C4 7 a.Tiles).map (AH σ)=C4 (nx+7) a.Tiles:=by
  simp only[C4,Km];refine Ii λi O=> ?_
  simp only[Function.comp,AH,AV.ren,h];rw[show nx+(7+i)=nx+7+i by omega]
 have G: ∀n,AX σ (AG 7 n (Ca a.Tiles))=AG (nx+7) n (Ca a.Tiles):=by
  intro n;simp only[AG]
  have: ∀(l:List Nat),AX σ (l.map λi=>(7+i,Ca a.Tiles i))=l.map λi=>(nx+7+i,Ca a.Tiles i):=by
   intro l;induction l with
   |nil=>rfl
   |cons i r ih=>
    simp only[Bb,AX,h,Ca,Ac.ren] at ih⊢;rw[ih,show nx+(7+i)=nx+7+i by omega]
  exact this _
 simp only[toSX.H1,AX,Ac.ren,z,G,h]
def toYX.ca(a:AF):List AV:=[.im (.agg (AF.c a))]
def toYX.r0(a:AF):AV:= .agg [.own 7,.own 9,.own 2000012,.im (.int .i64 a.Temperature)]
def toYX.H1(a:AF):Ao:=(7,(true,.arr 108 2 (a.Set.Glues.map Ad.c)))::(9,(true,.arrA 98 2 (C4 10 a.Set.Tiles)))::(2000012,(true,.arr 89 3 (a.Seed.Tiles.map Al.c)))::AG 10 (min a.Set.Tiles.length 1048576) (Ca a.Set.Tiles)
def toYX.pre(a:AF):Prop:=toSX.pre a.Set/\a.Seed.Tiles.length<=1073741824
def toYX.row:AE:=AL toYX.ca (λ_=>[]) 0 toYX.pre (λ_=>false) toYX.r0 toYX.H1 2000013
def toYX.ok:AI 6 toYX.row:=by
 refine ow (tC toSX.ok (tC toAX.ok tN)) Tryz.func6 (exB:=λj=>Nat.ble 7 j) (R:=λa r=>r=toYX.r0 a) (λ_=>rfl)
  (λa=>by simp[toYX.ca,AF.c,AD,AV.bel,Av,BB,BU,Ac.nms,Aw,AV.nms,Aj,hget]) (λa p hp=> ?_) (λa r h=>by subst h;exact Dh.refl _) ?_
 rotate_left
 intro a O;simp only[Tryz.f6,Option.getD,toYX.ca,AF.c];simp only[ZZ,simprocAttr,Ab,Ax,toYX.ca,AF.c];obtain⟨Q,h2⟩:=O;refine AL.os a.Set [] Q (λj=>by simp[Aj,hget]) rfl rfl ?_ ?_
 .simp only[ZZ,simprocAttr,Ab,Ax,toYX.ca,AF.c,toSX.ca,Au.c,D5]
 have hσ: ∀j,B0 (IY []) 0 3 j=3+j:=λj=>by simp[B0]
 rw[U8 a.Set hσ];obtain⟨h0,h3,h4⟩:=Q;have z:min a.Set.Tiles.length 1048576=a.Set.Tiles.length:=by omega
 rw[z];simp only[Ez,toSX.r0,AV.ren,AH,hσ];refine⟨?_,?_⟩
 .rw[Bv.ok_nr,V9 _ _ _ _ (λp hp=> ?_)]
  .simp only[AV.bel,AD,Av];rw[N9 _ _ _ (λi=>by simp[Av,Ca]),Qp _ _ _ (by omega)];simp
  .rcases Bt.1 hp with rfl|hp
   .exact⟨by simp only;omega,by simp only;omega⟩
   rcases Bt.1 hp with rfl|hp
   .exact⟨by simp only;omega,by simp only;omega⟩
   .obtain⟨i,G,rfl⟩:=Bn.1 hp
    have:=Bk.1 G
    exact⟨by simp only;omega,by simp only;omega⟩
 simp only[ZZ,simprocAttr,Ab,Ax,toYX.ca,AF.c,sub,Bq,VA,ZU];refine AL.os a.Seed [] h2 (λj=>by simp[Aj,hget]) rfl rfl ?_ ?_
 .simp only[ZZ,simprocAttr,Ab,Ax,toYX.ca,AF.c,toAX.ca,A9.c,D5]
 simp only[ZZ,simprocAttr,Ab,Ax,toYX.ca,AF.c,toAX.H1,sub,Bq,VA,ZU,toYX.r0,EF,GQ];obtain⟨H,hH⟩: ∃H,H=hget ((1,(true,Ac.cells 40 [AV.own 7,AV.own 9,AV.own 2000012,AV.im (D.int IntKind.i64 a.Temperature)]))::(2,(true,Ac.cells 40 [AV.own 7,AV.own 9,AV.own 2000012,AV.im (D.int IntKind.i64 a.Temperature)]))::
  (2000012,(true,Ac.arr 89 3 (List.map Al.c a.Seed.Tiles)))::(7,(true,Ac.arr 108 2 (List.map Ad.c a.Set.Glues)))::(9,(true,Ac.arrA 98 2 (C4 10 a.Set.Tiles)))::
  (AG 10 a.Set.Tiles.length (Ca a.Set.Tiles)++[(0,(true,Ac.cells 30 [AV.im (D.sl false 2 (List.map Ad.c a.Set.Glues)),AV.im (D.sl false 2 (List.map Tile.c a.Set.Tiles)),AV.im (D.sl false 3 (List.map Al.c a.Seed.Tiles)),AV.im (D.int IntKind.i64 a.Temperature)]))])):=⟨_,rfl⟩
 rw[<-hH];have Z:H 7=some (true,.arr 108 2 (a.Set.Glues.map Ad.c)):=by rw[hH];rfl
 have g9:H 9=some (true,.arrA 98 2 (C4 10 a.Set.Tiles)):=by rw[hH];rfl
 have gs:H 2000012=some (true,.arr 89 3 (a.Seed.Tiles.map Al.c)):=by rw[hH];simp[hget]
 have gf: ∀i,i<a.Set.Tiles.length->H (10+i)=some (Ca a.Set.Tiles i):=by
  intro i G;rw[hH];simp only[hget,AC _ _ (show 1≠10+i by omega),AC _ _ (show 2≠10+i by omega),AC _ _ (show 2000012≠10+i by omega),AC _ _ (show 7≠10+i by omega),AC _ _ (show 9≠10+i by omega),Bs];rw[PB,DY _ _ _ _ G];rfl
 simp only[toYX.H1,E5,z];refine⟨?_,?_,?_,JL _ _ _ _ _ gf (λi G=>rfl)⟩
 .rw[Z];exact⟨rfl,rfl⟩
 .rw[g9];exact⟨rfl,by simp only[Cd];rw[Qj (λi G=>K2 (by omega) (by omega))];rfl⟩
 .rw[gs];exact⟨rfl,rfl⟩
 simp only[toYX.H1,Bt,AG,Bn,Bk] at hp;rcases hp with rfl|rfl|rfl|⟨i,G,rfl⟩
 .exact .inr ⟨by omega,by simp only;omega,rfl,rfl⟩
 .exact .inr ⟨by omega,by simp only;omega,rfl,rfl⟩
 .exact .inr ⟨by omega,by simp only;omega,by simp only[Gi];omega,rfl⟩
 .exact .inr ⟨by simp only;omega,by simp only;omega,by simp only[Gi];omega,rfl⟩
def eqSystemF.fv(a:AF×AF):Bool:=(λa b=>decide (a=b)) (a.1) (a.2)
def eqSystemF.row:AE:=CG (b2 (qR AF.d_le) (qR AF.d_le)) rB (λa=>True) eqSystemF.fv
def eqSystemF.ok:AI 8 eqSystemF.row:=by
 refine Gy (tC eqTileSet.ok (tC eqAssembly.ok tN)) Tryz.func8 ?_;intro a G;simp only[Tryz.f8,Option.getD];simp only[ZZ,simprocAttr,Ab,eqSystemF.fv,eqTileSet.q,eqTileSet.fv,eqAssembly.q,eqAssembly.fv,BS,D.sc,D.scs,BJ,AQ];obtain⟨⟨⟨x,O⟩,⟨y⟩,u⟩,⟨⟨z,Q⟩,⟨w⟩,v⟩⟩:=a;simp only[AF.mk.injEq,Au.mk.injEq,A9.mk.injEq]
 grind
def mkAC.ca(a:A9×Int):List AV:=[.agg [.own 0],.im (.int .i64 a.2)]
def mkAC.H0(a:A9×Int):Ao:=[(0,(true,.arr 89 3 (a.1.Tiles.map Al.c)))]
def mkAC.H1(a:A9×Int):Ao:=[(0,(true,.arr 89 3 ((Ft (pF a.2) a.1.Tiles.length).map Al.c)))]
def mkAC.row:AE:=AL mkAC.ca mkAC.H0 1 (λa=>0<=a.2/\a.2+3*a.1.Tiles.length<=1099511627776) (λj=>j==0) (λa=> .im (.int .i64 (a.2+3*a.1.Tiles.length))) mkAC.H1 0
def mkAC.ok:AI 30 mkAC.row:=by
 refine ow (tC mkPC.ok tN) Tryz.func30 (exB:=λ_=>false) (R:=λa r=>r= .im (.int .i64 (a.2+3*a.1.Tiles.length))) (λ_=>rfl)
  (λa=>by simp[mkAC.ca,mkAC.H0,mkAC.H1,AD,AV.bel,Av,BB,BU,Ac.nms,Aw,AV.nms,Aj,hget]) (λa p hp=> ?_) (λa r h=>by subst h;exact Dh.refl _) ?_
 rotate_left
 intro a z;simp only[Tryz.f30,Option.getD,mkAC.ca,mkAC.H0,mkAC.H1];simp only[ZZ,simprocAttr,Ab,Ax,mkAC.ca,mkAC.H0,mkAC.H1];refine AL.os (a.1.Tiles,a.2) [0] z (λj=> ?_) rfl rfl ?_ ?_
 .simp only[Aj,mkPC.H0,hget];by_cases G:j=0
  .subst G;simp
  .have:(0==j)=false:=by simpa using λh=>G h.symm
   rw[this];simp;omega
 .simp only[ZZ,simprocAttr,Ab,Ax,mkAC.ca,mkAC.H0,mkAC.H1,mkPC.ca,mkPC.H0,D5,EF]
  try exact⟨rfl,rfl⟩
 simp only[ZZ,simprocAttr,Ab,Ax,mkAC.ca,mkAC.H0,mkAC.H1,mkPC.H1,sub,EF,GQ]
 skip
 simp[mkAC.H1] at hp;subst hp;exact .inl ⟨by omega,rfl,rfl⟩
def nT(a:List Tile):Nat:=min a.length 1048576
def fU(a:List Tile)(i:Nat):List Int:=(a[i]?.map Tile.Sides).getD []
def Eb(a:List Tile)(k:Int):Nat->Int
 |0=>k
 |i+1=>Eb a k i+1+(fU a i).length
def Fq(a:List Tile)(k:Int)(i j:Nat):List AV:=if j<i then [.im (.str (FG (Eb a k j))),.own (2+j)] else Jo a j
def Fs(a:List Tile)(k:Int)(i j:Nat):Am:=(true,.arr 2 1 ((if j<i then Hm (Eb a k j+1) (fU a j).length else fU a j).map Ak))
def Dn(a:List Tile)(k:Int)(i:Nat):Ao:=(0,(true,.arrA 98 2 ((List.range (nT a)).map (Fq a k i))))::AG 2 (nT a) (Fs a k i)
def mkLC.ca(a:List Tile×Int):List AV:=[.own 0,.im (.int .i64 a.2)]
def mkLC.H0(a:List Tile×Int):Ao:=Dn a.1 a.2 0
def mkLC.H1(a:List Tile×Int):Ao:=Dn a.1 a.2 (nT a.1)
def mkLC.r0(a:List Tile×Int):AV:= .im (.int .i64 (Eb a.1 a.2 a.1.length))
def mkLC.pre(a:List Tile×Int):Prop:=a.1.length<=1048576/\0<=a.2/\Eb a.1 a.2 a.1.length<=1099511627776
def mkLC.row:AE:=AL mkLC.ca mkLC.H0 2000000 mkLC.pre (λ_=>true) mkLC.r0 mkLC.H1 0
def FU(a:List Tile):nT a<=1048576:=Zh _ _
def aH(a:List Tile)(k:Int)(i j N:Nat)(h:2+j<N):AD N (Fq a k i j)=true:=by
 simp only[Fq]
 split<;>simp[Jo,AD,AV.bel,h]
def ZY(a:List Tile)(k:Int)(i j:Nat):Aw (Fq a k i j)=[2+j]:=by
 simp only[Fq]
 split<;>simp[Jo,Aw,AV.nms]
def mI(a:List Tile)(k:Int)(i N:Nat)(h:2+nT a<N):Av N (Dn a k i)=true:=by
 simp only[Dn,Av];rw[N9 _ _ _ (λj=>by simp[Av,Fs]),Ep,CM];intro r G;obtain⟨j,z,rfl⟩:=Bn.1 G;exact aH _ _ _ _ _ (by have:=Bk.1 z;omega)
def mkLC.hbel(a:List Tile×Int):AD 2000000 (mkLC.ca a)=true:=by simp[mkLC.ca,AD,AV.bel]
def mkLC.hbH(a:List Tile×Int):Av 2000000 (mkLC.H0 a)=true:=mI _ _ _ _ (by have:=FU a.1;omega)
def mkLC.hkH(a:List Tile×Int):BB 2000000 (mkLC.H0 a)=true:=by
 simp only[mkLC.H0,Dn,BB];rw[N6 _ _ _ _ (by have:=FU a.1;omega)];simp
def Iv(a:List Tile)(k:Int)(i j:Nat):Aj (Dn a k i) j=true↔j=0\/(2<=j/\j<2+nT a):=by
 simp only[Aj,Dn,hget,iM];by_cases h0:j=0
 .subst h0;simp
 .have:(0==j)=false:=by simpa using λh=>h0 h.symm
  rw[this];simp only[Bs];split
  .rename_i h;simp[h]
  .rename_i h;simp[h0];omega
def mkLC.hnm(a:List Tile×Int):BU (mkLC.H0 a) (mkLC.H0 a):=by
 simp only[mkLC.H0];have G: ∀m,(∃j,j<nT a.1/\m=2+j)->Aj (Dn a.1 a.2 0) m=true:=by
  rintro m ⟨j,O,rfl⟩;exact (Iv _ _ _ _).2 (.inr ⟨by omega,by omega⟩)
 conv=>arg 2;unfold Dn
 simp only[BU];refine⟨λm z=> ?_,ZX λi Z m z=>by simp[Fs,Ac.nms] at z⟩;simp only[Ac.nms] at z;obtain⟨r,Q,z⟩:=EU.1 z;obtain⟨j,O,rfl⟩:=Bn.1 Q;rw[ZY,BL] at z;exact G m ⟨j,Bk.1 O,z⟩
def MS(a:List Tile)(k:Int)(h:0<=k): ∀i j,i<=j->0<=Eb a k i/\Eb a k i<=Eb a k j:=by
 have pos: ∀i,0<=Eb a k i:=by
  intro i;induction i with
  |zero=>exact h
  |succ i ih=>simp only[Eb];omega
 intro i j z;refine⟨pos i,?_⟩;induction j with
 |zero=>have:i=0:=by omega
        subst this;exact NK _
 |succ j ih=>
  by_cases c:i=j+1
  .subst c;exact NK _
  .have:=ih (by omega)
   simp only[Eb];omega
def mD(s:Az)(b n:Nat)(f:Nat->Am):BZ s (AG b n f)= ∀i,i<n->hget s.h (b+i)=some (f i):=by
 have: ∀(l:List Nat),BZ s (l.map λi=>(b+i,f i))↔ ∀i∈l,hget s.h (b+i)=some (f i):=by
  intro l;induction l with
  |nil=>simp[BZ]
  |cons i r ih=>simp only[Bb,BZ,ih,Bt,zL]
 apply propext;rw[AG,this];simp only[Bk]
def aC(a:List Tile)(k:Int)(i j:Nat)(h:j<nT a):hget (Dn a k i) (2+j)=some (Fs a k i j):=by
 simp only[Dn,hget,AC _ _ (show 0≠2+j by omega),Bs];exact DY _ _ _ _ h
def qV:=J @mkText.q @mkText.fv.eq_1
def mkLC.ok:AI 65 mkLC.row:=by
 refine ow (tC mkText.ok (tC mkIC.ok tN)) Tryz.func65 (exB:=λ_=>false) (R:=λa r=>r=mkLC.r0 a) (λ_=>rfl)
  (λa=>⟨mkLC.hbel a,mkLC.hbH a,mkLC.hkH a,mkLC.hnm a⟩) (λa p hp=> ?_) (λa r h=>by subst h;exact Dh.refl _) ?_
 rotate_left
 intro a aa;simp only[Tryz.f65,Option.getD,mkLC.ca];simp(maxSteps:=9^9)(disch:=omega)only[ZZ,simprocAttr,Ab,qV,Ax,mkLC.ca];obtain⟨l,k⟩:=a;obtain⟨h1,h2,h3⟩:=aa;simp only at h1 h2 h3;have hn:nT l=l.length:=by simp only[nT];omega
 simp only[Bq,mkLC.H0,mkLC.H1];refine AY.old ⟨{i:Nat//i<=l.length},λi=>⟨[(5,.im (.int .i64 i.1)),(4,.im (.int .i64 0)),(0,.own 0),(1,.im (.int .i64 (Eb l k i.1)))],Dn l k i.1,2000000⟩,λi=>l.length - i.1,λi=>⟨?_,by simp⟩,⟨⟨0,by simp⟩,?_⟩,λi=> ?_⟩
 .simp only[Az.good,Cp,AV.bel,Ep,Ew];rw[mI _ _ _ _ (by omega)];simp only[Dn,BB];rw[N6 _ _ _ _ (by omega)];simp
 .simp only[sub];simp(maxSteps:=9^9)(disch:=omega)only[ZZ,simprocAttr,Ab,qV,Ax,mkLC.ca,sub,Eb]
  conv=>arg 2;unfold Dn
  simp only[BZ,mD];exact⟨rfl,λj z=>aC _ _ _ _ z⟩
 .obtain⟨i,ac⟩:=i;have hb:=MS l k h2 i l.length ac;have Q:((List.range (nT l)).map (Fq l k i)).length=l.length:=by simp[hn]
  simp only[Dn];simp(maxSteps:=9^9)(disch:=omega)only[ZZ,simprocAttr,Ab,qV,Ax,mkLC.ca,sub,AO,Q,Bq];intro _;refine⟨λZ=>⟨by omega,Z,Z,λx hx=> ?_⟩,λZ=> ?_⟩
  .obtain rfl:i=x:=by
    rw[FN (by omega)] at hx;exact AB hx
   have em:Fq l k i i=[.im (.str ((l[i]?.map Tile.Name).getD ByteArray.empty)),.own (2+i)]:=by simp[Fq,Jo]
   have G:((List.range (nT l)).map (Fq l k i)).set i [.im (.str (FG (Eb l k i))),.own (2+i)]=(List.range (nT l)).map (Fq l k (i+1)):=by
    apply QI;intro j;by_cases z:i=j
    .subst z;rw[DC (by rw[Q];exact Z),Dt,FN (by omega)];simp[Fq]
    .rw[DL z,Dt,Dt];cases hr:(List.range (nT l))[j]? with
     |none=>rfl
     |some y=>
      have hy:j=y:=by
       have hl:=(Cu.1 hr).1;simp at hl;rw[FN hl] at hr;exact AB hr
      subst hy;simp only[D7,Fq];by_cases c:j<i
      .rw[Ai c,Ai (by omega)]
      .rw[Af c,Af (by omega)]
   rw[em];simp only[Lg,Gf];have O:i<((List.range (nT l)).map (Fq l k i)).length:=by rw[Q];exact Z
   have hw:IntKind.i64.wrap (Eb l k i+1)=Eb l k i+1:=AA (by omega) (by omega);refine⟨by simp,?_,by rw[Fy];exact O,by rw[Fy];exact O,La (DC O) ?_⟩
   .rw[G,CM];intro r hr;obtain⟨j,z,rfl⟩:=Bn.1 hr;exact aH _ _ _ _ _ (by have:=Bk.1 z;omega)
   simp(maxSteps:=9^9)(disch:=omega)only[ZZ,simprocAttr,Ab,qV,Ax,mkLC.ca,sub,G,hw];have ab:=(MS l k h2 (i+1) l.length Z).2;simp only[Eb] at ab;refine⟨by omega,?_⟩;simp only[Bq];rw[Iw 2 (nT l) (Fs l k i) [0] (by simp)];refine AL.os (fU l i,Eb l k i+1) [2+i] ⟨by simp only;omega,by simp only;omega⟩ (λj=> ?_) rfl ?_ ?_ ?_
   .simp only[Aj,mkIC.H0,hget];by_cases z:j=0
    .subst z;simp
    .have:(0==j)=false:=by simpa using λh=>z h.symm
     rw[this];simp;omega
   .simp only[Zd,Ep,Ed];omega
   .refine⟨by simp[mkIC.ca,AH,AV.ren,B0,IY],?_,trivial⟩;have e:B0 (IY [2+i]) 1 2000000 0=2+i:=by simp[B0,IY]
    rw[e]
    have:=aC l k i i (by omega)
    simp only[Dn,Fs,hget,AC _ _ (show 0≠2+i by omega),Bs] at this;simp only[hget,AC _ _ (show 0≠2+i by omega),Bs];rw[DY _ _ _ _ (by omega)];simp[Fs,Ac.ren]
   simp(maxSteps:=9^9)(disch:=omega)only[ZZ,simprocAttr,Ab,qV,Ax,mkLC.ca,mkIC.H1,sub,Bq,AC,Lb,EF,Eb];refine⟨.inr (by omega),⟨i+1,by omega⟩,by simp only;omega,⟨by rw[AA (by omega) (by omega)];simp only;omega,rfl⟩,rfl,?_⟩;rw[mD];intro j z;by_cases ag:j=i
   .subst ag;simp[hget,Fs]
   .simp only[hget,AC _ _ (show 2+i≠2+j by omega),AC _ _ (show 0≠2+j by omega),Bs];rw[Jv _ _ _ (by omega),DY _ _ _ _ z];simp only[Fs];by_cases c:j<i
    .rw[Ai c,Ai (by omega)]
    .rw[Af c,Af (by omega)]
  .have ad:i=l.length:=by omega
   subst ad;have kx: ∀j,j<nT l->GU ((0,(true,Ac.arrA 98 2 (List.map (Fq l k 0) (List.range (nT l)))))::AG 2 (nT l) (Fs l k 0)) 2000000 0 (λ_=>false) (2+j)=some (2+j):=by
    intro j z
    have:=(Iv l k 0 (2+j)).2 (.inr ⟨by omega,by omega⟩)
    simp only[Dn] at this;simp only[GU,this,jF,BV]
   refine⟨?_,rfl,?_,?_⟩
   .have: ∀(h:Nat->Option Am) (H:Ao),HT h (λ_=>true) H:=by
     intro h H;induction H with
     |nil=>trivial
     |cons x r ih=>obtain⟨j,e⟩:=x;exact⟨trivial,ih⟩
    exact this _ _
   .rw[show Fq l k (nT l)=Fq l k l.length by rw[hn]];rw[Vb (g:=Fq l k l.length) (k:=Fq l k l.length) _ (λj z=> ?_)]
    .rfl
    .have af:=Bk.1 z;simp only[Fq,Ai (show j<l.length by omega),Aq,Bd,kx j af,kp]
   .refine JL _ _ _ _ _ (λj z=> ?_) (λj z=>rfl);simp only[hget,AC _ _ (show 0≠2+j by omega),Bs];rw[DY _ _ _ _ z,hn]
 refine .inl ?_;have ah:p.1=0\/(2<=p.1/\p.1<2+nT a.1):=by
  simp only[mkLC.H1,Dn,Bt,AG,Bn,Bk] at hp;rcases hp with rfl|⟨j,z,rfl⟩
  .exact .inl rfl
  .exact .inr ⟨by simp only;omega,by simp only;omega⟩
 have:=FU a.1
 exact⟨by omega,rfl,(Iv _ _ _ _).2 ah⟩
def O0{H:Ao}{j:Nat}:j∈Fc H↔Aj H j=true:=by
 induction H with
 |nil=>simp[Fc,Aj,hget]
 |cons e r ih=>
  obtain⟨i,e⟩:=e;simp only[Fc,Bt,Aj,hget];by_cases z:i=j
  .subst z;simp
  .have:(i==j)=false:=by simpa using z
   rw[this];simp only[Bs];exact⟨λh=>ih.1 (h.resolve_left λh=>z h.symm),λh=> .inr (ih.2 h)⟩
mutual
def ZW{n:Nat}: ∀x:AV,(∀m∈x.nms,m<n)->x.bel n=true
 | .any,_=>rfl
 | .im _,_=>rfl
 | .agg z,h=>by simp only[AV.nms] at h;simp only[AV.bel];exact JK z h
 | .tup z,h=>by simp only[AV.nms] at h;simp only[AV.bel];exact JK z h
 | .ptr o _,h=>by simp only[AV.bel,Ed];exact h o (by simp[AV.nms])
 | .eptr o _ _,h=>by simp only[AV.bel,Ed];exact h o (by simp[AV.nms])
 | .own o,h=>by simp only[AV.bel,Ed];exact h o (by simp[AV.nms])
 | .mp o,h=>by simp only[AV.bel,Ed];exact h o (by simp[AV.nms])
 | .ch o,h=>by simp only[AV.bel,Ed];exact h o (by simp[AV.nms])
 | .it o,h=>by simp only[AV.bel,Ed];exact h o (by simp[AV.nms])
 | .osl o _ _,h=>by simp only[AV.bel,Ed];exact h o (by simp[AV.nms])
 | .clo _ a c,h=>by
   simp only[AV.nms,Bz] at h;simp only[AV.bel,JK a λm G=>h m (.inl G),JK c λm G=>h m (.inr G),dT]
def JK{n:Nat}: ∀xs:List AV,(∀m∈Aw xs,m<n)->AD n xs=true
 |[],_=>rfl
 |x::r,h=>by
  simp only[Aw,Bz] at h;simp only[AD,ZW x λm z=>h m (.inl z),JK r λm z=>h m (.inr z),dT]
end
def lR{n:Nat}: ∀H:Ao,(∀p∈H,∀m∈p.2.2.nms,m<n)->Av n H=true
 |[],_=>rfl
 |(i,(Q,e))::r,h=>by
  have z:=h _ (BQ ..);have ih:=lR r λp hp=>h p (BK _ hp)
  cases e with
  |cells T G=>simp only[Av,ih,Ep];exact JK G (by simpa[Ac.nms] using z)
  |arrA T k rows=>
   simp only[Av,ih,Ep,CM];refine λq hq=>JK q λm O=>z m ?_
   simp only[Ac.nms];exact EU.2 ⟨q,hq,O⟩
  |_=>simp only[Av,ih]
mutual
def aI(σ:Nat->Nat): ∀x:AV,(x.ren σ).nms=x.nms.map σ
 | .any=>rfl
 | .im _=>rfl
 | .agg z=>by simp only[AV.ren,AV.nms];exact JM σ z
 | .tup z=>by simp only[AV.ren,AV.nms];exact JM σ z
 | .ptr o _=>rfl
 | .eptr o _ _=>rfl
 | .own o=>rfl
 | .mp o=>rfl
 | .ch o=>rfl
 | .it o=>rfl
 | .osl o _ _=>rfl
 | .clo _ a c=>by simp only[AV.ren,AV.nms,JM σ a,JM σ c,En]
def JM(σ:Nat->Nat): ∀xs:List AV,Aw (AH σ xs)=(Aw xs).map σ
 |[]=>rfl
 |x::r=>by simp only[AH,Aw,aI σ x,JM σ r,En]
end
def Qafh(σ:Nat->Nat)(e:Ac): ∀m∈(e.ren σ).nms,∃j∈e.nms,m=σ j:=by
 intro m z;cases e with
 |cells T Q=>
  simp only[Ac.ren,Ac.nms,JM,Bn] at z⊢;obtain⟨j,G,rfl⟩:=z;exact⟨j,G,rfl⟩
 |arrA T k rows=>
  simp only[Ac.ren,Ac.nms] at z⊢;obtain⟨r,O,z⟩:=EU.1 z;obtain⟨q,hq,rfl⟩:=Bn.1 O;rw[JM,Bn] at z;obtain⟨j,G,rfl⟩:=z;exact⟨j,EU.2 ⟨q,hq,G⟩,rfl⟩
 |_=>simp[Ac.ren,Ac.nms] at z
def mA{σ:Nat->Nat}{N:Nat}(H:Ao)(h: ∀p∈H,∀m∈p.2.2.nms,σ m<N):Av N (AX σ H)=true:=by
 refine lR _ ?_;induction H with
 |nil=>intro p hp;cases hp
 |cons x r ih=>
  obtain⟨i,O,e⟩:=x;intro p hp m z;rcases Bt.1 hp with rfl|hp
  .obtain⟨j,G,rfl⟩:=Qafh σ e m z;exact h _ (BQ ..) j G
  .exact ih (λp hp=>h p (BK _ hp)) p hp m z
def AL.tau{A:Type}{ca:A->List AV}{H0:A->Ao}{k:Nat}{pre:A->Prop}{klB:Nat->Bool}{r0:A->AV}{H1:A->Ao}{args:List AV}{tm:List (Nat×AV)}{h:Ao}{nx:Nat}{dst:Option Nat}{go:Az->Prop}(a:A)(τ:Nat->Nat)(ac:pre a)(ai: ∀j,Aj (H0 a) j=true->klB j=true)
 (hd: ∀j,Aj (H0 a) j=true->j<k/\τ j<nx)(aa: ∀i j,Aj (H0 a) i=true->Aj (H0 a) j=true->τ i=τ j->i=j)
 (hcl: ∀p∈H1 a,Aj (H0 a) p.1=true/\ ∀m∈p.2.2.nms,Aj (H0 a) m=true)
 (hx:args=AH (B0 τ k nx) (ca a)/\D5 (hget h) (B0 τ k nx) (H0 a))
 (hb: ∀m∈(r0 a).nms,Aj (H0 a) m=true)
 (ag: ∀HH:Ao,(∀j e,hget (H1 a) j=some e->hget HH (τ j)=some (e.1,e.2.ren (B0 τ k nx)))->(∀m,(∀j,Aj (H0 a) j=true->τ j≠m)->hget HH m=hget h m)->go ((⟨tm,HH,nx⟩:Az).put dst ((r0 a).ren (B0 τ k nx)))):
 AL ca H0 k pre klB r0 H1 0 args (hget h) nx (Ez go ⟨tm,h,nx⟩ dst):=by
 have hσ: ∀j,Aj (H0 a) j=true->B0 τ k nx j=τ j:=λj z=>Ai (hd j z).1
 have ah: ∀i j,Aj (H0 a) i=true->Aj (H0 a) j=true->B0 τ k nx i=B0 τ k nx j->i=j:=λi j hi z h=>aa i j hi z (by rwa [hσ i hi,hσ j z] at h)
 have G: ∀m,m∈(Fc (H0 a)).map τ↔ ∃j,Aj (H0 a) j=true/\τ j=m:=λm=>by simp only[Bn,O0]
 have Q: ∀p∈H1 a,Aj (H0 a) p.1=true:=λp hp=>(hcl p hp).1
 refine⟨a,τ,(Fc (H0 a)).map τ,(Fc (H0 a)).map τ,ac,hx.1,hx.2,⟨aa,λj z=>(hd j z).2,λj z=>(G _).2 ⟨j,z,rfl⟩,λm Z=> ?_,λj z _=>(G _).2 ⟨j,z,rfl⟩⟩,?_⟩
 .obtain⟨j,z,rfl⟩:=(G m).1 Z;exact⟨j,z,ai j z,rfl⟩
 refine⟨?_,?_⟩
 .have ad:((r0 a).ren (B0 τ k nx)).bel nx=true:=by
   refine ZW _ λm Z=> ?_
   rw[aI,Bn] at Z;obtain⟨j,z,rfl⟩:=Z;rw[hσ j (hb j z)];exact (hd j (hb j z)).2
  have af:Av nx (AX (B0 τ k nx) (H1 a))=true:=mA _ λp hp m Z=>by
   have:=(hcl p hp).2 m Z
   rw[hσ m this];exact (hd m this).2
  rw[Bv.ok_nr,FO,ad,af,Ew,Ew]
  have: ∀H:Ao,(∀p∈H,Aj (H0 a) p.1=true)->Hi ((Fc (H0 a)).map τ) nx 0 (AX (B0 τ k nx) H)=true:=by
   intro H;induction H with
   |nil=>intro _;rfl
   |cons e r ih=>
    obtain⟨i,mu,e⟩:=e;intro hp;have O:=hp _ (BQ ..);simp only at O;simp only[AX,Hi,JO,AW,H8,Gi,Ed];refine⟨.inr ⟨?_,?_⟩,ih λp h=>hp p (BK _ h)⟩
    .rw[IC,hσ i O];exact (G _).2 ⟨i,O,rfl⟩
    .rw[hσ i O];exact (hd i O).2
  exact this _ Q
 rw[Az.app_nr,FO];refine ag _ (λj e he=> ?_) (λm Z=> ?_)
 .have z:Aj (H0 a) j=true:=by
   have: ∀H:Ao,hget H j=some e-> ∃p∈H,p.1=j:=by
    intro H;induction H with
    |nil=>intro h;cases h
    |cons x r ih=>
     obtain⟨i,x⟩:=x;intro h;by_cases ab:i=j
     .exact⟨_,BQ ..,ab⟩
     .have hb:(i==j)=false:=by simpa using ab
      simp only[hget,hb,Bs] at h;obtain⟨p,O,h2⟩:=ih h;exact⟨p,BK _ O,h2⟩
   obtain⟨p,O,rfl⟩:=this _ he;exact Q p O
  rw[PB,<-hσ j z,Qv5 (D:=λj=>Aj (H0 a) j=true) ah (H1 a) Q j z,he];rfl
 .rw[PB];cases hq:hget (AX (B0 τ k nx) (H1 a)) m with
  |some e=>
   obtain⟨j,e0,O,h2,_⟩:=qO hq;have z:=Q _ O;rw[hσ j z] at h2;exact absurd h2 (Z j z)
  |none=>
   rw[Wb,Af]
   .rfl
   .rw[IC];intro h;obtain⟨j,z,h2⟩:=(G m).1 h;exact Z j z h2
def mH{go:Az->Prop}{tm:List (Nat×AV)}{h:Ao}{nx:Nat}{dst:Option Nat}{σ:Nat->Nat}(hσ: ∀j,σ j=nx+j){r0:AV}{H1:Ao}{cnt:Nat}{u kl:List Nat}(aa:kl=[])
 (hcl: ∀p∈H1,p.1<cnt/\ ∀m∈p.2.2.nms,m<cnt)(hb: ∀m∈r0.nms,m<cnt)
 (Z: ∀G:Ao,(∀j e,hget H1 j=some e->hget G (nx+j)=some (e.1,e.2.ren σ))->(∀m,m<nx->hget G m=hget h m)->go ((⟨tm,G,nx+cnt⟩:Az).put dst (r0.ren σ))):
 Ez go ⟨tm,h,nx⟩ dst (r0.ren σ) {use:=u,kill:=kl,new:=AX σ H1,cnt:=cnt}:=by
 subst aa;refine⟨?_,?_⟩
 .have O:(r0.ren σ).bel (nx+cnt)=true:=by
   refine ZW _ λm z=> ?_
   rw[aI,Bn] at z;obtain⟨j,hj,rfl⟩:=z
   have:=hb j hj
   rw[hσ];omega
  have Q:Av (nx+cnt) (AX σ H1)=true:=mA _ λp hp m z=>by
   have:=(hcl p hp).2 m z
   rw[hσ];omega
  rw[Bv.ok_nr,O,Q,Ew,Ew];refine V9 _ _ _ _ λp hp=> ?_
  have: ∀H:Ao,(∀p∈H,p.1<cnt)-> ∀p∈AX σ H,nx<=p.1/\p.1<nx+cnt:=by
   intro H;induction H with
   |nil=>intro _ p hp;cases hp
   |cons x r ih=>
    obtain⟨i,mu,e⟩:=x;intro hx p hp;have h1:=hx _ (BQ ..);simp only at h1;simp only[AX,Bt] at hp;rcases hp with rfl|hp
    .simp only;rw[hσ];omega
    .exact ih (λp h=>hx p (BK _ h)) p hp
  exact this _ (λp hp=>(hcl p hp).1) p hp
 rw[Az.app_nr,Bq];refine Z _ (λj e he=> ?_) (λm z=> ?_)
 .rw[PB,<-hσ j,mE (λi j h=>by rw[hσ,hσ] at h;omega),he];rfl
 .rw[PB];cases hq:hget (AX σ H1) m with
  |some e=>
   obtain⟨j,e0,_,h2,_⟩:=qO hq;rw[hσ] at h2;omega
  |none=>rfl
def AL.nw{A:Type}{ca:A->List AV}{H0:A->Ao}{pre:A->Prop}{klB:Nat->Bool}{r0:A->AV}{H1:A->Ao}{cnt:Nat}{args:List AV}{tm:List (Nat×AV)}{h:Ao}{nx:Nat}{dst:Option Nat}{Q:Az->Prop}(a:A)(z:pre a)(h0:H0 a=[])
 (hx:args=AH (λj=>nx+j) (ca a))(hcl: ∀p∈H1 a,p.1<cnt/\ ∀m∈p.2.2.nms,m<cnt)(Z: ∀m∈(r0 a).nms,m<cnt)
 (O: ∀G:Ao,(∀j e,hget (H1 a) j=some e->hget G (nx+j)=some (e.1,e.2.ren λj=>nx+j))->(∀m,m<nx->hget G m=hget h m)->Q ((⟨tm,G,nx+cnt⟩:Az).put dst ((r0 a).ren λj=>nx+j))):
 AL ca H0 0 pre klB r0 H1 cnt args (hget h) nx (Ez Q ⟨tm,h,nx⟩ dst):=by
 have e:B0 (IY []) 0 nx=λj=>nx+j:=funext λj=>by simp[B0]
 refine AL.os a [] z (λj=>by rw[h0];simp[Aj,hget]) rfl rfl ⟨by rw[e];exact hx,by rw[h0];trivial⟩ ?_;rw[e];exact mH (λ_=>rfl) rfl hcl Z O
def EV.nw{A:Type}{ar:List PK->Option A}{pre:A->Prop}{r0:A->AV}{H1:A->Ao}{cnt:Nat}{args:List AV}{tm:List (Nat×AV)}{h:Ao}{nx:Nat}{dst:Option Nat}{Z:Az->Prop}(ps:List PK)(Q:BR (hget h) args=some ps)(a:A)(ha:ar ps=some a)(z:pre a)
 (hcl: ∀p∈H1 a,p.1<cnt/\ ∀m∈p.2.2.nms,m<cnt)(hb: ∀m∈(r0 a).nms,m<cnt)
 (O: ∀G:Ao,(∀j e,hget (H1 a) j=some e->hget G (nx+j)=some (e.1,e.2.ren λj=>nx+j))->(∀m,m<nx->hget G m=hget h m)->Z ((⟨tm,G,nx+cnt⟩:Az).put dst ((r0 a).ren λj=>nx+j))):
 EV ar pre r0 H1 cnt args (hget h) nx (Ez Z ⟨tm,h,nx⟩ dst):=by
 have e:B0 (λj=>j) 0 nx=λj=>nx+j:=funext λj=>by simp[B0]
 unfold EV;rw[Q];simp only[JS,ha,DE];rw[e];exact⟨z,mH (λ_=>rfl) rfl hcl hb O⟩
def vF.call{A:Type}{ar:List PK->Option A}{pre:A->Prop}{re:A->D}{args:List AV}{tm:List (Nat×AV)}{h:Ao}{nx:Nat}{dst:Option Nat}{Q:Az->Prop}(ps:List PK)(O:BR (hget h) args=some ps)(a:A)(Z:ar ps=some a)(z:pre a)
 (G:Q ((⟨tm,h,nx⟩:Az).put dst (.im (re a)))):Q3 ar pre re args (hget h) nx (Ez Q ⟨tm,h,nx⟩ dst):=by
 unfold Q3;rw[O];simp only[UQ,Z,DE];refine⟨z,?_,?_⟩
 .rw[Bv.ok_nr];simp[AV.bel,Av,Hi]
 .rw[Az.app_nr,Bq,FO];exact G
def Ho(G:List Ad)(rows:List (List AV))(n:Nat)(f:Nat->Am):Ao:=(0,(true,.arr 108 2 (G.map Ad.c)))::(1,(true,.arrA 98 2 rows))::AG 2 n f
def Ix(G:List Ad)(rows:List (List AV))(n:Nat)(f:Nat->Am)(j:Nat):Aj (Ho G rows n f) j=true↔j<2+n:=by
 simp only[Aj,Ho,hget,iM];by_cases h0:j=0
 .subst h0;simp;omega
 by_cases z:j=1
 .subst z;simp;omega
 rw[AC _ _ (λh=>h0 h.symm),AC _ _ (λh=>z h.symm)];simp only[Bs];split
 .rename_i h;simp;omega
 .rename_i h;simp;omega
def gC{G:List Ad}{rows:List (List AV)}{n:Nat}{f:Nat->Am}{p:Nat×Am}(hp:p∈Ho G rows n f):p.1<2+n:=by
 simp only[Ho,Bt,AG,Bn,Bk] at hp;rcases hp with rfl|rfl|⟨j,z,rfl⟩<;>simp only<;>omega
def CZ(a:List Tile)(k:Int)(i:Nat):List (List AV):=(List.range (nT a)).map (Fq a k i)
def U3(a:List Tile)(k:Int)(i N:Nat)(h:2+nT a<=N):(CZ a k i).all (AD N)=true:=by
 rw[CM];intro r G;obtain⟨j,z,rfl⟩:=Bn.1 G;exact aH _ _ _ _ _ (by have:=Bk.1 z;omega)
def Yu(a:List Tile)(k:Int)(i j:Nat)(σ:Nat->Nat)(h:σ (2+j)=2+j):AH σ (Fq a k i j)=Fq a k i j:=by
 simp only[Fq]
 split<;>simp[Jo,AH,AV.ren,h]
def V8(a:List Tile)(k:Int)(i:Nat)(σ:Nat->Nat)(h: ∀j,j<nT a->σ (2+j)=2+j):(CZ a k i).map (AH σ)=CZ a k i:=by
 rw[CZ,Km];exact Ii λj z=>Yu _ _ _ _ _ (h j (Bk.1 z))
def MP{G:List Ad}{a:List Tile}{k:Int}{i N:Nat}{f:Nat->Am}(h:2+nT a<=N)(hf: ∀i,Av N [(2+i,f i)]=true):Av N (Ho G (CZ a k i) (nT a) f)=true:=by
 simp only[Ho,Av];rw[N9 _ _ _ hf,U3 _ _ _ _ h];rfl
def mG{G:List Ad}{a:List Tile}{k:Int}{i N:Nat}{f:Nat->Am}(h:2+nT a<=N):BB N (Ho G (CZ a k i) (nT a) f)=true:=by
 simp only[Ho,BB];rw[N6 _ _ _ _ (by omega)];simp;omega
def aJ{G:List Ad}{a:List Tile}{k:Int}{i:Nat}{f:Nat->Am}(hf: ∀j,(f j).2.nms=[]){p:Nat×Am}(hp:p∈Ho G (CZ a k i) (nT a) f){m:Nat}(z:m∈p.2.2.nms):m<2+nT a:=by
 simp only[Ho,Bt,AG,Bn,Bk] at hp;rcases hp with rfl|rfl|⟨j,O,rfl⟩
 .simp[Ac.nms] at z
 .simp only[Ac.nms] at z;obtain⟨r,Q,z⟩:=EU.1 z;obtain⟨j,O,rfl⟩:=Bn.1 Q;rw[ZY,BL] at z
  have:=Bk.1 O
  omega
 .rw[hf] at z;cases z
def aD{H0:Ao}: ∀{H:Ao},(∀p∈H,∀m∈p.2.2.nms,Aj H0 m=true)->BU H0 H
 |[],_=>trivial
 |(_,(_,_))::r,h=>⟨h _ (BQ ..),aD λp hp=>h p (BK _ hp)⟩
def DK(a:Au×Int):Int:=a.2+2*a.1.Glues.length
def mkTS.ca(a:Au×Int):List AV:=[.agg [.own 0,.own 1],.im (.int .i64 a.2)]
def mkTS.H0(a:Au×Int):Ao:=Ho a.1.Glues (CZ a.1.Tiles (DK a) 0) (nT a.1.Tiles) (Fs a.1.Tiles (DK a) 0)
def mkTS.H1(a:Au×Int):Ao:=Ho (Ft (gF a.2) a.1.Glues.length) (CZ a.1.Tiles (DK a) (nT a.1.Tiles)) (nT a.1.Tiles) (Fs a.1.Tiles (DK a) (nT a.1.Tiles))
def mkTS.r0(a:Au×Int):AV:= .im (.int .i64 (Eb a.1.Tiles (DK a) a.1.Tiles.length))
def mkTS.pre(a:Au×Int):Prop:=0<=a.2/\a.1.Tiles.length<=1048576/\Eb a.1.Tiles (DK a) a.1.Tiles.length<=1099511627776
def mkTS.row:AE:=AL mkTS.ca mkTS.H0 2000000 mkTS.pre (λ_=>true) mkTS.r0 mkTS.H1 0
def mkTS.hbel(a:Au×Int):AD 2000000 (mkTS.ca a)=true:=by simp[mkTS.ca,AD,AV.bel]
def mkTS.hbH(a:Au×Int):Av 2000000 (mkTS.H0 a)=true:=MP (by have:=FU a.1.Tiles;omega) (λi=>by simp[Av,Fs])
def mkTS.hkH(a:Au×Int):BB 2000000 (mkTS.H0 a)=true:=mG (by have:=FU a.1.Tiles;omega)
def mkTS.hnm(a:Au×Int):BU (mkTS.H0 a) (mkTS.H0 a):=
 aD λp hp m z=>(Ix _ _ _ _ _).2 (aJ (λj=>by simp[Fs,Ac.nms]) hp z)
def aB(h:Nat->Option Am): ∀(H:Ao),HT h (λ_=>true) H
 |[]=>trivial
 |(j,e)::r=>⟨trivial,aB h r⟩
def LU{H0:Ao}{k cnt:Nat}{exB:Nat->Bool}{j:Nat}(h:Aj H0 j=true):GU H0 k cnt exB j=some j:=by
 simp only[GU,h,jF,BV]
def Yt{h:Nat->Option Am}{kx:Nat->Option Nat}{m:Nat}{a:List Tile}{k:Int}{i j:Nat}(z:kx (2+j)=some (2+j)):Aq (Bd h kx (m+1)) (Fq a k i j)=some (Fq a k i j):=by
 simp only[Fq]
 split<;>simp only[Jo,Aq,Bd,z,kp]
def mF{h:Nat->Option Am}{kx:Nat->Option Nat}{m:Nat}{a:List Tile}{k:Int}{i:Nat}(G: ∀j,j<nT a->kx (2+j)=some (2+j)):Aq (Aq (Bd h kx (m+1))) (CZ a k i)=some (CZ a k i):=
 Vb _ λj z=>Yt (G j (Bk.1 z))
def mkLC.hcl(a:List Tile×Int): ∀p∈mkLC.H1 a,Aj (mkLC.H0 a) p.1=true/\ ∀m∈p.2.2.nms,Aj (mkLC.H0 a) m=true:=by
 intro p hp;simp only[mkLC.H0,Iv];simp only[mkLC.H1,Dn,Bt,AG,Bn,Bk] at hp;rcases hp with rfl|⟨j,G,rfl⟩
 .refine⟨.inl rfl,λm z=> ?_⟩;simp only[Ac.nms] at z;obtain⟨r,O,z⟩:=EU.1 z;obtain⟨j,G,rfl⟩:=Bn.1 O;rw[ZY,BL] at z
  have:=Bk.1 G
  exact .inr ⟨by omega,by omega⟩
 .exact⟨.inr ⟨by simp only;omega,by simp only;omega⟩,λm z=>by simp[Fs,Ac.nms] at z⟩
def mkTS.hcl(a:Au×Int): ∀p∈mkTS.H1 a,Aj (mkTS.H0 a) p.1=true/\ ∀m∈p.2.2.nms,Aj (mkTS.H0 a) m=true:=
 λp hp=>⟨(Ix _ _ _ _ _).2 (gC hp),λm z=>(Ix _ _ _ _ _).2 (aJ (λj=>by simp[Fs,Ac.nms]) hp z)⟩
def mkTS.ok:AI 29 mkTS.row:=by
 refine ow (tC mkGC.ok (tC mkLC.ok tN)) Tryz.func29 (exB:=λ_=>false) (R:=λa r=>r=mkTS.r0 a) (λ_=>rfl)
  (λa=>⟨mkTS.hbel a,mkTS.hbH a,mkTS.hkH a,mkTS.hnm a⟩) (λa p hp=> ?_) (λa r h=>by subst h;exact Dh.refl _) ?_
 rotate_left
 intro a Q;simp only[Tryz.f29,Option.getD,mkTS.ca];simp only[ZZ,simprocAttr,Ab,Ax,mkTS.ca];obtain⟨S,k⟩:=a;obtain⟨h1,h2,h3⟩:=Q;simp only at h1 h2 h3;have hk:=MS S.Tiles (DK (S,k)) (by simp only[DK];omega) 0 S.Tiles.length (by omega);have O:DK (S,k)<=1099511627776:=by simp only[Eb] at hk;omega
 simp only[DK] at O;have hn:=FU S.Tiles;simp only[Bq,mkTS.H0,Ho];refine AL.os (S.Glues,k) [0] ⟨h1,O⟩ (λj=> ?_) rfl rfl ?_ ?_
 .simp only[Aj,mkGC.H0,hget];by_cases z:j=0
  .subst z;simp
  .have:(0==j)=false:=by simpa using λh=>z h.symm
   rw[this];simp;omega
 .simp only[ZZ,simprocAttr,Ab,Ax,mkTS.ca,mkGC.ca,mkGC.H0,D5,EF]
  try exact⟨rfl,rfl⟩
 simp only[ZZ,simprocAttr,Ab,Ax,mkTS.ca,mkGC.H1,sub,Bq,EF,GQ];rw[Iw 2 (nT S.Tiles) (Fs S.Tiles (DK (S,k)) 0) [0] (by simp)];have hσ: ∀j,j<nT S.Tiles->B0 (λj=>if j=0 then 1 else j) 2000000 2000001 (2+j)=2+j:=λj z=>by
  simp only[B0];rw[Ai (by omega),Af (by omega)]
 have hσ0:B0 (λj=>if j=0 then 1 else j) 2000000 2000001 0=1:=rfl;refine AL.tau (S.Tiles,DK (S,k)) (λj=>if j=0 then 1 else j) ⟨h2,by simp only[DK];omega,h3⟩ (λ_ _=>rfl) (λj z=> ?_) (λi j G z h=> ?_) (mkLC.hcl _) ⟨?_,?_⟩ (by simp[mkLC.r0,AV.nms]) (λZ hH1 aa=> ?_)
 .have z:=(Iv _ _ _ _).1 z;simp only at z⊢
  split<;>omega
 .have G:=(Iv _ _ _ _).1 G;have z:=(Iv _ _ _ _).1 z;simp only at G z h;split at h<;>split at h<;>omega
 .simp only[mkLC.ca,AH,AV.ren,hσ0,DK]
 .simp only[mkLC.H0,Dn,D5,hσ0,Ac.ren];refine⟨?_,Nw λi G=> ?_⟩
  .simp only[hget,AC _ _ (show 0≠1 by omega),AC _ _ (show 2000000≠1 by omega),Bs,rF,BV];rw[<-CZ,V8 _ _ _ _ hσ]
  .rw[hσ i G];simp only[hget,AC _ _ (show 0≠2+i by omega),AC _ _ (show 2000000≠2+i by omega),AC _ _ (show 1≠2+i by omega),Bs];rw[DY _ _ _ _ G];rfl
 have g0:hget Z 0=some (true,.arr 108 2 ((Ft (gF k) S.Glues.length).map Ad.c)):=by
  rw[aa 0 (λj z=>by
   have z:=(Iv _ _ _ _).1 z;simp only at z⊢
   split<;>omega)]
  rfl
 have g1:hget Z 1=some (true,.arrA 98 2 (CZ S.Tiles (DK (S,k)) (nT S.Tiles))):=by
  have g:=hH1 0 _ rfl;rw[Ai rfl] at g;rw[g];simp only[Ac.ren];rw[<-CZ,V8 _ _ _ _ hσ]
 have g2: ∀j,j<nT S.Tiles->hget Z (2+j)=some (Fs S.Tiles (DK (S,k)) (nT S.Tiles) j):=λj z=>by
  have:=hH1 (2+j) _ (aC _ _ _ j z)
  simp only[Af (show 2+j≠0 by omega)] at this;rw[this];rfl
 simp only[mkLC.r0,AV.ren];simp only[ZZ,simprocAttr,Ab,Ax,mkTS.ca,sub,mkTS.r0,DK,Bq,mkTS.H1,Ho];have ab: ∀j,j<nT S.Tiles->Aj ((0,(true,Ac.arr 108 2 (List.map Ad.c S.Glues)))::(1,(true,Ac.arrA 98 2 (CZ S.Tiles (k+2*S.Glues.length) 0)))::AG 2 (nT S.Tiles) (Fs S.Tiles (k+2*S.Glues.length) 0)) (2+j)=true:=λj z=>(Ix _ _ _ _ _).2 (by omega)
 refine⟨aB _ _,?_,?_,?_⟩
 .rw[g0];exact⟨rfl,rfl⟩
 .rw[g1];refine⟨rfl,?_⟩;simp only[Cd];rw[mF (λj z=>LU (ab j z))];rfl
 .exact JL _ _ _ _ _ (λj z=>g2 j z) (λj z=>rfl)
 obtain⟨q1,_⟩:=mkTS.hcl _ p hp
 have:=(Ix _ _ _ _ _).1 q1
 have:=FU a.1.Tiles
 exact .inl ⟨by omega,rfl,q1⟩
def Ws{n:Nat}{l:Int}(h:0<=Cs n l):(n:Int)<=l/\Cs n l<=l/\0<=l:=by
 simp only[Cs] at h⊢;split at h
 .omega
 .rename_i c;rw[Af c];omega
def Qu5: ∀(a:List Tile) (l:Int),0<=l->l<=1048576->0<=Gd Fv a l-> ∀x∈a,x.Sides.length<=1073741824
 |[],_,_,_,_=>by intro x z;cases z
 |y::r,l,h0,Q,h=>by
  simp only[Gd] at h;split at h
  .omega
  .rename_i c;have G:0<=Fv y l:=by omega
   have O:0<=Cs y.Name.size l:=by
    simp only[Fv] at G;split at G
    .omega
    .omega
   have e:Fv y l=Cs y.Sides.length (Cs y.Name.size l):=by
    simp only[Fv];rw[Af (by omega)]
   rw[e] at G h;obtain⟨a1,a2,a3⟩:=Ws G;obtain⟨b1,b2,b3⟩:=Ws O;intro x z;rcases Bt.1 z with rfl|z
   .omega
   .exact Qu5 r _ G (by omega) h x z
def Ux{s:Au}{l:Int}(Q: -1<=l)(Z:l<=1048576)(h:0<=PC s l):Ue s:=by
 have hg:=wM s.Glues l Q;simp only[PC] at h;split at h
 .omega
 rename_i c;have z:0<=He s.Glues l:=by omega
 have O:0<=Cs s.Glues.length l:=by
  simp only[He] at z;split at z
  .omega
  .omega
 have G:0<=Cs s.Tiles.length (He s.Glues l):=by
  simp only[KX] at h;split at h
  .omega
  .omega
 have e:KX s.Tiles (He s.Glues l)=Gd Fv s.Tiles (Cs s.Tiles.length (He s.Glues l)):=by
  simp only[KX];rw[Af (by omega)]
 rw[e] at h;obtain⟨a1,a2,a3⟩:=Ws O;obtain⟨b1,b2,b3⟩:=Ws G;exact⟨by omega,by omega,Qu5 s.Tiles _ G (by omega) h⟩
def Uy{s:AF}{l:Int}(G: -1<=l)(z:l<=1048576)(h:0<=Wr s l):ZD s:=by
 have O:=xV s.Set l G;simp only[Wr] at h;split at h
 .omega
 rename_i c;obtain⟨a1,a2,a3⟩:=Ws h;exact⟨Ux G z (by omega),by omega⟩
def syK(a:AF×Int):Int:=Eb a.1.Set.Tiles (DK (a.1.Set,a.2)) a.1.Set.Tiles.length
def mkSy.ca(a:AF×Int):List AV:=[.agg [.own 0,.own 1,.own 2000000,.im (.int .i64 a.1.Temperature)],.im (.int .i64 a.2)]
def mkSy.H0(a:AF×Int):Ao:=(2000000,(true,.arr 89 3 (a.1.Seed.Tiles.map Al.c)))::mkTS.H0 (a.1.Set,a.2)
def mkSy.H1(a:AF×Int):Ao:=(2000000,(true,.arr 89 3 ((Ft (pF (syK a)) a.1.Seed.Tiles.length).map Al.c)))::mkTS.H1 (a.1.Set,a.2)
def mkSy.r0(a:AF×Int):AV:= .im (.int .i64 (syK a+3*a.1.Seed.Tiles.length))
def mkSy.pre(a:AF×Int):Prop:=0<=a.2/\a.1.Set.Tiles.length<=1048576/\syK a+3*a.1.Seed.Tiles.length<=1099511627776
def mkSy.row:AE:=AL mkSy.ca mkSy.H0 2000001 mkSy.pre (λ_=>true) mkSy.r0 mkSy.H1 0
def mkSy.dom0(a:AF×Int)(j:Nat):Aj (mkSy.H0 a) j=true↔j=2000000\/j<2+nT a.1.Set.Tiles:=by
 by_cases h:j=2000000
 .subst h;simp[Aj,mkSy.H0,hget]
 .have z:(2000000==j)=false:=by simpa using λq=>h q.symm
  have:Aj (mkSy.H0 a) j=Aj (mkTS.H0 (a.1.Set,a.2)) j:=by simp only[Aj,mkSy.H0,hget,z,Bs]
  rw[this];simp only[mkTS.H0,Ix,h,false_or]
def mkSy.hcl(a:AF×Int): ∀p∈mkSy.H1 a,Aj (mkSy.H0 a) p.1=true/\ ∀m∈p.2.2.nms,Aj (mkSy.H0 a) m=true:=by
 intro p hp;simp only[mkSy.dom0];rcases Bt.1 hp with rfl|hp
 .exact⟨.inl rfl,λm z=>by simp[Ac.nms] at z⟩
 .have:=mkTS.hcl _ p hp
  simp only[mkTS.H0,Ix] at this;exact⟨.inr this.1,λm z=> .inr (this.2 m z)⟩
def mkSy.hbel(a:AF×Int):AD 2000001 (mkSy.ca a)=true:=by simp[mkSy.ca,AD,AV.bel]
def mkSy.hbH(a:AF×Int):Av 2000001 (mkSy.H0 a)=true:=by
 simp only[mkSy.H0,Av];exact MP (by have:=FU a.1.Set.Tiles;simp only;omega) (λi=>by simp[Av,Fs])
def mkSy.hkH(a:AF×Int):BB 2000001 (mkSy.H0 a)=true:=by
 simp only[mkSy.H0,BB]
 have:=mG (G:=a.1.Set.Glues) (a:=a.1.Set.Tiles) (k:=DK (a.1.Set,a.2)) (i:=0) (N:=2000001) (f:=Fs a.1.Set.Tiles (DK (a.1.Set,a.2)) 0) (by have:=FU a.1.Set.Tiles;omega)
 simp only[mkTS.H0,this,Ep];simp
def mkSy.hnm(a:AF×Int):BU (mkSy.H0 a) (mkSy.H0 a):=by
 refine aD λp hp m z=>(mkSy.dom0 _ _).2 ?_
 rcases Bt.1 hp with rfl|hp
 .simp[Ac.nms] at z
 .exact .inr (aJ (λj=>by simp[Fs,Ac.nms]) hp z)
def mM{G:List Ad}{rows:List (List AV)}{n:Nat}{f:Nat->Am}(i:Nat)(h:i<n):hget (Ho G rows n f) (2+i)=some (f i):=by
 simp only[Ho,hget,AC _ _ (show 0≠2+i by omega),AC _ _ (show 1≠2+i by omega),Bs];exact DY _ _ _ _ h
def Tb{h:Nat->Option Am}{kx:Nat->Option Nat}{m:Nat}{G:List Ad}{a:List Tile}{k:Int}{i:Nat}{f:Nat->Am}(h0:h 0=some (true,.arr 108 2 (G.map Ad.c)))(z:h 1=some (true,.arrA 98 2 (CZ a k i)))(O: ∀j,j<nT a->h (2+j)=some (f j))
 (hf: ∀j,Cd (Bd h kx (m+1)) (f j).2=some (f j).2)(Q: ∀j,j<nT a->kx (2+j)=some (2+j)):E5 h (Bd h kx (m+1)) (Ho G (CZ a k i) (nT a) f):=by
 simp only[Ho,E5];refine⟨?_,?_,JL _ _ _ _ _ O (λj _=>hf j)⟩
 .rw[h0];exact⟨rfl,rfl⟩
 .rw[z];refine⟨rfl,?_⟩;simp only[Cd];rw[mF Q];rfl
def mkSy.ok:AI 9 mkSy.row:=by
 refine ow (tC mkTS.ok (tC mkAC.ok tN)) Tryz.func9 (exB:=λ_=>false) (R:=λa r=>r=mkSy.r0 a) (λ_=>rfl)
  (λa=>⟨mkSy.hbel a,mkSy.hbH a,mkSy.hkH a,mkSy.hnm a⟩) (λa p hp=> ?_) (λa r h=>by subst h;exact Dh.refl _) ?_
 rotate_left
 intro a Z;simp only[Tryz.f9,Option.getD,mkSy.ca];simp only[ZZ,simprocAttr,Ab,Ax,mkSy.ca];obtain⟨S,k⟩:=a;obtain⟨h1,h2,h3⟩:=Z;simp only at h1 h2 h3;simp only[Bq,mkSy.H0];have hn:=FU S.Set.Tiles;have hk:=MS S.Set.Tiles (DK (S.Set,k)) (by simp only[DK];omega) 0 S.Set.Tiles.length (by omega);have aa:0<=syK (S,k):=by simp only[syK];omega
 have hσ: ∀j,j<2+nT S.Set.Tiles->B0 (λj=>j) 2000000 2000002 j=j:=λj z=>Ai (by omega)
 have O:=λj=>(Ix S.Set.Glues (CZ S.Set.Tiles (DK (S.Set,k)) 0) (nT S.Set.Tiles) (Fs S.Set.Tiles (DK (S.Set,k)) 0) j)
 refine AL.tau (S.Set,k) (λj=>j) ⟨h1,h2,by simp only[syK] at h3;simp only;omega⟩ (λ_ _=>rfl) (λj z=> ?_) (λi j _ _ h=>h) (mkTS.hcl _) ⟨?_,?_⟩ (by simp[mkTS.r0,AV.nms]) (λG hH1 Q=> ?_)
 .have z:=(O j).1 z;omega
 .simp only[mkTS.ca,AH,AV.ren,hσ 0 (by omega),hσ 1 (by omega)]
 .simp only[mkTS.H0,Ho,D5,hσ 0 (by omega),hσ 1 (by omega),Ac.ren];rw[V8 _ _ _ _ (λj z=>hσ _ (by omega))];refine⟨rfl,rfl,Nw λi hi=> ?_⟩;rw[hσ _ (by omega)];simp only[hget,AC _ _ (show 2000001≠2+i by omega),AC _ _ (show 2000000≠2+i by omega),AC _ _ (show 0≠2+i by omega),AC _ _ (show 1≠2+i by omega),Bs];rw[DY _ _ _ _ hi];rfl
 have hu: ∀m,m=2000000\/m=2000001-> ∀j,Aj (mkTS.H0 (S.Set,k)) j=true->j≠m:=λm hm j z=>by
  have z:=(O j).1 z;omega
 have gs:hget G 2000000=some (true,.arr 89 3 (S.Seed.Tiles.map Al.c)):=by rw[Q _ (hu _ (.inl rfl))];rfl
 have gp:hget G 2000001=some (true,.cells 40 [.own 0,.own 1,.own 2000000,.im (.int .i64 S.Temperature)]):=by rw[Q _ (hu _ (.inr rfl))];rfl
 have g0:hget G 0=some (true,.arr 108 2 ((Ft (gF k) S.Set.Glues.length).map Ad.c)):=hH1 0 _ rfl;have g1:hget G 1=some (true,.arrA 98 2 (CZ S.Set.Tiles (DK (S.Set,k)) (nT S.Set.Tiles))):=by
  rw[hH1 1 _ rfl];simp only[Ac.ren];rw[V8 _ _ _ _ (λj z=>hσ _ (by omega))]
 have g2: ∀j,j<nT S.Set.Tiles->hget G (2+j)=some (Fs S.Set.Tiles (DK (S.Set,k)) (nT S.Set.Tiles) j):=λj z=>by
  have e:hget (mkTS.H1 (S.Set,k)) (2+j)=some (Fs S.Set.Tiles (DK (S.Set,k)) (nT S.Set.Tiles) j):=mM j z;rw[hH1 (2+j) _ e];rfl
 have eK:Eb S.Set.Tiles (DK (S.Set,k)) S.Set.Tiles.length=syK (S,k):=rfl;simp only[mkTS.r0,AV.ren,eK];simp only[ZZ,simprocAttr,Ab,Ax,mkSy.ca,sub,Bq,gp]
 skip
 refine AL.os (S.Seed,syK (S,k)) [2000000] ⟨aa,h3⟩ (λj=> ?_) rfl rfl ?_ ?_
 .simp only[Aj,mkAC.H0,hget];by_cases z:j=0
  .subst z;simp
  .have:(0==j)=false:=by simpa using λh=>z h.symm
   rw[this];simp;omega
 .simp only[ZZ,simprocAttr,Ab,Ax,mkSy.ca,mkAC.ca,mkAC.H0,D5,EF,gs]
  try exact⟨rfl,rfl⟩
 simp only[ZZ,simprocAttr,Ab,Ax,mkSy.ca,mkAC.H1,sub,Bq,EF,GQ,mkSy.r0,mkSy.H1];obtain⟨HX,hHX⟩: ∃HX,HX=hget ((2000000,(true,Ac.arr 89 3 (List.map Al.c (Ft (pF (syK (S,k))) S.Seed.Tiles.length))))::Ba G [2000000]):=⟨_,rfl⟩;rw[<-hHX];have gx: ∀m,m≠2000000->HX m=hget G m:=λm hm=>by
  rw[hHX];simp only[hget,AC _ _ (λh=>hm h.symm:2000000≠m),Bs];exact Jv _ _ _ (λh=>hm h.symm)
 refine⟨aB _ _,Tb (by rw[gx 0 (by omega)];exact g0) (by rw[gx 1 (by omega)];exact g1) (λj z=>by simp only at z;rw[gx _ (by omega)];exact g2 j z) (λj=>rfl) (λj z=>LU ?_)⟩;simp only at z
 have:=(mkSy.dom0 (S,k) (2+j)).2 (.inr (by simp only;omega))
 simpa only[mkSy.H0] using this
 obtain⟨q1,_⟩:=mkSy.hcl _ p hp
 have:=(mkSy.dom0 _ _).1 q1
 have:=FU a.1.Set.Tiles
 exact .inl ⟨by omega,rfl,q1⟩
def D9(a:List Tile):Nat:=(a.map λx=>x.Sides.length).sum
def aG(y:Tile)(r:List Tile)(k:Int): ∀i,Eb (y::r) k (i+1)=Eb r (k+1+y.Sides.length) i
 |0=>rfl
 |i+1=>by
  rw[Eb,aG y r k i,Eb];rfl
def VS: ∀(a:List Tile) (k:Int),Eb a k a.length=k+a.length+D9 a
 |[],k=>by simp[Eb,D9]
 |y::r,k=>by
  rw[Dd,aG,VS r];simp only[D9,Bb,Kl];omega
def gD{n:Nat}{l:Int}(h:0<=Cs n l):Cs n l=l - n:=by
 simp only[Cs] at h⊢;split at h
 .omega
 .rename_i c;rw[Af c]
def lT: ∀(a:List Tile) (l:Int),0<=l->0<=Gd Fv a l->(D9 a:Int)+Gd Fv a l<=l
 |[],l,h0,_=>by simp[D9,Gd]
 |y::r,l,h0,h=>by
  simp only[Gd] at h⊢;by_cases c:Fv y l<0
  .rw[Ai c] at h;omega
  .rw[Af c] at h⊢;have z:0<=Fv y l:=by omega
   have G:0<=Cs y.Name.size l:=by
    simp only[Fv] at z;split at z<;>omega
   have e:Fv y l=Cs y.Sides.length (Cs y.Name.size l):=by
    simp only[Fv];rw[Af (by omega)]
   rw[e] at z h⊢;have q1:=Ws G;have O:=gD z;have ih:=lT r _ z h;simp only[D9,Bb,Kl] at ih⊢;omega
structure Ff(s:AF):Prop where
 g:s.Set.Glues.length<=1048576
 t:s.Set.Tiles.length<=1048576
 d:D9 s.Set.Tiles<=1048576
 p:s.Seed.Tiles.length<=1048576
def Yp{s:AF}{l:Int}(Z: -1<=l)(aa:l<=1048576)(h:0<=Wr s l):Ff s:=by
 have hb:=xV s.Set l Z;simp only[Wr] at h;split at h
 .omega
 rename_i c;obtain⟨a1,_,_⟩:=Ws h;have z:0<=PC s.Set l:=by omega
 have hg:=wM s.Set.Glues l Z;simp only[PC] at z;split at z
 .omega
 have G:0<=He s.Set.Glues l:=by omega
 have Q:0<=Cs s.Set.Glues.length l:=by
  simp only[He] at G;split at G<;>omega
 have O:0<=Cs s.Set.Tiles.length (He s.Set.Glues l):=by
  simp only[KX] at z;split at z<;>omega
 have e:KX s.Set.Tiles (He s.Set.Glues l)=Gd Fv s.Set.Tiles (Cs s.Set.Tiles.length (He s.Set.Glues l)):=by
  simp only[KX];rw[Af (by omega)]
 rw[e] at z;obtain⟨b1,_,_⟩:=Ws Q;obtain⟨d1,d2,_⟩:=Ws O
 have:=lT s.Set.Tiles _ O z
 exact⟨by omega,by omega,by omega,by omega⟩
def fX{a:List Tile}{x:Tile}(h:x∈a):x.Sides.length<=D9 a:=by
 induction a with
 |nil=>cases h
 |cons y r ih=>
  simp only[D9,Bb,Kl] at ih⊢;rcases Bt.1 h with rfl|h
  .omega
  .have:=ih h;omega
def Ff.yx{s:AF}(h:Ff s):toYX.pre s:=⟨⟨by have:=h.g;omega,⟨h.t,λx z=>by have:=fX z;have:=h.d;omega⟩⟩,by have:=h.p;omega⟩
def Ff.syK{s:AF}(h:Ff s){k:Int}(G:0<=k)(z:k<=1048576):0<=syK (s,k)/\Go.Ae.syK (s,k)+3*s.Seed.Tiles.length<=9437184:=by
 simp only[Go.Ae.syK,VS,DK]
 have:=h.g;have:=h.t;have:=h.d;have:=h.p
 omega
def Ff.mkp{s:AF}(h:Ff s){k:Int}(G:0<=k)(z:k<=1048576):mkSy.pre (s,k):=⟨G,h.t,by have:=(h.syK G z).2;simp only;omega⟩
structure C5(h:Nat->Option Am)(g t p f:Nat)(s:AF):Prop where
 g:h g=some (true,.arr 108 2 (s.Set.Glues.map Ad.c))
 t:h t=some (true,.arrA 98 2 (C4 f s.Set.Tiles))
 p:h p=some (true,.arr 89 3 (s.Seed.Tiles.map Al.c))
 f: ∀i,i<s.Set.Tiles.length->h (f+i)=some (Ca s.Set.Tiles i)
def Uz{h:Nat->Option Am}{n f:Nat}{a:List Tile}(hf: ∀i,i<a.length->h (f+i)=some (Ca a i)):Aq (Aq (bk h (n+1))) (C4 f a)=some (a.map Tile.c):=by
 have e:a.map Tile.c=(List.range a.length).map λi=>((a[i]?.map Tile.c).getD []):=by
  apply QI;intro i;rw[Dt,Dt];by_cases z:i<a.length
  .rw[FN z,B2 z];simp[z]
  .rw[HB (by omega),HB (by simp;omega)];rfl
 rw[e];refine Vb _ λi z=> ?_
 have z:=Bk.1 z;have G:a[i]? =some a[i]:=B2 z;simp only[Aq,bk,hf i z,Ca,ND,G,D7,AT,Tile.c]
def C5.bk{h:Nat->Option Am}{g t p f n:Nat}{s:AF}(hs:C5 h g t p f s):Go.Ae.bk h (n+3) (.agg [.own g,.own t,.own p,.im (.int .i64 s.Temperature)])=some (.agg (AF.c s)):=by
 simp only[Go.Ae.bk,Aq,hs.g,hs.t,hs.p,ND,Uz hs.f,D7,AF.c]
def C5.pk{h:Nat->Option Am}{g t p f:Nat}{s:AF}(hs:C5 h g t p f s):DN h (.agg [.own g,.own t,.own p,.im (.int .i64 s.Temperature)])=some (.val (.agg (AF.c s))):=by
 simp only[DN,hs.bk (n:=6),DU,D7]
def vN.call{A:Type}{ar:List PK->Option A}{pre:A->Prop}{re:A->D}{args:List AV}{tm:List (Nat×AV)}{h:Ao}{nx:Nat}{dst:Option Nat}{Q:Az->Prop}(ps:List PK)(O:Io (hget h) args=some (ps,[]))(a:A)(Z:ar ps=some a)(z:pre a)
 (G:Q ((⟨tm,h,nx⟩:Az).put dst (.im (re a)))):E4 ar pre re args (hget h) nx (Ez Q ⟨tm,h,nx⟩ dst):=by
 unfold E4;rw[O];simp only[V1,Z,DE,PP];refine⟨z,?_,?_⟩
 .rw[Bv.ok_nr];simp[AV.bel,Av,Hi]
 .rw[Az.app_nr,Bq,FO];exact G
def JR(s:AF):a1 (kR AF.d) [.val (.agg (AF.c s))]=some s:=by simp only[a1,kR,AF.d_c,GE]
def Jm(s t:AF):a2 (kR AF.d) (kR AF.d) [.val (.agg (AF.c s)),.val (.agg (AF.c t))]=some (s,t):=by simp only[a2,kR,AF.d_c,GE]
def toYR.row:AE:=orR toSystem.row toYX.row
def toYR.ok:AI 6 toYR.row:=SX toSystem.ok toYX.ok
def tY{s:AF}(hs:Ff s): ∀p∈toYX.H1 s,p.1<2000013/\ ∀m∈p.2.2.nms,m<2000013:=by
 have z:min s.Set.Tiles.length 1048576<=1048576:=Zh _ _;have Z:=hs.t;intro p hp;simp only[toYX.H1,Bt,AG,Bn,Bk] at hp;rcases hp with rfl|rfl|rfl|⟨i,Q,rfl⟩
 .exact⟨by omega,by simp[Ac.nms]⟩
 .refine⟨by omega,λm z=> ?_⟩;simp only[Ac.nms] at z;obtain⟨r,O,z⟩:=EU.1 z;obtain⟨j,G,rfl⟩:=Bn.1 O
  have:=Bk.1 G
  simp[Aw,AV.nms] at z;omega
 .exact⟨by omega,by simp[Ac.nms]⟩
 .exact⟨by simp only;omega,by simp[Ca,Ac.nms]⟩
def C5.mono{h h':Nat->Option Am}{g t p f:Nat}{s:AF}(hs:C5 h g t p f s)(z: ∀m,(m=g\/m=t\/m=p\/(f<=m/\m<f+s.Set.Tiles.length))->h' m=h m):C5 h' g t p f s:=
 ⟨by rw[z g (.inl rfl)];exact hs.g,by rw[z t (.inr (.inl rfl))];exact hs.t,by rw[z p (.inr (.inr (.inl rfl)))];exact hs.p,λi G=>by rw[z _ (.inr (.inr (.inr ⟨by omega,by omega⟩)))];exact hs.f i G⟩
def tX{s:AF}(hs:Ff s){nx:Nat}{z:Ao}(h: ∀j e,hget (toYX.H1 s) j=some e->hget z (nx+j)=some (e.1,e.2.ren λj=>nx+j)):C5 (hget z) (nx+7) (nx+9) (nx+2000012) (nx+10) s:=by
 have Q:=hs.t;have O:min s.Set.Tiles.length 1048576=s.Set.Tiles.length:=by omega
 refine⟨h 7 _ rfl,?_,h 2000012 _ rfl,λi G=> ?_⟩
 .rw[h 9 _ rfl];simp only[Ac.ren];congr 3;simp only[C4,Km];refine Ii λi G=> ?_
  simp only[Function.comp,AH,AV.ren];rw[FA]
 .have e:hget (toYX.H1 s) (10+i)=some (Ca s.Set.Tiles i):=by
   simp only[toYX.H1,hget,AC _ _ (show 7≠10+i by omega),AC _ _ (show 9≠10+i by omega),AC _ _ (show 2000012≠10+i by omega),Bs];rw[O];exact DY _ _ _ _ G
  rw[FA,h _ _ e];rfl
def JP{H:Ao}(e:Am)(k m:Nat)(h:k≠m):hget ((k,e)::Ba H [k]) m=hget H m:=by
 simp only[hget,AC _ _ h,Bs];exact Jv _ _ _ h
def Z7{h:Nat->Option Am}{x y:AV}{p q:PK}(z:DN h x=some p)(G:DN h y=some q):BR h [x,y]=some [p,q]:=by simp only[BR,z,G,FT]
def lW: ∀l:List Nat,Jz l []=true
 |[]=>rfl
 |x::r=>by simp[Jz,lW r]
def JN:List Fp->Bool
 |[]=>true
 |f::r=>f.touch.isEmpty && JN r
def ZV(cl:List (List Nat))(i:Nat)(use:List Nat): ∀acc:List Fp,JN acc=true->Iu cl i use [] [] acc=true
 |[],_=>rfl
 |f::r,h=>by
  simp only[JN,AW,List.isEmpty_iff] at h;simp only[Iu,jU,h.1,D6,lW,Jz,Gs,dT,BV,ZV cl i use r h.2]
def vN.callA{A:Type}{ar:List PK->Option A}{pre:A->Prop}{re:A->D}{args:List AV}{tm:List (Nat×AV)}{h:Ao}{nx:Nat}{dst:Option Nat}{Q:UO}{cl:List (List Nat)}{i:Nat}{acc:List Fp}(ps:List PK)(O:Io (hget h) args=some (ps,[]))(a:A)(Z:ar ps=some a)(z:pre a)(hq:JN acc=true)
 (G: ∀u,Q (⟨i,u,[],nx,0⟩::acc) ((⟨tm,h,nx⟩:Az).put dst (.im (re a)))):E4 ar pre re args (hget h) nx (Nz cl i acc Q ⟨tm,h,nx⟩ dst):=by
 unfold E4;rw[O];simp only[V1,Z,DE,PP];refine⟨z,?_,?_,?_⟩
 .rw[Bv.ok_nr];simp[AV.bel,Av,Hi]
 .exact ZV _ _ _ _ hq
 .rw[Az.app_nr,Bq,FO];exact G _
def vF.callA{A:Type}{ar:List PK->Option A}{pre:A->Prop}{re:A->D}{args:List AV}{tm:List (Nat×AV)}{h:Ao}{nx:Nat}{dst:Option Nat}{Q:UO}{cl:List (List Nat)}{i:Nat}{acc:List Fp}(ps:List PK)(O:BR (hget h) args=some ps)(a:A)(Z:ar ps=some a)(z:pre a)(hq:JN acc=true)
 (G: ∀u,Q (⟨i,u,[],nx,0⟩::acc) ((⟨tm,h,nx⟩:Az).put dst (.im (re a)))):Q3 ar pre re args (hget h) nx (Nz cl i acc Q ⟨tm,h,nx⟩ dst):=by
 unfold Q3;rw[O];simp only[UQ,Z,DE];refine⟨z,?_,?_,?_⟩
 .rw[Bv.ok_nr];simp[AV.bel,Av,Hi]
 .exact ZV _ _ _ _ hq
 .rw[Az.app_nr,Bq,FO];exact G _
end Go.Ae
namespace Go.Ae
open Go.Proofs Go.Lib
def ptof_.fv(a:A7×A7×Int):A7:=(λp q k=>⟨k*p.X+q.X,k*p.Y+q.Y⟩) (a.1) (a.2.1) (a.2.2)
def ptof_.row:AE:=vK (b3 (qR A7.d_le) (qR A7.d_le) qI) (rA A7.d_le) (λa=>(-1000<=a.1.X/\a.1.X<=1000/\ -1000<=a.1.Y/\a.1.Y<=1000)/\(0<=a.2.1.X/\a.2.1.X<=10/\0<=a.2.1.Y/\a.2.1.Y<=10)/\1<=a.2.2/\a.2.2<=4) ptof_.fv
def ptof_.q:=Bg (R:=ptof_.row) rfl
def ptof_.ok:AI 52 ptof_.row:=by
 refine vw tN Tryz.func52 ?_;intro a z;simp only[Tryz.f52,Option.getD];simp(maxSteps:=9^9)(disch:=omega)only[ZZ,simprocAttr,Ab,ptof_.fv];obtain⟨p,q,k⟩:=a;obtain⟨⟨O,Q,Z,h4⟩,⟨h5,h6,h7,h8⟩,G⟩:=z;simp only at O Q Z h4 h5 h6 h7 h8 G⊢;rcases k4 G with rfl|rfl|rfl|rfl<;>simp (disch:=omega) only[AA]
def DQ(k t:Nat):A7:=⟨((t % k:Nat):Int),((t/k:Nat):Int)⟩
def DO(k n:Nat):List A7:=(List.range n).map (DQ k)
def Qaxo(k n:Nat):DO k (n+1)=DO k n++[DQ k n]:=F4 _ _
def Iz(k n:Nat):(DO k n).length=n:=by simp[DO]
def Rj{k x y:Nat}(z:x<k):DQ k (y*k+x)=⟨(x:Nat),(y:Nat)⟩:=by
 have G:(y*k+x) % k=x:=by rw[Nat.mul_comm,Nat.mul_add_mod,ZeM z]
 have O:(y*k+x)/k=y:=by rw[Nat.mul_comm,Nat.mul_add_div (by omega),Nat.div_eq_of_lt z];omega
 simp only[DQ,G,O]
def rct_.fv(a:A7×A7):List A7:=(λ_ q=>DO (q.X.toNat+1) ((q.X.toNat+1)*(q.X.toNat+1))) (a.1) (a.2)
def rct_.row:AE:=vK (b2 (qR A7.d_le) (qR A7.d_le)) (rS A7.d_le A7.c_n) (λa=>(a.1.X=0/\a.1.Y=0)/\a.2.X=a.2.Y/\0<=a.2.X/\a.2.X<=3) rct_.fv
def rct_.q:=Bg (R:=rct_.row) rfl
def rct_.ok:AI 58 rct_.row:=by
 refine vw tN Tryz.func58 ?_;intro a z;simp only[Tryz.f58,Option.getD];simp(maxSteps:=9^9)(disch:=omega)only[ZZ,simprocAttr,Ab,rct_.fv];obtain⟨p,q⟩:=a;obtain⟨⟨G,O⟩,Q,h4,h5⟩:=z;simp only at G O Q h4 h5⊢;obtain⟨p1,p2⟩:=p;obtain⟨q1,q2⟩:=q;simp only at G O Q h4 h5⊢;subst G O Q;obtain⟨n,rfl⟩: ∃n:Nat,q1=n:=⟨q1.toNat,by omega⟩;rw[Bj];have ad:(n+1)*(n+1)<=16:=by rcases (by omega:n=0\/n=1\/n=2\/n=3) with rfl|rfl|rfl|rfl<;>omega
 refine AY.ren ⟨{y:Nat//y<=n+1},λy=>⟨[(6,.im (.int .i64 y.1)),(5,.own 4),(4,.own 2),(3,.ptr 1 0),(2,.ptr 0 0)],[(4,(true,.arr 72 2 ((DO (n+1) (y.1*(n+1))).map A7.c))),(2,(true,.arr 72 2 [])),(1,(true,.cells 72 [.im (.int .i64 n),.im (.int .i64 n)])),(0,(true,.cells 72 [.im (.int .i64 0),.im (.int .i64 0)]))],5⟩,λy=>n+1 - y.1,λy=>⟨by simp[ZG],by simp⟩,⟨⟨0,Cz _⟩,[(4,some 3)],?_⟩,λy=> ?_⟩
 .simp only[Ar,DO,J5,Vk,BD];simp(maxSteps:=9^9)(disch:=omega)only[ZZ,simprocAttr,Ab,rct_.fv,AS,AR]
  try exact⟨rfl,rfl⟩
 obtain⟨y,hy⟩:=y;have ac:IntKind.i64.wrap ((y:Int)+1)=((y+1:Nat):Int):=by rw[AA (by omega) (by omega)];omega
 simp(maxSteps:=9^9)(disch:=omega)only[ZZ,simprocAttr,Ab,rct_.fv,sub,AO];refine⟨λab=> ?_,λab=> ?_⟩
 .have af:y*(n+1)<=16:=by rcases (by omega:n=0\/n=1\/n=2\/n=3) with rfl|rfl|rfl|rfl<;>omega
  refine AY.ren ⟨{x:Nat//x<=n+1},λx=>⟨[(7,.im (.int .i64 x.1)),(6,.im (.int .i64 y)),(5,.own 5),(4,.own 2),(3,.ptr 1 0),(2,.ptr 0 0)],[(5,(true,.arr 72 2 ((DO (n+1) (y*(n+1)+x.1)).map A7.c))),(2,(true,.arr 72 2 [])),(1,(true,.cells 72 [.im (.int .i64 n),.im (.int .i64 n)])),(0,(true,.cells 72 [.im (.int .i64 0),.im (.int .i64 0)]))],6⟩,λx=>n+1 - x.1,λx=>⟨by simp[ZG],by simp⟩,⟨⟨0,Cz _⟩,[(5,some 4)],?_⟩,λx=> ?_⟩
  .simp only[Ar,FO];simp(maxSteps:=9^9)(disch:=omega)only[ZZ,simprocAttr,Ab,rct_.fv,AS,AR]
   try exact⟨rfl,rfl⟩
  obtain⟨x,hx⟩:=x;have aa:IntKind.i64.wrap ((x:Int)+1)=((x+1:Nat):Int):=by rw[AA (by omega) (by omega)];omega
  have hcl:=Iz (n+1) (y*(n+1)+x);simp(maxSteps:=9^9)(disch:=omega)only[ZZ,simprocAttr,Ab,rct_.fv,sub,AO];refine⟨λZ=> ?_,λZ=> ?_⟩
  .have hr:List.map A7.c (DO (n+1) (y*(n+1)+x))++[[D.int .i64 x,D.int .i64 y]]=(DO (n+1) (y*(n+1)+(x+1))).map A7.c:=by
    rw[<-FA,Qaxo,En,Rj (by omega)];rfl
   refine⟨by simp[Bl,Bo,D.one],by rw[hcl];omega,⟨x+1,by omega⟩,[(5,some 7)],by simp only;omega,?_⟩;simp only[Ar];simp(maxSteps:=9^9)(disch:=omega)only[ZZ,simprocAttr,Ab,rct_.fv,AS,AR,aa,hr]
  .obtain rfl:x=n+1:=by omega
   have hj:y*(n+1)+(n+1)=(y+1)*(n+1):=by rw[Du y 1,EH]
   refine⟨⟨y+1,by omega⟩,[(4,some 5)],by simp only;omega,?_⟩;simp only[Ar];simp(maxSteps:=9^9)(disch:=omega)only[ZZ,simprocAttr,Ab,rct_.fv,AS,AR,ac,hj]
 .obtain rfl:y=n+1:=by omega
  rfl
def cls_.fv(a:Int):List A7:=(λk=>DO k.toNat (k.toNat*k.toNat)) a
def cls_.row:AE:=vK (b1 qI) (rS A7.d_le A7.c_n) (λa=>1<=a/\a<=4) cls_.fv
def cls_.q:=Bg (R:=cls_.row) rfl
def cls_.ok:AI 25 cls_.row:=by
 refine vw (tC rct_.ok tN) Tryz.func25 ?_;intro a z;simp only[Tryz.f25,Option.getD];simp(maxSteps:=9^9)(disch:=omega)only[ZZ,simprocAttr,Ab,cls_.fv,rct_.q,rct_.fv];rcases k4 z with rfl|rfl|rfl|rfl<;>exact⟨by decide,rfl⟩
def bcd_.fv(a:A9×Int):Int:=(λa k=>if (CS none a.Tiles && decide (a.Tiles.length<=500))=true then (if Bw k 1 4=true then 0 else 2) else 1) (a.1) (a.2)
def bcd_.row:AE:=vK (b2 (qR A9.d_le) qI) rI (λa=>True) bcd_.fv
def bcd_.q:=Bg (R:=bcd_.row) rfl
def bcd_.ok:AI 51 bcd_.row:=by
 refine vw (tC hasForm_.ok (tC blockSizeOk.ok tN)) Tryz.func51 ?_;intro a O;simp only[Tryz.f51,Option.getD];simp(maxSteps:=9^9)(disch:=omega)only[ZZ,simprocAttr,Ab,bcd_.fv,hasForm_.q,hasForm_.fv,blockSizeOk.q,blockSizeOk.fv];by_cases c1:(CS none a.1.Tiles && decide (a.1.Tiles.length<=500))=true
 .have G:CS none a.1.Tiles=true/\a.1.Tiles.length<=500:=by simpa using c1
  rw[Af (by rw[c1];decide),Ai G];by_cases z:Bw a.2 1 4=true
  .rw[Af (by rw[z];decide),Ai z]
  .rw[Ai (by simpa using z),Af z]
 .have G: ¬(CS none a.1.Tiles=true/\a.1.Tiles.length<=500):=by simpa using c1
  rw[Ai (by simpa using c1),Af G]
def bkn_.fv(a:ByteArray×Int×A7):ByteArray:=(λw i p=>Cg w i p.X p.Y) (a.1) (a.2.1) (a.2.2)
def bkn_.row:AE:=CG (b3 qT qI (qR A7.d_le)) rT (λa=>a.1.size<=1000/\(-1000000<=a.2.1/\a.2.1<=1000000)/\(-1000000<=a.2.2.X/\a.2.2.X<=1000000)/\(-1000000<=a.2.2.Y/\a.2.2.Y<=1000000)) bkn_.fv
def bkn_.q:=CH (R:=bkn_.row) rfl
def bkn_.ok:AI 57 bkn_.row:=by
 refine Gy (tC prd_.ok (tC dcm_.ok tN)) Tryz.func57 ?_;intro a z;simp only[Tryz.f57,Option.getD];simp(maxSteps:=9^9)(disch:=omega)only[ZZ,simprocAttr,Ab,bkn_.fv,prd_.q,prd_.fv,dcm_.q,dcm_.fv,BS,D.sc,D.scs,BJ,AQ];obtain⟨w,i,p⟩:=a;obtain⟨G,O,Q,Z⟩:=z;simp only at G O Q Z⊢;have e1:=bA (w:=w) (a:=i) (b:=p.X) (by omega) (by omega) (by omega) (by omega);have e2:=EY (n:=p.Y) (by omega) (by omega);have e3:(⟨#[95]⟩:ByteArray).size=1:=rfl;exact⟨⟨G,by omega,by omega⟩,by omega,by omega,by rw[Vn];omega,rfl⟩
def AL.o0{A:Type}{ca:A->List AV}{H0:A->Ao}{k:Nat}{pre:A->Prop}{klB:Nat->Bool}{r0:A->AV}{H1:A->Ao}{cnt:Nat}{args:List AV}{h:Nat->Option Am}{nx:Nat}{K:Ah}(a:A)(τ:Nat->Nat)(G:pre a)(h0:H0 a=[])
 (Z:args=AH (B0 τ k nx) (ca a))(O:K ((r0 a).ren (B0 τ k nx)) {use:=[],kill:=[],new:=AX (B0 τ k nx) (H1 a),cnt:=cnt}):AL ca H0 k pre klB r0 H1 cnt args h nx K:=
 ⟨a,τ,[],[],G,Z,by rw[h0];trivial,by rw[h0];exact⟨λi j Q=>(by simp[Aj,hget] at Q),λj z=>(by simp[Aj,hget] at z),λj z=>(by simp[Aj,hget] at z),λn hn=>(by cases hn),λj z=>(by simp[Aj,hget] at z)⟩,O⟩
def Ch(s:Au)(k:Int):AV:= .agg [.ptr 0 0,.im (.sl false 2 (s.Glues.map Ad.c)),.im (.sl false 2 (s.Tiles.map Tile.c)),.im (.int .i64 k)]
def bszC.ca(a:Au×Int):List AV:=[Ch a.1 a.2]
def bszC.row:AE:=AL bszC.ca (λ_=>[]) 1 (λa=>(a.1.Glues.length<=1000/\a.1.Tiles.length<=1000)/\1<=a.2/\a.2<=4) (λ_=>false) (λa=> .im (.tup [.int .i64 (Cv a.1 a.2.toNat),.int .i64 ((a.1.Tiles.length*(a.2.toNat*a.2.toNat):Nat):Int)])) (λ_=>[]) 20
def bszC.ok:AI 23 bszC.row:=by
 refine Td tN Tryz.func23 (exB:=λ_=>false) (R:=λa r=>r= .im (.tup [.int .i64 (Cv a.1 a.2.toNat),.int .i64 ((a.1.Tiles.length*(a.2.toNat*a.2.toNat):Nat):Int)])) (λ_=>rfl)
  (λa=>by simp[bszC.ca,Ch,AD,AV.bel,Av,BB,BU,Ac.nms,Aw,AV.nms,Aj,hget]) (λa p hp=> ?_) (λa r h=>by subst h;exact Dh.refl _) ?_
 rotate_left
 intro a z;simp only[Tryz.f23,Option.getD,bszC.ca,Ch];simp(maxSteps:=9^9)(disch:=omega)only[ZZ,simprocAttr,Ab,Br,Ax,bszC.ca,Ch];rotate_left
 .cases hp
 obtain⟨s,k⟩:=a;obtain⟨⟨Q,Z⟩,hk⟩:=z;simp only at Q Z hk⊢;obtain⟨n,rfl⟩: ∃n:Nat,k=n:=⟨k.toNat,by omega⟩;have hn:1<=n/\n<=4:=by omega
 have G:IntKind.i64.wrap (IntKind.i64.wrap ((n:Int)*s.Glues.length)+IntKind.i64.wrap (IntKind.i64.wrap (IntKind.i64.wrap (2*(s.Tiles.length:Int))*n)*IntKind.i64.wrap ((n:Int) - 1)))=(Cv s n:Int):=by
  rcases (by omega:n=1\/n=2\/n=3\/n=4) with rfl|rfl|rfl|rfl<;>simp only[Cv,Bu]<;>simp (disch:=omega) only[AA]<;>omega
 have O:IntKind.i64.wrap (IntKind.i64.wrap ((s.Tiles.length:Int)*n)*n)=((s.Tiles.length*(n*n):Nat):Int):=by
  rw[UM hn (by omega),zE]
 intro _;rw[G,O,Bj];refine⟨[],[],⟨[(3,.im (.int .i64 ((s.Tiles.length*(n*n):Nat):Int))),(2,.im (.int .i64 (Cv s n)))],[],1⟩,?_,by simp[ZG],by simp,?_⟩
 .simp only[Ar];simp(maxSteps:=9^9)(disch:=omega)only[ZZ,simprocAttr,Ab,Br,Ax,bszC.ca,Ch,AS,AR]
 .simp(maxSteps:=9^9)(disch:=omega)only[ZZ,simprocAttr,Ab,Br,Ax,bszC.ca,Ch]
def botC.ca(a:(Au×Int)×Int×Int×Int):List AV:=[Ch a.1.1 a.1.2,.im (.int .i64 a.2.1),.im (.int .i64 a.2.2.1),.im (.int .i64 a.2.2.2)]
def botC.row:AE:=AL botC.ca (λ_=>[]) 1 (λa=>CY a.1.1/\a.1.1.Glues.length<=1000/\(0<=a.2.1/\a.2.1<a.1.1.Tiles.length)/\(0<=a.2.2.1/\a.2.2.1<4)/\0<=a.2.2.2/\a.2.2.2<=10) (λ_=>false) (λa=> .im (.str (FY a.1.1 a.2.1.toNat a.2.2.1.toNat a.2.2.2.toNat))) (λ_=>[]) 0
def YaJ:=J @prd_.q<|J @prd_.fv.eq_1<|J @unl_.q @unl_.fv.eq_1
def botC.ok:AI 59 botC.row:=by
 refine Td (tC prd_.ok (tC unl_.ok tN)) Tryz.func59 (exB:=λ_=>false) (R:=λa r=>r= .im (.str (FY a.1.1 a.2.1.toNat a.2.2.1.toNat a.2.2.2.toNat))) (λ_=>rfl)
  (λa=>by simp[botC.ca,Ch,AD,AV.bel,Av,BB,BU,Ac.nms,Aw,AV.nms,Aj,hget]) (λa p hp=> ?_) (λa r h=>by subst h;exact Dh.refl _) ?_
 rotate_left
 intro a G;simp only[Tryz.f59,Option.getD,botC.ca,Ch];simp(maxSteps:=9^9)(disch:=omega)only[ZZ,simprocAttr,Ab,YaJ,Br,Ax,botC.ca,Ch];rotate_left
 .cases hp
 obtain⟨⟨s,k⟩,i,d,c⟩:=a;obtain⟨O,h2,Z,h4,h5⟩:=G;simp only at O h2 Z h4 h5⊢;obtain⟨i,rfl⟩: ∃n:Nat,i=n:=⟨i.toNat,by omega⟩;obtain⟨d,rfl⟩: ∃n:Nat,d=n:=⟨d.toNat,by omega⟩;obtain⟨c,rfl⟩: ∃n:Nat,c=n:=⟨c.toNat,by omega⟩;simp only[Bj];refine⟨by omega,Z.2,λt ht=>⟨by omega,by have:=(O.2.1 t (Bf ht)).1;omega,λg hg=> ?_⟩⟩;have z:F8 s i (d:Nat)=g:=by simp[F8,ht,hg]
 have Q:=N1 O i d;rw[z] at Q;have aa:(⟨#[103]⟩:ByteArray).size=1:=rfl;have hv:U9 (decide (g=0)) (Ec ⟨#[103]⟩ g (c:Nat))=FY s i d c:=by
  simp only[U9,FY,z];by_cases c0:g=0
  .rw[Ai (by simpa using c0),Ai c0]
  .rw[Af (by simpa using c0),Af c0]
 rw[hv];refine⟨⟨by omega,by omega,by omega⟩,?_⟩;refine⟨[],[],⟨[(8,.im (.str (FY s i d c)))],[],1⟩,?_,by simp[ZG],by simp,?_⟩
 .simp only[Ar];simp(maxSteps:=9^9)(disch:=omega)only[ZZ,simprocAttr,Ab,YaJ,Br,Ax,botC.ca,Ch,AS,AR]
 .simp(maxSteps:=9^9)(disch:=omega)only[ZZ,simprocAttr,Ab,YaJ,Br,Ax,botC.ca,Ch]
def IM(n t:Nat):Nat:=(t/n)*(n - 1)+min (t % n) (n - 1)
def eJ{n t:Nat}(hn:1<=n/\n<=4)(h:t<n*n)(z:t % n<n - 1):IM n (t+1)=IM n t+1/\IM n t=(t/n)*(n - 1)+t % n/\t/n<n:=by
 rcases (by omega:n=1\/n=2\/n=3\/n=4) with rfl|rfl|rfl|rfl<;>simp only[IM]<;>omega
def Xk{n t:Nat}(hn:1<=n/\n<=4)(h:t<n*n)(z: ¬t % n<n - 1):IM n (t+1)=IM n t:=by
 rcases (by omega:n=1\/n=2\/n=3\/n=4) with rfl|rfl|rfl|rfl<;>simp only[IM]<;>omega
def sO(n:Nat):IM n 0=0:=by simp[IM]
def sN{n:Nat}(hn:1<=n/\n<=4):IM n (n*n)=n*(n - 1):=by
 rcases (by omega:n=1\/n=2\/n=3\/n=4) with rfl|rfl|rfl|rfl<;>rfl
def sM{n t:Nat}(hn:1<=n/\n<=4)(h:t<=n*n):IM n t<=16:=by
 rcases (by omega:n=1\/n=2\/n=3\/n=4) with rfl|rfl|rfl|rfl<;>simp only[IM]<;>omega
def gK{n t:Nat}(hn:1<=n/\n<=4)(h:t<n*n)(z:t/n<n - 1):t<n*(n - 1)/\(t/n)*n+t % n=t/\t % n<n:=by
 rcases (by omega:n=1\/n=2\/n=3\/n=4) with rfl|rfl|rfl|rfl<;>omega
def Y3{n t:Nat}(hn:1<=n/\n<=4)(h:t<n*n)(z: ¬t/n<n - 1): ¬t<n*(n - 1):=by
 rcases (by omega:n=1\/n=2\/n=3\/n=4) with rfl|rfl|rfl|rfl<;>omega
def sE{n:Nat}(hn:1<=n/\n<=4):n*(n - 1)<=n*n/\n*(n - 1)+n*(n - 1)=Bu n/\n*n<=16:=by
 rcases (by omega:n=1\/n=2\/n=3\/n=4) with rfl|rfl|rfl|rfl<;>decide
def VL{k n t:Nat}{p:A7}(z:t<n)(h:(DO k n)[t]? =some p):p=DQ k t:=by
 rw[DO,Dt,FN z] at h;exact (AB h).symm
def bglC.ca(a:Au×Int):List AV:=[Ch a.1 a.2]
def bglC.H0(_:Au×Int):Ao:=Cq [] []
def bglC.H1(a:Au×Int):Ao:=[(0,(true,.cells 76 [.own 4,.own 2,.mp 3])),(4,(true,.arr 108 2 ((Dg a.1 a.2.toNat).map Ad.c))),(3,(true,.map ⟨false,[.str]⟩ (BX (Dg a.1 a.2.toNat))))]
def bglC.row:AE:=AL bglC.ca bglC.H0 4 (λa=>(a.1.Glues.length<=1000/\a.1.Tiles.length<=1000)/\1<=a.2/\a.2<=4) B1 (λ_=> .im (.tup [])) bglC.H1 100
def Fw:=J @prd_.q<|J @prd_.fv.eq_1<|J @cls_.q<|J @cls_.fv.eq_1<|J @bkn_.q @bkn_.fv.eq_1
def bglC.ok:AI 24 bglC.row:=by
 refine Td (tC prd_.ok (tC mgC.ok (tC cls_.ok (tC bkn_.ok tN)))) Tryz.func24 (exB:=λj=>j==4) (R:=λa r=>r= .im (.tup [])) (λ_=>rfl)
  (λa=>by simp[bglC.ca,bglC.H0,bglC.H1,Cq,B1,Ch,AD,AV.bel,Av,BB,BU,Ac.nms,Aw,AV.nms,Aj,hget]) (λa p hp=> ?_) (λa r h=>by subst h;exact Dh.refl _) ?_
 rotate_left
 intro a ab;simp only[Tryz.f24,Option.getD,bglC.ca,bglC.H0,bglC.H1,Cq,B1,Ch];simp(maxSteps:=9^9)(disch:=omega)only[ZZ,simprocAttr,Ab,Fw,Br,Ax,bglC.ca,bglC.H0,bglC.H1,Cq,B1,Ch];rotate_left
 .simp only[bglC.H1,Bt,PM,Lk] at hp;rcases hp with rfl|rfl|rfl
  .exact .inl ⟨by omega,rfl,rfl⟩
  .exact .inr ⟨by omega,by omega,rfl,rfl⟩
  .exact .inl ⟨by omega,rfl,rfl⟩
 obtain⟨s,k⟩:=a;obtain⟨⟨h1,h2⟩,hk⟩:=ab;simp only at h1 h2 hk⊢;obtain⟨n,rfl⟩: ∃n:Nat,k=n:=⟨k.toNat,by omega⟩;have hn:1<=n/\n<=4:=by omega
 have O:IntKind.i64.wrap ((n:Int) - 1)=((n - 1:Nat):Int):=by rw[AA (by omega) (by omega)];omega
 have ao:(⟨#[103]⟩:ByteArray).size=1:=rfl;have aq:(⟨#[104]⟩:ByteArray).size=1:=rfl;have au:(⟨#[118]⟩:ByteArray).size=1:=rfl;obtain⟨af,ag,aj⟩:=sE hn;have ak:s.Glues.length*n<=4000:=by rcases (by omega:n=1\/n=2\/n=3\/n=4) with rfl|rfl|rfl|rfl<;>omega
 intro _;refine AY.ren ⟨{i:Nat//i<=s.Glues.length},λi=>⟨[(15,.im (.int .i64 i.1)),(14,.im (.int .i64 s.Glues.length)),(13,.im (.sl false 2 (s.Glues.map Ad.c))),(1,.ptr 4 0)],[(4,(true,.cells 64 [.ptr 0 0,.im (.sl false 2 (s.Glues.map Ad.c)),.im (.sl false 2 (s.Tiles.map Tile.c)),.im (.int .i64 n)])),(0,(true,.cells 76 [.own 5,.own 2,.mp 3])),(5,(true,.arr 108 2 (((List.range (i.1*n)).map (CB s n)).map Ad.c))),(2,(true,.arr 98 2 [])),(3,(true,.map ⟨false,[.str]⟩ (BX ((List.range (i.1*n)).map (CB s n)))))],6⟩,λi=>s.Glues.length - i.1,λi=>⟨by simp[ZG],by simp⟩,⟨⟨0,Cz _⟩,[(5,some 1)],?_⟩,λi=> ?_⟩
 .simp only[Ar,J5,Vk,BD];simp(maxSteps:=9^9)(disch:=omega)only[ZZ,simprocAttr,Ab,Fw,Br,Ax,bglC.ca,bglC.H0,bglC.H1,Cq,B1,Ch,AS,AR]
  try exact⟨rfl,rfl⟩
 obtain⟨i,hi⟩:=i;have Q:IntKind.i64.wrap ((i:Int)+1)=((i+1:Nat):Int):=by rw[AA (by omega) (by omega)];omega
 simp(maxSteps:=9^9)(disch:=omega)only[ZZ,simprocAttr,Ab,Fw,Br,Ax,bglC.ca,bglC.H0,bglC.H1,Cq,B1,Ch,sub,AO,O];refine⟨λG=>⟨G,λx hx=> ?_⟩,λG=> ?_⟩
 .have an:i*n<=4000:=by rcases (by omega:n=1\/n=2\/n=3\/n=4) with rfl|rfl|rfl|rfl<;>omega
  refine AY.ren ⟨{c:Nat//c<=n},λc=>⟨[(22,.im (.int .i64 c.1)),(21,.im (.int .i64 n)),(2,.im (.int .i64 i)),(3,.ptr 6 0),(15,.im (.int .i64 i)),(14,.im (.int .i64 s.Glues.length)),(13,.im (.sl false 2 (s.Glues.map Ad.c))),(1,.ptr 4 0)],[(6,(true,.cells 108 [.im (.str x.Name),.im (.int .i64 x.Strength)])),(4,(true,.cells 64 [.ptr 0 0,.im (.sl false 2 (s.Glues.map Ad.c)),.im (.sl false 2 (s.Tiles.map Tile.c)),.im (.int .i64 n)])),(0,(true,.cells 76 [.own 7,.own 2,.mp 3])),(7,(true,.arr 108 2 (((List.range (i*n+c.1)).map (CB s n)).map Ad.c))),(2,(true,.arr 98 2 [])),(3,(true,.map ⟨false,[.str]⟩ (BX ((List.range (i*n+c.1)).map (CB s n)))))],8⟩,λc=>n - c.1,λc=>⟨by simp[ZG],by simp⟩,⟨⟨0,Cz _⟩,[(7,some 5)],?_⟩,λc=> ?_⟩
  .simp only[Ar,FO];simp(maxSteps:=9^9)(disch:=omega)only[ZZ,simprocAttr,Ab,Fw,Br,Ax,bglC.ca,bglC.H0,bglC.H1,Cq,B1,Ch,AS,AR]
   try exact⟨rfl,rfl⟩
  obtain⟨c,hc⟩:=c;have ah:IntKind.i64.wrap ((c:Int)+1)=((c+1:Nat):Int):=by rw[AA (by omega) (by omega)];omega
  simp(maxSteps:=9^9)(disch:=omega)only[ZZ,simprocAttr,Ab,Fw,Br,Ax,bglC.ca,bglC.H0,bglC.H1,Cq,B1,Ch,sub,AO,O];refine⟨λaa=> ?_,λaa=> ?_⟩
  .rw[Q];refine⟨⟨by omega,by omega,by omega⟩,?_⟩;have hs:(List.range (i*n+c)).map (CB s n)++[⟨Ec ⟨#[103]⟩ ((i+1:Nat):Int) (c:Nat),x.Strength⟩]=(List.range (i*n+(c+1))).map (CB s n):=by
    rw[<-FA,F4,FV hn G aa,hx];rfl
   refine AL.os (((List.range (i*n+c)).map (CB s n),[]),(⟨Ec ⟨#[103]⟩ ((i+1:Nat):Int) (c:Nat),x.Strength⟩:Ad)) [0,7,2,3] (by simp only[Gh,I9];omega) (λj=>VJ _ _ j) rfl rfl ?_ ?_
   .simp(maxSteps:=9^9)(disch:=omega)only[ZZ,simprocAttr,Ab,Fw,Br,Ax,bglC.ca,bglC.H0,bglC.H1,Cq,B1,Ch,mgC.ca,mgC.H0,Cq,B5,EF,GQ,BD]
    try exact⟨rfl,rfl⟩
   simp(maxSteps:=9^9)(disch:=omega)only[ZZ,simprocAttr,Ab,Fw,Br,Ax,bglC.ca,bglC.H0,bglC.H1,Cq,B1,Ch,mgC.H1,B1,sub,EF,GQ,hs,ah];refine⟨⟨c+1,by omega⟩,[(7,some 8)],by simp only;omega,?_⟩;simp only[Ar];simp(maxSteps:=9^9)(disch:=omega)only[ZZ,simprocAttr,Ab,Fw,Br,Ax,bglC.ca,bglC.H0,bglC.H1,Cq,B1,Ch,AS,AR]
  .obtain rfl:c=n:=by omega
   have hj:i*c+c=(i+1)*c:=by rw[Du,EH]
   refine⟨⟨i+1,by omega⟩,[(5,some 7)],by simp only;omega,?_⟩;simp only[Ar];simp(maxSteps:=9^9)(disch:=omega)only[ZZ,simprocAttr,Ab,Fw,Br,Ax,bglC.ca,bglC.H0,bglC.H1,Cq,B1,Ch,AS,AR,Q,hj]
 obtain rfl:i=s.Glues.length:=by omega
 intro _;refine AY.ren ⟨{i:Nat//i<=s.Tiles.length},λi=>⟨[(40,.im (.int .i64 i.1)),(39,.im (.int .i64 s.Tiles.length)),(1,.ptr 4 0)],[(4,(true,.cells 64 [.ptr 0 0,.im (.sl false 2 (s.Glues.map Ad.c)),.im (.sl false 2 (s.Tiles.map Tile.c)),.im (.int .i64 n)])),(0,(true,.cells 76 [.own 6,.own 2,.mp 3])),(6,(true,.arr 108 2 (((List.range (s.Glues.length*n+i.1*Bu n)).map (CB s n)).map Ad.c))),(2,(true,.arr 98 2 [])),(3,(true,.map ⟨false,[.str]⟩ (BX ((List.range (s.Glues.length*n+i.1*Bu n)).map (CB s n)))))],7⟩,λi=>s.Tiles.length - i.1,λi=>⟨by simp[ZG],by simp⟩,⟨⟨0,Cz _⟩,[(6,some 5)],?_⟩,λi=> ?_⟩
 .simp only[Ar,J5,FO];simp(maxSteps:=9^9)(disch:=omega)only[ZZ,simprocAttr,Ab,Fw,Br,Ax,bglC.ca,bglC.H0,bglC.H1,Cq,B1,Ch,AS,AR]
  try exact⟨rfl,rfl⟩
 obtain⟨i,hi⟩:=i;have Q:IntKind.i64.wrap ((i:Int)+1)=((i+1:Nat):Int):=by rw[AA (by omega) (by omega)];omega
 simp(maxSteps:=9^9)(disch:=omega)only[ZZ,simprocAttr,Ab,Fw,Br,Ax,bglC.ca,bglC.H0,bglC.H1,Cq,B1,Ch,sub,AO,O];refine⟨λG=> ?_,λG=> ?_⟩;rotate_left
 .obtain rfl:i=s.Tiles.length:=by omega
  have hP:(List.range (s.Glues.length*n+s.Tiles.length*Bu n)).map (CB s n)=Dg s n:=rfl;rw[hP];refine⟨[],[(4,some 6)],⟨[],[(0,(true,.cells 76 [.own 4,.own 2,.mp 3])),(4,(true,.arr 108 2 ((Dg s n).map Ad.c))),(2,(true,.arr 98 2 [])),(3,(true,.map ⟨false,[.str]⟩ (BX (Dg s n))))],5⟩,?_,by simp[ZG],by simp,?_⟩
  .simp only[Ar];simp(maxSteps:=9^9)(disch:=omega)only[ZZ,simprocAttr,Ab,Fw,Br,Ax,bglC.ca,bglC.H0,bglC.H1,Cq,B1,Ch,AS,AR]
  .simp(maxSteps:=9^9)(disch:=omega)only[ZZ,simprocAttr,Ab,Fw,Br,Ax,bglC.ca,bglC.H0,bglC.H1,Cq,B1,Ch]
   try exact⟨rfl,rfl⟩
 have am:i*Bu n<=24000:=by rcases (by omega:n=1\/n=2\/n=3\/n=4) with rfl|rfl|rfl|rfl<;>simp only[Bu]<;>omega
 refine⟨hk,?_⟩;rw[Iz];intro _;refine AY.ren ⟨{t:Nat//t<=n*n},λt=>⟨[(48,.im (.int .i64 t.1)),(47,.im (.int .i64 ((n*n:Nat):Int))),(46,.im (.sl false 2 ((DO n (n*n)).map A7.c))),(6,.im (.int .i64 i)),(40,.im (.int .i64 i)),(39,.im (.int .i64 s.Tiles.length)),(1,.ptr 4 0)],[(4,(true,.cells 64 [.ptr 0 0,.im (.sl false 2 (s.Glues.map Ad.c)),.im (.sl false 2 (s.Tiles.map Tile.c)),.im (.int .i64 n)])),(0,(true,.cells 76 [.own 7,.own 2,.mp 3])),(7,(true,.arr 108 2 (((List.range (s.Glues.length*n+i*Bu n+IM n t.1)).map (CB s n)).map Ad.c))),(2,(true,.arr 98 2 [])),(3,(true,.map ⟨false,[.str]⟩ (BX ((List.range (s.Glues.length*n+i*Bu n+IM n t.1)).map (CB s n)))))],8⟩,λt=>n*n - t.1,λt=>⟨by simp[ZG],by simp⟩,⟨⟨0,Cz _⟩,[(7,some 6)],?_⟩,λt=> ?_⟩
 .simp only[Ar,sO,FO];simp(maxSteps:=9^9)(disch:=omega)only[ZZ,simprocAttr,Ab,Fw,Br,Ax,bglC.ca,bglC.H0,bglC.H1,Cq,B1,Ch,AS,AR]
  try exact⟨rfl,rfl⟩
 obtain⟨t,ht⟩:=t;have z:IntKind.i64.wrap ((t:Int)+1)=((t+1:Nat):Int):=by rw[AA (by omega) (by omega)];omega
 simp(maxSteps:=9^9)(disch:=omega)only[ZZ,simprocAttr,Ab,Fw,Br,Ax,bglC.ca,bglC.H0,bglC.H1,Cq,B1,Ch,sub,AO,O];have hcl:=Iz n (n*n);have d1:=Zk t n;have d2:=Zm t (show n>0 by omega);have d3:(0:Int)<=((t/n:Nat):Int):=yT _;have ai:=sM hn ht;refine⟨λZ=> ?_,λZ=> ?_⟩
 .refine⟨by omega,λp hp=> ?_⟩;obtain rfl:=VL (by omega) hp;refine⟨λhx=> ?_,λhx=> ?_⟩
  .simp only[DQ] at hx⊢;have ac:t % n<n - 1:=by omega
   obtain⟨q1,q2,q3⟩:=eJ hn (by omega) ac;refine⟨⟨by omega,by omega,by omega,by omega⟩,?_⟩;have hs:(List.range (s.Glues.length*n+i*Bu n+IM n t)).map (CB s n)++[⟨Cg ⟨#[104]⟩ (i:Nat) ((t % n:Nat):Int) ((t/n:Nat):Int),1⟩]=(List.range (s.Glues.length*n+i*Bu n+IM n (t+1))).map (CB s n):=by
    rw[q1,<-FA,F4,q2,FW hn ac q3]
   refine AL.os (((List.range (s.Glues.length*n+i*Bu n+IM n t)).map (CB s n),[]),(⟨Cg ⟨#[104]⟩ (i:Nat) ((t % n:Nat):Int) ((t/n:Nat):Int),1⟩:Ad)) [0,7,2,3] (by simp only[Gh,I9];omega) (λj=>VJ _ _ j) rfl rfl ?_ ?_
   .simp(maxSteps:=9^9)(disch:=omega)only[ZZ,simprocAttr,Ab,Fw,Br,Ax,bglC.ca,bglC.H0,bglC.H1,Cq,B1,Ch,mgC.ca,mgC.H0,Cq,B5,EF,GQ,BD]
    try exact⟨rfl,rfl⟩
   simp(maxSteps:=9^9)(disch:=omega)only[ZZ,simprocAttr,Ab,Fw,Br,Ax,bglC.ca,bglC.H0,bglC.H1,Cq,B1,Ch,mgC.H1,B1,sub,EF,GQ,hs,z];refine⟨⟨t+1,by omega⟩,[(7,some 9)],by simp only;omega,?_⟩;simp only[Ar];simp(maxSteps:=9^9)(disch:=omega)only[ZZ,simprocAttr,Ab,Fw,Br,Ax,bglC.ca,bglC.H0,bglC.H1,Cq,B1,Ch,AS,AR]
  .simp only[DQ] at hx;have q1:=Xk hn (show t<n*n by omega) (by omega);refine⟨⟨t+1,by omega⟩,[],by simp only;omega,?_⟩;simp only[Ar];simp(maxSteps:=9^9)(disch:=omega)only[ZZ,simprocAttr,Ab,Fw,Br,Ax,bglC.ca,bglC.H0,bglC.H1,Cq,B1,Ch,AS,AR,z,q1]
 obtain rfl:t=n*n:=by omega
 rw[sN hn];refine⟨hk,?_⟩;rw[Iz];intro _;clear ai d1 d2 d3 z Z ht;refine AY.ren ⟨{t:Nat//t<=n*n},λt=>⟨[(69,.im (.int .i64 t.1)),(68,.im (.int .i64 ((n*n:Nat):Int))),(67,.im (.sl false 2 ((DO n (n*n)).map A7.c))),(6,.im (.int .i64 i)),(40,.im (.int .i64 i)),(39,.im (.int .i64 s.Tiles.length)),(1,.ptr 4 0)],[(4,(true,.cells 64 [.ptr 0 0,.im (.sl false 2 (s.Glues.map Ad.c)),.im (.sl false 2 (s.Tiles.map Tile.c)),.im (.int .i64 n)])),(0,(true,.cells 76 [.own 8,.own 2,.mp 3])),(8,(true,.arr 108 2 (((List.range (s.Glues.length*n+i*Bu n+(n*(n - 1)+min t.1 (n*(n - 1))))).map (CB s n)).map Ad.c))),(2,(true,.arr 98 2 [])),(3,(true,.map ⟨false,[.str]⟩ (BX ((List.range (s.Glues.length*n+i*Bu n+(n*(n - 1)+min t.1 (n*(n - 1))))).map (CB s n)))))],9⟩,λt=>n*n - t.1,λt=>⟨by simp[ZG],by simp⟩,⟨⟨0,Cz _⟩,[(8,some 7)],?_⟩,λt=> ?_⟩
 .simp only[Ar,Nat.zero_min,FO];simp(maxSteps:=9^9)(disch:=omega)only[ZZ,simprocAttr,Ab,Fw,Br,Ax,bglC.ca,bglC.H0,bglC.H1,Cq,B1,Ch,AS,AR]
  try exact⟨rfl,rfl⟩
 obtain⟨t,ht⟩:=t;have z:IntKind.i64.wrap ((t:Int)+1)=((t+1:Nat):Int):=by rw[AA (by omega) (by omega)];omega
 simp(maxSteps:=9^9)(disch:=omega)only[ZZ,simprocAttr,Ab,Fw,Br,Ax,bglC.ca,bglC.H0,bglC.H1,Cq,B1,Ch,sub,AO,O];have d1:=Zk t n;have d2:=Zm t (show n>0 by omega);have d3:(0:Int)<=((t/n:Nat):Int):=yT _;refine⟨λZ=> ?_,λZ=> ?_⟩
 .refine⟨by omega,λp hp=> ?_⟩;obtain rfl:=VL (by omega) hp;refine⟨λhy=> ?_,λhy=> ?_⟩
  .simp only[DQ] at hy⊢;have ad:t/n<n - 1:=by omega
   obtain⟨q1,q2,q3⟩:=gK hn (by omega) ad;refine⟨⟨by omega,by omega,by omega,by omega⟩,?_⟩;have hs:(List.range (s.Glues.length*n+i*Bu n+(n*(n - 1)+min t (n*(n - 1))))).map (CB s n)++[⟨Cg ⟨#[118]⟩ (i:Nat) ((t % n:Nat):Int) ((t/n:Nat):Int),1⟩]=(List.range (s.Glues.length*n+i*Bu n+(n*(n - 1)+min (t+1) (n*(n - 1))))).map (CB s n):=by
    rw[rH (show t<=n*(n - 1) by omega),rH (show t+1<=n*(n - 1) by omega),<-FA (n*(n - 1)),<-FA _ _ 1,F4,<-FX hn q3 ad,q2]
   refine AL.os (((List.range (s.Glues.length*n+i*Bu n+(n*(n - 1)+min t (n*(n - 1))))).map (CB s n),[]),(⟨Cg ⟨#[118]⟩ (i:Nat) ((t % n:Nat):Int) ((t/n:Nat):Int),1⟩:Ad)) [0,8,2,3] (by simp only[Gh,I9];omega) (λj=>VJ _ _ j) rfl rfl ?_ ?_
   .simp(maxSteps:=9^9)(disch:=omega)only[ZZ,simprocAttr,Ab,Fw,Br,Ax,bglC.ca,bglC.H0,bglC.H1,Cq,B1,Ch,mgC.ca,mgC.H0,Cq,B5,EF,GQ,BD]
    try exact⟨rfl,rfl⟩
   simp(maxSteps:=9^9)(disch:=omega)only[ZZ,simprocAttr,Ab,Fw,Br,Ax,bglC.ca,bglC.H0,bglC.H1,Cq,B1,Ch,mgC.H1,B1,sub,EF,GQ,hs,z];refine⟨⟨t+1,by omega⟩,[(8,some 10)],by simp only;omega,?_⟩;simp only[Ar];simp(maxSteps:=9^9)(disch:=omega)only[ZZ,simprocAttr,Ab,Fw,Br,Ax,bglC.ca,bglC.H0,bglC.H1,Cq,B1,Ch,AS,AR]
  .simp only[DQ] at hy;have q1:=Y3 hn (show t<n*n by omega) (by omega);have q2:min (t+1) (n*(n - 1))=min t (n*(n - 1)):=by omega
   refine⟨⟨t+1,by omega⟩,[],by simp only;omega,?_⟩;simp only[Ar];simp(maxSteps:=9^9)(disch:=omega)only[ZZ,simprocAttr,Ab,Fw,Br,Ax,bglC.ca,bglC.H0,bglC.H1,Cq,B1,Ch,AS,AR,z,q2]
 obtain rfl:t=n*n:=by omega
 have hj:s.Glues.length*n+i*Bu n+(n*(n - 1)+min (n*n) (n*(n - 1)))=s.Glues.length*n+(i+1)*Bu n:=by
  rw[Nat.min_eq_right af,ag,Du i 1,EH,FA]
 refine⟨⟨i+1,by omega⟩,[(6,some 8)],by simp only;omega,?_⟩;simp only[Ar];simp(maxSteps:=9^9)(disch:=omega)only[ZZ,simprocAttr,Ab,Fw,Br,Ax,bglC.ca,bglC.H0,bglC.H1,Cq,B1,Ch,AS,AR,Q,hj]
end Go.Ae
namespace Go.Ae
open Go.Proofs
end Go.Ae
namespace Go.Ae
open Go.Proofs Go.Sort Go.Shelf
instance:Inhabited A7:=⟨⟨0,0⟩⟩
end Go.Ae
namespace Go.Ae
open Go.Proofs
end Go.Ae
namespace Go.Ae
open Go.Proofs Go.RowKit Go.Lib Go.Sort
end Go.Ae
namespace Go.Ae
open Go.Proofs
def EV.os{A:Type}{ar:List PK->Option A}{pre:A->Prop}{r0:A->AV}{H1:A->Ao}{cnt:Nat}{args:List AV}{h:Nat->Option Am}{nx:Nat}{K:Ah}(ps:List PK)(G:BR h args=some ps)(a:A)(Q:ar ps=some a)(z:pre a)
 (O:K ((r0 a).ren (B0 (λj=>j) 0 nx)) {use:=DV h args,new:=AX (B0 (λj=>j) 0 nx) (H1 a),cnt:=cnt}):EV ar pre r0 H1 cnt args h nx K:=by
 unfold EV;rw[G];simp only[JS,Q,DE];exact⟨z,O⟩
def tM{h:Nat->Option Am}{o T k:Nat}{z:Bool}{rows:List (List D)}(g:h o=some (z,.arr T k rows)):BR h [.own o]=some [.val (.sl false k rows)]:=by
 simp only[BR,DN,bk,g,ND,DU,FT,D7]
def asmX.ca(l:List Al):List AV:=[.im (.sl false 3 (l.map Al.c))]
def asmX.H1(l:List Al):Ao:=[(0,(true,.arr 89 3 ((Dw l).map Al.c)))]
def asmX.r0(_:List Al):AV:= .agg [.own 0]
def asmX.row:AE:=AL asmX.ca (λ_=>[]) 0 (λl=>(l.map Al.At).Nodup/\l.length<=1000000) (λ_=>false) asmX.r0 asmX.H1 20
def asmX.ok:AI 53 asmX.row:=by
 refine Td (tC clonC.ok (tC srt.ok tN)) Tryz.func53 (exB:=λj=>j==0) (R:=λa r=>r=asmX.r0 a) (λ_=>rfl)
  (λa=>by simp[asmX.ca,asmX.H1,AD,AV.bel,Av,BB,BU,Ac.nms,Aw,AV.nms,Aj,hget]) (λa p hp=> ?_) (λa r h=>by subst h;exact Dh.refl _) ?_
 rotate_left
 intro a z;simp only[Tryz.f53,Option.getD,asmX.ca,asmX.H1];simp only[ZZ,simprocAttr,Ab,Br,Ax,asmX.ca,asmX.H1];refine AL.os a [] z.2 (λj=>by simp[Aj,hget]) rfl rfl ?_ ?_
 .simp only[ZZ,simprocAttr,Ab,Br,Ax,asmX.ca,asmX.H1,clonC.ca,D5,Qq]
 simp only[ZZ,simprocAttr,Ab,Br,Ax,asmX.ca,asmX.H1,clonC.H1,sub];refine AL.os a [1] z.1 (λj=> ?_) rfl rfl ?_ ?_
 .simp only[Aj,srt.H0,hget];by_cases G:j=0
  .subst G;simp
  .have:(0==j)=false:=by simpa using λh=>G h.symm
   rw[this];simp;omega
 .simp only[ZZ,simprocAttr,Ab,Br,Ax,asmX.ca,asmX.H1,srt.ca,srt.H0,D5]
  try exact⟨rfl,rfl⟩
 simp only[ZZ,simprocAttr,Ab,Br,Ax,asmX.ca,asmX.H1,srt.H1,sub,EF,GQ];refine⟨[],[(1,some 0),(0,some 1)],⟨[(2,.ptr 1 0)],[(1,(true,.cells 38 [.own 0])),(0,(true,.arr 89 3 ((Dw a).map Al.c)))],2⟩,?_,by simp[ZG],by simp,?_⟩
 .simp only[Ar];simp only[ZZ,simprocAttr,Ab,Br,Ax,asmX.ca,asmX.H1,AS,AR]
  try simp
 .simp only[ZZ,simprocAttr,Ab,Br,Ax,asmX.ca,asmX.H1,asmX.r0]
 simp[asmX.H1] at hp;subst hp;exact .inr ⟨by omega,by omega,rfl,rfl⟩
def asmXV.ar:List PK->Option (List Al):=a1 (kS Al.d)
def asmXV.row:AE:=EV asmXV.ar (λl=>(l.map Al.At).Nodup/\l.length<=1000000) asmX.r0 asmX.H1 20
def asmXV.ok:AI 53 asmXV.row:=
 mK (A:=List Al) (ca:=λ(a:List Al)=>[D.sl false 3 (a.map Al.c)]) (by kernel_rfl) asmX.ok (λ_=>rfl) (Zo (Zz 3 Al.d_le (λ_=>rfl)))
  (λa=>by simp[asmX.r0,Hn,Ej,D.sc,AV.nms,Aw])
  (λa p hp=>by
   simp only[asmX.H1,BL] at hp;subst hp;exact⟨by omega,rfl,by simp[HU,Al.c,D.sc],by simp[Ac.nms]⟩)
end Go.Ae
namespace Go.Ae
open Go.Proofs Go.Lib
def hfF_.fv(a:A9):Bool:=(λa=>CS none a.Tiles && decide (a.Tiles.length<=500)) a
def hfF_.row:AE:=CG (b1 (qR A9.d_le)) rB (λa=>True) hfF_.fv
def hfF_.q:=CH (R:=hfF_.row) rfl
def hfF_.ok:AI 54 hfF_.row:=Y0 (λ_=>rfl) hasForm_.ok
def scuC.ca(a:A9×Int):List AV:=[.im (.agg (A9.c a.1)),.im (.int .i64 a.2)]
def scuC.pre(a:A9×Int):Prop:=(CS none a.1.Tiles=true/\a.1.Tiles.length<=500)/\1<=a.2/\a.2<=4
def scuC.r0(a:A9×Int):AV:=if (CF a.1 a.2.toNat).2=true then .tup [.agg [.own 3],.im (.int .i64 0)] else .im (.tup [.agg [.sl true 0 []],.int .i64 4])
def scuC.H1(a:A9×Int):Ao:=if (CF a.1 a.2.toNat).2=true then [(3,(true,.arr 89 3 ((Dw (Bp a.2.toNat a.1.Tiles)).map Al.c)))] else []
def scuC.row:AE:=AL scuC.ca (λ_=>[]) 0 scuC.pre (λ_=>false) scuC.r0 scuC.H1 100
def PD:=J @bcd_.q<|J @bcd_.fv.eq_1<|J @cls_.q<|J @cls_.fv.eq_1<|J @ptof_.q<|J @ptof_.fv.eq_1<|J @hfF_.q @hfF_.fv.eq_1
def scuC.ok:AI 22 scuC.row:=by
 refine Td (tC bcd_.ok (tC cls_.ok (tC ptof_.ok (tC asmXV.ok (tC hfF_.ok tN))))) Tryz.func22 (exB:=λj=>j==3) (R:=λa r=>r=scuC.r0 a) (λ_=>rfl)
  (λa=>by simp[scuC.ca,A9.c,AD,AV.bel,Av,BB,BU,Ac.nms,Aw,AV.nms,Aj,hget]) (λa p hp=> ?_) (λa r h=>by subst h;exact Dh.refl _) ?_
 rotate_left
 intro a Z;simp only[Tryz.f22,Option.getD,scuC.ca,A9.c];simp(maxSteps:=9^9)(disch:=omega)only[ZZ,simprocAttr,Ab,PD,Br,Ax,scuC.ca,A9.c];rotate_left
 .simp only[scuC.H1] at hp;split at hp
  .simp only[BL] at hp;subst hp;exact .inr ⟨by omega,by omega,rfl,rfl⟩
  .cases hp
 obtain⟨a,k⟩:=a;obtain⟨⟨G,h2⟩,hk⟩:=Z;simp only at G h2 hk⊢;obtain⟨n,rfl⟩: ∃n:Nat,k=n:=⟨k.toNat,by omega⟩;have hn:1<=n/\n<=4:=by omega
 have hw:Bw (n:Int) 1 4=true:=by simp[Bw];omega
 have ah:n*n<=16:=by rcases (by omega:n=1\/n=2\/n=3\/n=4) with rfl|rfl|rfl|rfl<;>decide
 rw[Ai (show CS none a.Tiles=true/\a.Tiles.length<=500 from ⟨G,h2⟩),Ai hw,Af (by simp)];intro _;refine AY.ren ⟨{i:Nat//i<=a.Tiles.length},λi=>⟨[(23,.im (.int .i64 i.1)),(22,.im (.int .i64 a.Tiles.length)),(21,.im (.sl false 3 (a.Tiles.map Al.c))),(7,.own 3),(5,.im (.int .i64 0)),(4,.ptr 1 0),(1,.im (.int .i64 n))],[(3,(true,.arr 89 3 ((Bp n (a.Tiles.take i.1)).map Al.c))),(1,(true,.cells 38 [.im (.sl true 0 [])]))],4⟩,λi=>a.Tiles.length - i.1,λi=>⟨by simp[ZG],by simp⟩,⟨⟨0,Cz _⟩,[(3,some 2)],?_⟩,λi=> ?_⟩
 .simp only[Ar,Bp,Eo,zI,BD];simp(maxSteps:=9^9)(disch:=omega)only[ZZ,simprocAttr,Ab,PD,Br,Ax,scuC.ca,A9.c,AS,AR]
 obtain⟨i,hi⟩:=i;have ac:IntKind.i64.wrap ((i:Int)+1)=((i+1:Nat):Int):=by rw[AA (by omega) (by omega)];omega
 simp(maxSteps:=9^9)(disch:=omega)only[ZZ,simprocAttr,Ab,PD,Br,Ax,scuC.ca,A9.c,sub,AO];have af:(Bp n (a.Tiles.take i)).length<=8000:=by
  rw[bD,Ck]
  have:min i a.Tiles.length<=500:=by omega
  generalize min i a.Tiles.length=m at this;rcases (by omega:n=1\/n=2\/n=3\/n=4) with rfl|rfl|rfl|rfl<;>omega
 refine⟨λQ=>⟨Q,λx hx=>⟨hk,?_⟩⟩,λQ=> ?_⟩
 .have ag:=Bf hx;have O:=iC _ _ G x ag;simp only[Ht,Bw,AW,Cy] at O;obtain⟨⟨⟨f1,f2⟩,f3,f4⟩,f5,f6⟩:=O;rw[Iz];intro _;refine AY.ren ⟨{c:Nat//c<=n*n},λc=>⟨[(30,.im (.int .i64 c.1)),(29,.im (.int .i64 ((n*n:Nat):Int))),(28,.im (.sl false 2 ((DO n (n*n)).map A7.c))),(9,.ptr 4 0),(23,.im (.int .i64 i)),(22,.im (.int .i64 a.Tiles.length)),(21,.im (.sl false 3 (a.Tiles.map Al.c))),(7,.own 5),(5,.im (.int .i64 0)),(4,.ptr 1 0),(1,.im (.int .i64 n))],[(4,(true,.cells 89 [.im (.int .i64 x.At.X),.im (.int .i64 x.At.Y),.im (.int .i64 x.Tile)])),(5,(true,.arr 89 3 ((Bp n (a.Tiles.take i)++(List.range c.1).map (J6 n x)).map Al.c))),(1,(true,.cells 38 [.im (.sl true 0 [])]))],6⟩,λc=>n*n - c.1,λc=>⟨by simp[ZG],by simp⟩,⟨⟨0,Cz _⟩,[(5,some 3)],?_⟩,λc=> ?_⟩
  .simp only[Ar,Vk,BD,D6];simp(maxSteps:=9^9)(disch:=omega)only[ZZ,simprocAttr,Ab,PD,Br,Ax,scuC.ca,A9.c,AS,AR]
   try exact⟨rfl,rfl⟩
  obtain⟨c,hc⟩:=c;have ab:IntKind.i64.wrap ((c:Int)+1)=((c+1:Nat):Int):=by rw[AA (by omega) (by omega)];omega
  have e4:IntKind.i64.wrap (IntKind.i64.wrap (IntKind.i64.wrap (x.Tile*(n:Int))*n)+c)=x.Tile*n*n+c:=by
   rcases (by omega:n=1\/n=2\/n=3\/n=4) with rfl|rfl|rfl|rfl<;>simp (disch:=omega) only[AA]
  have hcl:=Iz n (n*n);simp(maxSteps:=9^9)(disch:=omega)only[ZZ,simprocAttr,Ab,PD,Br,Ax,scuC.ca,A9.c,sub,AO,e4];refine⟨λaa=>⟨by omega,λp hp=> ?_⟩,λaa=> ?_⟩
  .obtain rfl:=VL (by omega) hp;have d1:=Zk c n;have d2:=Zm c (show n>0 by omega);have d3:(0:Int)<=((c/n:Nat):Int):=yT _;have hd:c/n<=10:=by rcases (by omega:n=1\/n=2\/n=3\/n=4) with rfl|rfl|rfl|rfl<;>omega
   have hr:List.map Al.c (Bp n (a.Tiles.take i)++(List.range c).map (J6 n x))++[[D.int .i64 ((n:Int)*x.At.X+(DQ n c).X),D.int .i64 ((n:Int)*x.At.Y+(DQ n c).Y),D.int .i64 (x.Tile*n*n+c)]]=(Bp n (a.Tiles.take i)++(List.range (c+1)).map (J6 n x)).map Al.c:=by
    rw[F4,<-J0,En (l₁:=Bp n (a.Tiles.take i)++_)];simp only[Bb,BD,Al.c,J6,DQ,Int.mul_comm (n:Int)]
   refine⟨⟨⟨by omega,by omega,by omega,by omega⟩,⟨by simp only[DQ];omega,by simp only[DQ];omega,by simp only[DQ];omega,by simp only[DQ];omega⟩,hk⟩,?_⟩;refine⟨by simp only[DZ,Gh,I9];omega,⟨c+1,by omega⟩,[(5,some 8)],by simp only;omega,?_⟩;simp only[Ar];simp(maxSteps:=9^9)(disch:=omega)only[ZZ,simprocAttr,Ab,PD,Br,Ax,scuC.ca,A9.c,AS,AR,ab,hr]
  .obtain rfl:c=n*n:=by omega
   refine⟨⟨i+1,by omega⟩,[(3,some 5)],by simp only;omega,?_⟩;simp only[Ar];simp(maxSteps:=9^9)(disch:=omega)only[ZZ,simprocAttr,Ab,PD,Br,Ax,scuC.ca,A9.c,AS,AR,ac,aU hx]
 .obtain rfl:i=a.Tiles.length:=by omega
  rw[IB];have ad:=aX hn (Qix G);rw[IB] at af;refine EV.os [.val (.sl false 3 ((Bp n a.Tiles).map Al.c))] (tM rfl) (Bp n a.Tiles) (by simp only[asmXV.ar,a1,kS,Al.d_R,GE]) ⟨ad,by omega⟩ ?_;have z:=TX hn (Qix G) (λx hx=>by have:=(iC _ _ G x hx).2;simp only[Bw,AW,Cy] at this;exact this.1);simp(maxSteps:=9^9)(disch:=omega)only[ZZ,simprocAttr,Ab,PD,Br,Ax,scuC.ca,A9.c,asmX.r0,asmX.H1,sub];rw[z];by_cases c9:(CF a n).2=true
  .rw[Af (by rw[c9];decide)];refine⟨[],[(3,some 4),(4,some 1)],⟨[(5,.im (.int .i64 0)),(4,.ptr 4 0)],[(4,(true,.cells 38 [.own 3])),(3,(true,.arr 89 3 ((Dw (Bp n a.Tiles)).map Al.c)))],5⟩,?_,by simp[ZG],by simp,?_⟩
   .simp only[Ar];simp(maxSteps:=9^9)(disch:=omega)only[ZZ,simprocAttr,Ab,PD,Br,Ax,scuC.ca,A9.c,AS,AR]
   .simp only[scuC.H1,scuC.r0,Bj,Ai c9];simp(maxSteps:=9^9)(disch:=omega)only[ZZ,simprocAttr,Ab,PD,Br,Ax,scuC.ca,A9.c]
    try exact⟨rfl,rfl⟩
  .rw[Ai (by simpa using c9)];refine⟨[],[],⟨[(5,.im (.int .i64 4)),(4,.ptr 1 0)],[(1,(true,.cells 38 [.im (.sl true 0 [])]))],2⟩,?_,by simp[ZG],by simp,?_⟩
   .simp only[Ar];simp(maxSteps:=9^9)(disch:=omega)only[ZZ,simprocAttr,Ab,PD,Br,Ax,scuC.ca,A9.c,AS,AR]
   .simp only[scuC.H1,scuC.r0,Bj,Af c9];simp(maxSteps:=9^9)(disch:=omega)only[ZZ,simprocAttr,Ab,PD,Br,Ax,scuC.ca,A9.c]
    try exact⟨rfl,rfl⟩
end Go.Ae
namespace Go.Ae
open Go.Proofs
def RZ(k:Int)(n:Nat):EW (Hm k n) k=k+n:=by
 simp only[EW,Qg,B5]
def needX.pre(a:JJ):Prop:=(∀o∈a.Seq,Qw o.At)/\a.Inputs.length=a.Seq.length/\a.Seq.length<=500
def LM(π:List (Nat×Option Nat)): ∀a b:Ao,Es π (a++b)=Es π a++Es π b
 |[],_=>rfl
 |(n,_)::r,b=>by simp only[BG,Es,LM π r b]
def aK: ∀a b:List (Option Nat),Cr a=true->Cr b=true->(∀m,some m∈a->some m∉b)->Cr (a++b)=true
 |[],_,_,h,_=>h
 |none::r,b,z,O,G=>by
  simp only[BG,Cr] at z⊢;exact aK r b z O λm Q=>G m (BK _ Q)
 |some x::r,b,z,O,G=>by
  simp only[BG,Cr,AW,PL,List.contains_eq_mem,Bz,J3] at z⊢;refine⟨λh=> ?_,aK r b z.2 O λm Q=>G m (BK _ Q)⟩;rcases h with h|h
  .exact z.1 h
  .exact G x (BQ ..) h
def Ny{lo:Nat}{π:List (Nat×Option Nat)}{s:Az}{tm:List (Nat×AV)}{A:Ao}{b n nx:Nat}{f:Nat->Am}(g:Nat->Nat)(aa:HO lo π)(hA:Cr (Es π A)=true)(z: ∀i,i<n->pm π (b+i)=some (g i))(hg: ∀i j,i<n->j<n->g i=g j->i=j)
 (hd: ∀m,some m∈Es π A-> ∀i,i<n->g i≠m)(hT:H4 π s tm)(Z:ES π s A)(hE: ∀i,i<n->CE s π (f i).1 (f i).2 (some (g i))):Ar lo π s ⟨tm,A++AG b n f,nx⟩:=by
 have e:Es π (AG b n f)=(List.range n).map λi=>pm π (b+i):=by
  rw[YK,VZ,Km];rfl
 refine⟨aa,?_,hT,?_⟩
 .simp only;rw[LM,e];refine aK _ _ hA (YO _ _ zJ λx O y Q m h1 h2=> ?_) λm hm h=> ?_
  .have O:=Bk.1 O;have Q:=Bk.1 Q;rw[z x O] at h1;rw[z y Q] at h2;exact hg x y O Q (AB (h1.trans h2.symm))
  .obtain⟨i,G,h⟩:=Bn.1 h;have G:=Bk.1 G;rw[z i G] at h;exact hd m hm i G (AB h)
 .simp only;rw[wL];exact⟨Z,(YG _ _ _ _ _).2 λi G=>by rw[z i G];exact hE i G⟩
def mJ{N b n:Nat}{f:Nat->Am}{tm:List (Nat×AV)}{A:Ao}(O:Cp N tm=true)(z:Av N A=true)(G:BB N A=true)(hf: ∀i,Av N [(b+i,f i)]=true)(h:b+n<=N):Az.good ⟨tm,A++AG b n f,N⟩=true:=by
 simp only[Az.good,iH,vX,O,z,G,Ew,AW];exact⟨N9 _ _ _ hf _,N6 _ _ _ _ h⟩
def JQ{b n k:Nat}{f:Nat->Am}(h:k<b\/b+n<=k):Ba (AG b n f) [k]=AG b n f:=Iw _ _ _ _ λx z=>by rw[BL] at z;subst z;exact h
end Go.Ae
