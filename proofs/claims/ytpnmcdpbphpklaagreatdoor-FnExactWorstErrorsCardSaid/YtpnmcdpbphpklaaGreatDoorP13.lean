/- Lemmas. Conditions: none. -/
import Derived.Test.YtpnmcdpbphpklaaGreatDoorP12
import Derived.Shelf.SlSortCmp.WholeK
import Derived.Shelf.SlicesG.Cmp
import Derived.StillTailTactics
import Derived.Lib.Small
import Derived.Lib.Walk
import Derived.Shelf.SlSortCmp.NoneTotal
set_option linter.all false
set_option maxHeartbeats 8000000
set_option maxRecDepth 100000
namespace Go.Proofs
open Go.Shelf
def Tryz.sortPt_ren:Go.Shelf.Ren:=⟨λ|6=>212|15=>196|14=>255|28=>241|29=>242|20=>282|21=>283|22=>284|23=>285|24=>286|25=>287|26=>288|27=>289|46=>303|47=>271|48=>272|49=>304|50=>305|57=>311|n=>n,λ|22=>88|24=>70|25=>197|3=>3|39=>238|0=>0|53=>302|55=>304|4=>4|46=>296|45=>295|50=>176|5=>5|9=>9|66=>332|70=>336|76=>361|77=>362|n=>n,λ|n=>n⟩
def Tryz.sortPt:Go.Proofs.SlLaysF0.n6 Tryz.prog Tryz.sortPt_ren:={
 mixed:=by kernel_rfl
 f6:=⟨Tryz.f212.name,by decide,Tryz.func212.trans (BY some (by kernel_rfl))⟩
 f14:=⟨Tryz.f255.name,by decide,Tryz.func255.trans (BY some (by kernel_rfl))⟩
 f15:=Tryz.func196.trans (BY some (by kernel_rfl))
 f20:=⟨Tryz.f282.name,by decide,Tryz.func282.trans (BY some (by kernel_rfl))⟩
 f21:=⟨Tryz.f283.name,by decide,Tryz.func283.trans (BY some (by kernel_rfl))⟩
 f22:=⟨Tryz.f284.name,by decide,Tryz.func284.trans (BY some (by kernel_rfl))⟩
 f23:=⟨Tryz.f285.name,by decide,Tryz.func285.trans (BY some (by kernel_rfl))⟩
 f24:=⟨Tryz.f286.name,by decide,Tryz.func286.trans (BY some (by kernel_rfl))⟩
 f25:=⟨Tryz.f287.name,by decide,Tryz.func287.trans (BY some (by kernel_rfl))⟩
 f26:=⟨Tryz.f288.name,by decide,Tryz.func288.trans (BY some (by kernel_rfl))⟩
 f27:=⟨Tryz.f289.name,by decide,Tryz.func289.trans (BY some (by kernel_rfl))⟩
 f28:=Tryz.func241.trans (BY some (by kernel_rfl))
 f29:=Tryz.func242.trans (BY some (by kernel_rfl))
 f46:=⟨Tryz.f303.name,by decide,Tryz.func303.trans (BY some (by kernel_rfl))⟩
 f47:=Tryz.func271.trans (BY some (by kernel_rfl))
 f48:=Tryz.func272.trans (BY some (by kernel_rfl))
 f49:=⟨Tryz.f304.name,by decide,Tryz.func304.trans (BY some (by kernel_rfl))⟩
 f50:=⟨Tryz.f305.name,by decide,Tryz.func305.trans (BY some (by kernel_rfl))⟩
 f57:=⟨Tryz.f311.name,by decide,Tryz.func311.trans (BY some (by kernel_rfl))⟩
 t0:=Tryz.underlying0
 a0:=Tryz.isAgg0
 z0:=Tryz.sizeOf0
 v0:=Tryz.zeroValue0
 t3:=Tryz.underlying3
 a3:=Tryz.isAgg3
 z3:=Tryz.sizeOf3
 v3:=Tryz.zeroValue3
 t4:=Tryz.underlying4
 a4:=Tryz.isAgg4
 z4:=Tryz.sizeOf4
 v4:=Tryz.zeroValue4
 t5:=Tryz.underlying5
 a5:=Tryz.isAgg5
 z5:=Tryz.sizeOf5
 v5:=Tryz.zeroValue5
 t9:=Tryz.underlying9
 a9:=Tryz.isAgg9
 z9:=Tryz.sizeOf9
 v9:=Tryz.zeroValue9
 t22:=Tryz.underlying88
 a22:=Tryz.isAgg88
 z22:=Tryz.sizeOf88
 v22:=Tryz.zeroValue88
 t25:=Tryz.underlying197
 a25:=Tryz.isAgg197
 z25:=Tryz.sizeOf197
 v25:=Tryz.zeroValue197
 t39:=Tryz.underlying238
 a39:=Tryz.isAgg238
 z39:=Tryz.sizeOf238
 v39:=Tryz.zeroValue238
 t45:=Tryz.underlying295
 a45:=Tryz.isAgg295
 z45:=Tryz.sizeOf295
 v45:=Tryz.zeroValue295
 t46:=Tryz.underlying296
 a46:=Tryz.isAgg296
 z46:=Tryz.sizeOf296
 v46:=Tryz.zeroValue296
 t50:=Tryz.underlying176
 a50:=Tryz.isAgg176
 z50:=Tryz.sizeOf176
 v50:=Tryz.zeroValue176
 t53:=Tryz.underlying302
 a53:=Tryz.isAgg302
 z53:=Tryz.sizeOf302
 v53:=Tryz.zeroValue302
 t55:=Tryz.underlying304
 a55:=Tryz.isAgg304
 z55:=Tryz.sizeOf304
 v55:=Tryz.zeroValue304
 t66:=Tryz.underlying332
 a66:=Tryz.isAgg332
 z66:=Tryz.sizeOf332
 v66:=Tryz.zeroValue332
 t70:=Tryz.underlying336
 a70:=Tryz.isAgg336
 z70:=Tryz.sizeOf336
 v70:=Tryz.zeroValue336
 t76:=Tryz.underlying361
 a76:=Tryz.isAgg361
 z76:=Tryz.sizeOf361
 v76:=Tryz.zeroValue361
 t77:=Tryz.underlying362
 a77:=Tryz.isAgg362
 z77:=Tryz.sizeOf362
 v77:=Tryz.zeroValue362}
def Tryz.cmpI64_ren:Go.Shelf.Ren:=⟨λ|5=>183|7=>224|n=>n,λ|22=>2|3=>3|4=>4|n=>n,λ|n=>n⟩
def Tryz.cmpI64:Go.Proofs.SlLaysC2.n5 Tryz.prog Tryz.cmpI64_ren:={
 mixed:=by kernel_rfl
 f5:=⟨Tryz.f183.name,by decide,Tryz.func183.trans (BY some (by kernel_rfl))⟩
 f7:=⟨Tryz.f224.name,by decide,Tryz.func224.trans (BY some (by kernel_rfl))⟩
 t3:=Tryz.underlying3
 a3:=Tryz.isAgg3
 z3:=Tryz.sizeOf3
 v3:=Tryz.zeroValue3
 t4:=Tryz.underlying4
 a4:=Tryz.isAgg4
 z4:=Tryz.sizeOf4
 v4:=Tryz.zeroValue4
 t22:=Tryz.underlying2
 a22:=Tryz.isAgg2
 z22:=Tryz.sizeOf2
 v22:=Tryz.zeroValue2}
end Go.Proofs
namespace Go.Proofs
open Go.Shelf Go.RowKit Go.Lib Go.Sort
def Tryz.cmp64(x y:Int)(W:World):Calls Tryz.prog 183 #[.int .i64 x,.int .i64 y] W λe w'=>e= .returned (.int .i64 (Lib.compareInt x y))/\w'=W:=
 AnyG.cmp_Compare_int Tryz.cmpI64 x y W
def Tryz.orTwo(b:Nat)(x y:Int)(W:World)(h0:W.cell? ⟨b,0,none⟩=some (.int .i64 x))(z:W.cell? ⟨b,1,none⟩=some (.int .i64 y)):
 Calls Tryz.prog 182 #[.slice (some ⟨b,0,none⟩) 2 2] W λe w'=>e= .returned (.int .i64 (if x=0 then y else x))/\w'=W:=by
 go_enter Tryz.func182,Tryz.ntmps182
 go_wp2
 refine wp_loop_rounds 3 ?_;rw[rounds_succ]
 go_wp2
 all_goals (try rw[rounds_succ])
 all_goals (try go_wp2)
 all_goals (try rw[rounds_succ])
 all_goals (try go_wp2)
 all_goals (go_ret;refine⟨?_,rfl⟩;simp_all)
def PA(W:World)(a b a' b':Value)(T:TypeId):
 let z:=((W.alloc (Obj.cells #[a,b] T)).alloc (Obj.cells #[a',b'] T)).drew
 z.cell? ⟨W.heap.size,0,none⟩=some a/\z.cell? ⟨W.heap.size,1,none⟩=some b/\z.cell? ⟨W.heap.size+1,0,none⟩=some a'/\z.cell? ⟨W.heap.size+1,1,none⟩=some b'/\
  ∃G,z=grow (W.drewN 1) G:=by
 have e:((W.alloc (Obj.cells #[a,b] T)).alloc (Obj.cells #[a',b'] T)).drew=grow (W.drewN 1) #[Obj.cells #[a,b] T,Obj.cells #[a',b'] T]:=by
  rw[alloc_eq_grow,alloc_eq_grow,grow_grow];rfl
 have h0:(W.heap++ #[Obj.cells #[a,b] T,Obj.cells #[a',b'] T])[W.heap.size]? =some (Obj.cells #[a,b] T):=by
  rw[Zez (AF _),G5];rfl
 have O:(W.heap++ #[Obj.cells #[a,b] T,Obj.cells #[a',b'] T])[W.heap.size+1]? =some (Obj.cells #[a',b'] T):=by
  rw[Zez (Rj _),show W.heap.size.succ - W.heap.size=1 by omega];rfl
 simp only[e];refine⟨?_,?_,?_,?_,_,rfl⟩<;>unfold World.cell? <;>simp only[grow,World.drewN,h0,O]<;>rfl
def Qvb(w:World)(a b:Value)(T:TypeId):(w.alloc (Obj.cells #[a,b] T)).cell? ⟨w.heap.size,0,none⟩=some a/\(w.alloc (Obj.cells #[a,b] T)).cell? ⟨w.heap.size,1,none⟩=some b:=by
 have h0:(w.heap.push (Obj.cells #[a,b] T))[w.heap.size]? =some (Obj.cells #[a,b] T):=by simp
 constructor<;>unfold World.cell? <;>simp only[World.alloc,h0]<;>rfl
def Mn(p q:Int×Int):Int:=if Lib.compareInt p.2 q.2=0 then Lib.compareInt p.1 q.1 else Lib.compareInt p.2 q.2
def Tryz.cmpPoints(x y x' y':Int)(W:World):Calls Tryz.prog 135 #[.agg #[.int .i64 x,.int .i64 y],.agg #[.int .i64 x',.int .i64 y']] W λe w'=>
 e= .returned (.int .i64 (Mn (x,y) (x',y')))/\ ∃q Q,w'=grow (W.drewN q) Q:=by
 have z:=λW'=>Tryz.cmp64 y y' W'
 have G:=λW'=>Tryz.cmp64 x x' W'
 unfold Mn;simp only;generalize Lib.compareInt y y'=r1 at z⊢;generalize Lib.compareInt x x'=r2 at G⊢;have O:=λ(b:Nat) W'=>Tryz.orTwo b r1 r2 W'
 generalize (if r1=0 then r2 else r1)=r at O⊢
 go_enter Tryz.func135,Tryz.ntmps135
 go_wp2
 refine wp_region_still_tail 10 (by kernel_rfl) (by kernel_rfl) ?_;simp only[JO,GS,JN,FR];obtain⟨d1,d2,d3,d4,Z⟩:=PA W (.int .i64 x) (.int .i64 y) (.int .i64 x') (.int .i64 y') 70;change wpStill _ _ ((W.alloc (Obj.cells #[Value.int IntKind.i64 x,Value.int IntKind.i64 y] 70)).alloc (Obj.cells #[Value.int IntKind.i64 x',Value.int IntKind.i64 y'] 70)).drew (λa'=>wpList _ _ _ _ a' ((W.alloc (Obj.cells #[Value.int IntKind.i64 x,Value.int IntKind.i64 y] 70)).alloc (Obj.cells #[Value.int IntKind.i64 x',Value.int IntKind.i64 y'] 70)).drew) _ _;generalize ((W.alloc (Obj.cells #[Value.int IntKind.i64 x,Value.int IntKind.i64 y] 70)).alloc (Obj.cells #[Value.int IntKind.i64 x',Value.int IntKind.i64 y'] 70)).drew=w3 at d1 d2 d3 d4 Z⊢
 still_step
 still_step
 still_step
 still_step
 still_call (z _)
 still_step
 still_step
 still_step
 still_step
 still_call (G _)
 refine wpStill_nil ?_
 go_wp2_with (go_at_call 182;refine (O _ _ (Qvb _ _ _ _).1 (Qvb _ _ _ _).2).mono ?_;rintro e w' ⟨rfl,rfl⟩)
 go_ret
 obtain⟨aa,rfl⟩:=Z;exact⟨rfl,1,_,by rw[alloc_eq_grow,grow_grow]⟩
end Go.Proofs
namespace Go.Ae
open Go.Proofs Go.Sort Go.Shelf
instance:Inhabited Aj:=⟨⟨⟨0,0⟩,0⟩⟩
def FB(x:Aj):List Value:=[.int .i64 x.At.X,.int .i64 x.At.Y,.int .i64 x.Tile]
def dZ(l:List Aj):List Aj:=l.foldr (λx r=>CJ x.At x.Tile r) []
def sJ(x:Aj): ∀(l:List Aj),(CJ x.At x.Tile l).Perm (x::l)
 |[]=>fK _
 |y::r=>by
  simp only[CJ];split
  .exact fK _
  .exact ((sJ x r).cons y).trans (List.Perm.swap x y r)
def dK: ∀(l:List Aj),(dZ l).Perm l
 |[]=>fK _
 |x::r=>(sJ x (dZ r)).trans ((dK r).cons x)
def Quq{a b c:Ac}(z:Bj a b=true)(G:Bj c b=false):Bj c a=false:=by
 simp only[Bj] at*;grind
def Qx3(x:Aj): ∀(l:List Aj),l.Pairwise (λa b=>Bj b.At a.At=false)->(CJ x.At x.Tile l).Pairwise (λa b=>Bj b.At a.At=false)
 |[],_=>by simp[CJ]
 |y::r,h=>by
  rw[Qb] at h;simp only[CJ];split
  .rename_i O;rw[Qb,Qb];refine⟨λz G=> ?_,h⟩;have Q:Bj y.At x.At=false:=by simp only[Bj] at*;grind
   rcases Bx.1 G with rfl|G
   .exact Q
   .have:=h.1 z G
    exact Quq O this
  .rename_i O;rw[Qb];refine⟨λz G=> ?_,Qx3 x r h.2⟩;rcases (sF _ _ _ _).1 G with rfl|G
   .simpa using O
   .exact h.1 z G
def zV: ∀(l:List Aj),(dZ l).Pairwise (λa b=>Bj b.At a.At=false)
 |[]=>List.Pairwise.nil
 |x::r=>Qx3 x _ (zV r)
def Pw(l:List Aj):(dZ l).length=l.length:=(dK l).length_eq
def Rt{l:List Aj}(h:(l.map Aj.At).Nodup){x y:Aj}(Z:x∈l)(hy:y∈l)(Q:x.At=y.At):x=y:=by
 induction l with
 |nil=>cases Z
 |cons z r ih=>
  rw[Bb,Hn] at h;rcases Bx.1 Z with G|G<;>rcases Bx.1 hy with O|O
  .rw[G,O]
  .exact absurd (show z.At∈r.map Aj.At by rw[<-G,Q];exact ZJ O) h.1
  .exact absurd (show z.At∈r.map Aj.At by rw[<-O,<-Q];exact ZJ G) h.1
  .exact ih h.2 G O
def Qlp{l l':List Aj}(hd:(l.map Aj.At).Nodup)(hp:l'.Perm l)(hs:l'.Pairwise (λa b=>Bj b.At a.At=false)):l'=dZ l:=by
 refine uP (le:=λa b=>Bj b.At a.At=false) (λa b Z hb O Q=> ?_) hs (zV l) (hp.trans (dK l).symm);refine Rt hd (hp.mem_iff.1 Z) ((dK l).mem_iff.1 hb) ?_;revert O Q;obtain⟨⟨ax,ay⟩,z⟩:=a;obtain⟨⟨bx,G⟩,bt⟩:=b;simp only[Bj,Ac.mk.injEq]
 grind
def DY(l:List Aj):List Value:=l.flatMap FB
def zB(l:List Aj):(DY l).length=l.length*3:=by
 induction l with
 |nil=>rfl
 |cons x r ih=>simp only[DY,EQ,BQ,Cr] at ih⊢;rw[ih];simp[FB];omega
def yW{ok:Nat->Prop}{hp:Nat->Option Obj}: ∀(l:List Aj) (L:List Value),rdr ok hp 3 (l.map Aj.c) L↔ ∃r,L=DY l++r
 |[],L=>by simp[rdr,DY]
 |x::r,L=>by
  simp only[Bb,rdr,yW r,Aj.c,rdp,rd,DY,EQ];constructor
  .rintro⟨_,⟨v,z,rfl,rfl,Q,G,rfl,rfl,Z,O,rfl,rfl,_⟩,q,hq⟩;exact⟨q,by simp only[JN,FR] at hq;rw[hq];rfl⟩
  .rintro⟨q,rfl⟩;exact⟨rfl,⟨_,_,rfl,rfl,_,_,rfl,rfl,_,_,rfl,rfl,trivial⟩,q,rfl⟩
end Go.Ae
namespace Go.Ae
open Go.Proofs
def GZ(q:Ac×Int):Aj:=⟨q.1,q.2⟩
def TT(m:Hm)(t:List (Ac×Int))(x:Aj):Option (List (Ac×Int)):=
 if (m.Labels[x.Tile.toNat]?.getD 0)<0 then some t
 else if (B6 t (eB x.At m.Scale).1).getD (m.Labels[x.Tile.toNat]?.getD 0)≠(m.Labels[x.Tile.toNat]?.getD 0) then none
 else some (Bs t (eB x.At m.Scale).1 (m.Labels[x.Tile.toNat]?.getD 0))
def Ou{l l':List Aj}(hp:l.Perm l')(hd:(l'.map Aj.At).Nodup)(p:Ac):l.find? (λx=>decide (x.At=p))=l'.find? (λx=>decide (x.At=p)):=by
 cases h1:l.find? (λx=>decide (x.At=p)) with
 |none=>
  symm;rw[Re] at h1⊢;exact λx O=>h1 x (hp.mem_iff.2 O)
 |some x=>
  have O:=hp.mem_iff.1 (fG h1);have z:=V8 h1;cases h2:l'.find? (λx=>decide (x.At=p)) with
  |none=>
   rw[Re] at h2;exact absurd z (h2 x O)
  |some y=>
   have Q:=fG h2;have G:=V8 h2;rw[Rt hd O Q];rw[Bo] at z G;rw[z,G]
def LR(p:Ac): ∀(t:List (Ac×Int)),(((t.map GZ).find? (λx=>decide (x.At=p))).map Aj.Tile)=B6 t p
 |[]=>rfl
 |(k,w)::r=>by
  simp only[Bb,ZeB,GZ,B6];by_cases h:k=p
  .subst h;simp
  .have z:decide (k=p)=false:=by simpa using h
   have G: ¬p=k:=λO=>h O.symm
   rw[z,Ad G];exact LR p r
def Ko(t:List (Ac×Int)):(t.map GZ).map Aj.At=t.map Prod.fst:=by simp[GZ]
def aM{t:List (Ac×Int)}(hd:(t.map Prod.fst).Nodup)(p:Ac):Bq ⟨dZ (t.map GZ)⟩ p=(B6 t p).getD (-1):=by
 have z:((t.map GZ).map Aj.At).Nodup:=by rw[Ko];exact hd
 simp only[Bq];rw[Ou (dK _) z,LR]
def lE{t:List (Ac×Int)}{p:Ac}(v:Int)(h:B6 t p=none):Bs t p v=t++[(p,v)]:=by
 induction t with
 |nil=>rfl
 |cons q r ih=>
  obtain⟨k,w⟩:=q;simp only[B6] at h;split at h
  .cases h
  .rename_i hn;simp only[Bs,Ad hn,CW];rw[ih h]
def PB{t:List (Ac×Int)}{p:Ac}{v:Int}(h:B6 t p=some v):Bs t p v=t:=by
 induction t with
 |nil=>cases h
 |cons q r ih=>
  obtain⟨k,w⟩:=q;simp only[B6] at h;simp only[Bs];split at h
  .rename_i z;obtain rfl:=Aw h;rw[Ai z,z]
  .rename_i hn;rw[Ad hn,ih h]
def Qyz{t:List (Ac×Int)}{p:Ac}(h:B6 t p=none):p∉t.map Prod.fst:=by
 induction t with
 |nil=>simp
 |cons q r ih=>
  obtain⟨k,w⟩:=q;simp only[B6] at h;split at h
  .cases h
  .rename_i hn;simp only[Bb,Bx,ZU];exact⟨hn,ih h⟩
def VQ{t:List (Ac×Int)}{p:Ac}{v:Int}(h:B6 t p=some v):(p,v)∈t:=by
 induction t with
 |nil=>cases h
 |cons q r ih=>
  obtain⟨k,w⟩:=q;simp only[B6] at h;split at h
  .rename_i z;obtain rfl:=Aw h;rw[z];exact Cb ..
  .exact BZ _ (ih h)
structure RM(t:List (Ac×Int))(o:Ab)(k:Nat):Prop where
 nd:(t.map Prod.fst).Nodup
 pos: ∀q∈t,0<=q.2
 eq:o=⟨dZ (t.map GZ)⟩
 len:t.length<=k
def RM.step{m:Hm}{t:List (Ac×Int)}{o:Ab}{k:Nat}(h:RM t o k)(x:Aj):(∃t' o',TT m t x=some t'/\TW m o x=some o'/\RM t' o' (k+1))\/(TT m t x=none/\TW m o x=none):=by
 obtain⟨nd,pos,rfl,len⟩:=h;simp only[TT,TW];generalize m.Labels[x.Tile.toNat]?.getD 0=n;generalize (eB x.At m.Scale).1=p;by_cases c1:n<0
 .rw[Ai c1,Ai c1];exact .inl ⟨_,_,rfl,rfl,nd,pos,rfl,by omega⟩
 rw[Ad c1,Ad c1,aM nd];cases hq:B6 t p with
 |none=>
  simp only[Zet];rw[Ad (by simp),Ad (by omega),Ai (by omega)];refine .inl ⟨_,_,rfl,rfl,?_,?_,?_,?_⟩
  .rw[lE n hq,Ei,Rg];refine⟨nd,by simp,?_⟩;intro a Z b O z;simp only[Bb,Cs,B4] at O;exact Qyz hq (by rw[<-O,<-z];exact Z)
  .intro q G;rw[lE n hq] at G;rcases Bp.1 G with G|G
   .exact pos q G
   .simp only[B4] at G;subst G;simp only;omega
  .rw[WE,lE n hq];congr 1;have aa:(((t++[(p,n)]).map GZ).map Aj.At).Nodup:=by
    rw[Ko,Ei,Rg];refine⟨nd,by simp,?_⟩;intro a Z b O z;simp only[Bb,Cs,B4] at O;exact Qyz hq (by rw[<-O,<-z];exact Z)
   refine Qlp aa ?_ (Qx3 ⟨p,n⟩ _ (zV _));refine (sJ ⟨p,n⟩ _).trans ?_;rw[Ei];refine ((dK _).cons _).trans ?_;exact (ZeM _ _).symm
  .rw[lE n hq];simp;omega
 |some v=>
  simp only[AS];have hv:=pos _ (VQ hq);simp only at hv;by_cases Q:v=n
  .subst Q;rw[Ad (by simp),Ad (by simp),Ad (by omega),PB hq];exact .inl ⟨_,_,rfl,rfl,nd,pos,rfl,by omega⟩
  .rw[Ai Q,Ai ⟨hv,Q⟩];exact .inr ⟨rfl,rfl⟩
def bM{l:List Aj}(h:(l.map Aj.At).Nodup): ∀x∈l,∀y∈l,x.At=y.At->x=y:=by
 induction l with
 |nil=>intro x Q;cases Q
 |cons z r ih=>
  simp only[Bb,Hn] at h;intro x Q y hy e;rcases Bx.1 Q with ex|G<;>rcases Bx.1 hy with Z|O
  .rw[ex,Z]
  .exact absurd (BI.2 ⟨y,O,by rw[<-e,ex]⟩) h.1
  .exact absurd (BI.2 ⟨x,G,by rw[e,Z]⟩) h.1
  .exact ih h.2 x G y O e
def J6{s:A8}{a:Ab}(h: ∀x∈a.Tiles,FN s x.Tile)(p:Ac):B0 (λx=>decide (x.At=p)) 0 a.Tiles<0↔Bq a p<0:=by
 simp only[Bq];rcases Vk (λx=>decide (x.At=p)) a.Tiles 0 with ⟨z,G⟩|⟨i,x,z,G,O⟩
 .rw[z,G];simp
 .rw[z,G]
  have:=(h x (AP O)).1
  simp only[DW,AS];omega
def RM.put{t:List (Ac×Int)}{o:Ab}{k:Nat}(h:RM t o k){p:Ac}{v:Int}(hv:0<=v)(hn:B6 t p=none):RM (Bs t p v) (Br o p v) (k+1):=by
 obtain⟨nd,pos,rfl,len⟩:=h;have G:((t++[(p,v)]).map Prod.fst).Nodup:=by
  rw[Ei,Rg];refine⟨nd,by simp,?_⟩;intro a ha b Z O;simp only[Bb,Cs,B4] at Z;exact Qyz hn (by rw[<-Z,<-O];exact ha)
 rw[lE v hn];refine⟨G,?_,?_,by simp;omega⟩
 .intro q z;rcases Bp.1 z with z|z
  .exact pos q z
  .simp only[B4] at z;subst z;exact hv
 .rw[WE];congr 1;have Q:(((t++[(p,v)]).map GZ).map Aj.At).Nodup:=by rw[Ko];exact G
  refine Qlp Q ?_ (Qx3 ⟨p,v⟩ _ (zV _));refine (sJ ⟨p,v⟩ _).trans ?_;rw[Ei];refine ((dK _).cons _).trans ?_;exact (ZeM _ _).symm
def RM.at{t:List (Ac×Int)}{o:Ab}{k:Nat}(h:RM t o k):Cl t=Bq o:=by
 funext p;rw[h.eq,aM h.nd];rfl
def RM.size{t:List (Ac×Int)}{o:Ab}{k:Nat}(h:RM t o k):o.Tiles.length=t.length:=by
 rw[h.eq];simp only[Pw,EJ]
def bO: ∀(l t:List Aj),((t++l).map Aj.At).Nodup->l.foldl (λu x=>Bs u x.At x.Tile) (t.map λx=>(x.At,x.Tile))=(t++l).map λx=>(x.At,x.Tile)
 |[],t,_=>by simp
 |x::r,t,h=>by
  have O:B6 (t.map λx=>(x.At,x.Tile)) x.At=none:=by
   cases hq:B6 (t.map λx=>(x.At,x.Tile)) x.At with
   |none=>rfl
   |some v=>
    exfalso;obtain⟨y,Q,G⟩:=BI.1 (VQ hq);have z:y.At=x.At:=BY Prod.fst G;rw[Ei,Rg] at h;exact h.2.2 _ (ZJ Q) _ (ZJ (Cb ..)) z
  rw[NQ,lE _ O]
  have:=bO r (t++[x]) (by simpa using h)
  simpa using this
def RM.of{a:Ab}(hf:Ck none a.Tiles=true)(hp: ∀x∈a.Tiles,0<=x.Tile):RM (BT a.Tiles) a a.Tiles.length:=by
 have hn:=eJ hf;have e:BT a.Tiles=a.Tiles.map λx=>(x.At,x.Tile):=by
  have:=bO a.Tiles [] (by simpa using hn)
  simpa[BT] using this
 have G:(a.Tiles.map λx=>(x.At,x.Tile)).map GZ=a.Tiles:=by
  rw[mH];exact List.map_id' _
 rw[e];refine⟨by rw[mH];exact hn,?_,?_,by simp⟩
 .intro q hq;obtain⟨x,hx,rfl⟩:=BI.1 hq;exact hp x hx
 .rw[G];have Z:=(jO _ _ hf).2;have hw:a.Tiles.Pairwise (λx y=>Bj y.At x.At=false):=by
   rw[uO];intro i j O Q z
   have:=Z i j a.Tiles[i] a.Tiles[j] z (Bd O) (Bd Q)
   simp only[Bj] at this⊢
   grind
  rw[<-Qlp hn (fK _) hw]
def l03Own.fv(a:Ab):Ab:=(λa=>a) a
def l03Own.row:Ax:=vK (b1 (qP 1 Ab.d_le)) (rA Ab.d_le) (λa=>a.Tiles.length<=1000000) l03Own.fv
def l03Own.q:=AX (R:=l03Own.row) rfl
def l03Own.ok:AA 89 l03Own.row:=by
 refine vw tN Tryz.func89 ?_;intro a z;simp only[Tryz.f89];simp only[ZA,simprocAttr,Ab.d,l03Own.fv];exact⟨by simp[Ce,Bn,D.one,Aj.c],by omega⟩
def gA{s:Am}{b:Ab}(hs:s.Set.Tiles.length<=160)(Q:Fy s.Set b){o:Ba}(h:Db s b o=true):Fy s.Set (Br b o.At o.Tile):=by
 simp only[Db,AO,Bo] at h;obtain⟨Z,O,d3,_⟩:=h;have G:=zK d3;have hw:Bf o.Tile 0 159=true:=by
  simp only[Bf,AO,Bo] at O⊢;omega
 refine⟨?_,?_⟩
 .rw[WE];exact Qki Z hw _ none Q.1 (λq hq=>by cases hq) G
 .intro x z;rw[WE] at z;rcases (sF _ _ _ _).1 z with rfl|z
  .simp only[Bf,AO,Bo] at O;exact⟨by simp only;omega,by simp only;omega⟩
  .exact Q.2 x z
def Im{s:Am}(h:Dw s=true):(BG s.Set/\Fy s.Set s.Seed/\s.Set.Tiles.length<=160/\s.Seed.Tiles.length<=1000000)/\Eu s.Set=true/\FM s.Set s.Seed=true:=by
 simp only[Dw,AO] at h;obtain⟨z,G,_⟩:=h;have O:=Ix G;have Q:=Qge z;have Z:=z;simp only[Eu,Bf,AO,Bo] at Z;exact⟨⟨Q,O.1,by omega,by omega⟩,z,G⟩
def Qwf{A B:Type}(f:A->B): ∀(l:List A) (i:Nat),(l.map f).eraseIdx i=(l.eraseIdx i).map f
 |[],_=>rfl
 |_::_,0=>rfl
 |x::r,i+1=>by simp only[Bb,fI,Qwf f r i]
def Qqq{A:Type}: ∀(l:List A) (i:Nat) (x:A),l[i]? =some x->(x::l.eraseIdx i).Perm l
 |[],i,x,h=>by simp at h
 |y::r,0,x,h=>by
  simp only[G4,AI] at h;subst h;exact fK _
 |y::r,i+1,x,h=>by
  rw[I2] at h;rw[fI];exact (List.Perm.swap y x _).trans ((Qqq r i x h).cons y)
def putT(c:AW)(p:Ac)(t:Int):AW:=⟨c.Sys,Bs c.Tl p t,GQ c.Sys (Cl (Bs c.Tl p t)) (EB c.Op p) p 4⟩
def asmC.ca(_:AW):List AV:=[.ptr 0 0]
def FE{A:Type}(l:List A):Option (List A):=if l=[] then none else some l
abbrev D6(s:Am)(f:Ac->Int)(q:Ac):List Int:=Fx s f q s.Set.Tiles.length
def Nd(s:Am)(f:Ac->Int)(op:List (Ac×List Int)):Prop:=(op.map Prod.fst).Nodup/\ ∀q,B6 op q=FE (D6 s f q)
def VU{s:Am}{f:Ac->Int}{q:Ac}(h: ∀k:Int,Jt s f q k=false): ∀n,Fx s f q n=[]
 |0=>rfl
 |n+1=>by simp only[Fx,VU h n,h,Fb];rfl
def pA{s:Am}{f:Ac->Int}{q:Ac}(h:0<=f q)(n:Nat):Fx s f q n=[]:=
 VU (λk=>by simp only[Jt];rw[KO (show ¬f q<0 by omega)];simp) n
def oL{s:A8}{f:Ac->Int}{q:Ac}{t:Int}(h: ∀d:Nat,d<4->f (Cm q d)<0): ∀k,k<=4->EO s f q t k=0
 |0,_=>rfl
 |k+1,z=>by
  have:=h k (by omega)
  simp only[EO,oL h k (by omega),PW];rw[Ad (by omega)];rfl
def cC{s:Am}{f:Ac->Int}{q:Ac}(z:1<=s.Temperature)(h: ∀d:Nat,d<4->f (Cm q d)<0)(n:Nat):Fx s f q n=[]:=
 VU (λk=>by simp only[Jt,oL h 4 (AF _)];rw[KO (show ¬s.Temperature<=0 by omega)];simp) n
def oX{s:A8}{f g:Ac->Int}{q:Ac}{t:Int}(h: ∀d:Nat,d<4->f (Cm q d)=g (Cm q d)): ∀k,k<=4->EO s f q t k=EO s g q t k
 |0,_=>rfl
 |k+1,z=>by simp only[EO,oX h k (by omega),PW,h k (by omega)]
def oW{s:Am}{f g:Ac->Int}{q:Ac}(h0:f q=g q)(h: ∀d:Nat,d<4->f (Cm q d)=g (Cm q d)): ∀n,Fx s f q n=Fx s g q n
 |0=>rfl
 |n+1=>by
  have e:Jt s f q n=Jt s g q n:=by simp only[Jt,h0,oX h 4 (AF _)]
  simp only[Fx,oW h0 h n,e]
def Kj{β:Type}{p:Ac}: ∀{l:List (Ac×β)},p∉l.map Prod.fst->B6 l p=none
 |[],_=>rfl
 |(k,v)::r,h=>by
  simp only[Bb,Bx,ZU] at h;simp only[B6];rw[Ad h.1,Kj h.2]
def oK{β:Type}{p:Ac}: ∀{l:List (Ac×β)},p∈l.map Prod.fst-> ∃v,B6 l p=some v/\(p,v)∈l
 |[],h=>by simp at h
 |(k,v)::r,h=>by
  simp only[B6];by_cases c:p=k
  .rw[Ai c,c];exact⟨v,rfl,Cb ..⟩
  .rw[Ad c];obtain⟨w,z,G⟩:=oK (l:=r) (by simpa[c] using h);exact⟨w,z,BZ _ G⟩
def gT{β:Type}{p:Ac}{l:List (Ac×β)}:p∈l.map Prod.fst↔B6 l p≠none:=by
 constructor
 .intro h;obtain⟨v,z,_⟩:=oK h;rw[z];simp
 .intro h;apply V0;intro G;exact h (Kj G)
def oI{β:Type}{p q:Ac}: ∀{l:List (Ac×β)},q∈(EB l p).map Prod.fst->q∈l.map Prod.fst
 |[],h=>by simp[EB] at h
 |(k,v)::r,h=>by
  simp only[EB] at h;split at h
  .exact BZ _ h
  .simp only[Bb,Bx] at h⊢;rcases h with h|h
   .exact .inl h
   .exact .inr (oI h)
def cJ{β:Type}{p:Ac}: ∀{l:List (Ac×β)},(l.map Prod.fst).Nodup->((EB l p).map Prod.fst).Nodup
 |[],h=>h
 |(k,v)::r,h=>by
  simp only[Bb,Hn] at h;simp only[EB];split
  .exact h.2
  .simp only[Bb,Hn];exact⟨λz=>h.1 (oI z),cJ h.2⟩
def cH{β:Type}{p:Ac}(q:Ac): ∀{l:List (Ac×β)},(l.map Prod.fst).Nodup->B6 (EB l p) q=if q=p then none else B6 l q
 |[],_=>by simp[EB,B6]
 |(k,v)::r,h=>by
  simp only[Bb,Hn] at h;simp only[EB];by_cases c:p=k
  .rw[Ai c];by_cases e:q=p
   .rw[Ai e,e,c];exact Kj h.1
   .rw[Ad e];simp only[B6];rw[Ad (λz=>e (z.trans c.symm))]
  .rw[Ad c];simp only[B6];by_cases e:q=k
   .rw[Ai e,Ai e,Ad (λz=>c (z.symm.trans e))]
   .rw[Ad e,Ad e,cH q h.2]
def MS{β:Type}{p q:Ac}{v:β}: ∀{l:List (Ac×β)},q∈(Bs l p v).map Prod.fst↔q=p\/q∈l.map Prod.fst
 |[]=>by simp[Bs]
 |(k,w)::r=>by
  simp only[Bs];split
  .rename_i c;subst c;simp
  .simp only[Bb,Bx,MS (l:=r)];constructor
   .rintro (h|h|h)
    .exact .inr (.inl h)
    .exact .inl h
    .exact .inr (.inr h)
   .rintro (h|h|h)
    .exact .inr (.inl h)
    .exact .inl h
    .exact .inr (.inr h)
def oJ{β:Type}{p:Ac}{v:β}: ∀{l:List (Ac×β)},(l.map Prod.fst).Nodup->((Bs l p v).map Prod.fst).Nodup
 |[],_=>by simp[Bs]
 |(k,w)::r,h=>by
  simp only[Bb,Hn] at h;simp only[Bs];split
  .rename_i c;subst c;simp only[Bb,Hn];exact h
  .rename_i c;simp only[Bb,Hn];refine⟨λz=> ?_,oJ h.2⟩;rcases MS.1 z with e|e
   .exact c e.symm
   .exact h.1 e
def SZ{s:Am}{f:Ac->Int}{op:List (Ac×List Int)}{q:Ac}(h:(op.map Prod.fst).Nodup):((J5 s f op q).map Prod.fst).Nodup:=by
 simp only[J5];split
 .exact cJ h
 .exact oJ h
def SY{s:Am}{f:Ac->Int}{op:List (Ac×List Int)}{p:Ac}(h:(op.map Prod.fst).Nodup)(q:Ac):B6 (J5 s f op p) q=if q=p then FE (D6 s f q) else B6 op q:=by
 simp only[J5];by_cases c:Fx s f p s.Set.Tiles.length=[]
 .rw[Ai c,cH q h];by_cases e:q=p
  .subst e;rw[Ai rfl,Ai rfl,FE,Ai c]
  .rw[Ad e,Ad e]
 .rw[Ad c,lS];by_cases e:q=p
  .subst e;rw[Ai rfl,Ai rfl,FE,Ad c]
  .rw[Ad e,Ad e]
def VZ{s:Am}{f:Ac->Int}{op:List (Ac×List Int)}{p:Ac}(h:(op.map Prod.fst).Nodup): ∀k,((GQ s f op p k).map Prod.fst).Nodup
 |0=>h
 |k+1=>SZ (VZ h k)
def J2(p q:Ac):Prop:= ∃d:Nat,d<4/\Cm p d=q
def oS{s:Am}{f:Ac->Int}{op:List (Ac×List Int)}{p:Ac}(h:(op.map Prod.fst).Nodup)(q:Ac): ∀k,(∀d:Nat,d<k->Cm p d≠q)/\B6 (GQ s f op p k) q=B6 op q\/(∃d:Nat,d<k/\Cm p d=q)/\B6 (GQ s f op p k) q=FE (D6 s f q)
 |0=> .inl ⟨λd hd=>absurd hd (by omega),rfl⟩
 |k+1=>by
  have ih:=oS (s:=s) (f:=f) (p:=p) h q k;simp only[GQ,SY (VZ h k)];by_cases c:q=Cm p k
  .rw[Ai c];exact .inr ⟨⟨k,by omega,c.symm⟩,rfl⟩
  .rw[Ad c];rcases ih with ⟨G,z⟩|⟨⟨d,G,z⟩,O⟩
   .refine .inl ⟨λd hd=> ?_,z⟩;by_cases e:d=k
    .subst e;exact λh=>c h.symm
    .exact G d (by omega)
   .exact .inr ⟨⟨d,by omega,z⟩,O⟩
def aP{s:Am}{f:Ac->Int}{op:List (Ac×List Int)}{p:Ac}(h:(op.map Prod.fst).Nodup)(q:Ac):(¬J2 p q/\B6 (GQ s f op p 4) q=B6 op q)\/(J2 p q/\B6 (GQ s f op p 4) q=FE (D6 s f q)):=by
 rcases oS (s:=s) (f:=f) h q 4 with ⟨z,G⟩|h
 .exact .inl ⟨λ⟨d,hd,e⟩=>z d hd e,G⟩
 .exact .inr h
def P2(p:Ac){d:Nat}(h:d<4):Cm (Cm p d) ((d+2) % 4:Nat)=p:=by
 rcases (by omega:d=0\/d=1\/d=2\/d=3) with rfl|rfl|rfl|rfl<;>simp[Cm]<;>omega
def VY{p q:Ac}(h:J2 p q):J2 q p:=by
 obtain⟨d,hd,rfl⟩:=h;exact⟨(d+2) % 4,by omega,P2 p hd⟩
def bW{s:Am}{f:Ac->Int}(q:Ac): ∀(l:List Aj) (op:List (Ac×List Int)),(op.map Prod.fst).Nodup->
 ((l.foldl (λo x=>GQ s f o x.At 4) op).map Prod.fst).Nodup/\((∀x∈l,¬J2 x.At q)/\B6 (l.foldl (λo x=>GQ s f o x.At 4) op) q=B6 op q\/(∃x∈l,J2 x.At q)/\B6 (l.foldl (λo x=>GQ s f o x.At 4) op) q=FE (D6 s f q))
 |[],op,h=>⟨h,.inl ⟨by simp,rfl⟩⟩
 |x::r,op,h=>by
  simp only[NQ];obtain⟨G,O⟩:=bW (s:=s) (f:=f) q r (GQ s f op x.At 4) (VZ h 4);refine⟨G,?_⟩;rcases O with ⟨a,b⟩|⟨⟨y,z,a⟩,b⟩
  .rcases aP (s:=s) (f:=f) (p:=x.At) h q with ⟨c,e⟩|⟨c,e⟩
   .refine .inl ⟨λy z=> ?_,b.trans e⟩;rcases Bx.1 z with rfl|z
    .exact c
    .exact a y z
   .exact .inr ⟨⟨x,Cb ..,c⟩,b.trans e⟩
  .exact .inr ⟨⟨y,BZ _ z,a⟩,b⟩
def YW{l:List Aj}: ∀{q:Ac},0<=Cl (BT l) q-> ∃x∈l,x.At=q:=by
 have G: ∀(l:List Aj) (t:List (Ac×Int)) (q:Ac),B6 (l.foldl (λt x=>Bs t x.At x.Tile) t) q≠none->(∃x∈l,x.At=q)\/B6 t q≠none:=by
  intro l;induction l with
  |nil=>intro t q h;exact .inr h
  |cons x r ih=>
   intro t q h;rcases ih _ q h with ⟨y,O,e⟩|z
   .exact .inl ⟨y,BZ _ O,e⟩
   .rw[lS] at z;split at z
    .rename_i e;exact .inl ⟨x,Cb ..,e.symm⟩
    .exact .inr z
 intro q h;rcases G l [] q (λe=>by
  simp only[Cl,BT,e,Zet] at h;omega) with z|z
 .exact z
 .simp[B6] at z
def iH{s:Am}{l:List Aj}(O:1<=s.Temperature):Nd s (Cl (BT l)) (HE s (Cl (BT l)) l):=by
 have hn:(([]:List (Ac×List Int)).map Prod.fst).Nodup:=by simp
 refine⟨(bW ⟨0,0⟩ l [] hn).1,λq=> ?_⟩;rcases (bW (s:=s) (f:=Cl (BT l)) q l [] hn).2 with ⟨G,z⟩|⟨_,z⟩
 .rw[HE,z]
  have:D6 s (Cl (BT l)) q=[]:=by
   refine cC O (λd hd=> ?_) _;apply V0;intro h;obtain⟨x,Q,e⟩:=YW (l:=l) (q:=Cm q d) (by omega);exact G x Q (VY (e▸⟨d,hd,rfl⟩))
  rw[FE,Ai this];rfl
 .exact z
def iI{s:Am}{z:List (Ac×Int)}{op:List (Ac×List Int)}{p:Ac}{t:Int}(h:Nd s (Cl z) op)(ht:0<=t):
 Nd s (Cl (Bs z p t)) (GQ s (Cl (Bs z p t)) (EB op p) p 4):=by
 have hn:=cJ (p:=p) h.1;have G: ∀q,Cl (Bs z p t) q=if q=p then t else Cl z q:=λq=>by
  simp only[Cl,lS];split<;>rfl
 refine⟨VZ hn 4,λq=> ?_⟩;rcases aP (s:=s) (f:=Cl (Bs z p t)) (p:=p) hn q with ⟨Z,O⟩|⟨_,O⟩
 .rw[O,cH q h.1];by_cases e:q=p
  .rw[Ai e,FE,Ai (pA (by rw[G,Ai e];exact ht) _)]
  .rw[Ad e,h.2 q]
   have:D6 s (Cl (Bs z p t)) q=D6 s (Cl z) q:=by
    refine oW (by rw[G,Ad e]) (λd hd=> ?_) _;rw[G,Ad];intro Q;exact Z (VY ⟨d,hd,Q⟩)
   rw[this]
 .exact O
def DS(p:Ac):List Ac->List Ac
 |[]=>[p]
 |y::r=>if Bj y p=true then y::DS p r else if y=p then y::r else p::y::r
def BX(l:List Ac):List Ac:=l.foldr DS []
abbrev Ie(l:List Ac):Prop:=l.Pairwise λa b=>Bj a b=true
def Ny{a b c:Ac}(z:Bj a b=true)(G:Bj b c=true):Bj a c=true:=by simp only[Bj] at*;grind
def bU(a:Ac):Bj a a=false:=by simp[Bj]
def Q4{a b:Ac}(Z:Bj a b=false)(h2:a≠b):Bj b a=true:=by
 obtain⟨G,O⟩:=a;obtain⟨Q,z⟩:=b;simp only[Bj,ne_eq,Ac.mk.injEq] at*
 grind
def VW{p q:Ac}: ∀{l:List Ac},q∈DS p l↔q=p\/q∈l
 |[]=>by simp[DS]
 |y::r=>by
  simp only[DS];split
  .simp only[Bx,VW (l:=r)];constructor
   .rintro (h|h|h)
    .exact .inr (.inl h)
    .exact .inl h
    .exact .inr (.inr h)
   .rintro (h|h|h)
    .exact .inr (.inl h)
    .exact .inl h
    .exact .inr (.inr h)
  .split
   .rename_i c;subst c;simp
   .simp
def bY{p:Ac}: ∀{l:List Ac},Ie l->Ie (DS p l)
 |[],_=>by simp[DS]
 |y::r,h=>by
  rw[Ie,Qb] at h;simp only[DS];split
  .rename_i c;rw[Ie,Qb];refine⟨λz G=> ?_,bY h.2⟩;rcases VW.1 G with rfl|G
   .exact c
   .exact h.1 z G
  .rename_i c;split
   .rw[Ie,Qb];exact h
   .rename_i e;have O:=Q4 (by simpa using c) e;rw[Ie,Qb,Qb];refine⟨λz G=> ?_,h⟩;rcases Bx.1 G with rfl|G
    .exact O
    .exact Ny O (h.1 z G)
def Hs: ∀(l:List Ac),Ie (BX l)
 |[]=>List.Pairwise.nil
 |_::r=>bY (Hs r)
def FZ{q:Ac}: ∀{l:List Ac},q∈BX l↔q∈l
 |[]=>by simp[BX]
 |x::r=>by
  have:BX (x::r)=DS x (BX r):=rfl
  rw[this,VW,FZ (l:=r),Bx]
def Km{l:List Ac}(h:Ie l):l.Nodup:=by
 refine uI (λ{a b} z e=> ?_) h;rw[e,bU] at z;cases z
def Q5{l m:List Ac}(z:Ie l)(G:Ie m)(h: ∀q,q∈l↔q∈m):l=m:=by
 have hp:l.Perm m:=(ZdS (Km z) (Km G)).2 h;refine uP (le:=λa b=>Bj a b=true) (λa b _ _ g1 g2=> ?_) z G hp
 have:=Ny g1 g2
 rw[bU] at this;cases this
def DN(a:Ab)(p:Ac)(l:List Ac):Nat->List Ac
 |0=>l
 |k+1=>if Dl (Cm p k)=true/\Bq a (Cm p k)<0 then DS (Cm p k) (DN a p l k) else DN a p l k
def BW(a:Ab):Nat->List Ac
 |0=>[]
 |i+1=>DN a ((a.Tiles[i]?.map Aj.At).getD ⟨0,0⟩) (BW a i) 4
def VV{a:Ab}{p:Ac}{l:List Ac}(h:Ie l): ∀k,Ie (DN a p l k)
 |0=>h
 |k+1=>by
  simp only[DN];split
  .exact bY (VV h k)
  .exact VV h k
def cB(a:Ab): ∀i,Ie (BW a i)
 |0=>List.Pairwise.nil
 |i+1=>VV (cB a i) 4
def oM{a:Ab}{p q:Ac}{l:List Ac}: ∀k,q∈DN a p l k↔q∈l\/(Dl q=true/\Bq a q<0)/\ ∃d:Nat,d<k/\Cm p d=q
 |0=>by simp[DN]
 |k+1=>by
  simp only[DN];have ih:=oM (a:=a) (p:=p) (q:=q) (l:=l) k;split
  .rename_i c;rw[VW,ih];constructor
   .rintro (rfl|h|⟨h,d,G,z⟩)
    .exact .inr ⟨c,k,by omega,rfl⟩
    .exact .inl h
    .exact .inr ⟨h,d,by omega,z⟩
   .rintro (h|⟨h,d,G,z⟩)
    .exact .inr (.inl h)
    .by_cases e:d=k
     .subst e;exact .inl z.symm
     .exact .inr (.inr ⟨h,d,by omega,z⟩)
  .rename_i c;rw[ih];constructor
   .rintro (h|⟨h,d,G,z⟩)
    .exact .inl h
    .exact .inr ⟨h,d,by omega,z⟩
   .rintro (h|⟨h,d,G,z⟩)
    .exact .inl h
    .by_cases e:d=k
     .subst e;subst z;exact absurd h c
     .exact .inr ⟨h,d,by omega,z⟩
def J4{a:Ab}{q:Ac}: ∀i,i<=a.Tiles.length->(q∈BW a i↔(Dl q=true/\Bq a q<0)/\ ∃x∈a.Tiles.take i,J2 x.At q)
 |0,_=>by simp[BW]
 |i+1,Q=>by
  have O:a.Tiles[i]? =some (a.Tiles[i]'(by omega)):=Bd (by omega);simp only[BW];rw[oM,J4 i (by omega),HX O,O,DW,AS];constructor
  .rintro (⟨h,x,z,G⟩|⟨h,G⟩)
   .exact⟨h,x,G7 _ z,G⟩
   .exact⟨h,_,PZ _ (Cb ..),G⟩
  .rintro⟨h,x,z,G⟩;rcases Bp.1 z with z|z
   .exact .inl ⟨h,x,z,G⟩
   .rw[B4] at z;subst z;exact .inr ⟨h,G⟩
def Gg(s:Am)(f:Ac->Int)(q:Ac):Nat->List Int
 |0=>[]
 |k+1=>Gg s f q k++(if s.Temperature<=EO s.Set f q k 4 then [(k:Int)] else [])
def Wa(s:Am)(f:Ac->Int)(q:Ac): ∀k,(Gg s f q k).length<=k
 |0=>by simp[Gg]
 |k+1=>by
  have:=Wa s f q k
  simp only[Gg,BQ]
  split<;>simp<;>omega
def cF{s:Am}{f:Ac->Int}{q:Ac}(z:Dl q=true)(G:f q<0): ∀n,Fx s f q n=Gg s f q n
 |0=>rfl
 |n+1=>by
  simp only[Fx,Gg,cF z G n,Jt,z,JS G,F2,Bo]
def Gn(p:Ac)(k:Int):Ba:=⟨p,k⟩
def B8(g:Ac->List Int)(l:List Ac):List Ba:=l.flatMap λp=>(g p).map (Gn p)
def CY(s:Am)(a:Ab):List Ba:=B8 (λp=>Gg s (Bq a) p s.Set.Tiles.length) (BW a a.Tiles.length)
def GF(op:List (Ac×List Int)):List Ba:=B8 (λp=>(B6 op p).getD []) (BX (op.map Prod.fst))
def oH{g:Ac->List Int}: ∀(l:List Ac),B8 g (l.filter λp=> !(g p).isEmpty)=B8 g l
 |[]=>rfl
 |p::r=>by
  have ih:=oH (g:=g) r;simp only[B8] at ih;simp only[B8,lW];split
  .simp only[EQ,ih]
  .rename_i c
   have:g p=[]:=by simpa using c
   simp only[EQ,ih,this,Cs,Fb]
def bV{g h:Ac->List Int}: ∀(l:List Ac),(∀p∈l,g p=h p)->B8 g l=B8 h l
 |[],_=>rfl
 |p::r,z=>by
  simp only[B8,EQ];rw[z p (Cb ..)]
  have:=bV r λq hq=>z q (BZ _ hq)
  simp only[B8] at this;rw[this]
def KU{a:Ab}{q:Ac}(h:0<=Bq a q): ∃x∈a.Tiles,x.At=q:=by
 simp only[Bq] at h;cases e:a.Tiles.find? (λx=>decide (x.At=q)) with
 |none=>rw[e] at h;simp at h
 |some x=>exact⟨x,fG e,by simpa using V8 e⟩
def T1{s:Am}{a:Ab}{op:List (Ac×List Int)}(hT:1<=s.Temperature)(h:Nd s (Bq a) op):GF op=CY s a:=by
 have G: ∀q,D6 s (Bq a) q≠[]->q∈BW a a.Tiles.length:=λq hq=>by
  rw[J4 _ (AF _),El];have h0:Bq a q<0:=by
   apply V0;intro c;exact hq (pA (by omega) _)
  have hp:Dl q=true:=by
   apply V0;intro c;exact hq (VU (λk=>by simp only[Jt];rw[JQ] at c;rw[c];rfl) _)
  refine⟨⟨hp,h0⟩,?_⟩;apply V0;intro c;refine hq (cC hT (λd hd=> ?_) _);apply V0;intro c2;obtain⟨x,hx,e⟩:=KU (a:=a) (q:=Cm q d) (by omega);exact c ⟨x,hx,VY ⟨d,hd,e.symm⟩⟩
 have Q: ∀q∈BW a a.Tiles.length,Gg s (Bq a) q s.Set.Tiles.length=D6 s (Bq a) q:=λq hq=>by
  rw[J4 _ (AF _)] at hq;exact (cF hq.1.1 hq.1.2 _).symm
 have O: ∀q,(B6 op q).getD []=D6 s (Bq a) q:=λq=>by
  rw[h.2 q,FE];split
  .rename_i e;rw[e];rfl
  .rfl
 have Z:CY s a=B8 (D6 s (Bq a)) (BW a a.Tiles.length):=bV _ Q;have e2:GF op=B8 (D6 s (Bq a)) (BX (op.map Prod.fst)):=bV _ λq _=>O q
 rw[Z,e2,<-oH (BW a a.Tiles.length)];congr 1;refine Q5 (Hs _) ((cB a _).filter _) (λq=> ?_);rw[FZ,gT,h.2 q,FE,Rc];constructor
 .intro hq;have z:D6 s (Bq a) q≠[]:=λe=>hq (Ai e)
  exact⟨G q z,by simpa using z⟩
 .rintro⟨_,hq⟩;have z:D6 s (Bq a) q≠[]:=by simpa using hq
  rw[Ad z];simp
def EG(p:Ac)(l:List Ac):Nat:=(l.takeWhile λy=>Bj y p).length
def oT(p:Ac): ∀(l:List Ac),DS p l=if l[EG p l]? =some p then l else l.take (EG p l)++p::l.drop (EG p l)
 |[]=>by simp[DS,EG]
 |y::r=>by
  have ih:=oT p r;simp only[DS];by_cases c:Bj y p=true
  .have e:EG p (y::r)=EG p r+1:=by simp[EG,c]
   rw[Ai c,ih,e,I2];split
   .rfl
   .simp
  .have e:EG p (y::r)=0:=by simp[EG,c]
   rw[Ad c,e];simp
def Mm{p:Ac}: ∀{l:List Ac} {k:Nat},Ie l->k<=l.length->(∀(i:Nat) (y:Ac),k<=i->l[i]? =some y->Bj y p=false)->(∀y,k≠0->l[k - 1]? =some y->Bj y p=true)->EG p l=k
 |[],k,_,G,_,_=>by simp at G;simp[EG,G]
 |y::r,0,_,_,O,_=>by
  have:=O 0 y (AF _) rfl
  simp[EG,this]
 |y::r,k+1,Z,G,O,Q=>by
  rw[Ie,Qb] at Z;have hy:Bj y p=true:=by
   cases k with
   |zero=>exact Q y (by omega) rfl
   |succ k=>
    have aa:k+1<(y::r).length:=by simp at G⊢;omega
    have h3:=Q _ (by omega) (Bd (l:=y::r) (i:=k+1) aa);refine Ny (Z.1 _ ?_) h3;simp
  have ih:=Mm (p:=p) (l:=r) (k:=k) Z.2 (by simpa using G) (λi z hi hz=>O (i+1) z (by omega) (by simpa using hz)) (λz ab hz=>Q z (by omega) (by
   obtain⟨m,rfl⟩: ∃m,k=m+1:=⟨k - 1,by omega⟩;simpa using hz))
  simp only[EG] at ih;simp[EG,hy,ih]
def M9(p:Ac)(l:List Ac)(i:Nat):List Ac:=(l++[p]).take (i+1)++l.drop i
def bZ{p:Ac}{l:List Ac}{i:Nat}(h:i<=l.length):(M9 p l i).length=l.length+1:=by simp[M9];omega
def YB(p:Ac)(l:List Ac):M9 p l l.length=l++[p]:=by simp[M9,DP]
def Uz{p x:Ac}{l:List Ac}{i:Nat}(h:i+1<=l.length)(Z:(M9 p l (i+1))[i]? =some x):(M9 p l (i+1)).set (i+1) x=M9 p l i:=by
 have z:l[i]? =some x:=by
  rw[<-Z,M9,DQ (by simp;omega),KM,Ai (by omega),DQ (by omega)]
 apply NP;intro j;have Q:((l++[p]).take (i+1+1)).length=i+2:=by simp;omega
 have G:((l++[p]).take (i+1)).length=i+1:=by simp;omega
 by_cases c:j=i+1
 .subst c;rw[Ee (by rw[bZ h];omega),M9,E7 (by omega),G,G5,Ez,Xd,z]
 .rw[DM (E3 c)];simp only[M9];by_cases O:j<i+1
  .rw[DQ (by omega),DQ (by omega),KM,KM,Ai (by omega),Ai O]
  .rw[E7 (by omega),E7 (by omega),Q,G,Ez,Ez];congr 1;omega
def YC{p:Ac}{l:List Ac}{k:Nat}(h:k<=l.length):(M9 p l k).set k p=l.take k++p::l.drop k:=by
 apply NP;intro j;have O:((l++[p]).take (k+1)).length=k+1:=by simp;omega
 have z:(l.take k).length=k:=by simp;omega
 by_cases c:j=k
 .subst c;rw[Ee (by rw[bZ h];omega),E7 (by omega),z,G5];simp
 .rw[DM (E3 c)];simp only[M9];by_cases G:j<k
  .rw[DQ (by omega),DQ (by omega),KM,KM,Ai (by omega),Ai G,DQ (by omega)]
  .obtain⟨m,rfl⟩: ∃m,j=k+1+m:=⟨j - (k+1),by omega⟩;rw[E7 (by omega),E7 (by omega),O,z,Ez,show k+1+m - k=m+1 by omega,I2,Ez];congr 1;omega
def Kx{p q:Ac}:((p.X==q.X)=true/\(p.Y==q.Y)=true)↔p=q:=by
 obtain⟨z,G⟩:=p;obtain⟨O,Q⟩:=q;simp
def putQ.ca(a:List Ac×Ac):List AV:=[.own 0,.im (.agg [.int .i64 a.2.X,.int .i64 a.2.Y])]
def putQ.H0(a:List Ac×Ac):Ar:=[(0,(true,.arr 70 2 (a.1.map Ac.c)))]
def putQ.H1(a:List Ac×Ac):Ar:=[(1,(true,.arr 70 2 ((DS a.2 a.1).map Ac.c)))]
def wJ(j:Nat):Bool:=j==0
def putQ.row:Ax:=AE putQ.ca putQ.H0 1 (λa=>Ie a.1/\a.1.length<=1000000) wJ (λ_=> .own 1) putQ.H1 1
def putQ.ok:AA 185 putQ.row:=by
 refine Hd (tC l_LessPoint.ok tN) Tryz.func185 (exB:=λj=>j==1) (R:=λ_ r=>r= .own 1) (λ_=>rfl)
  (λa=>by simp[putQ.ca,putQ.H0,AN,AV.bel,AD,Cg,Cx,Ag.nms,An,hget]) (λa p hp=> ?_) (λa r h=>by subst h;exact DK.refl _) ?_
 rotate_left
 intro a af;simp only[Tryz.f185,putQ.ca,putQ.H0,putQ.H1];simp only[ZA,simprocAttr];rotate_left
 .simp[putQ.H1] at hp;subst hp;exact .inr ⟨by omega,by omega,rfl,rfl⟩
 obtain⟨l,p⟩:=a;obtain⟨hl,hn⟩:=af;simp only at hl hn⊢;intro _;refine AR.old ⟨{k:Nat//k<=l.length/\ ∀(i:Nat) (y:Ac),k<=i->l[i]? =some y->Bj y p=false},λk=>⟨[(5,.im (.int .i64 k.1)),(3,.ptr 1 0),(0,.own 0)],[(1,(true,.cells 70 [.im (.int .i64 p.X),.im (.int .i64 p.Y)])),(0,(true,.arr 70 2 (l.map Ac.c)))],3⟩,λk=>k.1,λk=>⟨by simp[ZG],by simp⟩,⟨⟨l.length,AF _,λi y hi Z=>by rw[Fz hi] at Z;cases Z⟩,by simp only[ZA,simprocAttr,sub]⟩,λk=> ?_⟩;obtain⟨k,hk,ac⟩:=k;simp only[ZA,simprocAttr,l_LessPoint.q,l_LessPoint.fv,AG,AC,sub,AM];have Q:0<k->IntKind.i64.wrap ((k:Int) - 1)=((k - 1:Nat):Int):=λh=>by rw[AB (by omega) (by omega)];omega
 refine⟨λab=>⟨by rw[Q (by omega)];omega,by rw[Q (by omega)];omega,by rw[Q (by omega)];omega,λx hx=>⟨λaa=> ?r,λaa=>⟨λO=>⟨O,O,λy Z=>⟨λe=> ?a1,λe=> ?b1⟩⟩,λO=> ?b2⟩⟩⟩,λab=>⟨λO=>⟨O,O,λy Z=>⟨λe=> ?a2,λe=> ?b3⟩⟩,λO=> ?b4⟩⟩
 case r=>
  rw[Q (by omega),BD] at hx;refine⟨⟨k - 1,by omega,λi y hi Z=> ?_⟩,by simp only;omega,by rw[Q (by omega)]⟩;by_cases c:i=k - 1
  .subst c;obtain rfl:=Aw (hx.symm.trans Z);exact aa
  .exact ac i y (by omega) Z
 all_goals
  have ad:EG p l=k:=Mm hl hk ac (λy aq Z=>by
   first
    |(rw[Q (by omega),BD] at hx;obtain rfl:=Aw (hx.symm.trans Z);simpa using aa)
    |(exact absurd (by omega) ab))
  have G:=oT p l;rw[ad] at G
 case a1=>
  have ey:y=p:=Kx.1 e;rw[Z,ey,Ai rfl] at G;refine⟨[],[(1,some 0)],⟨[(4,.own 1)],putQ.H1 (l,p),2⟩,?_,by simp[putQ.H1,ZG],by simp,?_⟩
  .simp only[Ak,putQ.H1,G];simp only[ZA,simprocAttr]
  .simp only[ZA,simprocAttr,putQ.H1,wJ,putQ.H1]
 case a2=>
  have ey:y=p:=Kx.1 e;rw[Z,ey,Ai rfl] at G;refine⟨[],[(1,some 0)],⟨[(4,.own 1)],putQ.H1 (l,p),2⟩,?_,by simp[putQ.H1,ZG],by simp,?_⟩
  .simp only[Ak,putQ.H1,G];simp only[ZA,simprocAttr]
  .simp only[ZA,simprocAttr,putQ.H1,wJ,putQ.H1]
 all_goals
  have am:l[k]? ≠some p:=λh=>by
   first
    |(obtain rfl:=Aw (Z.symm.trans h);exact e (Kx.2 rfl))
    |(rw[Fz (by omega)] at h;cases h)
  rw[Ad am] at G;have ah:l.map Ac.c++[[D.int .i64 p.X,D.int .i64 p.Y]]=(l++[p]).map Ac.c:=by rw[Ei];rfl
  rw[ah];refine⟨by omega,λ_=> ?_⟩;refine AR.old ⟨{i:Nat//k<=i/\i<=l.length},λi=>⟨[(6,.im (.int .i64 i.1)),(5,.im (.int .i64 k)),(0,.own 4),(3,.ptr 1 0)],[(4,(true,.arr 70 2 ((M9 p l i.1).map Ac.c))),(1,(true,.cells 70 [.im (.int .i64 p.X),.im (.int .i64 p.Y)]))],5⟩,λi=>i.1,λi=>⟨by simp[ZG],by simp⟩,⟨⟨l.length,hk,AF _⟩,?_⟩,λi=> ?_⟩
  .simp only[ZA,simprocAttr,sub,YB];rw[BQ,uU,AB (by omega) (by omega)];omega
  obtain⟨i,au,ai⟩:=i;have ao:=bZ (p:=p) ai;simp only[ZA,simprocAttr,AG,sub,AM,ao];refine⟨λak=> ?_,λak=>⟨by omega,by omega,λx hx=> ?_⟩⟩
  .have aj:IntKind.i64.wrap ((i:Int) - 1)=((i - 1:Nat):Int):=by rw[AB (by omega) (by omega)];omega
   rw[aj,BD];refine⟨by omega,by omega,by omega,λx hx=>⟨by omega,by omega,λz hz=>⟨⟨i - 1,by omega,by omega⟩,by simp only;omega,rfl,?_⟩⟩⟩;have ag:=Uz (p:=p) (x:=x) (l:=l) (i:=i - 1) (by omega) (by rwa [show i - 1+1=i by omega]);rw[show i - 1+1=i by omega] at ag;rw[<-ag,KN];rfl
  .obtain rfl:i=k:=by omega
   have an:((M9 p l i).map Ac.c).set i [D.int .i64 p.X,D.int .i64 p.Y]=(DS p l).map Ac.c:=by
    rw[G,<-YC hk,KN];rfl
   refine⟨[],[(1,some 4)],⟨[(4,.own 1)],putQ.H1 (l,p),2⟩,?_,by simp[putQ.H1,ZG],by simp,?_⟩
   .simp only[Ak,putQ.H1,an];simp only[ZA,simprocAttr]
   .simp only[ZA,simprocAttr,putQ.H1,wJ,putQ.H1]
def TH(a:List Ac×Ac)(j:Nat):An (putQ.H0 a) j=true↔j<1:=by
 simp only[An,putQ.H0,hget];by_cases z:j=0
 .subst z;simp
 .have:(0==j)=false:=by simpa using λh=>z h.symm
  rw[this];simp;omega
def oU(p:Ac): ∀(l:List Ac),(DS p l).length<=l.length+1
 |[]=>by simp[DS]
 |y::r=>by
  have:=oU p r
  simp only[DS];split
  .simp only[Cr];omega
  .split<;>simp
def cA(a:Ab)(p:Ac)(l:List Ac): ∀k,(DN a p l k).length<=l.length+k
 |0=>by simp[DN]
 |k+1=>by
  have:=cA a p l k
  simp only[DN];split
  .have:=oU (Cm p k) (DN a p l k);omega
  .omega
def Nw(a:Ab): ∀i,(BW a i).length<=4*i
 |0=>by simp[BW]
 |i+1=>by
  have:=Nw a i
  have:=cA a ((a.Tiles[i]?.map Aj.At).getD ⟨0,0⟩) (BW a i) 4
  simp only[BW];omega
def nearS_.fv(a:Ab):List Ac:=(λa=>BW a a.Tiles.length) a
def nearS_.row:Ax:=vK (b1 (qP 1 Ab.d_le)) (rS Ac.d_le Ac.c_n) (λa=>Ck none a.Tiles=true/\a.Tiles.length<=1000/\ ∃s,∀x∈a.Tiles,FN s x.Tile) nearS_.fv
def nearS_.q:=AX (R:=nearS_.row) rfl
def nearS_.ok:AA 138 nearS_.row:=by
 refine vw (tC l01Step.ok (tC l01Point.ok (tC l03Index.ok (tC putQ.ok tN)))) Tryz.func138 ?_;intro a Z;simp only[Tryz.f138];simp only[ZA,simprocAttr,nearS_.fv];obtain⟨h1,h2,s0,h3⟩:=Z;refine AR.ren ⟨{i:Nat//i<=a.Tiles.length},λi=>⟨[(4,.im (.int .i64 i.1)),(3,.own 3),(0,.ptr 0 0)],[(3,(true,.arr 70 2 ((BW a i.1).map Ac.c))),(0,(false,.view (Ab.c a)))],4⟩,λi=>a.Tiles.length - i.1,λi=>⟨by simp[ZG],by simp⟩,⟨⟨0,BP _⟩,[(3,some 2)],?_⟩,λi=> ?_⟩
 .simp only[Ak];simp only[ZA,simprocAttr,AL,BW]
  try simp
 obtain⟨i,hi⟩:=i;simp only[ZA,simprocAttr,AM];intro _;refine⟨λz=> ?_,λz=> ?_⟩;rotate_left
 .obtain rfl:i=a.Tiles.length:=by omega
  rfl
 obtain⟨x,hx⟩: ∃x,a.Tiles[i]? =some x:=⟨_,Bd z⟩;have af:=(Zs _ _ h1 x (AP hx)).1;have e1:BW a (i+1)=DN a x.At (BW a i) 4:=by simp only[BW,hx];rfl
 have ag:=Nw a i;have ac:=cB a i;refine AR.ren ⟨{d:Nat//d<=4},λd=>⟨[(5,.im (.int .i64 d.1)),(4,.im (.int .i64 i)),(3,.own 4),(0,.ptr 0 0)],[(4,(true,.arr 70 2 ((DN a x.At (BW a i) d.1).map Ac.c))),(0,(false,.view (Ab.c a)))],5⟩,λd=>4 - d.1,λd=>⟨by simp[ZG],by simp⟩,⟨⟨0,BP _⟩,[(4,some 3)],?_⟩,λd=> ?_⟩
 .simp only[Ak];simp only[ZA,simprocAttr,AL,DN]
  try simp
 obtain⟨d,hd⟩:=d;have ah:=cA a x.At (BW a i) d;have ad:=VV (a:=a) (p:=x.At) ac d;simp only[ZA,simprocAttr,Ab.d,l01Step.q,l01Step.fv,l01Point.q,l01Point.fv,l03Index.q,l03Index.fv,AM];have Q:IntKind.i64.wrap ((d:Int)+1)=((d+1:Nat):Int):=by rw[AB (by omega) (by omega)];omega
 refine⟨λab=>⟨z,λy hy=> ?_⟩,λab=> ?_⟩;rotate_left
 .obtain rfl:d=4:=by omega
  refine⟨⟨i+1,by omega⟩,[(3,some 4)],by simp only;omega,?_⟩;simp only[Ak];simp only[ZA,simprocAttr,AL,e1];rw[AB (by omega) (by omega)];rfl
 obtain rfl:=Aw (hx.symm.trans hy);refine⟨⟨PT af,by omega⟩,λO=>⟨h1,λG=> ?_,λG=> ?_⟩,λO=> ?_⟩
 .have aa:=(J6 h3 (Cm x.At d)).1 G;refine AE.os (DN a x.At (BW a i) d,Cm x.At d) [4] ⟨ad,by simp only;omega⟩ (TH _) rfl rfl ?_ ?_
  .simp only[ZA,simprocAttr,putQ.ca,putQ.H0,CV,Cz]
  simp only[ZA,simprocAttr,putQ.H1,wJ];refine⟨⟨d+1,by omega⟩,[(4,some 6)],by simp only;omega,?_⟩;simp only[Ak];simp only[ZA,simprocAttr,AL,DN];rw[Ai ⟨O,aa⟩];exact⟨Q,rfl⟩
 all_goals
  refine⟨⟨d+1,by omega⟩,[(4,some 4)],by simp only;omega,?_⟩;simp only[Ak];simp only[ZA,simprocAttr,AL,DN];refine⟨Q,?_⟩;rw[Ad];rintro⟨g1,g2⟩
  first
   |exact G ((J6 h3 _).2 g2)
   |exact O g1
def Sw(s:A8)(a:Ab)(p:Ac):Nat->List Int
 |0=>[]
 |k+1=>Sw s a p k++[if Bq a (Cm p k)<0 then 0 else JK s (Bq a (Cm p k)) (((k:Int)+2) % 4)]
def Nx(s:A8)(a:Ab)(p:Ac): ∀k,(Sw s a p k).length=k
 |0=>rfl
 |k+1=>by simp[Sw,Nx s a p k]
def bX{s:A8}{a:Ab}{p:Ac}: ∀{n k:Nat},k<n->(Sw s a p n)[k]? =some (if Bq a (Cm p k)<0 then 0 else JK s (Bq a (Cm p k)) (((k:Int)+2) % 4))
 |0,k,h=>by omega
 |n+1,k,h=>by
  simp only[Sw];by_cases c:k<n
  .rw[DQ (by rw[Nx];exact c),bX c]
  .obtain rfl:k=n:=by omega
   rw[E7 (by rw[Nx];omega),Nx,G5];rfl
def YU{s:A8}{a:Ab}{p:Ac}{i:Int}{k:Nat}{g:Int}(z:g=if Bq a (Cm p k)<0 then 0 else JK s (Bq a (Cm p k)) (((k:Int)+2) % 4)):(if JK s i k=g then PP s g else 0)=PW s (Bq a) p i k:=by
 simp only[PW,JD];by_cases c:Bq a (Cm p k)<0
 .rw[Ai c] at z;subst z;rw[Ad (show ¬0<=Bq a (Cm p k) by omega),LB (by omega)]
  split<;>rfl
 .rw[Ad c] at z;rw[Ai (show 0<=Bq a (Cm p k) by omega),<-z];split
  .rename_i e;rw[e]
  .rfl
def iW{s:A8}(h:BG s){t:Int}{d:Int}:0<=JK s t d/\JK s t d<=s.Glues.length:=by
 simp only[JK];cases e:s.Tiles[t.toNat]? with
 |none=>simp
 |some x=>
  simp only[DW,AS];cases e2:x.Sides[d.toNat]? with
  |none=>simp
  |some g=>
   simp only[AS];exact (h.2.1 x (AP e)).2 g (AP e2)
def atQ_.fv(a:A8×Ab×Ac×Int):List Int:=(λs a p t=>Gg ⟨s,a,t⟩ (Bq a) p s.Tiles.length) (a.1) (a.2.1) (a.2.2.1) (a.2.2.2)
def atQ_.row:Ax:=vK (b4 (qP 2 A8.d_le) (qP 1 Ab.d_le) (qR Ac.d_le) qI) (rS FK EM) (λa=>BG a.1/\Fy a.1 a.2.1/\GI a.2.2.1/\a.1.Tiles.length<=1000000) atQ_.fv
def atQ_.q:=AX (R:=atQ_.row) rfl
def atQ_.ok:AA 139 atQ_.row:=by
 refine vw (tC l01Step.ok (tC l03At.ok (tC Opposite_.ok (tC l02Strength.ok tN)))) Tryz.func139 ?_;intro a af;simp only[Tryz.f139];simp only[ZA,simprocAttr,atQ_.fv];obtain⟨s,a,p,t⟩:=a;obtain⟨Q,h2,h3,h4⟩:=af;simp only at Q h2 h3 h4⊢;refine AR.ren ⟨{d:Nat//d<=4},λd=>⟨[(10,.im (.int .i64 d.1)),(9,.own 5),(6,.ptr 2 0),(0,.ptr 0 0),(1,.ptr 1 0),(3,.im (.int .i64 t))],[(5,(true,.arr 2 1 ((Sw s a p d.1).map Ao))),(2,(true,.cells 70 [.im (.int .i64 p.X),.im (.int .i64 p.Y)])),(0,(false,.view (A8.c s))),(1,(false,.view (Ab.c a)))],6⟩,λd=>4 - d.1,λd=>⟨by simp[ZG],by simp⟩,⟨⟨0,BP _⟩,[(5,some 4)],?_⟩,λd=> ?_⟩
 .simp only[Ak];simp only[ZA,simprocAttr,AL,Sw]
  try simp
 obtain⟨d,hd⟩:=d;have ak:=Nx s a p d;simp only[ZA,simprocAttr,Ab.d,l01Step.q,l01Step.fv,l03At.q,l03At.fv,Opposite_.q,Opposite_.fv,AM,FJ,FI,Bn,D.one];have Z:IntKind.i64.wrap ((d:Int)+1)=((d+1:Nat):Int):=by rw[AB (by omega) (by omega)];omega
 refine⟨λaa=>⟨⟨h3,by omega⟩,h2.1,λhn=>⟨by omega,⟨d+1,by omega⟩,[(5,some 7)],by simp only;omega,?_⟩,λhn=> ?_⟩,λaa=> ?_⟩
 .simp only[Ak];simp only[ZA,simprocAttr,AL,Sw];rw[Ai hn];refine⟨Z,by simp[Ao]⟩
 .obtain⟨b1,b2⟩:=JV h2 (Cm p d) (by omega);refine⟨b1,b2,λx hx=>⟨by omega,by omega,by rw[(Q.2.1 x (AP hx)).1];omega,λg hg=>⟨by omega,⟨d+1,by omega⟩,[(5,some 7)],by simp only;omega,?_⟩⟩⟩;have O:JK s (Bq a (Cm p d)) (((d:Int)+2) % 4)=g:=eP hx hg;simp only[Ak];simp only[ZA,simprocAttr,AL,Sw];rw[Ad hn,O];refine⟨Z,by simp[Ao]⟩
 obtain rfl:d=4:=by omega
 clear Z aa hd;obtain⟨S,hS⟩: ∃S:Am,S=⟨s,a,t⟩:=⟨_,rfl⟩;rw[<-hS];refine AR.ren ⟨{i:Nat//i<=s.Tiles.length},λi=>⟨[(13,.im (.int .i64 i.1)),(12,.own 7),(9,.own 5),(0,.ptr 0 0),(3,.im (.int .i64 t))],[(7,(true,.arr 2 1 ((Gg S (Bq a) p i.1).map Ao))),(5,(true,.arr 2 1 ((Sw s a p 4).map Ao))),(0,(false,.view (A8.c s))),(1,(false,.view (Ab.c a)))],8⟩,λi=>s.Tiles.length - i.1,λi=>⟨by simp[ZG],by simp⟩,⟨⟨0,BP _⟩,[(7,some 6)],?_⟩,λi=> ?_⟩
 .simp only[Ak];simp only[ZA,simprocAttr,AL,Gg]
  try simp
 obtain⟨i,hi⟩:=i;have an:=Wa S (Bq a) p i;simp only[ZA,simprocAttr,AM];intro _;refine⟨λab=> ?_,λab=> ?_⟩;rotate_left
 .obtain rfl:i=s.Tiles.length:=by omega
  rfl
 refine AR.old ⟨{k:Nat//k<=4},λk=>⟨[(15,.im (.int .i64 k.1)),(14,.im (.int .i64 (EO s (Bq a) p i k.1))),(13,.im (.int .i64 i)),(12,.own 7),(9,.own 5),(0,.ptr 0 0),(3,.im (.int .i64 t))],[(7,(true,.arr 2 1 ((Gg S (Bq a) p i).map Ao))),(5,(true,.arr 2 1 ((Sw s a p 4).map Ao))),(0,(false,.view (A8.c s))),(1,(false,.view (Ab.c a)))],8⟩,λk=>4 - k.1,λk=>⟨by simp[ZG],by simp⟩,⟨⟨0,BP _⟩,?_⟩,λk=> ?_⟩
 .simp only[ZA,simprocAttr,sub,EO]
 obtain⟨k,hk⟩:=k;simp only[ZA,simprocAttr,l02Strength.q,l02Strength.fv,sub,AM,FJ,FI,Bn,D.one];have ad:IntKind.i64.wrap ((k:Int)+1)=((k+1:Nat):Int):=by rw[AB (by omega) (by omega)];omega
 have aj:=Qwy Q (Bq a) p i k;have am:=Qxd Q (Bq a) p i k;have ah:=Nx s a p 4;rw[ah];refine⟨λai=>⟨ab,λx hx=>⟨by rw[(Q.2.1 x (AP hx)).1];omega,λg hg=>⟨by omega,by omega,λy hy=> ?_⟩⟩⟩,λai=> ?_⟩
 .have O:JK s i k=g:=eP (by simpa using hx) (by simpa using hg);rw[bX (by omega),AI] at hy;have G:=YU (i:=i) hy.symm;rw[O] at G;refine⟨λe=>⟨by omega,by omega,λz hz=> ?_⟩,λe=>⟨⟨k+1,by omega⟩,by simp only;omega,ad,?_⟩⟩
  .rw[bX (by omega),AI] at hz;obtain rfl:y=z:=hy.symm.trans hz;rw[Ai e] at G;have ag:0<=y/\y<=s.Glues.length:=by
    have:=iW Q (t:=i) (d:=k)
    rw[O,e] at this;exact this
   refine⟨⟨ag.1,ag.2,Q.1⟩,⟨k+1,by omega⟩,by simp only;omega,ad,?_⟩;rw[G,AB (by omega) (by omega)];rfl
  .rw[Ad e] at G;simp only[EO,<-G];omega
 .obtain rfl:k=4:=by omega
  have ac:IntKind.i64.wrap ((i:Int)+1)=((i+1:Nat):Int):=by rw[AB (by omega) (by omega)];omega
  have e1:S.Temperature=t:=by rw[hS]
  have e2:S.Set=s:=by rw[hS]
  refine⟨λe=>⟨by omega,⟨i+1,by omega⟩,[(7,some 9)],by simp only;omega,?_⟩,λe=>⟨⟨i+1,by omega⟩,[(7,some 7)],by simp only;omega,?_⟩⟩
  .simp only[Ak];simp only[ZA,simprocAttr,AL,Gg,e1,e2];rw[Ai e];exact⟨ac,by simp[Ao]⟩
  .simp only[Ak];simp only[ZA,simprocAttr,AL,Gg,e1,e2];rw[Ad e,CC];exact⟨ac,rfl⟩
def ZX(s:Am)(a b:Ab)(f:Ac->Int)(p:Ac): ∀n,Gg ⟨s.Set,a,s.Temperature⟩ f p n=Gg s f p n
 |0=>rfl
 |n+1=>by simp only[Gg,ZX s a b f p n]
def Cj(g:Ac->List Int)(l:List Ac)(i:Nat):List Ba:=B8 g (l.take i)
def Wd{g:Ac->List Int}{l:List Ac}{i:Nat}{p:Ac}(h:l[i]? =some p):Cj g l (i+1)=Cj g l i++(g p).map (Gn p):=by
 simp only[Cj,B8,HX h,Zeb,EQ,ZQ,CC]
def Io{g:Ac->List Int}{m:Nat}(z: ∀p,(g p).length<=m): ∀(l:List Ac),(B8 g l).length<=l.length*m
 |[]=>by simp[B8]
 |p::r=>by
  have ih:=Io z r
  have:=z p
  simp only[B8] at ih;simp only[B8,EQ,BQ,EJ,Cr,uY];omega
def opsS_.fv(a:Am×Ab):List Ba:=(CY) (a.1) (a.2)
def opsS_.row:Ax:=vK (b2 (qP 4 Am.d_le) (qP 1 Ab.d_le)) (rS Ba.d_le Ba.c_n) (λa=>BG a.1.Set/\Fy a.1.Set a.2/\a.2.Tiles.length<=500/\a.1.Set.Tiles.length<=1000) opsS_.fv
def opsS_.q:=AX (R:=opsS_.row) rfl
def opsS_.ok:AA 90 opsS_.row:=by
 refine vw (tC nearS_.ok (tC atQ_.ok tN)) Tryz.func90 ?_;intro a Q;simp only[Tryz.f90];simp only[ZA,simprocAttr,Ab.d,opsS_.fv,nearS_.q,nearS_.fv];obtain⟨s,a⟩:=a;obtain⟨h1,Z,h3,h4⟩:=Q;simp only at h1 Z h3 h4⊢;refine⟨⟨Z.1,by omega,s.Set,Z.2⟩,?_⟩;obtain⟨L,hL⟩: ∃L,L=BW a a.Tiles.length:=⟨_,rfl⟩;obtain⟨g,hg⟩: ∃g,g=λp=>Gg s (Bq a) p s.Set.Tiles.length:=⟨_,rfl⟩
 have ac:CY s a=B8 g L:=by rw[hg,hL];rfl
 rw[ac];have af:L.length<=2000:=by have:=Nw a a.Tiles.length;rw[hL];omega
 have G: ∀p,(g p).length<=1000:=λp=>by have:=Wa s (Bq a) p s.Set.Tiles.length;rw[hg];simp only;omega
 have aa: ∀p∈L,Dl p=true:=λp hp=>by
  rw[hL,J4 _ (AF _)] at hp;exact hp.1.1
 simp only[<-hL];refine AR.ren ⟨{i:Nat//i<=L.length},λi=>⟨[(7,.im (.int .i64 i.1)),(6,.im (.sl false 2 (L.map Ac.c))),(5,.own 4),(0,.ptr 0 0),(1,.ptr 1 0)],[(4,(true,.arr 72 3 ((Cj g L i.1).map Ba.c))),(0,(false,.view (Am.c s))),(1,(false,.view (Ab.c a)))],5⟩,λi=>L.length - i.1,λi=>⟨by simp[ZG],by simp⟩,⟨⟨0,BP _⟩,[(4,some 3)],?_⟩,λi=> ?_⟩
 .simp only[Ak];simp only[ZA,simprocAttr,AL,Cj,B8]
  try simp
 obtain⟨i,hi⟩:=i;simp only[ZA,simprocAttr,Ab.d,atQ_.q,atQ_.fv,AM];intro _;refine⟨λz=> ?_,λz=> ?_⟩;rotate_left
 .obtain rfl:i=L.length:=by omega
  rw[Cj,El]
 have ah:(Cj g L i).length<=2000*1000:=by
  have:=Io G (L.take i)
  have h9:(L.take i).length*1000<=2000*1000:=FS _ (by simp;omega);simp only[Cj];omega
 refine⟨z,λp hp=> ?_⟩;have ad:=aa p (AP hp);refine⟨⟨h1,Z,PT ad,by omega⟩,?_⟩;have ab:Gg ⟨s.Set,a,s.Temperature⟩ (Bq a) p s.Set.Tiles.length=g p:=by rw[ZX _ _ a,hg]
 rw[ab];have ag:=G p;refine AR.ren ⟨{k:Nat//k<=(g p).length},λk=>⟨[(9,.im (.int .i64 k.1)),(8,.im (.sl false 1 ((g p).map Ao))),(7,.im (.int .i64 i)),(6,.im (.sl false 2 (L.map Ac.c))),(5,.own 5),(0,.ptr 0 0),(1,.ptr 1 0)],[(5,(true,.arr 72 3 ((Cj g L i++((g p).take k.1).map (Gn p)).map Ba.c))),(0,(false,.view (Am.c s))),(1,(false,.view (Ab.c a)))],6⟩,λk=>(g p).length - k.1,λk=>⟨by simp[ZG],by simp⟩,⟨⟨0,BP _⟩,[(5,some 4)],?_⟩,λk=> ?_⟩
 .simp only[Ak];simp only[ZA,simprocAttr,AL]
  try simp
 obtain⟨k,hk⟩:=k;simp only[ZA,simprocAttr,AM,FJ,FI,Bn,D.one,BQ];intro _;refine⟨λO=>⟨z,λq hq=>⟨O,λx hx=>⟨?_,⟨k+1,by omega⟩,[(5,some 7)],by simp only;omega,?_⟩⟩⟩,λO=>⟨⟨i+1,by omega⟩,[(4,some 5)],by simp only;omega,?_⟩⟩
 .have:((g p).take k).length<=1000:=by simp;omega
  omega
 .obtain rfl:=Aw (hp.symm.trans hq);simp only[Ak];simp only[ZA,simprocAttr,AL];refine⟨by rw[AB (by omega) (by omega)];rfl,?_⟩;rw[HX hx];simp[Gn,Ba.c]
 .obtain rfl:k=(g p).length:=by omega
  simp only[Ak];simp only[ZA,simprocAttr,AL];refine⟨by rw[AB (by omega) (by omega)];rfl,?_⟩;rw[Wd hp,El]
structure Qs where
 A:Ab
 From:Int
 By:Ba
 deriving DecidableEq
def Qs.c(x:Qs):List D:=[.sl false 3 (x.A.Tiles.map Aj.c),.int .i64 x.From,.int .i64 x.By.At.X,.int .i64 x.By.At.Y,.int .i64 x.By.Tile]
def Qs.d:List D->Option Qs
 |[.sl _ _ z,.int .i64 G,.int .i64 O,.int .i64 Q,.int .i64 Z]=>(AQ Aj.d z).bind λy0=>some ⟨⟨y0⟩,G,⟨⟨O,Q⟩,Z⟩⟩
 |_=>none
def Qs.len(x:Qs):(Qs.c x).length=5:=rfl
def o0:Ba:=⟨⟨0,0⟩,0⟩
def vY(W:List Qs):Prop:= ∀(j:Nat) (f:Qs),W[j]? =some f->f.From<j
def wV(f:Ea):Bool:=Bf f.Num (-1000000000) 1000000000 && (Bf f.Den 1 1000000000 && decide ((Int.gcd f.Num f.Den:Int)=1))
def wM(n d:Int):Ea×Int:=if n/(Int.gcd n d:Int)<=1000000000/\d/(Int.gcd n d:Int)<=1000000000 then (⟨n/(Int.gcd n d:Int),d/(Int.gcd n d:Int)⟩,0) else (⟨0,0⟩,4)
def orZ(a b:Ea)(q:Ea×Int):Ea×Int:=if wV a=true/\wV b=true then q else (⟨0,0⟩,1)
def aI(c d:Int):Int:=if c=0 then d else c
def Ii(op:Ea->Ea->Ea×Int)(r t:Int)(q:Ea×Int):Ea×Int:=
 ((orZ q.1 (wM r t).1 (op q.1 (wM r t).1)).1,aI (aI q.2 (wM r t).2) (orZ q.1 (wM r t).1 (op q.1 (wM r t).1)).2)
def oA{β:Type}(p:Ac)(v:β): ∀(t:List (Ac×β)),(t.map Prod.fst).Nodup->((Bs t p v).map Prod.fst).Nodup/\(∀q,q∈(Bs t p v).map Prod.fst->q=p\/q∈t.map Prod.fst)/\(Bs t p v).length<=t.length+1
 |[],_=>by simp[Bs]
 |(k,w)::r,h=>by
  rw[Bb,Hn] at h;simp only[Bs];by_cases c:p=k
  .subst c;rw[Ai rfl];refine⟨by rw[Bb,Hn];exact h,λq hq=> .inr hq,by simp⟩
  .rw[Ad c];obtain⟨O,G,Q⟩:=oA p v r h.2;refine⟨?_,?_,by simp only[Cr];omega⟩
   .rw[Bb,Hn];refine⟨λz=> ?_,O⟩;rcases G _ z with z|z
    .exact c z.symm
    .exact h.1 z
   .intro q hq;rw[Bb] at hq⊢;rcases Bx.1 hq with rfl|hq
    .exact .inr (Cb ..)
    .rcases G _ hq with hq|hq
     .exact .inl hq
     .exact .inr (BZ _ hq)
def pX(l:List Aj):((BT l).map Prod.fst).Nodup/\(BT l).length<=l.length:=by
 have z: ∀(l:List Aj) (t:List (Ac×Int)),(t.map Prod.fst).Nodup->((l.foldl (λt x=>Bs t x.At x.Tile) t).map Prod.fst).Nodup/\(l.foldl (λt x=>Bs t x.At x.Tile) t).length<=t.length+l.length:=by
  intro l;induction l with
  |nil=>intro t h;exact⟨h,by simp⟩
  |cons x r ih=>
   intro t h;obtain⟨G,_,Z⟩:=oA x.At x.Tile t h;obtain⟨O,Q⟩:=ih _ G;exact⟨O,by simp only[NQ,Cr] at Q⊢;omega⟩
 have:=z l [] (by simp)
 exact⟨this.1,by simpa[BT] using this.2⟩
end Go.Ae
namespace Go.Ae
end Go.Ae
namespace Go.Ae
open Go.Proofs
def oC{s:Am}{b:Ab}{o:Ba}(h:Db s b o=true):Dl o.At=true/\GI o.At/\0<=o.Tile/\o.Tile<s.Set.Tiles.length/\FN s.Set o.Tile/\(∀x∈b.Tiles,x.At≠o.At):=by
 simp only[Db,AO,Bo] at h;obtain⟨G,z,O,_⟩:=h;simp only[Bf,AO,Bo] at z;exact⟨G,PT G,z.1,by omega,⟨z.1,by omega⟩,zK O⟩
end Go.Ae
namespace Go.Ae
open Go.Proofs Go.Sort Go.Shelf
instance:Inhabited Ac:=⟨⟨0,0⟩⟩
def Dd(x:Ac):List Value:=[.int .i64 x.X,.int .i64 x.Y]
def cfQ(x y:Ac):Int:=Mn (x.X,x.Y) (y.X,y.Y)
def Wg(x y:Ac):ltOf cfQ x y=Bj x y:=by
 simp only[ltOf,cfQ,Mn,Lib.compareInt,Bj]
 grind
def swoQ:SWO (ltOf cfQ) where
 irrefl x:=by rw[Wg];simp only[Bj];grind
 trans x y z h1 h2:=by rw[Wg] at*;simp only[Bj] at*;grind
 ntrans x y z h1 h2:=by rw[Wg] at*;simp only[Bj] at*;grind
def oV{l:List Ac}(hd:l.Nodup):(BX l).Perm l:=(ZdS (Km (Hs l)) hd).2 λ_=>FZ
def Qamw{l l':List Ac}(hd:l.Nodup)(hp:l'.Perm l)(hs:l'.Pairwise (λa b=>Bj b a=false)):l'=BX l:=by
 refine Q5 ?_ (Hs l) (λq=>by rw[FZ,hp.mem_iff]);have hn:l'.Nodup:=hp.nodup_iff.2 hd;refine uI (λ{a b} h=> ?_) (Zfq.2 ⟨hs,hn⟩);exact Q4 h.1 λe=>h.2 e.symm
def Sg(l:List Ac):List Value:=l.flatMap Dd
def L0(l:List Ac):(Sg l).length=l.length*2:=by
 induction l with
 |nil=>rfl
 |cons x r ih=>simp only[Sg,EQ,BQ,Cr] at ih⊢;rw[ih];simp[Dd];omega
def cI{ok:Nat->Prop}{hp:Nat->Option Obj}: ∀(l:List Ac) (L:List Value),rdr ok hp 2 (l.map Ac.c) L↔ ∃r,L=Sg l++r
 |[],L=>by simp[rdr,Sg]
 |x::r,L=>by
  simp only[Bb,rdr,cI r,Ac.c,rdp,rd,Sg,EQ];constructor
  .rintro⟨_,⟨v,z,rfl,rfl,O,G,rfl,rfl,_⟩,q,hq⟩;exact⟨q,by simp only[JN,FR] at hq;rw[hq];rfl⟩
  .rintro⟨q,rfl⟩;exact⟨rfl,⟨_,_,rfl,rfl,_,_,rfl,rfl,trivial⟩,q,rfl⟩
def Lz: ∀(l:List Ac) (t:Nat),t<l.length*2->(Sg l)[t]? =some ((Dd (l[t/2]?.getD default))[t % 2]!)
 |[],t,h=>by simp at h
 |x::r,t,h=>by
  by_cases O:t<2
  .have:t=0\/t=1:=by omega
   rcases this with rfl|rfl<;>simp[Sg,Dd]
  .obtain⟨u,rfl⟩: ∃u,t=u+2:=⟨t - 2,by omega⟩;have z:(u+2)/2=u/2+1:=by omega
   have G:(u+2) % 2=u % 2:=by omega
   have ih:=Lz r u (by simp at h;omega);rw[z,G,I2,<-ih];simp[Sg,Dd]
def oZ(l:List Ac):(flatK Dd 2 l.toArray).toList=Sg l:=by
 apply NP;intro t;by_cases z:t<l.length*2
 .rw[Lz l t z];have G:t<(flatK Dd 2 l.toArray).size:=by simp only[size_flatK,VA];exact z
  have O:=get_flatK Dd 2 l.toArray t (by simpa using z);rw[GU,GR G,<-getElem!_pos (flatK Dd 2 l.toArray) t G,O];congr 3;simp[getElem!_def];cases l[t/2]? <;>rfl
 .have a1:(flatK Dd 2 l.toArray).toList.length<=t:=by rw[Dm,size_flatK,VA];omega
  have a2:(Sg l).length<=t:=by rw[L0];omega
  rw[Fz a1,Fz a2]
def C7(l:List Ac):List Ac:=l.mergeSort λa b=> !Bj b a
def Wp(l:List Ac):(C7 l).Perm l:=List.mergeSort_perm ..
def pT:C7 []=[]:=by simp[C7]
def cX(l:List Ac):(C7 l).length=l.length:=(Wp l).length_eq
def dB(l:List Ac):(C7 l).Pairwise (λa b=>Bj b a=false):=by
 have h:(C7 l).Pairwise (λa b=>(!Bj b a)=true):=by
  refine Zfd (λa b c z G=> ?_) (λa b=> ?_) l
  .simp only[JP,Bj] at*;grind
  .cases h:Bj b a with
   |false=>rfl
   |true=>
    cases g:Bj a b with
    |false=>rfl
    |true=>
     have:=Ny h g
     rw[bU] at this;cases this
 exact h.imp λ{a b} h=>by simpa using h
def OK{l l':List Ac}(hp:l'.Perm l)(hs:l'.Pairwise (λa b=>Bj b a=false)):l'=C7 l:=by
 refine uP (le:=λa b=>Bj b a=false) (λa b _ _ g1 g2=> ?_) hs (dB l) (hp.trans (Wp l).symm);apply V0;intro e;rw[Q4 g1 λh=>e h.symm] at g2;cases g2
def Yq{l:List Ac}(hd:l.Nodup):C7 l=BX l:=Qamw hd (Wp l) (dB l)
def srtG.ca(_:List Ac):List AV:=[.own 0,.im (.fn 135 [] [])]
def srtG.H0(a:List Ac):Ar:=[(0,(true,.arr 70 2 (a.map Ac.c)))]
def srtG.H1(a:List Ac):Ar:=[(0,(true,.arr 70 2 ((C7 a).map Ac.c)))]
def srtG.row:Ax:=AE srtG.ca srtG.H0 1 (λ_=>True) (λ_=>true) (λ_=> .im (.tup [])) srtG.H1 0
def srtG.ok:AA 212 srtG.row:=by
 rintro bl h nx K ⟨a,τ,U,KL,bn,rfl,O,hN,hK⟩;refine⟨KH (by kernel_rfl),_,_,?_,hK⟩;intro C S vs R hW a8 ba bb aa aw;have ao:Di τ 1 nx 0=τ 0:=Ai (by omega);simp only[srtG.ca,AU,AV.ren,ao,AJ,Aa,rd,rdl] at aa;obtain⟨v0,r0,hv,⟨ad,ai⟩,v1,r1,bh,⟨ac,cc,bj,aj,ak⟩,bi⟩:=aa;have aj:ac= #[]:=by apply I3;simpa using aj
 have ak:cc= #[]:=by apply I3;simpa using ak
 subst aj ak bi bh bj;have hvs:vs= #[v0,.func (VB 135) #[] #[]]:=by apply I3;simpa using hv
 subst hvs;have hm:h (τ 0)=some (true,.arr 70 2 (a.map Ac.c)):=by
  have:=O.1
  rwa [ao] at this
 have av:An (srtG.H0 a) 0=true:=rfl;have Q:S.h (τ 0)=some (true,.arr 70 2 (a.map Ac.c)):=by
  rw[a8 (τ 0) (G7 _ (hN.u 0 av)),hm]
 have ax: ∀n,n∈KL↔n=τ 0:=by
  intro n;constructor
  .intro hn;obtain⟨j,h1,_,h3⟩:=hN.k1 n hn
   have:j=0:=by
    simp only[An,srtG.H0,hget] at h1;by_cases hj:j=0
    .exact hj
    .have:(0==j)=false:=by simpa using λh=>hj h.symm
     rw[this] at h1;cases h1
   rw[h3,this]
  .rintro rfl;exact hN.k2 0 av rfl
 obtain⟨m,hmm⟩: ∃m,m=τ 0:=⟨_,rfl⟩;rw[<-hmm] at Q ai ax;have aq:=cX a;have fin: ∀(w':World),HW S m (.arr 70 2 ((C7 a).map Ac.c)) (S.ρ m) [m] w'->
  (B3 (λn=>S.h m≠none\/n≠m) S (S.one m (.arr 70 2 ((C7 a).map Ac.c)) (S.ρ m) [m] w')->Al (S.one m (.arr 70 2 ((C7 a).map Ac.c)) (S.ρ m) [m] w') (S.ρ m) (.arr 70 2 ((C7 a).map Ac.c)))->R (.returned (.tuple #[])) w':=by
  intro w' ad bg;have hp:=W6 hW ad;refine aw (.tuple #[]) _ (Z6 hW ad (bg hp)) ?_ ⟨hp.ok,λn _=>hp.nm n (.inl (by rw[Q];simp))⟩ ⟨#[],rfl,rfl⟩;funext n;simp only[Au.one,Bz.appf,srtG.H1,B1,ao,hget,Ag.ren,<-hmm];by_cases hn:n=m
  .subst hn;simp
  .have h1:(m==n)=false:=by simpa using λh=>hn h.symm
   have h2:KL.contains n=false:=by
    rw[<-JQ,G6,ax];exact hn
   simp only[h1,Ct,h2,hn,Cu,B4]
 have z:=ai _ Q;have Z:=hW.obj _ _ Q;have az:=λG=>hW.loc m _ G Q
 cases hρ:S.ρ m with
 |none=>
  rw[hρ] at z Z;simp only[Al] at Z;have ha:a=[]:=by simpa using Z.2
  subst ha;simp only at z;rw[z,WL (by decide)];refine (AnyF.slices_SortFunc_none Tryz.sortPt none 0 (.func (.func 135) #[] #[]) S.w).mono ?_;rintro e w' ⟨rfl,rfl⟩;refine fin S.w (bQ Q (λl hl=>by rw[hρ] at hl;cases hl) rfl (by rw[pT])) (λ_=> ?_);rw[hρ,pT];exact⟨BP _,rfl⟩
 |some G=>
  rw[hρ] at z Z;simp only[Al,Ag.len] at Z z;obtain⟨g1,g2,cv,g3,g4,g5⟩:=Z;obtain⟨an,bo⟩:=az G hρ;rw[cI] at g5;obtain⟨a9,g5⟩:=g5;simp only[EJ] at g1 g2 z;have O:S.w.heap[G.b]? =some (.cells cv 70 (0,0)):=g3;have bm:G.p+a.length*2<=cv.size:=by omega
  have hF:(flatK Dd 2 a.toArray).size=a.length*2:=by simp
  have hget: ∀j,j<a.length*2->cv[G.p+j]? =some ((flatK Dd 2 a.toArray)[j]!):=by
   intro j hj;have h1:(cv.toList.drop G.p)[j]? =(Sg a++a9)[j]? :=by rw[g5]
   rw[Ez,GU,DQ (by rw[L0];exact hj),<-oZ,GU] at h1;rw[h1,GR (by rw[hF];exact hj),getElem!_pos _ _ (by rw[hF];exact hj)]
  have hH:HoldsK Dd 2 S.w G.b G.p a.toArray:=by
   intro j hj;rw[hF] at hj;refine⟨?_,?_⟩
   .simp only[World.cell?,O,Xc,CN,Cu,id];exact hget j hj
   .simp only[World.frozen?,O];simp
  have hc:=AnyQ.slices_SortFunc Tryz.sortPt 2 Tryz.isAgg70 Tryz.sizeOf70 Dd (λ_=>rfl) (λx v hv=>by simp[Dd] at hv;rcases hv with rfl|rfl<;>rfl) cfQ swoQ 135 #[] G.b G.p G.cap a.toArray S.w
   (rH (KH (by kernel_rfl))) (λm os dk hs x y=>Tryz.cmpPoints _ _ _ _ _) hH an (by simp only[VA,Hq] at g1⊢;omega)
  rw[z,WL (by decide)];refine hc.mono ?_;rintro e w' ⟨rfl,d',n,os,af,au,rfl⟩;have a0:d'.size=a.length:=af.1;have be:d'.toList=C7 a:=by
   refine OK ?_ ?_
   .have:=af.2.2
    rwa [show d'.extract 0 a.toArray.size=d' by rw[VA,<-a0];exact uH,show a.toArray.extract 0 a.toArray.size=a.toArray from uH] at this
   .rw[uO];intro i j hi hj bf
    have:=au i j (BP _) bf (by rw[VA,<-a0];simpa using hj)
    rw[Wg,getElem!_pos d' i (by simpa using hi),getElem!_pos d' j (by simpa using hj)] at this;simpa using this
  obtain rfl:d'=(C7 a).toArray:=by apply I3;rw[be]
  have ah:(flatK Dd 2 (C7 a).toArray).size=a.length*2:=by simp[aq]
  have am:(flatK Dd 2 (C7 a).toArray).toList.length=a.length*2:=by rw[Dm,ah]
  have ag:S.w.heap.size<=(sortWorldK Dd 2 S.w G.b G.p n (C7 a).toArray os).heap.size:=by
   simp[sortWorldK,grow,putRowK,Sort.ahead]
  have hb: ∀b,b<S.w.heap.size->(sortWorldK Dd 2 S.w G.b G.p n (C7 a).toArray os).heap[b]? =if G.b=b then S.w.heap[b]?.map (onCells (putCells id G.p (flatK Dd 2 (C7 a).toArray))) else S.w.heap[b]? :=by
   intro b hb;have e0:b<(putRowK Dd 2 (Sort.ahead S.w n) G.b G.p (C7 a).toArray).heap.size:=by simpa[putRowK,Sort.ahead] using hb
   simp only[sortWorldK,grow];rw[Zds e0];simp only[putRowK,putRow,mapBlock,Sort.ahead,fB]
  refine fin _ ⟨rfl,rfl,rfl,uL _ _,ag,?_,.inl (by simp),?_,?_,?_⟩ ?_
  .intro b bc bd;rw[hb b bc,Ad (bd m _ G (by simp) Q hρ)]
  .intro lo ay;rw[hρ] at ay;obtain rfl:=Aw ay;exact⟨E8 an ag,.inr ⟨m,_,G,by simp,Q,hρ,rfl⟩⟩
  .intro f hf;rw[Q] at hf;obtain rfl:=Aw hf;exact⟨rfl,rfl,by simp[Ag.len,aq]⟩
  .intro n' f _ ab;rw[Q] at ab;cases ab
  .intro _;rw[hρ];simp only[Al,EJ,aq];refine⟨g1,g2,putCells id G.p (flatK Dd 2 (C7 a).toArray) cv,?_,by simpa[putCells] using g4,?_⟩
   .simp only[Au.one,Au.hp];rw[hb G.b an,Ai rfl,O];rfl
   .rw[cI];refine⟨(cv.toList.drop (G.p+a.length*2)),?_⟩;apply NP;intro t;rw[Ez,GU,putCells,Zfk,ah,<-oZ];by_cases ht:t<a.length*2
    .rw[DQ (by rw[am];exact ht),GU,GR (show G.p+t<cv.size by omega),GR (by rw[ah];exact ht)];simp only[DW,id];rw[Ai ⟨by omega,by omega⟩,uS,getElem!_pos _ _ (by rw[ah];exact ht)]
    .rw[E7 (by rw[am];omega),am,Ez,GU,show G.p+a.length*2+(t - a.length*2)=G.p+t by omega];cases cv[G.p+t]? with
     |none=>rfl
     |some x=>simp only[DW];rw[Ad (by omega)]
def srtQ.ca(_:List Ac):List AV:=[.own 0,.im (.fn 135 [] [])]
def srtQ.H0(a:List Ac):Ar:=[(0,(true,.arr 70 2 (a.map Ac.c)))]
def srtQ.H1(a:List Ac):Ar:=[(0,(true,.arr 70 2 ((BX a).map Ac.c)))]
def srtQ.row:Ax:=AE srtQ.ca srtQ.H0 1 (λa=>a.Nodup) (λ_=>true) (λ_=> .im (.tup [])) srtQ.H1 0
def srtQ.ok:AA 212 srtQ.row:=by
 rintro z h nx K ⟨a,τ,U,KL,G,Q,Z,h3,O⟩;have e:srtQ.H1 a=srtG.H1 a:=by simp only[srtQ.H1,srtG.H1,Yq G]
 rw[e] at O;exact srtG.ok z h nx K ⟨a,τ,U,KL,trivial,Q,Z,h3,O⟩
end Go.Ae
namespace Go.Ae
open Go.Proofs
def Dc(op:List (Ac×List Int)):Nat:=(op.map λq=>q.2.length).sum
def Kk{β:Type}: ∀{l:List (Ac×β)} {q:Ac×β},(l.map Prod.fst).Nodup->q∈l->B6 l q.1=some q.2
 |x::r,q,hn,hq=>by
  obtain⟨p,v⟩:=x;rw[Bb,Hn] at hn;simp only[B6];rcases Bx.1 hq with rfl|hq
  .rw[Ai rfl]
  .have:q.1≠p:=λe=>hn.1 (by rw[<-e];exact BI.2 ⟨q,hq,rfl⟩)
   rw[Ad this];exact Kk hn.2 hq
def oO{g:Ac->List Int}: ∀(l:List Ac),(B8 g l).length=(l.map λp=>(g p).length).sum
 |[]=>rfl
 |p::r=>by
  have:=oO (g:=g) r
  simp only[B8] at this;simp only[B8,EQ,BQ,EJ,Bb,NO,this]
def pI{op:List (Ac×List Int)}(h:(op.map Prod.fst).Nodup):(GF op).length=Dc op:=by
 rw[GF,oO,((oV h).map _).sum_nat,mH];congr 1;refine ZI λq hq=> ?_
 simp only[Function.comp,Kk h hq,AS]
def R9: ∀{l:List (Ac×List Int)},(∀q∈l,q.2≠[])->l.length<=Dc l
 |[],_=>BP _
 |x::r,h=>by
  have G:0<x.2.length:=fL.2 (h x (Cb ..));have z:=R9 λq hq=>h q (BZ x hq)
  simp only[Dc,Bb,NO,Cr] at z⊢;omega
def cD(s:Am){b:Ab}(O:b.Tiles.length<=500)(Q:s.Set.Tiles.length<=160):(CY s b).length<=320000:=by
 have z:=Io (g:=λp=>Gg s (Bq b) p s.Set.Tiles.length) (m:=160) (λp=>BR (Wa s (Bq b) p _) (by omega)) (BW b b.Tiles.length);have Z:=Nw b b.Tiles.length;have G:(BW b b.Tiles.length).length*160<=2000*160:=FS _ (by omega);exact BR z G
def Tz{s:Am}{b:Ab}{op:List (Ac×List Int)}(hT:1<=s.Temperature)(h1:b.Tiles.length<=500)(h2:s.Set.Tiles.length<=160)(G:Nd s (Bq b) op):
 GF op=CY s b/\((op.map Prod.fst).Nodup/\op.length<=1000000/\ ∀q∈op,q.2.length<=1000)/\(GF op).length<=320000:=by
 have z:=T1 hT G;have O:=pI G.1;rw[z] at O;have Q: ∀q∈op,q.2=D6 s (Bq b) q.1/\q.2≠[]:=λq hq=>by
  have Z:=Kk G.1 hq;rw[G.2,FE] at Z;split at Z
  .cases Z
  .rename_i c;have h6:=Aw Z;exact⟨h6.symm,by rw[<-h6];exact c⟩
 have h6:op.length<=Dc op:=R9 λq hq=>(Q q hq).2
 have h7:=cD s h1 h2;refine⟨z,⟨G.1,by omega,λq hq=> ?_⟩,by rw[z];exact h7⟩;rw[(Q q hq).1];exact BR (Qus s _ _ _) (by omega)
def oP{s:Am}{f:Ac->Int}{q:Ac}{x:Int}: ∀{n:Nat},x∈Fx s f q n↔ ∃k:Nat,k<n/\x=k/\Jt s f q k=true
 |0=>by simp[Fx]
 |n+1=>by
  simp only[Fx,Bp,oP (n:=n)];constructor
  .rintro (⟨k,O,z⟩|h)
   .exact⟨k,by omega,z⟩
   .split at h
    .rename_i c;exact⟨n,by omega,by simpa using h,c⟩
    .cases h
  .rintro⟨k,O,z,G⟩;by_cases Q:k=n
   .subst Q;right;rw[Ai G,z];exact B4.2 rfl
   .exact .inl ⟨k,by omega,z,G⟩
def R3{s:Am}{b:Ab}(hT:1<=s.Temperature)(hb:Fy s.Set b){o:Ba}(h:Db s b o=true):o∈CY s b:=by
 obtain⟨p1,p2,p3,p4,p5,p6⟩:=oC h;simp only[Db,AO,Bo] at h;obtain⟨z,d2,Q,Z⟩:=h;have h0:Bq b o.At<0:=(J6 hb.2 o.At).1 Q;have hf:Jt s (Bq b) o.At o.Tile=true:=by
  simp only[Jt,AO,Bo];exact⟨z,h0,by rw[Qy];exact Z⟩
 have G:o.Tile∈D6 s (Bq b) o.At:=by
  rw[D6,oP];exact⟨o.Tile.toNat,by omega,by omega,by rw[uF p3];exact hf⟩
 have O:D6 s (Bq b) o.At≠[]:=λe=>by rw[e] at G;cases G
 have hn:o.At∈BW b b.Tiles.length:=by
  rw[J4 _ (AF _),El];refine⟨⟨z,h0⟩,?_⟩;apply V0;intro c;refine O (cC hT (λd hd=> ?_) _);apply V0;intro c2;obtain⟨x,hx,e⟩:=KU (a:=b) (q:=Cm o.At d) (by omega);exact c ⟨x,hx,VY ⟨d,hd,e.symm⟩⟩
 rw[CY,B8,V5];refine⟨o.At,hn,BI.2 ⟨o.Tile,?_,rfl⟩⟩;rw[<-cF z h0];exact G
def TG(b:Ab)(p:Ac)(t:Int):(Br b p t).Tiles.length=b.Tiles.length+1:=by
 rw[WE];rw[(sJ ⟨p,t⟩ b.Tiles).length_eq,Cr]
def cM{s:Am}{b:Ab}(Q:Fy s.Set b){o:Ba}(h:o∈CY s b):Db s b o=true:=by
 rw[CY,B8,V5] at h;obtain⟨p,hp,h⟩:=h;obtain⟨t,Z,rfl⟩:=BI.1 h;rw[J4 _ (AF _)] at hp;obtain⟨⟨G,O⟩,_⟩:=hp;have z: ∀n,t∈Gg s (Bq b) p n->0<=t/\t<n/\s.Temperature<=EO s.Set (Bq b) p t 4:=by
  intro n;induction n with
  |zero=>intro h;simp[Gg] at h
  |succ n ih=>
   intro h;simp only[Gg,Bp] at h;rcases h with h|h
   .have:=ih h;exact⟨this.1,by omega,this.2.2⟩
   .split at h
    .rename_i c;simp only[B4] at h;subst h;exact⟨by omega,by omega,c⟩
    .cases h
 obtain⟨k1,k2,k3⟩:=z _ Z;show Db s b ⟨p,t⟩=true;simp only[Db,Bf,AO,Bo];exact⟨G,⟨k1,by omega⟩,(J6 Q.2 p).2 O,by rw[<-Qy];exact k3⟩
section
variable (m:Hm)(x g:Ab)(most:Int)
end
structure skG(m:Hm)(most:Int)(W:List Qs)(L:List Ab):Prop where
 ok: ∀f∈W,FM m.Big.Set f.A=true
 back:vY W
 pos:1<=W.length
 len:(W.length:Int)<=most
 srt:Ek L
 mem: ∀a,a∈L↔a∈W.map Qs.A
 lenL:L.length<=W.length
def J8{s:Am}(h:Dw s=true):Eu s.Set=true:=(Im h).2.1
def Y0{s:Am}{t:List (Ac×Int)}{a:Ab}{k:Nat}{o:Ba}(h:RM t a k)(Z:Fy s.Set a)(c1:Db s a o=true):B6 t o.At=none/\0<=o.Tile:=by
 simp only[Db,AO,Bo] at c1;obtain⟨d1,z,G,_⟩:=c1;have hv:0<=o.Tile:=by
  simp only[Bf,AO,Bo] at z;exact z.1
 refine⟨?_,hv⟩;have O:Cl t o.At=Bq a o.At:=congrFun h.at o.At;have h2:=(J6 Z.2 o.At).1 G;cases hq:B6 t o.At with
 |none=>rfl
 |some v=>
  exfalso;have Q:=h.pos _ (VQ hq);simp only[Cl,hq,AS] at O;simp only at Q;omega
def Ox{p:Ac}{q:Option Ac}(hq: ∀u,q=some u->Bj u p=true): ∀{r:List Aj},Ck (some p) r=true->Ck q r=true
 |[],_=>rO q
 |x::r,h=>by
  rw[N8] at h⊢;simp only[AO] at h⊢;obtain⟨z,G,O,Q⟩:=h;refine⟨z,G,?_,Q⟩;cases q with
  |none=>rfl
  |some u=>exact Ny (hq u rfl) O
def pF(c:Aj->Bool): ∀(l:List Aj) (q:Option Ac),Ck q l=true->Ck q (l.filter c)=true
 |[],q,_=>rO q
 |x::r,q,h=>by
  rw[N8] at h;simp only[AO] at h;obtain⟨G,O,z,Q⟩:=h;have ih:=pF c r (some x.At) Q;rw[lW];split
  .rw[N8];simp only[AO];exact⟨G,O,z,ih⟩
  .refine Ox (λu Z=> ?_) ih;subst Z;exact z
def Rs{a:Ab}(h:Ck none a.Tiles=true){x:Aj}(z:x∈a.Tiles):Bq a x.At=x.Tile:=by
 simp only[Bq];cases hf:a.Tiles.find? (λy=>decide (y.At=x.At)) with
 |none=>
  have:=Re.1 hf x z
  simp at this
 |some y=>
  have G:=fG hf;have e:y.At=x.At:=by simpa using V8 hf
  rw[bM (eJ h) y G x z e];rfl
def XR{ι:Type}{P:Program}{V:Df}{N:Nat}{J:ι->(Nat->Prop)->World->Prop}{base:Nat}{ok0:Nat->Prop}{i j:ι}(HV:Hi P V)(Z:NG base J){ac:ι->List D->ι->Prop}{l:Nat}(hY: ∀i x j G Pr W,ac i x j->(∀ok hp,rdl ok hp x G.toList)->J i Pr W->YieldAt Fence.wide 0 P l G W λe W'=>e= .returned (.bool true)/\ ∃Pr',J j Pr' W'/\Ik ok0 Pr W Pr' W')
 {id:Nat}{ops:Array Oper}(k1:Nat)(aq:List.range ops.size=List.range' 0 (ops.toList.take k1).length++(k1::(List.range' (k1+1) (ops.toList.drop (k1+1)).length++[])))(ad:Js N (ops.toList.take k1)=true)(af:Js N (ops.toList.drop (k1+1))=true)(z:WD ops=true)
 {o:Oper}{c:Call}{f:Operand}{x:List D}(s1:Az){s s2:Az}{a:Act}{w:World}{Q:Exit->Act->World->Prop}(ho:ops[k1]? =some o)(an:o.op= .call c)(aa:c.callee= .value f)(ai:o.guard=none)
 (hf:Aq s1.tm f= .im (.fn (1000000000+l) [] []))(O:D9 s1.tm c.args.toList=x.map .im)(ao:x.all D.scs=true)(hx:ac i x j)(am: ∀n e,hget s1.h n=some e->e.2.isView=false)(hd: ∀d,o.dst=some d->d<N)(ag:s1.good=true)(ah:s2.good=true)
 (h:It J base ok0 N i s a w)(aj:K0 P V (Gc ops (ops.toList.take k1)) (λs=>sub s s1) s)(ak:K0 P V (Gc ops (ops.toList.drop (k1+1))) (λs=>sub s s2) (s1.put o.dst (.im (.bool true))))
 (ab: ∀a w,It J base ok0 N j s2 a w->Q .normal a w):(Code.region id ops false).wpIn Fence.wide 0 P Q a w:=by
 refine wpIn_region ?_;rw[aq];refine Wh HV Z (seg:=ops.toList.take k1) (more:=ops.toList.drop k1) (by rw[FR,HZ]) ad z aj h (λs a w h1 h2=> ?_);have h3:=FO h2 h1 ag Z;have hw:Region.wanted o (yielded ops a.tmps)=true:=by simp[Region.wanted,ai]
 refine pD Z hY ho hw an aa hf O ao hx am hd h3 (λa w h4=> ?_);refine Wh HV Z (seg:=ops.toList.drop (k1+1)) (more:=[]) (by rw[CC]) af z ak h4 (λs a w h5 h6=> ?_);exact ab a w (FO h6 h5 ah Z)
abbrev FY:=List (Ac×List Int)
def XI(op:FY):mX:=⟨FY×List Ac,(op,[]),λi x j=> ∃(k:Nat) (p:Ac×List Int),i.1[k]? =some p/\x=[.agg (Ac.c p.1)]/\j=(i.1.eraseIdx k,i.2++[p.1]),λi=>i.1=[]⟩
def HB(l:Nat)(left:FY)(z:Option (D×D)):Az:=⟨[(5,.it 0),(0,.im (.fn (1000000000+l) [] []))],[(0,(true,.iter z (left.map DL)))],1⟩
def wL(l:Nat)(left:FY)(p:Ac×List Int):Az:=⟨[(3,.ptr 1 0),(5,.it 0),(0,.im (.fn (1000000000+l) [] []))],[(0,(true,.iter (some (DL p)) (left.map DL))),(1,(true,.cells 70 [.im (.int .i64 p.1.X),.im (.int .i64 p.1.Y)]))],2⟩
def cE(l:Nat)(left:FY)(z:Option (D×D)):(HB l left z).good=true:=by simp[HB,ZG]
def SO(l:Nat)(left:FY)(p:Ac×List Int):(wL l left p).good=true:=by simp[wL,ZG]
def pE:Jr Tryz.prog (Qn []):=Qv [] (by simp)
def O6(op:FY):K8 Tryz.prog 213 [.ref [.mp wK (op.map DL)]] (XI op):=by
 refine SE Tryz.func213 rfl rfl (by simp) ?_;intro l J base ok0 z hY a w aa;have HV:=eS pE;obtain⟨R,hR⟩: ∃R,R=(λ(e:Exit) (a:Act) (w:World)=> ∃i,(XI op).fin i/\SD J base ok0 Tryz.f213.ntmps i (λe _=>e= .normal\/e= .ret) e a w):=⟨_,rfl⟩;rw[<-hR];simp only[Tryz.f213] at aa⊢;refine KJ CS HV z (by decide) (by decide) aa (Qx:=BO (HB l op none)) ?_ (λs a w G Q=> ?_) (λ_ _ _ _ h=>h.elim) (λ_ _ _ h=>h.elim)
 .simp only[ZA,simprocAttr,BO,HB,entry,sub,wK]
 have h3:=FO Q G (cE _ _ _) z;clear G Q aa;refine wpIn_block (wpIn_loop_ghost (λm a w=> ∃(i:FY×List Ac) (O:Option (D×D)),m=i.1.length/\It J base ok0 14 i (HB l i.1 O) a w) op.length ⟨(op,[]),none,rfl,h3⟩ ?_);clear h3;rintro m a w ⟨⟨left,Z⟩,O,hm,h⟩;simp only at hm h;refine KJ CS HV z (by decide) (by decide) h (Qx:=λe s=>match e with
  | .normal=>(left=[]/\sub s ⟨(7,.im (.bool false))::(HB l left O).tm,(HB l left O).h,1⟩)\/ ∃(k:Nat) (p:Ac×List Int),left[k]? =some p/\sub s ⟨(7,.im (.bool true))::(HB l left O).tm,(HB l (left.eraseIdx k) (some (DL p))).h,1⟩
  |_=>False) ?_ (λs a w G Q=> ?_) (λ_ _ _ _ h=>h.elim) (λ_ _ _ h=>h.elim)
 .simp only[ZA,simprocAttr,HB,sub,Qwf];refine⟨λh=> .inl (by simpa using h),λi p hp=> ?_⟩;rw[Ef] at hp;obtain⟨q,hq,rfl⟩:=CX.1 hp;exact .inr ⟨i,q,hq,rfl⟩
 simp only at G;rcases G with ⟨hl,hs⟩|⟨k,p,hk,hs⟩
 .have h3:=FO Q hs (by simp[HB,ZG]) z;refine KJ CS HV z (by decide) (by decide) h3 (Qx:=ID (HB l left O) False True 0) ?_ (λs a w G Q=>G.1.elim) (λid s a w G Q=> ?_) (λ_ _ _ h=>h.elim)
  .simp only[ZA,simprocAttr,ID,HB,sub]
  .obtain⟨rfl,_,G⟩:=G;simp only[Exit.then,Exit.inBlock,BF,hR,SD];exact⟨(left,Z),hl,s,.inl trivial,Q⟩
 have h3:=FO Q hs (by simp[HB,ZG]) z;clear Q h hs;refine KJ CS HV z (by decide) (by decide) h3 (Qx:=ID (HB l (left.eraseIdx k) (some (DL p))) True False 0) ?_ (λs a w G Q=> ?_) (λid s a w G Q=>G.2.1.elim) (λ_ _ _ h=>h.elim)
 .simp only[ZA,simprocAttr,ID,HB,sub]
 have h:=FO Q G.2 (cE _ _ _) z;clear G Q h3;refine wpIn_block ?_;refine KJ CS HV z (by decide) (by decide) h (Qx:=BO (wL l (left.eraseIdx k) p)) ?_ (λs a w G Q=> ?_) (λ_ _ _ _ h=>h.elim) (λ_ _ _ h=>h.elim)
 .simp only[ZA,simprocAttr,BO,HB,wL,sub,DL,Ac.c]
  trace_state
 have h3:=FO Q G (SO _ _ _) z;clear G Q h;have ab:=(BJ.1 hk).1;obtain⟨F,hF⟩: ∃F:AV,F= .im (.fn (1000000000+l) [] []):=⟨_,rfl⟩;obtain⟨E,hE⟩: ∃E:Ap,E=(true,.iter (some (DL p)) ((left.eraseIdx k).map DL)):=⟨_,rfl⟩;refine wpIn_seq (XR HV z hY (i:=(left,Z)) (j:=(left.eraseIdx k,Z++[p.1])) (x:=[.agg (Ac.c p.1)]) 2 (by decide) (by decide) (by decide) (by decide)
  (⟨[(11,.im (.agg (Ac.c p.1))),(10,F),(5,.it 0),(0,F)],[(0,E)],2⟩:Az) (s2:=⟨[(13,.im (.bool false)),(5,.it 0),(0,F)],[(0,E)],2⟩) rfl rfl rfl rfl (by rw[hF];rfl) rfl (by rfl) ⟨k,p,hk,rfl,rfl⟩ ?_ (by decide) (by rw[hE,hF];simp[ZG]) (by rw[hE,hF];simp[ZG]) h3 ?_ ?_ (λa w h4=> ?_))
 .exact λn e he=>VM _ (by rw[hE];rfl) n e he
 .simp only[ZA,simprocAttr,wL,sub,hE,hF,Ac.c,Gc,WS,List.take]
 .simp only[ZA,simprocAttr,sub,hE,hF,Ac.c,Gc,WS,List.drop]
 simp only[Exit.then];refine tK CS HV z (by decide) (by decide) h4 (Qx:=BO (HB l (left.eraseIdx k) (some (DL p)))) ?_ (λs a w G Q=> ?_) (λ_ _ _ _ h=>h.elim) (λ_ _ _ h=>h.elim)
 .simp only[ZA,simprocAttr,BO,HB,sub,hE,hF]
 simp only[Exit.inBlock,Exit.then];exact⟨(left.eraseIdx k).length,by rw[Zfx,Ai ab];omega,(left.eraseIdx k,Z++[p.1]),_,rfl,FO Q G (cE _ _ _) z⟩
end Go.Ae
namespace Go.Ae
open Go.Proofs Go.RowKit Go.Lib Go.Sort
def oY{A:Type}: ∀(l:List A) (k:Nat) (x:A),l[k]? =some x->l.Perm (x::l.eraseIdx k)
 |[],k,x,h=>by simp at h
 |y::r,0,x,h=>by
  simp only[G4,AI] at h;subst h;exact fK _
 |y::r,k+1,x,h=>by
  rw[I2] at h;rw[fI];exact ((oY r k x h).cons y).trans (List.Perm.swap x y _)
def fR(op:FY)(s:Az)(xs:List AV):Prop:= ∃l:List Ac,l.Perm (op.map Prod.fst)/\ ∃m,xs=[.own m]/\hget s.h m=some (true,.arr 70 2 (l.map Ac.c))
def gR(op:FY):D:= .fn 213 [] [.ref [.mp wK (op.map DL)]]
def fS{op:FY}(hb:op.length<=1000000){C:AT}{S:Au}{vs:Array Value}{RR:Ending->World->Prop}(hW:Wf C S)(aq:Ec S [.val (.sl true 0 []),.val (gR op)] vs.toList)
 (ad: ∀(v:Value) (C0:AT) (S1:Au) (l:List Ac) (m:Nat),C0.w=S.w->C0.ok=S.ok->(∀b,¬C0.M b)->Wf C0 S1->l.Perm (op.map Prod.fst)->S1.h m=some (true,.arr 70 2 (l.map Ac.c))->Aa S1 (.own m) v->RR (.returned v) S1.w):
 Calls Tryz.prog 254 vs S.w RR:=by
 have HV:=eS pE;refine oQ Tryz.func254 rfl (ps:=[.val (.sl true 0 []),.val (gR op)]) (show 2<=13 by decide) (Q:=fR op) ?_ hW aq ?_;rotate_left
 .rintro v C0 S1 s xs g1 g2 g3 g4 g5 ⟨l,hl,m,rfl,hm⟩ g7;exact ad v C0 S1 l m g1 g2 g3 g4 hl ((g5 m).trans hm) g7
 intro C0 a w hw af hc an;have ao:C0.ds=[]:=by obtain⟨S0,_,h⟩:=hc;rw[<-h.defers];exact an
 simp only[Tryz.f254] at hc⊢;refine tW CS HV (by decide) (by decide) (s':=⟨[(2,.ptr 0 0),(1,.im (gR op))],[(0,(true,.cells 88 [.im (.sl true 0 [])]))],2⟩) hc ?_ ?_ (by rw[af];exact BP _) (λa w hc=> ?_)
 .simp only[ZA,simprocAttr,BO,sub,CU,CT,BN,entry]
 .simp[ZG]
 refine wpIn_seq ?_;refine tW CS HV (by decide) (by decide) (s':=⟨[(6,.im (gR op)),(2,.ptr 0 0)],[(0,(true,.cells 88 [.im (.sl true 0 [])]))],2⟩) hc ?_ ?_ (by rw[af];exact BP _) (λa w hc=> ?_)
 .simp only[ZA,simprocAttr,BO,sub]
 .simp[ZG]
 refine wpIn_block (wpIn_mono (pB CS HV hc (gf:=213) (capt:=[.ref [.mp wK (op.map DL)]]) (X:=XI op) (KH (by kernel_rfl)) (O6 op)
  (λ(i:FY×List Ac)=>(i.2++i.1.map Prod.fst).Perm (op.map Prod.fst)) (fK _) ?_ (by decide) (by decide) (by decide) (by decide) ?_ (by decide)
  (tm0:=[(6,.im (gR op)),(2,.ptr 0 0)]) (hs:=λ(i:FY×List Ac)=>[(0,(true,.cells 88 [.own 2])),(2,(true,.arr 70 2 (i.2.map Ac.c)))]) (nx:=3) ⟨[(2,none)],?_⟩ rfl (by simp) ?_ ?_ ?_ ?_) ?_)
 .rintro⟨left,O⟩ x j G ⟨k,p,hk,rfl,rfl⟩;simp only at hk G⊢;have h1:(left.map Prod.fst).Perm (p.1::(left.eraseIdx k).map Prod.fst):=by
   exact (oY left k p hk).map Prod.fst
  refine List.Perm.trans ?_ G;rw[E0];exact (h1.append_left O).symm
 .rintro⟨left,O⟩ x j G ⟨k,p,hk,rfl,rfl⟩;rfl
 .simp only[Ak];simp only[ZA,simprocAttr,Bk];exact (trivial:Tp true (.arr 0 0 []))
 .simp[CQ,AV.bel]
 .rintro⟨left,O⟩ G;simp[ZG]
 .intro i o e he hv;rw[VM _ (by rfl) o e he] at hv;cases hv
 .rintro⟨left,O⟩ x j G ⟨k,p,hk,rfl,rfl⟩;have au:O.length<=op.length:=by
   have:=G.length_eq
   simp at this;omega
  simp only[ZA,simprocAttr,NX,Ue,Fs];refine⟨λrow ab=>by rw[B4] at ab;subst ab;rfl,by omega,[(2,some 5)],?_⟩;simp only[Ak];simp only[ZA,simprocAttr,AL,Ei]
 .rintro e a' w' ⟨⟨left,O⟩,G,ac,hq⟩;simp only[XI] at ac;subst ac;simp only[Cs,CC] at G;cases e<;>simp only[Y1] at hq;obtain⟨C2,S2,Dk,rfl,hE,Z,ht,hd,ag,ah,ai,aj,ak⟩:=hq;simp only[Exit.inBlock,Exit.then];have am:a.defers=[]:=by obtain⟨S0,_,h⟩:=hc;rw[h.defers];exact ao
  rw[am] at hd;have hm: ∀a'':Act,a''.defers=C2.ds->tH C0 C2 a''.defers:=λa'' h=> .inr ⟨Dk,by rw[h,<-hE.defers,hd],ag,ah,ai,aj,ak⟩
  refine wpIn_mono (jW (ro:=none) CS HV _ (by decide) (by decide) (Ua Tryz.prog [ResultVar.tmp 4] (fR op)) _ a' S2.w ?_ ⟨S2,rfl,hE⟩) ?_
  .simp only[ZA,simprocAttr,Ua,OX,fR];exact⟨_,rfl,O,G,2,rfl,rfl⟩
  .intro e a'' w'' hq;cases e<;>simp only[FU] at hq<;>simp only[OY]
   .obtain⟨s',aa,z⟩:=hq;exact⟨s',C2,aa,z,Z,hm a'' (by obtain⟨S0,_,h⟩:=z;exact h.defers)⟩
   .obtain⟨s',aa,z⟩:=hq;exact aa.elim
   .obtain⟨s',aa,z⟩:=hq;exact⟨s',C2,aa,z,Z,hm a'' (by obtain⟨S0,_,h⟩:=z;exact h.defers)⟩
def UH(a:List Ac)(j:Nat):An (srtQ.H0 a) j=true↔j<1:=by
 simp only[An,srtQ.H0,hget];by_cases z:j=0
 .subst z;simp
 .have:(0==j)=false:=by simpa using λh=>z h.symm
  rw[this];simp;omega
def mU(op:FY)(S:Au)(v:Value)(w:World):Prop:= ∃(z:AT) (S1:Au) (l:List Ac) (m:Nat),S1.w=w/\z.w=S.w/\z.ok=S.ok/\(∀b,¬z.M b)/\Wf z S1/\l.Perm (op.map Prod.fst)/\S1.h m=some (true,.arr 70 2 (l.map Ac.c))/\Aa S1 (.own m) v
def Xu{op:FY}(hb:op.length<=1000000){C:AT}{S:Au}{v1:Value}(hW:Wf C S)(hv:Ec S [.val (gR op)] [v1]):
 Calls Tryz.prog 211 #[v1] S.w (λe w=> ∃v,e= .returned v/\mU op S v w):=by
 have z:Calls Tryz.prog 254 #[.slice none 0 0,v1] S.w (λe w=> ∃v,e= .returned v/\mU op S v w):=by
  refine fS hb hW ⟨_,_,rfl,?_,hv⟩ (λv G S1 l m g1 g2 g3 O Q Z g7=>⟨v,rfl,G,S1,l,m,rfl,g1,g2,g3,O,Q,Z,g7⟩);exact cG S (.slice none 0 0)
 go_enter Tryz.func211,Tryz.ntmps211
 go_wp2_with (go_at_call 254;refine z.mono ?_;rintro e w' ⟨v,rfl,h⟩)
 go_ret
 exact⟨v,rfl,h⟩
def Px{Z:AT}{S1:Au}{l:List Ac}{m:Nat}{v Q:Value}{R:Ending->World->Prop}(hW:Wf Z S1)(hd:l.Nodup)(hm:S1.h m=some (true,.arr 70 2 (l.map Ac.c)))(hv:Aa S1 (.own m) v)(ab:Aa S1 (.im (.fn 135 [] [])) Q)
 (G: ∀u S',Wf Z S'->S'.h m=some (true,.arr 70 2 ((BX l).map Ac.c))->Aa S' (.own m) v->R (.returned u) S'.w):
 Calls Tryz.prog 212 #[v,Q] S1.w R:=by
 have O:srtQ.row [.own m,.im (.fn 135 [] [])] S1.h (m+1) (λr E=>E={use:=[m],kill:=[m],new:=[(m,(true,.arr 70 2 ((BX l).map Ac.c)))],cnt:=0}):=by
  refine AE.os l [m] hd (UH l) rfl (by simp[ZF]) ⟨rfl,?_⟩ ?_
  .simp only[srtQ.H0,CV,Di,Qk];exact⟨hm,trivial⟩
  .rfl
 obtain⟨_,r,E,hT,rfl⟩:=srtQ.ok _ _ _ _ O;have z: ∀n,¬Fr (m+1) 0 n:=λn h=>by have:=h.1;have:=h.2;omega
 refine hT Z S1 #[v,Q] R hW (λn _=>rfl) (λn hn=>(z n hn).elim) (λn e _ k _ hk=>z k hk) ⟨v,[Q],rfl,hv,Q,[],rfl,ab,rfl⟩ ?_;intro u S' aa hh hp _;refine G u S' aa ?_ (Hu hp _ _ (λo _ hf=>z o hf) hv);rw[hh];simp[Bz.appf,hget]
def sorF.ar:List PK->Option FY
 |[.val (.fn 213 [] [.ref [.mp ⟨true,[.int .i64,.int .i64]⟩ z]]),.val (.fn 135 [] [])]=>Gj (EH Ac.d) (Qp Dy) z
 |_=>none
def sorF.ae(op:FY):List PK:=[.val (gR op),.val (.fn 135 [] [])]
def sorF.le: ∀z a,sorF.ar z=some a->BM z (sorF.ae a):=by
 intro z a h;unfold sorF.ar at h;split at h
 .exact⟨WM ⟨Vo (CM.leP ⟨SR (Qxb Qwu (qN FK (λ_=>rfl)) _ _ h),trivial⟩),trivial⟩,C9.refl _,trivial⟩
 .cases h
def sorF.fv(op:FY):List Ac:=BX (op.map Prod.fst)
def sorF.row:Ax:=KE sorF.ar (λop=>(op.map Prod.fst).Nodup/\op.length<=1000000) (λop=> .sl false 2 ((sorF.fv op).map Ac.c))
def sorF.q:=mS sorF.row rfl
def sorF.ok:AA 169 sorF.row:=by
 refine Quy (by kernel_rfl) sorF.le (rc:=Qp Ac.d) (re:=λb=> .sl false 2 (b.map Ac.c)) (qN Ac.d_le (λ_=>rfl)) (f:=sorF.fv) (λop Q C S vs RR hW Z O=> ?_);obtain⟨ad,hb⟩:=Q;simp only[sorF.ae,Ec] at Z;obtain⟨v1,r1,hvs,ag,v2,r2,rfl,ah,rfl⟩:=Z;have ab:vs= #[v1,v2]:=by apply I3;simpa using hvs
 subst ab;have G:=Xu hb hW (v1:=v1) ⟨v1,[],rfl,ag,rfl⟩
 go_enter Tryz.func169,Tryz.ntmps169
 have aa: ∀S1:Au,Aa S1 (.im (.fn 135 [] [])) v2:=λS1=>by simpa only[HK,Aa,rd,rdl] using ah
 have af: ∀(z:AT) (S1:Au) (l:List Ac) (m:Nat) (v:Value),Wf z S1->l.Perm (op.map Prod.fst)->S1.h m=some (true,.arr 70 2 (l.map Ac.c))->Aa S1 (.own m) v->
  Calls Tryz.prog 212 #[v,v2] S1.w (λe w=> ∃u S',e= .returned u/\S'.w=w/\Wf z S'/\S'.h m=some (true,.arr 70 2 ((sorF.fv op).map Ac.c))/\Aa S' (.own m) v):=by
  intro z S1 l m v g4 g5 g6 g7;refine Px g4 (g5.nodup_iff.2 ad) g6 g7 (aa S1) (λu S' h1 h2 h3=>⟨u,S',rfl,rfl,h1,?_,h3⟩)
  have:BX l=BX (op.map Prod.fst):=Q5 (Hs _) (Hs _) (λq=>by rw[FZ,FZ];exact g5.mem_iff)
  rw[h2,this];rfl
 go_wp2_with (first
  |(go_at_call 211;refine G.mono ?_;rintro e w' ⟨v,rfl,z,S1,l,m,rfl,g1,g2,g3,g4,g5,g6,g7⟩)
  |(go_at_call 212;refine (af z S1 l m v g4 g5 g6 g7).mono ?_;rintro e w' ⟨u,S',rfl,rfl,h1,h2,h3⟩))
 show RR (.returned v) S'.w;obtain⟨d,rfl,ac⟩:=Qzf (K:=λd=>d= .sl false 2 ((sorF.fv op).map Ac.c)) g3 h1 (x:= .own m) (by
  simp only[Oz,h2,gK];exact⟨by intro row hr;obtain⟨p,_,rfl⟩:=BI.1 hr;rfl,trivial⟩) h3
 exact O v z S' _ g1 g2 g3 h1 (by simp only[Bt,Qp,Ac.d_R]) ac
def Bu.ca(_:FY):List AV:=[.mp 0]
def Bu.H0(a:FY):Ar:=[(0,(true,.map wK (a.map DL)))]
def Bu.H1(_:FY):Ar:=[(1,(true,.cells 164 [.mp 0]))]
def Bu.r0(_:FY):AV:= .clo 213 [] [.ptr 1 0]
def Bu.row:Ax:=AE Bu.ca Bu.H0 1 (λ_=>True) (λ_=>false) Bu.r0 Bu.H1 1
def Bu.ok:AA 170 Bu.row:=by
 refine ow tN Tryz.func170 (exB:=λj=>j==1) (R:=λa r=>r=Bu.r0 a) (λ_=>rfl)
  (λa=>by simp[Bu.ca,Bu.H0,AN,AV.bel,AD,Cg,Cx,Ag.nms,An,hget]) (λa p hp=> ?_) (λa r h=>by subst h;exact DK.refl _) ?_
 rotate_left
 intro a z;simp only[Tryz.f170,Bu.ca,Bu.H0,Bu.H1,Bu.r0];simp only[ZA,simprocAttr];simp[Bu.H1] at hp;subst hp;exact .inr ⟨by omega,by omega,rfl,rfl⟩
end Go.Ae
namespace Go.Ae
open Go.Proofs
def LO{β:Type}{v:β}{p:Ac}: ∀{t:List (Ac×β)},B6 t p=some v->(p,v)∈t
 |(q,w)::r,h=>by
  simp only[B6] at h;split at h
  .rename_i e;obtain rfl:=Aw h;rw[e];exact Cb ..
  .exact BZ _ (LO h)
def pC{β:Type}{p:Ac}: ∀{t:List (Ac×β)},B6 t p=none->p∉t.map Prod.fst
 |[],_=>by simp
 |(q,w)::r,h=>by
  simp only[B6] at h;split at h
  .cases h
  .rename_i e;simp only[Bb,Bx,ZU];exact⟨e,pC h⟩
def SJ(a:FY)(j:Nat):An (Bu.H0 a) j=true↔j<1:=by
 simp only[An,Bu.H0,hget];by_cases h0:j=0
 .subst h0;simp
 .have z:(0==j)=false:=by simp;omega
  simp[z];omega
def lisC.r0(a:AW):AV:= .im (.sl false 3 ((GF a.Op).map Ba.c))
def lisC.row:Ax:=AE asmC.ca DR 3 (λa=>(a.Op.map Prod.fst).Nodup/\a.Op.length<=1000000/\ ∀q∈a.Op,q.2.length<=1000) (λ_=>false) lisC.r0 (λ_=>[]) 20
def lisC.ok:AA 116 lisC.row:=by
 refine Hd (tC Bu.ok (tC sorF.ok tN)) Tryz.func116 (exB:=λ_=>false) (R:=λa r=>r=lisC.r0 a) (λ_=>rfl)
  (λa=>by simp[asmC.ca,DR,D7,AN,AV.bel,AD,Cg,Cx,Ag.nms,A9,AV.nms,An,hget]) (λa p hp=> ?_) (λa r h=>by subst h;exact DK.refl _) ?_
 rotate_left
 intro a ab;simp only[Tryz.f116,asmC.ca,DR,D7];simp only[ZA,simprocAttr];obtain⟨Z,aa,af⟩:=ab;refine AE.os a.Op [2] trivial (λj=>SJ _ j) rfl rfl ?_ ?_
 .simp only[ZA,simprocAttr,AC,Bu.ca,Bu.H0,Cz];rfl
 simp only[ZA,simprocAttr,rch,sorF.q,sorF.ar,sorF.fv,AC,Bu.H1,Bu.r0];obtain⟨L,hL⟩: ∃L,L=BX (a.Op.map Prod.fst):=⟨_,rfl⟩;obtain⟨g,hg⟩: ∃g:Ac->List Int,g=λp=>(B6 a.Op p).getD []:=⟨_,rfl⟩
 have ad:GF a.Op=B8 g L:=by rw[hg,hL];rfl
 refine⟨⟨Z,aa⟩,?_⟩;simp only[<-hL];intro ag;refine AR.ren ⟨{i:Nat//i<=L.length},λi=>⟨[(15,.im (.int .i64 i.1)),(14,.im (.int .i64 L.length)),(13,.im (.sl false 2 (L.map Ac.c))),(3,.own 6),(0,.ptr 0 0)],[(6,(true,.arr 72 3 ((Cj g L i.1).map Ba.c))),(0,(true,.cells 166 (D7 a.Sys))),(1,(true,.map ⟨true,[.int .i64,.int .i64]⟩ (a.Tl.map Gx))),(2,(true,.map ⟨true,[.int .i64,.int .i64]⟩ (a.Op.map DL)))],7⟩,λi=>L.length - i.1,λi=>⟨by simp[ZG,D7],by simp⟩,⟨⟨0,BP _⟩,[(6,some 4)],?_⟩,λi=> ?_⟩
 .simp only[Ak,D7];simp only[ZA,simprocAttr,AL,Cj,B8]
  try simp
 obtain⟨i,hi⟩:=i;simp only[D7];simp only[ZA,simprocAttr,AG,AM,Yb];have z: ∀p,(g p).length<=1000:=λp=>by
  rw[hg];simp only;cases hq:B6 a.Op p with
  |none=>simp
  |some v=>exact af _ (LO hq)
 have ah:L.length<=1000000:=by rw[hL,(oV Z).length_eq,EJ];exact aa
 have ai:(Cj g L i).length<=1000000*1000:=by
  have:=Io z (L.take i)
  have h9:(L.take i).length*1000<=1000000*1000:=FS _ (by simp;omega);simp only[Cj];omega
 refine⟨λO=>⟨O,λp hp=>⟨λv hv=> ?_,λhv=> ?_⟩⟩,λO=> ?_⟩
 .have G:g p=v:=by rw[hg];simp only[hv,AS]
  have ac:=z p;rw[G] at ac;refine AR.ren ⟨{k:Nat//k<=v.length},λk=>⟨[(26,.im (.int .i64 k.1)),(25,.im (.int .i64 v.length)),(24,.im (.sl false 1 (v.map Ao))),(5,.ptr 7 0),(15,.im (.int .i64 i)),(14,.im (.int .i64 L.length)),(13,.im (.sl false 2 (L.map Ac.c))),(3,.own 8),(0,.ptr 0 0)],[(8,(true,.arr 72 3 ((Cj g L i++(v.take k.1).map (Gn p)).map Ba.c))),(7,(true,.cells 70 ((Ac.c p).map .im))),(0,(true,.cells 166 (D7 a.Sys))),(1,(true,.map ⟨true,[.int .i64,.int .i64]⟩ (a.Tl.map Gx))),(2,(true,.map ⟨true,[.int .i64,.int .i64]⟩ (a.Op.map DL)))],9⟩,λk=>v.length - k.1,λk=>⟨by simp[ZG,D7,Ac.c],by simp⟩,⟨⟨0,BP _⟩,[(8,some 6)],?_⟩,λk=> ?_⟩
  .simp only[Ak,D7];simp only[ZA,simprocAttr,AL]
   try simp
  obtain⟨k,hk⟩:=k;simp only[D7];simp only[ZA,simprocAttr,AC,AM,FJ,FI,PL,Bn,D.one,BQ];refine⟨λQ=>⟨Q,λx hx=>⟨?_,⟨k+1,by omega⟩,[(8,some 10)],by simp only;omega,?_⟩⟩,λQ=>⟨⟨i+1,by omega⟩,[(6,some 8)],by simp only;omega,?_⟩⟩
  .have:(v.take k).length<=1000:=by simp;omega
   omega
  .simp only[Ak];simp only[ZA,simprocAttr,AL];refine⟨by rw[AB (by omega) (by omega)];rfl,?_⟩;rw[HX hx];simp[Gn,Ba.c]
  .obtain rfl:k=v.length:=by omega
   simp only[Ak];simp only[ZA,simprocAttr,AL];refine⟨by rw[AB (by omega) (by omega)];rfl,?_⟩;rw[Wd hp,El,G]
 .exfalso
  have:p∈L:=AP hp
  rw[hL,FZ] at this;exact pC hv this
 .obtain rfl:i=L.length:=by omega
  have hA:Cj g L L.length=GF a.Op:=by rw[Cj,El,ad]
  rw[hA];refine⟨[6],[],⟨[(2,.im (.sl false 3 ((GF a.Op).map Ba.c)))],[(0,(true,.cells 166 (D7 a.Sys))),(1,(true,.map ⟨true,[.int .i64,.int .i64]⟩ (a.Tl.map Gx))),(2,(true,.map ⟨true,[.int .i64,.int .i64]⟩ (a.Op.map DL)))],3⟩,?_,by simp[ZG,D7],by simp,?_⟩
  .simp only[Ak,D7];simp only[ZA,simprocAttr,AL]
  .simp only[D7];simp only[ZA,simprocAttr,lisC.r0]
 simp at hp
def xE(s:Am)(x:Aj):Bool:=decide (Bq s.Seed x.At=x.Tile)
def seedB_.fv(a:Am×Aj):Bool:=(xE) (a.1) (a.2)
def seedB_.row:Ax:=vK (b2 (qR Am.d_le) (qR Aj.d_le)) rB (λa=>Ck none a.1.Seed.Tiles=true) seedB_.fv
def seedB_.q:=AX (R:=seedB_.row) rfl
def seedB_.ok:AA 215 seedB_.row:=by
 refine vw (tC at_.ok tN) Tryz.func215 ?_;intro a z;simp only[Tryz.f215,Option.getD];simp(disch:=omega)only[ZZ,simprocAttr,rch,seedB_.fv,at_.q,at_.fv];exact⟨z,rfl⟩
def seedS_.fv(a:Am×Aj):Bool:=(xE) (a.1) (a.2)
def seedS_.row:Ax:=vK (b2 (qP 4 Am.d_le) (qR Aj.d_le)) rB (λa=>Ck none a.1.Seed.Tiles=true) seedS_.fv
def seedS_.q:=AX (R:=seedS_.row) rfl
def seedS_.ok:AA 140 seedS_.row:=by
 refine vw (tC l03At.ok tN) Tryz.func140 ?_;intro a z;simp only[Tryz.f140,Option.getD];simp(disch:=omega)only[ZZ,simprocAttr,rch,seedS_.fv,l03At.q,l03At.fv];exact⟨z,rfl⟩
def RQ(a:Ab)(k:Int):Ab:=⟨a.Tiles.eraseIdx k.toNat⟩
def witK_.fv(a:Ab×Int):Ab:=(RQ) (a.1) (a.2)
def witK_.row:Ax:=vK (b2 (qP 1 Ab.d_le) qI) (rA Ab.d_le) (λa=>0<=a.2/\a.2<a.1.Tiles.length/\a.1.Tiles.length<=1000000) witK_.fv
def witK_.q:=AX (R:=witK_.row) rfl
def witK_.ok:AA 93 witK_.row:=by
 refine vw tN Tryz.func93 ?_;intro a z;simp only[Tryz.f93,Option.getD];simp(disch:=omega)only[ZZ,simprocAttr,rch,witK_.fv];obtain⟨a,k⟩:=a;obtain⟨G,h2,h3⟩:=z;simp only at G h2 h3⊢;have Q:(k - 0).toNat=k.toNat:=by omega
 have Z:(k+1).toNat=k.toNat+1:=by omega
 have e3:List.take ((a.Tiles.length:Int) - (k+1)).toNat (List.drop (k+1).toNat (a.Tiles.map Aj.c))=(a.Tiles.drop (k.toNat+1)).map Aj.c:=by
  rw[Z,<-List.map_drop,DP (by simp;omega)]
 rw[AB (x:=k+1) (by omega) (by omega),e3,Q,<-vD,<-Ei,PM Aj.d_c];have O: ∀l:List Aj,Ce Bn (l.map Aj.c):=λl=>by
  rw[Qah];intro x _;simp[Aj.c,Bn,D.one]
 refine⟨G,by omega,O _,by simp;omega,by omega,by omega,O _,by simp;omega,?_⟩;rw[H3,RQ,List.eraseIdx_eq_take_drop_succ]
def Fo(s:Am)(a:Ab)(x:Aj):Bool:= !xE s x && decide (Jq s.Set a x.At x.Tile 4<s.Temperature)
def EE(s:Am)(a:Ab):List Nat:=(List.range a.Tiles.length).filter λi=>(a.Tiles[i]?.map (Fo s a)).getD false
def Ep(a:Ab)(k:Nat):Ab:=⟨a.Tiles.eraseIdx k⟩
def Es(s:Am)(a:Ab)(o:Ba):Bool:=Dl o.At && (Bf o.Tile 0 (s.Set.Tiles.length - 1) && (decide (B0 (λx=>decide (x.At=o.At)) 0 a.Tiles<0) && Bf (Jq s.Set a o.At o.Tile 4) 1 (s.Temperature - 1)))
def DH(s:Am)(a:Ab):List Ab:=(CY s a).map (λo=>Br a o.At o.Tile)++(EE s a).map (Ep a)
inductive F6 (s:Am):Nat->Ab->Prop
 |seed (f:Nat):F6 s f s.Seed
 |next {f:Nat} {a b:Ab}:F6 s f a->b∈DH s a->F6 s f b
 |weak {f:Nat} {a:Ab} {o:Ba}:F6 s f a->Es s a o=true->F6 s (f+1) (Br a o.At o.Tile)
def F6.succ{s:Am}{f:Nat}{a:Ab}(h:F6 s f a):F6 s (f+1) a:=by
 induction h with
 |seed f=>exact .seed _
 |next _ z ih=>exact .next ih z
 |weak _ G ih=>exact .weak ih G
def F6.up{s:Am}{f:Nat}{a:Ab}(h:F6 s f a): ∀{g:Nat},f<=g->F6 s g a
 |0,z=>by rw[show f=0 by omega] at h;exact h
 |g+1,z=>by
  by_cases e:f=g+1
  .rw[<-e];exact h
  .exact (h.up (g:=g) (by omega)).succ
def dF{l:List Ab}(h:Ek l):l.Nodup:=by
 refine uI (λ{a b} z e=> ?_) h;rw[e,QD] at z;cases z
def Qav6{l m:List Ab}(z:Ek l)(G:Ek m)(h: ∀q,q∈l↔q∈m):l=m:=by
 have hp:l.Perm m:=(ZdS (dF z) (dF G)).2 h;refine uP (le:=λa b=>Bg a b=true) (λa b _ _ g1 g2=> ?_) z G hp
 have:=J7 g1 g2
 rw[QD] at this;cases this
structure bI(s:Am)(f:Nat)(most:Int)(L:List Ab):Prop where
 srt:Ek L
 mem: ∀a,a∈L↔F6 s f a
 len:(L.length:Int)<=most
 few: ∀a∈L,a.Tiles.length<500
noncomputable def ftyS (s:Am) (f:Nat) (most:Int):List Ab×Int:=
 open Classical in if h: ∃L,bI s f most L then (Classical.choose h,0) else ([],4)
def L6{s:Am}{f:Nat}{most:Int}{L:List Ab}(h:bI s f most L):ftyS s f most=(L,0):=by
 have G: ∃L,bI s f most L:=⟨L,h⟩;have z:=Classical.choose_spec G;rw[ftyS,dif_pos G,Qav6 z.srt h.srt λq=>(z.mem q).trans (h.mem q).symm]
def cW{A:Type}[DecidableEq A]: ∀{l m:List A},l.Nodup->(∀x∈l,x∈m)->l.length<=m.length
 |[],_,_,_=>BP _
 |x::r,m,h,g=>by
  rw[Hn] at h;have z:=g x (Cb ..)
  have:=cW (m:=m.erase x) h.2 λy G=>(List.mem_erase_of_ne (λe=>h.1 (by rw[<-e];exact G))).2 (g y (BZ _ G))
  rw[List.length_erase_of_mem z] at this
  have:=Zel z
  simp only[Cr];omega
def qC{s:Am}{f g:Nat}{most:Int}{W:List Ab}(Q:g<=f)(hn:W.Nodup)(Z: ∀a∈W,F6 s g a)(h:most<W.length\/ ∃a∈W,500<=a.Tiles.length):ftyS s f most=([],4):=by
 rw[ftyS,dif_neg];rintro⟨L,z⟩;have O: ∀a∈W,a∈L:=λa G=>(z.mem a).2 ((Z a G).up Q)
 rcases h with h|⟨a,G,h⟩
 .have:=cW hn O
  have:=z.len
  omega
 .have:=z.few a (O a G)
  omega
structure good(s:Am)(a:Ab):Prop where
 ok:FM s.Set a=true
 sd: ∀x∈s.Seed.Tiles,x∈a.Tiles
def good.one{s:Am}{a:Ab}(h:good s a)(hs:Dw s=true):1<=a.Tiles.length:=by
 simp only[Dw,AO,JP,ZdV] at hs;obtain⟨x,r,e⟩:=ZdR hs.2.2.1
 have:=Zel (h.sd x (by rw[e];simp))
 omega
def cV{s:Am}(hs:Dw s=true):good s s.Seed:=by
 have h:=hs;simp only[Dw,AO] at h;exact⟨h.2.1,λx z=>z⟩
def qE{s:Am}{a:Ab}{o:Ba}(hs:Eu s.Set=true)(z:good s a)(hp:Dl o.At=true)(Q:Bf o.Tile 0 (s.Set.Tiles.length - 1)=true)(G:B0 (λx=>decide (x.At=o.At)) 0 a.Tiles<0)(O:a.Tiles.length<500):good s (Br a o.At o.Tile):=
 ⟨iL (m:=⟨⟨s.Set,s.Seed,Jq s.Set a o.At o.Tile 4⟩,⟨⟨[],[]⟩,⟨[]⟩,0⟩,0,[]⟩) (a:=a) (o:=o) hs z.ok (by simp only[Db,hp,Q,JS G,Qe,ZfB,vB]) O,
  λx Z=>by rw[WE];exact (sF _ _ _ _).2 (.inr (z.sd x Z))⟩
def dD: ∀{l:List Aj} {k:Nat} {x:Aj},(l.map Aj.At).Nodup->l[k]? =some x->l.eraseIdx k=l.filter λy=> !decide (y.At=x.At)
 |[],_,_,_,h=>by simp at h
 |y::r,0,x,hn,h=>by
  obtain rfl:y=x:=by simpa using h
  rw[Bb,Hn] at hn;rw[Zei,lW,Ad (by simp)];refine (V9.2 λz O=> ?_).symm
  have:z.At≠y.At:=λe=>hn.1 (by rw[<-e];exact ZJ O)
  simpa using this
 |y::r,k+1,x,hn,h=>by
  rw[Bb,Hn] at hn;have G:r[k]? =some x:=by simpa using h
  have:y.At≠x.At:=λe=>hn.1 (by rw[e];exact ZJ (AP G))
  rw[fI,lW,Ai (by simpa using this),dD hn.2 G]
def Kl{s:Am}{a:Ab}{k:Nat}(h:k∈EE s a): ∃x,a.Tiles[k]? =some x/\Fo s a x=true:=by
 rw[EE,Rc,Dt] at h;have z:=Bd h.1;exact⟨_,z,by rw[z] at h;simpa using h.2⟩
def qH{s:Am}{a:Ab}{k:Nat}(hs:Dw s=true)(O:good s a)(hk:k∈EE s a):good s (Ep a k):=by
 obtain⟨x,hx,Z⟩:=Kl hk;have h:=O.ok;simp only[FM,AO,Bo,DV] at h;obtain⟨⟨G,f2⟩,f3⟩:=h;have e:(Ep a k).Tiles=a.Tiles.filter λy=> !decide (y.At=x.At):=dD (eJ G) hx
 refine⟨?_,λy z=> ?_⟩
 .simp only[FM,AO,Bo,DV];rw[e];exact⟨⟨pF _ _ _ G,BR (fC _ _) f2⟩,λy z=>f3 y (Rc.1 z).1⟩
 .rw[e,Rc];refine⟨O.sd y z,?_⟩;have Q:y.At≠x.At:=λhe=>by
   have:=bM (eJ G) y (O.sd y z) x (AP hx) he
   subst this;simp only[Fo,xE,AO,JP,Ho] at Z;have hf:=(Im hs).1.2.1.1;exact Z.1 (Rs hf z)
  simpa using Q
def Wn{s:Am}{a b:Ab}(hs:Dw s=true)(G:good s a)(Z:a.Tiles.length<500)(O:b∈DH s a):good s b:=by
 rw[DH,Bp,BI,BI] at O;rcases O with ⟨o,ho,rfl⟩|⟨k,Q,rfl⟩
 .have z:=cM (Ix G.ok).1 ho;simp only[Db,AO,Bo] at z;exact qE (J8 hs) G z.1 z.2.1 z.2.2.1 Z
 .exact qH hs G Q
def Wo{s:Am}{a:Ab}{o:Ba}(hs:Dw s=true)(G:good s a)(O:a.Tiles.length<500)(z:Es s a o=true):good s (Br a o.At o.Tile):=by
 simp only[Es,AO,Bo] at z;exact qE (J8 hs) G z.1 z.2.1 z.2.2.1 O
def Kh{s:Am}{V:List Ab}{g:Nat}(h0:s.Seed∈V)(Q: ∀a∈V,∀b∈DH s a,b∈V)(z: ∀f,f+1=g-> ∀a,F6 s f a-> ∀o,Es s a o=true->Br a o.At o.Tile∈V): ∀{a:Ab},F6 s g a->a∈V:=by
 intro a h;induction h with
 |seed f=>exact h0
 |next _ O ih=>exact Q _ (ih z) _ O
 |weak G Z _=>exact z _ rfl _ G _ Z
def CH(W:List Ab)(a:Ab):List Ab:=if a∈W then W else W++[a]
def Wt{W:List Ab}{a x:Ab}:x∈CH W a↔x∈W\/x=a:=by
 simp only[CH];split
 .rename_i h;exact⟨.inl,λg=>g.elim id λe=>by rw[e];exact h⟩
 .simp
def Xf{W:List Ab}{a:Ab}(h:W.Nodup):(CH W a).Nodup:=by
 simp only[CH];split
 .exact h
 .rename_i g;rw[Rg];refine⟨h,by simp,λx z y G e=>g ?_⟩;rw[B4.1 G] at e;rw[<-e];exact z
def Rk{W:List Ab}{a x:Ab}{i:Nat}(h:W[i]? =some x):(CH W a)[i]? =some x:=by
 simp only[CH];split
 .exact h
 .rw[DQ (BJ.1 h).1];exact h
def Rl(W:List Ab)(a:Ab):W.length<=(CH W a).length/\(CH W a).length<=W.length+1:=by
 simp only[CH]
 split<;>simp
def Bv(most:Int)(W:List Ab):Bool:=decide (most<W.length)||W.any λa=>decide (500<=a.Tiles.length)
def GG{most:Int}{W:List Ab}(h:Bv most W=false):(W.length:Int)<=most/\ ∀a∈W,a.Tiles.length<500:=by
 simp only[Bv,Zfw,Ho,List.any_eq_false,Bo] at h;exact⟨by omega,λa z=>by have:=h.2 a z;omega⟩
def FV(f:Ba->Bool)(p:Ac):Nat->List Int
 |0=>[]
 |n+1=>FV f p n++if f ⟨p,n⟩=true then [(n:Int)] else []
def J9(f:Ba->Bool)(p:Ac): ∀n,(FV f p n).length<=n
 |0=>AF _
 |n+1=>by
  have:=J9 f p n
  simp only[FV,BQ]
  split<;>simp<;>omega
def QB{f:Ba->Bool}{p:Ac}{x:Int}: ∀{n:Nat},x∈FV f p n↔ ∃k:Nat,k<n/\x=k/\f ⟨p,k⟩=true
 |0=>by simp[FV]
 |n+1=>by
  rw[FV,Bp,QB (n:=n)];constructor
  .rintro (⟨k,O,z,G⟩|h)
   .exact⟨k,by omega,z,G⟩
   .split at h
    .rename_i g;exact⟨n,by omega,by simpa using h,g⟩
    .cases h
  .rintro⟨k,O,z,G⟩;by_cases e:k=n
   .subst e;exact .inr (by rw[Ai G,z];simp)
   .exact .inl ⟨k,by omega,z,G⟩
def N2(s:Am)(a:Ab):List Ba:=B8 (λp=>FV (Es s a) p s.Set.Tiles.length) (BW a a.Tiles.length)
def wkS_.fv(a:Am×Ab×Ba):Bool:=(Es) (a.1) (a.2.1) (a.2.2)
def wkS_.row:Ax:=vK (b3 (qP 4 Am.d_le) (qP 1 Ab.d_le) (qR Ba.d_le)) rB (λa=>BG a.1.Set/\Fy a.1.Set a.2.1/\1<=a.1.Temperature/\a.1.Temperature<=16) wkS_.fv
def wkS_.q:=AX (R:=wkS_.row) rfl
def wkS_.ok:AA 143 wkS_.row:=by
 refine vw (tC l01Point.ok (tC l02Index.ok (tC l03Index.ok (tC l06Binding.ok (tC l00In.ok tN))))) Tryz.func143 ?_;intro a z;simp only[Tryz.f143,Option.getD];simp(disch:=omega)only[ZZ,simprocAttr,rch,wkS_.fv,l01Point.q,l01Point.fv,l02Index.q,l02Index.fv,l03Index.q,l03Index.fv,l06Binding.q,l06Binding.fv,l00In.q,l00In.fv];obtain⟨s,a,o⟩:=a;obtain⟨O,G,Q,Z⟩:=z;simp only at O G Q Z⊢;cases e1:Dl o.At
 .simp[Es,e1]
 cases e2:Bf o.Tile 0 (s.Set.Tiles.length - 1)
 .simp[Es,e1,e2]
 rw[Ai rfl,Ai rfl];refine⟨G.1,?_⟩
 split<;>rename_i h
 .rw[Es,e1,e2,KO (by omega)];rfl
 .refine⟨⟨O,G,PT e1,?_⟩,?_⟩
  .simp only[Bf,AO,Bo] at e2;simp only[FN];omega
  .rw[AB (by omega) (by omega),Es,e1,e2,JS (by omega)];simp
def wksS_.fv(a:Am×Ab):List Ba:=(N2) (a.1) (a.2)
def wksS_.row:Ax:=vK (b2 (qP 4 Am.d_le) (qP 1 Ab.d_le)) (rS Ba.d_le Ba.c_n) (λa=>BG a.1.Set/\Fy a.1.Set a.2/\1<=a.1.Temperature/\a.1.Temperature<=16/\a.2.Tiles.length<=500/\a.1.Set.Tiles.length<=160) wksS_.fv
def wksS_.q:=AX (R:=wksS_.row) rfl
def ZH:=J @wksS_.fv.eq_1<|J @nearS_.q<|J @nearS_.fv.eq_1<|J @wkS_.q @wkS_.fv.eq_1
def wksS_.ok:AA 95 wksS_.row:=by
 refine vw (tC nearS_.ok (tC wkS_.ok tN)) Tryz.func95 ?_;intro a O;simp only[Tryz.f95,Option.getD];simp(disch:=omega)only[ZZ,simprocAttr,rch,ZH];obtain⟨s,a⟩:=a;obtain⟨h1,Q,h3,h4,h5,h6⟩:=O;simp only at h1 Q h3 h4 h5 h6⊢;refine⟨⟨Q.1,by omega,s.Set,Q.2⟩,?_⟩;obtain⟨L,hL⟩: ∃L,L=BW a a.Tiles.length:=⟨_,rfl⟩;obtain⟨g,hg⟩: ∃g,g=λp=>FV (Es s a) p s.Set.Tiles.length:=⟨_,rfl⟩
 have ad:N2 s a=B8 g L:=by rw[hg,hL];rfl
 rw[ad];have af:L.length<=2000:=by have:=Nw a a.Tiles.length;rw[hL];omega
 have aa: ∀p,(g p).length<=160:=λp=>by have:=J9 (Es s a) p s.Set.Tiles.length;rw[hg];simp only;omega
 simp only[<-hL];refine AR.ren ⟨{i:Nat//i<=L.length},λi=>⟨[(7,.im (.int .i64 i.1)),(6,.im (.sl false 2 (L.map Ac.c))),(5,.own 4),(0,.ptr 0 0),(1,.ptr 1 0)],[(4,(true,.arr 72 3 ((Cj g L i.1).map Ba.c))),(0,(false,.view (Am.c s))),(1,(false,.view (Ab.c a)))],5⟩,λi=>L.length - i.1,λi=>⟨by simp[ZG],by simp⟩,⟨⟨0,BP _⟩,[(4,some 3)],?_⟩,λi=> ?_⟩
 .simp only[Ak];simp(disch:=omega)only[ZZ,simprocAttr,rch,ZH,AL,Bk,Cj,GS,B8,ZQ,Cs]
  try simp
 obtain⟨i,hi⟩:=i;simp(disch:=omega)only[ZZ,simprocAttr,rch,ZH,sub,AM];intro _;refine⟨λz=> ?_,λz=> ?_⟩;rotate_left
 .obtain rfl:i=L.length:=by omega
  rw[Cj,El]
 have ag:(Cj g L i).length<=2000*160:=by
  have:=Io aa (L.take i)
  have h9:(L.take i).length*160<=2000*160:=FS _ (by simp;omega);simp only[Cj];omega
 obtain⟨p,hp⟩: ∃p,L[i]? =some p:=⟨_,Bd z⟩;have ab:g p=FV (Es s a) p s.Set.Tiles.length:=by rw[hg]
 refine AR.ren ⟨{k:Nat//k<=s.Set.Tiles.length},λk=>⟨[(8,.im (.int .i64 k.1)),(7,.im (.int .i64 i)),(6,.im (.sl false 2 (L.map Ac.c))),(5,.own 5),(0,.ptr 0 0),(1,.ptr 1 0)],[(5,(true,.arr 72 3 ((Cj g L i++(FV (Es s a) p k.1).map (Gn p)).map Ba.c))),(0,(false,.view (Am.c s))),(1,(false,.view (Ab.c a)))],6⟩,λk=>s.Set.Tiles.length - k.1,λk=>⟨by simp[ZG],by simp⟩,⟨⟨0,BP _⟩,[(5,some 4)],?_⟩,λk=> ?_⟩
 .simp only[Ak];simp(disch:=omega)only[ZZ,simprocAttr,rch,ZH,AL,Bk,FV,Cs,CC]
  try simp
 obtain⟨k,hk⟩:=k;simp(disch:=omega)only[ZZ,simprocAttr,rch,ZH,sub,AM,FJ,FI,PL,Bn,D.one,F1,F4,KR,BQ];intro _;refine⟨λac=>⟨z,λx hx=> ?_⟩,λac=>⟨⟨i+1,by omega⟩,[(4,some 5)],by simp only;omega,?_⟩⟩
 .obtain rfl:=Aw (hp.symm.trans hx);have ah:=J9 (Es s a) p k;have G:IntKind.i64.wrap ((k:Int)+1)=((k+1:Nat):Int):=by rw[AB (by omega) (by omega)];rfl
  refine⟨⟨h1,Q,h3,h4⟩,λZ=>⟨by omega,⟨k+1,by omega⟩,[(5,some 8)],by simp only;omega,?_⟩,λZ=>⟨⟨k+1,by omega⟩,[(5,some 5)],by simp only;omega,?_⟩⟩
  .simp only[Ak];simp(disch:=omega)only[ZZ,simprocAttr,rch,ZH,AL,Bk,G,FV];rw[Ai Z];simp[Gn,Ba.c]
  .simp only[Ak];simp(disch:=omega)only[ZZ,simprocAttr,rch,ZH,AL,Bk,G,FV];rw[Ad Z];simp
 .obtain rfl:k=s.Set.Tiles.length:=by omega
  simp only[Ak];simp(disch:=omega)only[ZZ,simprocAttr,rch,ZH,AL,Bk];refine⟨by rw[AB (by omega) (by omega)];rfl,?_⟩;rw[Wd hp,ab]
def HC(s:Am)(a:Ab)(i:Nat):List Nat:=(List.range i).filter λj=>(a.Tiles[j]?.map (Fo s a)).getD false
def qA(s:Am){a:Ab}{i:Nat}{x:Aj}(h:a.Tiles[i]? =some x):HC s a (i+1)=HC s a i++if Fo s a x=true then [i] else []:=by
 rw[HC,HC,ZeD,fM];congr 1;cases hx:Fo s a x<;>simp[h,hx]
def Wq(s:Am)(a:Ab)(i:Nat):(HC s a i).length<=i:=by
 have:=fC (λj=>(a.Tiles[j]?.map (Fo s a)).getD false) (List.range i)
 rw[Xa] at this;exact this
def looS_.fv(a:Am×Ab):List Int:=(λs a=>(EE s a).map Int.ofNat) (a.1) (a.2)
def looS_.row:Ax:=vK (b2 (qP 4 Am.d_le) (qP 1 Ab.d_le)) (rS FK EM) (λa=>BG a.1.Set/\Fy a.1.Set a.2/\Ck none a.1.Seed.Tiles=true/\a.2.Tiles.length<=1000000) looS_.fv
def looS_.q:=AX (R:=looS_.row) rfl
def lT:=J @looS_.fv.eq_1<|J @seedS_.q<|J @seedS_.fv.eq_1<|J @l06Binding.q @l06Binding.fv.eq_1
def looS_.ok:AA 92 looS_.row:=by
 refine vw (tC seedS_.ok (tC l06Binding.ok tN)) Tryz.func92 ?_;intro a Q;simp only[Tryz.f92,Option.getD];simp(disch:=omega)only[ZZ,simprocAttr,rch,lT];obtain⟨s,a⟩:=a;obtain⟨h1,Z,h3,h4⟩:=Q;simp only at h1 Z h3 h4⊢;refine AR.ren ⟨{i:Nat//i<=a.Tiles.length},λi=>⟨[(6,.im (.int .i64 i.1)),(5,.own 4),(0,.ptr 0 0),(1,.ptr 1 0)],[(4,(true,.arr 2 1 (((HC s a i.1).map Int.ofNat).map Ao))),(0,(false,.view (Am.c s))),(1,(false,.view (Ab.c a)))],5⟩,λi=>a.Tiles.length - i.1,λi=>⟨by simp[ZG],by simp⟩,⟨⟨0,BP _⟩,[(4,some 3)],?_⟩,λi=> ?_⟩
 .simp only[Ak];simp(disch:=omega)only[ZZ,simprocAttr,rch,lT,AL,Bk,HC,ZeE,fJ,Cs]
  try simp
 obtain⟨i,hi⟩:=i;have ac:=Wq s a i;simp(disch:=omega)only[ZZ,simprocAttr,rch,lT,sub,AM,FJ,FI,PL,Bn,D.one,F1,F4,KR,BQ];have z:IntKind.i64.wrap ((i:Int)+1)=((i+1:Nat):Int):=by rw[AB (by omega) (by omega)];rfl
 intro _;refine⟨λO=>⟨O,λx hx=> ?_⟩,λO=> ?_⟩
 .have aa:=(Zs _ _ Z.1 x (AP hx)).1;have ab:=Z.2 x (AP hx);have G:=qA s hx;refine⟨h3,λhb=>⟨⟨h1,Z,PT aa,ab⟩,λhc=>⟨by omega,⟨i+1,by omega⟩,[(4,some 7)],by simp only;omega,?_⟩,λhc=>⟨⟨i+1,by omega⟩,[(4,some 4)],by simp only;omega,?_⟩⟩,λhb=>⟨⟨i+1,by omega⟩,[(4,some 4)],by simp only;omega,?_⟩⟩
  .simp only[Ak];simp(disch:=omega)only[ZZ,simprocAttr,rch,lT,AL,Bk,z,G];rw[Ai (by simp[Fo,hb,hc])];simp[Ao]
  .simp only[Ak];simp(disch:=omega)only[ZZ,simprocAttr,rch,lT,AL,Bk,z,G];rw[Ad (by simp[Fo,hb,hc])];simp
  .simp only[Ak];simp(disch:=omega)only[ZZ,simprocAttr,rch,lT,AL,Bk,z,G];rw[Ad (by simp[Fo,hb])];simp
 .obtain rfl:i=a.Tiles.length:=by omega
  rfl
end Go.Ae
namespace Go.Ae
mutual
def Jd:AV->Bool
 | .im d=>d.sc
 | .own _=>true
 | .agg cs=>Fa cs
 | .tup cs=>Fa cs
 | .any| .ptr _ _| .eptr _ _ _| .mp _| .ch _| .it _| .osl _ _ _| .clo _ _ _=>false
def Fa:List AV->Bool
 |[]=>true
 |x::r=>Jd x && Fa r
end
def Jc:Ag->Bool
 | .arr _ _ rows=>rows.all λr=>r.all D.sc
 | .arrA _ _ rows=>rows.all Fa
 | .cells _ cs=>Fa cs
 | .map _ _| .chan _ _| .iter _ _| .view _=>false
def VR{m:Nat}: ∀{rows:List (List AV)},m∈BB rows↔ ∃r∈rows,m∈A9 r
 |[]=>by simp[BB]
 |r::z=>by simp[BB,VR (rows:=z)]
section
variable {S1 S':Au}{F:Nat->Prop}
mutual
def bS(Q: ∀n,F n->S'.h n=S1.h n)(Z: ∀n,F n->S'.ρ n=S1.ρ n): ∀(x:AV) (v:Value),Jd x=true->(∀m∈x.nms,F m)->Aa S1 x v->Aa S' x v
 | .im d,v,z,_,G=>by
   simp only[Aa] at G⊢;exact Mq (by simpa[Jd] using z) G
 | .own o,v,_,O,G=>by
   simp only[Aa] at G⊢;have h0:F o:=O o (by simp[AV.nms]);rw[Q o h0,Z o h0];exact G
 | .agg cs,v,z,O,G=>by
   simp only[Aa] at G⊢;obtain⟨vs,rfl,h⟩:=G;exact⟨vs,rfl,VS Q Z cs _ (by simpa[Jd] using z) (by simpa[AV.nms] using O) h⟩
 | .tup cs,v,z,O,G=>by
   simp only[Aa] at G⊢;obtain⟨vs,rfl,h⟩:=G;exact⟨vs,rfl,VS Q Z cs _ (by simpa[Jd] using z) (by simpa[AV.nms] using O) h⟩
 | .any,_,z,_,_| .ptr _ _,_,z,_,_| .eptr _ _ _,_,z,_,_| .mp _,_,z,_,_| .ch _,_,z,_,_| .it _,_,z,_,_| .osl _ _ _,_,z,_,_| .clo _ _ _,_,z,_,_=>by simp[Jd] at z
def VS(O: ∀n,F n->S'.h n=S1.h n)(Z: ∀n,F n->S'.ρ n=S1.ρ n): ∀(xs:List AV) (vs:List Value),Fa xs=true->(∀m∈A9 xs,F m)->AJ S1 xs vs->AJ S' xs vs
 |[],vs,_,_,z=>by simpa only[AJ] using z
 |x::r,vs,G,Q,z=>by
  simp only[AJ] at z⊢;obtain⟨v,q,rfl,h1,h2⟩:=z;simp only[Fa,AO] at G;exact⟨v,q,rfl,bS O Z x v G.1 (λm h=>Q m (by simp[A9,h])) h1,VS O Z r q G.2 (λm h=>Q m (by simp[A9,h])) h2⟩
end
def oE(O: ∀n,F n->S'.h n=S1.h n)(Z: ∀n,F n->S'.ρ n=S1.ρ n): ∀(xs:List AV) (vs:List Value),Fa xs=true->(∀m∈A9 xs,F m)->Cy S1 xs vs->Cy S' xs vs
 |[],vs,_,_,_=>trivial
 |x::r,vs,z,Q,G=>by
  simp only[Cy] at G⊢;obtain⟨v,q,rfl,h1,h2⟩:=G;simp only[Fa,AO] at z;exact⟨v,q,rfl,bS O Z x v z.1 (λm h=>Q m (by simp[A9,h])) h1,oE O Z r q z.2 (λm h=>Q m (by simp[A9,h])) h2⟩
def oD{k:Nat}(Q: ∀n,F n->S'.h n=S1.h n)(hr: ∀n,F n->S'.ρ n=S1.ρ n): ∀(z:List (List AV)) (vs:List Value),z.all Fa=true->(∀r∈z,∀m∈A9 r,F m)->BE S1 k z vs->BE S' k z vs
 |[],vs,_,_,_=>trivial
 |r::z,vs,O,Z,G=>by
  simp only[BE] at G⊢;simp only[KP,AO] at O;exact⟨G.1,oE Q hr r _ O.1 (Z r (Cb ..)) G.2.1,oD Q hr z _ O.2 (λq hq=>Z q (BZ _ hq)) G.2.2⟩
def Mu{ok ok':Nat->Prop}{hp hp':Nat->Option Obj}{k:Nat}: ∀(z:List (List D)) (vs:List Value),(z.all λr=>r.all D.sc)=true->rdr ok hp k z vs->rdr ok' hp' k z vs
 |[],_,_,_=>trivial
 |r::z,vs,O,G=>by
  simp only[rdr] at G⊢;simp only[KP,AO] at O;exact⟨G.1,Ky r _ O.1 G.2.1,Mu z _ O.2 G.2.2⟩
def Tw(hh: ∀n,F n->S'.h n=S1.h n)(hr: ∀n,F n->S'.ρ n=S1.ρ n)(hp:S'.hp=S1.hp)(l:Option Fe): ∀(e:Ag),Jc e=true->(∀m∈e.nms,F m)->Al S1 l e->Al S' l e
 | .arr T k rows,G,_,z=>by
   cases l with
   |none=>simpa only[Al] using z
   |some lc=>
    simp only[Al] at z⊢;obtain⟨O,Q,vs,Z,h4,h5⟩:=z;exact⟨O,Q,vs,by rw[hp];exact Z,h4,Mu _ _ G h5⟩
 | .arrA T k rows,G,hm,z=>by
   cases l with
   |none=>simpa only[Al] using z
   |some lc=>
    simp only[Al] at z⊢;obtain⟨O,Q,vs,Z,h4,h5⟩:=z;refine⟨O,Q,vs,by rw[hp];exact Z,h4,oD hh hr _ _ G (λr ab m aa=>hm m ?_) h5⟩;simp only[Ag.nms];exact VR.2 ⟨r,ab,aa⟩
 | .cells T cs,G,hm,z=>by
   simp only[Al] at z⊢;obtain⟨lc,vs,O,Q,Z,h4⟩:=z;exact⟨lc,vs,O,Q,by rw[hp];exact Z,VS hh hr _ _ G (λm h=>hm m (by simpa[Ag.nms] using h)) h4⟩
 | .map _ _,G,_,_| .chan _ _,G,_,_| .iter _ _,G,_,_| .view _,G,_,_=>by simp[Jc] at G
end
def Nz{A:Type}(ar:List PK->Option A)(pre:A->Prop)(r0:A->AV)(H1:A->Ar)(cnt nx:Nat)(u:List Nat)(K:Ah):Option (List PK)->Prop
 |some z=>EA (λa=>pre a/\K ((r0 a).ren (Di (λj=>j) 0 nx)) {use:=u,new:=B1 (Di (λj=>j) 0 nx) (H1 a),cnt:=cnt}) (ar z)
 |none=>False
def Nv{A:Type}(ar:List PK->Option A)(pre:A->Prop)(r0:A->AV)(H1:A->Ar)(cnt:Nat):Ax:=λz h nx K=>Nz ar pre r0 H1 cnt nx (Dz h z) K (CK h z)
def Kv(ds:List D):List PK:=ds.map PK.val
def oG{S:Au}: ∀(ds:List D) (vs:List Value),Ec S (Kv ds) vs->AJ S (ds.map .im) vs
 |[],vs,h=>by simpa only[Kv,Cs,Ec,AJ] using h
 |d::r,vs,h=>by
  simp only[Kv,Bb,Ec,AJ] at h⊢;obtain⟨v,q,rfl,z,G⟩:=h;exact⟨v,q,rfl,by simpa only[Aa,HK] using z,oG r q G⟩
def Mx(σ:Nat->Nat): ∀(ds:List D),AU σ (ds.map AV.im)=ds.map AV.im
 |[]=>rfl
 |d::r=>by simp only[Bb,AU,AV.ren,Mx σ r]
mutual
def TS(σ:Nat->Nat): ∀x:AV,Jd x=true->Jd (x.ren σ)=true/\ ∀m∈(x.ren σ).nms,∃j∈x.nms,m=σ j
 | .im d,h=>⟨by simpa only[AV.ren] using h,by simp[AV.ren,AV.nms]⟩
 | .own o,_=>⟨by simp[AV.ren,Jd],by simp[AV.ren,AV.nms]⟩
 | .agg cs,h=>by
   obtain⟨z,G⟩:=Nu σ cs (by simpa[Jd] using h);exact⟨by simpa[AV.ren,Jd] using z,by simpa[AV.ren,AV.nms] using G⟩
 | .tup cs,h=>by
   obtain⟨z,G⟩:=Nu σ cs (by simpa[Jd] using h);exact⟨by simpa[AV.ren,Jd] using z,by simpa[AV.ren,AV.nms] using G⟩
 | .any,h| .ptr _ _,h| .eptr _ _ _,h| .mp _,h| .ch _,h| .it _,h| .osl _ _ _,h| .clo _ _ _,h=>by simp[Jd] at h
def Nu(σ:Nat->Nat): ∀xs:List AV,Fa xs=true->Fa (AU σ xs)=true/\ ∀m∈A9 (AU σ xs),∃j∈A9 xs,m=σ j
 |[],_=>⟨rfl,by simp[AU,A9]⟩
 |x::r,h=>by
  simp only[Fa,AO] at h;obtain⟨O,Q⟩:=TS σ x h.1;obtain⟨Z,h4⟩:=Nu σ r h.2;refine⟨by simp only[AU,Fa,O,Z,vB],λm z=> ?_⟩;simp only[AU,A9,Bp] at z⊢;rcases z with z|z
  .obtain⟨j,G,e⟩:=Q m z;exact⟨j,.inl G,e⟩
  .obtain⟨j,G,e⟩:=h4 m z;exact⟨j,.inr G,e⟩
end
def Yz(σ:Nat->Nat): ∀e:Ag,Jc e=true->Jc (e.ren σ)=true/\ ∀m∈(e.ren σ).nms,∃j∈e.nms,m=σ j
 | .arr T k rows,h=>⟨by simpa only[Ag.ren] using h,by simp[Ag.ren,Ag.nms]⟩
 | .arrA T k rows,h=>by
   simp only[Jc,DV] at h;refine⟨?_,?_⟩
   .simp only[Ag.ren,Jc,List.all_map,DV];exact λr G=>(Nu σ r (h r G)).1
   .intro m z;simp only[Ag.ren,Ag.nms] at z⊢;obtain⟨q,hq,z⟩:=VR.1 z;obtain⟨r,G,rfl⟩:=BI.1 hq;obtain⟨j,Z,e⟩:=(Nu σ r (h r G)).2 m z;exact⟨j,VR.2 ⟨r,G,Z⟩,e⟩
 | .cells T cs,h=>by
   obtain⟨O,Q⟩:=Nu σ cs (by simpa[Jc] using h);exact⟨by simpa[Ag.ren,Jc] using O,by simpa[Ag.ren,Ag.nms] using Q⟩
 | .map _ _,h| .chan _ _,h| .iter _ _,h| .view _,h=>by simp[Jc] at h
def pR{pk:(Nat->Option Ap)->List AV->Option (List PK)}(be: ∀{C:AT} {S:Au} {h:Nat->Option Ap},Wf C S-> ∀(xs:List AV) (ps:List PK) (vs:List Value),(∀m∈Dz h xs,S.h m=h m)->pk h xs=some ps->AJ S xs vs->Ec S.froz ps vs)
 {P:Program}{g:FuncId}{A:Type}{ag:A->List AV}{ca:A->List D}{pre:A->Prop}{klB:Nat->Bool}{r0:A->AV}{H1:A->Ar}{cnt:Nat}
 (av:FA P g=true)(bd:Ga P g (AE ag (λ_=>[]) 0 pre klB r0 H1 cnt))(au: ∀a,ag a=(ca a).map AV.im)
 {ar:List PK->Option A}(bc: ∀ps a,ar ps=some a->BM ps (Kv (ca a)))
 (ay: ∀a,Jd (r0 a)=true/\ ∀m∈(r0 a).nms,m<cnt)
 (hH1: ∀a,∀p∈H1 a,p.1<cnt/\p.2.1=true/\Jc p.2.2=true/\ ∀m∈p.2.2.nms,m<cnt):
 Ga P g λO h nx K=>Nz ar pre r0 H1 cnt nx (Dz h O) K (pk h O):=by
 intro O h nx K z;cases hp:pk h O with
 |none=>rw[hp] at z;exact z.elim
 |some ps=>
  rw[hp] at z;simp only[Nz] at z;cases ha:ar ps with
  |none=>rw[ha] at z;exact z.elim
  |some a=>
   rw[ha] at z;simp only[EA] at z;obtain⟨ax,hK⟩:=z;refine⟨KH av,_,_,?_,hK⟩;intro C S vs RR hW az ab ac am ah;have bf:=be hW O ps vs.toList (λm hm=>az m (G7 _ hm)) hp am;have a9:=lR hW;obtain⟨σ,hσ⟩: ∃σ:Nat->Nat,σ=Di (λj=>j) 0 nx:=⟨_,rfl⟩;have hσj: ∀j,σ j=nx+j:=λj=>by rw[hσ];simp[Di]
   rw[<-hσ] at ah;obtain⟨_,r,E,hT,rfl,rfl⟩:=bd (ag a) (λ_=>none) nx (λr E=>r=(r0 a).ren σ/\E={use:=[],kill:=[],new:=B1 σ (H1 a),cnt:=cnt})
    ⟨a,λj=>j,[],[],ax,by rw[au,Mx],trivial,⟨by simp[An,hget],by simp[An,hget],by simp[An,hget],by simp,by simp[An,hget]⟩,by rw[hσ],by rw[hσ]⟩
   have ba:AJ S.froz (ag a) vs.toList:=by rw[au];exact oG _ _ ((bc ps a ha).c bf)
   refine hT (aD S) S.froz vs RR a9 (by simp) (λn hn=> ?_) (λn e he m hm hF=> ?_) ba ?_
   .have:=ab n hn
    show (S.h n).map _=none;rw[this];rfl
   .obtain⟨e0,G,rfl⟩:=kJ he;exact ac n e0 G m hm hF
   intro v S1 Z bb _ aw;have ai: ∀n e,hget (B1 σ (H1 a)) n=some e->Fr nx cnt n/\e.1=true/\Jc e.2=true/\ ∀m∈e.2.nms,Fr nx cnt m:=by
    intro n e he;obtain⟨j,e0,G,Q,rfl⟩:=Qzm he;obtain⟨g1,g2,g3,g4⟩:=hH1 a _ G;obtain⟨q1,q2⟩:=Yz σ e0.2 g3;refine⟨by rw[<-Q,hσj];exact⟨by omega,by omega⟩,g2,q1,λm hm=> ?_⟩;obtain⟨i,hi,rfl⟩:=q2 m hm
    have:=g4 i hi
    rw[hσj];exact⟨by omega,by omega⟩
   have ao:S.w.heap.size<=S1.w.heap.size:=Z.size;have aa: ∀b,b<S.w.heap.size->S1.w.heap[b]? =S.w.heap[b]? :=λb hb=>Z.keep b hb (λh=>h)
   have aq: ∀n,Fr nx cnt n->S.h n=none:=ab
   let E':Bz:={use:=Dz h O,kill:=[],new:=B1 σ (H1 a),cnt:=cnt}
   have aj: ∀n,E'.appf S.h n=match hget (B1 σ (H1 a)) n with
    |some e=>some e
    |none=>S.h n:=λn=>by simp only[E',Bz.appf];rfl
   have a0: ∀n,S1.h n=match hget (B1 σ (H1 a)) n with
    |some e=>some e
    |none=>S.froz.h n:=λn=>by rw[bb];simp only[Bz.appf];rfl
   let S':Au:=⟨λn=>if nx<=n/\n<nx+cnt then S1.ρ n else S.ρ n,S.ok,E'.appf S.h,S1.w⟩
   have ak: ∀n,S'.h n=E'.appf S.h n:=λ_=>rfl
   have aF: ∀n,Fr nx cnt n->S'.h n=S1.h n:=by
    intro n hn;rw[ak,aj,a0];cases hget (B1 σ (H1 a)) n with
    |some e=>rfl
    |none=>
     show S.h n=(S.h n).map _;rw[aq n hn];rfl
   have aR: ∀n,Fr nx cnt n->S'.ρ n=S1.ρ n:=λn hn=>Ai hn
   have oF: ∀n,¬Fr nx cnt n->S'.h n=S.h n:=by
    intro n hn;rw[ak,aj];cases hq:hget (B1 σ (H1 a)) n with
    |some e=>exact absurd (ai n e hq).1 hn
    |none=>rfl
   have oR: ∀n,¬Fr nx cnt n->S'.ρ n=S.ρ n:=λn hn=>Ad hn
   have hp':B3 (λn=> ¬Fr nx cnt n) S S':=⟨λb hb=>⟨hb,aa b (hW.oks b hb)⟩,λo ho e' an=>⟨e',by rw[<-oF o ho];exact an,oR o ho,rfl,rfl⟩⟩;have nF: ∀n e,S.h n=some e-> ¬Fr nx cnt n:=λn e he hn=>by rw[aq n hn] at he;cases he
   have split: ∀o e,S'.h o=some e->(Fr nx cnt o/\S1.h o=some e/\S'.ρ o=S1.ρ o/\e.1=true/\Jc e.2=true/\ ∀m∈e.2.nms,Fr nx cnt m)\/(S.h o=some e/\S'.ρ o=S.ρ o):=by
    intro o e he;by_cases hn:Fr nx cnt o
    .left;have G:S1.h o=some e:=by rw[<-aF o hn];exact he
     have Q:=he;rw[ak,aj] at Q;cases hq:hget (B1 σ (H1 a)) o with
     |some e1=>
      rw[hq] at Q;obtain rfl:=Aw Q;exact⟨hn,G,aR o hn,(ai o _ hq).2⟩
     |none=>
      rw[hq] at Q;exact absurd hn (nF o e Q)
    .right;exact⟨by rw[<-oF o hn];exact he,oR o hn⟩
   have af: ∀o e l,S1.h o=some e->S1.ρ o=some l->e.1=true->l.b<S1.w.heap.size/\S.w.heap.size<=l.b:=by
    intro o e l he hl hm;obtain⟨Q,h3⟩:=Z.loc o e l he hl;rw[hm] at h3;simp only[BF] at h3;exact⟨Q,h3.2.elim (λh=>h) (λh=>h.elim)⟩
   have a8:Wf C S':=by
    refine⟨Z.os.trans hW.os,Z.tape.trans hW.tape,Z.output.trans hW.output,BR hW.dr Z.dr,BR hW.size ao,?_,hW.ok0,hW.ok1,λb hb=>E8 (hW.oks b hb) ao,?_,?_,?_,hW.gl⟩
    .intro b hb hM;exact (aa b (E8 hb hW.size)).trans (hW.keep b hb hM)
    .intro o e he;rcases split o e he with ⟨_,G,Q,_,h4,h5⟩|⟨G,Q⟩
     .rw[Q];exact Tw aF aR rfl _ e.2 h4 h5 (Z.obj o e G)
     .rw[Q];exact Hh hp' (λlc hl=>aa lc.b (hW.loc o e lc G hl).1) _ (λm hm hF=>ac o e G m hm hF) (hW.obj o e G)
    .intro o e l he hl;rcases split o e he with ⟨_,G,Q,h3,_⟩|⟨G,Q⟩
     .rw[Q] at hl;obtain⟨b1,b2⟩:=af o e l G hl h3;refine⟨b1,?_⟩;rw[h3];simp only[BF];exact⟨λhk=>by have:=hW.oks _ hk;omega,.inl (BR hW.size b2)⟩
     .rw[Q] at hl;obtain⟨b1,b2⟩:=hW.loc o e l G hl;exact⟨E8 b1 ao,b2⟩
    .intro o o' e e' l l' he an hl ad hb hm;rcases split o e he with ⟨_,G,Q,h3,_⟩|⟨G,Q⟩<;>rcases split o' e' an with ⟨_,k1,k2,k3,_⟩|⟨k1,k2⟩<;>rw[Q] at hl<;>rw[k2] at ad
     .exact Z.inj o o' e e' l l' G k1 hl ad hb hm
     .have:=(af o e l G hl h3).2
      have:=(hW.loc o' e' l' k1 ad).1
      omega
     .have:=(af o' e' l' k1 ad k3).2
      have:=(hW.loc o e l G hl).1
      omega
     .exact hW.inj o o' e e' l l' G k1 hl ad hb hm
   obtain⟨q1,q2⟩:=TS σ (r0 a) (ay a).1;refine ah v S' a8 rfl hp' (bS aF aR _ v q1 (λm hm=> ?_) aw);obtain⟨j,hj,rfl⟩:=q2 m hm
   have:=(ay a).2 j hj
   rw[hσj];exact⟨by omega,by omega⟩
def UU{P:Program}{g:FuncId}{A:Type}{z:A->List AV}{ca:A->List D}{pre:A->Prop}{klB:Nat->Bool}{r0:A->AV}{H1:A->Ar}{cnt:Nat}
 (G:FA P g=true)(Z:Ga P g (AE z (λ_=>[]) 0 pre klB r0 H1 cnt))(O: ∀a,z a=(ca a).map AV.im)
 {ar:List PK->Option A}(Q: ∀ps a,ar ps=some a->BM ps (Kv (ca a)))
 (aa: ∀a,Jd (r0 a)=true/\ ∀m∈(r0 a).nms,m<cnt)
 (hH1: ∀a,∀p∈H1 a,p.1<cnt/\p.2.1=true/\Jc p.2.2=true/\ ∀m∈p.2.2.nms,m<cnt):
 Ga P g (Nv ar pre r0 H1 cnt):=pR (pk:=CK) (λhW=>Qtx hW) G Z O Q aa hH1
def IW(h:Nat->Option Ap):List AV->Option (List PK)
 |[]=>some []
 |x::r=>GE (Er (bk h 9 x)) (IW h r)
def pZ{C:AT}{S:Au}{h:Nat->Option Ap}(hW:Wf C S): ∀(xs:List AV) (ps:List PK) (vs:List Value),(∀m∈Dz h xs,S.h m=h m)->IW h xs=some ps->AJ S xs vs->Ec S.froz ps vs
 |[],ps,vs,_,hp,z=>by
  simp only[IW,AI] at hp;subst hp;simp only[AJ] at z;simp only[Ec];exact z
 |x::xs,ps,vs,O,hp,z=>by
  simp only[IW] at hp;simp only[AJ] at z;obtain⟨v,r,rfl,Q,Z⟩:=z;cases hx:Er (bk h 9 x) with
  |none=>rw[hx] at hp;cases hp
  |some p=>
   cases hr:IW h xs with
   |none=>rw[hx,hr] at hp;cases hp
   |some qs=>
    rw[hx,hr] at hp;simp only[GE,AI] at hp;subst hp;simp only[Ec];refine⟨v,r,rfl,kQ hW (λm G=>O m ?_) hx Q,pZ hW xs qs r (λm G=>O m ?_) hr Z⟩
    .simp only[Dz,EQ];exact G7 _ G
    .simp only[Dz,EQ];exact PZ _ G
def N7{A:Type}(ar:List PK->Option A)(pre:A->Prop)(r0:A->AV)(H1:A->Ar)(cnt:Nat):Ax:=λz h nx K=>Nz ar pre r0 H1 cnt nx (Dz h z) K (IW h z)
def UV{P:Program}{g:FuncId}{A:Type}{z:A->List AV}{ca:A->List D}{pre:A->Prop}{klB:Nat->Bool}{r0:A->AV}{H1:A->Ar}{cnt:Nat}
 (G:FA P g=true)(Z:Ga P g (AE z (λ_=>[]) 0 pre klB r0 H1 cnt))(O: ∀a,z a=(ca a).map AV.im)
 {ar:List PK->Option A}(Q: ∀ps a,ar ps=some a->BM ps (Kv (ca a)))
 (aa: ∀a,Jd (r0 a)=true/\ ∀m∈(r0 a).nms,m<cnt)
 (hH1: ∀a,∀p∈H1 a,p.1<cnt/\p.2.1=true/\Jc p.2.2=true/\ ∀m∈p.2.2.nms,m<cnt):
 Ga P g (N7 ar pre r0 H1 cnt):=pR (pk:=IW) (λhW=>pZ hW) G Z O Q aa hH1
def N7.os{A:Type}{ar:List PK->Option A}{pre:A->Prop}{r0:A->AV}{H1:A->Ar}{cnt:Nat}{args:List AV}{h:Nat->Option Ap}{nx:Nat}{K:Ah}(ps:List PK)(G:IW h args=some ps)(a:A)(Q:ar ps=some a)(z:pre a)
 (O:K ((r0 a).ren (Di (λj=>j) 0 nx)) {use:=Dz h args,new:=B1 (Di (λj=>j) 0 nx) (H1 a),cnt:=cnt}):N7 ar pre r0 H1 cnt args h nx K:=by
 unfold N7;rw[G];simp only[Nz,Q,EA];exact⟨z,O⟩
end Go.Ae
namespace Go.Ae
open Go.Proofs
def clonQ.ca(a:List Ac):List AV:=[.im (.sl false 2 (a.map Ac.c))]
def clonQ.H1(a:List Ac):Ar:=[(0,(true,.arr 70 2 (a.map Ac.c)))]
def clonQ.row:Ax:=AE clonQ.ca (λ_=>[]) 0 (λa=>a.length<=1000000) (λ_=>false) (λ_=> .own 0) clonQ.H1 20
def clonQ.ok:AA 268 clonQ.row:=by
 refine Hd tN Tryz.func268 (exB:=λj=>j==0) (R:=λ_ r=>r= .own 0) (λ_=>rfl)
  (λa=>by simp[clonQ.ca,clonQ.H1,AN,AV.bel,AD,Cg,Cx,Ag.nms,A9,AV.nms,An,hget]) (λa p hp=> ?_) (λa r h=>by subst h;exact DK.refl _) ?_
 rotate_left
 intro a z;simp only[Tryz.f268,Option.getD,clonQ.ca,clonQ.H1];simp(disch:=omega)only[ZZ,simprocAttr,rch,AG,AC,clonQ.ca,clonQ.H1];intro b G;split
 .rename_i h;have h0:=G h;refine⟨[],[(0,some 1)],⟨[(2,.own 0)],clonQ.H1 a,1⟩,?_,by simp[clonQ.H1,ZG],by simp,?_⟩
  .simp only[Ak,clonQ.H1,h0];simp(disch:=omega)only[ZZ,simprocAttr,rch,AG,AC,clonQ.ca,clonQ.H1,AL,Bk]
  .simp(disch:=omega)only[ZZ,simprocAttr,rch,AG,AC,clonQ.ca,clonQ.H1]
 .refine⟨by omega,[],[(0,some 2)],⟨[(2,.own 0)],clonQ.H1 a,1⟩,?_,by simp[clonQ.H1,ZG],by simp,?_⟩
  .simp only[Ak,clonQ.H1];simp(disch:=omega)only[ZZ,simprocAttr,rch,AG,AC,clonQ.ca,clonQ.H1,AL,Bk]
  .simp(disch:=omega)only[ZZ,simprocAttr,rch,AG,AC,clonQ.ca,clonQ.H1]
 simp[clonQ.H1] at hp;subst hp;exact .inr ⟨by omega,by omega,rfl,rfl⟩
def Gi(l:List Ac):Nat->List Ac
 |0=>[]
 |i+1=>Gi l i++match l[i]? with
  |some x=>if i≠0/\l[i - 1]? =some x then [] else [x]
  |none=>[]
def Ln(l:List Ac): ∀i,(Gi l i).length<=i
 |0=>AF _
 |i+1=>by
  have:=Ln l i
  simp only[Gi,BQ];split
  .split<;>simp<;>omega
  .simp;omega
def Lo{l:List Ac}(h:l.Pairwise (λa b=>Bj b a=false)): ∀i,i<=l.length->Ie (Gi l i)/\ ∀q,q∈Gi l i↔q∈l.take i
 |0,_=>⟨List.Pairwise.nil,λq=>by simp[Gi]⟩
 |i+1,hi=>by
  obtain⟨h1,O⟩:=Lo h i (by omega);obtain⟨x,hx⟩: ∃x,l[i]? =some x:=⟨_,Bd (by omega)⟩;have hm: ∀q,q∈l.take (i+1)↔q∈l.take i\/q=x:=λq=>by rw[HX hx];simp
  simp only[Gi,hx];by_cases c:i≠0/\l[i - 1]? =some x
  .rw[Ai c,CC];refine⟨h1,λq=> ?_⟩;rw[hm,O];constructor
   .exact .inl
   .rintro (g|rfl)
    .exact g
    .have hg:(l.take i)[i - 1]? =some q:=by rw[uQ (by omega)];exact c.2
     exact AP hg
  .rw[Ad c];refine⟨?_,λq=>by rw[hm,Bp,O];simp⟩;rw[Ie,Zeu];refine⟨h1,List.pairwise_singleton ..,λy hy z hz=> ?_⟩;rw[B4.1 hz];obtain⟨j,G⟩:=GV.1 ((O y).1 hy);have Z:j<i:=by have:=(BJ.1 G).1;simp at this;omega
   rw[uQ Z] at G;have le: ∀(u v:Nat) (p q:Ac),u<v->l[u]? =some p->l[v]? =some q->Bj q p=false:=λu v p q aa hp hq=>by
    obtain⟨g1,rfl⟩:=BJ.1 hp;obtain⟨g2,rfl⟩:=BJ.1 hq;exact uO.1 h u v g1 g2 aa
   obtain⟨w,hw⟩: ∃w,l[i - 1]? =some w:=⟨_,Bd (by omega)⟩;have ab:w≠x:=λe=>c ⟨by omega,by rw[hw,e]⟩
   have Q:Bj w x=true:=Q4 (le (i - 1) i w x (by omega) hw hx) λe=>ab e.symm
   by_cases e:j=i - 1
   .subst e;obtain rfl:=Aw (G.symm.trans hw);exact Q
   .have h4:=le j (i - 1) y w (by omega) G hw;by_cases g:y=w
    .rw[g];exact Q
    .exact Ny (Q4 h4 λe=>g e.symm) Q
def qG(l:List Ac):Gi (C7 l) (C7 l).length=BX l:=by
 obtain⟨z,G⟩:=Lo (dB l) _ (AF _);refine Q5 z (Hs l) λq=> ?_
 rw[G,El,(Wp l).mem_iff,FZ]
def Oi(l:List Ac)(h:1<=l.length):Gi l 1=l.take 1:=by
 cases l with
 |nil=>simp at h
 |cons x r=>simp[Gi]
def Xv{l:List Ac}(h:l.length<2):Gi l l.length=l:=by
 match l,h with
 |[],_=>rfl
 |[x],_=>rfl
def BH.ca(_:List Ac):List AV:=[.own 0]
def BH.H0(a:List Ac):Ar:=[(0,(true,.arr 70 2 (a.map Ac.c)))]
def BH.H1(a:List Ac):Ar:=[(1,(true,.arr 70 2 ((Gi a a.length).map Ac.c)))]
def BH.row:Ax:=AE BH.ca BH.H0 1 (λa=>a.length<=1000000) (λj=>j==0) (λ_=> .own 1) BH.H1 1000
def BH.ok:AA 269 BH.row:=by
 refine Hd tN Tryz.func269 (exB:=λj=>j==1) (R:=λ_ r=>r= .own 1) (λ_=>rfl)
  (λa=>by simp[BH.ca,BH.H0,BH.H1,AN,AV.bel,AD,Cg,Cx,Ag.nms,A9,AV.nms,An,hget]) (λa p hp=> ?_) (λa r h=>by subst h;exact DK.refl _) ?_
 rotate_left
 intro a ai;simp only[Tryz.f269,Option.getD,BH.ca,BH.H0,BH.H1];simp(disch:=omega)only[ZZ,simprocAttr,rch,AG,AC,BH.ca,BH.H0,BH.H1];rotate_left
 .simp[BH.H1] at hp;subst hp;exact .inr ⟨by omega,by omega,rfl,rfl⟩
 intro _;rw[AM];refine⟨λc1=> ?_,λc1=> ?_⟩
 .refine⟨[],[(1,some 0)],⟨[(2,.own 1)],[(1,(true,.arr 70 2 (a.map Ac.c)))],2⟩,?_,by simp[ZG],by simp,?_⟩
  .simp only[Ak];simp(disch:=omega)only[ZZ,simprocAttr,rch,AG,AC,BH.ca,BH.H0,BH.H1,AL,Bk]
  .simp(disch:=omega)only[ZZ,simprocAttr,rch,AG,AC,BH.ca,BH.H0,BH.H1,Xv (l:=a) (by omega)]
 refine AR.old ⟨{k:Nat//1<=k/\k<=a.length/\Gi a k=a.take k},λk=>⟨[(3,.im (.int .i64 k.1)),(0,.own 0)],[(0,(true,.arr 70 2 (a.map Ac.c)))],2⟩,λk=>a.length - k.1,λk=>⟨by simp[ZG],by simp⟩,⟨⟨1,AF _,by omega,Oi a (by omega)⟩,?_⟩,λk=> ?_⟩
 .simp(disch:=omega)only[ZZ,simprocAttr,rch,AG,AC,BH.ca,BH.H0,BH.H1,sub]
  try simp
 obtain⟨k,k1,k2,Z⟩:=k;simp(disch:=omega)only[ZZ,simprocAttr,rch,AG,AC,BH.ca,BH.H0,BH.H1,sub,AM];intro _;refine⟨λc2=> ?_,λc2=> ?_⟩;rotate_left
 .obtain rfl:k=a.length:=by omega
  refine⟨[],[(1,some 0)],⟨[(2,.own 1)],[(1,(true,.arr 70 2 (a.map Ac.c)))],2⟩,?_,by simp[ZG],by simp,?_⟩
  .simp only[Ak];simp(disch:=omega)only[ZZ,simprocAttr,rch,AG,AC,BH.ca,BH.H0,BH.H1,AL,Bk]
  .simp(disch:=omega)only[ZZ,simprocAttr,rch,AG,AC,BH.ca,BH.H0,BH.H1,Z,El]
 have ad:IntKind.i64.wrap ((k:Int) - 1)=((k - 1:Nat):Int):=by rw[AB (by omega) (by omega)];omega
 rw[ad];have ag:IntKind.i64.wrap ((k:Int)+1)=((k+1:Nat):Int):=by rw[AB (by omega) (by omega)];rfl
 refine⟨c2,c2,λx hx=>⟨by omega,by omega,by omega,λy hy=> ?_⟩⟩;rw[BD] at hy;have hcs:Gi a (k+1)=Gi a k++if x=y then [] else [x]:=by
  simp only[Gi,hx];rw[hy];congr 1;by_cases e:x=y
  .rw[Ai e,Ai ⟨by omega,by rw[e]⟩]
  .rw[Ad e,Ad (λh=>e (Aw h.2).symm)]
 by_cases e:x=y
 case neg=>
  rw[Ad e] at hcs;refine⟨λh=>absurd (by obtain⟨p,q⟩:=x;obtain⟨r,s⟩:=y;simp at h;rw[h.1,h.2]) e,λ_=>⟨⟨k+1,by omega,by omega,by rw[hcs,Z,HX hx]⟩,by simp only;omega,?_⟩⟩;rw[ag]
 rw[Ai e,CC] at hcs;refine⟨λ_=>⟨k2,false,?_⟩,λh=>absurd (by rw[e];exact⟨lX _,lX _⟩) h⟩;simp(disch:=omega)only[ZZ,simprocAttr,rch,AG,AC,BH.ca,BH.H0,BH.H1,sub,eR];refine AR.old ⟨{j:Nat//1<=j/\k+j<=a.length/\(Gi a (k+j)).length<k+j},λj=>⟨[(5,.im (.int .i64 j.1)),(4,.osl 0 k (a.length - k)),(3,.im (.int .i64 (Gi a (k+j.1)).length)),(0,.own 0)],[(0,(true,.arr 70 2 ((Gi a (k+j.1)++a.drop (Gi a (k+j.1)).length).map Ac.c)))],2⟩,λj=>a.length - k - j.1,λj=>⟨by simp[ZG],by simp⟩,⟨⟨1,AF _,by omega,by rw[hcs,Z];simp;omega⟩,?_⟩,λj=> ?_⟩
 .have ah:min k a.length=k:=by omega
  simp(disch:=omega)only[ZZ,simprocAttr,rch,AG,AC,BH.ca,BH.H0,BH.H1,sub,hcs,Z,Bw,ah,HZ]
  try simp
  try omega
 obtain⟨j,j1,j2,j3⟩:=j;obtain⟨kp,hkp⟩: ∃kp,kp=Gi a (k+j):=⟨_,rfl⟩;rw[<-hkp] at j3;have Q:(kp++a.drop kp.length).length=a.length:=by simp;omega
 simp only[<-hkp];simp(disch:=omega)only[ZZ,simprocAttr,rch,AG,AC,BH.ca,BH.H0,BH.H1,sub,AM,Q];have ac:IntKind.i64.wrap ((j:Int) - 1)=((j - 1:Nat):Int):=by rw[AB (by omega) (by omega)];omega
 have ab:IntKind.i64.wrap ((j:Int)+1)=((j+1:Nat):Int):=by rw[AB (by omega) (by omega)];rfl
 have af:IntKind.i64.wrap ((kp.length:Int)+1)=((kp.length+1:Nat):Int):=by rw[AB (by omega) (by omega)];rfl
 rw[ac,ab,af];have O: ∀i,kp.length<=i->(kp++a.drop kp.length)[i]? =a[i]? :=λi hi=>by
  rw[E7 hi,Ez,show kp.length+(i - kp.length)=i by omega]
 refine⟨λc3=>⟨c3,by omega,by omega,λu hu=>⟨by omega,by omega,by omega,by rw[BD];omega,λv hv=> ?_⟩⟩,λc3=> ?_⟩
 .rw[O _ (by omega)] at hu;rw[BD,O _ (by omega)] at hv;have G:Gi a (k+j+1)=kp++if u=v then [] else [u]:=by
   rw[Gi,<-hkp];simp only[hu];rw[show k+j - 1=k+(j - 1) by omega,hv];congr 1;by_cases e:u=v
   .rw[Ai e,Ai ⟨by omega,by rw[e]⟩]
   .rw[Ad e,Ad (λh=>e (Aw h.2).symm)]
  by_cases e:u=v
  case pos=>
   rw[Ai e,CC] at G;refine⟨λh=>absurd h (by rw[e];simp),λ_=>⟨⟨j+1,by omega,by omega,by rw[show k+(j+1)=k+j+1 by omega,G];omega⟩,by simp only;omega,?_⟩⟩;simp only[show k+(j+1)=k+j+1 by omega,G];refine⟨⟨?_,?_⟩,?_⟩<;>first|trivial|rfl
  rw[Ad e] at G;refine⟨λ_=>⟨c3,by omega,by omega,λw hw=>⟨by omega,by omega,λz _=>⟨⟨j+1,by omega,by omega,by rw[show k+(j+1)=k+j+1 by omega,G];simp;omega⟩,by simp only;omega,?_⟩⟩⟩,λh=>absurd (by obtain⟨p,q⟩:=u;obtain⟨r,s⟩:=v;simp at e⊢;exact e) h⟩;rw[O _ (by omega)] at hw;obtain rfl:=Aw (hw.symm.trans hu);have h1:(kp++a.drop kp.length).set kp.length w=kp++[w]++a.drop (kp.length+1):=by
   obtain⟨c,hc⟩: ∃c,a[kp.length]? =some c:=⟨_,Bd (by omega)⟩;rw[E5 hc,fD _ _ (AF _),G5,ZL,E0];rfl
  simp only[show k+(j+1)=k+j+1 by omega,G,BQ,Cr,F3];refine⟨⟨by first|trivial|rfl,by first|trivial|rfl⟩,?_⟩;rw[<-h1,KN];rfl
 .refine⟨by omega,false,?_⟩;have aa:k+j=a.length:=by omega
  rw[aa] at hkp;simp(disch:=omega)only[ZZ,simprocAttr,rch,AG,AC,BH.ca,BH.H0,BH.H1,Q];have hA:List.take kp.length ((kp++a.drop kp.length).map Ac.c)=kp.map Ac.c:=by
   rw[<-vD,ZR]
  rw[hA];refine⟨by simp only[BQ,EJ];omega,true,?_⟩;simp(disch:=omega)only[ZZ,simprocAttr,rch,AG,AC,BH.ca,BH.H0,BH.H1,eR,Q];refine⟨[],[(1,some 2)],⟨[(2,.own 1)],[(1,(true,.arr 70 2 (kp.map Ac.c)))],2⟩,?_,by simp[ZG],by simp,?_⟩
  .simp only[Ak];simp(disch:=omega)only[ZZ,simprocAttr,rch,AG,AC,BH.ca,BH.H0,BH.H1,AL,Bk];rw[show ((kp.length:Int) - 0).toNat=(kp.map Ac.c).length by simp,E0,ZR]
  .simp(disch:=omega)only[ZZ,simprocAttr,rch,AG,AC,BH.ca,BH.H0,BH.H1,hkp]
def shX.ca(a:List Ac):List AV:=[.im (.sl false 2 (a.map Ac.c))]
def shX.H1(a:List Ac):Ar:=[(0,(true,.arr 70 2 ((BX a).map Ac.c)))]
def shX.row:Ax:=AE shX.ca (λ_=>[]) 0 (λa=>a.length<=1000000) (λ_=>false) (λ_=> .own 0) shX.H1 2000
def shX.ok:AA 232 shX.row:=by
 refine Hd (tC clonQ.ok (tC srtG.ok (tC BH.ok tN))) Tryz.func232 (exB:=λj=>j==0) (R:=λ_ r=>r= .own 0) (λ_=>rfl)
  (λa=>by simp[shX.ca,shX.H1,AN,AV.bel,AD,Cg,Cx,Ag.nms,A9,AV.nms,An,hget]) (λa p hp=> ?_) (λa r h=>by subst h;exact DK.refl _) ?_
 rotate_left
 intro a G;simp only[Tryz.f232,Option.getD,shX.ca,shX.H1];simp(disch:=omega)only[ZZ,simprocAttr,rch,AG,AC,shX.ca,shX.H1];rotate_left
 .simp[shX.H1] at hp;subst hp;exact .inr ⟨by omega,by omega,rfl,rfl⟩
 refine AE.os a [] G (λj=>by simp[An,hget]) rfl rfl ?_ ?_
 .simp(disch:=omega)only[ZZ,simprocAttr,rch,AG,AC,shX.ca,shX.H1,clonQ.ca,CV]
 simp(disch:=omega)only[ZZ,simprocAttr,rch,AG,AC,shX.ca,shX.H1,clonQ.H1,sub];refine AE.os a [1] trivial (λj=> ?_) rfl rfl ?_ ?_
 .simp only[An,srtG.H0,hget];by_cases z:j=0
  .subst z;simp
  .have:(0==j)=false:=by simpa using λh=>z h.symm
   rw[this];simp;omega
 .simp(disch:=omega)only[ZZ,simprocAttr,rch,AG,AC,shX.ca,shX.H1,srtG.ca,srtG.H0,CV,Cz]
  try exact⟨rfl,rfl⟩
 simp(disch:=omega)only[ZZ,simprocAttr,rch,AG,AC,shX.ca,shX.H1,srtG.H1,sub,Da,Cz,D4];have O:=cX a;refine AE.os (C7 a) [1] (by omega) (λj=> ?_) rfl rfl ?_ ?_
 .simp only[An,BH.H0,hget];by_cases z:j=0
  .subst z;simp
  .have:(0==j)=false:=by simpa using λh=>z h.symm
   rw[this];simp;omega
 .simp(disch:=omega)only[ZZ,simprocAttr,rch,AG,AC,shX.ca,shX.H1,BH.ca,BH.H0,CV,Cz]
  try exact⟨rfl,rfl⟩
 simp(disch:=omega)only[ZZ,simprocAttr,rch,AG,AC,shX.ca,shX.H1,BH.H1,sub,Da,Cz,D4,qG];refine⟨[],[(0,some 21)],⟨[(2,.own 0)],[(0,(true,.arr 70 2 ((BX a).map Ac.c)))],1⟩,?_,by simp[ZG],by simp,?_⟩
 .simp only[Ak];simp(disch:=omega)only[ZZ,simprocAttr,rch,AG,AC,shX.ca,shX.H1,AL,Bk]
 .simp(disch:=omega)only[ZZ,simprocAttr,rch,AG,AC,shX.ca,shX.H1,shX.H1]
def shV.row:Ax:=Nv (a1 (kS Ac.d)) (λa=>a.length<=1000000) (λ_=> .own 0) shX.H1 2000
def iV(a:List Ac): ∀p∈shX.H1 a,p.1<2000/\p.2.1=true/\Jc p.2.2=true/\ ∀m∈p.2.2.nms,m<2000:=by
 intro p hp;simp only[shX.H1,B4] at hp;subst hp;exact⟨by omega,rfl,by simp[Jc,Ac.c,D.sc],by simp[Ag.nms]⟩
def shV.ok:AA 232 shV.row:=
 UU (A:=List Ac) (ca:=λ(a:List Ac)=>[D.sl false 2 (a.map Ac.c)]) (by kernel_rfl) shX.ok (λ_=>rfl) (ZV (aH 2 Ac.d_le (λ_=>rfl))) (λ_=>⟨rfl,by simp[AV.nms]⟩) iV
def clA_.fv(a:Ab):Ab:=(λa=>a) a
def clA_.row:Ax:=vK (b1 (qR Ab.d_le)) (rA Ab.d_le) (λa=>a.Tiles.length<=1000000) clA_.fv
def clA_.q:=AX (R:=clA_.row) rfl
def clA_.ok:AA 146 clA_.row:=by
 refine vw (tC clonC.ok tN) Tryz.func146 ?_;intro a z;simp only[Tryz.f146,Option.getD];simp(disch:=omega)only[ZZ,simprocAttr,rch,clA_.fv];refine AE.os a.Tiles [] z (λj=>by simp[An,hget]) rfl rfl ?_ ?_
 .simp(disch:=omega)only[ZZ,simprocAttr,rch,clA_.fv,clonC.ca,CV]
 simp(disch:=omega)only[ZZ,simprocAttr,rch,clA_.fv,clonC.H1,sub]
def loB_.fv(a:Am×Ab×Aj):Bool:=(Fo) (a.1) (a.2.1) (a.2.2)
def loB_.row:Ax:=vK (b3 (qR Am.d_le) (qR Ab.d_le) (qR Aj.d_le)) rB (λa=>BG a.1.Set/\Fy a.1.Set a.2.1/\Ck none a.1.Seed.Tiles=true/\GI a.2.2.At/\FN a.1.Set a.2.2.Tile) loB_.fv
def loB_.q:=AX (R:=loB_.row) rfl
def loB_.ok:AA 175 loB_.row:=by
 refine vw (tC seedB_.ok (tC binding_.ok tN)) Tryz.func175 ?_;intro a z;simp only[Tryz.f175,Option.getD];simp(disch:=omega)only[ZZ,simprocAttr,rch,loB_.fv,seedB_.q,seedB_.fv,binding_.row,mQ,bindC.q,bindC.ar,bindC.fv,bindA.q,bindA.ar,bindA.fv];obtain⟨s,a,x⟩:=a;obtain⟨O,G,Q,Z,h5⟩:=z;simp only at O G Q Z h5⊢;refine⟨Q,?_⟩;cases hb:xE s x
 .rw[Ai rfl];exact .inr ⟨⟨O,λp hp=>JV G p hp,Z,h5,G.1⟩,by simp[Fo,hb,Qy]⟩
 .rw[Ad (by decide)];simp[Fo,hb]
def looI_.fv(a:Am×Ab):List Int:=(λs a=>(EE s a).map Int.ofNat) (a.1) (a.2)
def looI_.row:Ax:=vK (b2 (qR Am.d_le) (qR Ab.d_le)) (rS FK EM) (λa=>BG a.1.Set/\Fy a.1.Set a.2/\Ck none a.1.Seed.Tiles=true/\a.2.Tiles.length<=1000000) looI_.fv
def looI_.q:=AX (R:=looI_.row) rfl
def tZ:=J @looI_.fv.eq_1 (J @loB_.q @loB_.fv.eq_1)
def looI_.ok:AA 126 looI_.row:=by
 refine vw (tC loB_.ok tN) Tryz.func126 ?_;intro a Q;simp only[Tryz.f126,Option.getD];simp(disch:=omega)only[ZZ,simprocAttr,rch,tZ];obtain⟨s,a⟩:=a;obtain⟨h1,Z,h3,h4⟩:=Q;simp only at h1 Z h3 h4⊢;intro _;refine AR.ren ⟨{i:Nat//i<=a.Tiles.length},λi=>⟨[(11,.im (.int .i64 i.1)),(10,.im (.int .i64 a.Tiles.length)),(9,.im (.sl false 3 (a.Tiles.map Aj.c))),(5,.own 4),(3,.ptr 1 0),(2,.ptr 0 0)],[(4,(true,.arr 2 1 (((HC s a i.1).map Int.ofNat).map Ao))),(1,(true,.cells 41 [.im (.sl false 3 (a.Tiles.map Aj.c))])),(0,(true,.cells 43 [.im (.sl false 2 (s.Set.Glues.map Av.c)),.im (.sl false 2 (s.Set.Tiles.map Tile.c)),.im (.sl false 3 (s.Seed.Tiles.map Aj.c)),.im (.int .i64 s.Temperature)]))],5⟩,λi=>a.Tiles.length - i.1,λi=>⟨by simp[ZG],by simp⟩,⟨⟨0,BP _⟩,[(4,some 3)],?_⟩,λi=> ?_⟩
 .simp only[Ak];simp(disch:=omega)only[ZZ,simprocAttr,rch,tZ,AL,Bk,HC,ZeE,fJ,Cs]
  try simp
 obtain⟨i,hi⟩:=i;have ac:=Wq s a i;simp(disch:=omega)only[ZZ,simprocAttr,rch,tZ,sub,AM,FJ,FI,PL,Bn,D.one,F1,F4,KR,BQ];have G:IntKind.i64.wrap ((i:Int)+1)=((i+1:Nat):Int):=by rw[AB (by omega) (by omega)];rfl
 refine⟨λz=>⟨z,λx hx=> ?_⟩,λz=> ?_⟩
 .have aa:=(Zs _ _ Z.1 x (AP hx)).1;have ab:=Z.2 x (AP hx);have O:=qA s hx;refine⟨⟨h1,Z,h3,PT aa,ab⟩,λhb=>⟨by omega,⟨i+1,by omega⟩,[(4,some 7)],by simp only;omega,?_⟩,λhb=>⟨⟨i+1,by omega⟩,[(4,some 4)],by simp only;omega,?_⟩⟩
  .simp only[Ak];simp(disch:=omega)only[ZZ,simprocAttr,rch,tZ,AL,Bk,G,O];rw[Ai hb];simp[Ao]
  .simp only[Ak];simp(disch:=omega)only[ZZ,simprocAttr,rch,tZ,AL,Bk,G,O];rw[Ad hb];simp
 .obtain rfl:i=a.Tiles.length:=by omega
  rfl
def K6(s:Am)(f:Ac->Int)(o:Ba):Bool:=Dl o.At && (decide (f o.At<0) && Bf (EO s.Set f o.At o.Tile 4) 1 (s.Temperature - 1))
def wkC_.fv(a:AW×Ac×Int):Bool:=(λc p t=>K6 c.Sys (Cl c.Tl) ⟨p,t⟩) (a.1) (a.2.1) (a.2.2)
def wkC_.row:Ax:=Fv (b3 (qP 6 AW.d_le) (qR Ac.d_le) qI) rB (λa=>BG a.1.Sys.Set/\aE a.1.Sys.Set (Cl a.1.Tl)/\FN a.1.Sys.Set a.2.2/\1<=a.1.Sys.Temperature/\a.1.Sys.Temperature<=16) wkC_.fv
def wkC_.q:=CR (R:=wkC_.row) rfl
def wkC_.ok:AA 194 wkC_.row:=by
 refine HJ (tC ValidPoint.ok (tC catC.ok (tC binding_.ok (tC within_.ok tN)))) Tryz.func194 ?_;intro a z;simp only[Tryz.f194,Option.getD];simp(disch:=omega)only[ZZ,simprocAttr,rch,wkC_.fv,ValidPoint.q,ValidPoint.fv,catC.q,catC.fv,binding_.row,mQ,bindC.q,bindC.ar,bindC.fv,bindA.q,bindA.ar,bindA.fv,within_.q,within_.fv,Eb,D.sc,D.scs,Fc,Bt];obtain⟨c,p,t⟩:=a;obtain⟨G,O,Q,Z,h5⟩:=z;simp only at G O Q Z h5⊢;cases e1:Dl p
 .simp[K6,e1]
 rw[Ai rfl]
 split<;>rename_i h
 .refine .inl ⟨⟨G,O,PT e1,Q⟩,?_⟩;rw[AB (by omega) (by omega),K6,e1,JS h];simp
 .rw[K6,e1,KO h];rfl
def tbX.ca(a:AW×List Ac×AW):List AV:=[.im (.ref (AW.c a.1)),.own 0,.im (.fn 194 [.ref (AW.c a.2.2)] [])]
def tbF(a:AW×List Ac×AW):List Ba:=B8 (λp=>FV (K6 a.2.2.Sys (Cl a.2.2.Tl)) p a.1.Sys.Set.Tiles.length) a.2.1
def tbX.H0(a:AW×List Ac×AW):Ar:=[(0,(true,.arr 70 2 (a.2.1.map Ac.c)))]
def tbX.H1(a:AW×List Ac×AW):Ar:=[(1,(true,.arr 72 3 ((tbF a).map Ba.c)))]
def tbX.pre(a:AW×List Ac×AW):Prop:=BG a.2.2.Sys.Set/\aE a.2.2.Sys.Set (Cl a.2.2.Tl)/\a.1.Sys.Set.Tiles.length<=a.2.2.Sys.Set.Tiles.length/\1<=a.2.2.Sys.Temperature/\a.2.2.Sys.Temperature<=16/\a.2.1.length<=1000000/\a.1.Sys.Set.Tiles.length<=160
def tbX.row:Ax:=AE tbX.ca tbX.H0 1 tbX.pre (λ_=>false) (λ_=> .own 1) tbX.H1 2000
def Vy:=J @wkC_.q @wkC_.fv.eq_1
def tbX.ok:AA 192 tbX.row:=by
 refine Hd (tC wkC_.ok tN) Tryz.func192 (exB:=λj=>j==1) (R:=λ_ r=>r= .own 1) (λ_=>rfl)
  (λa=>by simp[tbX.ca,tbX.H0,tbX.H1,AW.c,AN,AV.bel,AD,Cg,Cx,Ag.nms,A9,AV.nms,An,hget]) (λa p hp=> ?_) (λa r h=>by subst h;exact DK.refl _) ?_
 rotate_left
 intro a O;simp only[Tryz.f192,Option.getD,tbX.ca,tbX.H0,tbX.H1,AW.c];simp(disch:=omega)only[ZZ,simprocAttr,rch,Vy,AG,AC,tbX.ca,tbX.H0,tbX.H1,AW.c];rotate_left
 .simp[tbX.H1] at hp;subst hp;exact .inr ⟨by omega,by omega,rfl,rfl⟩
 obtain⟨c,l,d⟩:=a;obtain⟨h1,h2,h3,h4,h5,h6,h7⟩:=O;simp only at h1 h2 h3 h4 h5 h6 h7⊢;obtain⟨g,hg⟩: ∃g,g=λp=>FV (K6 d.Sys (Cl d.Tl)) p c.Sys.Set.Tiles.length:=⟨_,rfl⟩
 have Z: ∀p,(g p).length<=160:=λp=>by have:=J9 (K6 d.Sys (Cl d.Tl)) p c.Sys.Set.Tiles.length;rw[hg];simp only;omega
 have ad:tbF (c,l,d)=B8 g l:=by rw[hg];rfl
 intro _;refine AR.ren ⟨{i:Nat//i<=l.length},λi=>⟨[(13,.im (.int .i64 i.1)),(12,.im (.int .i64 l.length)),(11,.own 0),(7,.own 3),(0,.im (.ref (AW.c c))),(2,.im (.fn 194 [.ref (AW.c d)] []))],[(3,(true,.arr 72 3 ((Cj g l i.1).map Ba.c))),(0,(true,.arr 70 2 (l.map Ac.c)))],4⟩,λi=>l.length - i.1,λi=>⟨by simp[ZG],by simp⟩,⟨⟨0,BP _⟩,[(3,some 2)],?_⟩,λi=> ?_⟩
 .simp only[Ak];simp(disch:=omega)only[ZZ,simprocAttr,rch,Vy,AG,AC,tbX.ca,tbX.H0,tbX.H1,AW.c,AL,Bk,Cj,GS,B8,ZQ,Cs]
  try simp
 obtain⟨i,hi⟩:=i;simp(disch:=omega)only[ZZ,simprocAttr,rch,Vy,AG,AC,tbX.ca,tbX.H0,tbX.H1,AW.c,sub,AM];refine⟨λz=>⟨z,z,λp hp=> ?_⟩,λz=> ?_⟩
 .have af:(Cj g l i).length<=1000000*160:=by
   have:=Io Z (l.take i)
   have h9:(l.take i).length*160<=1000000*160:=FS _ (by simp;omega);simp only[Cj];omega
  have aa:g p=FV (K6 d.Sys (Cl d.Tl)) p c.Sys.Set.Tiles.length:=by rw[hg]
  intro _;refine AR.ren ⟨{k:Nat//k<=c.Sys.Set.Tiles.length},λk=>⟨[(24,.im (.int .i64 k.1)),(23,.im (.int .i64 c.Sys.Set.Tiles.length)),(13,.im (.int .i64 i)),(12,.im (.int .i64 l.length)),(11,.own 0),(9,.ptr 4 0),(7,.own 5),(0,.im (.ref (AW.c c))),(2,.im (.fn 194 [.ref (AW.c d)] []))],[(5,(true,.arr 72 3 ((Cj g l i++(FV (K6 d.Sys (Cl d.Tl)) p k.1).map (Gn p)).map Ba.c))),(4,(true,.cells 70 [.im (.int .i64 p.X),.im (.int .i64 p.Y)])),(0,(true,.arr 70 2 (l.map Ac.c)))],6⟩,λk=>c.Sys.Set.Tiles.length - k.1,λk=>⟨by simp[ZG],by simp⟩,⟨⟨0,BP _⟩,[(5,some 3)],?_⟩,λk=> ?_⟩
  .simp only[Ak];simp(disch:=omega)only[ZZ,simprocAttr,rch,Vy,AG,AC,tbX.ca,tbX.H0,tbX.H1,AW.c,AL,Bk,FV,Cs,CC]
   try simp
  obtain⟨k,hk⟩:=k;have ag:=J9 (K6 d.Sys (Cl d.Tl)) p k;simp(disch:=omega)only[ZZ,simprocAttr,rch,Vy,AG,AC,tbX.ca,tbX.H0,tbX.H1,AW.c,sub,AM,FJ,FI,PL,Bn,D.one,F1,F4,KR,BQ];have G:IntKind.i64.wrap ((k:Int)+1)=((k+1:Nat):Int):=by rw[AB (by omega) (by omega)];rfl
  have ab:IntKind.i64.wrap ((i:Int)+1)=((i+1:Nat):Int):=by rw[AB (by omega) (by omega)];rfl
  refine⟨λac=>⟨⟨h1,h2,⟨by omega,by omega⟩,h4,h5⟩,λQ=>⟨by omega,⟨k+1,by omega⟩,[(5,some 7)],by simp only;omega,?_⟩,λQ=>⟨⟨k+1,by omega⟩,[(5,some 5)],by simp only;omega,?_⟩⟩,λac=>⟨⟨i+1,by omega⟩,[(3,some 5)],by simp only;omega,?_⟩⟩
  .simp only[Ak];simp(disch:=omega)only[ZZ,simprocAttr,rch,Vy,AG,AC,tbX.ca,tbX.H0,tbX.H1,AW.c,AL,Bk,G,FV];rw[Ai Q];simp[Gn,Ba.c]
  .simp only[Ak];simp(disch:=omega)only[ZZ,simprocAttr,rch,Vy,AG,AC,tbX.ca,tbX.H0,tbX.H1,AW.c,AL,Bk,G,FV];rw[Ad Q];simp
  .obtain rfl:k=c.Sys.Set.Tiles.length:=by omega
   simp only[Ak];simp(disch:=omega)only[ZZ,simprocAttr,rch,Vy,AG,AC,tbX.ca,tbX.H0,tbX.H1,AW.c,AL,Bk,ab];rw[Wd hp,aa]
 .obtain rfl:i=l.length:=by omega
  refine⟨[],[(1,some 3)],⟨[(6,.own 1)],[(1,(true,.arr 72 3 ((Cj g l l.length).map Ba.c))),(0,(true,.arr 70 2 (l.map Ac.c)))],2⟩,?_,by simp[ZG],by simp,?_⟩
  .simp only[Ak];simp(disch:=omega)only[ZZ,simprocAttr,rch,Vy,AG,AC,tbX.ca,tbX.H0,tbX.H1,AW.c,AL,Bk]
  .simp(disch:=omega)only[ZZ,simprocAttr,rch,Vy,AG,AC,tbX.ca,tbX.H0,tbX.H1,AW.c,tbX.H1,ad,Cj,El]
def O8(p:Ac):Nat->List Ac
 |0=>[p]
 |d+1=>O8 p d++if Dl (Cm p d)=true then [Cm p d] else []
def dH(p:Ac): ∀d,(O8 p d).length<=d+1
 |0=>AF _
 |d+1=>by
  have:=dH p d
  simp only[O8,BQ]
  split<;>simp<;>omega
def GA(l:List (Ac×Int)):List Ac:=l.flatMap λx=>O8 x.1 4
def KS: ∀l:List (Ac×Int),(GA l).length<=l.length*5
 |[]=>by simp[GA]
 |x::r=>by
  have z:=KS r;have G:=dH x.1 4;simp only[GA] at z;simp only[GA,EQ,BQ,Cr];omega
def Xi{l m:List Ac}(h: ∀q,q∈l↔q∈m):BX l=BX m:=Q5 (Hs l) (Hs m) λq=>by rw[FZ,FZ];exact h q
abbrev InS:=Ab×List Ba×Bool
structure InOk(s:Am)(ts:List Aj)(q:InS):Prop where
 rm: ∃t k,RM t q.1 k
 asm:Fy s.Set q.1
 mem: ∀o∈q.2.1,o.At∈ts.map Aj.At
 nd:(q.2.1.map Ba.At).Nodup
 pos: ∀o∈q.2.1,0<=Bq q.1 o.At
 len:q.1.Tiles.length=s.Seed.Tiles.length+q.2.1.length
abbrev InI:=AW×List Ba×Bool
structure InC(s:Am)(i:InI)(q:InS):Prop where
 sys:i.1.Sys=s
 rm: ∃k,RM i.1.Tl q.1 k
 eq:i.2=q.2
def insX.pre(a:Am×Ab):Prop:=Zn a.1.Set/\Dw a.1=true/\a.2.Tiles.length<=500/\ ∀x∈a.2.Tiles,FN a.1.Set x.Tile
def vT{op:List (Ac×List Int)}(G:op.length<=1000000)(O: ∀q∈op,q.2.length<=1000):Dc op<=1000000*1000:=by
 have z: ∀(l:List (Ac×List Int)),(∀q∈l,q.2.length<=1000)->Dc l<=l.length*1000:=by
  intro l;induction l with
  |nil=>intro _;simp[Dc]
  |cons x r ih=>
   intro h;have a1:=h x (Cb ..);have a2:=ih λq hq=>h q (BZ _ hq)
   simp only[Dc,Bb,NO,Cr] at a2⊢;omega
 exact BR (z op O) (FS 1000 G)
def oN: ∀(l:List (Ac×List Int)) (i:Nat) (q:Ac×List Int),l[i]? =some q->q.2.length+Dc (l.eraseIdx i)=Dc l
 |x::r,0,q,h=>by
  obtain rfl:x=q:=by simpa using h
  simp[Dc]
 |x::r,i+1,q,h=>by
  have:=oN r i q (by simpa using h)
  simp only[Dc,fI,Bb,NO] at this⊢;omega
def cntC.H1(a:AW):Ar:=[(2,(false,.map ⟨true,[.int .i64,.int .i64]⟩ (a.Op.map DL)))]
def IK(j:Nat):Bool:=j==2
def cntC.row:Ax:=AE asmC.ca DR 3 (λa=>a.Op.length<=1000000/\ ∀q∈a.Op,q.2.length<=1000) IK (λa=> .im (.int .i64 (Dc a.Op))) cntC.H1 0
def cntC.ok:AA 125 cntC.row:=by
 refine ow tN Tryz.func125 (exB:=λ_=>false) (R:=λa r=>r= .im (.int .i64 (Dc a.Op))) (λ_=>rfl)
  (λa=>by simp[asmC.ca,DR,D7,cntC.H1,IK,AN,AV.bel,AD,Cg,Cx,Ag.nms,A9,AV.nms,An,hget]) (λa p hp=> ?_) (λa r h=>by subst h;exact DK.refl _) ?_
 rotate_left
 intro a Z;simp only[Tryz.f125,Option.getD,asmC.ca,DR,D7,cntC.H1,IK];simp(disch:=omega)only[ZZ,simprocAttr,rch,AC,asmC.ca,DR,D7,cntC.H1,IK];obtain⟨G,O⟩:=Z;refine AR.old ⟨{s:Option (D×D)×List (Ac×List Int)×Nat//s.2.2+Dc s.2.1=Dc a.Op/\(∀q∈s.2.1,q.2.length<=1000)/\s.2.1.length<=1000000},λs=>⟨[(10,.it 3),(3,.im (.int .i64 s.1.2.2)),(0,.ptr 0 0)],[(3,(true,.iter s.1.1 (s.1.2.1.map DL))),(0,(true,.cells 166 (D7 a.Sys))),(1,(true,.map ⟨true,[.int .i64,.int .i64]⟩ (a.Tl.map Gx))),(2,(false,.map ⟨true,[.int .i64,.int .i64]⟩ (a.Op.map DL)))],4⟩,λs=>s.1.2.1.length,λs=>⟨by simp[ZG,D7],by simp⟩,⟨⟨(none,a.Op,0),by simp only;exact⟨by omega,O,G⟩⟩,by simp only[D7];simp(disch:=omega)only[ZZ,simprocAttr,rch,AC,asmC.ca,DR,D7,cntC.H1,IK,sub]⟩,λs=> ?_⟩;obtain⟨⟨af,left,n⟩,aa,z,ad⟩:=s;simp only at aa z ad;simp only[D7];simp(disch:=omega)only[ZZ,simprocAttr,rch,AC,asmC.ca,DR,D7,cntC.H1,IK,sub,AM];refine⟨λhl=> ?_,λi p hp=> ?_⟩
 .have ac:left=[]:=by simpa using hl
  subst ac
  have:n=Dc a.Op:=by simpa[Dc] using aa
  rw[this]
  try trivial
 .rw[Ef] at hp;cases hq:left[i]? with
  |none=>rw[hq] at hp;cases hp
  |some q=>
   rw[hq] at hp;obtain rfl:=Aw hp;obtain⟨⟨qx,qy⟩,qn⟩:=q;have hi:i<left.length:=by
    rcases EI i left.length with h|h
    .exact h
    .rw[Fz h] at hq;cases hq
   have Q:((⟨qx,qy⟩,qn)::left.eraseIdx i).Perm left:=Qqq _ _ _ hq;have ah:qn.length<=1000:=z _ (AP hq);have ab:n+qn.length+Dc (left.eraseIdx i)=Dc a.Op:=by
    have:=oN _ _ _ hq
    simp only at this;omega
   have ag:Dc a.Op<=1000000*1000:=vT G O;simp only[DL,Ac.c];simp(disch:=omega)only[ZZ,simprocAttr,rch,AC,asmC.ca,DR,D7,cntC.H1,IK,sub,AM];intro _;refine⟨⟨(some (D.agg [.int .i64 qx,.int .i64 qy],.sl false 1 (qn.map Ao)),left.eraseIdx i,n+qn.length),?_⟩,?_,?_,?_⟩
   .simp only;refine⟨ab,λq hq=>z q (Q.mem_iff.1 (BZ _ hq)),?_⟩
    have:=Q.length_eq
    simp at this;omega
   .simp only[Zfx];rw[Ai hi];omega
   .rw[AB (by omega) (by omega)];simp only;omega
   .simp[Du,Qwf]
 simp[cntC.H1] at hp;subst hp;exact .inl ⟨by omega,rfl,rfl⟩
def oF(k:Int)(i:Nat):Ba:=⟨⟨k+3*i,k+3*i+1⟩,k+3*i+2⟩
def vF.call{A:Type}{ar:List PK->Option A}{pre:A->Prop}{re:A->D}{args:List AV}{tm:List (Nat×AV)}{h:Ar}{nx:Nat}{dst:Option Nat}{Q:Az->Prop}(ps:List PK)(O:CK (hget h) args=some ps)(a:A)(Z:ar ps=some a)(z:pre a)
 (G:Q ((⟨tm,h,nx⟩:Az).put dst (.im (re a)))):KE ar pre re args (hget h) nx (SN Q ⟨tm,h,nx⟩ dst):=by
 unfold KE;rw[O];simp only[Wy,Z,EA];refine⟨z,?_,?_⟩
 .rw[Bz.ok_nr];simp[AV.bel,AD,NH]
 .rw[Az.app_nr,Da,Xd];exact G
def Nv.os{A:Type}{ar:List PK->Option A}{pre:A->Prop}{r0:A->AV}{H1:A->Ar}{cnt:Nat}{args:List AV}{h:Nat->Option Ap}{nx:Nat}{K:Ah}(ps:List PK)(G:CK h args=some ps)(a:A)(Q:ar ps=some a)(z:pre a)
 (O:K ((r0 a).ren (Di (λj=>j) 0 nx)) {use:=Dz h args,new:=B1 (Di (λj=>j) 0 nx) (H1 a),cnt:=cnt}):Nv ar pre r0 H1 cnt args h nx K:=by
 unfold Nv;rw[G];simp only[Nz,Q,EA];exact⟨z,O⟩
def wY{h:Nat->Option Ap}{o T k:Nat}{z:Bool}{rows:List (List D)}(g:h o=some (z,.arr T k rows)):CK h [.own o]=some [.val (.sl false k rows)]:=by
 simp only[CK,EL,bk,g,WR,Er,GE,DW]
def arX.ca(a:AW):List AV:=[.im (.ref (AW.c a))]
def arX.H1(a:AW):Ar:=[(0,(true,.arr 70 2 ((BX (GA a.Tl)).map Ac.c)))]
def arX.row:Ax:=AE arX.ca (λ_=>[]) 0 (λa=>a.Tl.length<=1000/\ ∀x∈a.Tl,GI x.1) (λ_=>false) (λ_=> .own 0) arX.H1 9000
def PX:=J @step_.q<|J @step_.fv.eq_1<|J @step_.re.eq_1<|J @ValidPoint.q @ValidPoint.fv.eq_1
def arX.ok:AA 193 arX.row:=by
 refine Hd (tC step_.ok (tC ValidPoint.ok (tC shV.ok tN))) Tryz.func193 (exB:=λj=>j==0) (R:=λ_ r=>r= .own 0) (λ_=>rfl)
  (λa=>by simp[arX.ca,arX.H1,AW.c,AN,AV.bel,AD,Cg,Cx,Ag.nms,A9,AV.nms,An,hget]) (λa p hp=> ?_) (λa r h=>by subst h;exact DK.refl _) ?_
 rotate_left
 intro a ac;simp only[Tryz.f193,Option.getD,arX.ca,arX.H1,AW.c];simp(disch:=omega)only[ZZ,simprocAttr,rch,PX,AG,AC,arX.ca,arX.H1,AW.c];rotate_left
 .simp[arX.H1] at hp;subst hp;exact .inr ⟨by omega,by omega,rfl,rfl⟩
 obtain⟨h1,h2⟩:=ac;refine AR.ren ⟨{s:Option (D×D)×List (Ac×Int)×List Ac//(∀q,q∈GA a.Tl↔q∈s.2.2\/q∈GA s.2.1)/\(∀x∈s.2.1,GI x.1)/\s.2.2.length+s.2.1.length*5<=5000},λs=>⟨[(11,.it 4),(3,.own 3),(0,.im (.ref (AW.c a)))],[(4,(true,.iter s.1.1 (s.1.2.1.map Gx))),(3,(true,.arr 70 2 (s.1.2.2.map Ac.c)))],5⟩,λs=>s.1.2.1.length,λs=>⟨by simp[ZG],by simp⟩,⟨⟨(none,a.Tl,[]),λq=>by simp,h2,by simp;omega⟩,[(4,some 2),(3,some 1)],?_⟩,λs=> ?_⟩
 .simp only[Ak];simp(disch:=omega)only[ZZ,simprocAttr,rch,PX,AG,AC,arX.ca,arX.H1,AW.c,AL,Bk,Cs]
  try simp
 obtain⟨⟨aj,left,out⟩,s1,s2,s3⟩:=s;simp only at s1 s2 s3;simp(disch:=omega)only[ZZ,simprocAttr,rch,PX,AG,AC,arX.ca,arX.H1,AW.c,sub,AM];refine⟨λhl=> ?_,λi p hp=> ?_⟩
 .have af:left=[]:=by simpa using hl
  subst af;have ai:BX out=BX (GA a.Tl):=Xi λq=>by rw[s1 q];simp[GA]
  refine Nv.os [.val (.sl false 2 (out.map Ac.c))] (wY rfl) out (by simp only[a1,kS,Ac.d_R,H3]) (by omega) ?_;simp(disch:=omega)only[ZZ,simprocAttr,rch,PX,AG,AC,arX.ca,arX.H1,AW.c,shX.H1,sub,ai];refine⟨[],[(0,some 5)],⟨[(2,.own 0)],[(0,(true,.arr 70 2 ((BX (GA a.Tl)).map Ac.c)))],1⟩,?_,by simp[ZG],by simp,?_⟩
  .simp only[Ak];simp(disch:=omega)only[ZZ,simprocAttr,rch,PX,AG,AC,arX.ca,arX.H1,AW.c,AL,Bk]
  .simp(disch:=omega)only[ZZ,simprocAttr,rch,PX,AG,AC,arX.ca,arX.H1,AW.c,arX.H1]
 .rw[Ef] at hp;cases hq:left[i]? with
  |none=>rw[hq] at hp;cases hp
  |some q=>
   rw[hq] at hp;obtain rfl:=Aw hp;obtain⟨⟨Q,Z⟩,qn⟩:=q;have hi:i<left.length:=(BJ.1 hq).1;have z:((⟨Q,Z⟩,qn)::left.eraseIdx i).Perm left:=Qqq _ _ _ hq;have ad:=s2 _ (AP hq);have am:out.length<=4995:=by omega
   simp only[Gx,Ac.c];simp(disch:=omega)only[ZZ,simprocAttr,rch,PX,AG,AC,arX.ca,arX.H1,AW.c,sub,AM,FJ,FI,PL,Bn,D.one,F1,F4,KR,BQ];refine⟨by omega,?_⟩;obtain⟨p,hp⟩: ∃p:Ac,p=⟨Q,Z⟩:=⟨_,rfl⟩;have ag:p.X=Q:=by rw[hp]
   have ah:p.Y=Z:=by rw[hp]
   refine AR.ren ⟨{d:Nat//d<=4},λd=>⟨[(20,.im (.int .i64 d.1)),(11,.it 4),(4,.ptr 5 0),(3,.own 8),(0,.im (.ref (AW.c a)))],[(8,(true,.arr 70 2 ((out++O8 p d.1).map Ac.c))),(5,(true,.cells 70 [.im (.int .i64 Q),.im (.int .i64 Z)])),(4,(true,.iter (some (D.agg [.int .i64 Q,.int .i64 Z],.int .i64 qn)) ((left.map Gx).eraseIdx i)))],9⟩,λd=>4 - d.1,λd=>⟨by simp[ZG],by simp⟩,⟨⟨0,BP _⟩,[(8,some 7)],?_⟩,λd=> ?_⟩
   .simp only[Ak];simp(disch:=omega)only[ZZ,simprocAttr,rch,PX,AG,AC,arX.ca,arX.H1,AW.c,AL,Bk,O8,Ei,Bb,Cs,ag,ah]
    try simp
   obtain⟨d,hd⟩:=d;have ak:=dH p d;simp(disch:=omega)only[ZZ,simprocAttr,rch,PX,AG,AC,arX.ca,arX.H1,AW.c,sub,AM,FJ,FI,PL,Bn,D.one,F1,F4,KR,BQ];have aa:IntKind.i64.wrap ((d:Int)+1)=((d+1:Nat):Int):=by rw[AB (by omega) (by omega)];rfl
   rw[<-hp] at ad⊢;refine⟨λd2=>⟨⟨ad,by omega⟩,λhb=>⟨by omega,⟨d+1,by omega⟩,[(8,some 11)],by simp only;omega,?_⟩,λhb=>⟨⟨d+1,by omega⟩,[(8,some 8)],by simp only;omega,?_⟩⟩,λd2=> ?_⟩
   .simp only[Ak];simp(disch:=omega)only[ZZ,simprocAttr,rch,PX,AG,AC,arX.ca,arX.H1,AW.c,AL,Bk,aa,O8];rw[Ai hb];simp[Ac.c]
   .simp only[Ak];simp(disch:=omega)only[ZZ,simprocAttr,rch,PX,AG,AC,arX.ca,arX.H1,AW.c,AL,Bk,aa,O8];rw[Ad hb];simp
   .obtain rfl:d=4:=by omega
    have ab:=z.length_eq;simp only[Cr] at ab;refine⟨⟨(some (D.agg [.int .i64 Q,.int .i64 Z],.int .i64 qn),left.eraseIdx i,out++O8 p 4),λq=> ?_,λx O=>s2 x (z.mem_iff.1 (BZ _ O)),?_⟩,[(4,some 4),(3,some 8)],by simp only;omega,?_⟩
    .have e:q∈GA left↔q∈O8 p 4\/q∈GA (left.eraseIdx i):=by
      simp only[GA,V5];constructor
      .rintro⟨x,O,G⟩;rcases Bx.1 (z.mem_iff.2 O) with rfl|O
       .exact .inl (by rw[hp];exact G)
       .exact .inr ⟨x,O,G⟩
      .rintro (h|⟨x,O,G⟩)
       .exact⟨_,z.mem_iff.1 (Cb ..),by rw[hp] at h;exact h⟩
       .exact⟨x,z.mem_iff.1 (BZ _ O),G⟩
     rw[s1 q,e,Bp,or_assoc]
    .simp only[BQ];omega
    .simp only[Ak];simp(disch:=omega)only[ZZ,simprocAttr,rch,PX,AG,AC,arX.ca,arX.H1,AW.c,AL,Bk];simp[Qwf]
def wkX.ca(a:AW):List AV:=[.im (.ref (AW.c a))]
def Zd(a:AW):List Ba:=B8 (λp=>FV (K6 a.Sys (Cl a.Tl)) p a.Sys.Set.Tiles.length) (BX (GA a.Tl))
def wkX.H1(a:AW):Ar:=[(0,(true,.arr 72 3 ((Zd a).map Ba.c)))]
def wkX.pre(a:AW):Prop:=(a.Tl.length<=1000/\ ∀x∈a.Tl,GI x.1)/\BG a.Sys.Set/\aE a.Sys.Set (Cl a.Tl)/\1<=a.Sys.Temperature/\a.Sys.Temperature<=16/\a.Sys.Set.Tiles.length<=160
def wkX.row:Ax:=AE wkX.ca (λ_=>[]) 0 wkX.pre (λ_=>false) (λ_=> .own 0) wkX.H1 20000
def pS(l:List (Ac×Int)):(BX (GA l)).length<=l.length*5:=by
 refine BR ?_ (KS l);have h:=Ln (C7 (GA l)) (C7 (GA l)).length;rwa [qG,cX] at h
def wkX.ok:AA 148 wkX.row:=by
 refine Hd (tC arX.ok (tC tbX.ok tN)) Tryz.func148 (exB:=λj=>j==0) (R:=λ_ r=>r= .own 0) (λ_=>rfl)
  (λa=>by simp[wkX.ca,wkX.H1,AW.c,AN,AV.bel,AD,Cg,Cx,Ag.nms,A9,AV.nms,An,hget]) (λa p hp=> ?_) (λa r h=>by subst h;exact DK.refl _) ?_
 rotate_left
 intro a z;simp only[Tryz.f148,Option.getD,wkX.ca,wkX.H1,AW.c];simp(disch:=omega)only[ZZ,simprocAttr,rch,AG,AC,wkX.ca,wkX.H1,AW.c];rotate_left
 .simp[wkX.H1] at hp;subst hp;exact .inr ⟨by omega,by omega,rfl,rfl⟩
 obtain⟨G,Q,Z,h4,h5,h6⟩:=z;have aa:=pS a.Tl;refine AE.os a [] G (λj=>by simp[An,hget]) rfl rfl ?_ ?_
 .simp(disch:=omega)only[ZZ,simprocAttr,rch,AG,AC,wkX.ca,wkX.H1,AW.c,arX.ca,CV,AW.c]
 simp(disch:=omega)only[ZZ,simprocAttr,rch,AG,AC,wkX.ca,wkX.H1,AW.c,arX.H1,sub];refine AE.os (a,BX (GA a.Tl),a) [1] ⟨Q,Z,AF _,h4,h5,by have:=G.1;simp only;omega,h6⟩ (λj=> ?_) rfl rfl ?_ ?_
 .simp only[An,tbX.H0,hget];by_cases O:j=0
  .subst O;simp
  .have:(0==j)=false:=by simpa using λh=>O h.symm
   rw[this];simp;omega
 .simp(disch:=omega)only[ZZ,simprocAttr,rch,AG,AC,wkX.ca,wkX.H1,AW.c,tbX.ca,tbX.H0,CV,Cz,AW.c]
  try exact⟨rfl,rfl⟩
 simp(disch:=omega)only[ZZ,simprocAttr,rch,AG,AC,wkX.ca,wkX.H1,AW.c,tbX.H1,sub,Cz,D4];refine⟨[],[(0,some 9001)],⟨[(2,.own 0)],[(0,(true,.arr 72 3 ((Zd a).map Ba.c)))],1⟩,?_,by simp[ZG],by simp,?_⟩
 .simp only[Ak];simp(disch:=omega)only[ZZ,simprocAttr,rch,AG,AC,wkX.ca,wkX.H1,AW.c,AL,Bk];rfl
 .simp(disch:=omega)only[ZZ,simprocAttr,rch,AG,AC,wkX.ca,wkX.H1,AW.c,wkX.H1]
def MY{s:Am}{a:Ab}{o:Ba}(z:Fy s.Set a)(h:Es s a o=true):o.At∈BW a a.Tiles.length:=by
 simp only[Es,Bf,AO,Bo] at h;have G:Db ⟨s.Set,s.Seed,1⟩ a o=true:=by
  simp only[Db,Bf,AO,Bo];exact⟨h.1,h.2.1,h.2.2.1,h.2.2.2.1⟩
 have:=R3 (s:=⟨s.Set,s.Seed,1⟩) (Qe 1) z G
 rw[CY,B8,V5] at this;obtain⟨p,hp,O⟩:=this;obtain⟨t,_,rfl⟩:=BI.1 O;exact hp
def PH{s:Am}{a:Ab}(G:Fy s.Set a){o:Ba}:o∈N2 s a↔Es s a o=true:=by
 rw[N2,B8,V5];constructor
 .rintro⟨p,_,Q⟩;obtain⟨t,Z,rfl⟩:=BI.1 Q;obtain⟨k,_,rfl,O⟩:=QB.1 Z;exact O
 .intro h;refine⟨o.At,MY G h,BI.2 ⟨o.Tile,?_,rfl⟩⟩;have z:=h;simp only[Es,Bf,AO,Bo] at z;have e:((o.Tile.toNat:Nat):Int)=o.Tile:=uF z.2.1.1;refine QB.2 ⟨o.Tile.toNat,by omega,e.symm,?_⟩;rw[e];exact h
def PG(s:Am){b:Ab}(Q:b.Tiles.length<=500)(z:s.Set.Tiles.length<=160):(N2 s b).length<=320000:=by
 have G:=Io (g:=λp=>FV (Es s b) p s.Set.Tiles.length) (m:=160) (λp=>BR (J9 _ p _) z) (BW b b.Tiles.length);have Z:=Nw b b.Tiles.length;have O:(BW b b.Tiles.length).length*160<=2000*160:=FS _ (by omega);exact BR G O
structure G2(s:Am)(f:Nat)(L V D:List Ab):Prop where
 srt:Ek L
 rch: ∀a∈L,F6 s f a
 gd: ∀a∈L,good s a
 sd:s.Seed∈L
 vin: ∀a∈V,a∈L
 vnd:V.Nodup
 cl: ∀a∈L,a∈D\/(a.Tiles.length<500/\ ∀b∈DH s a,b∈L)
def G2.len{s:Am}{f:Nat}{L V D:List Ab}(h:G2 s f L V D):V.length<=L.length:=cW h.vnd h.vin
def G2.put{s:Am}{f:Nat}{L V D:List Ab}(h:G2 s f L V D){x:Ab}(hf:F6 s f x)(hg:good s x):
 G2 s f (Ca L x).1 (if (Ca L x).2=true then V++[x] else V) (if (Ca L x).2=true then D++[x] else D):=by
 by_cases Z:x∈L
 .have e:Ca L x=(L,false):=by simp only[Ca,Ai Z]
  rw[e];exact h
 .have e:(Ca L x).2=true:=by simp only[Ca,Ad Z]
  rw[Ai e,Ai e];have G:=cU L x;refine⟨Qauj h.srt x,λa z=> ?_,λa z=> ?_,(G _).2 (.inl h.sd),λa z=> ?_,?_,λa z=> ?_⟩
  .rcases (G a).1 z with z|rfl
   .exact h.rch a z
   .exact hf
  .rcases (G a).1 z with z|rfl
   .exact h.gd a z
   .exact hg
  .rcases Bp.1 z with z|z
   .exact (G a).2 (.inl (h.vin a z))
   .exact (G a).2 (.inr (B4.1 z))
  .rw[Rg];refine⟨h.vnd,by simp,λa z b Q e=>Z ?_⟩;rw[B4.1 Q] at e;rw[<-e];exact h.vin a z
  .rcases (G a).1 z with z|rfl
   .rcases h.cl a z with O|⟨O,h2⟩
    .exact .inl (Bp.2 (.inl O))
    .exact .inr ⟨O,λb Q=>(G b).2 (.inl (h2 b Q))⟩
   .exact .inl (by simp)
def bD(s:Am)(f:Nat)(L:List Ab):Prop:= ∀g,g+1=f-> ∀a,F6 s g a-> ∀o,Es s a o=true->Br a o.At o.Tile∈L
def bD.mono{s:Am}{f:Nat}{L M:List Ab}(h:bD s f L)(O: ∀a∈L,a∈M):bD s f M:=λg G a z o Q=>O _ (h g G a z o Q)
def G2.all{s:Am}{f:Nat}{L V:List Ab}(h:G2 s f L V [])(Q:bD s f L){a:Ab}(G:F6 s f a):a∈L:=
 Kh h.sd (λa G b O=>(h.cl a G).elim (λz=>by cases z) λz=>z.2 b O) Q G
def G2.done{s:Am}{f:Nat}{most:Int}{L V:List Ab}(h:G2 s f L V [])(Q:bD s f L)(O:(L.length:Int)<=most):ftyS s f most=(L,0):=
 L6 ⟨h.srt,λa=>⟨h.rch a,h.all Q⟩,O,λa G=>(h.cl a G).elim (λz=>by cases z) λz=>z.1⟩
def G2.full{s:Am}{f g:Nat}{most:Int}{L V D:List Ab}(h:G2 s g L V D)(z:g<=f)(G:most<L.length\/ ∃a∈L,500<=a.Tiles.length):ftyS s f most=([],4):=
 qC z (dF h.srt) h.rch G
def G2.next{s:Am}{f:Nat}{L V:List Ab}{i:Nat}{a:Ab}(h:G2 s f L V (V.drop i))(G:V[i]? =some a)(O:a.Tiles.length<500)(hn: ∀b∈DH s a,b∈L):G2 s f L V (V.drop (i+1)):=by
 refine⟨h.srt,h.rch,h.gd,h.sd,h.vin,h.vnd,λx Q=> ?_⟩;rcases h.cl x Q with z|z
 .rw[E5 G] at z;rcases Bx.1 z with rfl|z
  .exact .inr ⟨O,hn⟩
  .exact .inl z
 .exact .inr z
def G2.lev{s:Am}{f:Nat}{L V:List Ab}(h:G2 s f L V []):G2 s (f+1) L [] []:=
 ⟨h.srt,λa z=>(h.rch a z).succ,h.gd,h.sd,(λa z=>by cases z),List.Pairwise.nil,h.cl⟩
end Go.Ae
