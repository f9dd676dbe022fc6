/- Lemmas. Conditions: none. -/
import Derived.Test.YtelbgmfdnnljoaaGreatDoorP05
import Derived.KernelRfl
set_option linter.all false
set_option maxHeartbeats 8000000
set_option maxRecDepth 100000
namespace Go.Ae
def NF{α β:Type}(f:α->List β)(l:List α)(i:Nat)(K:List β->Prop):Jx (l.map f) i K= ∀x,l[i]? =some x->K (f x):=by
 apply propext;unfold Jx;constructor
 .intro h x z;exact h (f x) (by simp[z])
 .intro h row G;simp only[Dt,Dl] at G;obtain⟨x,z,rfl⟩:=G;exact h x z
def Qd{α β:Type}(g:List β->Bool)(f:α->List β)(l:List α):Bl g (l.map f)= ∀x∈l,g (f x)=true:=by
 apply propext;unfold Bl;simp
def VE{β:Type}(g:List β->Bool):Bl g []=True:=by
 simp[Bl]
def V7{β:Type}(g:List β->Bool)(r:List β)(l:List (List β)):Bl g (r::l)=(g r=true/\Bl g l):=by
 simp[Bl]
def VD{β:Type}(g:List β->Bool)(a b:List (List β)):Bl g (a++b)=(Bl g a/\Bl g b):=by
 apply propext;simp only[Bl,Bz];constructor
 .exact λh=>⟨λr z=>h r (.inl z),λr z=>h r (.inr z)⟩
 .rintro⟨G,O⟩ r (z|z)
  .exact G r z
  .exact O r z
def Qc{α:Type}(l:List α):(∀x∈l,True)=True:=by simp
def Qqj: ∀(l:List Nat),Jz l []=true
 |[]=>rfl
 |x::r=>by simp[Jz,Qqj r]
def Tt(h:Nat->Option Am):DV h []=[]:=rfl
def OI(h:Nat->Option Am)(x:AV)(r:List AV):DV h (x::r)=Ab h 9 x++DV h r:=by simp[DV]
def AO{p:Prop}[Decidable p]{A B:Prop}:(if p then A else B)↔((p->A)/\(¬p->B)):=by
 by_cases h:p<;>simp[h]
def AA{x:Int}(z: -9223372036854775808<=x)(G:x<=9223372036854775807):IntKind.wrap .i64 x=x:=IntWalk.i64_in x ⟨z,G⟩
def La{α:Type}{rows:List (List α)}{i:Nat}{K:List α->Prop}{r:List α}(h:rows[i]? =some r)(G:K r):Jx rows i K:=by
 intro r' z;rw[h] at z;exact AB z▸G
def Js{P:Nat->Prop}{n k:Nat}(z:k<n)(hn:n<=140737488355328)(h:P (k+1)): ∃b':{k:Nat//P k},n - b'.val<n - k/\IntKind.wrap .i64 ((k:Int)+1)=b'.val:=by
 refine⟨⟨k+1,h⟩,by simp only;omega,?_⟩;rw[AA (by omega) (by omega)];simp only;omega
def WF(a b:Nat):Nat.blt a b=decide (a<b):=by
 rw[jK];simp
def WE(a b:Nat):Nat.ble a b=decide (a<=b):=by
 rw[jK];simp
def Ak(n:Int):List D:=[.int .i64 n]
def D0:List D->Option Int
 |[.int .i64 n]=>some n
 |_=>none
def GH: ∀ds x,D0 ds=some x->Da ds (Ak x):=by
 intro ds x h;unfold D0 at h;split at h
 .simp only[AM] at h;subst h;exact⟨Le.refl _,trivial⟩
 .cases h
def eM(x:Int):D0 (Ak x)=some x:=rfl
def iP(l:List Int):AU D0 (l.map Ak)=some l:=Qq eM l
def HW(n:ByteArray):List D:=[.str n]
def Ym:List D->Option ByteArray
 |[.str n]=>some n
 |_=>none
def gB(x:ByteArray):Ym (HW x)=some x:=rfl
def gA(l:List ByteArray):AU Ym (l.map HW)=some l:=Qq gB l
def CK(x:List Int):List D:=[.sl false 1 (x.map Ak)]
def Vf:List D->Option (List Int)
 |[.sl _ _ rows]=>AU D0 rows
 |_=>none
def oG: ∀ds x,Vf ds=some x->Da ds (CK x):=by
 intro ds x h;unfold Vf at h;split at h
 .exact⟨Gb (FK GH _ _ h) (by simp[Ak]),trivial⟩
 .cases h
def XY(x:List Int):Vf (CK x)=some x:=iP x
def MG(l:List (List Int)):AU Vf (l.map CK)=some l:=Qq XY l
def DW:D->Option Int
 | .int .i64 n=>some n
 |_=>none
def ZQ: ∀d x,DW d=some x->Le d (.int .i64 x):=by
 intro d x h;unfold DW at h;split at h
 .simp only[AM] at h;subst h;exact Le.refl _
 .cases h
def HY:D->Option ByteArray
 | .str n=>some n
 |_=>none
def Y1: ∀d x,HY d=some x->Le d (.str x):=by
 intro d x h;unfold HY at h;split at h
 .simp only[AM] at h;subst h;exact Le.refl _
 .cases h
def V2:D->Option Bool
 | .bool n=>some n
 |_=>none
def mN: ∀d x,V2 d=some x->Le d (.bool x):=by
 intro d x h;unfold V2 at h;split at h
 .simp only[AM] at h;subst h;exact Le.refl _
 .cases h
def Vw{A:Type}(f:List D->Option A):D->Option (List A)
 | .sl _ _ rows=>AU f rows
 |_=>none
def UA{A:Type}{f:List D->Option A}{e:A->List D}{k:Nat}(hf: ∀ds x,f ds=some x->Da ds (e x))(z: ∀x,(e x).length=k): ∀d x,Vw f d=some x->Le d (.sl false k (x.map e)):=by
 intro d x h;unfold Vw at h;split at h
 .exact Gb (FK hf _ _ h) (by simp only[Bn];rintro r ⟨y,_,rfl⟩;exact z y)
 .cases h
def EQ{A:Type}(f:List D->Option A):D->Option A
 | .agg z=>f z
 |_=>none
def MY{A:Type}{f:List D->Option A}{e:A->List D}(hf: ∀ds x,f ds=some x->Da ds (e x)): ∀d x,EQ f d=some x->Le d (.agg (e x)):=by
 intro d x h;unfold EQ at h;split at h
 .exact K3 (hf _ _ h)
 .cases h
def gU{A B:Type}(f:D->Option A)(g:D->Option B):D->Option (A×B)
 | .tup [x,y]=>(f x).bind λa=>(g y).map λb=>(a,b)
 |_=>none
def Qbz{A B:Type}{f:D->Option A}{g:D->Option B}{e:A->D}{e':B->D}(hf: ∀d x,f d=some x->Le d (e x))(O: ∀d x,g d=some x->Le d (e' x)): ∀d (x:A×B),gU f g d=some x->Le d (.tup [e x.1,e' x.2]):=by
 intro d x h;unfold gU at h;split at h
 .simp only[GD,Dl] at h;obtain⟨a,z,b,G,rfl⟩:=h;exact K4 ⟨hf _ _ z,O _ _ G,trivial⟩
 .cases h
def Jp{A B E:Type}(f:D->Option A)(g:D->Option B)(k:D->Option E):D->Option (A×B×E)
 | .tup [x,y,z]=>(f x).bind λa=>(g y).bind λb=>(k z).map λc=>(a,b,c)
 |_=>none
def UB{A B E:Type}{f:D->Option A}{g:D->Option B}{k:D->Option E}{e:A->D}{e':B->D}{e'':E->D}(hf: ∀d x,f d=some x->Le d (e x))(Q: ∀d x,g d=some x->Le d (e' x))(Z: ∀d x,k d=some x->Le d (e'' x)):
 ∀d (x:A×B×E),Jp f g k d=some x->Le d (.tup [e x.1,e' x.2.1,e'' x.2.2]):=by
 intro d x h;unfold Jp at h;split at h
 .simp only[GD,Dl] at h;obtain⟨a,z,b,G,c,O,rfl⟩:=h;exact K4 ⟨hf _ _ z,Q _ _ G,Z _ _ O,trivial⟩
 .cases h
def Kt{A B:Type}(f:D->Option A)(g:D->Option B):List (D×D)->Option (List (A×B))
 |[]=>some []
 |(x,y)::r=>(f x).bind λa=>(g y).bind λb=>(Kt f g r).map λl=>(a,b)::l
def uA:List (D×D)->List (D×D)->Prop
 |[],[]=>True
 |(x,y)::r,(x',y')::r'=>x=x'/\Le y y'/\uA r r'
 |[],_::_=>False
 |_::_,[]=>False
def uA.fit{G:KT}: ∀{a b:List (D×D)},uA a b->(∀e∈a,G.fit e.1=true)-> ∀e∈b,G.fit e.1=true
 |[],[],_,h=>h
 |(x,y)::r,(x',y')::r',O,h=>by
  obtain⟨rfl,_,Q⟩:=O;intro e z;rcases Bt.1 z with rfl|z
  .exact h (x,y) (BQ ..)
  .exact uA.fit Q (λe z=>h e (BK _ z)) e z
 |[],_::_,h,_=>h.elim
 |_::_,[],h,_=>h.elim
def Qs4{A B:Type}{f:D->Option A}{g:D->Option B}{m:A×B->D×D}(h: ∀p,f (m p).1=some p.1/\g (m p).2=some p.2): ∀(l:List (A×B)),Kt f g (l.map m)=some l
 |[]=>rfl
 |p::r=>by
  simp only[Bb,Kt,(h p).1,(h p).2,GE,Qs4 h r,D7]
structure A7 where
 X:Int
 Y:Int
 deriving DecidableEq
def A7.c(x:A7):List D:=[.int .i64 x.X,.int .i64 x.Y]
def A7.d:List D->Option A7
 |[.int .i64 z,.int .i64 G]=>some ⟨z,G⟩
 |_=>none
def A7.d_le: ∀ds x,A7.d ds=some x->Da ds (A7.c x):=by
 intro ds x h;unfold A7.d at h;split at h
 .simp only[AM] at h;subst h;exact⟨Le.refl _,Le.refl _,trivial⟩
 .cases h
def A7.d_c(x:A7):A7.d (A7.c x)=some x:=by
 simp only[A7.c,A7.d]
def A7.d_R(l:List A7):AU A7.d (l.map A7.c)=some l:=Qq A7.d_c l
def A7.eta(x:A7):(⟨x.X,x.Y⟩:A7)=x:=rfl
def A7.len(x:A7):(A7.c x).length=2:=rfl
structure Al where
 At:A7
 Tile:Int
 deriving DecidableEq
def Al.c(x:Al):List D:=[.int .i64 x.At.X,.int .i64 x.At.Y,.int .i64 x.Tile]
def Al.d:List D->Option Al
 |[.int .i64 z,.int .i64 G,.int .i64 O]=>some ⟨⟨z,G⟩,O⟩
 |_=>none
def Al.d_le: ∀ds x,Al.d ds=some x->Da ds (Al.c x):=by
 intro ds x h;unfold Al.d at h;split at h
 .simp only[AM] at h;subst h;exact⟨Le.refl _,Le.refl _,Le.refl _,trivial⟩
 .cases h
def Al.d_c(x:Al):Al.d (Al.c x)=some x:=by
 simp only[Al.c,Al.d]
def Al.d_R(l:List Al):AU Al.d (l.map Al.c)=some l:=Qq Al.d_c l
def Al.eta(x:Al):(⟨x.At,x.Tile⟩:Al)=x:=rfl
def Al.len(x:Al):(Al.c x).length=3:=rfl
structure A9 where
 Tiles:List Al
 deriving DecidableEq
def A9.c(x:A9):List D:=[.sl false 3 (x.Tiles.map Al.c)]
def A9.d:List D->Option A9
 |[.sl _ _ z]=>(AU Al.d z).bind λG=>some ⟨G⟩
 |_=>none
def A9.d_le: ∀ds x,A9.d ds=some x->Da ds (A9.c x):=by
 intro ds x h;unfold A9.d at h;split at h
 .simp only[GD,AM] at h;obtain⟨z,h0,rfl⟩:=h;exact⟨Gb (FK Al.d_le _ _ h0) (by simp[Al.c]),trivial⟩
 .cases h
def A9.d_c(x:A9):A9.d (A9.c x)=some x:=by
 simp only[A9.c,A9.d,Al.d_R,GE]
def A9.eta(x:A9):(⟨x.Tiles⟩:A9)=x:=rfl
def A9.len(x:A9):(A9.c x).length=1:=rfl
structure Ad where
 Name:ByteArray
 Strength:Int
 deriving DecidableEq
def Ad.c(x:Ad):List D:=[.str x.Name,.int .i64 x.Strength]
def Ad.d:List D->Option Ad
 |[.str z,.int .i64 G]=>some ⟨z,G⟩
 |_=>none
def Ad.d_le: ∀ds x,Ad.d ds=some x->Da ds (Ad.c x):=by
 intro ds x h;unfold Ad.d at h;split at h
 .simp only[AM] at h;subst h;exact⟨Le.refl _,Le.refl _,trivial⟩
 .cases h
def Ad.d_c(x:Ad):Ad.d (Ad.c x)=some x:=by
 simp only[Ad.c,Ad.d]
def Ad.d_R(l:List Ad):AU Ad.d (l.map Ad.c)=some l:=Qq Ad.d_c l
def Ad.eta(x:Ad):(⟨x.Name,x.Strength⟩:Ad)=x:=rfl
def Ad.len(x:Ad):(Ad.c x).length=2:=rfl
structure Tile where
 Name:ByteArray
 Sides:List Int
 deriving DecidableEq
def Tile.c(x:Tile):List D:=[.str x.Name,.sl false 1 (x.Sides.map Ak)]
def Tile.d:List D->Option Tile
 |[.str z,.sl _ _ G]=>(AU D0 G).bind λO=>some ⟨z,O⟩
 |_=>none
def Tile.d_le: ∀ds x,Tile.d ds=some x->Da ds (Tile.c x):=by
 intro ds x h;unfold Tile.d at h;split at h
 .simp only[GD,AM] at h;obtain⟨G,z,rfl⟩:=h;exact⟨Le.refl _,Gb (FK GH _ _ z) (by simp[Ak]),trivial⟩
 .cases h
def Tile.d_c(x:Tile):Tile.d (Tile.c x)=some x:=by
 simp only[Tile.c,Tile.d,iP,GE]
def Tile.d_R(l:List Tile):AU Tile.d (l.map Tile.c)=some l:=Qq Tile.d_c l
def Tile.eta(x:Tile):(⟨x.Name,x.Sides⟩:Tile)=x:=rfl
def Tile.len(x:Tile):(Tile.c x).length=2:=rfl
structure Au where
 Glues:List Ad
 Tiles:List Tile
 deriving DecidableEq
def Au.c(x:Au):List D:=[.sl false 2 (x.Glues.map Ad.c),.sl false 2 (x.Tiles.map Tile.c)]
def Au.d:List D->Option Au
 |[.sl _ _ z,.sl _ _ G]=>(AU Ad.d z).bind λO=>(AU Tile.d G).bind λQ=>some ⟨O,Q⟩
 |_=>none
def Au.d_le: ∀ds x,Au.d ds=some x->Da ds (Au.c x):=by
 intro ds x h;unfold Au.d at h;split at h
 .simp only[GD,AM] at h;obtain⟨G,h0,O,z,rfl⟩:=h;exact⟨Gb (FK Ad.d_le _ _ h0) (by simp[Ad.c]),Gb (FK Tile.d_le _ _ z) (by simp[Tile.c]),trivial⟩
 .cases h
def Au.eta(x:Au):(⟨x.Glues,x.Tiles⟩:Au)=x:=rfl
def Au.len(x:Au):(Au.c x).length=2:=rfl
structure AF where
 Set:Au
 Seed:A9
 Temperature:Int
 deriving DecidableEq
def AF.c(x:AF):List D:=[.sl false 2 (x.Set.Glues.map Ad.c),.sl false 2 (x.Set.Tiles.map Tile.c),.sl false 3 (x.Seed.Tiles.map Al.c),.int .i64 x.Temperature]
def AF.d:List D->Option AF
 |[.sl _ _ z,.sl _ _ G,.sl _ _ O,.int .i64 Q]=>(AU Ad.d z).bind λZ=>(AU Tile.d G).bind λy1=>(AU Al.d O).bind λy2=>some ⟨⟨Z,y1⟩,⟨y2⟩,Q⟩
 |_=>none
def AF.d_le: ∀ds x,AF.d ds=some x->Da ds (AF.c x):=by
 intro ds x h;unfold AF.d at h;split at h
 .simp only[GD,AM] at h;obtain⟨O,h0,Q,z,Z,G,rfl⟩:=h;exact⟨Gb (FK Ad.d_le _ _ h0) (by simp[Ad.c]),Gb (FK Tile.d_le _ _ z) (by simp[Tile.c]),Gb (FK Al.d_le _ _ G) (by simp[Al.c]),Le.refl _,trivial⟩
 .cases h
def AF.d_c(x:AF):AF.d (AF.c x)=some x:=by
 simp only[AF.c,AF.d,Ad.d_R,Al.d_R,Tile.d_R,GE]
def AF.eta(x:AF):(⟨x.Set,x.Seed,x.Temperature⟩:AF)=x:=rfl
def AF.len(x:AF):(AF.c x).length=4:=rfl
structure D4 where
 At:A7
 Tile:Int
 deriving DecidableEq
def D4.c(x:D4):List D:=[.int .i64 x.At.X,.int .i64 x.At.Y,.int .i64 x.Tile]
def D4.d:List D->Option D4
 |[.int .i64 z,.int .i64 G,.int .i64 O]=>some ⟨⟨z,G⟩,O⟩
 |_=>none
def D4.d_c(x:D4):D4.d (D4.c x)=some x:=by
 simp only[D4.c,D4.d]
def D4.d_R(l:List D4):AU D4.d (l.map D4.c)=some l:=Qq D4.d_c l
def D4.eta(x:D4):(⟨x.At,x.Tile⟩:D4)=x:=rfl
def D4.len(x:D4):(D4.c x).length=3:=rfl
structure I7 where
 Big:AF
 Small:AF
 Scale:Int
 Labels:List Int
 deriving DecidableEq
def I7.c(x:I7):List D:=[.sl false 2 (x.Big.Set.Glues.map Ad.c),.sl false 2 (x.Big.Set.Tiles.map Tile.c),.sl false 3 (x.Big.Seed.Tiles.map Al.c),.int .i64 x.Big.Temperature,.sl false 2 (x.Small.Set.Glues.map Ad.c),.sl false 2 (x.Small.Set.Tiles.map Tile.c),.sl false 3 (x.Small.Seed.Tiles.map Al.c),.int .i64 x.Small.Temperature,.int .i64 x.Scale,.sl false 1 (x.Labels.map Ak)]
def I7.d:List D->Option I7
 |[.sl _ _ z,.sl _ _ G,.sl _ _ O,.int .i64 Q,.sl _ _ Z,.sl _ _ x5,.sl _ _ x6,.int .i64 x7,.int .i64 x8,.sl _ _ x9]=>(AU Ad.d z).bind λy0=>(AU Tile.d G).bind λy1=>(AU Al.d O).bind λy2=>(AU Ad.d Z).bind λy4=>(AU Tile.d x5).bind λy5=>(AU Al.d x6).bind λy6=>(AU D0 x9).bind λy9=>some ⟨⟨⟨y0,y1⟩,⟨y2⟩,Q⟩,⟨⟨y4,y5⟩,⟨y6⟩,x7⟩,x8,y9⟩
 |_=>none
def I7.eta(x:I7):(⟨x.Big,x.Small,x.Scale,x.Labels⟩:I7)=x:=rfl
def I7.len(x:I7):(I7.c x).length=10:=rfl
structure Ag where
 A:Int
 B:Int
 Strength:Int
 deriving DecidableEq
def Ag.c(x:Ag):List D:=[.int .i64 x.A,.int .i64 x.B,.int .i64 x.Strength]
def Ag.d:List D->Option Ag
 |[.int .i64 z,.int .i64 G,.int .i64 O]=>some ⟨z,G,O⟩
 |_=>none
def Ag.d_le: ∀ds x,Ag.d ds=some x->Da ds (Ag.c x):=by
 intro ds x h;unfold Ag.d at h;split at h
 .simp only[AM] at h;subst h;exact⟨Le.refl _,Le.refl _,Le.refl _,trivial⟩
 .cases h
def Ag.d_c(x:Ag):Ag.d (Ag.c x)=some x:=by
 simp only[Ag.c,Ag.d]
def Ag.d_R(l:List Ag):AU Ag.d (l.map Ag.c)=some l:=Qq Ag.d_c l
def Ag.eta(x:Ag):(⟨x.A,x.B,x.Strength⟩:Ag)=x:=rfl
def Ag.len(x:Ag):(Ag.c x).length=3:=rfl
def uC(p:A7×Int):D×D:=(.agg (A7.c p.1),.int .i64 p.2)
def Qmt(l:List (A7×Int)):Kt (EQ A7.d) DW (l.map uC)=some l:=Qs4 (λp=>⟨by simp[uC,DW,HY,EQ,A7.d_c],by simp[uC,DW,HY,Vw,EQ]⟩) l
def uB(p:A7×(List Int)):D×D:=(.agg (A7.c p.1),.sl false 1 (p.2.map Ak))
def Qk8(l:List (A7×(List Int))):Kt (EQ A7.d) (Vw D0) (l.map uB)=some l:=Qs4 (λp=>⟨by simp[uB,DW,HY,EQ,A7.d_c],by simp[uB,DW,HY,Vw,EQ,iP]⟩) l
structure KQ where
 Sys:AF
 Tl:List (A7×Int)
 Op:List (A7×(List Int))
 deriving DecidableEq
def KQ.c(x:KQ):List D:=[.sl false 2 (x.Sys.Set.Glues.map Ad.c),.sl false 2 (x.Sys.Set.Tiles.map Tile.c),.sl false 3 (x.Sys.Seed.Tiles.map Al.c),.int .i64 x.Sys.Temperature,.mp ⟨true,[.int .i64,.int .i64]⟩ (x.Tl.map uC),.mp ⟨true,[.int .i64,.int .i64]⟩ (x.Op.map uB)]
def KQ.d:List D->Option KQ
 |[.sl _ _ z,.sl _ _ G,.sl _ _ O,.int .i64 Q,.mp ⟨true,[.int .i64,.int .i64]⟩ Z,.mp ⟨true,[.int .i64,.int .i64]⟩ x5]=>(AU Ad.d z).bind λy0=>(AU Tile.d G).bind λy1=>(AU Al.d O).bind λy2=>(Kt (EQ A7.d) DW Z).bind λy4=>(Kt (EQ A7.d) (Vw D0) x5).bind λy5=>some ⟨⟨⟨y0,y1⟩,⟨y2⟩,Q⟩,y4,y5⟩
 |_=>none
def KQ.eta(x:KQ):(⟨x.Sys,x.Tl,x.Op⟩:KQ)=x:=rfl
def KQ.len(x:KQ):(KQ.c x).length=6:=rfl
structure Bc where
 Cnt:Int
 Bonds:List Ag
 At:List (List Int)
 Flow:List Int
 deriving DecidableEq
def Bc.c(x:Bc):List D:=[.int .i64 x.Cnt,.sl false 3 (x.Bonds.map Ag.c),.sl false 1 (x.At.map CK),.sl false 1 (x.Flow.map Ak)]
def Bc.d:List D->Option Bc
 |[.int .i64 z,.sl _ _ G,.sl _ _ O,.sl _ _ Q]=>(AU Ag.d G).bind λZ=>(AU Vf O).bind λy2=>(AU D0 Q).bind λy3=>some ⟨z,Z,y2,y3⟩
 |_=>none
def Bc.d_le: ∀ds x,Bc.d ds=some x->Da ds (Bc.c x):=by
 intro ds x h;unfold Bc.d at h;split at h
 .simp only[GD,AM] at h;obtain⟨Q,z,Z,G,y3,O,rfl⟩:=h;exact⟨Le.refl _,Gb (FK Ag.d_le _ _ z) (by simp[Ag.c]),Gb (FK oG _ _ G) (by simp[CK]),Gb (FK GH _ _ O) (by simp[Ak]),trivial⟩
 .cases h
def Bc.eta(x:Bc):(⟨x.Cnt,x.Bonds,x.At,x.Flow⟩:Bc)=x:=rfl
def Bc.len(x:Bc):(Bc.c x).length=4:=rfl
structure Be where
 Room:List (List Int)
 Flow:List (List Int)
 deriving DecidableEq
def Be.c(x:Be):List D:=[.sl false 1 (x.Room.map CK),.sl false 1 (x.Flow.map CK)]
def Be.d:List D->Option Be
 |[.sl _ _ z,.sl _ _ G]=>(AU Vf z).bind λO=>(AU Vf G).bind λQ=>some ⟨O,Q⟩
 |_=>none
def Be.d_le: ∀ds x,Be.d ds=some x->Da ds (Be.c x):=by
 intro ds x h;unfold Be.d at h;split at h
 .simp only[GD,AM] at h;obtain⟨G,h0,O,z,rfl⟩:=h;exact⟨Gb (FK oG _ _ h0) (by simp[CK]),Gb (FK oG _ _ z) (by simp[CK]),trivial⟩
 .cases h
def Be.d_c(x:Be):Be.d (Be.c x)=some x:=by
 simp only[Be.c,Be.d,MG,GE]
def Be.eta(x:Be):(⟨x.Room,x.Flow⟩:Be)=x:=rfl
def Be.len(x:Be):(Be.c x).length=2:=rfl
structure EB where
 Kind:Int
 Sequence:List D4
 Other:List D4
 Part:List Int
 Flows:List (List Int)
 deriving DecidableEq
def EB.c(x:EB):List D:=[.int .i64 x.Kind,.sl false 3 (x.Sequence.map D4.c),.sl false 3 (x.Other.map D4.c),.sl false 1 (x.Part.map Ak),.sl false 1 (x.Flows.map CK)]
def EB.d:List D->Option EB
 |[.int .i64 z,.sl _ _ G,.sl _ _ O,.sl _ _ Q,.sl _ _ Z]=>(AU D4.d G).bind λy1=>(AU D4.d O).bind λy2=>(AU D0 Q).bind λy3=>(AU Vf Z).bind λy4=>some ⟨z,y1,y2,y3,y4⟩
 |_=>none
def EB.eta(x:EB):(⟨x.Kind,x.Sequence,x.Other,x.Part,x.Flows⟩:EB)=x:=rfl
def EB.len(x:EB):(EB.c x).length=5:=rfl
structure E9 where
 Num:Int
 Den:Int
 deriving DecidableEq
def E9.c(x:E9):List D:=[.int .i64 x.Num,.int .i64 x.Den]
def E9.d:List D->Option E9
 |[.int .i64 z,.int .i64 G]=>some ⟨z,G⟩
 |_=>none
def E9.eta(x:E9):(⟨x.Num,x.Den⟩:E9)=x:=rfl
def E9.len(x:E9):(E9.c x).length=2:=rfl
structure JJ where
 Sys:AF
 Seq:List D4
 End:A9
 Inputs:List Int
 Strength:List Int
 deriving DecidableEq
def JJ.c(x:JJ):List D:=[.sl false 2 (x.Sys.Set.Glues.map Ad.c),.sl false 2 (x.Sys.Set.Tiles.map Tile.c),.sl false 3 (x.Sys.Seed.Tiles.map Al.c),.int .i64 x.Sys.Temperature,.sl false 3 (x.Seq.map D4.c),.sl false 3 (x.End.Tiles.map Al.c),.sl false 1 (x.Inputs.map Ak),.sl false 1 (x.Strength.map Ak)]
def JJ.d:List D->Option JJ
 |[.sl _ _ z,.sl _ _ G,.sl _ _ O,.int .i64 Q,.sl _ _ Z,.sl _ _ x5,.sl _ _ x6,.sl _ _ x7]=>(AU Ad.d z).bind λy0=>(AU Tile.d G).bind λy1=>(AU Al.d O).bind λy2=>(AU D4.d Z).bind λy4=>(AU Al.d x5).bind λy5=>(AU D0 x6).bind λy6=>(AU D0 x7).bind λy7=>some ⟨⟨⟨y0,y1⟩,⟨y2⟩,Q⟩,y4,⟨y5⟩,y6,y7⟩
 |_=>none
def JJ.eta(x:JJ):(⟨x.Sys,x.Seq,x.End,x.Inputs,x.Strength⟩:JJ)=x:=rfl
def JJ.len(x:JJ):(JJ.c x).length=8:=rfl
end Go.Ae
