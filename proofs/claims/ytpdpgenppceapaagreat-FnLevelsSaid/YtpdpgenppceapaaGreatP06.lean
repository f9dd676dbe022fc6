/- Lemmas. Conditions: none. -/
import Derived.Test.YtpdpgenppceapaaGreatP05
import Derived.KernelRfl
set_option linter.all false
set_option maxHeartbeats 8000000
set_option maxRecDepth 100000
namespace Go.Ae
def Po{α β:Type}(f:α->List β)(l:List α)(i:Nat)(K:List β->Prop):Ky (l.map f) i K= ∀x,l[i]? =some x->K (f x):=by
 apply propext;unfold Ky;constructor
 .intro h x z;exact h (f x) (by simp[z])
 .intro h row G;simp only[DX,DN] at G;obtain⟨x,z,rfl⟩:=G;exact h x z
def RW{α β:Type}(g:List β->Bool)(f:α->List β)(l:List α):B7 g (l.map f)= ∀x∈l,g (f x)=true:=by
 apply propext;unfold B7;simp
def OO{β:Type}(g:List β->Bool):B7 g []=True:=by
 simp[B7]
def OI{β:Type}(g:List β->Bool)(r:List β)(l:List (List β)):B7 g (r::l)=(g r=true/\B7 g l):=by
 simp[B7]
def OL{β:Type}(g:List β->Bool)(a b:List (List β)):B7 g (a++b)=(B7 g a/\B7 g b):=by
 apply propext;simp only[B7,B5];constructor
 .exact λh=>⟨λr z=>h r (.inl z),λr z=>h r (.inr z)⟩
 .rintro⟨G,O⟩ r (z|z)
  .exact G r z
  .exact O r z
def RV{α:Type}(l:List α):(∀x∈l,True)=True:=by simp
def Qqj: ∀(l:List Nat),K3 l []=true
 |[]=>rfl
 |x::r=>by simp[K3,Qqj r]
def VI(h:Nat->Option Aq):G5 h []=[]:=rfl
def Q0(h:Nat->Option Aq)(x:AV)(r:List AV):G5 h (x::r)=Ab h 9 x++G5 h r:=by simp[G5]
def AQ{p:Prop}[Decidable p]{A B:Prop}:(if p then A else B)↔((p->A)/\(¬p->B)):=by
 by_cases h:p<;>simp[h]
def AF{x:Int}(z: -9223372036854775808<=x)(G:x<=9223372036854775807):IntKind.wrap .i64 x=x:=IntWalk.i64_in x ⟨z,G⟩
def dL{α:Type}{rows:List (List α)}{i:Nat}{K:List α->Prop}{r:List α}(h:rows[i]? =some r)(G:K r):Ky rows i K:=by
 intro r' z;rw[h] at z;exact A8 z▸G
def Jo{P:Nat->Prop}{n k:Nat}(z:k<n)(hn:n<=140737488355328)(h:P (k+1)): ∃b':{k:Nat//P k},n - b'.val<n - k/\IntKind.wrap .i64 ((k:Int)+1)=b'.val:=by
 refine⟨⟨k+1,h⟩,by simp only;omega,?_⟩;rw[AF (by omega) (by omega)];simp only;omega
def Zm(a b:Nat):Nat.blt a b=decide (a<b):=by
 rw[Xq];simp
def Zl(a b:Nat):Nat.ble a b=decide (a<=b):=by
 rw[Xq];simp
def Af(n:Int):List D:=[.int .i64 n]
def Dj:List D->Option Int
 |[.int .i64 n]=>some n
 |_=>none
def Ez: ∀ds x,Dj ds=some x->Dh ds (Af x):=by
 intro ds x h;unfold Dj at h;split at h
 .simp only[AP] at h;subst h;exact⟨Le.refl _,trivial⟩
 .cases h
def XQ(x:Int):Dj (Af x)=some x:=rfl
def qN(l:List Int):AX Dj (l.map Af)=some l:=Kt XQ l
def pD(n:ByteArray):List D:=[.str n]
def cE:List D->Option ByteArray
 |[.str n]=>some n
 |_=>none
def pF(x:ByteArray):cE (pD x)=some x:=rfl
def pE(l:List ByteArray):AX cE (l.map pD)=some l:=Kt pF l
def C9(x:List Int):List D:=[.sl false 1 (x.map Af)]
def Pm:List D->Option (List Int)
 |[.sl _ _ rows]=>AX Dj rows
 |_=>none
def Xe: ∀ds x,Pm ds=some x->Dh ds (C9 x):=by
 intro ds x h;unfold Pm at h;split at h
 .exact⟨E0 (Ej Ez _ _ h) (by simp[Af]),trivial⟩
 .cases h
def Oe(x:List Int):Pm (C9 x)=some x:=qN x
def Od(l:List (List Int)):AX Pm (l.map C9)=some l:=Kt Oe l
def DU:D->Option Int
 | .int .i64 n=>some n
 |_=>none
def RZ: ∀d x,DU d=some x->Le d (.int .i64 x):=by
 intro d x h;unfold DU at h;split at h
 .simp only[AP] at h;subst h;exact Le.refl _
 .cases h
def IR:D->Option ByteArray
 | .str n=>some n
 |_=>none
def cN: ∀d x,IR d=some x->Le d (.str x):=by
 intro d x h;unfold IR at h;split at h
 .simp only[AP] at h;subst h;exact Le.refl _
 .cases h
def X9:D->Option Bool
 | .bool n=>some n
 |_=>none
def xC: ∀d x,X9 d=some x->Le d (.bool x):=by
 intro d x h;unfold X9 at h;split at h
 .simp only[AP] at h;subst h;exact Le.refl _
 .cases h
def Rn{A:Type}(f:List D->Option A):D->Option (List A)
 | .sl _ _ rows=>AX f rows
 |_=>none
def xF{A:Type}{f:List D->Option A}{e:A->List D}{k:Nat}(hf: ∀ds x,f ds=some x->Dh ds (e x))(z: ∀x,(e x).length=k): ∀d x,Rn f d=some x->Le d (.sl false k (x.map e)):=by
 intro d x h;unfold Rn at h;split at h
 .exact E0 (Ej hf _ _ h) (by simp only[BZ];rintro r ⟨y,_,rfl⟩;exact z y)
 .cases h
def EC{A:Type}(f:List D->Option A):D->Option A
 | .agg z=>f z
 |_=>none
def O1{A:Type}{f:List D->Option A}{e:A->List D}(hf: ∀ds x,f ds=some x->Dh ds (e x)): ∀d x,EC f d=some x->Le d (.agg (e x)):=by
 intro d x h;unfold EC at h;split at h
 .exact xD (hf _ _ h)
 .cases h
def pP{A B:Type}(f:D->Option A)(g:D->Option B):D->Option (A×B)
 | .tup [x,y]=>(f x).bind λa=>(g y).map λb=>(a,b)
 |_=>none
def Qbz{A B:Type}{f:D->Option A}{g:D->Option B}{e:A->D}{e':B->D}(hf: ∀d x,f d=some x->Le d (e x))(O: ∀d x,g d=some x->Le d (e' x)): ∀d (x:A×B),pP f g d=some x->Le d (.tup [e x.1,e' x.2]):=by
 intro d x h;unfold pP at h;split at h
 .simp only[F5,DN] at h;obtain⟨a,z,b,G,rfl⟩:=h;exact LB ⟨hf _ _ z,O _ _ G,trivial⟩
 .cases h
def Kp{A B E:Type}(f:D->Option A)(g:D->Option B)(k:D->Option E):D->Option (A×B×E)
 | .tup [x,y,z]=>(f x).bind λa=>(g y).bind λb=>(k z).map λc=>(a,b,c)
 |_=>none
def WK{A B E:Type}{f:D->Option A}{g:D->Option B}{k:D->Option E}{e:A->D}{e':B->D}{e'':E->D}(hf: ∀d x,f d=some x->Le d (e x))(Q: ∀d x,g d=some x->Le d (e' x))(Z: ∀d x,k d=some x->Le d (e'' x)):
 ∀d (x:A×B×E),Kp f g k d=some x->Le d (.tup [e x.1,e' x.2.1,e'' x.2.2]):=by
 intro d x h;unfold Kp at h;split at h
 .simp only[F5,DN] at h;obtain⟨a,z,b,G,c,O,rfl⟩:=h;exact LB ⟨hf _ _ z,Q _ _ G,Z _ _ O,trivial⟩
 .cases h
def Hi{A B:Type}(f:D->Option A)(g:D->Option B):List (D×D)->Option (List (A×B))
 |[]=>some []
 |(x,y)::r=>(f x).bind λa=>(g y).bind λb=>(Hi f g r).map λl=>(a,b)::l
def X6:List (D×D)->List (D×D)->Prop
 |[],[]=>True
 |(x,y)::r,(x',y')::r'=>x=x'/\Le y y'/\X6 r r'
 |[],_::_=>False
 |_::_,[]=>False
def Qxb{A B:Type}{f:D->Option A}{g:D->Option B}{z:A->D}{G:B->D}(hf: ∀d x,f d=some x->d=z x)(O: ∀d x,g d=some x->Le d (G x)): ∀(es:List (D×D)) (l:List (A×B)),Hi f g es=some l->X6 es (l.map λp=>(z p.1,G p.2))
 |[],l,h=>by
  simp only[Hi,AP] at h;subst h;trivial
 |(x,y)::r,l,h=>by
  simp only[Hi,F5,DN] at h;obtain⟨a,Q,b,Z,l',hl,rfl⟩:=h;exact⟨hf _ _ Q,O _ _ Z,Qxb hf O r l' hl⟩
def X6.rde{ok:Nat->Prop}{hp:Nat->Option Obj}: ∀{a b:List (D×D)} {es:List MapEntry},X6 a b->Ae.rde ok hp a es->Ae.rde ok hp b es
 |[],[],_,_,h=>h
 |(x,y)::r,(x',y')::r',es,Q,h=>by
  simp only[Ae.rde] at h⊢;obtain⟨e,q,rfl,z,G,O⟩:=h;obtain⟨rfl,Z,l3⟩:=Q;exact⟨e,q,rfl,z,Z _ _ _ G,X6.rde l3 O⟩
 |[],_::_,_,h,_=>h.elim
 |_::_,[],_,h,_=>h.elim
def X6.fit{G:KT}: ∀{a b:List (D×D)},X6 a b->(∀e∈a,G.fit e.1=true)-> ∀e∈b,G.fit e.1=true
 |[],[],_,h=>h
 |(x,y)::r,(x',y')::r',O,h=>by
  obtain⟨rfl,_,Q⟩:=O;intro e z;rcases BO.1 z with rfl|z
  .exact h (x,y) (Ct ..)
  .exact X6.fit Q (λe z=>h e (Cs _ z)) e z
 |[],_::_,h,_=>h.elim
 |_::_,[],h,_=>h.elim
def UL{Q:KT}{a b:List (D×D)}(h:X6 a b):Le (.mp Q a) (.mp Q b):=by
 intro ok hp v O;simp only[rd] at O⊢;obtain⟨bk,G,z,rfl,Z,h2,h3,h4,h5⟩:=O;exact⟨bk,G,z,rfl,h.fit Z,h2,h3,h.rde h4,h5⟩
def Qs4{A B:Type}{f:D->Option A}{g:D->Option B}{m:A×B->D×D}(h: ∀p,f (m p).1=some p.1/\g (m p).2=some p.2): ∀(l:List (A×B)),Hi f g (l.map m)=some l
 |[]=>rfl
 |p::r=>by
  simp only[Bm,Hi,(h p).1,(h p).2,GG,Qs4 h r,CR]
structure Ac where
 X:Int
 Y:Int
 deriving DecidableEq
def Ac.c(x:Ac):List D:=[.int .i64 x.X,.int .i64 x.Y]
def Ac.d:List D->Option Ac
 |[.int .i64 z,.int .i64 G]=>some ⟨z,G⟩
 |_=>none
def Ac.d_le: ∀ds x,Ac.d ds=some x->Dh ds (Ac.c x):=by
 intro ds x h;unfold Ac.d at h;split at h
 .simp only[AP] at h;subst h;exact⟨Le.refl _,Le.refl _,trivial⟩
 .cases h
def Ac.d_c(x:Ac):Ac.d (Ac.c x)=some x:=by
 simp only[Ac.c,Ac.d]
def Ac.d_R(l:List Ac):AX Ac.d (l.map Ac.c)=some l:=Kt Ac.d_c l
def Ac.eta(x:Ac):(⟨x.X,x.Y⟩:Ac)=x:=rfl
def Ac.len(x:Ac):(Ac.c x).length=2:=rfl
structure Ar where
 At:Ac
 Tile:Int
 deriving DecidableEq
def Ar.c(x:Ar):List D:=[.int .i64 x.At.X,.int .i64 x.At.Y,.int .i64 x.Tile]
def Ar.d:List D->Option Ar
 |[.int .i64 z,.int .i64 G,.int .i64 O]=>some ⟨⟨z,G⟩,O⟩
 |_=>none
def Ar.d_le: ∀ds x,Ar.d ds=some x->Dh ds (Ar.c x):=by
 intro ds x h;unfold Ar.d at h;split at h
 .simp only[AP] at h;subst h;exact⟨Le.refl _,Le.refl _,Le.refl _,trivial⟩
 .cases h
def Ar.d_c(x:Ar):Ar.d (Ar.c x)=some x:=by
 simp only[Ar.c,Ar.d]
def Ar.d_R(l:List Ar):AX Ar.d (l.map Ar.c)=some l:=Kt Ar.d_c l
def Ar.eta(x:Ar):(⟨x.At,x.Tile⟩:Ar)=x:=rfl
def Ar.len(x:Ar):(Ar.c x).length=3:=rfl
structure Al where
 Tiles:List Ar
 deriving DecidableEq
def Al.c(x:Al):List D:=[.sl false 3 (x.Tiles.map Ar.c)]
def Al.d:List D->Option Al
 |[.sl _ _ z]=>(AX Ar.d z).bind λG=>some ⟨G⟩
 |_=>none
def Al.d_le: ∀ds x,Al.d ds=some x->Dh ds (Al.c x):=by
 intro ds x h;unfold Al.d at h;split at h
 .simp only[F5,AP] at h;obtain⟨z,h0,rfl⟩:=h;exact⟨E0 (Ej Ar.d_le _ _ h0) (by simp[Ar.c]),trivial⟩
 .cases h
def Al.d_c(x:Al):Al.d (Al.c x)=some x:=by
 simp only[Al.c,Al.d,Ar.d_R,GG]
def Al.eta(x:Al):(⟨x.Tiles⟩:Al)=x:=rfl
def Al.len(x:Al):(Al.c x).length=1:=rfl
structure AG where
 Name:ByteArray
 Strength:Int
 deriving DecidableEq
def AG.c(x:AG):List D:=[.str x.Name,.int .i64 x.Strength]
def AG.d:List D->Option AG
 |[.str z,.int .i64 G]=>some ⟨z,G⟩
 |_=>none
def AG.d_le: ∀ds x,AG.d ds=some x->Dh ds (AG.c x):=by
 intro ds x h;unfold AG.d at h;split at h
 .simp only[AP] at h;subst h;exact⟨Le.refl _,Le.refl _,trivial⟩
 .cases h
def AG.d_c(x:AG):AG.d (AG.c x)=some x:=by
 simp only[AG.c,AG.d]
def AG.d_R(l:List AG):AX AG.d (l.map AG.c)=some l:=Kt AG.d_c l
def AG.eta(x:AG):(⟨x.Name,x.Strength⟩:AG)=x:=rfl
def AG.len(x:AG):(AG.c x).length=2:=rfl
structure Tile where
 Name:ByteArray
 Sides:List Int
 deriving DecidableEq
def Tile.c(x:Tile):List D:=[.str x.Name,.sl false 1 (x.Sides.map Af)]
def Tile.d:List D->Option Tile
 |[.str z,.sl _ _ G]=>(AX Dj G).bind λO=>some ⟨z,O⟩
 |_=>none
def Tile.d_le: ∀ds x,Tile.d ds=some x->Dh ds (Tile.c x):=by
 intro ds x h;unfold Tile.d at h;split at h
 .simp only[F5,AP] at h;obtain⟨G,z,rfl⟩:=h;exact⟨Le.refl _,E0 (Ej Ez _ _ z) (by simp[Af]),trivial⟩
 .cases h
def Tile.d_c(x:Tile):Tile.d (Tile.c x)=some x:=by
 simp only[Tile.c,Tile.d,qN,GG]
def Tile.d_R(l:List Tile):AX Tile.d (l.map Tile.c)=some l:=Kt Tile.d_c l
def Tile.eta(x:Tile):(⟨x.Name,x.Sides⟩:Tile)=x:=rfl
def Tile.len(x:Tile):(Tile.c x).length=2:=rfl
structure AI where
 Glues:List AG
 Tiles:List Tile
 deriving DecidableEq
def AI.c(x:AI):List D:=[.sl false 2 (x.Glues.map AG.c),.sl false 2 (x.Tiles.map Tile.c)]
def AI.d:List D->Option AI
 |[.sl _ _ z,.sl _ _ G]=>(AX AG.d z).bind λO=>(AX Tile.d G).bind λQ=>some ⟨O,Q⟩
 |_=>none
def AI.d_le: ∀ds x,AI.d ds=some x->Dh ds (AI.c x):=by
 intro ds x h;unfold AI.d at h;split at h
 .simp only[F5,AP] at h;obtain⟨G,h0,O,z,rfl⟩:=h;exact⟨E0 (Ej AG.d_le _ _ h0) (by simp[AG.c]),E0 (Ej Tile.d_le _ _ z) (by simp[Tile.c]),trivial⟩
 .cases h
def AI.eta(x:AI):(⟨x.Glues,x.Tiles⟩:AI)=x:=rfl
def AI.len(x:AI):(AI.c x).length=2:=rfl
structure An where
 Set:AI
 Seed:Al
 Temperature:Int
 deriving DecidableEq
def An.c(x:An):List D:=[.sl false 2 (x.Set.Glues.map AG.c),.sl false 2 (x.Set.Tiles.map Tile.c),.sl false 3 (x.Seed.Tiles.map Ar.c),.int .i64 x.Temperature]
def An.d:List D->Option An
 |[.sl _ _ z,.sl _ _ G,.sl _ _ O,.int .i64 Q]=>(AX AG.d z).bind λZ=>(AX Tile.d G).bind λy1=>(AX Ar.d O).bind λy2=>some ⟨⟨Z,y1⟩,⟨y2⟩,Q⟩
 |_=>none
def An.d_le: ∀ds x,An.d ds=some x->Dh ds (An.c x):=by
 intro ds x h;unfold An.d at h;split at h
 .simp only[F5,AP] at h;obtain⟨O,h0,Q,z,Z,G,rfl⟩:=h;exact⟨E0 (Ej AG.d_le _ _ h0) (by simp[AG.c]),E0 (Ej Tile.d_le _ _ z) (by simp[Tile.c]),E0 (Ej Ar.d_le _ _ G) (by simp[Ar.c]),Le.refl _,trivial⟩
 .cases h
def An.eta(x:An):(⟨x.Set,x.Seed,x.Temperature⟩:An)=x:=rfl
def An.len(x:An):(An.c x).length=4:=rfl
structure Aj where
 At:Ac
 Tile:Int
 deriving DecidableEq
def Aj.c(x:Aj):List D:=[.int .i64 x.At.X,.int .i64 x.At.Y,.int .i64 x.Tile]
def Aj.d:List D->Option Aj
 |[.int .i64 z,.int .i64 G,.int .i64 O]=>some ⟨⟨z,G⟩,O⟩
 |_=>none
def Aj.d_le: ∀ds x,Aj.d ds=some x->Dh ds (Aj.c x):=by
 intro ds x h;unfold Aj.d at h;split at h
 .simp only[AP] at h;subst h;exact⟨Le.refl _,Le.refl _,Le.refl _,trivial⟩
 .cases h
def Aj.d_c(x:Aj):Aj.d (Aj.c x)=some x:=by
 simp only[Aj.c,Aj.d]
def Aj.d_R(l:List Aj):AX Aj.d (l.map Aj.c)=some l:=Kt Aj.d_c l
def Aj.eta(x:Aj):(⟨x.At,x.Tile⟩:Aj)=x:=rfl
def Aj.len(x:Aj):(Aj.c x).length=3:=rfl
structure J0 where
 Big:An
 Small:An
 Scale:Int
 Labels:List Int
 deriving DecidableEq
def J0.c(x:J0):List D:=[.sl false 2 (x.Big.Set.Glues.map AG.c),.sl false 2 (x.Big.Set.Tiles.map Tile.c),.sl false 3 (x.Big.Seed.Tiles.map Ar.c),.int .i64 x.Big.Temperature,.sl false 2 (x.Small.Set.Glues.map AG.c),.sl false 2 (x.Small.Set.Tiles.map Tile.c),.sl false 3 (x.Small.Seed.Tiles.map Ar.c),.int .i64 x.Small.Temperature,.int .i64 x.Scale,.sl false 1 (x.Labels.map Af)]
def J0.d:List D->Option J0
 |[.sl _ _ z,.sl _ _ G,.sl _ _ O,.int .i64 Q,.sl _ _ Z,.sl _ _ x5,.sl _ _ x6,.int .i64 x7,.int .i64 x8,.sl _ _ x9]=>(AX AG.d z).bind λy0=>(AX Tile.d G).bind λy1=>(AX Ar.d O).bind λy2=>(AX AG.d Z).bind λy4=>(AX Tile.d x5).bind λy5=>(AX Ar.d x6).bind λy6=>(AX Dj x9).bind λy9=>some ⟨⟨⟨y0,y1⟩,⟨y2⟩,Q⟩,⟨⟨y4,y5⟩,⟨y6⟩,x7⟩,x8,y9⟩
 |_=>none
def J0.eta(x:J0):(⟨x.Big,x.Small,x.Scale,x.Labels⟩:J0)=x:=rfl
def J0.len(x:J0):(J0.c x).length=10:=rfl
structure Ag where
 A:Int
 B:Int
 Strength:Int
 deriving DecidableEq
def Ag.c(x:Ag):List D:=[.int .i64 x.A,.int .i64 x.B,.int .i64 x.Strength]
def Ag.d:List D->Option Ag
 |[.int .i64 z,.int .i64 G,.int .i64 O]=>some ⟨z,G,O⟩
 |_=>none
def Ag.d_le: ∀ds x,Ag.d ds=some x->Dh ds (Ag.c x):=by
 intro ds x h;unfold Ag.d at h;split at h
 .simp only[AP] at h;subst h;exact⟨Le.refl _,Le.refl _,Le.refl _,trivial⟩
 .cases h
def Ag.d_c(x:Ag):Ag.d (Ag.c x)=some x:=by
 simp only[Ag.c,Ag.d]
def Ag.d_R(l:List Ag):AX Ag.d (l.map Ag.c)=some l:=Kt Ag.d_c l
def Ag.eta(x:Ag):(⟨x.A,x.B,x.Strength⟩:Ag)=x:=rfl
def Ag.len(x:Ag):(Ag.c x).length=3:=rfl
def Qwu: ∀d x,EC Ac.d d=some x->d= .agg (Ac.c x):=by
 intro d x h;unfold EC at h;split at h
 .rename_i z;unfold Ac.d at h;split at h
  .simp only[AP] at h;subst h;rfl
  .cases h
 .cases h
def F3(p:Ac×Int):D×D:=(.agg (Ac.c p.1),.int .i64 p.2)
def Qmt(l:List (Ac×Int)):Hi (EC Ac.d) DU (l.map F3)=some l:=Qs4 (λp=>⟨by simp[F3,DU,IR,EC,Ac.d_c],by simp[F3,DU,IR,Rn,EC]⟩) l
def DG(p:Ac×(List Int)):D×D:=(.agg (Ac.c p.1),.sl false 1 (p.2.map Af))
def Qk8(l:List (Ac×(List Int))):Hi (EC Ac.d) (Rn Dj) (l.map DG)=some l:=Qs4 (λp=>⟨by simp[DG,DU,IR,EC,Ac.d_c],by simp[DG,DU,IR,Rn,EC,qN]⟩) l
structure Dv where
 Sys:An
 Tl:List (Ac×Int)
 Op:List (Ac×(List Int))
 deriving DecidableEq
def Dv.c(x:Dv):List D:=[.sl false 2 (x.Sys.Set.Glues.map AG.c),.sl false 2 (x.Sys.Set.Tiles.map Tile.c),.sl false 3 (x.Sys.Seed.Tiles.map Ar.c),.int .i64 x.Sys.Temperature,.mp ⟨true,[.int .i64,.int .i64]⟩ (x.Tl.map F3),.mp ⟨true,[.int .i64,.int .i64]⟩ (x.Op.map DG)]
def Dv.d:List D->Option Dv
 |[.sl _ _ z,.sl _ _ G,.sl _ _ O,.int .i64 Q,.mp ⟨true,[.int .i64,.int .i64]⟩ Z,.mp ⟨true,[.int .i64,.int .i64]⟩ x5]=>(AX AG.d z).bind λy0=>(AX Tile.d G).bind λy1=>(AX Ar.d O).bind λy2=>(Hi (EC Ac.d) DU Z).bind λy4=>(Hi (EC Ac.d) (Rn Dj) x5).bind λy5=>some ⟨⟨⟨y0,y1⟩,⟨y2⟩,Q⟩,y4,y5⟩
 |_=>none
def Dv.d_le: ∀ds x,Dv.d ds=some x->Dh ds (Dv.c x):=by
 intro ds x h;unfold Dv.d at h;split at h
 .simp only[F5,AP] at h;obtain⟨Z,h0,y1,z,y2,G,y4,O,y5,Q,rfl⟩:=h;exact⟨E0 (Ej AG.d_le _ _ h0) (by simp[AG.c]),E0 (Ej Tile.d_le _ _ z) (by simp[Tile.c]),E0 (Ej Ar.d_le _ _ G) (by simp[Ar.c]),Le.refl _,UL (Qxb Qwu RZ _ _ O),UL (Qxb Qwu (xF Ez (λ_=>rfl)) _ _ Q),trivial⟩
 .cases h
def Dv.eta(x:Dv):(⟨x.Sys,x.Tl,x.Op⟩:Dv)=x:=rfl
def Dv.len(x:Dv):(Dv.c x).length=6:=rfl
structure Bp where
 Cnt:Int
 Bonds:List Ag
 At:List (List Int)
 Flow:List Int
 deriving DecidableEq
def Bp.c(x:Bp):List D:=[.int .i64 x.Cnt,.sl false 3 (x.Bonds.map Ag.c),.sl false 1 (x.At.map C9),.sl false 1 (x.Flow.map Af)]
def Bp.d:List D->Option Bp
 |[.int .i64 z,.sl _ _ G,.sl _ _ O,.sl _ _ Q]=>(AX Ag.d G).bind λZ=>(AX Pm O).bind λy2=>(AX Dj Q).bind λy3=>some ⟨z,Z,y2,y3⟩
 |_=>none
def Bp.d_le: ∀ds x,Bp.d ds=some x->Dh ds (Bp.c x):=by
 intro ds x h;unfold Bp.d at h;split at h
 .simp only[F5,AP] at h;obtain⟨Q,z,Z,G,y3,O,rfl⟩:=h;exact⟨Le.refl _,E0 (Ej Ag.d_le _ _ z) (by simp[Ag.c]),E0 (Ej Xe _ _ G) (by simp[C9]),E0 (Ej Ez _ _ O) (by simp[Af]),trivial⟩
 .cases h
def Bp.eta(x:Bp):(⟨x.Cnt,x.Bonds,x.At,x.Flow⟩:Bp)=x:=rfl
def Bp.len(x:Bp):(Bp.c x).length=4:=rfl
structure Bq where
 Room:List (List Int)
 Flow:List (List Int)
 deriving DecidableEq
def Bq.c(x:Bq):List D:=[.sl false 1 (x.Room.map C9),.sl false 1 (x.Flow.map C9)]
def Bq.d:List D->Option Bq
 |[.sl _ _ z,.sl _ _ G]=>(AX Pm z).bind λO=>(AX Pm G).bind λQ=>some ⟨O,Q⟩
 |_=>none
def Bq.d_le: ∀ds x,Bq.d ds=some x->Dh ds (Bq.c x):=by
 intro ds x h;unfold Bq.d at h;split at h
 .simp only[F5,AP] at h;obtain⟨G,h0,O,z,rfl⟩:=h;exact⟨E0 (Ej Xe _ _ h0) (by simp[C9]),E0 (Ej Xe _ _ z) (by simp[C9]),trivial⟩
 .cases h
def Bq.d_c(x:Bq):Bq.d (Bq.c x)=some x:=by
 simp only[Bq.c,Bq.d,Od,GG]
def Bq.eta(x:Bq):(⟨x.Room,x.Flow⟩:Bq)=x:=rfl
def Bq.len(x:Bq):(Bq.c x).length=2:=rfl
structure F2 where
 Kind:Int
 Sequence:List Aj
 Other:List Aj
 Part:List Int
 Flows:List (List Int)
 deriving DecidableEq
def F2.c(x:F2):List D:=[.int .i64 x.Kind,.sl false 3 (x.Sequence.map Aj.c),.sl false 3 (x.Other.map Aj.c),.sl false 1 (x.Part.map Af),.sl false 1 (x.Flows.map C9)]
def F2.d:List D->Option F2
 |[.int .i64 z,.sl _ _ G,.sl _ _ O,.sl _ _ Q,.sl _ _ Z]=>(AX Aj.d G).bind λy1=>(AX Aj.d O).bind λy2=>(AX Dj Q).bind λy3=>(AX Pm Z).bind λy4=>some ⟨z,y1,y2,y3,y4⟩
 |_=>none
def F2.eta(x:F2):(⟨x.Kind,x.Sequence,x.Other,x.Part,x.Flows⟩:F2)=x:=rfl
def F2.len(x:F2):(F2.c x).length=5:=rfl
structure Fx where
 Num:Int
 Den:Int
 deriving DecidableEq
def Fx.c(x:Fx):List D:=[.int .i64 x.Num,.int .i64 x.Den]
def Fx.d:List D->Option Fx
 |[.int .i64 z,.int .i64 G]=>some ⟨z,G⟩
 |_=>none
def Fx.eta(x:Fx):(⟨x.Num,x.Den⟩:Fx)=x:=rfl
def Fx.len(x:Fx):(Fx.c x).length=2:=rfl
structure CH where
 Sys:An
 Seq:List Aj
 End:Al
 Inputs:List Int
 Strength:List Int
 deriving DecidableEq
def CH.c(x:CH):List D:=[.sl false 2 (x.Sys.Set.Glues.map AG.c),.sl false 2 (x.Sys.Set.Tiles.map Tile.c),.sl false 3 (x.Sys.Seed.Tiles.map Ar.c),.int .i64 x.Sys.Temperature,.sl false 3 (x.Seq.map Aj.c),.sl false 3 (x.End.Tiles.map Ar.c),.sl false 1 (x.Inputs.map Af),.sl false 1 (x.Strength.map Af)]
def CH.d:List D->Option CH
 |[.sl _ _ z,.sl _ _ G,.sl _ _ O,.int .i64 Q,.sl _ _ Z,.sl _ _ x5,.sl _ _ x6,.sl _ _ x7]=>(AX AG.d z).bind λy0=>(AX Tile.d G).bind λy1=>(AX Ar.d O).bind λy2=>(AX Aj.d Z).bind λy4=>(AX Ar.d x5).bind λy5=>(AX Dj x6).bind λy6=>(AX Dj x7).bind λy7=>some ⟨⟨⟨y0,y1⟩,⟨y2⟩,Q⟩,y4,⟨y5⟩,y6,y7⟩
 |_=>none
def CH.d_le: ∀ds x,CH.d ds=some x->Dh ds (CH.c x):=by
 intro ds x h;unfold CH.d at h;split at h
 .simp only[F5,AP] at h;obtain⟨y0,h0,y1,z,y2,G,y4,O,y5,Q,y6,Z,y7,h7,rfl⟩:=h;exact⟨E0 (Ej AG.d_le _ _ h0) (by simp[AG.c]),E0 (Ej Tile.d_le _ _ z) (by simp[Tile.c]),E0 (Ej Ar.d_le _ _ G) (by simp[Ar.c]),Le.refl _,E0 (Ej Aj.d_le _ _ O) (by simp[Aj.c]),E0 (Ej Ar.d_le _ _ Q) (by simp[Ar.c]),E0 (Ej Ez _ _ Z) (by simp[Af]),E0 (Ej Ez _ _ h7) (by simp[Af]),trivial⟩
 .cases h
def CH.d_c(x:CH):CH.d (CH.c x)=some x:=by
 simp only[CH.c,CH.d,AG.d_R,Aj.d_R,Ar.d_R,Tile.d_R,qN,GG]
def CH.eta(x:CH):(⟨x.Sys,x.Seq,x.End,x.Inputs,x.Strength⟩:CH)=x:=rfl
def CH.len(x:CH):(CH.c x).length=8:=rfl
end Go.Ae
