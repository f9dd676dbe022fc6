/- Lemmas. Conditions: none. -/
import Derived.Test.YtogafbdeamcpnaaGreatDoorP05
import Derived.KernelRfl
set_option linter.all false
set_option maxHeartbeats 8000000
set_option maxRecDepth 100000
namespace Go.Ae
def Og{α β:Type}(f:α->List β)(l:List α)(i:Nat)(K:List β->Prop):J1 (l.map f) i K= ∀x,l[i]? =some x->K (f x):=by
 apply propext;unfold J1;constructor
 .intro h x z;exact h (f x) (by simp[z])
 .intro h row G;simp only[D2,D4] at G;obtain⟨x,z,rfl⟩:=G;exact h x z
def QA{α β:Type}(g:List β->Bool)(f:α->List β)(l:List α):BE g (l.map f)= ∀x∈l,g (f x)=true:=by
 apply propext;unfold BE;simp
def NN{β:Type}(g:List β->Bool):BE g []=True:=by
 simp[BE]
def NJ{β:Type}(g:List β->Bool)(r:List β)(l:List (List β)):BE g (r::l)=(g r=true/\BE g l):=by
 simp[BE]
def yK{β:Type}(g:List β->Bool)(a b:List (List β)):BE g (a++b)=(BE g a/\BE g b):=by
 apply propext;simp only[BE,Bx];constructor
 .exact λh=>⟨λr z=>h r (.inl z),λr z=>h r (.inr z)⟩
 .rintro⟨G,O⟩ r (z|z)
  .exact G r z
  .exact O r z
def Q9{α:Type}(l:List α):(∀x∈l,True)=True:=by simp
def Qqj: ∀(l:List Nat),J7 l []=true
 |[]=>rfl
 |x::r=>by simp[J7,Qqj r]
def Uh(h:Nat->Option Au):Fv h []=[]:=rfl
def Pk(h:Nat->Option Au)(x:AV)(r:List AV):Fv h (x::r)=Cl h 9 x++Fv h r:=by simp[Fv]
def AO{p:Prop}[Decidable p]{A B:Prop}:(if p then A else B)↔((p->A)/\(¬p->B)):=by
 by_cases h:p<;>simp[h]
def AG{x:Int}(z: -9223372036854775808<=x)(G:x<=9223372036854775807):IntKind.wrap .i64 x=x:=IntWalk.i64_in x ⟨z,G⟩
def J0{α:Type}{rows:List (List α)}{i:Nat}{K:List α->Prop}{r:List α}(h:rows[i]? =some r)(G:K r):J1 rows i K:=by
 intro r' z;rw[h] at z;exact AD z▸G
def Gi{P:Nat->Prop}{n k:Nat}(z:k<n)(hn:n<=140737488355328)(h:P (k+1)): ∃b':{k:Nat//P k},n - b'.val<n - k/\IntKind.wrap .i64 ((k:Int)+1)=b'.val:=by
 refine⟨⟨k+1,h⟩,by simp only;omega,?_⟩;rw[AG (by omega) (by omega)];simp only;omega
def Xy(a b:Nat):Nat.blt a b=decide (a<b):=by
 rw[VQ];simp
def Xx(a b:Nat):Nat.ble a b=decide (a<=b):=by
 rw[VQ];simp
def Aj(n:Int):List D:=[.int .i64 n]
def Cu:List D->Option Int
 |[.int .i64 n]=>some n
 |_=>none
def Da: ∀ds x,Cu ds=some x->CE ds (Aj x):=by
 intro ds x h;unfold Cu at h;split at h
 .simp only[AJ] at h;subst h;exact⟨Le.refl _,trivial⟩
 .cases h
def Wv(x:Int):Cu (Aj x)=some x:=rfl
def ZO(l:List Int):AR Cu (l.map Aj)=some l:=NX Wv l
def kC(n:ByteArray):List D:=[.str n]
def Zi:List D->Option ByteArray
 |[.str n]=>some n
 |_=>none
def kF(x:ByteArray):Zi (kC x)=some x:=rfl
def kE(l:List ByteArray):AR Zi (l.map kC)=some l:=NX kF l
def C8(x:List Int):List D:=[.sl false 1 (x.map Aj)]
def Qm:List D->Option (List Int)
 |[.sl _ _ rows]=>AR Cu rows
 |_=>none
def Qi: ∀ds x,Qm ds=some x->CE ds (C8 x):=by
 intro ds x h;unfold Qm at h;split at h
 .exact⟨Dn (Dd Da _ _ h) (by simp[Aj]),trivial⟩
 .cases h
def Nb(x:List Int):Qm (C8 x)=some x:=ZO x
def Qxv(l:List (List Int)):AR Qm (l.map C8)=some l:=NX Nb l
def DJ:D->Option Int
 | .int .i64 n=>some n
 |_=>none
def N7: ∀d x,DJ d=some x->Le d (.int .i64 x):=by
 intro d x h;unfold DJ at h;split at h
 .simp only[AJ] at h;subst h;exact Le.refl _
 .cases h
def Vt:D->Option ByteArray
 | .str n=>some n
 |_=>none
def Zu: ∀d x,Vt d=some x->Le d (.str x):=by
 intro d x h;unfold Vt at h;split at h
 .simp only[AJ] at h;subst h;exact Le.refl _
 .cases h
def V4:D->Option Bool
 | .bool n=>some n
 |_=>none
def kN: ∀d x,V4 d=some x->Le d (.bool x):=by
 intro d x h;unfold V4 at h;split at h
 .simp only[AJ] at h;subst h;exact Le.refl _
 .cases h
def Q6{A:Type}(f:List D->Option A):D->Option (List A)
 | .sl _ _ rows=>AR f rows
 |_=>none
def rZ{A:Type}{f:List D->Option A}{e:A->List D}{k:Nat}(hf: ∀ds x,f ds=some x->CE ds (e x))(z: ∀x,(e x).length=k): ∀d x,Q6 f d=some x->Le d (.sl false k (x.map e)):=by
 intro d x h;unfold Q6 at h;split at h
 .exact Dn (Dd hf _ _ h) (by simp only[Bv];rintro r ⟨y,_,rfl⟩;exact z y)
 .cases h
def EA{A:Type}(f:List D->Option A):D->Option A
 | .agg z=>f z
 |_=>none
def N0{A:Type}{f:List D->Option A}{e:A->List D}(hf: ∀ds x,f ds=some x->CE ds (e x)): ∀d x,EA f d=some x->Le d (.agg (e x)):=by
 intro d x h;unfold EA at h;split at h
 .exact QO (hf _ _ h)
 .cases h
def lA{A B:Type}(f:D->Option A)(g:D->Option B):D->Option (A×B)
 | .tup [x,y]=>(f x).bind λa=>(g y).map λb=>(a,b)
 |_=>none
def Qbz{A B:Type}{f:D->Option A}{g:D->Option B}{e:A->D}{e':B->D}(hf: ∀d x,f d=some x->Le d (e x))(G: ∀d x,g d=some x->Le d (e' x)): ∀d (x:A×B),lA f g d=some x->Le d (.tup [e x.1,e' x.2]):=by
 intro d x h;unfold lA at h;split at h
 .simp only[Ef,D4] at h;obtain⟨a,z,b,hb,rfl⟩:=h;exact K9 ⟨hf _ _ z,G _ _ hb,trivial⟩
 .cases h
def Jw{A B E:Type}(f:D->Option A)(g:D->Option B)(k:D->Option E):D->Option (A×B×E)
 | .tup [x,y,z]=>(f x).bind λa=>(g y).bind λb=>(k z).map λc=>(a,b,c)
 |_=>none
def Vu{A B E:Type}{f:D->Option A}{g:D->Option B}{k:D->Option E}{e:A->D}{e':B->D}{e'':E->D}(hf: ∀d x,f d=some x->Le d (e x))(G: ∀d x,g d=some x->Le d (e' x))(O: ∀d x,k d=some x->Le d (e'' x)):
 ∀d (x:A×B×E),Jw f g k d=some x->Le d (.tup [e x.1,e' x.2.1,e'' x.2.2]):=by
 intro d x h;unfold Jw at h;split at h
 .simp only[Ef,D4] at h;obtain⟨a,z,b,hb,c,hc,rfl⟩:=h;exact K9 ⟨hf _ _ z,G _ _ hb,O _ _ hc,trivial⟩
 .cases h
def Gx{A B:Type}(f:D->Option A)(g:D->Option B):List (D×D)->Option (List (A×B))
 |[]=>some []
 |(x,y)::r=>(f x).bind λa=>(g y).bind λb=>(Gx f g r).map λl=>(a,b)::l
def VY:List (D×D)->List (D×D)->Prop
 |[],[]=>True
 |(x,y)::r,(x',y')::r'=>x=x'/\Le y y'/\VY r r'
 |[],_::_=>False
 |_::_,[]=>False
def Qxb{A B:Type}{f:D->Option A}{g:D->Option B}{z:A->D}{G:B->D}(hf: ∀d x,f d=some x->d=z x)(O: ∀d x,g d=some x->Le d (G x)): ∀(es:List (D×D)) (l:List (A×B)),Gx f g es=some l->VY es (l.map λp=>(z p.1,G p.2))
 |[],l,h=>by
  simp only[Gx,AJ] at h;subst h;trivial
 |(x,y)::r,l,h=>by
  simp only[Gx,Ef,D4] at h;obtain⟨a,Q,b,hb,l',Z,rfl⟩:=h;exact⟨hf _ _ Q,O _ _ hb,Qxb hf O r l' Z⟩
def VY.rde{ok:Nat->Prop}{hp:Nat->Option Obj}: ∀{a b:List (D×D)} {es:List MapEntry},VY a b->Ae.rde ok hp a es->Ae.rde ok hp b es
 |[],[],_,_,h=>h
 |(x,y)::r,(x',y')::r',es,Q,h=>by
  simp only[Ae.rde] at h⊢;obtain⟨e,q,rfl,z,G,O⟩:=h;obtain⟨rfl,Z,l3⟩:=Q;exact⟨e,q,rfl,z,Z _ _ _ G,VY.rde l3 O⟩
 |[],_::_,_,h,_=>h.elim
 |_::_,[],_,h,_=>h.elim
def VY.fit{G:KT}: ∀{a b:List (D×D)},VY a b->(∀e∈a,G.fit e.1=true)-> ∀e∈b,G.fit e.1=true
 |[],[],_,h=>h
 |(x,y)::r,(x',y')::r',O,h=>by
  obtain⟨rfl,_,Q⟩:=O;intro e z;rcases Bm.1 z with rfl|z
  .exact h (x,y) (BT ..)
  .exact VY.fit Q (λe z=>h e (BX _ z)) e z
 |[],_::_,h,_=>h.elim
 |_::_,[],h,_=>h.elim
def Tf{Q:KT}{a b:List (D×D)}(h:VY a b):Le (.mp Q a) (.mp Q b):=by
 intro ok hp v O;simp only[rd] at O⊢;obtain⟨bk,G,z,rfl,Z,h2,h3,h4,h5⟩:=O;exact⟨bk,G,z,rfl,h.fit Z,h2,h3,h.rde h4,h5⟩
def Qs4{A B:Type}{f:D->Option A}{g:D->Option B}{m:A×B->D×D}(h: ∀p,f (m p).1=some p.1/\g (m p).2=some p.2): ∀(l:List (A×B)),Gx f g (l.map m)=some l
 |[]=>rfl
 |p::r=>by
  simp only[Bd,Gx,(h p).1,(h p).2,Eg,Qs4 h r,CQ]
structure Ab where
 X:Int
 Y:Int
 deriving DecidableEq
def Ab.c(x:Ab):List D:=[.int .i64 x.X,.int .i64 x.Y]
def Ab.d:List D->Option Ab
 |[.int .i64 z,.int .i64 G]=>some ⟨z,G⟩
 |_=>none
def Ab.d_le: ∀ds x,Ab.d ds=some x->CE ds (Ab.c x):=by
 intro ds x h;unfold Ab.d at h;split at h
 .simp only[AJ] at h;subst h;exact⟨Le.refl _,Le.refl _,trivial⟩
 .cases h
def Ab.d_c(x:Ab):Ab.d (Ab.c x)=some x:=by
 simp only[Ab.c,Ab.d]
def Ab.d_R(l:List Ab):AR Ab.d (l.map Ab.c)=some l:=NX Ab.d_c l
def Ab.eta(x:Ab):(⟨x.X,x.Y⟩:Ab)=x:=rfl
def Ab.len(x:Ab):(Ab.c x).length=2:=rfl
structure Al where
 At:Ab
 Tile:Int
 deriving DecidableEq
def Al.c(x:Al):List D:=[.int .i64 x.At.X,.int .i64 x.At.Y,.int .i64 x.Tile]
def Al.d:List D->Option Al
 |[.int .i64 z,.int .i64 G,.int .i64 O]=>some ⟨⟨z,G⟩,O⟩
 |_=>none
def Al.d_le: ∀ds x,Al.d ds=some x->CE ds (Al.c x):=by
 intro ds x h;unfold Al.d at h;split at h
 .simp only[AJ] at h;subst h;exact⟨Le.refl _,Le.refl _,Le.refl _,trivial⟩
 .cases h
def Al.d_c(x:Al):Al.d (Al.c x)=some x:=by
 simp only[Al.c,Al.d]
def Al.d_R(l:List Al):AR Al.d (l.map Al.c)=some l:=NX Al.d_c l
def Al.eta(x:Al):(⟨x.At,x.Tile⟩:Al)=x:=rfl
def Al.len(x:Al):(Al.c x).length=3:=rfl
structure Ak where
 Tiles:List Al
 deriving DecidableEq
def Ak.c(x:Ak):List D:=[.sl false 3 (x.Tiles.map Al.c)]
def Ak.d:List D->Option Ak
 |[.sl _ _ z]=>(AR Al.d z).bind λG=>some ⟨G⟩
 |_=>none
def Ak.d_le: ∀ds x,Ak.d ds=some x->CE ds (Ak.c x):=by
 intro ds x h;unfold Ak.d at h;split at h
 .simp only[Ef,AJ] at h;obtain⟨z,h0,rfl⟩:=h;exact⟨Dn (Dd Al.d_le _ _ h0) (by simp[Al.c]),trivial⟩
 .cases h
def Ak.d_c(x:Ak):Ak.d (Ak.c x)=some x:=by
 simp only[Ak.c,Ak.d,Al.d_R,Eg]
def Ak.eta(x:Ak):(⟨x.Tiles⟩:Ak)=x:=rfl
def Ak.len(x:Ak):(Ak.c x).length=1:=rfl
structure Ar where
 Name:ByteArray
 Strength:Int
 deriving DecidableEq
def Ar.c(x:Ar):List D:=[.str x.Name,.int .i64 x.Strength]
def Ar.d:List D->Option Ar
 |[.str z,.int .i64 G]=>some ⟨z,G⟩
 |_=>none
def Ar.d_le: ∀ds x,Ar.d ds=some x->CE ds (Ar.c x):=by
 intro ds x h;unfold Ar.d at h;split at h
 .simp only[AJ] at h;subst h;exact⟨Le.refl _,Le.refl _,trivial⟩
 .cases h
def Ar.d_c(x:Ar):Ar.d (Ar.c x)=some x:=by
 simp only[Ar.c,Ar.d]
def Ar.d_R(l:List Ar):AR Ar.d (l.map Ar.c)=some l:=NX Ar.d_c l
def Ar.eta(x:Ar):(⟨x.Name,x.Strength⟩:Ar)=x:=rfl
def Ar.len(x:Ar):(Ar.c x).length=2:=rfl
structure Tile where
 Name:ByteArray
 Sides:List Int
 deriving DecidableEq
def Tile.c(x:Tile):List D:=[.str x.Name,.sl false 1 (x.Sides.map Aj)]
def Tile.d:List D->Option Tile
 |[.str z,.sl _ _ G]=>(AR Cu G).bind λO=>some ⟨z,O⟩
 |_=>none
def Tile.d_le: ∀ds x,Tile.d ds=some x->CE ds (Tile.c x):=by
 intro ds x h;unfold Tile.d at h;split at h
 .simp only[Ef,AJ] at h;obtain⟨G,z,rfl⟩:=h;exact⟨Le.refl _,Dn (Dd Da _ _ z) (by simp[Aj]),trivial⟩
 .cases h
def Tile.d_c(x:Tile):Tile.d (Tile.c x)=some x:=by
 simp only[Tile.c,Tile.d,ZO,Eg]
def Tile.d_R(l:List Tile):AR Tile.d (l.map Tile.c)=some l:=NX Tile.d_c l
def Tile.eta(x:Tile):(⟨x.Name,x.Sides⟩:Tile)=x:=rfl
def Tile.len(x:Tile):(Tile.c x).length=2:=rfl
structure AC where
 Glues:List Ar
 Tiles:List Tile
 deriving DecidableEq
def AC.c(x:AC):List D:=[.sl false 2 (x.Glues.map Ar.c),.sl false 2 (x.Tiles.map Tile.c)]
def AC.d:List D->Option AC
 |[.sl _ _ z,.sl _ _ G]=>(AR Ar.d z).bind λO=>(AR Tile.d G).bind λQ=>some ⟨O,Q⟩
 |_=>none
def AC.d_le: ∀ds x,AC.d ds=some x->CE ds (AC.c x):=by
 intro ds x h;unfold AC.d at h;split at h
 .simp only[Ef,AJ] at h;obtain⟨G,h0,O,z,rfl⟩:=h;exact⟨Dn (Dd Ar.d_le _ _ h0) (by simp[Ar.c]),Dn (Dd Tile.d_le _ _ z) (by simp[Tile.c]),trivial⟩
 .cases h
def AC.eta(x:AC):(⟨x.Glues,x.Tiles⟩:AC)=x:=rfl
def AC.len(x:AC):(AC.c x).length=2:=rfl
structure Ax where
 Set:AC
 Seed:Ak
 Temperature:Int
 deriving DecidableEq
def Ax.c(x:Ax):List D:=[.sl false 2 (x.Set.Glues.map Ar.c),.sl false 2 (x.Set.Tiles.map Tile.c),.sl false 3 (x.Seed.Tiles.map Al.c),.int .i64 x.Temperature]
def Ax.d:List D->Option Ax
 |[.sl _ _ z,.sl _ _ G,.sl _ _ O,.int .i64 Q]=>(AR Ar.d z).bind λZ=>(AR Tile.d G).bind λy1=>(AR Al.d O).bind λy2=>some ⟨⟨Z,y1⟩,⟨y2⟩,Q⟩
 |_=>none
def Ax.d_le: ∀ds x,Ax.d ds=some x->CE ds (Ax.c x):=by
 intro ds x h;unfold Ax.d at h;split at h
 .simp only[Ef,AJ] at h;obtain⟨O,h0,Q,z,Z,G,rfl⟩:=h;exact⟨Dn (Dd Ar.d_le _ _ h0) (by simp[Ar.c]),Dn (Dd Tile.d_le _ _ z) (by simp[Tile.c]),Dn (Dd Al.d_le _ _ G) (by simp[Al.c]),Le.refl _,trivial⟩
 .cases h
def Ax.d_c(x:Ax):Ax.d (Ax.c x)=some x:=by
 simp only[Ax.c,Ax.d,Ar.d_R,Al.d_R,Tile.d_R,Eg]
def Ax.eta(x:Ax):(⟨x.Set,x.Seed,x.Temperature⟩:Ax)=x:=rfl
def Ax.len(x:Ax):(Ax.c x).length=4:=rfl
structure Ap where
 At:Ab
 Tile:Int
 deriving DecidableEq
def Ap.c(x:Ap):List D:=[.int .i64 x.At.X,.int .i64 x.At.Y,.int .i64 x.Tile]
def Ap.d:List D->Option Ap
 |[.int .i64 z,.int .i64 G,.int .i64 O]=>some ⟨⟨z,G⟩,O⟩
 |_=>none
def Ap.d_le: ∀ds x,Ap.d ds=some x->CE ds (Ap.c x):=by
 intro ds x h;unfold Ap.d at h;split at h
 .simp only[AJ] at h;subst h;exact⟨Le.refl _,Le.refl _,Le.refl _,trivial⟩
 .cases h
def Ap.d_c(x:Ap):Ap.d (Ap.c x)=some x:=by
 simp only[Ap.c,Ap.d]
def Ap.d_R(l:List Ap):AR Ap.d (l.map Ap.c)=some l:=NX Ap.d_c l
def Ap.eta(x:Ap):(⟨x.At,x.Tile⟩:Ap)=x:=rfl
def Ap.len(x:Ap):(Ap.c x).length=3:=rfl
structure IG where
 Big:Ax
 Small:Ax
 Scale:Int
 Labels:List Int
 deriving DecidableEq
def IG.c(x:IG):List D:=[.sl false 2 (x.Big.Set.Glues.map Ar.c),.sl false 2 (x.Big.Set.Tiles.map Tile.c),.sl false 3 (x.Big.Seed.Tiles.map Al.c),.int .i64 x.Big.Temperature,.sl false 2 (x.Small.Set.Glues.map Ar.c),.sl false 2 (x.Small.Set.Tiles.map Tile.c),.sl false 3 (x.Small.Seed.Tiles.map Al.c),.int .i64 x.Small.Temperature,.int .i64 x.Scale,.sl false 1 (x.Labels.map Aj)]
def IG.d:List D->Option IG
 |[.sl _ _ z,.sl _ _ G,.sl _ _ O,.int .i64 Q,.sl _ _ Z,.sl _ _ x5,.sl _ _ x6,.int .i64 x7,.int .i64 x8,.sl _ _ x9]=>(AR Ar.d z).bind λy0=>(AR Tile.d G).bind λy1=>(AR Al.d O).bind λy2=>(AR Ar.d Z).bind λy4=>(AR Tile.d x5).bind λy5=>(AR Al.d x6).bind λy6=>(AR Cu x9).bind λy9=>some ⟨⟨⟨y0,y1⟩,⟨y2⟩,Q⟩,⟨⟨y4,y5⟩,⟨y6⟩,x7⟩,x8,y9⟩
 |_=>none
def IG.eta(x:IG):(⟨x.Big,x.Small,x.Scale,x.Labels⟩:IG)=x:=rfl
def IG.len(x:IG):(IG.c x).length=10:=rfl
structure Ag where
 A:Int
 B:Int
 Strength:Int
 deriving DecidableEq
def Ag.c(x:Ag):List D:=[.int .i64 x.A,.int .i64 x.B,.int .i64 x.Strength]
def Ag.d:List D->Option Ag
 |[.int .i64 z,.int .i64 G,.int .i64 O]=>some ⟨z,G,O⟩
 |_=>none
def Ag.d_le: ∀ds x,Ag.d ds=some x->CE ds (Ag.c x):=by
 intro ds x h;unfold Ag.d at h;split at h
 .simp only[AJ] at h;subst h;exact⟨Le.refl _,Le.refl _,Le.refl _,trivial⟩
 .cases h
def Ag.d_c(x:Ag):Ag.d (Ag.c x)=some x:=by
 simp only[Ag.c,Ag.d]
def Ag.d_R(l:List Ag):AR Ag.d (l.map Ag.c)=some l:=NX Ag.d_c l
def Ag.eta(x:Ag):(⟨x.A,x.B,x.Strength⟩:Ag)=x:=rfl
def Ag.len(x:Ag):(Ag.c x).length=3:=rfl
def Qwu: ∀d x,EA Ab.d d=some x->d= .agg (Ab.c x):=by
 intro d x h;unfold EA at h;split at h
 .rename_i z;unfold Ab.d at h;split at h
  .simp only[AJ] at h;subst h;rfl
  .cases h
 .cases h
def DM(p:Ab×Int):D×D:=(.agg (Ab.c p.1),.int .i64 p.2)
def Qmt(l:List (Ab×Int)):Gx (EA Ab.d) DJ (l.map DM)=some l:=Qs4 (λp=>⟨by simp[DM,EA,Ab.d_c],by simp[DM,DJ]⟩) l
def CN(p:Ab×(List Int)):D×D:=(.agg (Ab.c p.1),.sl false 1 (p.2.map Aj))
def Qk8(l:List (Ab×(List Int))):Gx (EA Ab.d) (Q6 Cu) (l.map CN)=some l:=Qs4 (λp=>⟨by simp[CN,EA,Ab.d_c],by simp[CN,Q6,ZO]⟩) l
structure Cj where
 Sys:Ax
 Tl:List (Ab×Int)
 Op:List (Ab×(List Int))
 deriving DecidableEq
def Cj.c(x:Cj):List D:=[.sl false 2 (x.Sys.Set.Glues.map Ar.c),.sl false 2 (x.Sys.Set.Tiles.map Tile.c),.sl false 3 (x.Sys.Seed.Tiles.map Al.c),.int .i64 x.Sys.Temperature,.mp ⟨true,[.int .i64,.int .i64]⟩ (x.Tl.map DM),.mp ⟨true,[.int .i64,.int .i64]⟩ (x.Op.map CN)]
def Cj.d:List D->Option Cj
 |[.sl _ _ z,.sl _ _ G,.sl _ _ O,.int .i64 Q,.mp ⟨true,[.int .i64,.int .i64]⟩ Z,.mp ⟨true,[.int .i64,.int .i64]⟩ x5]=>(AR Ar.d z).bind λy0=>(AR Tile.d G).bind λy1=>(AR Al.d O).bind λy2=>(Gx (EA Ab.d) DJ Z).bind λy4=>(Gx (EA Ab.d) (Q6 Cu) x5).bind λy5=>some ⟨⟨⟨y0,y1⟩,⟨y2⟩,Q⟩,y4,y5⟩
 |_=>none
def Cj.d_le: ∀ds x,Cj.d ds=some x->CE ds (Cj.c x):=by
 intro ds x h;unfold Cj.d at h;split at h
 .simp only[Ef,AJ] at h;obtain⟨Z,h0,y1,z,y2,G,y4,O,y5,Q,rfl⟩:=h;exact⟨Dn (Dd Ar.d_le _ _ h0) (by simp[Ar.c]),Dn (Dd Tile.d_le _ _ z) (by simp[Tile.c]),Dn (Dd Al.d_le _ _ G) (by simp[Al.c]),Le.refl _,Tf (Qxb Qwu N7 _ _ O),Tf (Qxb Qwu (rZ Da (λ_=>rfl)) _ _ Q),trivial⟩
 .cases h
def Cj.eta(x:Cj):(⟨x.Sys,x.Tl,x.Op⟩:Cj)=x:=rfl
def Cj.len(x:Cj):(Cj.c x).length=6:=rfl
structure Ba where
 Cnt:Int
 Bonds:List Ag
 At:List (List Int)
 Flow:List Int
 deriving DecidableEq
def Ba.c(x:Ba):List D:=[.int .i64 x.Cnt,.sl false 3 (x.Bonds.map Ag.c),.sl false 1 (x.At.map C8),.sl false 1 (x.Flow.map Aj)]
def Ba.d:List D->Option Ba
 |[.int .i64 z,.sl _ _ G,.sl _ _ O,.sl _ _ Q]=>(AR Ag.d G).bind λZ=>(AR Qm O).bind λy2=>(AR Cu Q).bind λy3=>some ⟨z,Z,y2,y3⟩
 |_=>none
def Ba.d_le: ∀ds x,Ba.d ds=some x->CE ds (Ba.c x):=by
 intro ds x h;unfold Ba.d at h;split at h
 .simp only[Ef,AJ] at h;obtain⟨Q,z,Z,G,y3,O,rfl⟩:=h;exact⟨Le.refl _,Dn (Dd Ag.d_le _ _ z) (by simp[Ag.c]),Dn (Dd Qi _ _ G) (by simp[C8]),Dn (Dd Da _ _ O) (by simp[Aj]),trivial⟩
 .cases h
def Ba.eta(x:Ba):(⟨x.Cnt,x.Bonds,x.At,x.Flow⟩:Ba)=x:=rfl
def Ba.len(x:Ba):(Ba.c x).length=4:=rfl
structure Bc where
 Room:List (List Int)
 Flow:List (List Int)
 deriving DecidableEq
def Bc.c(x:Bc):List D:=[.sl false 1 (x.Room.map C8),.sl false 1 (x.Flow.map C8)]
def Bc.d:List D->Option Bc
 |[.sl _ _ z,.sl _ _ G]=>(AR Qm z).bind λO=>(AR Qm G).bind λQ=>some ⟨O,Q⟩
 |_=>none
def Bc.d_le: ∀ds x,Bc.d ds=some x->CE ds (Bc.c x):=by
 intro ds x h;unfold Bc.d at h;split at h
 .simp only[Ef,AJ] at h;obtain⟨G,h0,O,z,rfl⟩:=h;exact⟨Dn (Dd Qi _ _ h0) (by simp[C8]),Dn (Dd Qi _ _ z) (by simp[C8]),trivial⟩
 .cases h
def Bc.d_c(x:Bc):Bc.d (Bc.c x)=some x:=by
 simp only[Bc.c,Bc.d,Qxv,Eg]
def Bc.eta(x:Bc):(⟨x.Room,x.Flow⟩:Bc)=x:=rfl
def Bc.len(x:Bc):(Bc.c x).length=2:=rfl
structure Bl where
 Kind:Int
 Sequence:List Ap
 Other:List Ap
 Part:List Int
 Flows:List (List Int)
 deriving DecidableEq
def Bl.c(x:Bl):List D:=[.int .i64 x.Kind,.sl false 3 (x.Sequence.map Ap.c),.sl false 3 (x.Other.map Ap.c),.sl false 1 (x.Part.map Aj),.sl false 1 (x.Flows.map C8)]
def Bl.d:List D->Option Bl
 |[.int .i64 z,.sl _ _ G,.sl _ _ O,.sl _ _ Q,.sl _ _ Z]=>(AR Ap.d G).bind λy1=>(AR Ap.d O).bind λy2=>(AR Cu Q).bind λy3=>(AR Qm Z).bind λy4=>some ⟨z,y1,y2,y3,y4⟩
 |_=>none
def Bl.d_le: ∀ds x,Bl.d ds=some x->CE ds (Bl.c x):=by
 intro ds x h;unfold Bl.d at h;split at h
 .simp only[Ef,AJ] at h;obtain⟨Z,z,y2,G,y3,O,y4,Q,rfl⟩:=h;exact⟨Le.refl _,Dn (Dd Ap.d_le _ _ z) (by simp[Ap.c]),Dn (Dd Ap.d_le _ _ G) (by simp[Ap.c]),Dn (Dd Da _ _ O) (by simp[Aj]),Dn (Dd Qi _ _ Q) (by simp[C8]),trivial⟩
 .cases h
def Bl.d_c(x:Bl):Bl.d (Bl.c x)=some x:=by
 simp only[Bl.c,Bl.d,Ap.d_R,ZO,Qxv,Eg]
def Bl.eta(x:Bl):(⟨x.Kind,x.Sequence,x.Other,x.Part,x.Flows⟩:Bl)=x:=rfl
def Bl.len(x:Bl):(Bl.c x).length=5:=rfl
structure EH where
 Num:Int
 Den:Int
 deriving DecidableEq
def EH.c(x:EH):List D:=[.int .i64 x.Num,.int .i64 x.Den]
def EH.d:List D->Option EH
 |[.int .i64 z,.int .i64 G]=>some ⟨z,G⟩
 |_=>none
def EH.eta(x:EH):(⟨x.Num,x.Den⟩:EH)=x:=rfl
def EH.len(x:EH):(EH.c x).length=2:=rfl
structure Cn where
 Sys:Ax
 Seq:List Ap
 End:Ak
 Inputs:List Int
 Strength:List Int
 deriving DecidableEq
def Cn.c(x:Cn):List D:=[.sl false 2 (x.Sys.Set.Glues.map Ar.c),.sl false 2 (x.Sys.Set.Tiles.map Tile.c),.sl false 3 (x.Sys.Seed.Tiles.map Al.c),.int .i64 x.Sys.Temperature,.sl false 3 (x.Seq.map Ap.c),.sl false 3 (x.End.Tiles.map Al.c),.sl false 1 (x.Inputs.map Aj),.sl false 1 (x.Strength.map Aj)]
def Cn.d:List D->Option Cn
 |[.sl _ _ z,.sl _ _ G,.sl _ _ O,.int .i64 Q,.sl _ _ Z,.sl _ _ x5,.sl _ _ x6,.sl _ _ x7]=>(AR Ar.d z).bind λy0=>(AR Tile.d G).bind λy1=>(AR Al.d O).bind λy2=>(AR Ap.d Z).bind λy4=>(AR Al.d x5).bind λy5=>(AR Cu x6).bind λy6=>(AR Cu x7).bind λy7=>some ⟨⟨⟨y0,y1⟩,⟨y2⟩,Q⟩,y4,⟨y5⟩,y6,y7⟩
 |_=>none
def Cn.d_le: ∀ds x,Cn.d ds=some x->CE ds (Cn.c x):=by
 intro ds x h;unfold Cn.d at h;split at h
 .simp only[Ef,AJ] at h;obtain⟨y0,h0,y1,z,y2,G,y4,O,y5,Q,y6,Z,y7,h7,rfl⟩:=h;exact⟨Dn (Dd Ar.d_le _ _ h0) (by simp[Ar.c]),Dn (Dd Tile.d_le _ _ z) (by simp[Tile.c]),Dn (Dd Al.d_le _ _ G) (by simp[Al.c]),Le.refl _,Dn (Dd Ap.d_le _ _ O) (by simp[Ap.c]),Dn (Dd Al.d_le _ _ Q) (by simp[Al.c]),Dn (Dd Da _ _ Z) (by simp[Aj]),Dn (Dd Da _ _ h7) (by simp[Aj]),trivial⟩
 .cases h
def Cn.d_c(x:Cn):Cn.d (Cn.c x)=some x:=by
 simp only[Cn.c,Cn.d,Ar.d_R,Ap.d_R,Al.d_R,Tile.d_R,ZO,Eg]
def Cn.eta(x:Cn):(⟨x.Sys,x.Seq,x.End,x.Inputs,x.Strength⟩:Cn)=x:=rfl
def Cn.len(x:Cn):(Cn.c x).length=8:=rfl
end Go.Ae
