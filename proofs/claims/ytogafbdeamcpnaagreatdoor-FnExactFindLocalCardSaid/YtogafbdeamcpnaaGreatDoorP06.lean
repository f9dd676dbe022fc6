/- Lemmas. Conditions: none. -/
import Derived.Test.YtogafbdeamcpnaaGreatDoorP05
import Derived.KernelRfl
set_option linter.all false
set_option maxHeartbeats 8000000
set_option maxRecDepth 100000
namespace Go.Ae
def Od{α β:Type}(f:α->List β)(l:List α)(i:Nat)(K:List β->Prop):Jx (l.map f) i K= ∀x,l[i]? =some x->K (f x):=by
 apply propext;unfold Jx;constructor
 .intro h x z;exact h (f x) (by simp[z])
 .intro h row G;simp only[D1,Dx] at G;obtain⟨x,z,rfl⟩:=G;exact h x z
def Q5{α β:Type}(g:List β->Bool)(f:α->List β)(l:List α):BB g (l.map f)= ∀x∈l,g (f x)=true:=by
 apply propext;unfold BB;simp
def NJ{β:Type}(g:List β->Bool):BB g []=True:=by
 simp[BB]
def NF{β:Type}(g:List β->Bool)(r:List β)(l:List (List β)):BB g (r::l)=(g r=true/\BB g l):=by
 simp[BB]
def xW{β:Type}(g:List β->Bool)(a b:List (List β)):BB g (a++b)=(BB g a/\BB g b):=by
 apply propext;simp only[BB,Bv];constructor
 .exact λh=>⟨λr z=>h r (.inl z),λr z=>h r (.inr z)⟩
 .rintro⟨G,O⟩ r (z|z)
  .exact G r z
  .exact O r z
def Q4{α:Type}(l:List α):(∀x∈l,True)=True:=by simp
def Qqj: ∀(l:List Nat),J3 l []=true
 |[]=>rfl
 |x::r=>by simp[J3,Qqj r]
def Ub(h:Nat->Option Au):Fu h []=[]:=rfl
def Ph(h:Nat->Option Au)(x:AV)(r:List AV):Fu h (x::r)=C8 h 9 x++Fu h r:=by simp[Fu]
def AO{p:Prop}[Decidable p]{A B:Prop}:(if p then A else B)↔((p->A)/\(¬p->B)):=by
 by_cases h:p<;>simp[h]
def AH{x:Int}(z: -9223372036854775808<=x)(G:x<=9223372036854775807):IntKind.wrap .i64 x=x:=IntWalk.i64_in x ⟨z,G⟩
def Jw{α:Type}{rows:List (List α)}{i:Nat}{K:List α->Prop}{r:List α}(h:rows[i]? =some r)(G:K r):Jx rows i K:=by
 intro r' z;rw[h] at z;exact AD z▸G
def G4{P:Nat->Prop}{n k:Nat}(z:k<n)(hn:n<=140737488355328)(h:P (k+1)): ∃b':{k:Nat//P k},n - b'.val<n - k/\IntKind.wrap .i64 ((k:Int)+1)=b'.val:=by
 refine⟨⟨k+1,h⟩,by simp only;omega,?_⟩;rw[AH (by omega) (by omega)];simp only;omega
def Xq(a b:Nat):Nat.blt a b=decide (a<b):=by
 rw[VJ];simp
def Xp(a b:Nat):Nat.ble a b=decide (a<=b):=by
 rw[VJ];simp
def Ai(n:Int):List D:=[.int .i64 n]
def Cq:List D->Option Int
 |[.int .i64 n]=>some n
 |_=>none
def Dt: ∀ds x,Cq ds=some x->CF ds (Ai x):=by
 intro ds x h;unfold Cq at h;split at h
 .simp only[AJ] at h;subst h;exact⟨Le.refl _,trivial⟩
 .cases h
def Wo(x:Int):Cq (Ai x)=some x:=rfl
def eU(l:List Int):AS Cq (l.map Ai)=some l:=NT Wo l
def jR(n:ByteArray):List D:=[.str n]
def YZ:List D->Option ByteArray
 |[.str n]=>some n
 |_=>none
def jT(x:ByteArray):YZ (jR x)=some x:=rfl
def jS(l:List ByteArray):AS YZ (l.map jR)=some l:=NT jT l
def CG(x:List Int):List D:=[.sl false 1 (x.map Ai)]
def Qh:List D->Option (List Int)
 |[.sl _ _ rows]=>AS Cq rows
 |_=>none
def eH: ∀ds x,Qh ds=some x->CF ds (CG x):=by
 intro ds x h;unfold Qh at h;split at h
 .exact⟨DE (Dz Dt _ _ h) (by simp[Ai]),trivial⟩
 .cases h
def MX(x:List Int):Qh (CG x)=some x:=eU x
def MW(l:List (List Int)):AS Qh (l.map CG)=some l:=NT MX l
def DC:D->Option Int
 | .int .i64 n=>some n
 |_=>none
def N3: ∀d x,DC d=some x->Le d (.int .i64 x):=by
 intro d x h;unfold DC at h;split at h
 .simp only[AJ] at h;subst h;exact Le.refl _
 .cases h
def Vn:D->Option ByteArray
 | .str n=>some n
 |_=>none
def Zl: ∀d x,Vn d=some x->Le d (.str x):=by
 intro d x h;unfold Vn at h;split at h
 .simp only[AJ] at h;subst h;exact Le.refl _
 .cases h
def Vy:D->Option Bool
 | .bool n=>some n
 |_=>none
def kA: ∀d x,Vy d=some x->Le d (.bool x):=by
 intro d x h;unfold Vy at h;split at h
 .simp only[AJ] at h;subst h;exact Le.refl _
 .cases h
def Qy{A:Type}(f:List D->Option A):D->Option (List A)
 | .sl _ _ rows=>AS f rows
 |_=>none
def rK{A:Type}{f:List D->Option A}{e:A->List D}{k:Nat}(hf: ∀ds x,f ds=some x->CF ds (e x))(z: ∀x,(e x).length=k): ∀d x,Qy f d=some x->Le d (.sl false k (x.map e)):=by
 intro d x h;unfold Qy at h;split at h
 .exact DE (Dz hf _ _ h) (by simp only[Bt];rintro r ⟨y,_,rfl⟩;exact z y)
 .cases h
def E8{A:Type}(f:List D->Option A):D->Option A
 | .agg z=>f z
 |_=>none
def Nw{A:Type}{f:List D->Option A}{e:A->List D}(hf: ∀ds x,f ds=some x->CF ds (e x)): ∀d x,E8 f d=some x->Le d (.agg (e x)):=by
 intro d x h;unfold E8 at h;split at h
 .exact QJ (hf _ _ h)
 .cases h
def kL{A B:Type}(f:D->Option A)(g:D->Option B):D->Option (A×B)
 | .tup [x,y]=>(f x).bind λa=>(g y).map λb=>(a,b)
 |_=>none
def Qbz{A B:Type}{f:D->Option A}{g:D->Option B}{e:A->D}{e':B->D}(hf: ∀d x,f d=some x->Le d (e x))(G: ∀d x,g d=some x->Le d (e' x)): ∀d (x:A×B),kL f g d=some x->Le d (.tup [e x.1,e' x.2]):=by
 intro d x h;unfold kL at h;split at h
 .simp only[Eg,Dx] at h;obtain⟨a,z,b,hb,rfl⟩:=h;exact K3 ⟨hf _ _ z,G _ _ hb,trivial⟩
 .cases h
def Jr{A B E:Type}(f:D->Option A)(g:D->Option B)(k:D->Option E):D->Option (A×B×E)
 | .tup [x,y,z]=>(f x).bind λa=>(g y).bind λb=>(k z).map λc=>(a,b,c)
 |_=>none
def Vo{A B E:Type}{f:D->Option A}{g:D->Option B}{k:D->Option E}{e:A->D}{e':B->D}{e'':E->D}(hf: ∀d x,f d=some x->Le d (e x))(G: ∀d x,g d=some x->Le d (e' x))(O: ∀d x,k d=some x->Le d (e'' x)):
 ∀d (x:A×B×E),Jr f g k d=some x->Le d (.tup [e x.1,e' x.2.1,e'' x.2.2]):=by
 intro d x h;unfold Jr at h;split at h
 .simp only[Eg,Dx] at h;obtain⟨a,z,b,hb,c,hc,rfl⟩:=h;exact K3 ⟨hf _ _ z,G _ _ hb,O _ _ hc,trivial⟩
 .cases h
def Gp{A B:Type}(f:D->Option A)(g:D->Option B):List (D×D)->Option (List (A×B))
 |[]=>some []
 |(x,y)::r=>(f x).bind λa=>(g y).bind λb=>(Gp f g r).map λl=>(a,b)::l
def VS:List (D×D)->List (D×D)->Prop
 |[],[]=>True
 |(x,y)::r,(x',y')::r'=>x=x'/\Le y y'/\VS r r'
 |[],_::_=>False
 |_::_,[]=>False
def Qxb{A B:Type}{f:D->Option A}{g:D->Option B}{z:A->D}{G:B->D}(hf: ∀d x,f d=some x->d=z x)(O: ∀d x,g d=some x->Le d (G x)): ∀(es:List (D×D)) (l:List (A×B)),Gp f g es=some l->VS es (l.map λp=>(z p.1,G p.2))
 |[],l,h=>by
  simp only[Gp,AJ] at h;subst h;trivial
 |(x,y)::r,l,h=>by
  simp only[Gp,Eg,Dx] at h;obtain⟨a,Q,b,hb,l',Z,rfl⟩:=h;exact⟨hf _ _ Q,O _ _ hb,Qxb hf O r l' Z⟩
def VS.rde{ok:Nat->Prop}{hp:Nat->Option Obj}: ∀{a b:List (D×D)} {es:List MapEntry},VS a b->Ae.rde ok hp a es->Ae.rde ok hp b es
 |[],[],_,_,h=>h
 |(x,y)::r,(x',y')::r',es,Q,h=>by
  simp only[Ae.rde] at h⊢;obtain⟨e,q,rfl,z,G,O⟩:=h;obtain⟨rfl,Z,l3⟩:=Q;exact⟨e,q,rfl,z,Z _ _ _ G,VS.rde l3 O⟩
 |[],_::_,_,h,_=>h.elim
 |_::_,[],_,h,_=>h.elim
def VS.fit{G:KT}: ∀{a b:List (D×D)},VS a b->(∀e∈a,G.fit e.1=true)-> ∀e∈b,G.fit e.1=true
 |[],[],_,h=>h
 |(x,y)::r,(x',y')::r',O,h=>by
  obtain⟨rfl,_,Q⟩:=O;intro e z;rcases Bk.1 z with rfl|z
  .exact h (x,y) (BS ..)
  .exact VS.fit Q (λe z=>h e (BW _ z)) e z
 |[],_::_,h,_=>h.elim
 |_::_,[],h,_=>h.elim
def Ta{Q:KT}{a b:List (D×D)}(h:VS a b):Le (.mp Q a) (.mp Q b):=by
 intro ok hp v O;simp only[rd] at O⊢;obtain⟨bk,G,z,rfl,Z,h2,h3,h4,h5⟩:=O;exact⟨bk,G,z,rfl,h.fit Z,h2,h3,h.rde h4,h5⟩
def Qs4{A B:Type}{f:D->Option A}{g:D->Option B}{m:A×B->D×D}(h: ∀p,f (m p).1=some p.1/\g (m p).2=some p.2): ∀(l:List (A×B)),Gp f g (l.map m)=some l
 |[]=>rfl
 |p::r=>by
  simp only[Be,Gp,(h p).1,(h p).2,Ey,Qs4 h r,CQ]
structure Ab where
 X:Int
 Y:Int
 deriving DecidableEq
def Ab.c(x:Ab):List D:=[.int .i64 x.X,.int .i64 x.Y]
def Ab.d:List D->Option Ab
 |[.int .i64 z,.int .i64 G]=>some ⟨z,G⟩
 |_=>none
def Ab.d_le: ∀ds x,Ab.d ds=some x->CF ds (Ab.c x):=by
 intro ds x h;unfold Ab.d at h;split at h
 .simp only[AJ] at h;subst h;exact⟨Le.refl _,Le.refl _,trivial⟩
 .cases h
def Ab.d_c(x:Ab):Ab.d (Ab.c x)=some x:=by
 simp only[Ab.c,Ab.d]
def Ab.d_R(l:List Ab):AS Ab.d (l.map Ab.c)=some l:=NT Ab.d_c l
def Ab.eta(x:Ab):(⟨x.X,x.Y⟩:Ab)=x:=rfl
def Ab.len(x:Ab):(Ab.c x).length=2:=rfl
structure Al where
 At:Ab
 Tile:Int
 deriving DecidableEq
def Al.c(x:Al):List D:=[.int .i64 x.At.X,.int .i64 x.At.Y,.int .i64 x.Tile]
def Al.d:List D->Option Al
 |[.int .i64 z,.int .i64 G,.int .i64 O]=>some ⟨⟨z,G⟩,O⟩
 |_=>none
def Al.d_le: ∀ds x,Al.d ds=some x->CF ds (Al.c x):=by
 intro ds x h;unfold Al.d at h;split at h
 .simp only[AJ] at h;subst h;exact⟨Le.refl _,Le.refl _,Le.refl _,trivial⟩
 .cases h
def Al.d_c(x:Al):Al.d (Al.c x)=some x:=by
 simp only[Al.c,Al.d]
def Al.d_R(l:List Al):AS Al.d (l.map Al.c)=some l:=NT Al.d_c l
def Al.eta(x:Al):(⟨x.At,x.Tile⟩:Al)=x:=rfl
def Al.len(x:Al):(Al.c x).length=3:=rfl
structure Ak where
 Tiles:List Al
 deriving DecidableEq
def Ak.c(x:Ak):List D:=[.sl false 3 (x.Tiles.map Al.c)]
def Ak.d:List D->Option Ak
 |[.sl _ _ z]=>(AS Al.d z).bind λG=>some ⟨G⟩
 |_=>none
def Ak.d_le: ∀ds x,Ak.d ds=some x->CF ds (Ak.c x):=by
 intro ds x h;unfold Ak.d at h;split at h
 .simp only[Eg,AJ] at h;obtain⟨z,h0,rfl⟩:=h;exact⟨DE (Dz Al.d_le _ _ h0) (by simp[Al.c]),trivial⟩
 .cases h
def Ak.d_c(x:Ak):Ak.d (Ak.c x)=some x:=by
 simp only[Ak.c,Ak.d,Al.d_R,Ey]
def Ak.eta(x:Ak):(⟨x.Tiles⟩:Ak)=x:=rfl
def Ak.len(x:Ak):(Ak.c x).length=1:=rfl
structure Ar where
 Name:ByteArray
 Strength:Int
 deriving DecidableEq
def Ar.c(x:Ar):List D:=[.str x.Name,.int .i64 x.Strength]
def Ar.d:List D->Option Ar
 |[.str z,.int .i64 G]=>some ⟨z,G⟩
 |_=>none
def Ar.d_le: ∀ds x,Ar.d ds=some x->CF ds (Ar.c x):=by
 intro ds x h;unfold Ar.d at h;split at h
 .simp only[AJ] at h;subst h;exact⟨Le.refl _,Le.refl _,trivial⟩
 .cases h
def Ar.d_c(x:Ar):Ar.d (Ar.c x)=some x:=by
 simp only[Ar.c,Ar.d]
def Ar.d_R(l:List Ar):AS Ar.d (l.map Ar.c)=some l:=NT Ar.d_c l
def Ar.eta(x:Ar):(⟨x.Name,x.Strength⟩:Ar)=x:=rfl
def Ar.len(x:Ar):(Ar.c x).length=2:=rfl
structure Tile where
 Name:ByteArray
 Sides:List Int
 deriving DecidableEq
def Tile.c(x:Tile):List D:=[.str x.Name,.sl false 1 (x.Sides.map Ai)]
def Tile.d:List D->Option Tile
 |[.str z,.sl _ _ G]=>(AS Cq G).bind λO=>some ⟨z,O⟩
 |_=>none
def Tile.d_le: ∀ds x,Tile.d ds=some x->CF ds (Tile.c x):=by
 intro ds x h;unfold Tile.d at h;split at h
 .simp only[Eg,AJ] at h;obtain⟨G,z,rfl⟩:=h;exact⟨Le.refl _,DE (Dz Dt _ _ z) (by simp[Ai]),trivial⟩
 .cases h
def Tile.d_c(x:Tile):Tile.d (Tile.c x)=some x:=by
 simp only[Tile.c,Tile.d,eU,Ey]
def Tile.d_R(l:List Tile):AS Tile.d (l.map Tile.c)=some l:=NT Tile.d_c l
def Tile.eta(x:Tile):(⟨x.Name,x.Sides⟩:Tile)=x:=rfl
def Tile.len(x:Tile):(Tile.c x).length=2:=rfl
structure AA where
 Glues:List Ar
 Tiles:List Tile
 deriving DecidableEq
def AA.c(x:AA):List D:=[.sl false 2 (x.Glues.map Ar.c),.sl false 2 (x.Tiles.map Tile.c)]
def AA.d:List D->Option AA
 |[.sl _ _ z,.sl _ _ G]=>(AS Ar.d z).bind λO=>(AS Tile.d G).bind λQ=>some ⟨O,Q⟩
 |_=>none
def AA.d_le: ∀ds x,AA.d ds=some x->CF ds (AA.c x):=by
 intro ds x h;unfold AA.d at h;split at h
 .simp only[Eg,AJ] at h;obtain⟨G,h0,O,z,rfl⟩:=h;exact⟨DE (Dz Ar.d_le _ _ h0) (by simp[Ar.c]),DE (Dz Tile.d_le _ _ z) (by simp[Tile.c]),trivial⟩
 .cases h
def AA.eta(x:AA):(⟨x.Glues,x.Tiles⟩:AA)=x:=rfl
def AA.len(x:AA):(AA.c x).length=2:=rfl
structure Ax where
 Set:AA
 Seed:Ak
 Temperature:Int
 deriving DecidableEq
def Ax.c(x:Ax):List D:=[.sl false 2 (x.Set.Glues.map Ar.c),.sl false 2 (x.Set.Tiles.map Tile.c),.sl false 3 (x.Seed.Tiles.map Al.c),.int .i64 x.Temperature]
def Ax.d:List D->Option Ax
 |[.sl _ _ z,.sl _ _ G,.sl _ _ O,.int .i64 Q]=>(AS Ar.d z).bind λZ=>(AS Tile.d G).bind λy1=>(AS Al.d O).bind λy2=>some ⟨⟨Z,y1⟩,⟨y2⟩,Q⟩
 |_=>none
def Ax.d_le: ∀ds x,Ax.d ds=some x->CF ds (Ax.c x):=by
 intro ds x h;unfold Ax.d at h;split at h
 .simp only[Eg,AJ] at h;obtain⟨O,h0,Q,z,Z,G,rfl⟩:=h;exact⟨DE (Dz Ar.d_le _ _ h0) (by simp[Ar.c]),DE (Dz Tile.d_le _ _ z) (by simp[Tile.c]),DE (Dz Al.d_le _ _ G) (by simp[Al.c]),Le.refl _,trivial⟩
 .cases h
def Ax.d_c(x:Ax):Ax.d (Ax.c x)=some x:=by
 simp only[Ax.c,Ax.d,Ar.d_R,Al.d_R,Tile.d_R,Ey]
def Ax.eta(x:Ax):(⟨x.Set,x.Seed,x.Temperature⟩:Ax)=x:=rfl
def Ax.len(x:Ax):(Ax.c x).length=4:=rfl
structure Ap where
 At:Ab
 Tile:Int
 deriving DecidableEq
def Ap.c(x:Ap):List D:=[.int .i64 x.At.X,.int .i64 x.At.Y,.int .i64 x.Tile]
def Ap.d:List D->Option Ap
 |[.int .i64 z,.int .i64 G,.int .i64 O]=>some ⟨⟨z,G⟩,O⟩
 |_=>none
def Ap.d_le: ∀ds x,Ap.d ds=some x->CF ds (Ap.c x):=by
 intro ds x h;unfold Ap.d at h;split at h
 .simp only[AJ] at h;subst h;exact⟨Le.refl _,Le.refl _,Le.refl _,trivial⟩
 .cases h
def Ap.d_c(x:Ap):Ap.d (Ap.c x)=some x:=by
 simp only[Ap.c,Ap.d]
def Ap.d_R(l:List Ap):AS Ap.d (l.map Ap.c)=some l:=NT Ap.d_c l
def Ap.eta(x:Ap):(⟨x.At,x.Tile⟩:Ap)=x:=rfl
def Ap.len(x:Ap):(Ap.c x).length=3:=rfl
structure ID where
 Big:Ax
 Small:Ax
 Scale:Int
 Labels:List Int
 deriving DecidableEq
def ID.c(x:ID):List D:=[.sl false 2 (x.Big.Set.Glues.map Ar.c),.sl false 2 (x.Big.Set.Tiles.map Tile.c),.sl false 3 (x.Big.Seed.Tiles.map Al.c),.int .i64 x.Big.Temperature,.sl false 2 (x.Small.Set.Glues.map Ar.c),.sl false 2 (x.Small.Set.Tiles.map Tile.c),.sl false 3 (x.Small.Seed.Tiles.map Al.c),.int .i64 x.Small.Temperature,.int .i64 x.Scale,.sl false 1 (x.Labels.map Ai)]
def ID.d:List D->Option ID
 |[.sl _ _ z,.sl _ _ G,.sl _ _ O,.int .i64 Q,.sl _ _ Z,.sl _ _ x5,.sl _ _ x6,.int .i64 x7,.int .i64 x8,.sl _ _ x9]=>(AS Ar.d z).bind λy0=>(AS Tile.d G).bind λy1=>(AS Al.d O).bind λy2=>(AS Ar.d Z).bind λy4=>(AS Tile.d x5).bind λy5=>(AS Al.d x6).bind λy6=>(AS Cq x9).bind λy9=>some ⟨⟨⟨y0,y1⟩,⟨y2⟩,Q⟩,⟨⟨y4,y5⟩,⟨y6⟩,x7⟩,x8,y9⟩
 |_=>none
def ID.eta(x:ID):(⟨x.Big,x.Small,x.Scale,x.Labels⟩:ID)=x:=rfl
def ID.len(x:ID):(ID.c x).length=10:=rfl
structure Ag where
 A:Int
 B:Int
 Strength:Int
 deriving DecidableEq
def Ag.c(x:Ag):List D:=[.int .i64 x.A,.int .i64 x.B,.int .i64 x.Strength]
def Ag.d:List D->Option Ag
 |[.int .i64 z,.int .i64 G,.int .i64 O]=>some ⟨z,G,O⟩
 |_=>none
def Ag.d_le: ∀ds x,Ag.d ds=some x->CF ds (Ag.c x):=by
 intro ds x h;unfold Ag.d at h;split at h
 .simp only[AJ] at h;subst h;exact⟨Le.refl _,Le.refl _,Le.refl _,trivial⟩
 .cases h
def Ag.d_c(x:Ag):Ag.d (Ag.c x)=some x:=by
 simp only[Ag.c,Ag.d]
def Ag.d_R(l:List Ag):AS Ag.d (l.map Ag.c)=some l:=NT Ag.d_c l
def Ag.eta(x:Ag):(⟨x.A,x.B,x.Strength⟩:Ag)=x:=rfl
def Ag.len(x:Ag):(Ag.c x).length=3:=rfl
def Qwu: ∀d x,E8 Ab.d d=some x->d= .agg (Ab.c x):=by
 intro d x h;unfold E8 at h;split at h
 .rename_i z;unfold Ab.d at h;split at h
  .simp only[AJ] at h;subst h;rfl
  .cases h
 .cases h
def DJ(p:Ab×Int):D×D:=(.agg (Ab.c p.1),.int .i64 p.2)
def Qmt(l:List (Ab×Int)):Gp (E8 Ab.d) DC (l.map DJ)=some l:=Qs4 (λp=>⟨by simp[DJ,E8,Ab.d_c],by simp[DJ,DC]⟩) l
def CL(p:Ab×(List Int)):D×D:=(.agg (Ab.c p.1),.sl false 1 (p.2.map Ai))
def Qk8(l:List (Ab×(List Int))):Gp (E8 Ab.d) (Qy Cq) (l.map CL)=some l:=Qs4 (λp=>⟨by simp[CL,E8,Ab.d_c],by simp[CL,Qy,eU]⟩) l
structure Cj where
 Sys:Ax
 Tl:List (Ab×Int)
 Op:List (Ab×(List Int))
 deriving DecidableEq
def Cj.c(x:Cj):List D:=[.sl false 2 (x.Sys.Set.Glues.map Ar.c),.sl false 2 (x.Sys.Set.Tiles.map Tile.c),.sl false 3 (x.Sys.Seed.Tiles.map Al.c),.int .i64 x.Sys.Temperature,.mp ⟨true,[.int .i64,.int .i64]⟩ (x.Tl.map DJ),.mp ⟨true,[.int .i64,.int .i64]⟩ (x.Op.map CL)]
def Cj.d:List D->Option Cj
 |[.sl _ _ z,.sl _ _ G,.sl _ _ O,.int .i64 Q,.mp ⟨true,[.int .i64,.int .i64]⟩ Z,.mp ⟨true,[.int .i64,.int .i64]⟩ x5]=>(AS Ar.d z).bind λy0=>(AS Tile.d G).bind λy1=>(AS Al.d O).bind λy2=>(Gp (E8 Ab.d) DC Z).bind λy4=>(Gp (E8 Ab.d) (Qy Cq) x5).bind λy5=>some ⟨⟨⟨y0,y1⟩,⟨y2⟩,Q⟩,y4,y5⟩
 |_=>none
def Cj.d_le: ∀ds x,Cj.d ds=some x->CF ds (Cj.c x):=by
 intro ds x h;unfold Cj.d at h;split at h
 .simp only[Eg,AJ] at h;obtain⟨Z,h0,y1,z,y2,G,y4,O,y5,Q,rfl⟩:=h;exact⟨DE (Dz Ar.d_le _ _ h0) (by simp[Ar.c]),DE (Dz Tile.d_le _ _ z) (by simp[Tile.c]),DE (Dz Al.d_le _ _ G) (by simp[Al.c]),Le.refl _,Ta (Qxb Qwu N3 _ _ O),Ta (Qxb Qwu (rK Dt (λ_=>rfl)) _ _ Q),trivial⟩
 .cases h
def Cj.eta(x:Cj):(⟨x.Sys,x.Tl,x.Op⟩:Cj)=x:=rfl
def Cj.len(x:Cj):(Cj.c x).length=6:=rfl
structure Ba where
 Cnt:Int
 Bonds:List Ag
 At:List (List Int)
 Flow:List Int
 deriving DecidableEq
def Ba.c(x:Ba):List D:=[.int .i64 x.Cnt,.sl false 3 (x.Bonds.map Ag.c),.sl false 1 (x.At.map CG),.sl false 1 (x.Flow.map Ai)]
def Ba.d:List D->Option Ba
 |[.int .i64 z,.sl _ _ G,.sl _ _ O,.sl _ _ Q]=>(AS Ag.d G).bind λZ=>(AS Qh O).bind λy2=>(AS Cq Q).bind λy3=>some ⟨z,Z,y2,y3⟩
 |_=>none
def Ba.d_le: ∀ds x,Ba.d ds=some x->CF ds (Ba.c x):=by
 intro ds x h;unfold Ba.d at h;split at h
 .simp only[Eg,AJ] at h;obtain⟨Q,z,Z,G,y3,O,rfl⟩:=h;exact⟨Le.refl _,DE (Dz Ag.d_le _ _ z) (by simp[Ag.c]),DE (Dz eH _ _ G) (by simp[CG]),DE (Dz Dt _ _ O) (by simp[Ai]),trivial⟩
 .cases h
def Ba.eta(x:Ba):(⟨x.Cnt,x.Bonds,x.At,x.Flow⟩:Ba)=x:=rfl
def Ba.len(x:Ba):(Ba.c x).length=4:=rfl
structure Bc where
 Room:List (List Int)
 Flow:List (List Int)
 deriving DecidableEq
def Bc.c(x:Bc):List D:=[.sl false 1 (x.Room.map CG),.sl false 1 (x.Flow.map CG)]
def Bc.d:List D->Option Bc
 |[.sl _ _ z,.sl _ _ G]=>(AS Qh z).bind λO=>(AS Qh G).bind λQ=>some ⟨O,Q⟩
 |_=>none
def Bc.d_le: ∀ds x,Bc.d ds=some x->CF ds (Bc.c x):=by
 intro ds x h;unfold Bc.d at h;split at h
 .simp only[Eg,AJ] at h;obtain⟨G,h0,O,z,rfl⟩:=h;exact⟨DE (Dz eH _ _ h0) (by simp[CG]),DE (Dz eH _ _ z) (by simp[CG]),trivial⟩
 .cases h
def Bc.d_c(x:Bc):Bc.d (Bc.c x)=some x:=by
 simp only[Bc.c,Bc.d,MW,Ey]
def Bc.eta(x:Bc):(⟨x.Room,x.Flow⟩:Bc)=x:=rfl
def Bc.len(x:Bc):(Bc.c x).length=2:=rfl
structure EF where
 Kind:Int
 Sequence:List Ap
 Other:List Ap
 Part:List Int
 Flows:List (List Int)
 deriving DecidableEq
def EF.c(x:EF):List D:=[.int .i64 x.Kind,.sl false 3 (x.Sequence.map Ap.c),.sl false 3 (x.Other.map Ap.c),.sl false 1 (x.Part.map Ai),.sl false 1 (x.Flows.map CG)]
def EF.d:List D->Option EF
 |[.int .i64 z,.sl _ _ G,.sl _ _ O,.sl _ _ Q,.sl _ _ Z]=>(AS Ap.d G).bind λy1=>(AS Ap.d O).bind λy2=>(AS Cq Q).bind λy3=>(AS Qh Z).bind λy4=>some ⟨z,y1,y2,y3,y4⟩
 |_=>none
def EF.eta(x:EF):(⟨x.Kind,x.Sequence,x.Other,x.Part,x.Flows⟩:EF)=x:=rfl
def EF.len(x:EF):(EF.c x).length=5:=rfl
structure EE where
 Num:Int
 Den:Int
 deriving DecidableEq
def EE.c(x:EE):List D:=[.int .i64 x.Num,.int .i64 x.Den]
def EE.d:List D->Option EE
 |[.int .i64 z,.int .i64 G]=>some ⟨z,G⟩
 |_=>none
def EE.eta(x:EE):(⟨x.Num,x.Den⟩:EE)=x:=rfl
def EE.len(x:EE):(EE.c x).length=2:=rfl
structure Cl where
 Sys:Ax
 Seq:List Ap
 End:Ak
 Inputs:List Int
 Strength:List Int
 deriving DecidableEq
def Cl.c(x:Cl):List D:=[.sl false 2 (x.Sys.Set.Glues.map Ar.c),.sl false 2 (x.Sys.Set.Tiles.map Tile.c),.sl false 3 (x.Sys.Seed.Tiles.map Al.c),.int .i64 x.Sys.Temperature,.sl false 3 (x.Seq.map Ap.c),.sl false 3 (x.End.Tiles.map Al.c),.sl false 1 (x.Inputs.map Ai),.sl false 1 (x.Strength.map Ai)]
def Cl.d:List D->Option Cl
 |[.sl _ _ z,.sl _ _ G,.sl _ _ O,.int .i64 Q,.sl _ _ Z,.sl _ _ x5,.sl _ _ x6,.sl _ _ x7]=>(AS Ar.d z).bind λy0=>(AS Tile.d G).bind λy1=>(AS Al.d O).bind λy2=>(AS Ap.d Z).bind λy4=>(AS Al.d x5).bind λy5=>(AS Cq x6).bind λy6=>(AS Cq x7).bind λy7=>some ⟨⟨⟨y0,y1⟩,⟨y2⟩,Q⟩,y4,⟨y5⟩,y6,y7⟩
 |_=>none
def Cl.d_le: ∀ds x,Cl.d ds=some x->CF ds (Cl.c x):=by
 intro ds x h;unfold Cl.d at h;split at h
 .simp only[Eg,AJ] at h;obtain⟨y0,h0,y1,z,y2,G,y4,O,y5,Q,y6,Z,y7,h7,rfl⟩:=h;exact⟨DE (Dz Ar.d_le _ _ h0) (by simp[Ar.c]),DE (Dz Tile.d_le _ _ z) (by simp[Tile.c]),DE (Dz Al.d_le _ _ G) (by simp[Al.c]),Le.refl _,DE (Dz Ap.d_le _ _ O) (by simp[Ap.c]),DE (Dz Al.d_le _ _ Q) (by simp[Al.c]),DE (Dz Dt _ _ Z) (by simp[Ai]),DE (Dz Dt _ _ h7) (by simp[Ai]),trivial⟩
 .cases h
def Cl.d_c(x:Cl):Cl.d (Cl.c x)=some x:=by
 simp only[Cl.c,Cl.d,Ar.d_R,Ap.d_R,Al.d_R,Tile.d_R,eU,Ey]
def Cl.eta(x:Cl):(⟨x.Sys,x.Seq,x.End,x.Inputs,x.Strength⟩:Cl)=x:=rfl
def Cl.len(x:Cl):(Cl.c x).length=8:=rfl
end Go.Ae
