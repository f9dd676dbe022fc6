/- Lemmas. Conditions: none. -/
import Derived.Test.YtogafbdeamcpnaaGreatDoorP05
import Derived.KernelRfl
set_option linter.all false
set_option maxHeartbeats 8000000
set_option maxRecDepth 100000
namespace Go.Ae
def Nv{α β:Type}(f:α->List β)(l:List α)(i:Nat)(K:List β->Prop):IX (l.map f) i K= ∀x,l[i]? =some x->K (f x):=by
 apply propext;unfold IX;constructor
 .intro h x z;exact h (f x) (by simp[z])
 .intro h row G;simp only[D9,Df] at G;obtain⟨x,z,rfl⟩:=G;exact h x z
def Qah{α β:Type}(g:List β->Bool)(f:α->List β)(l:List α):BL g (l.map f)= ∀x∈l,g (f x)=true:=by
 apply propext;unfold BL;simp
def Nf{β:Type}(g:List β->Bool):BL g []=True:=by
 simp[BL]
def Na{β:Type}(g:List β->Bool)(r:List β)(l:List (List β)):BL g (r::l)=(g r=true/\BL g l):=by
 simp[BL]
def uL{β:Type}(g:List β->Bool)(a b:List (List β)):BL g (a++b)=(BL g a/\BL g b):=by
 apply propext;simp only[BL,Br];constructor
 .exact λh=>⟨λr z=>h r (.inl z),λr z=>h r (.inr z)⟩
 .rintro⟨G,O⟩ r (z|z)
  .exact G r z
  .exact O r z
def PO{α:Type}(l:List α):(∀x∈l,True)=True:=by simp
def Qqj: ∀(l:List Nat),HI l []=true
 |[]=>rfl
 |x::r=>by simp[HI,Qqj r]
def Td(h:Nat->Option Aq):EG h []=[]:=rfl
def O2(h:Nat->Option Aq)(x:AV)(r:List AV):EG h (x::r)=CB h 9 x++EG h r:=by simp[EG]
def AP{p:Prop}[Decidable p]{A B:Prop}:(if p then A else B)↔((p->A)/\(¬p->B)):=by
 by_cases h:p<;>simp[h]
def AG{x:Int}(z: -9223372036854775808<=x)(G:x<=9223372036854775807):IntKind.wrap .i64 x=x:=IntWalk.i64_in x ⟨z,G⟩
def Hj{α:Type}{rows:List (List α)}{i:Nat}{K:List α->Prop}{r:List α}(h:rows[i]? =some r)(G:K r):IX rows i K:=by
 intro r' z;rw[h] at z;exact AE z▸G
def F2{P:Nat->Prop}{n k:Nat}(z:k<n)(hn:n<=140737488355328)(h:P (k+1)): ∃b':{k:Nat//P k},n - b'.val<n - k/\IntKind.wrap .i64 ((k:Int)+1)=b'.val:=by
 refine⟨⟨k+1,h⟩,by simp only;omega,?_⟩;rw[AG (by omega) (by omega)];simp only;omega
def WA(a b:Nat):Nat.blt a b=decide (a<b):=by
 rw[Q5];simp
def W9(a b:Nat):Nat.ble a b=decide (a<=b):=by
 rw[Q5];simp
def Al(n:Int):List D:=[.int .i64 n]
def Ck:List D->Option Int
 |[.int .i64 n]=>some n
 |_=>none
def DU: ∀ds x,Ck ds=some x->C6 ds (Al x):=by
 intro ds x h;unfold Ck at h;split at h
 .simp only[AI] at h;subst h;exact⟨Le.refl _,trivial⟩
 .cases h
def V1(x:Int):Ck (Al x)=some x:=rfl
def iL(l:List Int):AO Ck (l.map Al)=some l:=Ku V1 l
def fZ(n:ByteArray):List D:=[.str n]
def Yh:List D->Option ByteArray
 |[.str n]=>some n
 |_=>none
def gB(x:ByteArray):Yh (fZ x)=some x:=rfl
def gA(l:List ByteArray):AO Yh (l.map fZ)=some l:=Ku gB l
def C4(x:List Int):List D:=[.sl false 1 (x.map Al)]
def P3:List D->Option (List Int)
 |[.sl _ _ rows]=>AO Ck rows
 |_=>none
def cB: ∀ds x,P3 ds=some x->C6 ds (C4 x):=by
 intro ds x h;unfold P3 at h;split at h
 .exact⟨DV (DP DU _ _ h) (by simp[Al]),trivial⟩
 .cases h
def Mv(x:List Int):P3 (C4 x)=some x:=iL x
def Mu(l:List (List Int)):AO P3 (l.map C4)=some l:=Ku Mv l
def Dj:D->Option Int
 | .int .i64 n=>some n
 |_=>none
def Kt: ∀d x,Dj d=some x->Le d (.int .i64 x):=by
 intro d x h;unfold Dj at h;split at h
 .simp only[AI] at h;subst h;exact Le.refl _
 .cases h
def Uy:D->Option ByteArray
 | .str n=>some n
 |_=>none
def Yv: ∀d x,Uy d=some x->Le d (.str x):=by
 intro d x h;unfold Uy at h;split at h
 .simp only[AI] at h;subst h;exact Le.refl _
 .cases h
def Po:D->Option Bool
 | .bool n=>some n
 |_=>none
def Y0: ∀d x,Po d=some x->Le d (.bool x):=by
 intro d x h;unfold Po at h;split at h
 .simp only[AI] at h;subst h;exact Le.refl _
 .cases h
def PL{A:Type}(f:List D->Option A):D->Option (List A)
 | .sl _ _ rows=>AO f rows
 |_=>none
def nU{A:Type}{f:List D->Option A}{e:A->List D}{k:Nat}(hf: ∀ds x,f ds=some x->C6 ds (e x))(z: ∀x,(e x).length=k): ∀d x,PL f d=some x->Le d (.sl false k (x.map e)):=by
 intro d x h;unfold PL at h;split at h
 .exact DV (DP hf _ _ h) (by simp only[Bm];rintro r ⟨y,_,rfl⟩;exact z y)
 .cases h
def Er{A:Type}(f:List D->Option A):D->Option A
 | .agg z=>f z
 |_=>none
def MG{A:Type}{f:List D->Option A}{e:A->List D}(hf: ∀ds x,f ds=some x->C6 ds (e x)): ∀d x,Er f d=some x->Le d (.agg (e x)):=by
 intro d x h;unfold Er at h;split at h
 .exact VK (hf _ _ h)
 .cases h
def bL{A B:Type}(f:D->Option A)(g:D->Option B):D->Option (A×B)
 | .tup [x,y]=>(f x).bind λa=>(g y).map λb=>(a,b)
 |_=>none
def Qbz{A B:Type}{f:D->Option A}{g:D->Option B}{e:A->D}{e':B->D}(hf: ∀d x,f d=some x->Le d (e x))(G: ∀d x,g d=some x->Le d (e' x)): ∀d (x:A×B),bL f g d=some x->Le d (.tup [e x.1,e' x.2]):=by
 intro d x h;unfold bL at h;split at h
 .simp only[Eg,Df] at h;obtain⟨a,z,b,hb,rfl⟩:=h;exact JT ⟨hf _ _ z,G _ _ hb,trivial⟩
 .cases h
def IS{A B E:Type}(f:D->Option A)(g:D->Option B)(k:D->Option E):D->Option (A×B×E)
 | .tup [x,y,z]=>(f x).bind λa=>(g y).bind λb=>(k z).map λc=>(a,b,c)
 |_=>none
def Uz{A B E:Type}{f:D->Option A}{g:D->Option B}{k:D->Option E}{e:A->D}{e':B->D}{e'':E->D}(hf: ∀d x,f d=some x->Le d (e x))(G: ∀d x,g d=some x->Le d (e' x))(O: ∀d x,k d=some x->Le d (e'' x)):
 ∀d (x:A×B×E),IS f g k d=some x->Le d (.tup [e x.1,e' x.2.1,e'' x.2.2]):=by
 intro d x h;unfold IS at h;split at h
 .simp only[Eg,Df] at h;obtain⟨a,z,b,hb,c,hc,rfl⟩:=h;exact JT ⟨hf _ _ z,G _ _ hb,O _ _ hc,trivial⟩
 .cases h
def FQ{A B:Type}(f:D->Option A)(g:D->Option B):List (D×D)->Option (List (A×B))
 |[]=>some []
 |(x,y)::r=>(f x).bind λa=>(g y).bind λb=>(FQ f g r).map λl=>(a,b)::l
def Vf:List (D×D)->List (D×D)->Prop
 |[],[]=>True
 |(x,y)::r,(x',y')::r'=>x=x'/\Le y y'/\Vf r r'
 |[],_::_=>False
 |_::_,[]=>False
def xW{A B:Type}{f:D->Option A}{g:D->Option B}{z:A->D}{G:B->D}(hf: ∀d x,f d=some x->d=z x)(O: ∀d x,g d=some x->Le d (G x)): ∀(es:List (D×D)) (l:List (A×B)),FQ f g es=some l->Vf es (l.map λp=>(z p.1,G p.2))
 |[],l,h=>by
  simp only[FQ,AI] at h;subst h;trivial
 |(x,y)::r,l,h=>by
  simp only[FQ,Eg,Df] at h;obtain⟨a,Q,b,hb,l',Z,rfl⟩:=h;exact⟨hf _ _ Q,O _ _ hb,xW hf O r l' Z⟩
def Vf.rde{ok:Nat->Prop}{hp:Nat->Option Obj}: ∀{a b:List (D×D)} {es:List MapEntry},Vf a b->Ae.rde ok hp a es->Ae.rde ok hp b es
 |[],[],_,_,h=>h
 |(x,y)::r,(x',y')::r',es,Q,h=>by
  simp only[Ae.rde] at h⊢;obtain⟨e,q,rfl,z,G,O⟩:=h;obtain⟨rfl,Z,l3⟩:=Q;exact⟨e,q,rfl,z,Z _ _ _ G,Vf.rde l3 O⟩
 |[],_::_,_,h,_=>h.elim
 |_::_,[],_,h,_=>h.elim
def Vf.fit{G:KT}: ∀{a b:List (D×D)},Vf a b->(∀e∈a,G.fit e.1=true)-> ∀e∈b,G.fit e.1=true
 |[],[],_,h=>h
 |(x,y)::r,(x',y')::r',O,h=>by
  obtain⟨rfl,_,Q⟩:=O;intro e z;rcases Bi.1 z with rfl|z
  .exact h (x,y) (BM ..)
  .exact Vf.fit Q (λe z=>h e (BR _ z)) e z
 |[],_::_,h,_=>h.elim
 |_::_,[],h,_=>h.elim
def Sf{Q:KT}{a b:List (D×D)}(h:Vf a b):Le (.mp Q a) (.mp Q b):=by
 intro ok hp v O;simp only[rd] at O⊢;obtain⟨bk,G,z,rfl,Z,h2,h3,h4,h5⟩:=O;exact⟨bk,G,z,rfl,h.fit Z,h2,h3,h.rde h4,h5⟩
def Qs4{A B:Type}{f:D->Option A}{g:D->Option B}{m:A×B->D×D}(h: ∀p,f (m p).1=some p.1/\g (m p).2=some p.2): ∀(l:List (A×B)),FQ f g (l.map m)=some l
 |[]=>rfl
 |p::r=>by
  simp only[Bd,FQ,(h p).1,(h p).2,EN,Qs4 h r,Ds]
structure Ab where
 X:Int
 Y:Int
 deriving DecidableEq
def Ab.c(x:Ab):List D:=[.int .i64 x.X,.int .i64 x.Y]
def Ab.d:List D->Option Ab
 |[.int .i64 z,.int .i64 G]=>some ⟨z,G⟩
 |_=>none
def Ab.d_le: ∀ds x,Ab.d ds=some x->C6 ds (Ab.c x):=by
 intro ds x h;unfold Ab.d at h;split at h
 .simp only[AI] at h;subst h;exact⟨Le.refl _,Le.refl _,trivial⟩
 .cases h
def Ab.d_c(x:Ab):Ab.d (Ab.c x)=some x:=by
 simp only[Ab.c,Ab.d]
def Ab.d_R(l:List Ab):AO Ab.d (l.map Ab.c)=some l:=Ku Ab.d_c l
def Ab.eta(x:Ab):(⟨x.X,x.Y⟩:Ab)=x:=rfl
def Ab.len(x:Ab):(Ab.c x).length=2:=rfl
structure Ak where
 At:Ab
 Tile:Int
 deriving DecidableEq
def Ak.c(x:Ak):List D:=[.int .i64 x.At.X,.int .i64 x.At.Y,.int .i64 x.Tile]
def Ak.d:List D->Option Ak
 |[.int .i64 z,.int .i64 G,.int .i64 O]=>some ⟨⟨z,G⟩,O⟩
 |_=>none
def Ak.d_le: ∀ds x,Ak.d ds=some x->C6 ds (Ak.c x):=by
 intro ds x h;unfold Ak.d at h;split at h
 .simp only[AI] at h;subst h;exact⟨Le.refl _,Le.refl _,Le.refl _,trivial⟩
 .cases h
def Ak.d_c(x:Ak):Ak.d (Ak.c x)=some x:=by
 simp only[Ak.c,Ak.d]
def Ak.d_R(l:List Ak):AO Ak.d (l.map Ak.c)=some l:=Ku Ak.d_c l
def Ak.eta(x:Ak):(⟨x.At,x.Tile⟩:Ak)=x:=rfl
def Ak.len(x:Ak):(Ak.c x).length=3:=rfl
structure Ah where
 Tiles:List Ak
 deriving DecidableEq
def Ah.c(x:Ah):List D:=[.sl false 3 (x.Tiles.map Ak.c)]
def Ah.d:List D->Option Ah
 |[.sl _ _ z]=>(AO Ak.d z).bind λG=>some ⟨G⟩
 |_=>none
def Ah.d_le: ∀ds x,Ah.d ds=some x->C6 ds (Ah.c x):=by
 intro ds x h;unfold Ah.d at h;split at h
 .simp only[Eg,AI] at h;obtain⟨z,h0,rfl⟩:=h;exact⟨DV (DP Ak.d_le _ _ h0) (by simp[Ak.c]),trivial⟩
 .cases h
def Ah.d_c(x:Ah):Ah.d (Ah.c x)=some x:=by
 simp only[Ah.c,Ah.d,Ak.d_R,EN]
def Ah.eta(x:Ah):(⟨x.Tiles⟩:Ah)=x:=rfl
def Ah.len(x:Ah):(Ah.c x).length=1:=rfl
structure Ar where
 Name:ByteArray
 Strength:Int
 deriving DecidableEq
def Ar.c(x:Ar):List D:=[.str x.Name,.int .i64 x.Strength]
def Ar.d:List D->Option Ar
 |[.str z,.int .i64 G]=>some ⟨z,G⟩
 |_=>none
def Ar.d_le: ∀ds x,Ar.d ds=some x->C6 ds (Ar.c x):=by
 intro ds x h;unfold Ar.d at h;split at h
 .simp only[AI] at h;subst h;exact⟨Le.refl _,Le.refl _,trivial⟩
 .cases h
def Ar.d_c(x:Ar):Ar.d (Ar.c x)=some x:=by
 simp only[Ar.c,Ar.d]
def Ar.d_R(l:List Ar):AO Ar.d (l.map Ar.c)=some l:=Ku Ar.d_c l
def Ar.eta(x:Ar):(⟨x.Name,x.Strength⟩:Ar)=x:=rfl
def Ar.len(x:Ar):(Ar.c x).length=2:=rfl
structure Tile where
 Name:ByteArray
 Sides:List Int
 deriving DecidableEq
def Tile.c(x:Tile):List D:=[.str x.Name,.sl false 1 (x.Sides.map Al)]
def Tile.d:List D->Option Tile
 |[.str z,.sl _ _ G]=>(AO Ck G).bind λO=>some ⟨z,O⟩
 |_=>none
def Tile.d_le: ∀ds x,Tile.d ds=some x->C6 ds (Tile.c x):=by
 intro ds x h;unfold Tile.d at h;split at h
 .simp only[Eg,AI] at h;obtain⟨G,z,rfl⟩:=h;exact⟨Le.refl _,DV (DP DU _ _ z) (by simp[Al]),trivial⟩
 .cases h
def Tile.d_c(x:Tile):Tile.d (Tile.c x)=some x:=by
 simp only[Tile.c,Tile.d,iL,EN]
def Tile.d_R(l:List Tile):AO Tile.d (l.map Tile.c)=some l:=Ku Tile.d_c l
def Tile.eta(x:Tile):(⟨x.Name,x.Sides⟩:Tile)=x:=rfl
def Tile.len(x:Tile):(Tile.c x).length=2:=rfl
structure AB where
 Glues:List Ar
 Tiles:List Tile
 deriving DecidableEq
def AB.c(x:AB):List D:=[.sl false 2 (x.Glues.map Ar.c),.sl false 2 (x.Tiles.map Tile.c)]
def AB.d:List D->Option AB
 |[.sl _ _ z,.sl _ _ G]=>(AO Ar.d z).bind λO=>(AO Tile.d G).bind λQ=>some ⟨O,Q⟩
 |_=>none
def AB.d_le: ∀ds x,AB.d ds=some x->C6 ds (AB.c x):=by
 intro ds x h;unfold AB.d at h;split at h
 .simp only[Eg,AI] at h;obtain⟨G,h0,O,z,rfl⟩:=h;exact⟨DV (DP Ar.d_le _ _ h0) (by simp[Ar.c]),DV (DP Tile.d_le _ _ z) (by simp[Tile.c]),trivial⟩
 .cases h
def AB.eta(x:AB):(⟨x.Glues,x.Tiles⟩:AB)=x:=rfl
def AB.len(x:AB):(AB.c x).length=2:=rfl
structure Az where
 Set:AB
 Seed:Ah
 Temperature:Int
 deriving DecidableEq
def Az.c(x:Az):List D:=[.sl false 2 (x.Set.Glues.map Ar.c),.sl false 2 (x.Set.Tiles.map Tile.c),.sl false 3 (x.Seed.Tiles.map Ak.c),.int .i64 x.Temperature]
def Az.d:List D->Option Az
 |[.sl _ _ z,.sl _ _ G,.sl _ _ O,.int .i64 Q]=>(AO Ar.d z).bind λZ=>(AO Tile.d G).bind λy1=>(AO Ak.d O).bind λy2=>some ⟨⟨Z,y1⟩,⟨y2⟩,Q⟩
 |_=>none
def Az.d_le: ∀ds x,Az.d ds=some x->C6 ds (Az.c x):=by
 intro ds x h;unfold Az.d at h;split at h
 .simp only[Eg,AI] at h;obtain⟨O,h0,Q,z,Z,G,rfl⟩:=h;exact⟨DV (DP Ar.d_le _ _ h0) (by simp[Ar.c]),DV (DP Tile.d_le _ _ z) (by simp[Tile.c]),DV (DP Ak.d_le _ _ G) (by simp[Ak.c]),Le.refl _,trivial⟩
 .cases h
def Az.d_c(x:Az):Az.d (Az.c x)=some x:=by
 simp only[Az.c,Az.d,Ar.d_R,Ak.d_R,Tile.d_R,EN]
def Az.eta(x:Az):(⟨x.Set,x.Seed,x.Temperature⟩:Az)=x:=rfl
def Az.len(x:Az):(Az.c x).length=4:=rfl
structure AJ where
 At:Ab
 Tile:Int
 deriving DecidableEq
def AJ.c(x:AJ):List D:=[.int .i64 x.At.X,.int .i64 x.At.Y,.int .i64 x.Tile]
def AJ.d:List D->Option AJ
 |[.int .i64 z,.int .i64 G,.int .i64 O]=>some ⟨⟨z,G⟩,O⟩
 |_=>none
def AJ.d_le: ∀ds x,AJ.d ds=some x->C6 ds (AJ.c x):=by
 intro ds x h;unfold AJ.d at h;split at h
 .simp only[AI] at h;subst h;exact⟨Le.refl _,Le.refl _,Le.refl _,trivial⟩
 .cases h
def AJ.d_c(x:AJ):AJ.d (AJ.c x)=some x:=by
 simp only[AJ.c,AJ.d]
def AJ.d_R(l:List AJ):AO AJ.d (l.map AJ.c)=some l:=Ku AJ.d_c l
def AJ.eta(x:AJ):(⟨x.At,x.Tile⟩:AJ)=x:=rfl
def AJ.len(x:AJ):(AJ.c x).length=3:=rfl
structure Io where
 Big:Az
 Small:Az
 Scale:Int
 Labels:List Int
 deriving DecidableEq
def Io.c(x:Io):List D:=[.sl false 2 (x.Big.Set.Glues.map Ar.c),.sl false 2 (x.Big.Set.Tiles.map Tile.c),.sl false 3 (x.Big.Seed.Tiles.map Ak.c),.int .i64 x.Big.Temperature,.sl false 2 (x.Small.Set.Glues.map Ar.c),.sl false 2 (x.Small.Set.Tiles.map Tile.c),.sl false 3 (x.Small.Seed.Tiles.map Ak.c),.int .i64 x.Small.Temperature,.int .i64 x.Scale,.sl false 1 (x.Labels.map Al)]
def Io.d:List D->Option Io
 |[.sl _ _ z,.sl _ _ G,.sl _ _ O,.int .i64 Q,.sl _ _ Z,.sl _ _ x5,.sl _ _ x6,.int .i64 x7,.int .i64 x8,.sl _ _ x9]=>(AO Ar.d z).bind λy0=>(AO Tile.d G).bind λy1=>(AO Ak.d O).bind λy2=>(AO Ar.d Z).bind λy4=>(AO Tile.d x5).bind λy5=>(AO Ak.d x6).bind λy6=>(AO Ck x9).bind λy9=>some ⟨⟨⟨y0,y1⟩,⟨y2⟩,Q⟩,⟨⟨y4,y5⟩,⟨y6⟩,x7⟩,x8,y9⟩
 |_=>none
def Io.eta(x:Io):(⟨x.Big,x.Small,x.Scale,x.Labels⟩:Io)=x:=rfl
def Io.len(x:Io):(Io.c x).length=10:=rfl
structure Af where
 A:Int
 B:Int
 Strength:Int
 deriving DecidableEq
def Af.c(x:Af):List D:=[.int .i64 x.A,.int .i64 x.B,.int .i64 x.Strength]
def Af.d:List D->Option Af
 |[.int .i64 z,.int .i64 G,.int .i64 O]=>some ⟨z,G,O⟩
 |_=>none
def Af.d_le: ∀ds x,Af.d ds=some x->C6 ds (Af.c x):=by
 intro ds x h;unfold Af.d at h;split at h
 .simp only[AI] at h;subst h;exact⟨Le.refl _,Le.refl _,Le.refl _,trivial⟩
 .cases h
def Af.d_c(x:Af):Af.d (Af.c x)=some x:=by
 simp only[Af.c,Af.d]
def Af.d_R(l:List Af):AO Af.d (l.map Af.c)=some l:=Ku Af.d_c l
def Af.eta(x:Af):(⟨x.A,x.B,x.Strength⟩:Af)=x:=rfl
def Af.len(x:Af):(Af.c x).length=3:=rfl
def Qwu: ∀d x,Er Ab.d d=some x->d= .agg (Ab.c x):=by
 intro d x h;unfold Er at h;split at h
 .rename_i z;unfold Ab.d at h;split at h
  .simp only[AI] at h;subst h;rfl
  .cases h
 .cases h
def Et(p:Ab×Int):D×D:=(.agg (Ab.c p.1),.int .i64 p.2)
def Qmt(l:List (Ab×Int)):FQ (Er Ab.d) Dj (l.map Et)=some l:=Qs4 (λp=>⟨by simp[Et,Er,Ab.d_c],by simp[Et,Dj]⟩) l
def CO(p:Ab×(List Int)):D×D:=(.agg (Ab.c p.1),.sl false 1 (p.2.map Al))
def Qk8(l:List (Ab×(List Int))):FQ (Er Ab.d) (PL Ck) (l.map CO)=some l:=Qs4 (λp=>⟨by simp[CO,Er,Ab.d_c],by simp[CO,PL,iL]⟩) l
structure BZ where
 Sys:Az
 Tl:List (Ab×Int)
 Op:List (Ab×(List Int))
 deriving DecidableEq
def BZ.c(x:BZ):List D:=[.sl false 2 (x.Sys.Set.Glues.map Ar.c),.sl false 2 (x.Sys.Set.Tiles.map Tile.c),.sl false 3 (x.Sys.Seed.Tiles.map Ak.c),.int .i64 x.Sys.Temperature,.mp ⟨true,[.int .i64,.int .i64]⟩ (x.Tl.map Et),.mp ⟨true,[.int .i64,.int .i64]⟩ (x.Op.map CO)]
def BZ.d:List D->Option BZ
 |[.sl _ _ z,.sl _ _ G,.sl _ _ O,.int .i64 Q,.mp ⟨true,[.int .i64,.int .i64]⟩ Z,.mp ⟨true,[.int .i64,.int .i64]⟩ x5]=>(AO Ar.d z).bind λy0=>(AO Tile.d G).bind λy1=>(AO Ak.d O).bind λy2=>(FQ (Er Ab.d) Dj Z).bind λy4=>(FQ (Er Ab.d) (PL Ck) x5).bind λy5=>some ⟨⟨⟨y0,y1⟩,⟨y2⟩,Q⟩,y4,y5⟩
 |_=>none
def BZ.d_le: ∀ds x,BZ.d ds=some x->C6 ds (BZ.c x):=by
 intro ds x h;unfold BZ.d at h;split at h
 .simp only[Eg,AI] at h;obtain⟨Z,h0,y1,z,y2,G,y4,O,y5,Q,rfl⟩:=h;exact⟨DV (DP Ar.d_le _ _ h0) (by simp[Ar.c]),DV (DP Tile.d_le _ _ z) (by simp[Tile.c]),DV (DP Ak.d_le _ _ G) (by simp[Ak.c]),Le.refl _,Sf (xW Qwu Kt _ _ O),Sf (xW Qwu (nU DU (λ_=>rfl)) _ _ Q),trivial⟩
 .cases h
def BZ.eta(x:BZ):(⟨x.Sys,x.Tl,x.Op⟩:BZ)=x:=rfl
def BZ.len(x:BZ):(BZ.c x).length=6:=rfl
structure AZ where
 Cnt:Int
 Bonds:List Af
 At:List (List Int)
 Flow:List Int
 deriving DecidableEq
def AZ.c(x:AZ):List D:=[.int .i64 x.Cnt,.sl false 3 (x.Bonds.map Af.c),.sl false 1 (x.At.map C4),.sl false 1 (x.Flow.map Al)]
def AZ.d:List D->Option AZ
 |[.int .i64 z,.sl _ _ G,.sl _ _ O,.sl _ _ Q]=>(AO Af.d G).bind λZ=>(AO P3 O).bind λy2=>(AO Ck Q).bind λy3=>some ⟨z,Z,y2,y3⟩
 |_=>none
def AZ.d_le: ∀ds x,AZ.d ds=some x->C6 ds (AZ.c x):=by
 intro ds x h;unfold AZ.d at h;split at h
 .simp only[Eg,AI] at h;obtain⟨Q,z,Z,G,y3,O,rfl⟩:=h;exact⟨Le.refl _,DV (DP Af.d_le _ _ z) (by simp[Af.c]),DV (DP cB _ _ G) (by simp[C4]),DV (DP DU _ _ O) (by simp[Al]),trivial⟩
 .cases h
def AZ.eta(x:AZ):(⟨x.Cnt,x.Bonds,x.At,x.Flow⟩:AZ)=x:=rfl
def AZ.len(x:AZ):(AZ.c x).length=4:=rfl
structure Ba where
 Room:List (List Int)
 Flow:List (List Int)
 deriving DecidableEq
def Ba.c(x:Ba):List D:=[.sl false 1 (x.Room.map C4),.sl false 1 (x.Flow.map C4)]
def Ba.d:List D->Option Ba
 |[.sl _ _ z,.sl _ _ G]=>(AO P3 z).bind λO=>(AO P3 G).bind λQ=>some ⟨O,Q⟩
 |_=>none
def Ba.d_le: ∀ds x,Ba.d ds=some x->C6 ds (Ba.c x):=by
 intro ds x h;unfold Ba.d at h;split at h
 .simp only[Eg,AI] at h;obtain⟨G,h0,O,z,rfl⟩:=h;exact⟨DV (DP cB _ _ h0) (by simp[C4]),DV (DP cB _ _ z) (by simp[C4]),trivial⟩
 .cases h
def Ba.d_c(x:Ba):Ba.d (Ba.c x)=some x:=by
 simp only[Ba.c,Ba.d,Mu,EN]
def Ba.eta(x:Ba):(⟨x.Room,x.Flow⟩:Ba)=x:=rfl
def Ba.len(x:Ba):(Ba.c x).length=2:=rfl
structure E3 where
 Kind:Int
 Sequence:List AJ
 Other:List AJ
 Part:List Int
 Flows:List (List Int)
 deriving DecidableEq
def E3.c(x:E3):List D:=[.int .i64 x.Kind,.sl false 3 (x.Sequence.map AJ.c),.sl false 3 (x.Other.map AJ.c),.sl false 1 (x.Part.map Al),.sl false 1 (x.Flows.map C4)]
def E3.d:List D->Option E3
 |[.int .i64 z,.sl _ _ G,.sl _ _ O,.sl _ _ Q,.sl _ _ Z]=>(AO AJ.d G).bind λy1=>(AO AJ.d O).bind λy2=>(AO Ck Q).bind λy3=>(AO P3 Z).bind λy4=>some ⟨z,y1,y2,y3,y4⟩
 |_=>none
def E3.eta(x:E3):(⟨x.Kind,x.Sequence,x.Other,x.Part,x.Flows⟩:E3)=x:=rfl
def E3.len(x:E3):(E3.c x).length=5:=rfl
structure E0 where
 Num:Int
 Den:Int
 deriving DecidableEq
def E0.c(x:E0):List D:=[.int .i64 x.Num,.int .i64 x.Den]
def E0.d:List D->Option E0
 |[.int .i64 z,.int .i64 G]=>some ⟨z,G⟩
 |_=>none
def E0.eta(x:E0):(⟨x.Num,x.Den⟩:E0)=x:=rfl
def E0.len(x:E0):(E0.c x).length=2:=rfl
structure Jt where
 Sys:Az
 Seq:List AJ
 End:Ah
 Inputs:List Int
 Strength:List Int
 deriving DecidableEq
def Jt.c(x:Jt):List D:=[.sl false 2 (x.Sys.Set.Glues.map Ar.c),.sl false 2 (x.Sys.Set.Tiles.map Tile.c),.sl false 3 (x.Sys.Seed.Tiles.map Ak.c),.int .i64 x.Sys.Temperature,.sl false 3 (x.Seq.map AJ.c),.sl false 3 (x.End.Tiles.map Ak.c),.sl false 1 (x.Inputs.map Al),.sl false 1 (x.Strength.map Al)]
def Jt.d:List D->Option Jt
 |[.sl _ _ z,.sl _ _ G,.sl _ _ O,.int .i64 Q,.sl _ _ Z,.sl _ _ x5,.sl _ _ x6,.sl _ _ x7]=>(AO Ar.d z).bind λy0=>(AO Tile.d G).bind λy1=>(AO Ak.d O).bind λy2=>(AO AJ.d Z).bind λy4=>(AO Ak.d x5).bind λy5=>(AO Ck x6).bind λy6=>(AO Ck x7).bind λy7=>some ⟨⟨⟨y0,y1⟩,⟨y2⟩,Q⟩,y4,⟨y5⟩,y6,y7⟩
 |_=>none
def Jt.eta(x:Jt):(⟨x.Sys,x.Seq,x.End,x.Inputs,x.Strength⟩:Jt)=x:=rfl
def Jt.len(x:Jt):(Jt.c x).length=8:=rfl
end Go.Ae
