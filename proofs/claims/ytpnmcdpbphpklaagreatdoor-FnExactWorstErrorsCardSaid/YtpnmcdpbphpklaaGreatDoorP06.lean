/- Lemmas. Conditions: none. -/
import Derived.Test.YtpnmcdpbphpklaaGreatDoorP05
import Derived.KernelRfl
set_option linter.all false
set_option maxHeartbeats 8000000
set_option maxRecDepth 100000
namespace Go.Ae
def NJ{α β:Type}(f:α->List β)(l:List α)(i:Nat)(K:List β->Prop):Jo (l.map f) i K= ∀x,l[i]? =some x->K (f x):=by
 apply propext;unfold Jo;constructor
 .intro h x z;exact h (f x) (by simp[z])
 .intro h row G;simp only[Ef,CX] at G;obtain⟨x,z,rfl⟩:=G;exact h x z
def Qah{α β:Type}(g:List β->Bool)(f:α->List β)(l:List α):Ce g (l.map f)= ∀x∈l,g (f x)=true:=by
 apply propext;unfold Ce;simp
def FJ{β:Type}(g:List β->Bool):Ce g []=True:=by
 simp[Ce]
def FI{β:Type}(g:List β->Bool)(r:List β)(l:List (List β)):Ce g (r::l)=(g r=true/\Ce g l):=by
 simp[Ce]
def PL{β:Type}(g:List β->Bool)(a b:List (List β)):Ce g (a++b)=(Ce g a/\Ce g b):=by
 apply propext;simp only[Ce,Bp];constructor
 .exact λh=>⟨λr z=>h r (.inl z),λr z=>h r (.inr z)⟩
 .rintro⟨G,O⟩ r (z|z)
  .exact G r z
  .exact O r z
def Qt{α:Type}(l:List α):(∀x∈l,True)=True:=by simp
def Qqj: ∀(l:List Nat),ND l []=true
 |[]=>rfl
 |x::r=>by simp[ND,Qqj r]
def TM(h:Nat->Option Ap):Dz h []=[]:=rfl
def OR(h:Nat->Option Ap)(x:AV)(r:List AV):Dz h (x::r)=rch h 9 x++Dz h r:=by simp[Dz]
def AM{p:Prop}[Decidable p]{A B:Prop}:(if p then A else B)↔((p->A)/\(¬p->B)):=by
 by_cases h:p<;>simp[h]
def AB{x:Int}(z: -9223372036854775808<=x)(G:x<=9223372036854775807):IntKind.wrap .i64 x=x:=IntWalk.i64_in x ⟨z,G⟩
def kM{α:Type}{rows:List (List α)}{i:Nat}{K:List α->Prop}{r:List α}(h:rows[i]? =some r)(G:K r):Jo rows i K:=by
 intro r' z;rw[h] at z;exact Aw z▸G
def GH{P:Nat->Prop}{n k:Nat}(z:k<n)(hn:n<=140737488355328)(h:P (k+1)): ∃b':{k:Nat//P k},n - b'.val<n - k/\IntKind.wrap .i64 ((k:Int)+1)=b'.val:=by
 refine⟨⟨k+1,h⟩,by simp only;omega,?_⟩;rw[AB (by omega) (by omega)];simp only;omega
def Xn(a b:Nat):Nat.blt a b=decide (a<b):=by
 rw[V6];simp
def Xm(a b:Nat):Nat.ble a b=decide (a<=b):=by
 rw[V6];simp
def Ao(n:Int):List D:=[.int .i64 n]
def Dy:List D->Option Int
 |[.int .i64 n]=>some n
 |_=>none
def FK: ∀ds x,Dy ds=some x->CM ds (Ao x):=by
 intro ds x h;unfold Dy at h;split at h
 .simp only[AI] at h;subst h;exact⟨Le.refl _,trivial⟩
 .cases h
def gO(x:Int):Dy (Ao x)=some x:=rfl
def lH(l:List Int):AQ Dy (l.map Ao)=some l:=PM gO l
def iZ(n:ByteArray):List D:=[.str n]
def YR:List D->Option ByteArray
 |[.str n]=>some n
 |_=>none
def jB(x:ByteArray):YR (iZ x)=some x:=rfl
def jA(l:List ByteArray):AQ YR (l.map iZ)=some l:=PM jB l
def Du(x:List Int):List D:=[.sl false 1 (x.map Ao)]
def Vu:List D->Option (List Int)
 |[.sl _ _ rows]=>AQ Dy rows
 |_=>none
def rQ: ∀ds x,Vu ds=some x->CM ds (Du x):=by
 intro ds x h;unfold Vu at h;split at h
 .exact⟨E4 (Et FK _ _ h) (by simp[Ao]),trivial⟩
 .cases h
def YD(x:List Int):Vu (Du x)=some x:=lH x
def MC(l:List (List Int)):AQ Vu (l.map Du)=some l:=PM YD l
def DJ:D->Option Int
 | .int .i64 n=>some n
 |_=>none
def Nf: ∀d x,DJ d=some x->Le d (.int .i64 x):=by
 intro d x h;unfold DJ at h;split at h
 .simp only[AI] at h;subst h;exact Le.refl _
 .cases h
def UP:D->Option ByteArray
 | .str n=>some n
 |_=>none
def YY: ∀d x,UP d=some x->Le d (.str x):=by
 intro d x h;unfold UP at h;split at h
 .simp only[AI] at h;subst h;exact Le.refl _
 .cases h
def VL:D->Option Bool
 | .bool n=>some n
 |_=>none
def pJ: ∀d x,VL d=some x->Le d (.bool x):=by
 intro d x h;unfold VL at h;split at h
 .simp only[AI] at h;subst h;exact Le.refl _
 .cases h
def Qp{A:Type}(f:List D->Option A):D->Option (List A)
 | .sl _ _ rows=>AQ f rows
 |_=>none
def qN{A:Type}{f:List D->Option A}{e:A->List D}{k:Nat}(hf: ∀ds x,f ds=some x->CM ds (e x))(z: ∀x,(e x).length=k): ∀d x,Qp f d=some x->Le d (.sl false k (x.map e)):=by
 intro d x h;unfold Qp at h;split at h
 .exact E4 (Et hf _ _ h) (by simp only[BI];rintro r ⟨y,_,rfl⟩;exact z y)
 .cases h
def EH{A:Type}(f:List D->Option A):D->Option A
 | .agg cs=>f cs
 |_=>none
def MU{A:Type}{f:List D->Option A}{e:A->List D}(hf: ∀ds x,f ds=some x->CM ds (e x)): ∀d x,EH f d=some x->Le d (.agg (e x)):=by
 intro d x h;unfold EH at h;split at h
 .exact Zf (hf _ _ h)
 .cases h
def jT{A B:Type}(f:D->Option A)(g:D->Option B):D->Option (A×B)
 | .tup [x,y]=>(f x).bind λa=>(g y).map λb=>(a,b)
 |_=>none
def Qbz{A B:Type}{f:D->Option A}{g:D->Option B}{e:A->D}{e':B->D}(hf: ∀d x,f d=some x->Le d (e x))(O: ∀d x,g d=some x->Le d (e' x)): ∀d (x:A×B),jT f g d=some x->Le d (.tup [e x.1,e' x.2]):=by
 intro d x h;unfold jT at h;split at h
 .simp only[EP,CX] at h;obtain⟨a,z,b,G,rfl⟩:=h;exact Ki ⟨hf _ _ z,O _ _ G,trivial⟩
 .cases h
def Jk{A B E:Type}(f:D->Option A)(g:D->Option B)(k:D->Option E):D->Option (A×B×E)
 | .tup [x,y,z]=>(f x).bind λa=>(g y).bind λb=>(k z).map λc=>(a,b,c)
 |_=>none
def UQ{A B E:Type}{f:D->Option A}{g:D->Option B}{k:D->Option E}{e:A->D}{e':B->D}{e'':E->D}(hf: ∀d x,f d=some x->Le d (e x))(Q: ∀d x,g d=some x->Le d (e' x))(Z: ∀d x,k d=some x->Le d (e'' x)):
 ∀d (x:A×B×E),Jk f g k d=some x->Le d (.tup [e x.1,e' x.2.1,e'' x.2.2]):=by
 intro d x h;unfold Jk at h;split at h
 .simp only[EP,CX] at h;obtain⟨a,z,b,G,c,O,rfl⟩:=h;exact Ki ⟨hf _ _ z,Q _ _ G,Z _ _ O,trivial⟩
 .cases h
def Gj{A B:Type}(f:D->Option A)(g:D->Option B):List (D×D)->Option (List (A×B))
 |[]=>some []
 |(x,y)::r=>(f x).bind λa=>(g y).bind λb=>(Gj f g r).map λl=>(a,b)::l
def VI:List (D×D)->List (D×D)->Prop
 |[],[]=>True
 |(x,y)::r,(x',y')::r'=>x=x'/\Le y y'/\VI r r'
 |[],_::_=>False
 |_::_,[]=>False
def Qxb{A B:Type}{f:D->Option A}{g:D->Option B}{z:A->D}{G:B->D}(hf: ∀d x,f d=some x->d=z x)(O: ∀d x,g d=some x->Le d (G x)): ∀(es:List (D×D)) (l:List (A×B)),Gj f g es=some l->VI es (l.map λp=>(z p.1,G p.2))
 |[],l,h=>by
  simp only[Gj,AI] at h;subst h;trivial
 |(x,y)::r,l,h=>by
  simp only[Gj,EP,CX] at h;obtain⟨a,Q,b,Z,l',hl,rfl⟩:=h;exact⟨hf _ _ Q,O _ _ Z,Qxb hf O r l' hl⟩
def VI.rde{ok:Nat->Prop}{hp:Nat->Option Obj}: ∀{a b:List (D×D)} {es:List MapEntry},VI a b->Ae.rde ok hp a es->Ae.rde ok hp b es
 |[],[],_,_,h=>h
 |(x,y)::r,(x',y')::r',es,Q,h=>by
  simp only[Ae.rde] at h⊢;obtain⟨e,q,rfl,z,G,O⟩:=h;obtain⟨rfl,Z,l3⟩:=Q;exact⟨e,q,rfl,z,Z _ _ _ G,VI.rde l3 O⟩
 |[],_::_,_,h,_=>h.elim
 |_::_,[],_,h,_=>h.elim
def VI.fit{G:KT}: ∀{a b:List (D×D)},VI a b->(∀e∈a,G.fit e.1=true)-> ∀e∈b,G.fit e.1=true
 |[],[],_,h=>h
 |(x,y)::r,(x',y')::r',O,h=>by
  obtain⟨rfl,_,Q⟩:=O;intro e z;rcases Bx.1 z with rfl|z
  .exact h (x,y) (Cb ..)
  .exact VI.fit Q (λe z=>h e (BZ _ z)) e z
 |[],_::_,h,_=>h.elim
 |_::_,[],h,_=>h.elim
def SR{Q:KT}{a b:List (D×D)}(h:VI a b):Le (.mp Q a) (.mp Q b):=by
 intro ok hp v O;simp only[rd] at O⊢;obtain⟨bk,G,z,rfl,Z,h2,h3,h4,h5⟩:=O;exact⟨bk,G,z,rfl,h.fit Z,h2,h3,h.rde h4,h5⟩
def Qs4{A B:Type}{f:D->Option A}{g:D->Option B}{m:A×B->D×D}(h: ∀p,f (m p).1=some p.1/\g (m p).2=some p.2): ∀(l:List (A×B)),Gj f g (l.map m)=some l
 |[]=>rfl
 |p::r=>by
  simp only[Bb,Gj,(h p).1,(h p).2,H3,Qs4 h r,DW]
structure Ac where
 X:Int
 Y:Int
 deriving DecidableEq
def Ac.c(x:Ac):List D:=[.int .i64 x.X,.int .i64 x.Y]
def Ac.d:List D->Option Ac
 |[.int .i64 z,.int .i64 G]=>some ⟨z,G⟩
 |_=>none
def Ac.d_le: ∀ds x,Ac.d ds=some x->CM ds (Ac.c x):=by
 intro ds x h;unfold Ac.d at h;split at h
 .simp only[AI] at h;subst h;exact⟨Le.refl _,Le.refl _,trivial⟩
 .cases h
def Ac.d_c(x:Ac):Ac.d (Ac.c x)=some x:=by
 simp only[Ac.c,Ac.d]
def Ac.d_R(l:List Ac):AQ Ac.d (l.map Ac.c)=some l:=PM Ac.d_c l
def Ac.eta(x:Ac):(⟨x.X,x.Y⟩:Ac)=x:=rfl
def Ac.len(x:Ac):(Ac.c x).length=2:=rfl
structure Aj where
 At:Ac
 Tile:Int
 deriving DecidableEq
def Aj.c(x:Aj):List D:=[.int .i64 x.At.X,.int .i64 x.At.Y,.int .i64 x.Tile]
def Aj.d:List D->Option Aj
 |[.int .i64 z,.int .i64 G,.int .i64 O]=>some ⟨⟨z,G⟩,O⟩
 |_=>none
def Aj.d_le: ∀ds x,Aj.d ds=some x->CM ds (Aj.c x):=by
 intro ds x h;unfold Aj.d at h;split at h
 .simp only[AI] at h;subst h;exact⟨Le.refl _,Le.refl _,Le.refl _,trivial⟩
 .cases h
def Aj.d_c(x:Aj):Aj.d (Aj.c x)=some x:=by
 simp only[Aj.c,Aj.d]
def Aj.d_R(l:List Aj):AQ Aj.d (l.map Aj.c)=some l:=PM Aj.d_c l
def Aj.eta(x:Aj):(⟨x.At,x.Tile⟩:Aj)=x:=rfl
def Aj.len(x:Aj):(Aj.c x).length=3:=rfl
structure Ab where
 Tiles:List Aj
 deriving DecidableEq
def Ab.c(x:Ab):List D:=[.sl false 3 (x.Tiles.map Aj.c)]
def Ab.d:List D->Option Ab
 |[.sl _ _ z]=>(AQ Aj.d z).bind λG=>some ⟨G⟩
 |_=>none
def Ab.d_le: ∀ds x,Ab.d ds=some x->CM ds (Ab.c x):=by
 intro ds x h;unfold Ab.d at h;split at h
 .simp only[EP,AI] at h;obtain⟨z,h0,rfl⟩:=h;exact⟨E4 (Et Aj.d_le _ _ h0) (by simp[Aj.c]),trivial⟩
 .cases h
def Ab.d_c(x:Ab):Ab.d (Ab.c x)=some x:=by
 simp only[Ab.c,Ab.d,Aj.d_R,H3]
def Ab.d_R(l:List Ab):AQ Ab.d (l.map Ab.c)=some l:=PM Ab.d_c l
def Ab.eta(x:Ab):(⟨x.Tiles⟩:Ab)=x:=rfl
def Ab.len(x:Ab):(Ab.c x).length=1:=rfl
structure Av where
 Name:ByteArray
 Strength:Int
 deriving DecidableEq
def Av.c(x:Av):List D:=[.str x.Name,.int .i64 x.Strength]
def Av.d:List D->Option Av
 |[.str z,.int .i64 G]=>some ⟨z,G⟩
 |_=>none
def Av.d_le: ∀ds x,Av.d ds=some x->CM ds (Av.c x):=by
 intro ds x h;unfold Av.d at h;split at h
 .simp only[AI] at h;subst h;exact⟨Le.refl _,Le.refl _,trivial⟩
 .cases h
def Av.d_c(x:Av):Av.d (Av.c x)=some x:=by
 simp only[Av.c,Av.d]
def Av.d_R(l:List Av):AQ Av.d (l.map Av.c)=some l:=PM Av.d_c l
def Av.eta(x:Av):(⟨x.Name,x.Strength⟩:Av)=x:=rfl
def Av.len(x:Av):(Av.c x).length=2:=rfl
structure Tile where
 Name:ByteArray
 Sides:List Int
 deriving DecidableEq
def Tile.c(x:Tile):List D:=[.str x.Name,.sl false 1 (x.Sides.map Ao)]
def Tile.d:List D->Option Tile
 |[.str z,.sl _ _ G]=>(AQ Dy G).bind λO=>some ⟨z,O⟩
 |_=>none
def Tile.d_le: ∀ds x,Tile.d ds=some x->CM ds (Tile.c x):=by
 intro ds x h;unfold Tile.d at h;split at h
 .simp only[EP,AI] at h;obtain⟨G,z,rfl⟩:=h;exact⟨Le.refl _,E4 (Et FK _ _ z) (by simp[Ao]),trivial⟩
 .cases h
def Tile.d_c(x:Tile):Tile.d (Tile.c x)=some x:=by
 simp only[Tile.c,Tile.d,lH,H3]
def Tile.d_R(l:List Tile):AQ Tile.d (l.map Tile.c)=some l:=PM Tile.d_c l
def Tile.eta(x:Tile):(⟨x.Name,x.Sides⟩:Tile)=x:=rfl
def Tile.len(x:Tile):(Tile.c x).length=2:=rfl
structure A8 where
 Glues:List Av
 Tiles:List Tile
 deriving DecidableEq
def A8.c(x:A8):List D:=[.sl false 2 (x.Glues.map Av.c),.sl false 2 (x.Tiles.map Tile.c)]
def A8.d:List D->Option A8
 |[.sl _ _ z,.sl _ _ G]=>(AQ Av.d z).bind λO=>(AQ Tile.d G).bind λQ=>some ⟨O,Q⟩
 |_=>none
def A8.d_le: ∀ds x,A8.d ds=some x->CM ds (A8.c x):=by
 intro ds x h;unfold A8.d at h;split at h
 .simp only[EP,AI] at h;obtain⟨G,h0,O,z,rfl⟩:=h;exact⟨E4 (Et Av.d_le _ _ h0) (by simp[Av.c]),E4 (Et Tile.d_le _ _ z) (by simp[Tile.c]),trivial⟩
 .cases h
def A8.eta(x:A8):(⟨x.Glues,x.Tiles⟩:A8)=x:=rfl
def A8.len(x:A8):(A8.c x).length=2:=rfl
structure Am where
 Set:A8
 Seed:Ab
 Temperature:Int
 deriving DecidableEq
def Am.c(x:Am):List D:=[.sl false 2 (x.Set.Glues.map Av.c),.sl false 2 (x.Set.Tiles.map Tile.c),.sl false 3 (x.Seed.Tiles.map Aj.c),.int .i64 x.Temperature]
def Am.d:List D->Option Am
 |[.sl _ _ z,.sl _ _ G,.sl _ _ O,.int .i64 Q]=>(AQ Av.d z).bind λZ=>(AQ Tile.d G).bind λy1=>(AQ Aj.d O).bind λy2=>some ⟨⟨Z,y1⟩,⟨y2⟩,Q⟩
 |_=>none
def Am.d_le: ∀ds x,Am.d ds=some x->CM ds (Am.c x):=by
 intro ds x h;unfold Am.d at h;split at h
 .simp only[EP,AI] at h;obtain⟨O,h0,Q,z,Z,G,rfl⟩:=h;exact⟨E4 (Et Av.d_le _ _ h0) (by simp[Av.c]),E4 (Et Tile.d_le _ _ z) (by simp[Tile.c]),E4 (Et Aj.d_le _ _ G) (by simp[Aj.c]),Le.refl _,trivial⟩
 .cases h
def Am.eta(x:Am):(⟨x.Set,x.Seed,x.Temperature⟩:Am)=x:=rfl
def Am.len(x:Am):(Am.c x).length=4:=rfl
structure Ba where
 At:Ac
 Tile:Int
 deriving DecidableEq
def Ba.c(x:Ba):List D:=[.int .i64 x.At.X,.int .i64 x.At.Y,.int .i64 x.Tile]
def Ba.d:List D->Option Ba
 |[.int .i64 z,.int .i64 G,.int .i64 O]=>some ⟨⟨z,G⟩,O⟩
 |_=>none
def Ba.d_le: ∀ds x,Ba.d ds=some x->CM ds (Ba.c x):=by
 intro ds x h;unfold Ba.d at h;split at h
 .simp only[AI] at h;subst h;exact⟨Le.refl _,Le.refl _,Le.refl _,trivial⟩
 .cases h
def Ba.d_c(x:Ba):Ba.d (Ba.c x)=some x:=by
 simp only[Ba.c,Ba.d]
def Ba.d_R(l:List Ba):AQ Ba.d (l.map Ba.c)=some l:=PM Ba.d_c l
def Ba.eta(x:Ba):(⟨x.At,x.Tile⟩:Ba)=x:=rfl
def Ba.len(x:Ba):(Ba.c x).length=3:=rfl
structure Hm where
 Big:Am
 Small:Am
 Scale:Int
 Labels:List Int
 deriving DecidableEq
def Hm.c(x:Hm):List D:=[.sl false 2 (x.Big.Set.Glues.map Av.c),.sl false 2 (x.Big.Set.Tiles.map Tile.c),.sl false 3 (x.Big.Seed.Tiles.map Aj.c),.int .i64 x.Big.Temperature,.sl false 2 (x.Small.Set.Glues.map Av.c),.sl false 2 (x.Small.Set.Tiles.map Tile.c),.sl false 3 (x.Small.Seed.Tiles.map Aj.c),.int .i64 x.Small.Temperature,.int .i64 x.Scale,.sl false 1 (x.Labels.map Ao)]
def Hm.d:List D->Option Hm
 |[.sl _ _ z,.sl _ _ G,.sl _ _ O,.int .i64 Q,.sl _ _ Z,.sl _ _ x5,.sl _ _ x6,.int .i64 x7,.int .i64 x8,.sl _ _ x9]=>(AQ Av.d z).bind λy0=>(AQ Tile.d G).bind λy1=>(AQ Aj.d O).bind λy2=>(AQ Av.d Z).bind λy4=>(AQ Tile.d x5).bind λy5=>(AQ Aj.d x6).bind λy6=>(AQ Dy x9).bind λy9=>some ⟨⟨⟨y0,y1⟩,⟨y2⟩,Q⟩,⟨⟨y4,y5⟩,⟨y6⟩,x7⟩,x8,y9⟩
 |_=>none
def Hm.eta(x:Hm):(⟨x.Big,x.Small,x.Scale,x.Labels⟩:Hm)=x:=rfl
def Hm.len(x:Hm):(Hm.c x).length=10:=rfl
structure Af where
 A:Int
 B:Int
 Strength:Int
 deriving DecidableEq
def Af.c(x:Af):List D:=[.int .i64 x.A,.int .i64 x.B,.int .i64 x.Strength]
def Af.d:List D->Option Af
 |[.int .i64 z,.int .i64 G,.int .i64 O]=>some ⟨z,G,O⟩
 |_=>none
def Af.d_le: ∀ds x,Af.d ds=some x->CM ds (Af.c x):=by
 intro ds x h;unfold Af.d at h;split at h
 .simp only[AI] at h;subst h;exact⟨Le.refl _,Le.refl _,Le.refl _,trivial⟩
 .cases h
def Af.d_c(x:Af):Af.d (Af.c x)=some x:=by
 simp only[Af.c,Af.d]
def Af.d_R(l:List Af):AQ Af.d (l.map Af.c)=some l:=PM Af.d_c l
def Af.eta(x:Af):(⟨x.A,x.B,x.Strength⟩:Af)=x:=rfl
def Af.len(x:Af):(Af.c x).length=3:=rfl
def Qwu: ∀d x,EH Ac.d d=some x->d= .agg (Ac.c x):=by
 intro d x h;unfold EH at h;split at h
 .rename_i cs;unfold Ac.d at h;split at h
  .simp only[AI] at h;subst h;rfl
  .cases h
 .cases h
def Gx(p:Ac×Int):D×D:=(.agg (Ac.c p.1),.int .i64 p.2)
def Qmt(l:List (Ac×Int)):Gj (EH Ac.d) DJ (l.map Gx)=some l:=Qs4 (λp=>⟨by simp[Gx,EH,Ac.d_c],by simp[Gx,DJ]⟩) l
def DL(p:Ac×(List Int)):D×D:=(.agg (Ac.c p.1),.sl false 1 (p.2.map Ao))
def Qk8(l:List (Ac×(List Int))):Gj (EH Ac.d) (Qp Dy) (l.map DL)=some l:=Qs4 (λp=>⟨by simp[DL,EH,Ac.d_c],by simp[DL,Qp,lH]⟩) l
structure AW where
 Sys:Am
 Tl:List (Ac×Int)
 Op:List (Ac×(List Int))
 deriving DecidableEq
def AW.c(x:AW):List D:=[.sl false 2 (x.Sys.Set.Glues.map Av.c),.sl false 2 (x.Sys.Set.Tiles.map Tile.c),.sl false 3 (x.Sys.Seed.Tiles.map Aj.c),.int .i64 x.Sys.Temperature,.mp ⟨true,[.int .i64,.int .i64]⟩ (x.Tl.map Gx),.mp ⟨true,[.int .i64,.int .i64]⟩ (x.Op.map DL)]
def AW.d:List D->Option AW
 |[.sl _ _ z,.sl _ _ G,.sl _ _ O,.int .i64 Q,.mp ⟨true,[.int .i64,.int .i64]⟩ Z,.mp ⟨true,[.int .i64,.int .i64]⟩ x5]=>(AQ Av.d z).bind λy0=>(AQ Tile.d G).bind λy1=>(AQ Aj.d O).bind λy2=>(Gj (EH Ac.d) DJ Z).bind λy4=>(Gj (EH Ac.d) (Qp Dy) x5).bind λy5=>some ⟨⟨⟨y0,y1⟩,⟨y2⟩,Q⟩,y4,y5⟩
 |_=>none
def AW.d_le: ∀ds x,AW.d ds=some x->CM ds (AW.c x):=by
 intro ds x h;unfold AW.d at h;split at h
 .simp only[EP,AI] at h;obtain⟨Z,h0,y1,z,y2,G,y4,O,y5,Q,rfl⟩:=h;exact⟨E4 (Et Av.d_le _ _ h0) (by simp[Av.c]),E4 (Et Tile.d_le _ _ z) (by simp[Tile.c]),E4 (Et Aj.d_le _ _ G) (by simp[Aj.c]),Le.refl _,SR (Qxb Qwu Nf _ _ O),SR (Qxb Qwu (qN FK (λ_=>rfl)) _ _ Q),trivial⟩
 .cases h
def AW.d_c(x:AW):AW.d (AW.c x)=some x:=by
 simp only[AW.c,AW.d,Av.d_R,Aj.d_R,Tile.d_R,Qmt,Qk8,H3]
def AW.eta(x:AW):(⟨x.Sys,x.Tl,x.Op⟩:AW)=x:=rfl
def AW.len(x:AW):(AW.c x).length=6:=rfl
structure Bc where
 Cnt:Int
 Bonds:List Af
 At:List (List Int)
 Flow:List Int
 deriving DecidableEq
def Bc.c(x:Bc):List D:=[.int .i64 x.Cnt,.sl false 3 (x.Bonds.map Af.c),.sl false 1 (x.At.map Du),.sl false 1 (x.Flow.map Ao)]
def Bc.d:List D->Option Bc
 |[.int .i64 z,.sl _ _ G,.sl _ _ O,.sl _ _ Q]=>(AQ Af.d G).bind λZ=>(AQ Vu O).bind λy2=>(AQ Dy Q).bind λy3=>some ⟨z,Z,y2,y3⟩
 |_=>none
def Bc.d_le: ∀ds x,Bc.d ds=some x->CM ds (Bc.c x):=by
 intro ds x h;unfold Bc.d at h;split at h
 .simp only[EP,AI] at h;obtain⟨Q,z,Z,G,y3,O,rfl⟩:=h;exact⟨Le.refl _,E4 (Et Af.d_le _ _ z) (by simp[Af.c]),E4 (Et rQ _ _ G) (by simp[Du]),E4 (Et FK _ _ O) (by simp[Ao]),trivial⟩
 .cases h
def Bc.eta(x:Bc):(⟨x.Cnt,x.Bonds,x.At,x.Flow⟩:Bc)=x:=rfl
def Bc.len(x:Bc):(Bc.c x).length=4:=rfl
structure Be where
 Room:List (List Int)
 Flow:List (List Int)
 deriving DecidableEq
def Be.c(x:Be):List D:=[.sl false 1 (x.Room.map Du),.sl false 1 (x.Flow.map Du)]
def Be.d:List D->Option Be
 |[.sl _ _ z,.sl _ _ G]=>(AQ Vu z).bind λO=>(AQ Vu G).bind λQ=>some ⟨O,Q⟩
 |_=>none
def Be.d_le: ∀ds x,Be.d ds=some x->CM ds (Be.c x):=by
 intro ds x h;unfold Be.d at h;split at h
 .simp only[EP,AI] at h;obtain⟨G,h0,O,z,rfl⟩:=h;exact⟨E4 (Et rQ _ _ h0) (by simp[Du]),E4 (Et rQ _ _ z) (by simp[Du]),trivial⟩
 .cases h
def Be.d_c(x:Be):Be.d (Be.c x)=some x:=by
 simp only[Be.c,Be.d,MC,H3]
def Be.eta(x:Be):(⟨x.Room,x.Flow⟩:Be)=x:=rfl
def Be.len(x:Be):(Be.c x).length=2:=rfl
structure J3 where
 Kind:Int
 Sequence:List Ba
 Other:List Ba
 Part:List Int
 Flows:List (List Int)
 deriving DecidableEq
def J3.c(x:J3):List D:=[.int .i64 x.Kind,.sl false 3 (x.Sequence.map Ba.c),.sl false 3 (x.Other.map Ba.c),.sl false 1 (x.Part.map Ao),.sl false 1 (x.Flows.map Du)]
def J3.d:List D->Option J3
 |[.int .i64 z,.sl _ _ G,.sl _ _ O,.sl _ _ Q,.sl _ _ Z]=>(AQ Ba.d G).bind λy1=>(AQ Ba.d O).bind λy2=>(AQ Dy Q).bind λy3=>(AQ Vu Z).bind λy4=>some ⟨z,y1,y2,y3,y4⟩
 |_=>none
def J3.len(x:J3):(J3.c x).length=5:=rfl
structure Ea where
 Num:Int
 Den:Int
 deriving DecidableEq
def Ea.c(x:Ea):List D:=[.int .i64 x.Num,.int .i64 x.Den]
def Ea.d:List D->Option Ea
 |[.int .i64 z,.int .i64 G]=>some ⟨z,G⟩
 |_=>none
def Ea.len(x:Ea):(Ea.c x).length=2:=rfl
structure bK where
 Sys:Am
 Seq:List Ba
 End:Ab
 Inputs:List Int
 Strength:List Int
 deriving DecidableEq
def bK.c(x:bK):List D:=[.sl false 2 (x.Sys.Set.Glues.map Av.c),.sl false 2 (x.Sys.Set.Tiles.map Tile.c),.sl false 3 (x.Sys.Seed.Tiles.map Aj.c),.int .i64 x.Sys.Temperature,.sl false 3 (x.Seq.map Ba.c),.sl false 3 (x.End.Tiles.map Aj.c),.sl false 1 (x.Inputs.map Ao),.sl false 1 (x.Strength.map Ao)]
def bK.d:List D->Option bK
 |[.sl _ _ z,.sl _ _ G,.sl _ _ O,.int .i64 Q,.sl _ _ Z,.sl _ _ x5,.sl _ _ x6,.sl _ _ x7]=>(AQ Av.d z).bind λy0=>(AQ Tile.d G).bind λy1=>(AQ Aj.d O).bind λy2=>(AQ Ba.d Z).bind λy4=>(AQ Aj.d x5).bind λy5=>(AQ Dy x6).bind λy6=>(AQ Dy x7).bind λy7=>some ⟨⟨⟨y0,y1⟩,⟨y2⟩,Q⟩,y4,⟨y5⟩,y6,y7⟩
 |_=>none
def bK.len(x:bK):(bK.c x).length=8:=rfl
end Go.Ae
