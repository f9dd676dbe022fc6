/- Lemmas. Conditions: none. -/
import Derived.Test.YtelbgmfdnnljoabGreatDoorP05
import Derived.KernelRfl
set_option linter.all false
set_option maxHeartbeats 8000000
set_option maxRecDepth 100000
namespace Go.Ae
def OA{α β:Type}(f:α->List β)(l:List α)(i:Nat)(K:List β->Prop):JY (l.map f) i K= ∀x,l[i]? =some x->K (f x):=by
 apply propext;unfold JY;constructor
 .intro h x z;exact h (f x) (by simp[z])
 .intro h row O;simp only[D3,D4] at O;obtain⟨x,z,rfl⟩:=O;exact h x z
def Rc{α β:Type}(g:List β->Bool)(f:α->List β)(l:List α):Bj g (l.map f)= ∀x∈l,g (f x)=true:=by
 apply propext;unfold Bj;simp
def WJ{β:Type}(g:List β->Bool):Bj g []=True:=by
 simp[Bj]
def W9{β:Type}(g:List β->Bool)(r:List β)(l:List (List β)):Bj g (r::l)=(g r=true/\Bj g l):=by
 simp[Bj]
def WH{β:Type}(g:List β->Bool)(a b:List (List β)):Bj g (a++b)=(Bj g a/\Bj g b):=by
 apply propext;simp only[Bj,B7];constructor
 .exact λh=>⟨λr z=>h r (.inl z),λr z=>h r (.inr z)⟩
 .rintro⟨O,Q⟩ r (z|z)
  .exact O r z
  .exact Q r z
def Rb{α:Type}(l:List α):(∀x∈l,True)=True:=by simp
def Qqj: ∀(l:List Nat),Gs l []=true
 |[]=>rfl
 |x::r=>by simp[Gs,Qqj r]
def U1(h:Nat->Option Am):Ew h []=[]:=rfl
def PF(h:Nat->Option Am)(x:AV)(r:List AV):Ew h (x::r)=Ab h 9 x++Ew h r:=by simp[Ew]
def AP{p:Prop}[Decidable p]{A B:Prop}:(if p then A else B)↔((p->A)/\(¬p->B)):=by
 by_cases h:p<;>simp[h]
def AG{x:Int}(z: -9223372036854775808<=x)(O:x<=9223372036854775807):IntKind.wrap .i64 x=x:=IntWalk.i64_in x ⟨z,O⟩
def LK{α:Type}{rows:List (List α)}{i:Nat}{K:List α->Prop}{r:List α}(h:rows[i]? =some r)(O:K r):JY rows i K:=by
 intro r' z;rw[h] at z;exact AJ z▸O
def Je{P:Nat->Prop}{n k:Nat}(z:k<n)(hn:n<=140737488355328)(h:P (k+1)): ∃b':{k:Nat//P k},n - b'.val<n - k/\IntKind.wrap .i64 ((k:Int)+1)=b'.val:=by
 refine⟨⟨k+1,h⟩,by simp only;omega,?_⟩;rw[AG (by omega) (by omega)];simp only;omega
def XK(a b:Nat):Nat.blt a b=decide (a<b):=by
 rw[mX];simp
def XJ(a b:Nat):Nat.ble a b=decide (a<=b):=by
 rw[mX];simp
def Ak(n:Int):List D:=[.int .i64 n]
def DN:List D->Option Int
 |[.int .i64 n]=>some n
 |_=>none
def F3: ∀ds x,DN ds=some x->Dj ds (Ak x):=by
 intro ds x h;unfold DN at h;split at h
 .simp only[AN] at h;subst h;exact⟨Le.refl _,trivial⟩
 .cases h
def iM(x:Int):DN (Ak x)=some x:=rfl
def fU(l:List Int):AZ DN (l.map Ak)=some l:=Rs iM l
def ID(n:ByteArray):List D:=[.str n]
def Zw:List D->Option ByteArray
 |[.str n]=>some n
 |_=>none
def kH(x:ByteArray):Zw (ID x)=some x:=rfl
def kG(l:List ByteArray):AZ Zw (l.map ID)=some l:=Rs kH l
def CZ(x:List Int):List D:=[.sl false 1 (x.map Ak)]
def Wg:List D->Option (List Int)
 |[.sl _ _ rows]=>AZ DN rows
 |_=>none
def sL: ∀ds x,Wg ds=some x->Dj ds (CZ x):=by
 intro ds x h;unfold Wg at h;split at h
 .exact⟨EY (EN F3 _ _ h) (by simp[Ak]),trivial⟩
 .cases h
def Zi(x:List Int):Wg (CZ x)=some x:=fU x
def N2(l:List (List Int)):AZ Wg (l.map CZ)=some l:=Rs Zi l
def Ey:D->Option Int
 | .int .i64 n=>some n
 |_=>none
def cW: ∀d x,Ey d=some x->Le d (.int .i64 x):=by
 intro d x h;unfold Ey at h;split at h
 .simp only[AN] at h;subst h;exact Le.refl _
 .cases h
def IF:D->Option ByteArray
 | .str n=>some n
 |_=>none
def ZI: ∀d x,IF d=some x->Le d (.str x):=by
 intro d x h;unfold IF at h;split at h
 .simp only[AN] at h;subst h;exact Le.refl _
 .cases h
def W4:D->Option Bool
 | .bool n=>some n
 |_=>none
def pY: ∀d x,W4 d=some x->Le d (.bool x):=by
 intro d x h;unfold W4 at h;split at h
 .simp only[AN] at h;subst h;exact Le.refl _
 .cases h
def Wx{A:Type}(f:List D->Option A):D->Option (List A)
 | .sl _ _ rows=>AZ f rows
 |_=>none
def V9{A:Type}{f:List D->Option A}{e:A->List D}{k:Nat}(hf: ∀ds x,f ds=some x->Dj ds (e x))(z: ∀x,(e x).length=k): ∀d x,Wx f d=some x->Le d (.sl false k (x.map e)):=by
 intro d x h;unfold Wx at h;split at h
 .exact EY (EN hf _ _ h) (by simp only[Bl];rintro r ⟨y,_,rfl⟩;exact z y)
 .cases h
def Fv{A:Type}(f:List D->Option A):D->Option A
 | .agg z=>f z
 |_=>none
def NP{A:Type}{f:List D->Option A}{e:A->List D}(hf: ∀ds x,f ds=some x->Dj ds (e x)): ∀d x,Fv f d=some x->Le d (.agg (e x)):=by
 intro d x h;unfold Fv at h;split at h
 .exact Lk (hf _ _ h)
 .cases h
def lF{A B:Type}(f:D->Option A)(g:D->Option B):D->Option (A×B)
 | .tup [x,y]=>(f x).bind λa=>(g y).map λb=>(a,b)
 |_=>none
def Qbz{A B:Type}{f:D->Option A}{g:D->Option B}{e:A->D}{e':B->D}(hf: ∀d x,f d=some x->Le d (e x))(Q: ∀d x,g d=some x->Le d (e' x)): ∀d (x:A×B),lF f g d=some x->Le d (.tup [e x.1,e' x.2]):=by
 intro d x h;unfold lF at h;split at h
 .simp only[GI,D4] at h;obtain⟨a,z,b,O,rfl⟩:=h;exact Ll ⟨hf _ _ z,Q _ _ O,trivial⟩
 .cases h
def JR{A B E:Type}(f:D->Option A)(g:D->Option B)(k:D->Option E):D->Option (A×B×E)
 | .tup [x,y,z]=>(f x).bind λa=>(g y).bind λb=>(k z).map λc=>(a,b,c)
 |_=>none
def VA{A B E:Type}{f:D->Option A}{g:D->Option B}{k:D->Option E}{e:A->D}{e':B->D}{e'':E->D}(hf: ∀d x,f d=some x->Le d (e x))(Z: ∀d x,g d=some x->Le d (e' x))(hk: ∀d x,k d=some x->Le d (e'' x)):
 ∀d (x:A×B×E),JR f g k d=some x->Le d (.tup [e x.1,e' x.2.1,e'' x.2.2]):=by
 intro d x h;unfold JR at h;split at h
 .simp only[GI,D4] at h;obtain⟨a,z,b,O,c,Q,rfl⟩:=h;exact Ll ⟨hf _ _ z,Z _ _ O,hk _ _ Q,trivial⟩
 .cases h
def KZ{A B:Type}(f:D->Option A)(g:D->Option B):List (D×D)->Option (List (A×B))
 |[]=>some []
 |(x,y)::r=>(f x).bind λa=>(g y).bind λb=>(KZ f g r).map λl=>(a,b)::l
def yC:List (D×D)->List (D×D)->Prop
 |[],[]=>True
 |(x,y)::r,(x',y')::r'=>x=x'/\Le y y'/\yC r r'
 |[],_::_=>False
 |_::_,[]=>False
def yC.fit{O:KT}: ∀{a b:List (D×D)},yC a b->(∀e∈a,O.fit e.1=true)-> ∀e∈b,O.fit e.1=true
 |[],[],_,h=>h
 |(x,y)::r,(x',y')::r',Q,h=>by
  obtain⟨rfl,_,Z⟩:=Q;intro e z;rcases Br.1 z with rfl|z
  .exact h (x,y) (BU ..)
  .exact yC.fit Z (λe z=>h e (BQ _ z)) e z
 |[],_::_,h,_=>h.elim
 |_::_,[],h,_=>h.elim
def Qs4{A B:Type}{f:D->Option A}{g:D->Option B}{m:A×B->D×D}(h: ∀p,f (m p).1=some p.1/\g (m p).2=some p.2): ∀(l:List (A×B)),KZ f g (l.map m)=some l
 |[]=>rfl
 |p::r=>by
  simp only[Be,KZ,(h p).1,(h p).2,Gw,Qs4 h r,Dh]
structure AC where
 X:Int
 Y:Int
 deriving DecidableEq
def AC.c(x:AC):List D:=[.int .i64 x.X,.int .i64 x.Y]
def AC.d:List D->Option AC
 |[.int .i64 z,.int .i64 O]=>some ⟨z,O⟩
 |_=>none
def AC.d_le: ∀ds x,AC.d ds=some x->Dj ds (AC.c x):=by
 intro ds x h;unfold AC.d at h;split at h
 .simp only[AN] at h;subst h;exact⟨Le.refl _,Le.refl _,trivial⟩
 .cases h
def AC.d_c(x:AC):AC.d (AC.c x)=some x:=by
 simp only[AC.c,AC.d]
def AC.d_R(l:List AC):AZ AC.d (l.map AC.c)=some l:=Rs AC.d_c l
def AC.eta(x:AC):(⟨x.X,x.Y⟩:AC)=x:=rfl
def AC.len(x:AC):(AC.c x).length=2:=rfl
structure Al where
 At:AC
 Tile:Int
 deriving DecidableEq
def Al.c(x:Al):List D:=[.int .i64 x.At.X,.int .i64 x.At.Y,.int .i64 x.Tile]
def Al.d:List D->Option Al
 |[.int .i64 z,.int .i64 O,.int .i64 Q]=>some ⟨⟨z,O⟩,Q⟩
 |_=>none
def Al.d_le: ∀ds x,Al.d ds=some x->Dj ds (Al.c x):=by
 intro ds x h;unfold Al.d at h;split at h
 .simp only[AN] at h;subst h;exact⟨Le.refl _,Le.refl _,Le.refl _,trivial⟩
 .cases h
def Al.d_c(x:Al):Al.d (Al.c x)=some x:=by
 simp only[Al.c,Al.d]
def Al.d_R(l:List Al):AZ Al.d (l.map Al.c)=some l:=Rs Al.d_c l
def Al.eta(x:Al):(⟨x.At,x.Tile⟩:Al)=x:=rfl
def Al.len(x:Al):(Al.c x).length=3:=rfl
structure AB where
 Tiles:List Al
 deriving DecidableEq
def AB.c(x:AB):List D:=[.sl false 3 (x.Tiles.map Al.c)]
def AB.d:List D->Option AB
 |[.sl _ _ z]=>(AZ Al.d z).bind λO=>some ⟨O⟩
 |_=>none
def AB.d_le: ∀ds x,AB.d ds=some x->Dj ds (AB.c x):=by
 intro ds x h;unfold AB.d at h;split at h
 .simp only[GI,AN] at h;obtain⟨z,h0,rfl⟩:=h;exact⟨EY (EN Al.d_le _ _ h0) (by simp[Al.c]),trivial⟩
 .cases h
def AB.d_c(x:AB):AB.d (AB.c x)=some x:=by
 simp only[AB.c,AB.d,Al.d_R,Gw]
def AB.eta(x:AB):(⟨x.Tiles⟩:AB)=x:=rfl
def AB.len(x:AB):(AB.c x).length=1:=rfl
structure Ad where
 Name:ByteArray
 Strength:Int
 deriving DecidableEq
def Ad.c(x:Ad):List D:=[.str x.Name,.int .i64 x.Strength]
def Ad.d:List D->Option Ad
 |[.str z,.int .i64 O]=>some ⟨z,O⟩
 |_=>none
def Ad.d_le: ∀ds x,Ad.d ds=some x->Dj ds (Ad.c x):=by
 intro ds x h;unfold Ad.d at h;split at h
 .simp only[AN] at h;subst h;exact⟨Le.refl _,Le.refl _,trivial⟩
 .cases h
def Ad.d_c(x:Ad):Ad.d (Ad.c x)=some x:=by
 simp only[Ad.c,Ad.d]
def Ad.d_R(l:List Ad):AZ Ad.d (l.map Ad.c)=some l:=Rs Ad.d_c l
def Ad.eta(x:Ad):(⟨x.Name,x.Strength⟩:Ad)=x:=rfl
def Ad.len(x:Ad):(Ad.c x).length=2:=rfl
structure Tile where
 Name:ByteArray
 Sides:List Int
 deriving DecidableEq
def Tile.c(x:Tile):List D:=[.str x.Name,.sl false 1 (x.Sides.map Ak)]
def Tile.d:List D->Option Tile
 |[.str z,.sl _ _ O]=>(AZ DN O).bind λQ=>some ⟨z,Q⟩
 |_=>none
def Tile.d_le: ∀ds x,Tile.d ds=some x->Dj ds (Tile.c x):=by
 intro ds x h;unfold Tile.d at h;split at h
 .simp only[GI,AN] at h;obtain⟨O,z,rfl⟩:=h;exact⟨Le.refl _,EY (EN F3 _ _ z) (by simp[Ak]),trivial⟩
 .cases h
def Tile.d_c(x:Tile):Tile.d (Tile.c x)=some x:=by
 simp only[Tile.c,Tile.d,fU,Gw]
def Tile.d_R(l:List Tile):AZ Tile.d (l.map Tile.c)=some l:=Rs Tile.d_c l
def Tile.eta(x:Tile):(⟨x.Name,x.Sides⟩:Tile)=x:=rfl
def Tile.len(x:Tile):(Tile.c x).length=2:=rfl
structure Ap where
 Glues:List Ad
 Tiles:List Tile
 deriving DecidableEq
def Ap.c(x:Ap):List D:=[.sl false 2 (x.Glues.map Ad.c),.sl false 2 (x.Tiles.map Tile.c)]
def Ap.d:List D->Option Ap
 |[.sl _ _ z,.sl _ _ O]=>(AZ Ad.d z).bind λQ=>(AZ Tile.d O).bind λZ=>some ⟨Q,Z⟩
 |_=>none
def Ap.d_le: ∀ds x,Ap.d ds=some x->Dj ds (Ap.c x):=by
 intro ds x h;unfold Ap.d at h;split at h
 .simp only[GI,AN] at h;obtain⟨O,h0,Q,z,rfl⟩:=h;exact⟨EY (EN Ad.d_le _ _ h0) (by simp[Ad.c]),EY (EN Tile.d_le _ _ z) (by simp[Tile.c]),trivial⟩
 .cases h
def Ap.eta(x:Ap):(⟨x.Glues,x.Tiles⟩:Ap)=x:=rfl
def Ap.len(x:Ap):(Ap.c x).length=2:=rfl
structure A9 where
 Set:Ap
 Seed:AB
 Temperature:Int
 deriving DecidableEq
def A9.c(x:A9):List D:=[.sl false 2 (x.Set.Glues.map Ad.c),.sl false 2 (x.Set.Tiles.map Tile.c),.sl false 3 (x.Seed.Tiles.map Al.c),.int .i64 x.Temperature]
def A9.d:List D->Option A9
 |[.sl _ _ z,.sl _ _ O,.sl _ _ Q,.int .i64 Z]=>(AZ Ad.d z).bind λy0=>(AZ Tile.d O).bind λy1=>(AZ Al.d Q).bind λy2=>some ⟨⟨y0,y1⟩,⟨y2⟩,Z⟩
 |_=>none
def A9.d_le: ∀ds x,A9.d ds=some x->Dj ds (A9.c x):=by
 intro ds x h;unfold A9.d at h;split at h
 .simp only[GI,AN] at h;obtain⟨Q,h0,Z,z,y2,O,rfl⟩:=h;exact⟨EY (EN Ad.d_le _ _ h0) (by simp[Ad.c]),EY (EN Tile.d_le _ _ z) (by simp[Tile.c]),EY (EN Al.d_le _ _ O) (by simp[Al.c]),Le.refl _,trivial⟩
 .cases h
def A9.d_c(x:A9):A9.d (A9.c x)=some x:=by
 simp only[A9.c,A9.d,Ad.d_R,Al.d_R,Tile.d_R,Gw]
def A9.eta(x:A9):(⟨x.Set,x.Seed,x.Temperature⟩:A9)=x:=rfl
def A9.len(x:A9):(A9.c x).length=4:=rfl
structure DS where
 At:AC
 Tile:Int
 deriving DecidableEq
def DS.c(x:DS):List D:=[.int .i64 x.At.X,.int .i64 x.At.Y,.int .i64 x.Tile]
def DS.d:List D->Option DS
 |[.int .i64 z,.int .i64 O,.int .i64 Q]=>some ⟨⟨z,O⟩,Q⟩
 |_=>none
def DS.d_c(x:DS):DS.d (DS.c x)=some x:=by
 simp only[DS.c,DS.d]
def DS.d_R(l:List DS):AZ DS.d (l.map DS.c)=some l:=Rs DS.d_c l
def DS.eta(x:DS):(⟨x.At,x.Tile⟩:DS)=x:=rfl
def DS.len(x:DS):(DS.c x).length=3:=rfl
structure Bt where
 Big:A9
 Small:A9
 Scale:Int
 Labels:List Int
 deriving DecidableEq
def Bt.c(x:Bt):List D:=[.sl false 2 (x.Big.Set.Glues.map Ad.c),.sl false 2 (x.Big.Set.Tiles.map Tile.c),.sl false 3 (x.Big.Seed.Tiles.map Al.c),.int .i64 x.Big.Temperature,.sl false 2 (x.Small.Set.Glues.map Ad.c),.sl false 2 (x.Small.Set.Tiles.map Tile.c),.sl false 3 (x.Small.Seed.Tiles.map Al.c),.int .i64 x.Small.Temperature,.int .i64 x.Scale,.sl false 1 (x.Labels.map Ak)]
def Bt.d:List D->Option Bt
 |[.sl _ _ z,.sl _ _ O,.sl _ _ Q,.int .i64 Z,.sl _ _ x4,.sl _ _ x5,.sl _ _ x6,.int .i64 x7,.int .i64 x8,.sl _ _ x9]=>(AZ Ad.d z).bind λy0=>(AZ Tile.d O).bind λy1=>(AZ Al.d Q).bind λy2=>(AZ Ad.d x4).bind λy4=>(AZ Tile.d x5).bind λy5=>(AZ Al.d x6).bind λy6=>(AZ DN x9).bind λy9=>some ⟨⟨⟨y0,y1⟩,⟨y2⟩,Z⟩,⟨⟨y4,y5⟩,⟨y6⟩,x7⟩,x8,y9⟩
 |_=>none
def Bt.d_le: ∀ds x,Bt.d ds=some x->Dj ds (Bt.c x):=by
 intro ds x h;unfold Bt.d at h;split at h
 .simp only[GI,AN] at h;obtain⟨y0,h0,y1,z,y2,O,y4,Q,y5,Z,y6,h6,y9,h9,rfl⟩:=h;exact⟨EY (EN Ad.d_le _ _ h0) (by simp[Ad.c]),EY (EN Tile.d_le _ _ z) (by simp[Tile.c]),EY (EN Al.d_le _ _ O) (by simp[Al.c]),Le.refl _,EY (EN Ad.d_le _ _ Q) (by simp[Ad.c]),EY (EN Tile.d_le _ _ Z) (by simp[Tile.c]),EY (EN Al.d_le _ _ h6) (by simp[Al.c]),Le.refl _,Le.refl _,EY (EN F3 _ _ h9) (by simp[Ak]),trivial⟩
 .cases h
def Bt.d_c(x:Bt):Bt.d (Bt.c x)=some x:=by
 simp only[Bt.c,Bt.d,Ad.d_R,Al.d_R,Tile.d_R,fU,Gw]
def Bt.eta(x:Bt):(⟨x.Big,x.Small,x.Scale,x.Labels⟩:Bt)=x:=rfl
def Bt.len(x:Bt):(Bt.c x).length=10:=rfl
structure Ag where
 A:Int
 B:Int
 Strength:Int
 deriving DecidableEq
def Ag.c(x:Ag):List D:=[.int .i64 x.A,.int .i64 x.B,.int .i64 x.Strength]
def Ag.d:List D->Option Ag
 |[.int .i64 z,.int .i64 O,.int .i64 Q]=>some ⟨z,O,Q⟩
 |_=>none
def Ag.d_le: ∀ds x,Ag.d ds=some x->Dj ds (Ag.c x):=by
 intro ds x h;unfold Ag.d at h;split at h
 .simp only[AN] at h;subst h;exact⟨Le.refl _,Le.refl _,Le.refl _,trivial⟩
 .cases h
def Ag.d_c(x:Ag):Ag.d (Ag.c x)=some x:=by
 simp only[Ag.c,Ag.d]
def Ag.d_R(l:List Ag):AZ Ag.d (l.map Ag.c)=some l:=Rs Ag.d_c l
def Ag.eta(x:Ag):(⟨x.A,x.B,x.Strength⟩:Ag)=x:=rfl
def Ag.len(x:Ag):(Ag.c x).length=3:=rfl
def yE(p:AC×Int):D×D:=(.agg (AC.c p.1),.int .i64 p.2)
def Qmt(l:List (AC×Int)):KZ (Fv AC.d) Ey (l.map yE)=some l:=Qs4 (λp=>⟨by simp[yE,Ey,IF,Fv,AC.d_c],by simp[yE,Ey,IF,Wx,Fv]⟩) l
def yD(p:AC×(List Int)):D×D:=(.agg (AC.c p.1),.sl false 1 (p.2.map Ak))
def Qk8(l:List (AC×(List Int))):KZ (Fv AC.d) (Wx DN) (l.map yD)=some l:=Qs4 (λp=>⟨by simp[yD,Ey,IF,Fv,AC.d_c],by simp[yD,Ey,IF,Wx,Fv,fU]⟩) l
structure LB where
 Sys:A9
 Tl:List (AC×Int)
 Op:List (AC×(List Int))
 deriving DecidableEq
def LB.c(x:LB):List D:=[.sl false 2 (x.Sys.Set.Glues.map Ad.c),.sl false 2 (x.Sys.Set.Tiles.map Tile.c),.sl false 3 (x.Sys.Seed.Tiles.map Al.c),.int .i64 x.Sys.Temperature,.mp ⟨true,[.int .i64,.int .i64]⟩ (x.Tl.map yE),.mp ⟨true,[.int .i64,.int .i64]⟩ (x.Op.map yD)]
def LB.d:List D->Option LB
 |[.sl _ _ z,.sl _ _ O,.sl _ _ Q,.int .i64 Z,.mp ⟨true,[.int .i64,.int .i64]⟩ x4,.mp ⟨true,[.int .i64,.int .i64]⟩ x5]=>(AZ Ad.d z).bind λy0=>(AZ Tile.d O).bind λy1=>(AZ Al.d Q).bind λy2=>(KZ (Fv AC.d) Ey x4).bind λy4=>(KZ (Fv AC.d) (Wx DN) x5).bind λy5=>some ⟨⟨⟨y0,y1⟩,⟨y2⟩,Z⟩,y4,y5⟩
 |_=>none
def LB.eta(x:LB):(⟨x.Sys,x.Tl,x.Op⟩:LB)=x:=rfl
def LB.len(x:LB):(LB.c x).length=6:=rfl
structure Bh where
 Cnt:Int
 Bonds:List Ag
 At:List (List Int)
 Flow:List Int
 deriving DecidableEq
def Bh.c(x:Bh):List D:=[.int .i64 x.Cnt,.sl false 3 (x.Bonds.map Ag.c),.sl false 1 (x.At.map CZ),.sl false 1 (x.Flow.map Ak)]
def Bh.d:List D->Option Bh
 |[.int .i64 z,.sl _ _ O,.sl _ _ Q,.sl _ _ Z]=>(AZ Ag.d O).bind λy1=>(AZ Wg Q).bind λy2=>(AZ DN Z).bind λy3=>some ⟨z,y1,y2,y3⟩
 |_=>none
def Bh.d_le: ∀ds x,Bh.d ds=some x->Dj ds (Bh.c x):=by
 intro ds x h;unfold Bh.d at h;split at h
 .simp only[GI,AN] at h;obtain⟨Z,z,y2,O,y3,Q,rfl⟩:=h;exact⟨Le.refl _,EY (EN Ag.d_le _ _ z) (by simp[Ag.c]),EY (EN sL _ _ O) (by simp[CZ]),EY (EN F3 _ _ Q) (by simp[Ak]),trivial⟩
 .cases h
def Bh.eta(x:Bh):(⟨x.Cnt,x.Bonds,x.At,x.Flow⟩:Bh)=x:=rfl
def Bh.len(x:Bh):(Bh.c x).length=4:=rfl
structure Bi where
 Room:List (List Int)
 Flow:List (List Int)
 deriving DecidableEq
def Bi.c(x:Bi):List D:=[.sl false 1 (x.Room.map CZ),.sl false 1 (x.Flow.map CZ)]
def Bi.d:List D->Option Bi
 |[.sl _ _ z,.sl _ _ O]=>(AZ Wg z).bind λQ=>(AZ Wg O).bind λZ=>some ⟨Q,Z⟩
 |_=>none
def Bi.d_le: ∀ds x,Bi.d ds=some x->Dj ds (Bi.c x):=by
 intro ds x h;unfold Bi.d at h;split at h
 .simp only[GI,AN] at h;obtain⟨O,h0,Q,z,rfl⟩:=h;exact⟨EY (EN sL _ _ h0) (by simp[CZ]),EY (EN sL _ _ z) (by simp[CZ]),trivial⟩
 .cases h
def Bi.d_c(x:Bi):Bi.d (Bi.c x)=some x:=by
 simp only[Bi.c,Bi.d,N2,Gw]
def Bi.eta(x:Bi):(⟨x.Room,x.Flow⟩:Bi)=x:=rfl
def Bi.len(x:Bi):(Bi.c x).length=2:=rfl
structure Fe where
 Kind:Int
 Sequence:List DS
 Other:List DS
 Part:List Int
 Flows:List (List Int)
 deriving DecidableEq
def Fe.c(x:Fe):List D:=[.int .i64 x.Kind,.sl false 3 (x.Sequence.map DS.c),.sl false 3 (x.Other.map DS.c),.sl false 1 (x.Part.map Ak),.sl false 1 (x.Flows.map CZ)]
def Fe.d:List D->Option Fe
 |[.int .i64 z,.sl _ _ O,.sl _ _ Q,.sl _ _ Z,.sl _ _ x4]=>(AZ DS.d O).bind λy1=>(AZ DS.d Q).bind λy2=>(AZ DN Z).bind λy3=>(AZ Wg x4).bind λy4=>some ⟨z,y1,y2,y3,y4⟩
 |_=>none
def Fe.len(x:Fe):(Fe.c x).length=5:=rfl
structure Fb where
 Num:Int
 Den:Int
 deriving DecidableEq
def Fb.c(x:Fb):List D:=[.int .i64 x.Num,.int .i64 x.Den]
def Fb.d:List D->Option Fb
 |[.int .i64 z,.int .i64 O]=>some ⟨z,O⟩
 |_=>none
def Fb.len(x:Fb):(Fb.c x).length=2:=rfl
structure Kx where
 Sys:A9
 Seq:List DS
 End:AB
 Inputs:List Int
 Strength:List Int
 deriving DecidableEq
def Kx.c(x:Kx):List D:=[.sl false 2 (x.Sys.Set.Glues.map Ad.c),.sl false 2 (x.Sys.Set.Tiles.map Tile.c),.sl false 3 (x.Sys.Seed.Tiles.map Al.c),.int .i64 x.Sys.Temperature,.sl false 3 (x.Seq.map DS.c),.sl false 3 (x.End.Tiles.map Al.c),.sl false 1 (x.Inputs.map Ak),.sl false 1 (x.Strength.map Ak)]
def Kx.d:List D->Option Kx
 |[.sl _ _ z,.sl _ _ O,.sl _ _ Q,.int .i64 Z,.sl _ _ x4,.sl _ _ x5,.sl _ _ x6,.sl _ _ x7]=>(AZ Ad.d z).bind λy0=>(AZ Tile.d O).bind λy1=>(AZ Al.d Q).bind λy2=>(AZ DS.d x4).bind λy4=>(AZ Al.d x5).bind λy5=>(AZ DN x6).bind λy6=>(AZ DN x7).bind λy7=>some ⟨⟨⟨y0,y1⟩,⟨y2⟩,Z⟩,y4,⟨y5⟩,y6,y7⟩
 |_=>none
def Kx.len(x:Kx):(Kx.c x).length=8:=rfl
end Go.Ae
