/- Lemmas. Conditions: none. -/
import Derived.Test.YtkjfcnnfidnpcaaGreatDoorP05
import Derived.KernelRfl
set_option linter.all false
set_option maxHeartbeats 8000000
set_option maxRecDepth 100000
namespace Go.Ae
def Oa{α β:Type}(f:α->List β)(l:List α)(i:Nat)(K:List β->Prop):J1 (l.map f) i K= ∀x,l[i]? =some x->K (f x):=by
 apply propext;unfold J1;constructor
 .intro h x z;exact h (f x) (by simp[z])
 .intro h row O;simp only[Du,D9] at O;obtain⟨x,z,rfl⟩:=O;exact h x z
def Q6{α β:Type}(g:List β->Bool)(f:α->List β)(l:List α):BY g (l.map f)= ∀x∈l,g (f x)=true:=by
 apply propext;unfold BY;simp
def NG{β:Type}(g:List β->Bool):BY g []=True:=by
 simp[BY]
def NE{β:Type}(g:List β->Bool)(r:List β)(l:List (List β)):BY g (r::l)=(g r=true/\BY g l):=by
 simp[BY]
def xZ{β:Type}(g:List β->Bool)(a b:List (List β)):BY g (a++b)=(BY g a/\BY g b):=by
 apply propext;simp only[BY,Bs];constructor
 .exact λh=>⟨λr z=>h r (.inl z),λr z=>h r (.inr z)⟩
 .rintro⟨O,Q⟩ r (z|z)
  .exact O r z
  .exact Q r z
def Q5{α:Type}(l:List α):(∀x∈l,True)=True:=by simp
def Qqj: ∀(l:List Nat),J5 l []=true
 |[]=>rfl
 |x::r=>by simp[J5,Qqj r]
def TU(h:Nat->Option An):Fx h []=[]:=rfl
def Pc(h:Nat->Option An)(x:AV)(r:List AV):Fx h (x::r)=CS h 9 x++Fx h r:=by simp[Fx]
def AR{p:Prop}[Decidable p]{A B:Prop}:(if p then A else B)↔((p->A)/\(¬p->B)):=by
 by_cases h:p<;>simp[h]
def AC{x:Int}(z: -9223372036854775808<=x)(O:x<=9223372036854775807):IntKind.wrap .i64 x=x:=IntWalk.i64_in x ⟨z,O⟩
def J0{α:Type}{rows:List (List α)}{i:Nat}{K:List α->Prop}{r:List α}(h:rows[i]? =some r)(O:K r):J1 rows i K:=by
 intro r' z;rw[h] at z;exact A7 z▸O
def F8{P:Nat->Prop}{n k:Nat}(z:k<n)(hn:n<=140737488355328)(h:P (k+1)): ∃b':{k:Nat//P k},n - b'.val<n - k/\IntKind.wrap .i64 ((k:Int)+1)=b'.val:=by
 refine⟨⟨k+1,h⟩,by simp only;omega,?_⟩;rw[AC (by omega) (by omega)];simp only;omega
def Xk(a b:Nat):Nat.blt a b=decide (a<b):=by
 rw[WW];simp
def Xj(a b:Nat):Nat.ble a b=decide (a<=b):=by
 rw[WW];simp
def Aj(n:Int):List D:=[.int .i64 n]
def Cl:List D->Option Int
 |[.int .i64 n]=>some n
 |_=>none
def DO: ∀ds x,Cl ds=some x->CM ds (Aj x):=by
 intro ds x h;unfold Cl at h;split at h
 .simp only[AI] at h;subst h;exact⟨Le.refl _,trivial⟩
 .cases h
def VV(x:Int):Cl (Aj x)=some x:=rfl
def eW(l:List Int):AQ Cl (l.map Aj)=some l:=NO VV l
def jW(n:ByteArray):List D:=[.str n]
def YM:List D->Option ByteArray
 |[.str n]=>some n
 |_=>none
def jY(x:ByteArray):YM (jW x)=some x:=rfl
def jX(l:List ByteArray):AQ YM (l.map jW)=some l:=NO jY l
def CK(x:List Int):List D:=[.sl false 1 (x.map Aj)]
def Qa:List D->Option (List Int)
 |[.sl _ _ rows]=>AQ Cl rows
 |_=>none
def eH: ∀ds x,Qa ds=some x->CM ds (CK x):=by
 intro ds x h;unfold Qa at h;split at h
 .exact⟨D2 (Dr DO _ _ h) (by simp[Aj]),trivial⟩
 .cases h
def MV(x:List Int):Qa (CK x)=some x:=eW x
def MU(l:List (List Int)):AQ Qa (l.map CK)=some l:=NO MV l
def D0:D->Option Int
 | .int .i64 n=>some n
 |_=>none
def Lg: ∀d x,D0 d=some x->Le d (.int .i64 x):=by
 intro d x h;unfold D0 at h;split at h
 .simp only[AI] at h;subst h;exact Le.refl _
 .cases h
def Vd:D->Option ByteArray
 | .str n=>some n
 |_=>none
def YZ: ∀d x,Vd d=some x->Le d (.str x):=by
 intro d x h;unfold Vd at h;split at h
 .simp only[AI] at h;subst h;exact Le.refl _
 .cases h
def PO:D->Option Bool
 | .bool n=>some n
 |_=>none
def Ze: ∀d x,PO d=some x->Le d (.bool x):=by
 intro d x h;unfold PO at h;split at h
 .simp only[AI] at h;subst h;exact Le.refl _
 .cases h
def Qy{A:Type}(f:List D->Option A):D->Option (List A)
 | .sl _ _ rows=>AQ f rows
 |_=>none
def rQ{A:Type}{f:List D->Option A}{e:A->List D}{k:Nat}(hf: ∀ds x,f ds=some x->CM ds (e x))(z: ∀x,(e x).length=k): ∀d x,Qy f d=some x->Le d (.sl false k (x.map e)):=by
 intro d x h;unfold Qy at h;split at h
 .exact D2 (Dr hf _ _ h) (by simp only[Bh];rintro r ⟨y,_,rfl⟩;exact z y)
 .cases h
def EG{A:Type}(f:List D->Option A):D->Option A
 | .agg cs=>f cs
 |_=>none
def Nu{A:Type}{f:List D->Option A}{e:A->List D}(hf: ∀ds x,f ds=some x->CM ds (e x)): ∀d x,EG f d=some x->Le d (.agg (e x)):=by
 intro d x h;unfold EG at h;split at h
 .exact Zf (hf _ _ h)
 .cases h
def kW{A B:Type}(f:D->Option A)(g:D->Option B):D->Option (A×B)
 | .tup [x,y]=>(f x).bind λa=>(g y).map λb=>(a,b)
 |_=>none
def Qbz{A B:Type}{f:D->Option A}{g:D->Option B}{e:A->D}{e':B->D}(hf: ∀d x,f d=some x->Le d (e x))(Q: ∀d x,g d=some x->Le d (e' x)): ∀d (x:A×B),kW f g d=some x->Le d (.tup [e x.1,e' x.2]):=by
 intro d x h;unfold kW at h;split at h
 .simp only[Ei,D9] at h;obtain⟨a,z,b,O,rfl⟩:=h;exact KC ⟨hf _ _ z,Q _ _ O,trivial⟩
 .cases h
def Ju{A B E:Type}(f:D->Option A)(g:D->Option B)(k:D->Option E):D->Option (A×B×E)
 | .tup [x,y,z]=>(f x).bind λa=>(g y).bind λb=>(k z).map λc=>(a,b,c)
 |_=>none
def Ve{A B E:Type}{f:D->Option A}{g:D->Option B}{k:D->Option E}{e:A->D}{e':B->D}{e'':E->D}(hf: ∀d x,f d=some x->Le d (e x))(Z: ∀d x,g d=some x->Le d (e' x))(hk: ∀d x,k d=some x->Le d (e'' x)):
 ∀d (x:A×B×E),Ju f g k d=some x->Le d (.tup [e x.1,e' x.2.1,e'' x.2.2]):=by
 intro d x h;unfold Ju at h;split at h
 .simp only[Ei,D9] at h;obtain⟨a,z,b,O,c,Q,rfl⟩:=h;exact KC ⟨hf _ _ z,Z _ _ O,hk _ _ Q,trivial⟩
 .cases h
def Gl{A B:Type}(f:D->Option A)(g:D->Option B):List (D×D)->Option (List (A×B))
 |[]=>some []
 |(x,y)::r=>(f x).bind λa=>(g y).bind λb=>(Gl f g r).map λl=>(a,b)::l
def VE:List (D×D)->List (D×D)->Prop
 |[],[]=>True
 |(x,y)::r,(x',y')::r'=>x=x'/\Le y y'/\VE r r'
 |[],_::_=>False
 |_::_,[]=>False
def Qxb{A B:Type}{f:D->Option A}{g:D->Option B}{z:A->D}{O:B->D}(hf: ∀d x,f d=some x->d=z x)(Q: ∀d x,g d=some x->Le d (O x)): ∀(es:List (D×D)) (l:List (A×B)),Gl f g es=some l->VE es (l.map λp=>(z p.1,O p.2))
 |[],l,h=>by
  simp only[Gl,AI] at h;subst h;trivial
 |(x,y)::r,l,h=>by
  simp only[Gl,Ei,D9] at h;obtain⟨a,Z,b,hb,l',hl,rfl⟩:=h;exact⟨hf _ _ Z,Q _ _ hb,Qxb hf Q r l' hl⟩
def VE.rde{ok:Nat->Prop}{hp:Nat->Option Obj}: ∀{a b:List (D×D)} {es:List MapEntry},VE a b->Ae.rde ok hp a es->Ae.rde ok hp b es
 |[],[],_,_,h=>h
 |(x,y)::r,(x',y')::r',es,Z,h=>by
  simp only[Ae.rde] at h⊢;obtain⟨e,q,rfl,z,O,Q⟩:=h;obtain⟨rfl,l2,l3⟩:=Z;exact⟨e,q,rfl,z,l2 _ _ _ O,VE.rde l3 Q⟩
 |[],_::_,_,h,_=>h.elim
 |_::_,[],_,h,_=>h.elim
def VE.fit{O:KT}: ∀{a b:List (D×D)},VE a b->(∀e∈a,O.fit e.1=true)-> ∀e∈b,O.fit e.1=true
 |[],[],_,h=>h
 |(x,y)::r,(x',y')::r',Q,h=>by
  obtain⟨rfl,_,Z⟩:=Q;intro e z;rcases Be.1 z with rfl|z
  .exact h (x,y) (BR ..)
  .exact VE.fit Z (λe z=>h e (BQ _ z)) e z
 |[],_::_,h,_=>h.elim
 |_::_,[],h,_=>h.elim
def SU{Z:KT}{a b:List (D×D)}(h:VE a b):Le (.mp Z a) (.mp Z b):=by
 intro ok hp v Q;simp only[rd] at Q⊢;obtain⟨bk,O,z,rfl,h1,h2,h3,h4,h5⟩:=Q;exact⟨bk,O,z,rfl,h.fit h1,h2,h3,h.rde h4,h5⟩
def Qs4{A B:Type}{f:D->Option A}{g:D->Option B}{m:A×B->D×D}(h: ∀p,f (m p).1=some p.1/\g (m p).2=some p.2): ∀(l:List (A×B)),Gl f g (l.map m)=some l
 |[]=>rfl
 |p::r=>by
  simp only[Bg,Gl,(h p).1,(h p).2,FR,Qs4 h r,CY]
structure Ab where
 X:Int
 Y:Int
 deriving DecidableEq
def Ab.c(x:Ab):List D:=[.int .i64 x.X,.int .i64 x.Y]
def Ab.d:List D->Option Ab
 |[.int .i64 z,.int .i64 O]=>some ⟨z,O⟩
 |_=>none
def Ab.d_le: ∀ds x,Ab.d ds=some x->CM ds (Ab.c x):=by
 intro ds x h;unfold Ab.d at h;split at h
 .simp only[AI] at h;subst h;exact⟨Le.refl _,Le.refl _,trivial⟩
 .cases h
def Ab.d_c(x:Ab):Ab.d (Ab.c x)=some x:=by
 simp only[Ab.c,Ab.d]
def Ab.d_R(l:List Ab):AQ Ab.d (l.map Ab.c)=some l:=NO Ab.d_c l
def Ab.eta(x:Ab):(⟨x.X,x.Y⟩:Ab)=x:=rfl
def Ab.len(x:Ab):(Ab.c x).length=2:=rfl
structure Ah where
 At:Ab
 Tile:Int
 deriving DecidableEq
def Ah.c(x:Ah):List D:=[.int .i64 x.At.X,.int .i64 x.At.Y,.int .i64 x.Tile]
def Ah.d:List D->Option Ah
 |[.int .i64 z,.int .i64 O,.int .i64 Q]=>some ⟨⟨z,O⟩,Q⟩
 |_=>none
def Ah.d_le: ∀ds x,Ah.d ds=some x->CM ds (Ah.c x):=by
 intro ds x h;unfold Ah.d at h;split at h
 .simp only[AI] at h;subst h;exact⟨Le.refl _,Le.refl _,Le.refl _,trivial⟩
 .cases h
def Ah.d_c(x:Ah):Ah.d (Ah.c x)=some x:=by
 simp only[Ah.c,Ah.d]
def Ah.d_R(l:List Ah):AQ Ah.d (l.map Ah.c)=some l:=NO Ah.d_c l
def Ah.eta(x:Ah):(⟨x.At,x.Tile⟩:Ah)=x:=rfl
def Ah.len(x:Ah):(Ah.c x).length=3:=rfl
structure Af where
 Tiles:List Ah
 deriving DecidableEq
def Af.c(x:Af):List D:=[.sl false 3 (x.Tiles.map Ah.c)]
def Af.d:List D->Option Af
 |[.sl _ _ z]=>(AQ Ah.d z).bind λO=>some ⟨O⟩
 |_=>none
def Af.d_le: ∀ds x,Af.d ds=some x->CM ds (Af.c x):=by
 intro ds x h;unfold Af.d at h;split at h
 .simp only[Ei,AI] at h;obtain⟨z,h0,rfl⟩:=h;exact⟨D2 (Dr Ah.d_le _ _ h0) (by simp[Ah.c]),trivial⟩
 .cases h
def Af.d_c(x:Af):Af.d (Af.c x)=some x:=by
 simp only[Af.c,Af.d,Ah.d_R,FR]
def Af.eta(x:Af):(⟨x.Tiles⟩:Af)=x:=rfl
def Af.len(x:Af):(Af.c x).length=1:=rfl
structure Am where
 Name:ByteArray
 Strength:Int
 deriving DecidableEq
def Am.c(x:Am):List D:=[.str x.Name,.int .i64 x.Strength]
def Am.d:List D->Option Am
 |[.str z,.int .i64 O]=>some ⟨z,O⟩
 |_=>none
def Am.d_le: ∀ds x,Am.d ds=some x->CM ds (Am.c x):=by
 intro ds x h;unfold Am.d at h;split at h
 .simp only[AI] at h;subst h;exact⟨Le.refl _,Le.refl _,trivial⟩
 .cases h
def Am.d_c(x:Am):Am.d (Am.c x)=some x:=by
 simp only[Am.c,Am.d]
def Am.d_R(l:List Am):AQ Am.d (l.map Am.c)=some l:=NO Am.d_c l
def Am.eta(x:Am):(⟨x.Name,x.Strength⟩:Am)=x:=rfl
def Am.len(x:Am):(Am.c x).length=2:=rfl
structure Tile where
 Name:ByteArray
 Sides:List Int
 deriving DecidableEq
def Tile.c(x:Tile):List D:=[.str x.Name,.sl false 1 (x.Sides.map Aj)]
def Tile.d:List D->Option Tile
 |[.str z,.sl _ _ O]=>(AQ Cl O).bind λQ=>some ⟨z,Q⟩
 |_=>none
def Tile.d_le: ∀ds x,Tile.d ds=some x->CM ds (Tile.c x):=by
 intro ds x h;unfold Tile.d at h;split at h
 .simp only[Ei,AI] at h;obtain⟨O,z,rfl⟩:=h;exact⟨Le.refl _,D2 (Dr DO _ _ z) (by simp[Aj]),trivial⟩
 .cases h
def Tile.d_c(x:Tile):Tile.d (Tile.c x)=some x:=by
 simp only[Tile.c,Tile.d,eW,FR]
def Tile.d_R(l:List Tile):AQ Tile.d (l.map Tile.c)=some l:=NO Tile.d_c l
def Tile.eta(x:Tile):(⟨x.Name,x.Sides⟩:Tile)=x:=rfl
def Tile.len(x:Tile):(Tile.c x).length=2:=rfl
structure Az where
 Glues:List Am
 Tiles:List Tile
 deriving DecidableEq
def Az.c(x:Az):List D:=[.sl false 2 (x.Glues.map Am.c),.sl false 2 (x.Tiles.map Tile.c)]
def Az.d:List D->Option Az
 |[.sl _ _ z,.sl _ _ O]=>(AQ Am.d z).bind λQ=>(AQ Tile.d O).bind λZ=>some ⟨Q,Z⟩
 |_=>none
def Az.d_le: ∀ds x,Az.d ds=some x->CM ds (Az.c x):=by
 intro ds x h;unfold Az.d at h;split at h
 .simp only[Ei,AI] at h;obtain⟨O,h0,Q,z,rfl⟩:=h;exact⟨D2 (Dr Am.d_le _ _ h0) (by simp[Am.c]),D2 (Dr Tile.d_le _ _ z) (by simp[Tile.c]),trivial⟩
 .cases h
def Az.eta(x:Az):(⟨x.Glues,x.Tiles⟩:Az)=x:=rfl
def Az.len(x:Az):(Az.c x).length=2:=rfl
structure AG where
 Set:Az
 Seed:Af
 Temperature:Int
 deriving DecidableEq
def AG.c(x:AG):List D:=[.sl false 2 (x.Set.Glues.map Am.c),.sl false 2 (x.Set.Tiles.map Tile.c),.sl false 3 (x.Seed.Tiles.map Ah.c),.int .i64 x.Temperature]
def AG.d:List D->Option AG
 |[.sl _ _ z,.sl _ _ O,.sl _ _ Q,.int .i64 Z]=>(AQ Am.d z).bind λy0=>(AQ Tile.d O).bind λy1=>(AQ Ah.d Q).bind λy2=>some ⟨⟨y0,y1⟩,⟨y2⟩,Z⟩
 |_=>none
def AG.d_le: ∀ds x,AG.d ds=some x->CM ds (AG.c x):=by
 intro ds x h;unfold AG.d at h;split at h
 .simp only[Ei,AI] at h;obtain⟨Q,h0,Z,z,y2,O,rfl⟩:=h;exact⟨D2 (Dr Am.d_le _ _ h0) (by simp[Am.c]),D2 (Dr Tile.d_le _ _ z) (by simp[Tile.c]),D2 (Dr Ah.d_le _ _ O) (by simp[Ah.c]),Le.refl _,trivial⟩
 .cases h
def AG.eta(x:AG):(⟨x.Set,x.Seed,x.Temperature⟩:AG)=x:=rfl
def AG.len(x:AG):(AG.c x).length=4:=rfl
structure AD where
 At:Ab
 Tile:Int
 deriving DecidableEq
def AD.c(x:AD):List D:=[.int .i64 x.At.X,.int .i64 x.At.Y,.int .i64 x.Tile]
def AD.d:List D->Option AD
 |[.int .i64 z,.int .i64 O,.int .i64 Q]=>some ⟨⟨z,O⟩,Q⟩
 |_=>none
def AD.d_le: ∀ds x,AD.d ds=some x->CM ds (AD.c x):=by
 intro ds x h;unfold AD.d at h;split at h
 .simp only[AI] at h;subst h;exact⟨Le.refl _,Le.refl _,Le.refl _,trivial⟩
 .cases h
def AD.d_c(x:AD):AD.d (AD.c x)=some x:=by
 simp only[AD.c,AD.d]
def AD.d_R(l:List AD):AQ AD.d (l.map AD.c)=some l:=NO AD.d_c l
def AD.eta(x:AD):(⟨x.At,x.Tile⟩:AD)=x:=rfl
def AD.len(x:AD):(AD.c x).length=3:=rfl
structure AF where
 Big:AG
 Small:AG
 Scale:Int
 Labels:List Int
 deriving DecidableEq
def AF.c(x:AF):List D:=[.sl false 2 (x.Big.Set.Glues.map Am.c),.sl false 2 (x.Big.Set.Tiles.map Tile.c),.sl false 3 (x.Big.Seed.Tiles.map Ah.c),.int .i64 x.Big.Temperature,.sl false 2 (x.Small.Set.Glues.map Am.c),.sl false 2 (x.Small.Set.Tiles.map Tile.c),.sl false 3 (x.Small.Seed.Tiles.map Ah.c),.int .i64 x.Small.Temperature,.int .i64 x.Scale,.sl false 1 (x.Labels.map Aj)]
def AF.d:List D->Option AF
 |[.sl _ _ z,.sl _ _ O,.sl _ _ Q,.int .i64 Z,.sl _ _ x4,.sl _ _ x5,.sl _ _ x6,.int .i64 x7,.int .i64 x8,.sl _ _ x9]=>(AQ Am.d z).bind λy0=>(AQ Tile.d O).bind λy1=>(AQ Ah.d Q).bind λy2=>(AQ Am.d x4).bind λy4=>(AQ Tile.d x5).bind λy5=>(AQ Ah.d x6).bind λy6=>(AQ Cl x9).bind λy9=>some ⟨⟨⟨y0,y1⟩,⟨y2⟩,Z⟩,⟨⟨y4,y5⟩,⟨y6⟩,x7⟩,x8,y9⟩
 |_=>none
def AF.d_le: ∀ds x,AF.d ds=some x->CM ds (AF.c x):=by
 intro ds x h;unfold AF.d at h;split at h
 .simp only[Ei,AI] at h;obtain⟨y0,h0,y1,z,y2,O,y4,Q,y5,Z,y6,h6,y9,h9,rfl⟩:=h;exact⟨D2 (Dr Am.d_le _ _ h0) (by simp[Am.c]),D2 (Dr Tile.d_le _ _ z) (by simp[Tile.c]),D2 (Dr Ah.d_le _ _ O) (by simp[Ah.c]),Le.refl _,D2 (Dr Am.d_le _ _ Q) (by simp[Am.c]),D2 (Dr Tile.d_le _ _ Z) (by simp[Tile.c]),D2 (Dr Ah.d_le _ _ h6) (by simp[Ah.c]),Le.refl _,Le.refl _,D2 (Dr DO _ _ h9) (by simp[Aj]),trivial⟩
 .cases h
def AF.d_c(x:AF):AF.d (AF.c x)=some x:=by
 simp only[AF.c,AF.d,Am.d_R,Ah.d_R,Tile.d_R,eW,FR]
def AF.eta(x:AF):(⟨x.Big,x.Small,x.Scale,x.Labels⟩:AF)=x:=rfl
def AF.len(x:AF):(AF.c x).length=10:=rfl
structure Ag where
 A:Int
 B:Int
 Strength:Int
 deriving DecidableEq
def Ag.c(x:Ag):List D:=[.int .i64 x.A,.int .i64 x.B,.int .i64 x.Strength]
def Ag.d:List D->Option Ag
 |[.int .i64 z,.int .i64 O,.int .i64 Q]=>some ⟨z,O,Q⟩
 |_=>none
def Ag.d_le: ∀ds x,Ag.d ds=some x->CM ds (Ag.c x):=by
 intro ds x h;unfold Ag.d at h;split at h
 .simp only[AI] at h;subst h;exact⟨Le.refl _,Le.refl _,Le.refl _,trivial⟩
 .cases h
def Ag.d_c(x:Ag):Ag.d (Ag.c x)=some x:=by
 simp only[Ag.c,Ag.d]
def Ag.d_R(l:List Ag):AQ Ag.d (l.map Ag.c)=some l:=NO Ag.d_c l
def Ag.eta(x:Ag):(⟨x.A,x.B,x.Strength⟩:Ag)=x:=rfl
def Ag.len(x:Ag):(Ag.c x).length=3:=rfl
def Qwu: ∀d x,EG Ab.d d=some x->d= .agg (Ab.c x):=by
 intro d x h;unfold EG at h;split at h
 .rename_i cs;unfold Ab.d at h;split at h
  .simp only[AI] at h;subst h;rfl
  .cases h
 .cases h
def Em(p:Ab×Int):D×D:=(.agg (Ab.c p.1),.int .i64 p.2)
def Qmt(l:List (Ab×Int)):Gl (EG Ab.d) D0 (l.map Em)=some l:=Qs4 (λp=>⟨by simp[Em,EG,Ab.d_c],by simp[Em,D0]⟩) l
def Dd(p:Ab×(List Int)):D×D:=(.agg (Ab.c p.1),.sl false 1 (p.2.map Aj))
def Qk8(l:List (Ab×(List Int))):Gl (EG Ab.d) (Qy Cl) (l.map Dd)=some l:=Qs4 (λp=>⟨by simp[Dd,EG,Ab.d_c],by simp[Dd,Qy,eW]⟩) l
structure Cp where
 Sys:AG
 Tl:List (Ab×Int)
 Op:List (Ab×(List Int))
 deriving DecidableEq
def Cp.c(x:Cp):List D:=[.sl false 2 (x.Sys.Set.Glues.map Am.c),.sl false 2 (x.Sys.Set.Tiles.map Tile.c),.sl false 3 (x.Sys.Seed.Tiles.map Ah.c),.int .i64 x.Sys.Temperature,.mp ⟨true,[.int .i64,.int .i64]⟩ (x.Tl.map Em),.mp ⟨true,[.int .i64,.int .i64]⟩ (x.Op.map Dd)]
def Cp.d:List D->Option Cp
 |[.sl _ _ z,.sl _ _ O,.sl _ _ Q,.int .i64 Z,.mp ⟨true,[.int .i64,.int .i64]⟩ x4,.mp ⟨true,[.int .i64,.int .i64]⟩ x5]=>(AQ Am.d z).bind λy0=>(AQ Tile.d O).bind λy1=>(AQ Ah.d Q).bind λy2=>(Gl (EG Ab.d) D0 x4).bind λy4=>(Gl (EG Ab.d) (Qy Cl) x5).bind λy5=>some ⟨⟨⟨y0,y1⟩,⟨y2⟩,Z⟩,y4,y5⟩
 |_=>none
def Cp.d_le: ∀ds x,Cp.d ds=some x->CM ds (Cp.c x):=by
 intro ds x h;unfold Cp.d at h;split at h
 .simp only[Ei,AI] at h;obtain⟨y0,h0,y1,z,y2,O,y4,Q,y5,Z,rfl⟩:=h;exact⟨D2 (Dr Am.d_le _ _ h0) (by simp[Am.c]),D2 (Dr Tile.d_le _ _ z) (by simp[Tile.c]),D2 (Dr Ah.d_le _ _ O) (by simp[Ah.c]),Le.refl _,SU (Qxb Qwu Lg _ _ Q),SU (Qxb Qwu (rQ DO (λ_=>rfl)) _ _ Z),trivial⟩
 .cases h
def Cp.eta(x:Cp):(⟨x.Sys,x.Tl,x.Op⟩:Cp)=x:=rfl
def Cp.len(x:Cp):(Cp.c x).length=6:=rfl
structure Bc where
 Cnt:Int
 Bonds:List Ag
 At:List (List Int)
 Flow:List Int
 deriving DecidableEq
def Bc.c(x:Bc):List D:=[.int .i64 x.Cnt,.sl false 3 (x.Bonds.map Ag.c),.sl false 1 (x.At.map CK),.sl false 1 (x.Flow.map Aj)]
def Bc.d:List D->Option Bc
 |[.int .i64 z,.sl _ _ O,.sl _ _ Q,.sl _ _ Z]=>(AQ Ag.d O).bind λy1=>(AQ Qa Q).bind λy2=>(AQ Cl Z).bind λy3=>some ⟨z,y1,y2,y3⟩
 |_=>none
def Bc.d_le: ∀ds x,Bc.d ds=some x->CM ds (Bc.c x):=by
 intro ds x h;unfold Bc.d at h;split at h
 .simp only[Ei,AI] at h;obtain⟨Z,z,y2,O,y3,Q,rfl⟩:=h;exact⟨Le.refl _,D2 (Dr Ag.d_le _ _ z) (by simp[Ag.c]),D2 (Dr eH _ _ O) (by simp[CK]),D2 (Dr DO _ _ Q) (by simp[Aj]),trivial⟩
 .cases h
def Bc.eta(x:Bc):(⟨x.Cnt,x.Bonds,x.At,x.Flow⟩:Bc)=x:=rfl
def Bc.len(x:Bc):(Bc.c x).length=4:=rfl
structure Bd where
 Room:List (List Int)
 Flow:List (List Int)
 deriving DecidableEq
def Bd.c(x:Bd):List D:=[.sl false 1 (x.Room.map CK),.sl false 1 (x.Flow.map CK)]
def Bd.d:List D->Option Bd
 |[.sl _ _ z,.sl _ _ O]=>(AQ Qa z).bind λQ=>(AQ Qa O).bind λZ=>some ⟨Q,Z⟩
 |_=>none
def Bd.d_le: ∀ds x,Bd.d ds=some x->CM ds (Bd.c x):=by
 intro ds x h;unfold Bd.d at h;split at h
 .simp only[Ei,AI] at h;obtain⟨O,h0,Q,z,rfl⟩:=h;exact⟨D2 (Dr eH _ _ h0) (by simp[CK]),D2 (Dr eH _ _ z) (by simp[CK]),trivial⟩
 .cases h
def Bd.d_c(x:Bd):Bd.d (Bd.c x)=some x:=by
 simp only[Bd.c,Bd.d,MU,FR]
def Bd.eta(x:Bd):(⟨x.Room,x.Flow⟩:Bd)=x:=rfl
def Bd.len(x:Bd):(Bd.c x).length=2:=rfl
structure EM where
 Kind:Int
 Sequence:List AD
 Other:List AD
 Part:List Int
 Flows:List (List Int)
 deriving DecidableEq
def EM.c(x:EM):List D:=[.int .i64 x.Kind,.sl false 3 (x.Sequence.map AD.c),.sl false 3 (x.Other.map AD.c),.sl false 1 (x.Part.map Aj),.sl false 1 (x.Flows.map CK)]
def EM.d:List D->Option EM
 |[.int .i64 z,.sl _ _ O,.sl _ _ Q,.sl _ _ Z,.sl _ _ x4]=>(AQ AD.d O).bind λy1=>(AQ AD.d Q).bind λy2=>(AQ Cl Z).bind λy3=>(AQ Qa x4).bind λy4=>some ⟨z,y1,y2,y3,y4⟩
 |_=>none
def EM.eta(x:EM):(⟨x.Kind,x.Sequence,x.Other,x.Part,x.Flows⟩:EM)=x:=rfl
def EM.len(x:EM):(EM.c x).length=5:=rfl
structure EL where
 Num:Int
 Den:Int
 deriving DecidableEq
def EL.c(x:EL):List D:=[.int .i64 x.Num,.int .i64 x.Den]
def EL.d:List D->Option EL
 |[.int .i64 z,.int .i64 O]=>some ⟨z,O⟩
 |_=>none
def EL.eta(x:EL):(⟨x.Num,x.Den⟩:EL)=x:=rfl
def EL.len(x:EL):(EL.c x).length=2:=rfl
structure JP where
 Sys:AG
 Seq:List AD
 End:Af
 Inputs:List Int
 Strength:List Int
 deriving DecidableEq
def JP.c(x:JP):List D:=[.sl false 2 (x.Sys.Set.Glues.map Am.c),.sl false 2 (x.Sys.Set.Tiles.map Tile.c),.sl false 3 (x.Sys.Seed.Tiles.map Ah.c),.int .i64 x.Sys.Temperature,.sl false 3 (x.Seq.map AD.c),.sl false 3 (x.End.Tiles.map Ah.c),.sl false 1 (x.Inputs.map Aj),.sl false 1 (x.Strength.map Aj)]
def JP.d:List D->Option JP
 |[.sl _ _ z,.sl _ _ O,.sl _ _ Q,.int .i64 Z,.sl _ _ x4,.sl _ _ x5,.sl _ _ x6,.sl _ _ x7]=>(AQ Am.d z).bind λy0=>(AQ Tile.d O).bind λy1=>(AQ Ah.d Q).bind λy2=>(AQ AD.d x4).bind λy4=>(AQ Ah.d x5).bind λy5=>(AQ Cl x6).bind λy6=>(AQ Cl x7).bind λy7=>some ⟨⟨⟨y0,y1⟩,⟨y2⟩,Z⟩,y4,⟨y5⟩,y6,y7⟩
 |_=>none
def JP.eta(x:JP):(⟨x.Sys,x.Seq,x.End,x.Inputs,x.Strength⟩:JP)=x:=rfl
def JP.len(x:JP):(JP.c x).length=8:=rfl
end Go.Ae
