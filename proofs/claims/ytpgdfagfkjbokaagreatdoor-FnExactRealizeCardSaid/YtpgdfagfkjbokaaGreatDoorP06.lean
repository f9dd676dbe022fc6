/- Lemmas. Conditions: none. -/
import Derived.Test.YtpgdfagfkjbokaaGreatDoorP05
import Derived.KernelRfl
set_option linter.all false
set_option maxHeartbeats 8000000
set_option maxRecDepth 100000
namespace Go.Ae
def Oa{α β:Type}(f:α->List β)(l:List α)(i:Nat)(K:List β->Prop):Ih (l.map f) i K= ∀x,l[i]? =some x->K (f x):=by
 apply propext;unfold Ih;constructor
 .intro h x z;exact h (f x) (by simp[z])
 .intro h row O;simp only[CM,CT] at O;obtain⟨x,z,rfl⟩:=O;exact h x z
def QA{α β:Type}(g:List β->Bool)(f:α->List β)(l:List α):Ck g (l.map f)= ∀x∈l,g (f x)=true:=by
 apply propext;unfold Ck;simp
def NK{β:Type}(g:List β->Bool):Ck g []=True:=by
 simp[Ck]
def NI{β:Type}(g:List β->Bool)(r:List β)(l:List (List β)):Ck g (r::l)=(g r=true/\Ck g l):=by
 simp[Ck]
def zO{β:Type}(g:List β->Bool)(a b:List (List β)):Ck g (a++b)=(Ck g a/\Ck g b):=by
 apply propext;simp only[Ck,Bn];constructor
 .exact λh=>⟨λr z=>h r (.inl z),λr z=>h r (.inr z)⟩
 .rintro⟨O,Q⟩ r (z|z)
  .exact O r z
  .exact Q r z
def Q9{α:Type}(l:List α):(∀x∈l,True)=True:=by simp
def Qqj: ∀(l:List Nat),Ik l []=true
 |[]=>rfl
 |x::r=>by simp[Ik,Qqj r]
def TU(h:Nat->Option Ao):EE h []=[]:=rfl
def Pf(h:Nat->Option Ao)(x:AV)(r:List AV):EE h (x::r)=C3 h 9 x++EE h r:=by simp[EE]
def AO{p:Prop}[Decidable p]{A B:Prop}:(if p then A else B)↔((p->A)/\(¬p->B)):=by
 by_cases h:p<;>simp[h]
def AD{x:Int}(z: -9223372036854775808<=x)(O:x<=9223372036854775807):IntKind.wrap .i64 x=x:=IntWalk.i64_in x ⟨z,O⟩
def JB{α:Type}{rows:List (List α)}{i:Nat}{K:List α->Prop}{r:List α}(h:rows[i]? =some r)(O:K r):Ih rows i K:=by
 intro r' z;rw[h] at z;exact Ay z▸O
def GI{P:Nat->Prop}{n k:Nat}(z:k<n)(hn:n<=140737488355328)(h:P (k+1)): ∃b':{k:Nat//P k},n - b'.val<n - k/\IntKind.wrap .i64 ((k:Int)+1)=b'.val:=by
 refine⟨⟨k+1,h⟩,by simp only;omega,?_⟩;rw[AD (by omega) (by omega)];simp only;omega
def Xy(a b:Nat):Nat.blt a b=decide (a<b):=by
 rw[Xi];simp
def Xx(a b:Nat):Nat.ble a b=decide (a<=b):=by
 rw[Xi];simp
def Al(n:Int):List D:=[.int .i64 n]
def Da:List D->Option Int
 |[.int .i64 n]=>some n
 |_=>none
def Fh: ∀ds x,Da ds=some x->CJ ds (Al x):=by
 intro ds x h;unfold Da at h;split at h
 .simp only[AI] at h;subst h;exact⟨Le.refl _,trivial⟩
 .cases h
def iT(x:Int):Da (Al x)=some x:=rfl
def fN(l:List Int):AR Da (l.map Al)=some l:=QN iT l
def kM(n:ByteArray):List D:=[.str n]
def Zd:List D->Option ByteArray
 |[.str n]=>some n
 |_=>none
def kO(x:ByteArray):Zd (kM x)=some x:=rfl
def kN(l:List ByteArray):AR Zd (l.map kM)=some l:=QN kO l
def CX(x:List Int):List D:=[.sl false 1 (x.map Al)]
def VB:List D->Option (List Int)
 |[.sl _ _ rows]=>AR Da rows
 |_=>none
def tS: ∀ds x,VB ds=some x->CJ ds (CX x):=by
 intro ds x h;unfold VB at h;split at h
 .exact⟨Ed (DQ Fh _ _ h) (by simp[Al]),trivial⟩
 .cases h
def YQ(x:List Int):VB (CX x)=some x:=fN x
def MV(l:List (List Int)):AR VB (l.map CX)=some l:=QN YQ l
def Ez:D->Option Int
 | .int .i64 n=>some n
 |_=>none
def Vu: ∀d x,Ez d=some x->Le d (.int .i64 x):=by
 intro d x h;unfold Ez at h;split at h
 .simp only[AI] at h;subst h;exact Le.refl _
 .cases h
def Vg:D->Option ByteArray
 | .str n=>some n
 |_=>none
def Zq: ∀d x,Vg d=some x->Le d (.str x):=by
 intro d x h;unfold Vg at h;split at h
 .simp only[AI] at h;subst h;exact Le.refl _
 .cases h
def Vv:D->Option Bool
 | .bool n=>some n
 |_=>none
def lE: ∀d x,Vv d=some x->Le d (.bool x):=by
 intro d x h;unfold Vv at h;split at h
 .simp only[AI] at h;subst h;exact Le.refl _
 .cases h
def Q6{A:Type}(f:List D->Option A):D->Option (List A)
 | .sl _ _ rows=>AR f rows
 |_=>none
def sS{A:Type}{f:List D->Option A}{e:A->List D}{k:Nat}(hf: ∀ds x,f ds=some x->CJ ds (e x))(z: ∀x,(e x).length=k): ∀d x,Q6 f d=some x->Le d (.sl false k (x.map e)):=by
 intro d x h;unfold Q6 at h;split at h
 .exact Ed (DQ hf _ _ h) (by simp only[Bo];rintro r ⟨y,_,rfl⟩;exact z y)
 .cases h
def EH{A:Type}(f:List D->Option A):D->Option A
 | .agg cs=>f cs
 |_=>none
def Nv{A:Type}{f:List D->Option A}{e:A->List D}(hf: ∀ds x,f ds=some x->CJ ds (e x)): ∀d x,EH f d=some x->Le d (.agg (e x)):=by
 intro d x h;unfold EH at h;split at h
 .exact sP (hf _ _ h)
 .cases h
def lO{A B:Type}(f:D->Option A)(g:D->Option B):D->Option (A×B)
 | .tup [x,y]=>(f x).bind λa=>(g y).map λb=>(a,b)
 |_=>none
def Qbz{A B:Type}{f:D->Option A}{g:D->Option B}{e:A->D}{e':B->D}(hf: ∀d x,f d=some x->Le d (e x))(Q: ∀d x,g d=some x->Le d (e' x)): ∀d (x:A×B),lO f g d=some x->Le d (.tup [e x.1,e' x.2]):=by
 intro d x h;unfold lO at h;split at h
 .simp only[EP,CT] at h;obtain⟨a,z,b,O,rfl⟩:=h;exact KC ⟨hf _ _ z,Q _ _ O,trivial⟩
 .cases h
def J7{A B E:Type}(f:D->Option A)(g:D->Option B)(k:D->Option E):D->Option (A×B×E)
 | .tup [x,y,z]=>(f x).bind λa=>(g y).bind λb=>(k z).map λc=>(a,b,c)
 |_=>none
def Vh{A B E:Type}{f:D->Option A}{g:D->Option B}{k:D->Option E}{e:A->D}{e':B->D}{e'':E->D}(hf: ∀d x,f d=some x->Le d (e x))(Z: ∀d x,g d=some x->Le d (e' x))(hk: ∀d x,k d=some x->Le d (e'' x)):
 ∀d (x:A×B×E),J7 f g k d=some x->Le d (.tup [e x.1,e' x.2.1,e'' x.2.2]):=by
 intro d x h;unfold J7 at h;split at h
 .simp only[EP,CT] at h;obtain⟨a,z,b,O,c,Q,rfl⟩:=h;exact KC ⟨hf _ _ z,Z _ _ O,hk _ _ Q,trivial⟩
 .cases h
def Gl{A B:Type}(f:D->Option A)(g:D->Option B):List (D×D)->Option (List (A×B))
 |[]=>some []
 |(x,y)::r=>(f x).bind λa=>(g y).bind λb=>(Gl f g r).map λl=>(a,b)::l
def VR:List (D×D)->List (D×D)->Prop
 |[],[]=>True
 |(x,y)::r,(x',y')::r'=>x=x'/\Le y y'/\VR r r'
 |[],_::_=>False
 |_::_,[]=>False
def Qxb{A B:Type}{f:D->Option A}{g:D->Option B}{z:A->D}{O:B->D}(hf: ∀d x,f d=some x->d=z x)(Q: ∀d x,g d=some x->Le d (O x)): ∀(es:List (D×D)) (l:List (A×B)),Gl f g es=some l->VR es (l.map λp=>(z p.1,O p.2))
 |[],l,h=>by
  simp only[Gl,AI] at h;subst h;trivial
 |(x,y)::r,l,h=>by
  simp only[Gl,EP,CT] at h;obtain⟨a,Z,b,hb,l',hl,rfl⟩:=h;exact⟨hf _ _ Z,Q _ _ hb,Qxb hf Q r l' hl⟩
def VR.rde{ok:Nat->Prop}{hp:Nat->Option Obj}: ∀{a b:List (D×D)} {es:List MapEntry},VR a b->Ae.rde ok hp a es->Ae.rde ok hp b es
 |[],[],_,_,h=>h
 |(x,y)::r,(x',y')::r',es,Z,h=>by
  simp only[Ae.rde] at h⊢;obtain⟨e,q,rfl,z,O,Q⟩:=h;obtain⟨rfl,l2,l3⟩:=Z;exact⟨e,q,rfl,z,l2 _ _ _ O,VR.rde l3 Q⟩
 |[],_::_,_,h,_=>h.elim
 |_::_,[],_,h,_=>h.elim
def VR.fit{O:KT}: ∀{a b:List (D×D)},VR a b->(∀e∈a,O.fit e.1=true)-> ∀e∈b,O.fit e.1=true
 |[],[],_,h=>h
 |(x,y)::r,(x',y')::r',Q,h=>by
  obtain⟨rfl,_,Z⟩:=Q;intro e z;rcases Bh.1 z with rfl|z
  .exact h (x,y) (BM ..)
  .exact VR.fit Z (λe z=>h e (BP _ z)) e z
 |[],_::_,h,_=>h.elim
 |_::_,[],h,_=>h.elim
def SQ{Z:KT}{a b:List (D×D)}(h:VR a b):Le (.mp Z a) (.mp Z b):=by
 intro ok hp v Q;simp only[rd] at Q⊢;obtain⟨bk,O,z,rfl,h1,h2,h3,h4,h5⟩:=Q;exact⟨bk,O,z,rfl,h.fit h1,h2,h3,h.rde h4,h5⟩
def Qs4{A B:Type}{f:D->Option A}{g:D->Option B}{m:A×B->D×D}(h: ∀p,f (m p).1=some p.1/\g (m p).2=some p.2): ∀(l:List (A×B)),Gl f g (l.map m)=some l
 |[]=>rfl
 |p::r=>by
  simp only[Bf,Gl,(h p).1,(h p).2,G7,Qs4 h r,D3]
structure Ac where
 X:Int
 Y:Int
 deriving DecidableEq
def Ac.c(x:Ac):List D:=[.int .i64 x.X,.int .i64 x.Y]
def Ac.d:List D->Option Ac
 |[.int .i64 z,.int .i64 O]=>some ⟨z,O⟩
 |_=>none
def Ac.d_le: ∀ds x,Ac.d ds=some x->CJ ds (Ac.c x):=by
 intro ds x h;unfold Ac.d at h;split at h
 .simp only[AI] at h;subst h;exact⟨Le.refl _,Le.refl _,trivial⟩
 .cases h
def Ac.d_c(x:Ac):Ac.d (Ac.c x)=some x:=by
 simp only[Ac.c,Ac.d]
def Ac.d_R(l:List Ac):AR Ac.d (l.map Ac.c)=some l:=QN Ac.d_c l
def Ac.eta(x:Ac):(⟨x.X,x.Y⟩:Ac)=x:=rfl
def Ac.len(x:Ac):(Ac.c x).length=2:=rfl
structure Aj where
 At:Ac
 Tile:Int
 deriving DecidableEq
def Aj.c(x:Aj):List D:=[.int .i64 x.At.X,.int .i64 x.At.Y,.int .i64 x.Tile]
def Aj.d:List D->Option Aj
 |[.int .i64 z,.int .i64 O,.int .i64 Q]=>some ⟨⟨z,O⟩,Q⟩
 |_=>none
def Aj.d_le: ∀ds x,Aj.d ds=some x->CJ ds (Aj.c x):=by
 intro ds x h;unfold Aj.d at h;split at h
 .simp only[AI] at h;subst h;exact⟨Le.refl _,Le.refl _,Le.refl _,trivial⟩
 .cases h
def Aj.d_c(x:Aj):Aj.d (Aj.c x)=some x:=by
 simp only[Aj.c,Aj.d]
def Aj.d_R(l:List Aj):AR Aj.d (l.map Aj.c)=some l:=QN Aj.d_c l
def Aj.eta(x:Aj):(⟨x.At,x.Tile⟩:Aj)=x:=rfl
def Aj.len(x:Aj):(Aj.c x).length=3:=rfl
structure Ad where
 Tiles:List Aj
 deriving DecidableEq
def Ad.c(x:Ad):List D:=[.sl false 3 (x.Tiles.map Aj.c)]
def Ad.d:List D->Option Ad
 |[.sl _ _ z]=>(AR Aj.d z).bind λO=>some ⟨O⟩
 |_=>none
def Ad.d_le: ∀ds x,Ad.d ds=some x->CJ ds (Ad.c x):=by
 intro ds x h;unfold Ad.d at h;split at h
 .simp only[EP,AI] at h;obtain⟨z,h0,rfl⟩:=h;exact⟨Ed (DQ Aj.d_le _ _ h0) (by simp[Aj.c]),trivial⟩
 .cases h
def Ad.d_c(x:Ad):Ad.d (Ad.c x)=some x:=by
 simp only[Ad.c,Ad.d,Aj.d_R,G7]
def Ad.eta(x:Ad):(⟨x.Tiles⟩:Ad)=x:=rfl
def Ad.len(x:Ad):(Ad.c x).length=1:=rfl
structure Am where
 Name:ByteArray
 Strength:Int
 deriving DecidableEq
def Am.c(x:Am):List D:=[.str x.Name,.int .i64 x.Strength]
def Am.d:List D->Option Am
 |[.str z,.int .i64 O]=>some ⟨z,O⟩
 |_=>none
def Am.d_le: ∀ds x,Am.d ds=some x->CJ ds (Am.c x):=by
 intro ds x h;unfold Am.d at h;split at h
 .simp only[AI] at h;subst h;exact⟨Le.refl _,Le.refl _,trivial⟩
 .cases h
def Am.d_c(x:Am):Am.d (Am.c x)=some x:=by
 simp only[Am.c,Am.d]
def Am.d_R(l:List Am):AR Am.d (l.map Am.c)=some l:=QN Am.d_c l
def Am.eta(x:Am):(⟨x.Name,x.Strength⟩:Am)=x:=rfl
def Am.len(x:Am):(Am.c x).length=2:=rfl
structure Tile where
 Name:ByteArray
 Sides:List Int
 deriving DecidableEq
def Tile.c(x:Tile):List D:=[.str x.Name,.sl false 1 (x.Sides.map Al)]
def Tile.d:List D->Option Tile
 |[.str z,.sl _ _ O]=>(AR Da O).bind λQ=>some ⟨z,Q⟩
 |_=>none
def Tile.d_le: ∀ds x,Tile.d ds=some x->CJ ds (Tile.c x):=by
 intro ds x h;unfold Tile.d at h;split at h
 .simp only[EP,AI] at h;obtain⟨O,z,rfl⟩:=h;exact⟨Le.refl _,Ed (DQ Fh _ _ z) (by simp[Al]),trivial⟩
 .cases h
def Tile.d_c(x:Tile):Tile.d (Tile.c x)=some x:=by
 simp only[Tile.c,Tile.d,fN,G7]
def Tile.d_R(l:List Tile):AR Tile.d (l.map Tile.c)=some l:=QN Tile.d_c l
def Tile.eta(x:Tile):(⟨x.Name,x.Sides⟩:Tile)=x:=rfl
def Tile.len(x:Tile):(Tile.c x).length=2:=rfl
structure Az where
 Glues:List Am
 Tiles:List Tile
 deriving DecidableEq
def Az.c(x:Az):List D:=[.sl false 2 (x.Glues.map Am.c),.sl false 2 (x.Tiles.map Tile.c)]
def Az.d:List D->Option Az
 |[.sl _ _ z,.sl _ _ O]=>(AR Am.d z).bind λQ=>(AR Tile.d O).bind λZ=>some ⟨Q,Z⟩
 |_=>none
def Az.d_le: ∀ds x,Az.d ds=some x->CJ ds (Az.c x):=by
 intro ds x h;unfold Az.d at h;split at h
 .simp only[EP,AI] at h;obtain⟨O,h0,Q,z,rfl⟩:=h;exact⟨Ed (DQ Am.d_le _ _ h0) (by simp[Am.c]),Ed (DQ Tile.d_le _ _ z) (by simp[Tile.c]),trivial⟩
 .cases h
def Az.eta(x:Az):(⟨x.Glues,x.Tiles⟩:Az)=x:=rfl
def Az.len(x:Az):(Az.c x).length=2:=rfl
structure AM where
 Set:Az
 Seed:Ad
 Temperature:Int
 deriving DecidableEq
def AM.c(x:AM):List D:=[.sl false 2 (x.Set.Glues.map Am.c),.sl false 2 (x.Set.Tiles.map Tile.c),.sl false 3 (x.Seed.Tiles.map Aj.c),.int .i64 x.Temperature]
def AM.d:List D->Option AM
 |[.sl _ _ z,.sl _ _ O,.sl _ _ Q,.int .i64 Z]=>(AR Am.d z).bind λy0=>(AR Tile.d O).bind λy1=>(AR Aj.d Q).bind λy2=>some ⟨⟨y0,y1⟩,⟨y2⟩,Z⟩
 |_=>none
def AM.d_le: ∀ds x,AM.d ds=some x->CJ ds (AM.c x):=by
 intro ds x h;unfold AM.d at h;split at h
 .simp only[EP,AI] at h;obtain⟨Q,h0,Z,z,y2,O,rfl⟩:=h;exact⟨Ed (DQ Am.d_le _ _ h0) (by simp[Am.c]),Ed (DQ Tile.d_le _ _ z) (by simp[Tile.c]),Ed (DQ Aj.d_le _ _ O) (by simp[Aj.c]),Le.refl _,trivial⟩
 .cases h
def AM.eta(x:AM):(⟨x.Set,x.Seed,x.Temperature⟩:AM)=x:=rfl
def AM.len(x:AM):(AM.c x).length=4:=rfl
structure A9 where
 At:Ac
 Tile:Int
 deriving DecidableEq
def A9.c(x:A9):List D:=[.int .i64 x.At.X,.int .i64 x.At.Y,.int .i64 x.Tile]
def A9.d:List D->Option A9
 |[.int .i64 z,.int .i64 O,.int .i64 Q]=>some ⟨⟨z,O⟩,Q⟩
 |_=>none
def A9.d_le: ∀ds x,A9.d ds=some x->CJ ds (A9.c x):=by
 intro ds x h;unfold A9.d at h;split at h
 .simp only[AI] at h;subst h;exact⟨Le.refl _,Le.refl _,Le.refl _,trivial⟩
 .cases h
def A9.d_c(x:A9):A9.d (A9.c x)=some x:=by
 simp only[A9.c,A9.d]
def A9.d_R(l:List A9):AR A9.d (l.map A9.c)=some l:=QN A9.d_c l
def A9.eta(x:A9):(⟨x.At,x.Tile⟩:A9)=x:=rfl
def A9.len(x:A9):(A9.c x).length=3:=rfl
structure AE where
 Big:AM
 Small:AM
 Scale:Int
 Labels:List Int
 deriving DecidableEq
def AE.c(x:AE):List D:=[.sl false 2 (x.Big.Set.Glues.map Am.c),.sl false 2 (x.Big.Set.Tiles.map Tile.c),.sl false 3 (x.Big.Seed.Tiles.map Aj.c),.int .i64 x.Big.Temperature,.sl false 2 (x.Small.Set.Glues.map Am.c),.sl false 2 (x.Small.Set.Tiles.map Tile.c),.sl false 3 (x.Small.Seed.Tiles.map Aj.c),.int .i64 x.Small.Temperature,.int .i64 x.Scale,.sl false 1 (x.Labels.map Al)]
def AE.d:List D->Option AE
 |[.sl _ _ z,.sl _ _ O,.sl _ _ Q,.int .i64 Z,.sl _ _ x4,.sl _ _ x5,.sl _ _ x6,.int .i64 x7,.int .i64 x8,.sl _ _ x9]=>(AR Am.d z).bind λy0=>(AR Tile.d O).bind λy1=>(AR Aj.d Q).bind λy2=>(AR Am.d x4).bind λy4=>(AR Tile.d x5).bind λy5=>(AR Aj.d x6).bind λy6=>(AR Da x9).bind λy9=>some ⟨⟨⟨y0,y1⟩,⟨y2⟩,Z⟩,⟨⟨y4,y5⟩,⟨y6⟩,x7⟩,x8,y9⟩
 |_=>none
def AE.d_le: ∀ds x,AE.d ds=some x->CJ ds (AE.c x):=by
 intro ds x h;unfold AE.d at h;split at h
 .simp only[EP,AI] at h;obtain⟨y0,h0,y1,z,y2,O,y4,Q,y5,Z,y6,h6,y9,h9,rfl⟩:=h;exact⟨Ed (DQ Am.d_le _ _ h0) (by simp[Am.c]),Ed (DQ Tile.d_le _ _ z) (by simp[Tile.c]),Ed (DQ Aj.d_le _ _ O) (by simp[Aj.c]),Le.refl _,Ed (DQ Am.d_le _ _ Q) (by simp[Am.c]),Ed (DQ Tile.d_le _ _ Z) (by simp[Tile.c]),Ed (DQ Aj.d_le _ _ h6) (by simp[Aj.c]),Le.refl _,Le.refl _,Ed (DQ Fh _ _ h9) (by simp[Al]),trivial⟩
 .cases h
def AE.d_c(x:AE):AE.d (AE.c x)=some x:=by
 simp only[AE.c,AE.d,Am.d_R,Aj.d_R,Tile.d_R,fN,G7]
def AE.eta(x:AE):(⟨x.Big,x.Small,x.Scale,x.Labels⟩:AE)=x:=rfl
def AE.len(x:AE):(AE.c x).length=10:=rfl
structure Ag where
 A:Int
 B:Int
 Strength:Int
 deriving DecidableEq
def Ag.c(x:Ag):List D:=[.int .i64 x.A,.int .i64 x.B,.int .i64 x.Strength]
def Ag.d:List D->Option Ag
 |[.int .i64 z,.int .i64 O,.int .i64 Q]=>some ⟨z,O,Q⟩
 |_=>none
def Ag.d_le: ∀ds x,Ag.d ds=some x->CJ ds (Ag.c x):=by
 intro ds x h;unfold Ag.d at h;split at h
 .simp only[AI] at h;subst h;exact⟨Le.refl _,Le.refl _,Le.refl _,trivial⟩
 .cases h
def Ag.d_c(x:Ag):Ag.d (Ag.c x)=some x:=by
 simp only[Ag.c,Ag.d]
def Ag.d_R(l:List Ag):AR Ag.d (l.map Ag.c)=some l:=QN Ag.d_c l
def Ag.eta(x:Ag):(⟨x.A,x.B,x.Strength⟩:Ag)=x:=rfl
def Ag.len(x:Ag):(Ag.c x).length=3:=rfl
def Qwu: ∀d x,EH Ac.d d=some x->d= .agg (Ac.c x):=by
 intro d x h;unfold EH at h;split at h
 .rename_i cs;unfold Ac.d at h;split at h
  .simp only[AI] at h;subst h;rfl
  .cases h
 .cases h
def GK(p:Ac×Int):D×D:=(.agg (Ac.c p.1),.int .i64 p.2)
def Qmt(l:List (Ac×Int)):Gl (EH Ac.d) Ez (l.map GK)=some l:=Qs4 (λp=>⟨by simp[GK,EH,Ac.d_c],by simp[GK,Ez]⟩) l
def Ek(p:Ac×(List Int)):D×D:=(.agg (Ac.c p.1),.sl false 1 (p.2.map Al))
def Qk8(l:List (Ac×(List Int))):Gl (EH Ac.d) (Q6 Da) (l.map Ek)=some l:=Qs4 (λp=>⟨by simp[Ek,EH,Ac.d_c],by simp[Ek,Q6,fN]⟩) l
structure Dz where
 Sys:AM
 Tl:List (Ac×Int)
 Op:List (Ac×(List Int))
 deriving DecidableEq
def Dz.c(x:Dz):List D:=[.sl false 2 (x.Sys.Set.Glues.map Am.c),.sl false 2 (x.Sys.Set.Tiles.map Tile.c),.sl false 3 (x.Sys.Seed.Tiles.map Aj.c),.int .i64 x.Sys.Temperature,.mp ⟨true,[.int .i64,.int .i64]⟩ (x.Tl.map GK),.mp ⟨true,[.int .i64,.int .i64]⟩ (x.Op.map Ek)]
def Dz.d:List D->Option Dz
 |[.sl _ _ z,.sl _ _ O,.sl _ _ Q,.int .i64 Z,.mp ⟨true,[.int .i64,.int .i64]⟩ x4,.mp ⟨true,[.int .i64,.int .i64]⟩ x5]=>(AR Am.d z).bind λy0=>(AR Tile.d O).bind λy1=>(AR Aj.d Q).bind λy2=>(Gl (EH Ac.d) Ez x4).bind λy4=>(Gl (EH Ac.d) (Q6 Da) x5).bind λy5=>some ⟨⟨⟨y0,y1⟩,⟨y2⟩,Z⟩,y4,y5⟩
 |_=>none
def Dz.d_le: ∀ds x,Dz.d ds=some x->CJ ds (Dz.c x):=by
 intro ds x h;unfold Dz.d at h;split at h
 .simp only[EP,AI] at h;obtain⟨y0,h0,y1,z,y2,O,y4,Q,y5,Z,rfl⟩:=h;exact⟨Ed (DQ Am.d_le _ _ h0) (by simp[Am.c]),Ed (DQ Tile.d_le _ _ z) (by simp[Tile.c]),Ed (DQ Aj.d_le _ _ O) (by simp[Aj.c]),Le.refl _,SQ (Qxb Qwu Vu _ _ Q),SQ (Qxb Qwu (sS Fh (λ_=>rfl)) _ _ Z),trivial⟩
 .cases h
def Dz.eta(x:Dz):(⟨x.Sys,x.Tl,x.Op⟩:Dz)=x:=rfl
def Dz.len(x:Dz):(Dz.c x).length=6:=rfl
structure Bb where
 Cnt:Int
 Bonds:List Ag
 At:List (List Int)
 Flow:List Int
 deriving DecidableEq
def Bb.c(x:Bb):List D:=[.int .i64 x.Cnt,.sl false 3 (x.Bonds.map Ag.c),.sl false 1 (x.At.map CX),.sl false 1 (x.Flow.map Al)]
def Bb.d:List D->Option Bb
 |[.int .i64 z,.sl _ _ O,.sl _ _ Q,.sl _ _ Z]=>(AR Ag.d O).bind λy1=>(AR VB Q).bind λy2=>(AR Da Z).bind λy3=>some ⟨z,y1,y2,y3⟩
 |_=>none
def Bb.d_le: ∀ds x,Bb.d ds=some x->CJ ds (Bb.c x):=by
 intro ds x h;unfold Bb.d at h;split at h
 .simp only[EP,AI] at h;obtain⟨Z,z,y2,O,y3,Q,rfl⟩:=h;exact⟨Le.refl _,Ed (DQ Ag.d_le _ _ z) (by simp[Ag.c]),Ed (DQ tS _ _ O) (by simp[CX]),Ed (DQ Fh _ _ Q) (by simp[Al]),trivial⟩
 .cases h
def Bb.eta(x:Bb):(⟨x.Cnt,x.Bonds,x.At,x.Flow⟩:Bb)=x:=rfl
def Bb.len(x:Bb):(Bb.c x).length=4:=rfl
structure Bd where
 Room:List (List Int)
 Flow:List (List Int)
 deriving DecidableEq
def Bd.c(x:Bd):List D:=[.sl false 1 (x.Room.map CX),.sl false 1 (x.Flow.map CX)]
def Bd.d:List D->Option Bd
 |[.sl _ _ z,.sl _ _ O]=>(AR VB z).bind λQ=>(AR VB O).bind λZ=>some ⟨Q,Z⟩
 |_=>none
def Bd.d_le: ∀ds x,Bd.d ds=some x->CJ ds (Bd.c x):=by
 intro ds x h;unfold Bd.d at h;split at h
 .simp only[EP,AI] at h;obtain⟨O,h0,Q,z,rfl⟩:=h;exact⟨Ed (DQ tS _ _ h0) (by simp[CX]),Ed (DQ tS _ _ z) (by simp[CX]),trivial⟩
 .cases h
def Bd.d_c(x:Bd):Bd.d (Bd.c x)=some x:=by
 simp only[Bd.c,Bd.d,MV,G7]
def Bd.eta(x:Bd):(⟨x.Room,x.Flow⟩:Bd)=x:=rfl
def Bd.len(x:Bd):(Bd.c x).length=2:=rfl
structure Kg where
 Kind:Int
 Sequence:List A9
 Other:List A9
 Part:List Int
 Flows:List (List Int)
 deriving DecidableEq
def Kg.c(x:Kg):List D:=[.int .i64 x.Kind,.sl false 3 (x.Sequence.map A9.c),.sl false 3 (x.Other.map A9.c),.sl false 1 (x.Part.map Al),.sl false 1 (x.Flows.map CX)]
def Kg.d:List D->Option Kg
 |[.int .i64 z,.sl _ _ O,.sl _ _ Q,.sl _ _ Z,.sl _ _ x4]=>(AR A9.d O).bind λy1=>(AR A9.d Q).bind λy2=>(AR Da Z).bind λy3=>(AR VB x4).bind λy4=>some ⟨z,y1,y2,y3,y4⟩
 |_=>none
def Kg.len(x:Kg):(Kg.c x).length=5:=rfl
structure JX where
 Num:Int
 Den:Int
 deriving DecidableEq
def JX.c(x:JX):List D:=[.int .i64 x.Num,.int .i64 x.Den]
def JX.d:List D->Option JX
 |[.int .i64 z,.int .i64 O]=>some ⟨z,O⟩
 |_=>none
def JX.len(x:JX):(JX.c x).length=2:=rfl
structure Zy where
 Sys:AM
 Seq:List A9
 End:Ad
 Inputs:List Int
 Strength:List Int
 deriving DecidableEq
def Zy.c(x:Zy):List D:=[.sl false 2 (x.Sys.Set.Glues.map Am.c),.sl false 2 (x.Sys.Set.Tiles.map Tile.c),.sl false 3 (x.Sys.Seed.Tiles.map Aj.c),.int .i64 x.Sys.Temperature,.sl false 3 (x.Seq.map A9.c),.sl false 3 (x.End.Tiles.map Aj.c),.sl false 1 (x.Inputs.map Al),.sl false 1 (x.Strength.map Al)]
def Zy.d:List D->Option Zy
 |[.sl _ _ z,.sl _ _ O,.sl _ _ Q,.int .i64 Z,.sl _ _ x4,.sl _ _ x5,.sl _ _ x6,.sl _ _ x7]=>(AR Am.d z).bind λy0=>(AR Tile.d O).bind λy1=>(AR Aj.d Q).bind λy2=>(AR A9.d x4).bind λy4=>(AR Aj.d x5).bind λy5=>(AR Da x6).bind λy6=>(AR Da x7).bind λy7=>some ⟨⟨⟨y0,y1⟩,⟨y2⟩,Z⟩,y4,⟨y5⟩,y6,y7⟩
 |_=>none
def Zy.len(x:Zy):(Zy.c x).length=8:=rfl
end Go.Ae
