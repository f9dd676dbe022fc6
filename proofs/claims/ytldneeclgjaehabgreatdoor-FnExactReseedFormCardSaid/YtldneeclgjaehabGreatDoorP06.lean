/- Lemmas. Conditions: none. -/
import Derived.Test.YtldneeclgjaehabGreatDoorP05
import Derived.KernelRfl
set_option linter.all false
set_option maxHeartbeats 8000000
set_option maxRecDepth 100000
namespace Go.Ae
def Pf{α β:Type}(f:α->List β)(l:List α)(i:Nat)(K:List β->Prop):K4 (l.map f) i K= ∀x,l[i]? =some x->K (f x):=by
 apply propext;unfold K4;constructor
 .intro h x z;exact h (f x) (by simp[z])
 .intro h row O;simp only[Dp,Dx] at O;obtain⟨x,z,rfl⟩:=O;exact h x z
def R5{α β:Type}(g:List β->Bool)(f:α->List β)(l:List α):DI g (l.map f)= ∀x∈l,g (f x)=true:=by
 apply propext;unfold DI;simp
def XG{β:Type}(g:List β->Bool):DI g []=True:=by
 simp[DI]
def X3{β:Type}(g:List β->Bool)(r:List β)(l:List (List β)):DI g (r::l)=(g r=true/\DI g l):=by
 simp[DI]
def XB{β:Type}(g:List β->Bool)(a b:List (List β)):DI g (a++b)=(DI g a/\DI g b):=by
 apply propext;simp only[DI,BO];constructor
 .exact λh=>⟨λr z=>h r (.inl z),λr z=>h r (.inr z)⟩
 .rintro⟨O,Q⟩ r (z|z)
  .exact O r z
  .exact Q r z
def R4{α:Type}(l:List α):(∀x∈l,True)=True:=auSi
def Qqj: ∀(l:List Nat),GE l []=true
 |[]=>rfl
 |x::r=>by simp[GE,Qqj r]
def Vj(h:HpT):Es h []=[]:=rfl
def Qf(h:HpT)(x:AV)(r:List AV):Es h (x::r)=Aa h 9 x++Es h r:=by simp[Es]
def AL{p:Prop}[Decidable p]{A B:Prop}:(if p then A else B)↔((p->A)/\(¬p->B)):=by
 by_cases h:p<;>simp[h]
def AG{x:Int}(z: -9223372036854775808<=x)(O:x<=9223372036854775807):IntKind.wrap .i64 x=x:=IntWalk.i64_in x ⟨z,O⟩
def IH{α:Type}{rows:List (List α)}{i:Nat}{K:List α->Prop}{r:List α}(h:rows[i]? =some r)(O:K r):K4 rows i K:=by
 intro r' z;rw[h] at z;exact AJ z▸O
def FG{P:Nat->Prop}{n k:Nat}(z:k<n)(hn:n<=140737488355328)(h:P (k+1)): ∃b':{k:Nat//P k},n - b'.val<n - k/\IntKind.wrap .i64 ((k:Int)+1)=b'.val:=by
 refine⟨⟨k+1,h⟩,by simp only;omega,?_⟩;rw[AG auOm auOm];simp only;omega
def YW(a b:Nat):Nat.blt a b=decide (a<b):=by
 rw[Iw];simp
def YU(a b:Nat):Nat.ble a b=decide (a<=b):=by
 rw[Iw];simp
def Aj(n:Int):List D:=[.int .i64 n]
def CV:List D->Option Int
 |[.int .i64 n]=>some n
 |_=>none
def D4: ∀ds x,CV ds=some x->DC ds (Aj x):=by
 intro ds x h;unfold CV at h;split at h
 .simp only[AS] at h;subst h;exact⟨Le.refl _,trivial⟩
 .cases h
def XH(x:Int):CV (Aj x)=some x:=rfl
def qF(l:Cz):Ba CV (l.map Aj)=some l:=Mh XH l
def FD(n:MM):List D:=[.str n]
def bV:List D->Option MM
 |[.str n]=>some n
 |_=>none
def oI(x:MM):bV (FD x)=some x:=rfl
def oH(l:List MM):Ba bV (l.map FD)=some l:=Mh oI l
def BD(x:Cz):List D:=[.sl false 1 (x.map Aj)]
def Pd:List D->Option (Cz)
 |[.sl _ _ rows]=>Ba CV rows
 |_=>none
def OZ: ∀ds x,Pd ds=some x->DC ds (BD x):=by
 intro ds x h;unfold Pd at h;split at h
 .exact⟨Fz (Fs D4 _ _ h) (by simp[Aj]),trivial⟩
 .cases h
def bF(x:Cz):Pd (BD x)=some x:=qF x
def BB(l:List (Cz)):Ba Pd (l.map BD)=some l:=Mh bF l
def Eu:D->Option Int
 | .int .i64 n=>some n
 |_=>none
def Xy: ∀d x,Eu d=some x->Le d (.int .i64 x):=by
 intro d x h;unfold Eu at h;split at h
 .simp only[AS] at h;subst h;exact Le.refl _
 .cases h
def IX:D->Option MM
 | .str n=>some n
 |_=>none
def cN: ∀d x,IX d=some x->Le d (.str x):=by
 intro d x h;unfold IX at h;split at h
 .simp only[AS] at h;subst h;exact Le.refl _
 .cases h
def QV:D->Option Bool
 | .bool n=>some n
 |_=>none
def cV: ∀d x,QV d=some x->Le d (.bool x):=by
 intro d x h;unfold QV at h;split at h
 .simp only[AS] at h;subst h;exact Le.refl _
 .cases h
def Xt{A:Type}(f:List D->Option A):D->Option (List A)
 | .sl _ _ rows=>Ba f rows
 |_=>none
def Wy{A:Type}{f:List D->Option A}{e:A->List D}{k:Nat}(hf: ∀ds x,f ds=some x->DC ds (e x))(z: ∀x,(e x).length=k): ∀d x,Xt f d=some x->Le d (.sl false k (x.map e)):=by
 intro d x h;unfold Xt at h;split at h
 .exact Fz (Fs hf _ _ h) (by simp only[BY];rintro r ⟨y,_,rfl⟩;exact z y)
 .cases h
def Gi{A:Type}(f:List D->Option A):D->Option A
 | .agg z=>f z
 |_=>none
def Ou{A:Type}{f:List D->Option A}{e:A->List D}(hf: ∀ds x,f ds=some x->DC ds (e x)): ∀d x,Gi f d=some x->Le d (.agg (e x)):=by
 intro d x h;unfold Gi at h;split at h
 .exact LI (hf _ _ h)
 .cases h
def pH{A B:Type}(f:D->Option A)(g:D->Option B):D->Option (A×B)
 | .tup [x,y]=>(f x).bind λa=>(g y).map λb=>(a,b)
 |_=>none
def Qbz{A B:Type}{f:D->Option A}{g:D->Option B}{e:A->D}{e':B->D}(hf: ∀d x,f d=some x->Le d (e x))(hg: ∀d x,g d=some x->Le d (e' x)): ∀d (x:A×B),pH f g d=some x->Le d (.tup [e x.1,e' x.2]):=by
 intro d x h;unfold pH at h;split at h
 .simp only[DG,Dx] at h;obtain⟨a,z,b,O,rfl⟩:=h;exact LJ ⟨hf _ _ z,hg _ _ O,trivial⟩
 .cases h
def Kw{A B E:Type}(f:D->Option A)(g:D->Option B)(k:D->Option E):D->Option (A×B×E)
 | .tup [x,y,z]=>(f x).bind λa=>(g y).bind λb=>(k z).map λc=>(a,b,c)
 |_=>none
def Wz{A B E:Type}{f:D->Option A}{g:D->Option B}{k:D->Option E}{e:A->D}{e':B->D}{e'':E->D}(hf: ∀d x,f d=some x->Le d (e x))(hg: ∀d x,g d=some x->Le d (e' x))(Z: ∀d x,k d=some x->Le d (e'' x)):
 ∀d (x:A×B×E),Kw f g k d=some x->Le d (.tup [e x.1,e' x.2.1,e'' x.2.2]):=by
 intro d x h;unfold Kw at h;split at h
 .simp only[DG,Dx] at h;obtain⟨a,z,b,O,c,Q,rfl⟩:=h;exact LJ ⟨hf _ _ z,hg _ _ O,Z _ _ Q,trivial⟩
 .cases h
def L7{A B:Type}(f:D->Option A)(g:D->Option B):List (D×D)->Option (List (A×B))
 |[]=>some []
 |(x,y)::r=>(f x).bind λa=>(g y).bind λb=>(L7 f g r).map λl=>(a,b)::l
def LeM:List (D×D)->List (D×D)->Prop
 |[],[]=>True
 |(x,y)::r,(x',y')::r'=>x=x'/\Le y y'/\LeM r r'
 |[],_::_=>False
 |_::_,[]=>False
def LeM.fit{O:KT}: ∀{a b:List (D×D)},LeM a b->(∀e∈a,O.fit e.1=true)-> ∀e∈b,O.fit e.1=true
 |[],[],_,h=>h
 |(x,y)::r,(x',y')::r',Q,h=>by
  obtain⟨rfl,_,l3⟩:=Q;intro e z;rcases B0.1 z with rfl|z
  .exact h (x,y) (CP ..)
  .exact LeM.fit l3 (λe z=>h e (Ah _ z)) e z
 |[],_::_,h,_=>h.elim
 |_::_,[],h,_=>h.elim
def Qs4{A B:Type}{f:D->Option A}{g:D->Option B}{m:A×B->D×D}(h: ∀p,f (m p).1=some p.1/\g (m p).2=some p.2): ∀(l:List (A×B)),L7 f g (l.map m)=some l
 |[]=>rfl
 |p::r=>by
  simp only[Br,L7,(h p).1,(h p).2,E7,Qs4 h r,CT]
structure AR where
 X:Int
 Y:Int
 deriving DecidableEq
def AR.c(x:AR):List D:=[.int .i64 x.X,.int .i64 x.Y]
def AR.d:List D->Option AR
 |[.int .i64 z,.int .i64 O]=>some ⟨z,O⟩
 |_=>none
def AR.d_le: ∀ds x,AR.d ds=some x->DC ds (AR.c x):=by
 intro ds x h;unfold AR.d at h;split at h
 .simp only[AS] at h;subst h;exact⟨Le.refl _,Le.refl _,trivial⟩
 .cases h
def AR.d_c(x:AR):AR.d (AR.c x)=some x:=by
 simp only[AR.c,AR.d]
def AR.d_R(l:List AR):Ba AR.d (l.map AR.c)=some l:=Mh AR.d_c l
def AR.eta(x:AR):(⟨x.X,x.Y⟩:AR)=x:=rfl
def AR.len(x:AR):(AR.c x).length=2:=rfl
structure AA where
 At:AR
 Tile:Int
 deriving DecidableEq
def AA.c(x:AA):List D:=[.int .i64 x.At.X,.int .i64 x.At.Y,.int .i64 x.Tile]
def AA.d:List D->Option AA
 |[.int .i64 z,.int .i64 O,.int .i64 Q]=>some ⟨⟨z,O⟩,Q⟩
 |_=>none
def AA.d_le: ∀ds x,AA.d ds=some x->DC ds (AA.c x):=by
 intro ds x h;unfold AA.d at h;split at h
 .simp only[AS] at h;subst h;exact⟨Le.refl _,Le.refl _,Le.refl _,trivial⟩
 .cases h
def AA.d_c(x:AA):AA.d (AA.c x)=some x:=by
 simp only[AA.c,AA.d]
def AA.d_R(l:List AA):Ba AA.d (l.map AA.c)=some l:=Mh AA.d_c l
def AA.eta(x:AA):(⟨x.At,x.Tile⟩:AA)=x:=rfl
def AA.len(x:AA):(AA.c x).length=3:=rfl
structure AP where
 Tiles:List AA
 deriving DecidableEq
def AP.c(x:AP):List D:=[.sl false 3 (x.Tiles.map AA.c)]
def AP.d:List D->Option AP
 |[.sl _ _ z]=>(Ba AA.d z).bind λO=>some ⟨O⟩
 |_=>none
def AP.d_le: ∀ds x,AP.d ds=some x->DC ds (AP.c x):=by
 intro ds x h;unfold AP.d at h;split at h
 .simp only[DG,AS] at h;obtain⟨z,h0,rfl⟩:=h;exact⟨Fz (Fs AA.d_le _ _ h0) (by simp[AA.c]),trivial⟩
 .cases h
def AP.d_c(x:AP):AP.d (AP.c x)=some x:=by
 simp only[AP.c,AP.d,AA.d_R,E7]
def AP.eta(x:AP):(⟨x.Tiles⟩:AP)=x:=rfl
def AP.len(x:AP):(AP.c x).length=1:=rfl
structure Ac where
 Name:MM
 Strength:Int
 deriving DecidableEq
def Ac.c(x:Ac):List D:=[.str x.Name,.int .i64 x.Strength]
def Ac.d:List D->Option Ac
 |[.str z,.int .i64 O]=>some ⟨z,O⟩
 |_=>none
def Ac.d_le: ∀ds x,Ac.d ds=some x->DC ds (Ac.c x):=by
 intro ds x h;unfold Ac.d at h;split at h
 .simp only[AS] at h;subst h;exact⟨Le.refl _,Le.refl _,trivial⟩
 .cases h
def Ac.d_c(x:Ac):Ac.d (Ac.c x)=some x:=by
 simp only[Ac.c,Ac.d]
def Ac.d_R(l:List Ac):Ba Ac.d (l.map Ac.c)=some l:=Mh Ac.d_c l
def Ac.eta(x:Ac):(⟨x.Name,x.Strength⟩:Ac)=x:=rfl
def Ac.len(x:Ac):(Ac.c x).length=2:=rfl
structure Tile where
 Name:MM
 Sides:Cz
 deriving DecidableEq
def Tile.c(x:Tile):List D:=[.str x.Name,.sl false 1 (x.Sides.map Aj)]
def Tile.d:List D->Option Tile
 |[.str z,.sl _ _ O]=>(Ba CV O).bind λQ=>some ⟨z,Q⟩
 |_=>none
def Tile.d_le: ∀ds x,Tile.d ds=some x->DC ds (Tile.c x):=by
 intro ds x h;unfold Tile.d at h;split at h
 .simp only[DG,AS] at h;obtain⟨O,z,rfl⟩:=h;exact⟨Le.refl _,Fz (Fs D4 _ _ z) (by simp[Aj]),trivial⟩
 .cases h
def Tile.d_c(x:Tile):Tile.d (Tile.c x)=some x:=by
 simp only[Tile.c,Tile.d,qF,E7]
def Tile.d_R(l:List Tile):Ba Tile.d (l.map Tile.c)=some l:=Mh Tile.d_c l
def Tile.eta(x:Tile):(⟨x.Name,x.Sides⟩:Tile)=x:=rfl
def Tile.len(x:Tile):(Tile.c x).length=2:=rfl
structure AI where
 Glues:List Ac
 Tiles:List Tile
 deriving DecidableEq
def AI.c(x:AI):List D:=[.sl false 2 (x.Glues.map Ac.c),.sl false 2 (x.Tiles.map Tile.c)]
def AI.d:List D->Option AI
 |[.sl _ _ z,.sl _ _ O]=>(Ba Ac.d z).bind λQ=>(Ba Tile.d O).bind λZ=>some ⟨Q,Z⟩
 |_=>none
def AI.d_le: ∀ds x,AI.d ds=some x->DC ds (AI.c x):=by
 intro ds x h;unfold AI.d at h;split at h
 .simp only[DG,AS] at h;obtain⟨O,h0,Q,z,rfl⟩:=h;exact⟨Fz (Fs Ac.d_le _ _ h0) (by simp[Ac.c]),Fz (Fs Tile.d_le _ _ z) (by simp[Tile.c]),trivial⟩
 .cases h
def AI.eta(x:AI):(⟨x.Glues,x.Tiles⟩:AI)=x:=rfl
def AI.len(x:AI):(AI.c x).length=2:=rfl
structure AM where
 Set:AI
 Seed:AP
 Temperature:Int
 deriving DecidableEq
def AM.c(x:AM):List D:=[.sl false 2 (x.Set.Glues.map Ac.c),.sl false 2 (x.Set.Tiles.map Tile.c),.sl false 3 (x.Seed.Tiles.map AA.c),.int .i64 x.Temperature]
def AM.d:List D->Option AM
 |[.sl _ _ z,.sl _ _ O,.sl _ _ Q,.int .i64 Z]=>(Ba Ac.d z).bind λy0=>(Ba Tile.d O).bind λy1=>(Ba AA.d Q).bind λy2=>some ⟨⟨y0,y1⟩,⟨y2⟩,Z⟩
 |_=>none
def AM.d_le: ∀ds x,AM.d ds=some x->DC ds (AM.c x):=by
 intro ds x h;unfold AM.d at h;split at h
 .simp only[DG,AS] at h;obtain⟨Q,h0,Z,z,y2,O,rfl⟩:=h;exact⟨Fz (Fs Ac.d_le _ _ h0) (by simp[Ac.c]),Fz (Fs Tile.d_le _ _ z) (by simp[Tile.c]),Fz (Fs AA.d_le _ _ O) (by simp[AA.c]),Le.refl _,trivial⟩
 .cases h
def AM.d_c(x:AM):AM.d (AM.c x)=some x:=by
 simp only[AM.c,AM.d,Ac.d_R,AA.d_R,Tile.d_R,E7]
def AM.eta(x:AM):(⟨x.Set,x.Seed,x.Temperature⟩:AM)=x:=rfl
def AM.len(x:AM):(AM.c x).length=4:=rfl
structure Ew where
 At:AR
 Tile:Int
 deriving DecidableEq
def Ew.c(x:Ew):List D:=[.int .i64 x.At.X,.int .i64 x.At.Y,.int .i64 x.Tile]
def Ew.d:List D->Option Ew
 |[.int .i64 z,.int .i64 O,.int .i64 Q]=>some ⟨⟨z,O⟩,Q⟩
 |_=>none
def Ew.len(x:Ew):(Ew.c x).length=3:=rfl
structure J8 where
 Big:AM
 Small:AM
 Scale:Int
 Labels:Cz
 deriving DecidableEq
def J8.c(x:J8):List D:=[.sl false 2 (x.Big.Set.Glues.map Ac.c),.sl false 2 (x.Big.Set.Tiles.map Tile.c),.sl false 3 (x.Big.Seed.Tiles.map AA.c),.int .i64 x.Big.Temperature,.sl false 2 (x.Small.Set.Glues.map Ac.c),.sl false 2 (x.Small.Set.Tiles.map Tile.c),.sl false 3 (x.Small.Seed.Tiles.map AA.c),.int .i64 x.Small.Temperature,.int .i64 x.Scale,.sl false 1 (x.Labels.map Aj)]
def J8.d:List D->Option J8
 |[.sl _ _ z,.sl _ _ O,.sl _ _ Q,.int .i64 Z,.sl _ _ x4,.sl _ _ x5,.sl _ _ x6,.int .i64 x7,.int .i64 x8,.sl _ _ x9]=>(Ba Ac.d z).bind λy0=>(Ba Tile.d O).bind λy1=>(Ba AA.d Q).bind λy2=>(Ba Ac.d x4).bind λy4=>(Ba Tile.d x5).bind λy5=>(Ba AA.d x6).bind λy6=>(Ba CV x9).bind λy9=>some ⟨⟨⟨y0,y1⟩,⟨y2⟩,Z⟩,⟨⟨y4,y5⟩,⟨y6⟩,x7⟩,x8,y9⟩
 |_=>none
def J8.len(x:J8):(J8.c x).length=10:=rfl
structure Ak where
 A:Int
 B:Int
 Strength:Int
 deriving DecidableEq
def Ak.c(x:Ak):List D:=[.int .i64 x.A,.int .i64 x.B,.int .i64 x.Strength]
def Ak.d:List D->Option Ak
 |[.int .i64 z,.int .i64 O,.int .i64 Q]=>some ⟨z,O,Q⟩
 |_=>none
def Ak.d_le: ∀ds x,Ak.d ds=some x->DC ds (Ak.c x):=by
 intro ds x h;unfold Ak.d at h;split at h
 .simp only[AS] at h;subst h;exact⟨Le.refl _,Le.refl _,Le.refl _,trivial⟩
 .cases h
def Ak.d_c(x:Ak):Ak.d (Ak.c x)=some x:=by
 simp only[Ak.c,Ak.d]
def Ak.d_R(l:List Ak):Ba Ak.d (l.map Ak.c)=some l:=Mh Ak.d_c l
def Ak.eta(x:Ak):(⟨x.A,x.B,x.Strength⟩:Ak)=x:=rfl
def Ak.len(x:Ak):(Ak.c x).length=3:=rfl
def Qbe(p:AR×Int):D×D:=(.agg (AR.c p.1),.int .i64 p.2)
def Qmt(l:List (AR×Int)):L7 (Gi AR.d) Eu (l.map Qbe)=some l:=Qs4 (λp=>⟨by simp[Qbe,Gi,AR.d_c],by simp[Qbe,Eu]⟩) l
def Qbc(p:AR×(Cz)):D×D:=(.agg (AR.c p.1),.sl false 1 (p.2.map Aj))
def Qk8(l:List (AR×(Cz))):L7 (Gi AR.d) (Xt CV) (l.map Qbc)=some l:=Qs4 (λp=>⟨by simp[Qbc,Gi,AR.d_c],by simp[Qbc,Xt,qF]⟩) l
structure Mg where
 Sys:AM
 Tl:List (AR×Int)
 Op:List (AR×(Cz))
 deriving DecidableEq
def Mg.c(x:Mg):List D:=[.sl false 2 (x.Sys.Set.Glues.map Ac.c),.sl false 2 (x.Sys.Set.Tiles.map Tile.c),.sl false 3 (x.Sys.Seed.Tiles.map AA.c),.int .i64 x.Sys.Temperature,.mp ⟨true,[.int .i64,.int .i64]⟩ (x.Tl.map Qbe),.mp ⟨true,[.int .i64,.int .i64]⟩ (x.Op.map Qbc)]
def Mg.d:List D->Option Mg
 |[.sl _ _ z,.sl _ _ O,.sl _ _ Q,.int .i64 Z,.mp ⟨true,[.int .i64,.int .i64]⟩ x4,.mp ⟨true,[.int .i64,.int .i64]⟩ x5]=>(Ba Ac.d z).bind λy0=>(Ba Tile.d O).bind λy1=>(Ba AA.d Q).bind λy2=>(L7 (Gi AR.d) Eu x4).bind λy4=>(L7 (Gi AR.d) (Xt CV) x5).bind λy5=>some ⟨⟨⟨y0,y1⟩,⟨y2⟩,Z⟩,y4,y5⟩
 |_=>none
def Mg.len(x:Mg):(Mg.c x).length=6:=rfl
structure Bu where
 Cnt:Int
 Bonds:List Ak
 At:List (Cz)
 Flow:Cz
 deriving DecidableEq
def Bu.c(x:Bu):List D:=[.int .i64 x.Cnt,.sl false 3 (x.Bonds.map Ak.c),.sl false 1 (x.At.map BD),.sl false 1 (x.Flow.map Aj)]
def Bu.d:List D->Option Bu
 |[.int .i64 z,.sl _ _ O,.sl _ _ Q,.sl _ _ Z]=>(Ba Ak.d O).bind λy1=>(Ba Pd Q).bind λy2=>(Ba CV Z).bind λy3=>some ⟨z,y1,y2,y3⟩
 |_=>none
def Bu.d_le: ∀ds x,Bu.d ds=some x->DC ds (Bu.c x):=by
 intro ds x h;unfold Bu.d at h;split at h
 .simp only[DG,AS] at h;obtain⟨Z,z,y2,O,y3,Q,rfl⟩:=h;exact⟨Le.refl _,Fz (Fs Ak.d_le _ _ z) (by simp[Ak.c]),Fz (Fs OZ _ _ O) (by simp[BD]),Fz (Fs D4 _ _ Q) (by simp[Aj]),trivial⟩
 .cases h
def Bu.eta(x:Bu):(⟨x.Cnt,x.Bonds,x.At,x.Flow⟩:Bu)=x:=rfl
def Bu.len(x:Bu):(Bu.c x).length=4:=rfl
structure Bv where
 Room:List (Cz)
 Flow:List (Cz)
 deriving DecidableEq
def Bv.c(x:Bv):List D:=[.sl false 1 (x.Room.map BD),.sl false 1 (x.Flow.map BD)]
def Bv.d:List D->Option Bv
 |[.sl _ _ z,.sl _ _ O]=>(Ba Pd z).bind λQ=>(Ba Pd O).bind λZ=>some ⟨Q,Z⟩
 |_=>none
def Bv.d_le: ∀ds x,Bv.d ds=some x->DC ds (Bv.c x):=by
 intro ds x h;unfold Bv.d at h;split at h
 .simp only[DG,AS] at h;obtain⟨O,h0,Q,z,rfl⟩:=h;exact⟨Fz (Fs OZ _ _ h0) (by simp[BD]),Fz (Fs OZ _ _ z) (by simp[BD]),trivial⟩
 .cases h
def Bv.d_c(x:Bv):Bv.d (Bv.c x)=some x:=by
 simp only[Bv.c,Bv.d,BB,E7]
def Bv.eta(x:Bv):(⟨x.Room,x.Flow⟩:Bv)=x:=rfl
def Bv.len(x:Bv):(Bv.c x).length=2:=rfl
structure FS where
 Kind:Int
 Sequence:List Ew
 Other:List Ew
 Part:Cz
 Flows:List (Cz)
 deriving DecidableEq
def FS.c(x:FS):List D:=[.int .i64 x.Kind,.sl false 3 (x.Sequence.map Ew.c),.sl false 3 (x.Other.map Ew.c),.sl false 1 (x.Part.map Aj),.sl false 1 (x.Flows.map BD)]
def FS.d:List D->Option FS
 |[.int .i64 z,.sl _ _ O,.sl _ _ Q,.sl _ _ Z,.sl _ _ x4]=>(Ba Ew.d O).bind λy1=>(Ba Ew.d Q).bind λy2=>(Ba CV Z).bind λy3=>(Ba Pd x4).bind λy4=>some ⟨z,y1,y2,y3,y4⟩
 |_=>none
def FS.len(x:FS):(FS.c x).length=5:=rfl
structure FP where
 Num:Int
 Den:Int
 deriving DecidableEq
def FP.c(x:FP):List D:=[.int .i64 x.Num,.int .i64 x.Den]
def FP.d:List D->Option FP
 |[.int .i64 z,.int .i64 O]=>some ⟨z,O⟩
 |_=>none
def FP.len(x:FP):(FP.c x).length=2:=rfl
structure KQ where
 Sys:AM
 Seq:List Ew
 End:AP
 Inputs:Cz
 Strength:Cz
 deriving DecidableEq
def KQ.c(x:KQ):List D:=[.sl false 2 (x.Sys.Set.Glues.map Ac.c),.sl false 2 (x.Sys.Set.Tiles.map Tile.c),.sl false 3 (x.Sys.Seed.Tiles.map AA.c),.int .i64 x.Sys.Temperature,.sl false 3 (x.Seq.map Ew.c),.sl false 3 (x.End.Tiles.map AA.c),.sl false 1 (x.Inputs.map Aj),.sl false 1 (x.Strength.map Aj)]
def KQ.d:List D->Option KQ
 |[.sl _ _ z,.sl _ _ O,.sl _ _ Q,.int .i64 Z,.sl _ _ x4,.sl _ _ x5,.sl _ _ x6,.sl _ _ x7]=>(Ba Ac.d z).bind λy0=>(Ba Tile.d O).bind λy1=>(Ba AA.d Q).bind λy2=>(Ba Ew.d x4).bind λy4=>(Ba AA.d x5).bind λy5=>(Ba CV x6).bind λy6=>(Ba CV x7).bind λy7=>some ⟨⟨⟨y0,y1⟩,⟨y2⟩,Z⟩,y4,⟨y5⟩,y6,y7⟩
 |_=>none
def KQ.len(x:KQ):(KQ.c x).length=8:=rfl
end Go.Ae
