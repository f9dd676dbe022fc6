/- Lemmas. Conditions: none. -/
import Derived.Test.YtnlohpcinfedjaaGreatDoorP05
import Derived.KernelRfl
set_option linter.all false
set_option maxHeartbeats 8000000
set_option maxRecDepth 100000
namespace Go.Ae
def O6{α β:Type}(f:α->List β)(l:List α)(i:Nat)(K:List β->Prop):JZ (l.map f) i K= ∀x,l[i]? =some x->K (f x):=by
 apply propext;unfold JZ;constructor
 .intro h x z;exact h (f x) (by simp[z])
 .intro h row G;simp only[Gb,Da] at G;obtain⟨x,z,rfl⟩:=G;exact h x z
def Rc{α β:Type}(g:List β->Bool)(f:α->List β)(l:List α):Cj g (l.map f)= ∀x∈l,g (f x)=true:=by
 apply propext;unfold Cj;simp
def Oc{β:Type}(g:List β->Bool):Cj g []=True:=by
 simp[Cj]
def NZ{β:Type}(g:List β->Bool)(r:List β)(l:List (List β)):Cj g (r::l)=(g r=true/\Cj g l):=by
 simp[Cj]
def Ob{β:Type}(g:List β->Bool)(a b:List (List β)):Cj g (a++b)=(Cj g a/\Cj g b):=by
 apply propext;simp only[Cj,B2];constructor
 .exact λh=>⟨λr z=>h r (.inl z),λr z=>h r (.inr z)⟩
 .rintro⟨G,O⟩ r (z|z)
  .exact G r z
  .exact O r z
def Rb{α:Type}(l:List α):(∀x∈l,True)=True:=by simp
def Qqj: ∀(l:List Nat),O0 l []=true
 |[]=>rfl
 |x::r=>by simp[O0,Qqj r]
def UQ(h:Nat->Option Au):E7 h []=[]:=rfl
def PA(h:Nat->Option Au)(x:AV)(r:List AV):E7 h (x::r)=Ab h 9 x++E7 h r:=by simp[E7]
def AS{p:Prop}[Decidable p]{A B:Prop}:(if p then A else B)↔((p->A)/\(¬p->B)):=by
 by_cases h:p<;>simp[h]
def AH{x:Int}(z: -9223372036854775808<=x)(G:x<=9223372036854775807):IntKind.wrap .i64 x=x:=IntWalk.i64_in x ⟨z,G⟩
def mL{α:Type}{rows:List (List α)}{i:Nat}{K:List α->Prop}{r:List α}(h:rows[i]? =some r)(G:K r):JZ rows i K:=by
 intro r' z;rw[h] at z;exact AC z▸G
def JW{P:Nat->Prop}{n k:Nat}(z:k<n)(hn:n<=140737488355328)(h:P (k+1)): ∃b':{k:Nat//P k},n - b'.val<n - k/\IntKind.wrap .i64 ((k:Int)+1)=b'.val:=by
 refine⟨⟨k+1,h⟩,by simp only;omega,?_⟩;rw[AH (by omega) (by omega)];simp only;omega
def Yf(a b:Nat):Nat.blt a b=decide (a<b):=by
 rw[iJ];simp
def Yd(a b:Nat):Nat.ble a b=decide (a<=b):=by
 rw[iJ];simp
def Af(n:Int):List D:=[.int .i64 n]
def Ch:List D->Option Int
 |[.int .i64 n]=>some n
 |_=>none
def Dj: ∀ds x,Ch ds=some x->Di ds (Af x):=by
 intro ds x h;unfold Ch at h;split at h
 .simp only[AO] at h;subst h;exact⟨Le.refl _,trivial⟩
 .cases h
def Rj(x:Int):Ch (Af x)=some x:=rfl
def mZ(l:List Int):AX Ch (l.map Af)=some l:=KA Rj l
def Qk(n:ByteArray):List D:=[.str n]
def ZJ:List D->Option ByteArray
 |[.str n]=>some n
 |_=>none
def lD(x:ByteArray):ZJ (Qk x)=some x:=rfl
def lC(l:List ByteArray):AX ZJ (l.map Qk)=some l:=KA lD l
def DA(x:List Int):List D:=[.sl false 1 (x.map Af)]
def QC:List D->Option (List Int)
 |[.sl _ _ rows]=>AX Ch rows
 |_=>none
def gC: ∀ds x,QC ds=some x->Di ds (DA x):=by
 intro ds x h;unfold QC at h;split at h
 .exact⟨Fh (EZ Dj _ _ h) (by simp[Af]),trivial⟩
 .cases h
def Nz(x:List Int):QC (DA x)=some x:=mZ x
def Ny(l:List (List Int)):AX QC (l.map DA)=some l:=KA Nz l
def DG:D->Option Int
 | .int .i64 n=>some n
 |_=>none
def Q2: ∀d x,DG d=some x->Le d (.int .i64 x):=by
 intro d x h;unfold DG at h;split at h
 .simp only[AO] at h;subst h;exact Le.refl _
 .cases h
def I3:D->Option ByteArray
 | .str n=>some n
 |_=>none
def ZU: ∀d x,I3 d=some x->Le d (.str x):=by
 intro d x h;unfold I3 at h;split at h
 .simp only[AO] at h;subst h;exact Le.refl _
 .cases h
def Re:D->Option Bool
 | .bool n=>some n
 |_=>none
def eP: ∀d x,Re d=some x->Le d (.bool x):=by
 intro d x h;unfold Re at h;split at h
 .simp only[AO] at h;subst h;exact Le.refl _
 .cases h
def Qu{A:Type}(f:List D->Option A):D->Option (List A)
 | .sl _ _ rows=>AX f rows
 |_=>none
def sR{A:Type}{f:List D->Option A}{e:A->List D}{k:Nat}(hf: ∀ds x,f ds=some x->Di ds (e x))(z: ∀x,(e x).length=k): ∀d x,Qu f d=some x->Le d (.sl false k (x.map e)):=by
 intro d x h;unfold Qu at h;split at h
 .exact Fh (EZ hf _ _ h) (by simp only[BF];rintro r ⟨y,_,rfl⟩;exact z y)
 .cases h
def EB{A:Type}(f:List D->Option A):D->Option A
 | .agg z=>f z
 |_=>none
def NF{A:Type}{f:List D->Option A}{e:A->List D}(hf: ∀ds x,f ds=some x->Di ds (e x)): ∀d x,EB f d=some x->Le d (.agg (e x)):=by
 intro d x h;unfold EB at h;split at h
 .exact aH (hf _ _ h)
 .cases h
def lX{A B:Type}(f:D->Option A)(g:D->Option B):D->Option (A×B)
 | .tup [x,y]=>(f x).bind λa=>(g y).map λb=>(a,b)
 |_=>none
def Qbz{A B:Type}{f:D->Option A}{g:D->Option B}{e:A->D}{e':B->D}(hf: ∀d x,f d=some x->Le d (e x))(O: ∀d x,g d=some x->Le d (e' x)): ∀d (x:A×B),lX f g d=some x->Le d (.tup [e x.1,e' x.2]):=by
 intro d x h;unfold lX at h;split at h
 .simp only[Fi,Da] at h;obtain⟨a,z,b,G,rfl⟩:=h;exact Lh ⟨hf _ _ z,O _ _ G,trivial⟩
 .cases h
def JU{A B E:Type}(f:D->Option A)(g:D->Option B)(k:D->Option E):D->Option (A×B×E)
 | .tup [x,y,z]=>(f x).bind λa=>(g y).bind λb=>(k z).map λc=>(a,b,c)
 |_=>none
def VS{A B E:Type}{f:D->Option A}{g:D->Option B}{k:D->Option E}{e:A->D}{e':B->D}{e'':E->D}(hf: ∀d x,f d=some x->Le d (e x))(Q: ∀d x,g d=some x->Le d (e' x))(Z: ∀d x,k d=some x->Le d (e'' x)):
 ∀d (x:A×B×E),JU f g k d=some x->Le d (.tup [e x.1,e' x.2.1,e'' x.2.2]):=by
 intro d x h;unfold JU at h;split at h
 .simp only[Fi,Da] at h;obtain⟨a,z,b,G,c,O,rfl⟩:=h;exact Lh ⟨hf _ _ z,Q _ _ G,Z _ _ O,trivial⟩
 .cases h
def GF{A B:Type}(f:D->Option A)(g:D->Option B):List (D×D)->Option (List (A×B))
 |[]=>some []
 |(x,y)::r=>(f x).bind λa=>(g y).bind λb=>(GF f g r).map λl=>(a,b)::l
def WF:List (D×D)->List (D×D)->Prop
 |[],[]=>True
 |(x,y)::r,(x',y')::r'=>x=x'/\Le y y'/\WF r r'
 |[],_::_=>False
 |_::_,[]=>False
def Qxb{A B:Type}{f:D->Option A}{g:D->Option B}{z:A->D}{G:B->D}(hf: ∀d x,f d=some x->d=z x)(O: ∀d x,g d=some x->Le d (G x)): ∀(es:List (D×D)) (l:List (A×B)),GF f g es=some l->WF es (l.map λp=>(z p.1,G p.2))
 |[],l,h=>by
  simp only[GF,AO] at h;subst h;trivial
 |(x,y)::r,l,h=>by
  simp only[GF,Fi,Da] at h;obtain⟨a,Q,b,Z,l',hl,rfl⟩:=h;exact⟨hf _ _ Q,O _ _ Z,Qxb hf O r l' hl⟩
def WF.rde{ok:Nat->Prop}{hp:Nat->Option Obj}: ∀{a b:List (D×D)} {es:List MapEntry},WF a b->Ae.rde ok hp a es->Ae.rde ok hp b es
 |[],[],_,_,h=>h
 |(x,y)::r,(x',y')::r',es,Q,h=>by
  simp only[Ae.rde] at h⊢;obtain⟨e,q,rfl,z,G,O⟩:=h;obtain⟨rfl,Z,l3⟩:=Q;exact⟨e,q,rfl,z,Z _ _ _ G,WF.rde l3 O⟩
 |[],_::_,_,h,_=>h.elim
 |_::_,[],_,h,_=>h.elim
def WF.fit{G:KT}: ∀{a b:List (D×D)},WF a b->(∀e∈a,G.fit e.1=true)-> ∀e∈b,G.fit e.1=true
 |[],[],_,h=>h
 |(x,y)::r,(x',y')::r',O,h=>by
  obtain⟨rfl,_,Q⟩:=O;intro e z;rcases Bw.1 z with rfl|z
  .exact h (x,y) (BS ..)
  .exact WF.fit Q (λe z=>h e (BW _ z)) e z
 |[],_::_,h,_=>h.elim
 |_::_,[],h,_=>h.elim
def TS{Q:KT}{a b:List (D×D)}(h:WF a b):Le (.mp Q a) (.mp Q b):=by
 intro ok hp v O;simp only[rd] at O⊢;obtain⟨bk,G,z,rfl,Z,h2,h3,h4,h5⟩:=O;exact⟨bk,G,z,rfl,h.fit Z,h2,h3,h.rde h4,h5⟩
def Qs4{A B:Type}{f:D->Option A}{g:D->Option B}{m:A×B->D×D}(h: ∀p,f (m p).1=some p.1/\g (m p).2=some p.2): ∀(l:List (A×B)),GF f g (l.map m)=some l
 |[]=>rfl
 |p::r=>by
  simp only[Bf,GF,(h p).1,(h p).2,G8,Qs4 h r,Ez]
structure Ad where
 X:Int
 Y:Int
 deriving DecidableEq
def Ad.c(x:Ad):List D:=[.int .i64 x.X,.int .i64 x.Y]
def Ad.d:List D->Option Ad
 |[.int .i64 z,.int .i64 G]=>some ⟨z,G⟩
 |_=>none
def Ad.d_le: ∀ds x,Ad.d ds=some x->Di ds (Ad.c x):=by
 intro ds x h;unfold Ad.d at h;split at h
 .simp only[AO] at h;subst h;exact⟨Le.refl _,Le.refl _,trivial⟩
 .cases h
def Ad.d_c(x:Ad):Ad.d (Ad.c x)=some x:=by
 simp only[Ad.c,Ad.d]
def Ad.d_R(l:List Ad):AX Ad.d (l.map Ad.c)=some l:=KA Ad.d_c l
def Ad.eta(x:Ad):(⟨x.X,x.Y⟩:Ad)=x:=rfl
def Ad.len(x:Ad):(Ad.c x).length=2:=rfl
structure Aq where
 At:Ad
 Tile:Int
 deriving DecidableEq
def Aq.c(x:Aq):List D:=[.int .i64 x.At.X,.int .i64 x.At.Y,.int .i64 x.Tile]
def Aq.d:List D->Option Aq
 |[.int .i64 z,.int .i64 G,.int .i64 O]=>some ⟨⟨z,G⟩,O⟩
 |_=>none
def Aq.d_le: ∀ds x,Aq.d ds=some x->Di ds (Aq.c x):=by
 intro ds x h;unfold Aq.d at h;split at h
 .simp only[AO] at h;subst h;exact⟨Le.refl _,Le.refl _,Le.refl _,trivial⟩
 .cases h
def Aq.d_c(x:Aq):Aq.d (Aq.c x)=some x:=by
 simp only[Aq.c,Aq.d]
def Aq.d_R(l:List Aq):AX Aq.d (l.map Aq.c)=some l:=KA Aq.d_c l
def Aq.eta(x:Aq):(⟨x.At,x.Tile⟩:Aq)=x:=rfl
def Aq.len(x:Aq):(Aq.c x).length=3:=rfl
structure Ao where
 Tiles:List Aq
 deriving DecidableEq
def Ao.c(x:Ao):List D:=[.sl false 3 (x.Tiles.map Aq.c)]
def Ao.d:List D->Option Ao
 |[.sl _ _ z]=>(AX Aq.d z).bind λG=>some ⟨G⟩
 |_=>none
def Ao.d_le: ∀ds x,Ao.d ds=some x->Di ds (Ao.c x):=by
 intro ds x h;unfold Ao.d at h;split at h
 .simp only[Fi,AO] at h;obtain⟨z,h0,rfl⟩:=h;exact⟨Fh (EZ Aq.d_le _ _ h0) (by simp[Aq.c]),trivial⟩
 .cases h
def Ao.d_c(x:Ao):Ao.d (Ao.c x)=some x:=by
 simp only[Ao.c,Ao.d,Aq.d_R,G8]
def Ao.eta(x:Ao):(⟨x.Tiles⟩:Ao)=x:=rfl
def Ao.len(x:Ao):(Ao.c x).length=1:=rfl
structure Ak where
 Name:ByteArray
 Strength:Int
 deriving DecidableEq
def Ak.c(x:Ak):List D:=[.str x.Name,.int .i64 x.Strength]
def Ak.d:List D->Option Ak
 |[.str z,.int .i64 G]=>some ⟨z,G⟩
 |_=>none
def Ak.d_le: ∀ds x,Ak.d ds=some x->Di ds (Ak.c x):=by
 intro ds x h;unfold Ak.d at h;split at h
 .simp only[AO] at h;subst h;exact⟨Le.refl _,Le.refl _,trivial⟩
 .cases h
def Ak.d_c(x:Ak):Ak.d (Ak.c x)=some x:=by
 simp only[Ak.c,Ak.d]
def Ak.d_R(l:List Ak):AX Ak.d (l.map Ak.c)=some l:=KA Ak.d_c l
def Ak.eta(x:Ak):(⟨x.Name,x.Strength⟩:Ak)=x:=rfl
def Ak.len(x:Ak):(Ak.c x).length=2:=rfl
structure Tile where
 Name:ByteArray
 Sides:List Int
 deriving DecidableEq
def Tile.c(x:Tile):List D:=[.str x.Name,.sl false 1 (x.Sides.map Af)]
def Tile.d:List D->Option Tile
 |[.str z,.sl _ _ G]=>(AX Ch G).bind λO=>some ⟨z,O⟩
 |_=>none
def Tile.d_le: ∀ds x,Tile.d ds=some x->Di ds (Tile.c x):=by
 intro ds x h;unfold Tile.d at h;split at h
 .simp only[Fi,AO] at h;obtain⟨G,z,rfl⟩:=h;exact⟨Le.refl _,Fh (EZ Dj _ _ z) (by simp[Af]),trivial⟩
 .cases h
def Tile.d_c(x:Tile):Tile.d (Tile.c x)=some x:=by
 simp only[Tile.c,Tile.d,mZ,G8]
def Tile.d_R(l:List Tile):AX Tile.d (l.map Tile.c)=some l:=KA Tile.d_c l
def Tile.eta(x:Tile):(⟨x.Name,x.Sides⟩:Tile)=x:=rfl
def Tile.len(x:Tile):(Tile.c x).length=2:=rfl
structure AE where
 Glues:List Ak
 Tiles:List Tile
 deriving DecidableEq
def AE.c(x:AE):List D:=[.sl false 2 (x.Glues.map Ak.c),.sl false 2 (x.Tiles.map Tile.c)]
def AE.d:List D->Option AE
 |[.sl _ _ z,.sl _ _ G]=>(AX Ak.d z).bind λO=>(AX Tile.d G).bind λQ=>some ⟨O,Q⟩
 |_=>none
def AE.d_le: ∀ds x,AE.d ds=some x->Di ds (AE.c x):=by
 intro ds x h;unfold AE.d at h;split at h
 .simp only[Fi,AO] at h;obtain⟨G,h0,O,z,rfl⟩:=h;exact⟨Fh (EZ Ak.d_le _ _ h0) (by simp[Ak.c]),Fh (EZ Tile.d_le _ _ z) (by simp[Tile.c]),trivial⟩
 .cases h
def AE.eta(x:AE):(⟨x.Glues,x.Tiles⟩:AE)=x:=rfl
def AE.len(x:AE):(AE.c x).length=2:=rfl
structure AF where
 Set:AE
 Seed:Ao
 Temperature:Int
 deriving DecidableEq
def AF.c(x:AF):List D:=[.sl false 2 (x.Set.Glues.map Ak.c),.sl false 2 (x.Set.Tiles.map Tile.c),.sl false 3 (x.Seed.Tiles.map Aq.c),.int .i64 x.Temperature]
def AF.d:List D->Option AF
 |[.sl _ _ z,.sl _ _ G,.sl _ _ O,.int .i64 Q]=>(AX Ak.d z).bind λZ=>(AX Tile.d G).bind λy1=>(AX Aq.d O).bind λy2=>some ⟨⟨Z,y1⟩,⟨y2⟩,Q⟩
 |_=>none
def AF.d_le: ∀ds x,AF.d ds=some x->Di ds (AF.c x):=by
 intro ds x h;unfold AF.d at h;split at h
 .simp only[Fi,AO] at h;obtain⟨O,h0,Q,z,Z,G,rfl⟩:=h;exact⟨Fh (EZ Ak.d_le _ _ h0) (by simp[Ak.c]),Fh (EZ Tile.d_le _ _ z) (by simp[Tile.c]),Fh (EZ Aq.d_le _ _ G) (by simp[Aq.c]),Le.refl _,trivial⟩
 .cases h
def AF.d_c(x:AF):AF.d (AF.c x)=some x:=by
 simp only[AF.c,AF.d,Ak.d_R,Aq.d_R,Tile.d_R,G8]
def AF.eta(x:AF):(⟨x.Set,x.Seed,x.Temperature⟩:AF)=x:=rfl
def AF.len(x:AF):(AF.c x).length=4:=rfl
structure Be where
 At:Ad
 Tile:Int
 deriving DecidableEq
def Be.c(x:Be):List D:=[.int .i64 x.At.X,.int .i64 x.At.Y,.int .i64 x.Tile]
def Be.d:List D->Option Be
 |[.int .i64 z,.int .i64 G,.int .i64 O]=>some ⟨⟨z,G⟩,O⟩
 |_=>none
def Be.d_le: ∀ds x,Be.d ds=some x->Di ds (Be.c x):=by
 intro ds x h;unfold Be.d at h;split at h
 .simp only[AO] at h;subst h;exact⟨Le.refl _,Le.refl _,Le.refl _,trivial⟩
 .cases h
def Be.d_c(x:Be):Be.d (Be.c x)=some x:=by
 simp only[Be.c,Be.d]
def Be.d_R(l:List Be):AX Be.d (l.map Be.c)=some l:=KA Be.d_c l
def Be.eta(x:Be):(⟨x.At,x.Tile⟩:Be)=x:=rfl
def Be.len(x:Be):(Be.c x).length=3:=rfl
structure Jc where
 Big:AF
 Small:AF
 Scale:Int
 Labels:List Int
 deriving DecidableEq
def Jc.c(x:Jc):List D:=[.sl false 2 (x.Big.Set.Glues.map Ak.c),.sl false 2 (x.Big.Set.Tiles.map Tile.c),.sl false 3 (x.Big.Seed.Tiles.map Aq.c),.int .i64 x.Big.Temperature,.sl false 2 (x.Small.Set.Glues.map Ak.c),.sl false 2 (x.Small.Set.Tiles.map Tile.c),.sl false 3 (x.Small.Seed.Tiles.map Aq.c),.int .i64 x.Small.Temperature,.int .i64 x.Scale,.sl false 1 (x.Labels.map Af)]
def Jc.d:List D->Option Jc
 |[.sl _ _ z,.sl _ _ G,.sl _ _ O,.int .i64 Q,.sl _ _ Z,.sl _ _ x5,.sl _ _ x6,.int .i64 x7,.int .i64 x8,.sl _ _ x9]=>(AX Ak.d z).bind λy0=>(AX Tile.d G).bind λy1=>(AX Aq.d O).bind λy2=>(AX Ak.d Z).bind λy4=>(AX Tile.d x5).bind λy5=>(AX Aq.d x6).bind λy6=>(AX Ch x9).bind λy9=>some ⟨⟨⟨y0,y1⟩,⟨y2⟩,Q⟩,⟨⟨y4,y5⟩,⟨y6⟩,x7⟩,x8,y9⟩
 |_=>none
def Jc.eta(x:Jc):(⟨x.Big,x.Small,x.Scale,x.Labels⟩:Jc)=x:=rfl
def Jc.len(x:Jc):(Jc.c x).length=10:=rfl
structure Ai where
 A:Int
 B:Int
 Strength:Int
 deriving DecidableEq
def Ai.c(x:Ai):List D:=[.int .i64 x.A,.int .i64 x.B,.int .i64 x.Strength]
def Ai.d:List D->Option Ai
 |[.int .i64 z,.int .i64 G,.int .i64 O]=>some ⟨z,G,O⟩
 |_=>none
def Ai.d_le: ∀ds x,Ai.d ds=some x->Di ds (Ai.c x):=by
 intro ds x h;unfold Ai.d at h;split at h
 .simp only[AO] at h;subst h;exact⟨Le.refl _,Le.refl _,Le.refl _,trivial⟩
 .cases h
def Ai.d_c(x:Ai):Ai.d (Ai.c x)=some x:=by
 simp only[Ai.c,Ai.d]
def Ai.d_R(l:List Ai):AX Ai.d (l.map Ai.c)=some l:=KA Ai.d_c l
def Ai.eta(x:Ai):(⟨x.A,x.B,x.Strength⟩:Ai)=x:=rfl
def Ai.len(x:Ai):(Ai.c x).length=3:=rfl
def Qwu: ∀d x,EB Ad.d d=some x->d= .agg (Ad.c x):=by
 intro d x h;unfold EB at h;split at h
 .rename_i z;unfold Ad.d at h;split at h
  .simp only[AO] at h;subst h;rfl
  .cases h
 .cases h
def Fg(p:Ad×Int):D×D:=(.agg (Ad.c p.1),.int .i64 p.2)
def Qmt(l:List (Ad×Int)):GF (EB Ad.d) DG (l.map Fg)=some l:=Qs4 (λp=>⟨by simp[Fg,DG,I3,EB,Ad.d_c],by simp[Fg,DG,I3,Qu,EB]⟩) l
def D9(p:Ad×(List Int)):D×D:=(.agg (Ad.c p.1),.sl false 1 (p.2.map Af))
def Qk8(l:List (Ad×(List Int))):GF (EB Ad.d) (Qu Ch) (l.map D9)=some l:=Qs4 (λp=>⟨by simp[D9,DG,I3,EB,Ad.d_c],by simp[D9,DG,I3,Qu,EB,mZ]⟩) l
structure Cw where
 Sys:AF
 Tl:List (Ad×Int)
 Op:List (Ad×(List Int))
 deriving DecidableEq
def Cw.c(x:Cw):List D:=[.sl false 2 (x.Sys.Set.Glues.map Ak.c),.sl false 2 (x.Sys.Set.Tiles.map Tile.c),.sl false 3 (x.Sys.Seed.Tiles.map Aq.c),.int .i64 x.Sys.Temperature,.mp ⟨true,[.int .i64,.int .i64]⟩ (x.Tl.map Fg),.mp ⟨true,[.int .i64,.int .i64]⟩ (x.Op.map D9)]
def Cw.d:List D->Option Cw
 |[.sl _ _ z,.sl _ _ G,.sl _ _ O,.int .i64 Q,.mp ⟨true,[.int .i64,.int .i64]⟩ Z,.mp ⟨true,[.int .i64,.int .i64]⟩ x5]=>(AX Ak.d z).bind λy0=>(AX Tile.d G).bind λy1=>(AX Aq.d O).bind λy2=>(GF (EB Ad.d) DG Z).bind λy4=>(GF (EB Ad.d) (Qu Ch) x5).bind λy5=>some ⟨⟨⟨y0,y1⟩,⟨y2⟩,Q⟩,y4,y5⟩
 |_=>none
def Cw.d_le: ∀ds x,Cw.d ds=some x->Di ds (Cw.c x):=by
 intro ds x h;unfold Cw.d at h;split at h
 .simp only[Fi,AO] at h;obtain⟨Z,h0,y1,z,y2,G,y4,O,y5,Q,rfl⟩:=h;exact⟨Fh (EZ Ak.d_le _ _ h0) (by simp[Ak.c]),Fh (EZ Tile.d_le _ _ z) (by simp[Tile.c]),Fh (EZ Aq.d_le _ _ G) (by simp[Aq.c]),Le.refl _,TS (Qxb Qwu Q2 _ _ O),TS (Qxb Qwu (sR Dj (λ_=>rfl)) _ _ Q),trivial⟩
 .cases h
def Cw.eta(x:Cw):(⟨x.Sys,x.Tl,x.Op⟩:Cw)=x:=rfl
def Cw.len(x:Cw):(Cw.c x).length=6:=rfl
structure Bi where
 Cnt:Int
 Bonds:List Ai
 At:List (List Int)
 Flow:List Int
 deriving DecidableEq
def Bi.c(x:Bi):List D:=[.int .i64 x.Cnt,.sl false 3 (x.Bonds.map Ai.c),.sl false 1 (x.At.map DA),.sl false 1 (x.Flow.map Af)]
def Bi.d:List D->Option Bi
 |[.int .i64 z,.sl _ _ G,.sl _ _ O,.sl _ _ Q]=>(AX Ai.d G).bind λZ=>(AX QC O).bind λy2=>(AX Ch Q).bind λy3=>some ⟨z,Z,y2,y3⟩
 |_=>none
def Bi.d_le: ∀ds x,Bi.d ds=some x->Di ds (Bi.c x):=by
 intro ds x h;unfold Bi.d at h;split at h
 .simp only[Fi,AO] at h;obtain⟨Q,z,Z,G,y3,O,rfl⟩:=h;exact⟨Le.refl _,Fh (EZ Ai.d_le _ _ z) (by simp[Ai.c]),Fh (EZ gC _ _ G) (by simp[DA]),Fh (EZ Dj _ _ O) (by simp[Af]),trivial⟩
 .cases h
def Bi.eta(x:Bi):(⟨x.Cnt,x.Bonds,x.At,x.Flow⟩:Bi)=x:=rfl
def Bi.len(x:Bi):(Bi.c x).length=4:=rfl
structure Bk where
 Room:List (List Int)
 Flow:List (List Int)
 deriving DecidableEq
def Bk.c(x:Bk):List D:=[.sl false 1 (x.Room.map DA),.sl false 1 (x.Flow.map DA)]
def Bk.d:List D->Option Bk
 |[.sl _ _ z,.sl _ _ G]=>(AX QC z).bind λO=>(AX QC G).bind λQ=>some ⟨O,Q⟩
 |_=>none
def Bk.d_le: ∀ds x,Bk.d ds=some x->Di ds (Bk.c x):=by
 intro ds x h;unfold Bk.d at h;split at h
 .simp only[Fi,AO] at h;obtain⟨G,h0,O,z,rfl⟩:=h;exact⟨Fh (EZ gC _ _ h0) (by simp[DA]),Fh (EZ gC _ _ z) (by simp[DA]),trivial⟩
 .cases h
def Bk.d_c(x:Bk):Bk.d (Bk.c x)=some x:=by
 simp only[Bk.c,Bk.d,Ny,G8]
def Bk.eta(x:Bk):(⟨x.Room,x.Flow⟩:Bk)=x:=rfl
def Bk.len(x:Bk):(Bk.c x).length=2:=rfl
structure Fo where
 Kind:Int
 Sequence:List Be
 Other:List Be
 Part:List Int
 Flows:List (List Int)
 deriving DecidableEq
def Fo.c(x:Fo):List D:=[.int .i64 x.Kind,.sl false 3 (x.Sequence.map Be.c),.sl false 3 (x.Other.map Be.c),.sl false 1 (x.Part.map Af),.sl false 1 (x.Flows.map DA)]
def Fo.d:List D->Option Fo
 |[.int .i64 z,.sl _ _ G,.sl _ _ O,.sl _ _ Q,.sl _ _ Z]=>(AX Be.d G).bind λy1=>(AX Be.d O).bind λy2=>(AX Ch Q).bind λy3=>(AX QC Z).bind λy4=>some ⟨z,y1,y2,y3,y4⟩
 |_=>none
def Fo.eta(x:Fo):(⟨x.Kind,x.Sequence,x.Other,x.Part,x.Flows⟩:Fo)=x:=rfl
def Fo.len(x:Fo):(Fo.c x).length=5:=rfl
structure Fl where
 Num:Int
 Den:Int
 deriving DecidableEq
def Fl.c(x:Fl):List D:=[.int .i64 x.Num,.int .i64 x.Den]
def Fl.d:List D->Option Fl
 |[.int .i64 z,.int .i64 G]=>some ⟨z,G⟩
 |_=>none
def Fl.eta(x:Fl):(⟨x.Num,x.Den⟩:Fl)=x:=rfl
def Fl.len(x:Fl):(Fl.c x).length=2:=rfl
structure Kv where
 Sys:AF
 Seq:List Be
 End:Ao
 Inputs:List Int
 Strength:List Int
 deriving DecidableEq
def Kv.c(x:Kv):List D:=[.sl false 2 (x.Sys.Set.Glues.map Ak.c),.sl false 2 (x.Sys.Set.Tiles.map Tile.c),.sl false 3 (x.Sys.Seed.Tiles.map Aq.c),.int .i64 x.Sys.Temperature,.sl false 3 (x.Seq.map Be.c),.sl false 3 (x.End.Tiles.map Aq.c),.sl false 1 (x.Inputs.map Af),.sl false 1 (x.Strength.map Af)]
def Kv.d:List D->Option Kv
 |[.sl _ _ z,.sl _ _ G,.sl _ _ O,.int .i64 Q,.sl _ _ Z,.sl _ _ x5,.sl _ _ x6,.sl _ _ x7]=>(AX Ak.d z).bind λy0=>(AX Tile.d G).bind λy1=>(AX Aq.d O).bind λy2=>(AX Be.d Z).bind λy4=>(AX Aq.d x5).bind λy5=>(AX Ch x6).bind λy6=>(AX Ch x7).bind λy7=>some ⟨⟨⟨y0,y1⟩,⟨y2⟩,Q⟩,y4,⟨y5⟩,y6,y7⟩
 |_=>none
def Kv.eta(x:Kv):(⟨x.Sys,x.Seq,x.End,x.Inputs,x.Strength⟩:Kv)=x:=rfl
def Kv.len(x:Kv):(Kv.c x).length=8:=rfl
end Go.Ae
