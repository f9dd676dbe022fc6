/- Lemmas. Conditions: none. -/
import Derived.Test.YtogafbdeamcpnaaGreatDoorP05
import Derived.KernelRfl
set_option linter.all false
set_option maxHeartbeats 8000000
set_option maxRecDepth 100000
namespace Go.Ae
def RowVC_map{α β:Type}(f:α->List β)(l:List α)(i:Nat)(K:List β->Prop):E3 (l.map f) i K= ∀x,l[i]? =some x->K (f x):=by
 apply propext;unfold E3;constructor
 .intro h x z;exact h (f x) (by simp[z])
 .intro h row G;simp only[BI,BF] at G;obtain⟨x,z,rfl⟩:=G;exact h x z
def OneR_map{α β:Type}(g:List β->Bool)(f:α->List β)(l:List α):OneR g (l.map f)= ∀x∈l,g (f x)=true:=by
 apply propext;unfold OneR;simp
def FI{β:Type}(g:List β->Bool):OneR g []=True:=by
 simp[OneR]
def FE{β:Type}(g:List β->Bool)(r:List β)(l:List (List β)):OneR g (r::l)=(g r=true/\OneR g l):=by
 simp[OneR]
def PJ{β:Type}(g:List β->Bool)(a b:List (List β)):OneR g (a++b)=(OneR g a/\OneR g b):=by
 apply propext;simp only[OneR,AG];constructor
 .exact λh=>⟨λr z=>h r (.inl z),λr z=>h r (.inr z)⟩
 .rintro⟨G,O⟩ r (z|z)
  .exact G r z
  .exact O r z
def OneR_imp{α:Type}(l:List α):(∀x∈l,True)=True:=by simp
def Wj: ∀(l:List Nat),E9 l []=true
 |[]=>rfl
 |x::r=>by simp[E9,Wj r]
def rchL_nil(h:Nat->Option Ent):rchL h []=[]:=rfl
def rchL_cons(h:Nat->Option Ent)(x:AV)(r:List AV):rchL h (x::r)=rch h 9 x++rchL h r:=by simp[rchL]
def Aq{p:Prop}[Decidable p]{A B:Prop}:(if p then A else B)↔((p->A)/\(¬p->B)):=by
 by_cases h:p<;>simp[h]
def Am{x:Int}(z: -9223372036854775808<=x)(G:x<=9223372036854775807):IntKind.wrap .i64 x=x:=IntWalk.i64_in x ⟨z,G⟩
def E0{α:Type}{rows:List (List α)}{i:Nat}{K:List α->Prop}{r:List α}(h:rows[i]? =some r)(G:K r):E3 rows i K:=by
 intro r' z;rw[h] at z;exact Al z▸G
def CZ{P:Nat->Prop}{n k:Nat}(z:k<n)(hn:n<=140737488355328)(h:P (k+1)): ∃b':{k:Nat//P k},n - b'.val<n - k/\IntKind.wrap .i64 ((k:Int)+1)=b'.val:=by
 refine⟨⟨k+1,h⟩,by simp only;omega,?_⟩;rw[Am (by omega) (by omega)];simp only;omega
def blt_dec(a b:Nat):Nat.blt a b=decide (a<b):=by
 rw[HC];simp
def ble_dec(a b:Nat):Nat.ble a b=decide (a<=b):=by
 rw[HC];simp
def intC(n:Int):List D:=[.int .i64 n]
def intD:List D->Option Int
 |[.int .i64 n]=>some n
 |_=>none
def BB: ∀ds x,intD ds=some x->LeS ds (intC x):=by
 intro ds x h;unfold intD at h;split at h
 .simp only[An] at h;subst h;exact⟨Le.refl _,trivial⟩
 .cases h
def HZ(x:Int):intD (intC x)=some x:=rfl
def Lc(l:List Int):decR intD (l.map intC)=some l:=FS HZ l
def strC(n:ByteArray):List D:=[.str n]
def strD:List D->Option ByteArray
 |[.str n]=>some n
 |_=>none
def strD_c(x:ByteArray):strD (strC x)=some x:=rfl
def strD_R(l:List ByteArray):decR strD (l.map strC)=some l:=FS strD_c l
def Bo(x:List Int):List D:=[.sl false 1 (x.map intC)]
def Gw:List D->Option (List Int)
 |[.sl _ _ rows]=>decR intD rows
 |_=>none
def KR: ∀ds x,Gw ds=some x->LeS ds (Bo x):=by
 intro ds x h;unfold Gw at h;split at h
 .exact⟨BL (BG BB _ _ h) (by simp[intC]),trivial⟩
 .cases h
def sintD_c(x:List Int):Gw (Bo x)=some x:=Lc x
def sintD_R(l:List (List Int)):decR Gw (l.map Bo)=some l:=FS sintD_c l
def vInt:D->Option Int
 | .int .i64 n=>some n
 |_=>none
def F2: ∀d x,vInt d=some x->Le d (.int .i64 x):=by
 intro d x h;unfold vInt at h;split at h
 .simp only[An] at h;subst h;exact Le.refl _
 .cases h
def vStr:D->Option ByteArray
 | .str n=>some n
 |_=>none
def vStr_le: ∀d x,vStr d=some x->Le d (.str x):=by
 intro d x h;unfold vStr at h;split at h
 .simp only[An] at h;subst h;exact Le.refl _
 .cases h
def Hn:D->Option Bool
 | .bool n=>some n
 |_=>none
def LF: ∀d x,Hn d=some x->Le d (.bool x):=by
 intro d x h;unfold Hn at h;split at h
 .simp only[An] at h;subst h;exact Le.refl _
 .cases h
def vSl{A:Type}(f:List D->Option A):D->Option (List A)
 | .sl _ _ rows=>decR f rows
 |_=>none
def Oh{A:Type}{f:List D->Option A}{e:A->List D}{k:Nat}(hf: ∀ds x,f ds=some x->LeS ds (e x))(z: ∀x,(e x).length=k): ∀d x,vSl f d=some x->Le d (.sl false k (x.map e)):=by
 intro d x h;unfold vSl at h;split at h
 .exact BL (BG hf _ _ h) (by simp only[AF];rintro r ⟨y,_,rfl⟩;exact z y)
 .cases h
def vAgg{A:Type}(f:List D->Option A):D->Option A
 | .agg z=>f z
 |_=>none
def vAgg_le{A:Type}{f:List D->Option A}{e:A->List D}(hf: ∀ds x,f ds=some x->LeS ds (e x)): ∀d x,vAgg f d=some x->Le d (.agg (e x)):=by
 intro d x h;unfold vAgg at h;split at h
 .exact GI (hf _ _ h)
 .cases h
def LN{A B:Type}(f:D->Option A)(g:D->Option B):D->Option (A×B)
 | .tup [x,y]=>(f x).bind λa=>(g y).map λb=>(a,b)
 |_=>none
def Vz{A B:Type}{f:D->Option A}{g:D->Option B}{e:A->D}{e':B->D}(hf: ∀d x,f d=some x->Le d (e x))(G: ∀d x,g d=some x->Le d (e' x)): ∀d (x:A×B),LN f g d=some x->Le d (.tup [e x.1,e' x.2]):=by
 intro d x h;unfold LN at h;split at h
 .simp only[Cb,BF] at h;obtain⟨a,z,b,hb,rfl⟩:=h;exact le_tup ⟨hf _ _ z,G _ _ hb,trivial⟩
 .cases h
def vTup3{A B E:Type}(f:D->Option A)(g:D->Option B)(k:D->Option E):D->Option (A×B×E)
 | .tup [x,y,z]=>(f x).bind λa=>(g y).bind λb=>(k z).map λc=>(a,b,c)
 |_=>none
def vTup3_le{A B E:Type}{f:D->Option A}{g:D->Option B}{k:D->Option E}{e:A->D}{e':B->D}{e'':E->D}(hf: ∀d x,f d=some x->Le d (e x))(G: ∀d x,g d=some x->Le d (e' x))(O: ∀d x,k d=some x->Le d (e'' x)):
 ∀d (x:A×B×E),vTup3 f g k d=some x->Le d (.tup [e x.1,e' x.2.1,e'' x.2.2]):=by
 intro d x h;unfold vTup3 at h;split at h
 .simp only[Cb,BF] at h;obtain⟨a,z,b,hb,c,hc,rfl⟩:=h;exact le_tup ⟨hf _ _ z,G _ _ hb,O _ _ hc,trivial⟩
 .cases h
def decM{A B:Type}(f:D->Option A)(g:D->Option B):List (D×D)->Option (List (A×B))
 |[]=>some []
 |(x,y)::r=>(f x).bind λa=>(g y).bind λb=>(decM f g r).map λl=>(a,b)::l
def LeM:List (D×D)->List (D×D)->Prop
 |[],[]=>True
 |(x,y)::r,(x',y')::r'=>x=x'/\Le y y'/\LeM r r'
 |[],_::_=>False
 |_::_,[]=>False
def Rj{A B:Type}{f:D->Option A}{g:D->Option B}{z:A->D}{G:B->D}(hf: ∀d x,f d=some x->d=z x)(O: ∀d x,g d=some x->Le d (G x)): ∀(es:List (D×D)) (l:List (A×B)),decM f g es=some l->LeM es (l.map λp=>(z p.1,G p.2))
 |[],l,h=>by
  simp only[decM,An] at h;subst h;trivial
 |(x,y)::r,l,h=>by
  simp only[decM,Cb,BF] at h;obtain⟨a,Q,b,hb,l',Z,rfl⟩:=h;exact⟨hf _ _ Q,O _ _ hb,Rj hf O r l' Z⟩
def LeM.rde{ok:Nat->Prop}{hp:Nat->Option Obj}: ∀{a b:List (D×D)} {es:List MapEntry},LeM a b->Ae.rde ok hp a es->Ae.rde ok hp b es
 |[],[],_,_,h=>h
 |(x,y)::r,(x',y')::r',es,Q,h=>by
  simp only[Ae.rde] at h⊢;obtain⟨e,q,rfl,z,G,O⟩:=h;obtain⟨rfl,Z,l3⟩:=Q;exact⟨e,q,rfl,z,Z _ _ _ G,LeM.rde l3 O⟩
 |[],_::_,_,h,_=>h.elim
 |_::_,[],_,h,_=>h.elim
def LeM.fit{G:KT}: ∀{a b:List (D×D)},LeM a b->(∀e∈a,G.fit e.1=true)-> ∀e∈b,G.fit e.1=true
 |[],[],_,h=>h
 |(x,y)::r,(x',y')::r',O,h=>by
  obtain⟨rfl,_,Q⟩:=O;intro e z;rcases A9.1 z with rfl|z
  .exact h (x,y) (AU ..)
  .exact LeM.fit Q (λe z=>h e (AX _ z)) e z
 |[],_::_,h,_=>h.elim
 |_::_,[],h,_=>h.elim
def le_mp{Q:KT}{a b:List (D×D)}(h:LeM a b):Le (.mp Q a) (.mp Q b):=by
 intro ok hp v O;simp only[rd] at O⊢;obtain⟨bk,G,z,rfl,Z,h2,h3,h4,h5⟩:=O;exact⟨bk,G,z,rfl,h.fit Z,h2,h3,h.rde h4,h5⟩
def TC{A B:Type}{f:D->Option A}{g:D->Option B}{m:A×B->D×D}(h: ∀p,f (m p).1=some p.1/\g (m p).2=some p.2): ∀(l:List (A×B)),decM f g (l.map m)=some l
 |[]=>rfl
 |p::r=>by
  simp only[Ay,decM,(h p).1,(h p).2,Ce,TC h r,Bw]
structure Aa where
 X:Int
 Y:Int
 deriving DecidableEq
def Aa.c(x:Aa):List D:=[.int .i64 x.X,.int .i64 x.Y]
def Aa.d:List D->Option Aa
 |[.int .i64 z,.int .i64 G]=>some ⟨z,G⟩
 |_=>none
def Aa.d_le: ∀ds x,Aa.d ds=some x->LeS ds (Aa.c x):=by
 intro ds x h;unfold Aa.d at h;split at h
 .simp only[An] at h;subst h;exact⟨Le.refl _,Le.refl _,trivial⟩
 .cases h
def Aa.d_c(x:Aa):Aa.d (Aa.c x)=some x:=by
 simp only[Aa.c,Aa.d]
def Aa.d_R(l:List Aa):decR Aa.d (l.map Aa.c)=some l:=FS Aa.d_c l
def Aa.eta(x:Aa):(⟨x.X,x.Y⟩:Aa)=x:=rfl
def Aa.len(x:Aa):(Aa.c x).length=2:=rfl
structure Ad where
 At:Aa
 Tile:Int
 deriving DecidableEq
def Ad.c(x:Ad):List D:=[.int .i64 x.At.X,.int .i64 x.At.Y,.int .i64 x.Tile]
def Ad.d:List D->Option Ad
 |[.int .i64 z,.int .i64 G,.int .i64 O]=>some ⟨⟨z,G⟩,O⟩
 |_=>none
def Ad.d_le: ∀ds x,Ad.d ds=some x->LeS ds (Ad.c x):=by
 intro ds x h;unfold Ad.d at h;split at h
 .simp only[An] at h;subst h;exact⟨Le.refl _,Le.refl _,Le.refl _,trivial⟩
 .cases h
def Ad.d_c(x:Ad):Ad.d (Ad.c x)=some x:=by
 simp only[Ad.c,Ad.d]
def Ad.d_R(l:List Ad):decR Ad.d (l.map Ad.c)=some l:=FS Ad.d_c l
def Ad.eta(x:Ad):(⟨x.At,x.Tile⟩:Ad)=x:=rfl
def Ad.len(x:Ad):(Ad.c x).length=3:=rfl
structure Asm where
 Tiles:List Ad
 deriving DecidableEq
def Asm.c(x:Asm):List D:=[.sl false 3 (x.Tiles.map Ad.c)]
def Asm.d:List D->Option Asm
 |[.sl _ _ z]=>(decR Ad.d z).bind λG=>some ⟨G⟩
 |_=>none
def Asm.d_le: ∀ds x,Asm.d ds=some x->LeS ds (Asm.c x):=by
 intro ds x h;unfold Asm.d at h;split at h
 .simp only[Cb,An] at h;obtain⟨z,h0,rfl⟩:=h;exact⟨BL (BG Ad.d_le _ _ h0) (by simp[Ad.c]),trivial⟩
 .cases h
def Asm.d_c(x:Asm):Asm.d (Asm.c x)=some x:=by
 simp only[Asm.c,Asm.d,Ad.d_R,Ce]
def Asm.eta(x:Asm):(⟨x.Tiles⟩:Asm)=x:=rfl
def Asm.len(x:Asm):(Asm.c x).length=1:=rfl
structure Glue where
 Name:ByteArray
 Strength:Int
 deriving DecidableEq
def Glue.c(x:Glue):List D:=[.str x.Name,.int .i64 x.Strength]
def Glue.d:List D->Option Glue
 |[.str z,.int .i64 G]=>some ⟨z,G⟩
 |_=>none
def Glue.d_le: ∀ds x,Glue.d ds=some x->LeS ds (Glue.c x):=by
 intro ds x h;unfold Glue.d at h;split at h
 .simp only[An] at h;subst h;exact⟨Le.refl _,Le.refl _,trivial⟩
 .cases h
def Glue.d_c(x:Glue):Glue.d (Glue.c x)=some x:=by
 simp only[Glue.c,Glue.d]
def Glue.d_R(l:List Glue):decR Glue.d (l.map Glue.c)=some l:=FS Glue.d_c l
def Glue.eta(x:Glue):(⟨x.Name,x.Strength⟩:Glue)=x:=rfl
def Glue.len(x:Glue):(Glue.c x).length=2:=rfl
structure Tile where
 Name:ByteArray
 Sides:List Int
 deriving DecidableEq
def Tile.c(x:Tile):List D:=[.str x.Name,.sl false 1 (x.Sides.map intC)]
def Tile.d:List D->Option Tile
 |[.str z,.sl _ _ G]=>(decR intD G).bind λO=>some ⟨z,O⟩
 |_=>none
def Tile.d_le: ∀ds x,Tile.d ds=some x->LeS ds (Tile.c x):=by
 intro ds x h;unfold Tile.d at h;split at h
 .simp only[Cb,An] at h;obtain⟨G,z,rfl⟩:=h;exact⟨Le.refl _,BL (BG BB _ _ z) (by simp[intC]),trivial⟩
 .cases h
def Tile.d_c(x:Tile):Tile.d (Tile.c x)=some x:=by
 simp only[Tile.c,Tile.d,Lc,Ce]
def Tile.d_R(l:List Tile):decR Tile.d (l.map Tile.c)=some l:=FS Tile.d_c l
def Tile.eta(x:Tile):(⟨x.Name,x.Sides⟩:Tile)=x:=rfl
def Tile.len(x:Tile):(Tile.c x).length=2:=rfl
structure Aj where
 Glues:List Glue
 Tiles:List Tile
 deriving DecidableEq
def Aj.c(x:Aj):List D:=[.sl false 2 (x.Glues.map Glue.c),.sl false 2 (x.Tiles.map Tile.c)]
def Aj.d:List D->Option Aj
 |[.sl _ _ z,.sl _ _ G]=>(decR Glue.d z).bind λO=>(decR Tile.d G).bind λQ=>some ⟨O,Q⟩
 |_=>none
def Aj.d_le: ∀ds x,Aj.d ds=some x->LeS ds (Aj.c x):=by
 intro ds x h;unfold Aj.d at h;split at h
 .simp only[Cb,An] at h;obtain⟨G,h0,O,z,rfl⟩:=h;exact⟨BL (BG Glue.d_le _ _ h0) (by simp[Glue.c]),BL (BG Tile.d_le _ _ z) (by simp[Tile.c]),trivial⟩
 .cases h
def Aj.eta(x:Aj):(⟨x.Glues,x.Tiles⟩:Aj)=x:=rfl
def Aj.len(x:Aj):(Aj.c x).length=2:=rfl
structure Ah where
 Set:Aj
 Seed:Asm
 Temperature:Int
 deriving DecidableEq
def Ah.c(x:Ah):List D:=[.sl false 2 (x.Set.Glues.map Glue.c),.sl false 2 (x.Set.Tiles.map Tile.c),.sl false 3 (x.Seed.Tiles.map Ad.c),.int .i64 x.Temperature]
def Ah.d:List D->Option Ah
 |[.sl _ _ z,.sl _ _ G,.sl _ _ O,.int .i64 Q]=>(decR Glue.d z).bind λZ=>(decR Tile.d G).bind λy1=>(decR Ad.d O).bind λy2=>some ⟨⟨Z,y1⟩,⟨y2⟩,Q⟩
 |_=>none
def Ah.d_le: ∀ds x,Ah.d ds=some x->LeS ds (Ah.c x):=by
 intro ds x h;unfold Ah.d at h;split at h
 .simp only[Cb,An] at h;obtain⟨O,h0,Q,z,Z,G,rfl⟩:=h;exact⟨BL (BG Glue.d_le _ _ h0) (by simp[Glue.c]),BL (BG Tile.d_le _ _ z) (by simp[Tile.c]),BL (BG Ad.d_le _ _ G) (by simp[Ad.c]),Le.refl _,trivial⟩
 .cases h
def Ah.d_c(x:Ah):Ah.d (Ah.c x)=some x:=by
 simp only[Ah.c,Ah.d,Glue.d_R,Ad.d_R,Tile.d_R,Ce]
def Ah.eta(x:Ah):(⟨x.Set,x.Seed,x.Temperature⟩:Ah)=x:=rfl
def Ah.len(x:Ah):(Ah.c x).length=4:=rfl
structure Opt where
 At:Aa
 Tile:Int
 deriving DecidableEq
def Opt.c(x:Opt):List D:=[.int .i64 x.At.X,.int .i64 x.At.Y,.int .i64 x.Tile]
def Opt.d:List D->Option Opt
 |[.int .i64 z,.int .i64 G,.int .i64 O]=>some ⟨⟨z,G⟩,O⟩
 |_=>none
def Opt.d_le: ∀ds x,Opt.d ds=some x->LeS ds (Opt.c x):=by
 intro ds x h;unfold Opt.d at h;split at h
 .simp only[An] at h;subst h;exact⟨Le.refl _,Le.refl _,Le.refl _,trivial⟩
 .cases h
def Opt.d_c(x:Opt):Opt.d (Opt.c x)=some x:=by
 simp only[Opt.c,Opt.d]
def Opt.d_R(l:List Opt):decR Opt.d (l.map Opt.c)=some l:=FS Opt.d_c l
def Opt.eta(x:Opt):(⟨x.At,x.Tile⟩:Opt)=x:=rfl
def Opt.len(x:Opt):(Opt.c x).length=3:=rfl
structure Sim where
 Big:Ah
 Small:Ah
 Scale:Int
 Labels:List Int
 deriving DecidableEq
def Sim.c(x:Sim):List D:=[.sl false 2 (x.Big.Set.Glues.map Glue.c),.sl false 2 (x.Big.Set.Tiles.map Tile.c),.sl false 3 (x.Big.Seed.Tiles.map Ad.c),.int .i64 x.Big.Temperature,.sl false 2 (x.Small.Set.Glues.map Glue.c),.sl false 2 (x.Small.Set.Tiles.map Tile.c),.sl false 3 (x.Small.Seed.Tiles.map Ad.c),.int .i64 x.Small.Temperature,.int .i64 x.Scale,.sl false 1 (x.Labels.map intC)]
def Sim.d:List D->Option Sim
 |[.sl _ _ z,.sl _ _ G,.sl _ _ O,.int .i64 Q,.sl _ _ Z,.sl _ _ x5,.sl _ _ x6,.int .i64 x7,.int .i64 x8,.sl _ _ x9]=>(decR Glue.d z).bind λy0=>(decR Tile.d G).bind λy1=>(decR Ad.d O).bind λy2=>(decR Glue.d Z).bind λy4=>(decR Tile.d x5).bind λy5=>(decR Ad.d x6).bind λy6=>(decR intD x9).bind λy9=>some ⟨⟨⟨y0,y1⟩,⟨y2⟩,Q⟩,⟨⟨y4,y5⟩,⟨y6⟩,x7⟩,x8,y9⟩
 |_=>none
def Sim.eta(x:Sim):(⟨x.Big,x.Small,x.Scale,x.Labels⟩:Sim)=x:=rfl
def Sim.len(x:Sim):(Sim.c x).length=10:=rfl
structure Bond where
 A:Int
 B:Int
 Strength:Int
 deriving DecidableEq
def Bond.c(x:Bond):List D:=[.int .i64 x.A,.int .i64 x.B,.int .i64 x.Strength]
def Bond.d:List D->Option Bond
 |[.int .i64 z,.int .i64 G,.int .i64 O]=>some ⟨z,G,O⟩
 |_=>none
def Bond.d_le: ∀ds x,Bond.d ds=some x->LeS ds (Bond.c x):=by
 intro ds x h;unfold Bond.d at h;split at h
 .simp only[An] at h;subst h;exact⟨Le.refl _,Le.refl _,Le.refl _,trivial⟩
 .cases h
def Bond.d_c(x:Bond):Bond.d (Bond.c x)=some x:=by
 simp only[Bond.c,Bond.d]
def Bond.d_R(l:List Bond):decR Bond.d (l.map Bond.c)=some l:=FS Bond.d_c l
def Bond.eta(x:Bond):(⟨x.A,x.B,x.Strength⟩:Bond)=x:=rfl
def Bond.len(x:Bond):(Bond.c x).length=3:=rfl
def Uo: ∀d x,vAgg Aa.d d=some x->d= .agg (Aa.c x):=by
 intro d x h;unfold vAgg at h;split at h
 .rename_i z;unfold Aa.d at h;split at h
  .simp only[An] at h;subst h;rfl
  .cases h
 .cases h
def BO(p:Aa×Int):D×D:=(.agg (Aa.c p.1),.int .i64 p.2)
def Yo(l:List (Aa×Int)):decM (vAgg Aa.d) vInt (l.map BO)=some l:=TC (λp=>⟨by simp[BO,vAgg,Aa.d_c],by simp[BO,vInt]⟩) l
def Br(p:Aa×(List Int)):D×D:=(.agg (Aa.c p.1),.sl false 1 (p.2.map intC))
def Yn(l:List (Aa×(List Int))):decM (vAgg Aa.d) (vSl intD) (l.map Br)=some l:=TC (λp=>⟨by simp[Br,vAgg,Aa.d_c],by simp[Br,vSl,Lc]⟩) l
structure Cry where
 Sys:Ah
 Tl:List (Aa×Int)
 Op:List (Aa×(List Int))
 deriving DecidableEq
def Cry.c(x:Cry):List D:=[.sl false 2 (x.Sys.Set.Glues.map Glue.c),.sl false 2 (x.Sys.Set.Tiles.map Tile.c),.sl false 3 (x.Sys.Seed.Tiles.map Ad.c),.int .i64 x.Sys.Temperature,.mp ⟨true,[.int .i64,.int .i64]⟩ (x.Tl.map BO),.mp ⟨true,[.int .i64,.int .i64]⟩ (x.Op.map Br)]
def Cry.d:List D->Option Cry
 |[.sl _ _ z,.sl _ _ G,.sl _ _ O,.int .i64 Q,.mp ⟨true,[.int .i64,.int .i64]⟩ Z,.mp ⟨true,[.int .i64,.int .i64]⟩ x5]=>(decR Glue.d z).bind λy0=>(decR Tile.d G).bind λy1=>(decR Ad.d O).bind λy2=>(decM (vAgg Aa.d) vInt Z).bind λy4=>(decM (vAgg Aa.d) (vSl intD) x5).bind λy5=>some ⟨⟨⟨y0,y1⟩,⟨y2⟩,Q⟩,y4,y5⟩
 |_=>none
def Cry.d_le: ∀ds x,Cry.d ds=some x->LeS ds (Cry.c x):=by
 intro ds x h;unfold Cry.d at h;split at h
 .simp only[Cb,An] at h;obtain⟨Z,h0,y1,z,y2,G,y4,O,y5,Q,rfl⟩:=h;exact⟨BL (BG Glue.d_le _ _ h0) (by simp[Glue.c]),BL (BG Tile.d_le _ _ z) (by simp[Tile.c]),BL (BG Ad.d_le _ _ G) (by simp[Ad.c]),Le.refl _,le_mp (Rj Uo F2 _ _ O),le_mp (Rj Uo (Oh BB (λ_=>rfl)) _ _ Q),trivial⟩
 .cases h
def Cry.eta(x:Cry):(⟨x.Sys,x.Tl,x.Op⟩:Cry)=x:=rfl
def Cry.len(x:Cry):(Cry.c x).length=6:=rfl
structure Net where
 Cnt:Int
 Bonds:List Bond
 At:List (List Int)
 Flow:List Int
 deriving DecidableEq
def Net.c(x:Net):List D:=[.int .i64 x.Cnt,.sl false 3 (x.Bonds.map Bond.c),.sl false 1 (x.At.map Bo),.sl false 1 (x.Flow.map intC)]
def Net.d:List D->Option Net
 |[.int .i64 z,.sl _ _ G,.sl _ _ O,.sl _ _ Q]=>(decR Bond.d G).bind λZ=>(decR Gw O).bind λy2=>(decR intD Q).bind λy3=>some ⟨z,Z,y2,y3⟩
 |_=>none
def Net.d_le: ∀ds x,Net.d ds=some x->LeS ds (Net.c x):=by
 intro ds x h;unfold Net.d at h;split at h
 .simp only[Cb,An] at h;obtain⟨Q,z,Z,G,y3,O,rfl⟩:=h;exact⟨Le.refl _,BL (BG Bond.d_le _ _ z) (by simp[Bond.c]),BL (BG KR _ _ G) (by simp[Bo]),BL (BG BB _ _ O) (by simp[intC]),trivial⟩
 .cases h
def Net.eta(x:Net):(⟨x.Cnt,x.Bonds,x.At,x.Flow⟩:Net)=x:=rfl
def Net.len(x:Net):(Net.c x).length=4:=rfl
structure Nwk where
 Room:List (List Int)
 Flow:List (List Int)
 deriving DecidableEq
def Nwk.c(x:Nwk):List D:=[.sl false 1 (x.Room.map Bo),.sl false 1 (x.Flow.map Bo)]
def Nwk.d:List D->Option Nwk
 |[.sl _ _ z,.sl _ _ G]=>(decR Gw z).bind λO=>(decR Gw G).bind λQ=>some ⟨O,Q⟩
 |_=>none
def Nwk.d_le: ∀ds x,Nwk.d ds=some x->LeS ds (Nwk.c x):=by
 intro ds x h;unfold Nwk.d at h;split at h
 .simp only[Cb,An] at h;obtain⟨G,h0,O,z,rfl⟩:=h;exact⟨BL (BG KR _ _ h0) (by simp[Bo]),BL (BG KR _ _ z) (by simp[Bo]),trivial⟩
 .cases h
def Nwk.d_c(x:Nwk):Nwk.d (Nwk.c x)=some x:=by
 simp only[Nwk.c,Nwk.d,sintD_R,Ce]
def Nwk.eta(x:Nwk):(⟨x.Room,x.Flow⟩:Nwk)=x:=rfl
def Nwk.len(x:Nwk):(Nwk.c x).length=2:=rfl
structure Ck where
 Kind:Int
 Sequence:List Opt
 Other:List Opt
 Part:List Int
 Flows:List (List Int)
 deriving DecidableEq
def Ck.c(x:Ck):List D:=[.int .i64 x.Kind,.sl false 3 (x.Sequence.map Opt.c),.sl false 3 (x.Other.map Opt.c),.sl false 1 (x.Part.map intC),.sl false 1 (x.Flows.map Bo)]
def Ck.d:List D->Option Ck
 |[.int .i64 z,.sl _ _ G,.sl _ _ O,.sl _ _ Q,.sl _ _ Z]=>(decR Opt.d G).bind λy1=>(decR Opt.d O).bind λy2=>(decR intD Q).bind λy3=>(decR Gw Z).bind λy4=>some ⟨z,y1,y2,y3,y4⟩
 |_=>none
def Ck.eta(x:Ck):(⟨x.Kind,x.Sequence,x.Other,x.Part,x.Flows⟩:Ck)=x:=rfl
def Ck.len(x:Ck):(Ck.c x).length=5:=rfl
structure Frac where
 Num:Int
 Den:Int
 deriving DecidableEq
def Frac.c(x:Frac):List D:=[.int .i64 x.Num,.int .i64 x.Den]
def Frac.d:List D->Option Frac
 |[.int .i64 z,.int .i64 G]=>some ⟨z,G⟩
 |_=>none
def Frac.eta(x:Frac):(⟨x.Num,x.Den⟩:Frac)=x:=rfl
def Frac.len(x:Frac):(Frac.c x).length=2:=rfl
structure Pld where
 Sys:Ah
 Seq:List Opt
 End:Asm
 Inputs:List Int
 Strength:List Int
 deriving DecidableEq
def Pld.c(x:Pld):List D:=[.sl false 2 (x.Sys.Set.Glues.map Glue.c),.sl false 2 (x.Sys.Set.Tiles.map Tile.c),.sl false 3 (x.Sys.Seed.Tiles.map Ad.c),.int .i64 x.Sys.Temperature,.sl false 3 (x.Seq.map Opt.c),.sl false 3 (x.End.Tiles.map Ad.c),.sl false 1 (x.Inputs.map intC),.sl false 1 (x.Strength.map intC)]
def Pld.d:List D->Option Pld
 |[.sl _ _ z,.sl _ _ G,.sl _ _ O,.int .i64 Q,.sl _ _ Z,.sl _ _ x5,.sl _ _ x6,.sl _ _ x7]=>(decR Glue.d z).bind λy0=>(decR Tile.d G).bind λy1=>(decR Ad.d O).bind λy2=>(decR Opt.d Z).bind λy4=>(decR Ad.d x5).bind λy5=>(decR intD x6).bind λy6=>(decR intD x7).bind λy7=>some ⟨⟨⟨y0,y1⟩,⟨y2⟩,Q⟩,y4,⟨y5⟩,y6,y7⟩
 |_=>none
def Pld.d_le: ∀ds x,Pld.d ds=some x->LeS ds (Pld.c x):=by
 intro ds x h;unfold Pld.d at h;split at h
 .simp only[Cb,An] at h;obtain⟨y0,h0,y1,z,y2,G,y4,O,y5,Q,y6,Z,y7,h7,rfl⟩:=h;exact⟨BL (BG Glue.d_le _ _ h0) (by simp[Glue.c]),BL (BG Tile.d_le _ _ z) (by simp[Tile.c]),BL (BG Ad.d_le _ _ G) (by simp[Ad.c]),Le.refl _,BL (BG Opt.d_le _ _ O) (by simp[Opt.c]),BL (BG Ad.d_le _ _ Q) (by simp[Ad.c]),BL (BG BB _ _ Z) (by simp[intC]),BL (BG BB _ _ h7) (by simp[intC]),trivial⟩
 .cases h
def Pld.d_c(x:Pld):Pld.d (Pld.c x)=some x:=by
 simp only[Pld.c,Pld.d,Glue.d_R,Opt.d_R,Ad.d_R,Tile.d_R,Lc,Ce]
def Pld.eta(x:Pld):(⟨x.Sys,x.Seq,x.End,x.Inputs,x.Strength⟩:Pld)=x:=rfl
def Pld.len(x:Pld):(Pld.c x).length=8:=rfl
end Go.Ae
