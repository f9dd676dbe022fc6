/- Lemmas. Conditions: none. -/
import Derived.Test.YtofkcjmhpnkjhaaGreatP05
import Derived.KernelRfl
set_option linter.all false
set_option maxHeartbeats 8000000
set_option maxRecDepth 100000
namespace Go.Ae
theorem RowVC_map{α β:Type}(f:α->List β)(l:List α)(i:Nat)(K:List β->Prop):Qi9 (l.map f) i K= ∀x,l[i]? =some x->K (f x):=by
 apply propext;unfold Qi9;constructor
 .intro h x hx;exact h (f x) (by simp[hx])
 .intro h row hr;simp only[ZaN,Zay] at hr;obtain⟨x,hx,rfl⟩:=hr;exact h x hx
theorem OneR_map{α β:Type}(g:List β->Bool)(f:α->List β)(l:List α):OneR g (l.map f)= ∀x∈l,g (f x)=true:=by
 apply propext;unfold OneR;simp
theorem Qag{β:Type}(g:List β->Bool):OneR g []=True:=by
 simp[OneR]
theorem Qac{β:Type}(g:List β->Bool)(r:List β)(l:List (List β)):OneR g (r::l)=(g r=true/\OneR g l):=by
 simp[OneR]
theorem Qaf{β:Type}(g:List β->Bool)(a b:List (List β)):OneR g (a++b)=(OneR g a/\OneR g b):=by
 apply propext;simp only[OneR,Zan];constructor
 .exact fun h=>⟨fun r hr=>h r (.inl hr),fun r hr=>h r (.inr hr)⟩
 .rintro⟨h1,h2⟩ r (hr|hr)
  .exact h1 r hr
  .exact h2 r hr
theorem OneR_imp{α:Type}(l:List α):(∀x∈l,True)=True:=by simp
theorem Qqj: ∀(l:List Nat),Ql9 l []=true
 |[]=>rfl
 |x::r=>by simp[Ql9,Qqj r]
theorem rchL_nil(h:Nat->Option Ent):rchL h []=[]:=rfl
theorem rchL_cons(h:Nat->Option Ent)(x:AV)(r:List AV):rchL h (x::r)=rch h 9 x++rchL h r:=by simp[rchL]
theorem Qal{p:Prop}[Decidable p]{A B:Prop}:(if p then A else B)↔((p->A)/\(¬p->B)):=by
 by_cases h:p<;>simp[h]
theorem Qak{x:Int}(h1: -9223372036854775808<=x)(h2:x<=9223372036854775807):IntKind.wrap .i64 x=x:=IntWalk.i64_in x ⟨h1,h2⟩
theorem Qi3{α:Type}{rows:List (List α)}{i:Nat}{K:List α->Prop}{r:List α}(h:rows[i]? =some r)(hk:K r):Qi9 rows i K:=by
 intro r' hr';rw[h] at hr';exact Zac hr'▸hk
theorem Qb6{P:Nat->Prop}{n k:Nat}(hk:k<n)(hn:n<=140737488355328)(h:P (k+1)): ∃b':{k:Nat//P k},n - b'.val<n - k/\IntKind.wrap .i64 ((k:Int)+1)=b'.val:=by
 refine⟨⟨k+1,h⟩,by simp only;omega,?_⟩;rw[Qak (by omega) (by omega)];simp only;omega
theorem blt_dec(a b:Nat):Nat.blt a b=decide (a<b):=by
 rw[ZcN];simp
theorem ble_dec(a b:Nat):Nat.ble a b=decide (a<=b):=by
 rw[ZcN];simp
def intC(n:Int):List D:=[.int .i64 n]
def intD:List D->Option Int
 |[.int .i64 n]=>some n
 |_=>none
theorem Qb3: ∀ds x,intD ds=some x->LeS ds (intC x):=by
 intro ds x h;unfold intD at h;split at h
 .simp only[Zae] at h;subst h;exact⟨Le.refl _,trivial⟩
 .cases h
theorem intD_c(x:Int):intD (intC x)=some x:=rfl
theorem Qmp(l:List Int):decR intD (l.map intC)=some l:=Qb4 intD_c l
def strC(n:ByteArray):List D:=[.str n]
def strD:List D->Option ByteArray
 |[.str n]=>some n
 |_=>none
theorem strD_c(x:ByteArray):strD (strC x)=some x:=rfl
theorem strD_R(l:List ByteArray):decR strD (l.map strC)=some l:=Qb4 strD_c l
def Qcd(x:List Int):List D:=[.sl false 1 (x.map intC)]
def Qpb:List D->Option (List Int)
 |[.sl _ _ rows]=>decR intD rows
 |_=>none
theorem Qj4: ∀ds x,Qpb ds=some x->LeS ds (Qcd x):=by
 intro ds x h;unfold Qpb at h;split at h
 .exact⟨Qbf (Qa2 Qb3 _ _ h) (by simp[intC]),trivial⟩
 .cases h
theorem sintD_c(x:List Int):Qpb (Qcd x)=some x:=Qmp x
theorem sintD_R(l:List (List Int)):decR Qpb (l.map Qcd)=some l:=Qb4 sintD_c l
def vInt:D->Option Int
 | .int .i64 n=>some n
 |_=>none
theorem Qa3: ∀d x,vInt d=some x->Le d (.int .i64 x):=by
 intro d x h;unfold vInt at h;split at h
 .simp only[Zae] at h;subst h;exact Le.refl _
 .cases h
def vStr:D->Option ByteArray
 | .str n=>some n
 |_=>none
theorem vStr_le: ∀d x,vStr d=some x->Le d (.str x):=by
 intro d x h;unfold vStr at h;split at h
 .simp only[Zae] at h;subst h;exact Le.refl _
 .cases h
def Qa8:D->Option Bool
 | .bool n=>some n
 |_=>none
theorem Qat: ∀d x,Qa8 d=some x->Le d (.bool x):=by
 intro d x h;unfold Qa8 at h;split at h
 .simp only[Zae] at h;subst h;exact Le.refl _
 .cases h
def vSl{A:Type}(f:List D->Option A):D->Option (List A)
 | .sl _ _ rows=>decR f rows
 |_=>none
theorem vSl_le{A:Type}{f:List D->Option A}{e:A->List D}{k:Nat}(hf: ∀ds x,f ds=some x->LeS ds (e x))(hk: ∀x,(e x).length=k): ∀d x,vSl f d=some x->Le d (.sl false k (x.map e)):=by
 intro d x h;unfold vSl at h;split at h
 .exact Qbf (Qa2 hf _ _ h) (by simp only[ZaJ];rintro r ⟨y,_,rfl⟩;exact hk y)
 .cases h
def vAgg{A:Type}(f:List D->Option A):D->Option A
 | .agg cs=>f cs
 |_=>none
theorem vAgg_le{A:Type}{f:List D->Option A}{e:A->List D}(hf: ∀ds x,f ds=some x->LeS ds (e x)): ∀d x,vAgg f d=some x->Le d (.agg (e x)):=by
 intro d x h;unfold vAgg at h;split at h
 .exact Qav (hf _ _ h)
 .cases h
def Qfa{A B:Type}(f:D->Option A)(g:D->Option B):D->Option (A×B)
 | .tup [x,y]=>(f x).bind fun a=>(g y).map fun b=>(a,b)
 |_=>none
theorem Qbz{A B:Type}{f:D->Option A}{g:D->Option B}{e:A->D}{e':B->D}(hf: ∀d x,f d=some x->Le d (e x))(hg: ∀d x,g d=some x->Le d (e' x)): ∀d (x:A×B),Qfa f g d=some x->Le d (.tup [e x.1,e' x.2]):=by
 intro d x h;unfold Qfa at h;split at h
 .simp only[ZaM,Zay] at h;obtain⟨a,ha,b,hb,rfl⟩:=h;exact le_tup ⟨hf _ _ ha,hg _ _ hb,trivial⟩
 .cases h
def vTup3{A B E:Type}(f:D->Option A)(g:D->Option B)(k:D->Option E):D->Option (A×B×E)
 | .tup [x,y,z]=>(f x).bind fun a=>(g y).bind fun b=>(k z).map fun c=>(a,b,c)
 |_=>none
theorem vTup3_le{A B E:Type}{f:D->Option A}{g:D->Option B}{k:D->Option E}{e:A->D}{e':B->D}{e'':E->D}(hf: ∀d x,f d=some x->Le d (e x))(hg: ∀d x,g d=some x->Le d (e' x))(hk: ∀d x,k d=some x->Le d (e'' x)):
 ∀d (x:A×B×E),vTup3 f g k d=some x->Le d (.tup [e x.1,e' x.2.1,e'' x.2.2]):=by
 intro d x h;unfold vTup3 at h;split at h
 .simp only[ZaM,Zay] at h;obtain⟨a,ha,b,hb,c,hc,rfl⟩:=h;exact le_tup ⟨hf _ _ ha,hg _ _ hb,hk _ _ hc,trivial⟩
 .cases h
def decM{A B:Type}(f:D->Option A)(g:D->Option B):List (D×D)->Option (List (A×B))
 |[]=>some []
 |(x,y)::r=>(f x).bind fun a=>(g y).bind fun b=>(decM f g r).map fun l=>(a,b)::l
def LeM:List (D×D)->List (D×D)->Prop
 |[],[]=>True
 |(x,y)::r,(x',y')::r'=>x=x'/\Le y y'/\LeM r r'
 |[],_::_=>False
 |_::_,[]=>False
theorem Qxb{A B:Type}{f:D->Option A}{g:D->Option B}{ef:A->D}{eg:B->D}(hf: ∀d x,f d=some x->d=ef x)(hg: ∀d x,g d=some x->Le d (eg x)): ∀(es:List (D×D)) (l:List (A×B)),decM f g es=some l->LeM es (l.map fun p=>(ef p.1,eg p.2))
 |[],l,h=>by
  simp only[decM,Zae] at h;subst h;trivial
 |(x,y)::r,l,h=>by
  simp only[decM,ZaM,Zay] at h;obtain⟨a,ha,b,hb,l',hl,rfl⟩:=h;exact⟨hf _ _ ha,hg _ _ hb,Qxb hf hg r l' hl⟩
theorem LeM.rde{ok:Nat->Prop}{hp:Nat->Option Obj}: ∀{a b:List (D×D)} {es:List MapEntry},LeM a b->Ae.rde ok hp a es->Ae.rde ok hp b es
 |[],[],_,_,h=>h
 |(x,y)::r,(x',y')::r',es,hl,h=>by
  simp only[Ae.rde] at h⊢;obtain⟨e,q,rfl,h1,h2,h3⟩:=h;obtain⟨rfl,l2,l3⟩:=hl;exact⟨e,q,rfl,h1,l2 _ _ _ h2,LeM.rde l3 h3⟩
 |[],_::_,_,h,_=>h.elim
 |_::_,[],_,h,_=>h.elim
theorem LeM.fit{kt:KT}: ∀{a b:List (D×D)},LeM a b->(∀e∈a,kt.fit e.1=true)-> ∀e∈b,kt.fit e.1=true
 |[],[],_,h=>h
 |(x,y)::r,(x',y')::r',hl,h=>by
  obtain⟨rfl,_,l3⟩:=hl;intro e he;rcases Zaw.1 he with rfl|he
  .exact h (x,y) (Zat ..)
  .exact LeM.fit l3 (fun e he=>h e (Zas _ he)) e he
 |[],_::_,h,_=>h.elim
 |_::_,[],h,_=>h.elim
theorem le_mp{kt:KT}{a b:List (D×D)}(h:LeM a b):Le (.mp kt a) (.mp kt b):=by
 intro ok hp v hv;simp only[rd] at hv⊢;obtain⟨bk,ents,clock,rfl,h1,h2,h3,h4,h5⟩:=hv;exact⟨bk,ents,clock,rfl,h.fit h1,h2,h3,h.rde h4,h5⟩
theorem Qs4{A B:Type}{f:D->Option A}{g:D->Option B}{m:A×B->D×D}(h: ∀p,f (m p).1=some p.1/\g (m p).2=some p.2): ∀(l:List (A×B)),decM f g (l.map m)=some l
 |[]=>rfl
 |p::r=>by
  simp only[Zaq,decM,(h p).1,(h p).2,ZbK,Qs4 h r,ZaO]
structure Qae where
 X:Int
 Y:Int
 deriving DecidableEq
def Qae.c(x:Qae):List D:=[.int .i64 x.X,.int .i64 x.Y]
def Qae.d:List D->Option Qae
 |[.int .i64 x0,.int .i64 x1]=>some ⟨x0,x1⟩
 |_=>none
theorem Qae.d_le: ∀ds x,Qae.d ds=some x->LeS ds (Qae.c x):=by
 intro ds x h;unfold Qae.d at h;split at h
 .simp only[Zae] at h;subst h;exact⟨Le.refl _,Le.refl _,trivial⟩
 .cases h
theorem Qae.d_c(x:Qae):Qae.d (Qae.c x)=some x:=by
 simp only[Qae.c,Qae.d]
theorem Qae.d_R(l:List Qae):decR Qae.d (l.map Qae.c)=some l:=Qb4 Qae.d_c l
theorem Qae.eta(x:Qae):(⟨x.X,x.Y⟩:Qae)=x:=rfl
theorem Qae.len(x:Qae):(Qae.c x).length=2:=rfl
structure Qab where
 At:Qae
 Tile:Int
 deriving DecidableEq
def Qab.c(x:Qab):List D:=[.int .i64 x.At.X,.int .i64 x.At.Y,.int .i64 x.Tile]
def Qab.d:List D->Option Qab
 |[.int .i64 x0,.int .i64 x1,.int .i64 x2]=>some ⟨⟨x0,x1⟩,x2⟩
 |_=>none
theorem Qab.d_le: ∀ds x,Qab.d ds=some x->LeS ds (Qab.c x):=by
 intro ds x h;unfold Qab.d at h;split at h
 .simp only[Zae] at h;subst h;exact⟨Le.refl _,Le.refl _,Le.refl _,trivial⟩
 .cases h
theorem Qab.d_c(x:Qab):Qab.d (Qab.c x)=some x:=by
 simp only[Qab.c,Qab.d]
theorem Qab.d_R(l:List Qab):decR Qab.d (l.map Qab.c)=some l:=Qb4 Qab.d_c l
theorem Qab.eta(x:Qab):(⟨x.At,x.Tile⟩:Qab)=x:=rfl
theorem Qab.len(x:Qab):(Qab.c x).length=3:=rfl
structure Asm where
 Tiles:List Qab
 deriving DecidableEq
def Asm.c(x:Asm):List D:=[.sl false 3 (x.Tiles.map Qab.c)]
def Asm.d:List D->Option Asm
 |[.sl _ _ x0]=>(decR Qab.d x0).bind fun y0=>some ⟨y0⟩
 |_=>none
theorem Asm.d_le: ∀ds x,Asm.d ds=some x->LeS ds (Asm.c x):=by
 intro ds x h;unfold Asm.d at h;split at h
 .simp only[ZaM,Zae] at h;obtain⟨y0,h0,rfl⟩:=h;exact⟨Qbf (Qa2 Qab.d_le _ _ h0) (by simp[Qab.c]),trivial⟩
 .cases h
theorem Asm.d_c(x:Asm):Asm.d (Asm.c x)=some x:=by
 simp only[Asm.c,Asm.d,Qab.d_R,ZbK]
theorem Asm.eta(x:Asm):(⟨x.Tiles⟩:Asm)=x:=rfl
theorem Asm.len(x:Asm):(Asm.c x).length=1:=rfl
structure Glue where
 Name:ByteArray
 Strength:Int
 deriving DecidableEq
def Glue.c(x:Glue):List D:=[.str x.Name,.int .i64 x.Strength]
def Glue.d:List D->Option Glue
 |[.str x0,.int .i64 x1]=>some ⟨x0,x1⟩
 |_=>none
theorem Glue.d_le: ∀ds x,Glue.d ds=some x->LeS ds (Glue.c x):=by
 intro ds x h;unfold Glue.d at h;split at h
 .simp only[Zae] at h;subst h;exact⟨Le.refl _,Le.refl _,trivial⟩
 .cases h
theorem Glue.d_c(x:Glue):Glue.d (Glue.c x)=some x:=by
 simp only[Glue.c,Glue.d]
theorem Glue.d_R(l:List Glue):decR Glue.d (l.map Glue.c)=some l:=Qb4 Glue.d_c l
theorem Glue.eta(x:Glue):(⟨x.Name,x.Strength⟩:Glue)=x:=rfl
theorem Glue.len(x:Glue):(Glue.c x).length=2:=rfl
structure Tile where
 Name:ByteArray
 Sides:List Int
 deriving DecidableEq
def Tile.c(x:Tile):List D:=[.str x.Name,.sl false 1 (x.Sides.map intC)]
def Tile.d:List D->Option Tile
 |[.str x0,.sl _ _ x1]=>(decR intD x1).bind fun y1=>some ⟨x0,y1⟩
 |_=>none
theorem Tile.d_le: ∀ds x,Tile.d ds=some x->LeS ds (Tile.c x):=by
 intro ds x h;unfold Tile.d at h;split at h
 .simp only[ZaM,Zae] at h;obtain⟨y1,h1,rfl⟩:=h;exact⟨Le.refl _,Qbf (Qa2 Qb3 _ _ h1) (by simp[intC]),trivial⟩
 .cases h
theorem Tile.d_c(x:Tile):Tile.d (Tile.c x)=some x:=by
 simp only[Tile.c,Tile.d,Qmp,ZbK]
theorem Tile.d_R(l:List Tile):decR Tile.d (l.map Tile.c)=some l:=Qb4 Tile.d_c l
theorem Tile.eta(x:Tile):(⟨x.Name,x.Sides⟩:Tile)=x:=rfl
theorem Tile.len(x:Tile):(Tile.c x).length=2:=rfl
structure Qaa where
 Glues:List Glue
 Tiles:List Tile
 deriving DecidableEq
def Qaa.c(x:Qaa):List D:=[.sl false 2 (x.Glues.map Glue.c),.sl false 2 (x.Tiles.map Tile.c)]
def Qaa.d:List D->Option Qaa
 |[.sl _ _ x0,.sl _ _ x1]=>(decR Glue.d x0).bind fun y0=>(decR Tile.d x1).bind fun y1=>some ⟨y0,y1⟩
 |_=>none
theorem Qaa.d_le: ∀ds x,Qaa.d ds=some x->LeS ds (Qaa.c x):=by
 intro ds x h;unfold Qaa.d at h;split at h
 .simp only[ZaM,Zae] at h;obtain⟨y0,h0,y1,h1,rfl⟩:=h;exact⟨Qbf (Qa2 Glue.d_le _ _ h0) (by simp[Glue.c]),Qbf (Qa2 Tile.d_le _ _ h1) (by simp[Tile.c]),trivial⟩
 .cases h
theorem Qaa.eta(x:Qaa):(⟨x.Glues,x.Tiles⟩:Qaa)=x:=rfl
theorem Qaa.len(x:Qaa):(Qaa.c x).length=2:=rfl
structure Qar where
 Set:Qaa
 Seed:Asm
 Temperature:Int
 deriving DecidableEq
def Qar.c(x:Qar):List D:=[.sl false 2 (x.Set.Glues.map Glue.c),.sl false 2 (x.Set.Tiles.map Tile.c),.sl false 3 (x.Seed.Tiles.map Qab.c),.int .i64 x.Temperature]
def Qar.d:List D->Option Qar
 |[.sl _ _ x0,.sl _ _ x1,.sl _ _ x2,.int .i64 x3]=>(decR Glue.d x0).bind fun y0=>(decR Tile.d x1).bind fun y1=>(decR Qab.d x2).bind fun y2=>some ⟨⟨y0,y1⟩,⟨y2⟩,x3⟩
 |_=>none
theorem Qar.d_le: ∀ds x,Qar.d ds=some x->LeS ds (Qar.c x):=by
 intro ds x h;unfold Qar.d at h;split at h
 .simp only[ZaM,Zae] at h;obtain⟨y0,h0,y1,h1,y2,h2,rfl⟩:=h;exact⟨Qbf (Qa2 Glue.d_le _ _ h0) (by simp[Glue.c]),Qbf (Qa2 Tile.d_le _ _ h1) (by simp[Tile.c]),Qbf (Qa2 Qab.d_le _ _ h2) (by simp[Qab.c]),Le.refl _,trivial⟩
 .cases h
theorem Qar.eta(x:Qar):(⟨x.Set,x.Seed,x.Temperature⟩:Qar)=x:=rfl
theorem Qar.len(x:Qar):(Qar.c x).length=4:=rfl
structure Opt where
 At:Qae
 Tile:Int
 deriving DecidableEq
def Opt.c(x:Opt):List D:=[.int .i64 x.At.X,.int .i64 x.At.Y,.int .i64 x.Tile]
def Opt.d:List D->Option Opt
 |[.int .i64 x0,.int .i64 x1,.int .i64 x2]=>some ⟨⟨x0,x1⟩,x2⟩
 |_=>none
theorem Opt.d_le: ∀ds x,Opt.d ds=some x->LeS ds (Opt.c x):=by
 intro ds x h;unfold Opt.d at h;split at h
 .simp only[Zae] at h;subst h;exact⟨Le.refl _,Le.refl _,Le.refl _,trivial⟩
 .cases h
theorem Opt.d_c(x:Opt):Opt.d (Opt.c x)=some x:=by
 simp only[Opt.c,Opt.d]
theorem Opt.d_R(l:List Opt):decR Opt.d (l.map Opt.c)=some l:=Qb4 Opt.d_c l
theorem Opt.eta(x:Opt):(⟨x.At,x.Tile⟩:Opt)=x:=rfl
theorem Opt.len(x:Opt):(Opt.c x).length=3:=rfl
structure Sim where
 Big:Qar
 Small:Qar
 Scale:Int
 Labels:List Int
 deriving DecidableEq
def Sim.c(x:Sim):List D:=[.sl false 2 (x.Big.Set.Glues.map Glue.c),.sl false 2 (x.Big.Set.Tiles.map Tile.c),.sl false 3 (x.Big.Seed.Tiles.map Qab.c),.int .i64 x.Big.Temperature,.sl false 2 (x.Small.Set.Glues.map Glue.c),.sl false 2 (x.Small.Set.Tiles.map Tile.c),.sl false 3 (x.Small.Seed.Tiles.map Qab.c),.int .i64 x.Small.Temperature,.int .i64 x.Scale,.sl false 1 (x.Labels.map intC)]
def Sim.d:List D->Option Sim
 |[.sl _ _ x0,.sl _ _ x1,.sl _ _ x2,.int .i64 x3,.sl _ _ x4,.sl _ _ x5,.sl _ _ x6,.int .i64 x7,.int .i64 x8,.sl _ _ x9]=>(decR Glue.d x0).bind fun y0=>(decR Tile.d x1).bind fun y1=>(decR Qab.d x2).bind fun y2=>(decR Glue.d x4).bind fun y4=>(decR Tile.d x5).bind fun y5=>(decR Qab.d x6).bind fun y6=>(decR intD x9).bind fun y9=>some ⟨⟨⟨y0,y1⟩,⟨y2⟩,x3⟩,⟨⟨y4,y5⟩,⟨y6⟩,x7⟩,x8,y9⟩
 |_=>none
theorem Sim.eta(x:Sim):(⟨x.Big,x.Small,x.Scale,x.Labels⟩:Sim)=x:=rfl
theorem Sim.len(x:Sim):(Sim.c x).length=10:=rfl
structure Bond where
 A:Int
 B:Int
 Strength:Int
 deriving DecidableEq
def Bond.c(x:Bond):List D:=[.int .i64 x.A,.int .i64 x.B,.int .i64 x.Strength]
def Bond.d:List D->Option Bond
 |[.int .i64 x0,.int .i64 x1,.int .i64 x2]=>some ⟨x0,x1,x2⟩
 |_=>none
theorem Bond.d_le: ∀ds x,Bond.d ds=some x->LeS ds (Bond.c x):=by
 intro ds x h;unfold Bond.d at h;split at h
 .simp only[Zae] at h;subst h;exact⟨Le.refl _,Le.refl _,Le.refl _,trivial⟩
 .cases h
theorem Bond.d_c(x:Bond):Bond.d (Bond.c x)=some x:=by
 simp only[Bond.c,Bond.d]
theorem Bond.d_R(l:List Bond):decR Bond.d (l.map Bond.c)=some l:=Qb4 Bond.d_c l
theorem Bond.eta(x:Bond):(⟨x.A,x.B,x.Strength⟩:Bond)=x:=rfl
theorem Bond.len(x:Bond):(Bond.c x).length=3:=rfl
theorem Qwu: ∀d x,vAgg Qae.d d=some x->d= .agg (Qae.c x):=by
 intro d x h;unfold vAgg at h;split at h
 .rename_i cs;unfold Qae.d at h;split at h
  .simp only[Zae] at h;subst h;rfl
  .cases h
 .cases h
def Qbe(p:Qae×Int):D×D:=(.agg (Qae.c p.1),.int .i64 p.2)
theorem Qmt(l:List (Qae×Int)):decM (vAgg Qae.d) vInt (l.map Qbe)=some l:=Qs4 (fun p=>⟨by simp[Qbe,vInt,vStr,vAgg,Qae.d_c],by simp[Qbe,vInt,vStr,vSl,vAgg]⟩) l
def Qbc(p:Qae×(List Int)):D×D:=(.agg (Qae.c p.1),.sl false 1 (p.2.map intC))
theorem Qk8(l:List (Qae×(List Int))):decM (vAgg Qae.d) (vSl intD) (l.map Qbc)=some l:=Qs4 (fun p=>⟨by simp[Qbc,vInt,vStr,vAgg,Qae.d_c],by simp[Qbc,vInt,vStr,vSl,vAgg,Qmp]⟩) l
structure Cry where
 Sys:Qar
 Tl:List (Qae×Int)
 Op:List (Qae×(List Int))
 deriving DecidableEq
def Cry.c(x:Cry):List D:=[.sl false 2 (x.Sys.Set.Glues.map Glue.c),.sl false 2 (x.Sys.Set.Tiles.map Tile.c),.sl false 3 (x.Sys.Seed.Tiles.map Qab.c),.int .i64 x.Sys.Temperature,.mp ⟨true,[.int .i64,.int .i64]⟩ (x.Tl.map Qbe),.mp ⟨true,[.int .i64,.int .i64]⟩ (x.Op.map Qbc)]
def Cry.d:List D->Option Cry
 |[.sl _ _ x0,.sl _ _ x1,.sl _ _ x2,.int .i64 x3,.mp ⟨true,[.int .i64,.int .i64]⟩ x4,.mp ⟨true,[.int .i64,.int .i64]⟩ x5]=>(decR Glue.d x0).bind fun y0=>(decR Tile.d x1).bind fun y1=>(decR Qab.d x2).bind fun y2=>(decM (vAgg Qae.d) vInt x4).bind fun y4=>(decM (vAgg Qae.d) (vSl intD) x5).bind fun y5=>some ⟨⟨⟨y0,y1⟩,⟨y2⟩,x3⟩,y4,y5⟩
 |_=>none
theorem Cry.d_le: ∀ds x,Cry.d ds=some x->LeS ds (Cry.c x):=by
 intro ds x h;unfold Cry.d at h;split at h
 .simp only[ZaM,Zae] at h;obtain⟨y0,h0,y1,h1,y2,h2,y4,h4,y5,h5,rfl⟩:=h;exact⟨Qbf (Qa2 Glue.d_le _ _ h0) (by simp[Glue.c]),Qbf (Qa2 Tile.d_le _ _ h1) (by simp[Tile.c]),Qbf (Qa2 Qab.d_le _ _ h2) (by simp[Qab.c]),Le.refl _,le_mp (Qxb Qwu Qa3 _ _ h4),le_mp (Qxb Qwu (vSl_le Qb3 (fun _=>rfl)) _ _ h5),trivial⟩
 .cases h
theorem Cry.eta(x:Cry):(⟨x.Sys,x.Tl,x.Op⟩:Cry)=x:=rfl
theorem Cry.len(x:Cry):(Cry.c x).length=6:=rfl
structure Net where
 Cnt:Int
 Bonds:List Bond
 At:List (List Int)
 Flow:List Int
 deriving DecidableEq
def Net.c(x:Net):List D:=[.int .i64 x.Cnt,.sl false 3 (x.Bonds.map Bond.c),.sl false 1 (x.At.map Qcd),.sl false 1 (x.Flow.map intC)]
def Net.d:List D->Option Net
 |[.int .i64 x0,.sl _ _ x1,.sl _ _ x2,.sl _ _ x3]=>(decR Bond.d x1).bind fun y1=>(decR Qpb x2).bind fun y2=>(decR intD x3).bind fun y3=>some ⟨x0,y1,y2,y3⟩
 |_=>none
theorem Net.d_le: ∀ds x,Net.d ds=some x->LeS ds (Net.c x):=by
 intro ds x h;unfold Net.d at h;split at h
 .simp only[ZaM,Zae] at h;obtain⟨y1,h1,y2,h2,y3,h3,rfl⟩:=h;exact⟨Le.refl _,Qbf (Qa2 Bond.d_le _ _ h1) (by simp[Bond.c]),Qbf (Qa2 Qj4 _ _ h2) (by simp[Qcd]),Qbf (Qa2 Qb3 _ _ h3) (by simp[intC]),trivial⟩
 .cases h
theorem Net.eta(x:Net):(⟨x.Cnt,x.Bonds,x.At,x.Flow⟩:Net)=x:=rfl
theorem Net.len(x:Net):(Net.c x).length=4:=rfl
structure Nwk where
 Room:List (List Int)
 Flow:List (List Int)
 deriving DecidableEq
def Nwk.c(x:Nwk):List D:=[.sl false 1 (x.Room.map Qcd),.sl false 1 (x.Flow.map Qcd)]
def Nwk.d:List D->Option Nwk
 |[.sl _ _ x0,.sl _ _ x1]=>(decR Qpb x0).bind fun y0=>(decR Qpb x1).bind fun y1=>some ⟨y0,y1⟩
 |_=>none
theorem Nwk.d_le: ∀ds x,Nwk.d ds=some x->LeS ds (Nwk.c x):=by
 intro ds x h;unfold Nwk.d at h;split at h
 .simp only[ZaM,Zae] at h;obtain⟨y0,h0,y1,h1,rfl⟩:=h;exact⟨Qbf (Qa2 Qj4 _ _ h0) (by simp[Qcd]),Qbf (Qa2 Qj4 _ _ h1) (by simp[Qcd]),trivial⟩
 .cases h
theorem Nwk.d_c(x:Nwk):Nwk.d (Nwk.c x)=some x:=by
 simp only[Nwk.c,Nwk.d,sintD_R,ZbK]
theorem Nwk.eta(x:Nwk):(⟨x.Room,x.Flow⟩:Nwk)=x:=rfl
theorem Nwk.len(x:Nwk):(Nwk.c x).length=2:=rfl
structure Qajo where
 Kind:Int
 Sequence:List Opt
 Other:List Opt
 Part:List Int
 Flows:List (List Int)
 deriving DecidableEq
def Qajo.c(x:Qajo):List D:=[.int .i64 x.Kind,.sl false 3 (x.Sequence.map Opt.c),.sl false 3 (x.Other.map Opt.c),.sl false 1 (x.Part.map intC),.sl false 1 (x.Flows.map Qcd)]
def Qajo.d:List D->Option Qajo
 |[.int .i64 x0,.sl _ _ x1,.sl _ _ x2,.sl _ _ x3,.sl _ _ x4]=>(decR Opt.d x1).bind fun y1=>(decR Opt.d x2).bind fun y2=>(decR intD x3).bind fun y3=>(decR Qpb x4).bind fun y4=>some ⟨x0,y1,y2,y3,y4⟩
 |_=>none
theorem Qajo.eta(x:Qajo):(⟨x.Kind,x.Sequence,x.Other,x.Part,x.Flows⟩:Qajo)=x:=rfl
theorem Qajo.len(x:Qajo):(Qajo.c x).length=5:=rfl
structure Frac where
 Num:Int
 Den:Int
 deriving DecidableEq
def Frac.c(x:Frac):List D:=[.int .i64 x.Num,.int .i64 x.Den]
def Frac.d:List D->Option Frac
 |[.int .i64 x0,.int .i64 x1]=>some ⟨x0,x1⟩
 |_=>none
theorem Frac.eta(x:Frac):(⟨x.Num,x.Den⟩:Frac)=x:=rfl
theorem Frac.len(x:Frac):(Frac.c x).length=2:=rfl
structure Pld where
 Sys:Qar
 Seq:List Opt
 End:Asm
 Inputs:List Int
 Strength:List Int
 deriving DecidableEq
def Pld.c(x:Pld):List D:=[.sl false 2 (x.Sys.Set.Glues.map Glue.c),.sl false 2 (x.Sys.Set.Tiles.map Tile.c),.sl false 3 (x.Sys.Seed.Tiles.map Qab.c),.int .i64 x.Sys.Temperature,.sl false 3 (x.Seq.map Opt.c),.sl false 3 (x.End.Tiles.map Qab.c),.sl false 1 (x.Inputs.map intC),.sl false 1 (x.Strength.map intC)]
def Pld.d:List D->Option Pld
 |[.sl _ _ x0,.sl _ _ x1,.sl _ _ x2,.int .i64 x3,.sl _ _ x4,.sl _ _ x5,.sl _ _ x6,.sl _ _ x7]=>(decR Glue.d x0).bind fun y0=>(decR Tile.d x1).bind fun y1=>(decR Qab.d x2).bind fun y2=>(decR Opt.d x4).bind fun y4=>(decR Qab.d x5).bind fun y5=>(decR intD x6).bind fun y6=>(decR intD x7).bind fun y7=>some ⟨⟨⟨y0,y1⟩,⟨y2⟩,x3⟩,y4,⟨y5⟩,y6,y7⟩
 |_=>none
theorem Pld.d_le: ∀ds x,Pld.d ds=some x->LeS ds (Pld.c x):=by
 intro ds x h;unfold Pld.d at h;split at h
 .simp only[ZaM,Zae] at h;obtain⟨y0,h0,y1,h1,y2,h2,y4,h4,y5,h5,y6,h6,y7,h7,rfl⟩:=h;exact⟨Qbf (Qa2 Glue.d_le _ _ h0) (by simp[Glue.c]),Qbf (Qa2 Tile.d_le _ _ h1) (by simp[Tile.c]),Qbf (Qa2 Qab.d_le _ _ h2) (by simp[Qab.c]),Le.refl _,Qbf (Qa2 Opt.d_le _ _ h4) (by simp[Opt.c]),Qbf (Qa2 Qab.d_le _ _ h5) (by simp[Qab.c]),Qbf (Qa2 Qb3 _ _ h6) (by simp[intC]),Qbf (Qa2 Qb3 _ _ h7) (by simp[intC]),trivial⟩
 .cases h
theorem Pld.d_c(x:Pld):Pld.d (Pld.c x)=some x:=by
 simp only[Pld.c,Pld.d,Glue.d_R,Opt.d_R,Qab.d_R,Tile.d_R,Qmp,ZbK]
theorem Pld.eta(x:Pld):(⟨x.Sys,x.Seq,x.End,x.Inputs,x.Strength⟩:Pld)=x:=rfl
theorem Pld.len(x:Pld):(Pld.c x).length=8:=rfl
end Go.Ae
