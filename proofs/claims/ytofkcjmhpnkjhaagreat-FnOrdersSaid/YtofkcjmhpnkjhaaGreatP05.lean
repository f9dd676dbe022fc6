/- Lemmas. Conditions: none. -/
import Derived.Test.YtofkcjmhpnkjhaaGreatP04
set_option linter.all false
set_option maxHeartbeats 8000000
set_option maxRecDepth 100000
namespace Go.Ae
def scL:List D->Bool
 |[]=>true
 |x::r=>x.sc && scL r
def frO(K:D->Prop):Option Ent->Prop
 |some (true,.arr _ k rows)=>OneR scL rows/\K (.sl false k rows)
 |_=>False
def frA(h:Nat->Option Ent)(K:D->Prop):AV->Prop
 | .im d=>d.scs=true/\K d
 | .own o=>frO K (h o)
 |_=>False
def frAL(h:Nat->Option Ent):List AV->(List D->Prop)->Prop
 |[],K=>K []
 |x::r,K=>frA h (fun d=>frAL h r fun ds=>K (d::ds)) x
def frB(h:Nat->Option Ent)(K:D->Prop):AV->Prop
 | .im d=>d.scs=true/\K d
 | .own o=>frO K (h o)
 | .agg cs=>frAL h cs fun ds=>K (.agg ds)
 |_=>False
def frBL(h:Nat->Option Ent):List AV->(List D->Prop)->Prop
 |[],K=>K []
 |x::r,K=>frB h (fun d=>frBL h r fun ds=>K (d::ds)) x
def frP(h:Nat->Option Ent)(K:D->Prop):AV->Prop
 | .im d=>d.scs=true/\K d
 | .own o=>frO K (h o)
 | .agg cs=>frAL h cs fun ds=>K (.agg ds)
 | .tup cs=>frBL h cs fun ds=>K (.tup ds)
 |_=>False
def retF1(R:D->Prop)(s:Qad):Option (List AV)->Prop
 |some xs=>frP (hget s.h) R (resV xs)
 |none=>False
def retF(P:Program)(rs:List ResultVar)(R:D->Prop)(s:Qad):Prop:=retF1 R s (mapO (Qj3 P s) rs)
def Qxj(P:Program)(rs:List ResultVar)(R:D->Prop):Qbl
 | .normal,s=>retF P rs R s
 | .ret,s=>retF P rs R s
 | .exit _,_=>False
theorem scL_all: ∀(r:List D),scL r=true->r.all D.sc=true
 |[],_=>rfl
 |x::r,h=>by
  simp only[scL,Zah] at h;simp[h.1,scL_all r h.2]
theorem rdp_sc{ok ok':Nat->Prop}{hp hp':Nat->Option Obj}: ∀(ds:List D) (vs:List Value),ds.all D.sc=true->rdp ok hp ds vs->rdp ok' hp' ds vs
 |[],_,_,_=>by simp only[rdp]
 |d::ds,vs,h,hd=>by
  simp only[rdp,ZcA,Zah] at hd h⊢;obtain⟨v,r,rfl,h1,h2⟩:=hd;exact⟨v,r,rfl,rd_sc h.1 h1,rdp_sc ds r h.2 h2⟩
theorem rdr_sc{ok ok':Nat->Prop}{hp hp':Nat->Option Obj}{k:Nat}: ∀(rs:List (List D)) (vs:List Value),OneR scL rs->rdr ok hp k rs vs->rdr ok' hp' k rs vs
 |[],_,_,_=>by simp only[rdr]
 |r::rs,vs,h,hd=>by
  simp only[rdr] at hd⊢;exact⟨hd.1,rdp_sc r vs (scL_all r (h r (Zat ..))) hd.2.1,rdr_sc rs _ (fun x hx=>h x (Zas _ hx)) hd.2.2⟩
section
variable {C:Ctx}{S:Env}
def okF(C:Ctx)(S:Env)(b:Nat):Prop:=C.w.heap.size<=b/\b<S.w.heap.size/\ ¬S.ok b
theorem Qzs(hM: ∀b,¬C.M b)(hW:Wf C S){K:D->Prop}{o:Nat}{v:Value}(hk:frO K (S.h o))(hc:conc S (.own o) v): ∃d,K d/\rd (okF C S) S.hp d v:=by
 cases he:S.h o with
 |none=>rw[he] at hk;exact hk.elim
 |some e=>
  obtain⟨mu,e⟩:=e;rw[he] at hk;cases mu with
  |false=>cases e<;>exact hk.elim
  |true=>
  cases e with
  |arr T k rows=>
   simp only[frO] at hk;refine⟨_,hk.2,?_⟩;have hob:=hW.obj o _ he;simp only[conc] at hc;obtain⟨_,hc⟩:=hc;have hc:=hc _ he;simp only[objc] at hob;cases hl:S.ρ o with
   |none=>
    rw[hl] at hc hob;simp only[rd];exact .inl ⟨.inl hc,hob.2⟩
   |some l=>
    rw[hl] at hc hob;obtain⟨h0,h1,vs,h2,h3,h4⟩:=hob;obtain⟨q1,q2⟩:=hW.loc o _ l he hl;simp only[ZaQ] at q2;simp only[rd];refine .inr ⟨l.b,l.p,l.cap,vs,T,(0,0),hc,by simp,h1,h0,⟨?_,q1,q2.1⟩,h2,rdr_sc rows _ hk.1 h4⟩;rcases q2.2 with h|h
    .exact h
    .exact absurd h (hM _)
  |_=>exact hk.elim
theorem frA_spec(hM: ∀b,¬C.M b)(hW:Wf C S){K:D->Prop}{x:AV}{v:Value}(hk:frA S.h K x)(hc:conc S x v): ∃d,K d/\rd (okF C S) S.hp d v:=by
 cases x with
 |im d=>
  simp only[frA] at hk;simp only[conc] at hc;exact⟨d,hk.2,rd_scs hk.1 hc⟩
 |own o=>
  simp only[frA] at hk;exact Qzs hM hW hk hc
 |_=>exact hk.elim
theorem Qvx(hM: ∀b,¬C.M b)(hW:Wf C S): ∀(xs:List AV) (K:List D->Prop) (vs:List Value),frAL S.h xs K->Qa0 S xs vs-> ∃ds,K ds/\rdl (okF C S) S.hp ds vs
 |[],K,vs,hk,hc=>by
  simp only[frAL] at hk;simp only[Qa0] at hc;exact⟨[],hk,by simp only[rdl];exact hc⟩
 |x::xs,K,vs,hk,hc=>by
  simp only[frAL] at hk;simp only[Qa0] at hc;obtain⟨v,r,rfl,h1,h2⟩:=hc;obtain⟨d,h3,h4⟩:=frA_spec hM hW hk h1;obtain⟨ds,h5,h6⟩:=Qvx hM hW xs _ r h3 h2;exact⟨d::ds,h5,by simp only[rdl];exact⟨v,r,rfl,h4,h6⟩⟩
theorem Qm1(hM: ∀b,¬C.M b)(hW:Wf C S){K:D->Prop}{x:AV}{v:Value}(hk:frB S.h K x)(hc:conc S x v): ∃d,K d/\rd (okF C S) S.hp d v:=by
 cases x with
 |im d=>
  simp only[frB] at hk;simp only[conc] at hc;exact⟨d,hk.2,rd_scs hk.1 hc⟩
 |own o=>
  simp only[frB] at hk;exact Qzs hM hW hk hc
 |agg cs=>
  simp only[frB] at hk;simp only[conc] at hc;obtain⟨vs,rfl,h1⟩:=hc;obtain⟨ds,h2,h3⟩:=Qvx hM hW cs _ _ hk h1;exact⟨_,h2,by simp only[rd];exact⟨vs,rfl,h3⟩⟩
 |_=>exact hk.elim
theorem Qvn(hM: ∀b,¬C.M b)(hW:Wf C S): ∀(xs:List AV) (K:List D->Prop) (vs:List Value),frBL S.h xs K->Qa0 S xs vs-> ∃ds,K ds/\rdl (okF C S) S.hp ds vs
 |[],K,vs,hk,hc=>by
  simp only[frBL] at hk;simp only[Qa0] at hc;exact⟨[],hk,by simp only[rdl];exact hc⟩
 |x::xs,K,vs,hk,hc=>by
  simp only[frBL] at hk;simp only[Qa0] at hc;obtain⟨v,r,rfl,h1,h2⟩:=hc;obtain⟨d,h3,h4⟩:=Qm1 hM hW hk h1;obtain⟨ds,h5,h6⟩:=Qvn hM hW xs _ r h3 h2;exact⟨d::ds,h5,by simp only[rdl];exact⟨v,r,rfl,h4,h6⟩⟩
theorem Qzf(hM: ∀b,¬C.M b)(hW:Wf C S){K:D->Prop}{x:AV}{v:Value}(hk:frP S.h K x)(hc:conc S x v): ∃d,K d/\rd (okF C S) S.hp d v:=by
 cases x with
 |tup cs=>
  simp only[frP] at hk;simp only[conc] at hc;obtain⟨vs,rfl,h1⟩:=hc;obtain⟨ds,h2,h3⟩:=Qvn hM hW cs _ _ hk h1;exact⟨_,h2,by simp only[rd];exact⟨vs,rfl,h3⟩⟩
 |im d=>exact Qm1 (x:= .im d) hM hW (by simpa only[frP,frB] using hk) hc
 |own o=>exact Qm1 (x:= .own o) hM hW (by simpa only[frP,frB] using hk) hc
 |agg cs=>exact Qm1 (x:= .agg cs) hM hW (by simpa only[frP,frB] using hk) hc
 |_=>exact hk.elim
end
def Qwz(f:AV->Option D):Option Ent->Option D
 |some (_,.arr _ k rows)=>some (.sl false k rows)
 |some (_,.arrA _ k rows)=>(mapO (mapO f) rows).map (.sl false k)
 |_=>none
def bkMap:Option Ent->Option D
 |some (_,.map kt es)=>some (.mp kt es)
 |_=>none
def Qu4(f:AV->Option D)(off:Nat):Option Ent->Option (List D)
 |some (_,.cells _ cs)=>mapO f (cs.drop off)
 |some (_,.view cs)=>some (cs.drop off)
 |_=>none
def bkFn(g:FuncId):Option (List D)->Option (List D)->Option D
 |some a,some c=>some (.fn g a c)
 |some _,none=>none
 |none,_=>none
def bk(h:Nat->Option Ent):Nat->AV->Option D
 |0,_=>none
 |_+1,.im d=>some d
 |n+1,.agg cs=>(mapO (bk h n) cs).map .agg
 |n+1,.tup cs=>(mapO (bk h n) cs).map .tup
 |n+1,.own o=>Qwz (bk h n) (h o)
 |_+1,.mp o=>bkMap (h o)
 |n+1,.ptr o off=>(Qu4 (bk h n) off (h o)).map .ref
 |n+1,.clo f a c=>bkFn f (mapO (bk h n) a) (mapO (bk h n) c)
 |_+1,.any=>none
 |_+1,.eptr _ _ _=>none
 |_+1,.ch _=>none
 |_+1,.it _=>none
 |_+1,.osl _ _ _=>none
def pkFP(ds:Option (List D)):Option PK:=ds.map .ptr
def pkFV(d:Option D):Option PK:=d.map .val
def pkF(h:Nat->Option Ent):AV->Option PK
 | .im d=>some (pkI d)
 | .ptr o off=>pkFP (Qu4 (bk h 8) off (h o))
 | .own o=>pkFV (bk h 9 (.own o))
 | .mp o=>pkFV (bk h 9 (.mp o))
 | .agg cs=>pkFV (bk h 9 (.agg cs))
 | .tup cs=>pkFV (bk h 9 (.tup cs))
 | .clo f a c=>pkFV (bk h 9 (.clo f a c))
 | .any=>none
 | .eptr _ _ _=>none
 | .ch _=>none
 | .it _=>none
 | .osl _ _ _=>none
def Qabo:Option PK->Option (List PK)->Option (List PK)
 |some p,some ps=>some (p::ps)
 |some _,none=>none
 |none,_=>none
def pkFL(h:Nat->Option Ent):List AV->Option (List PK)
 |[]=>some []
 |x::r=>Qabo (pkF h x) (pkFL h r)
def rchE(f:AV->List Nat):Option Ent->List Nat
 |some (_,.cells _ cs)=>cs.flatMap f
 |some (_,.arrA _ _ rows)=>rows.flatMap fun r=>r.flatMap f
 |_=>[]
def rch(h:Nat->Option Ent):Nat->AV->List Nat
 |0,_=>[]
 |n+1,.agg cs=>cs.flatMap (rch h n)
 |n+1,.tup cs=>cs.flatMap (rch h n)
 |n+1,.own o=>o::rchE (rch h n) (h o)
 |_+1,.mp o=>[o]
 |n+1,.ptr o _=>o::rchE (rch h n) (h o)
 |n+1,.clo _ a c=>a.flatMap (rch h n)++c.flatMap (rch h n)
 |_+1,_=>[]
def rchL(h:Nat->Option Ent)(xs:List AV):List Nat:=xs.flatMap (rch h 9)
def Env.froz(S:Env):Env:=⟨S.ρ,fun b=>S.ok b\/ ∃o e l,S.h o=some e/\S.ρ o=some l/\l.b=b,fun o=>(S.h o).map fun e=>(false,e.2),S.w⟩
theorem Qht{S:Env}{o:Nat}{e':Ent}(h:S.froz.h o=some e'): ∃e,S.h o=some e/\e'=(false,e.2):=by
 simp only[Env.froz,Zay] at h;obtain⟨e,h1,rfl⟩:=h;exact⟨e,h1,rfl⟩
theorem Qgw(S:Env):Pres (fun _=>True) S S.froz:=by
 refine⟨fun b hb=>⟨.inl hb,rfl⟩,fun o _ e' he'=> ?_⟩;obtain⟨e,h1,rfl⟩:=Qht he';exact⟨e,h1,rfl,rfl,rfl⟩
def frozC(S:Env):Ctx:=⟨S.w,fun _=>False,S.froz.ok,0,fun _=>none,fun _=>none,[]⟩
theorem Qxy{C:Ctx}{S:Env}(hW:Wf C S):Wf (frozC S) S.froz:=by
 refine⟨rfl,rfl,rfl,Zap _,fun _ _ _=>rfl,fun _ hb=>hb,fun _ hb=> .inl hb,?_,?_,?_,?_,hW.gp.mono fun b o hb ho=>⟨⟨.inl hb,fun h=>h.elim⟩,ho⟩⟩
 .rintro b (hb|⟨o,e,l,h1,h2,rfl⟩)
  .exact hW.oks b hb
  .exact (hW.loc o e l h1 h2).1
 .intro o e' he';obtain⟨e,h1,rfl⟩:=Qht he';exact Qbr (Qgw S) (fun _ _=>rfl) _ (fun _ _=>trivial) (hW.obj o e h1)
 .intro o e' l he' hl;obtain⟨e,h1,rfl⟩:=Qht he';exact⟨(hW.loc o e l h1 hl).1,.inl (.inr ⟨o,e,l,h1,hl,rfl⟩)⟩
 .intro o o' e e' l l' he he' _ _ _ hf;obtain⟨x,_,rfl⟩:=Qht he;obtain⟨x',_,rfl⟩:=Qht he';simp at hf
section
variable {C:Ctx}{S:Env}{h:Nat->Option Ent}
theorem Qql(hW:Wf C S){f:AV->Option D}{g:AV->List Nat}(hf: ∀x d v,(∀m∈g x,S.h m=h m)->f x=some d->conc S x v->rd S.froz.ok S.froz.hp d v)
 {o off:Nat}{ds:List D}{v:Value}(h1:S.h o=h o)(hg: ∀m∈rchE g (h o),S.h m=h m)(hd:Qu4 f off (h o)=some ds)(hc:conc S (.ptr o off) v):
 ∃b p vs T fr,v= .pointer (some ⟨b,p,none⟩)/\S.froz.ok b/\S.froz.hp b=some (.cells vs T fr)/\rdp S.froz.ok S.froz.hp ds (vs.toList.drop p):=by
 have hL: ∀(cs:List AV) (ds:List D) (vs:List Value),(∀m∈cs.flatMap g,S.h m=h m)->mapO f cs=some ds->Qbv S cs vs->rdp S.froz.ok S.froz.hp ds vs:=by
  intro cs;induction cs with
  |nil=>
   intro ds vs _ hd _;simp only[mapO,Zae] at hd;subst hd;simp only[rdp]
  |cons x cs ih=>
   intro ds vs hh hd hc;simp only[mapO] at hd;simp only[Qbv] at hc;obtain⟨v,r,rfl,h1,h2⟩:=hc;split at hd
   .rename_i y ys hy hys;obtain rfl:=Zac hd;simp only[rdp];exact⟨v,r,rfl,hf x y v (fun m hm=>hh m (by rw[ZbN];exact Zbl _ hm)) hy h1,ih ys r (fun m hm=>hh m (by rw[ZbN];exact ZbD _ hm)) hys h2⟩
   .cases hd
 simp only[conc] at hc;obtain⟨_,hc⟩:=hc;rw[<-h1] at hd hg;cases he:S.h o with
 |none=>rw[he] at hd;cases hd
 |some e=>
  obtain⟨l,hl,rfl⟩:=hc e he;have hok:S.froz.ok l.b:= .inr ⟨o,e,l,he,hl,rfl⟩;obtain⟨mu,e⟩:=e;rw[he] at hd hg;have hob:=hW.obj o _ he;rw[hl] at hob;cases e with
  |cells T cs=>
   simp only[Qu4] at hd;simp only[objc] at hob;obtain⟨lc,vs,h3,h4,h5,h6⟩:=hob;cases h3;refine⟨l.b,l.p+off,vs,T,(0,0),rfl,hok,h5,?_⟩;rw[h4,ZbR];simp only[rchE] at hg;rcases Nat.le_total off cs.length with h7|h7
   .refine hL _ _ _ (fun m hm=>hg m ?_) hd (Qex off cs _ (Qci _ _ h6) h7);obtain⟨x,k1,k2⟩:=ZeN.1 hm;exact ZeN.2 ⟨x,Zfd k1,k2⟩
   .rw[Zax h7] at hd;simp only[mapO,Zae] at hd;subst hd;simp only[rdp]
  |view cs=>
   simp only[Qu4,Zae] at hd;subst hd;simp only[objc] at hob;obtain⟨lc,vs,T,fr,h3,h5,h6⟩:=hob;cases h3;refine⟨l.b,l.p+off,vs,T,fr,rfl,hok,h5,?_⟩;have h7:=Qfm (Qgw S).ok _ _ h6;rw[<-Zbh];rcases Nat.le_total off cs.length with h|h
   .exact Qea off cs _ h7 h
   .rw[Zax h];simp only[rdp]
  |_=>cases hd
theorem bk_rd(hW:Wf C S): ∀(n:Nat) (x:AV) (d:D) (v:Value),(∀m∈rch h n x,S.h m=h m)->bk h n x=some d->conc S x v->rd S.froz.ok S.froz.hp d v:=by
 intro n;induction n with
 |zero=>intro x d v _ hd;simp[bk] at hd
 |succ n ih=>
  have hl: ∀(cs:List AV) (ds:List D) (vs:List Value),(∀m∈cs.flatMap (rch h n),S.h m=h m)->mapO (bk h n) cs=some ds->Qa0 S cs vs->rdl S.froz.ok S.froz.hp ds vs:=by
   intro cs;induction cs with
   |nil=>
    intro ds vs _ hd hc;simp only[mapO,Zae] at hd;subst hd;simpa only[Qa0,rdl] using hc
   |cons x cs ih2=>
    intro ds vs hh hd hc;simp only[mapO] at hd;simp only[Qa0] at hc;obtain⟨v,r,rfl,h1,h2⟩:=hc;split at hd
    .rename_i y ys hy hys;obtain rfl:=Zac hd;simp only[rdl];exact⟨v,r,rfl,ih x y v (fun m hm=>hh m (by rw[ZbN];exact Zbl _ hm)) hy h1,ih2 ys r (fun m hm=>hh m (by rw[ZbN];exact ZbD _ hm)) hys h2⟩
    .cases hd
  have hp: ∀(cs:List AV) (ds:List D) (vs:List Value),(∀m∈cs.flatMap (rch h n),S.h m=h m)->mapO (bk h n) cs=some ds->Qbv S cs vs->rdp S.froz.ok S.froz.hp ds vs:=by
   intro cs;induction cs with
   |nil=>
    intro ds vs _ hd hc;simp only[mapO,Zae] at hd;subst hd;simp only[rdp]
   |cons x cs ih2=>
    intro ds vs hh hd hc;simp only[mapO] at hd;simp only[Qbv] at hc;obtain⟨v,r,rfl,h1,h2⟩:=hc;split at hd
    .rename_i y ys hy hys;obtain rfl:=Zac hd;simp only[rdp];exact⟨v,r,rfl,ih x y v (fun m hm=>hh m (by rw[ZbN];exact Zbl _ hm)) hy h1,ih2 ys r (fun m hm=>hh m (by rw[ZbN];exact ZbD _ hm)) hys h2⟩
    .cases hd
  have hr: ∀(k:Nat) (rs:List (List AV)) (ds:List (List D)) (vs:List Value),(∀m∈rs.flatMap (fun r=>r.flatMap (rch h n)),S.h m=h m)->mapO (mapO (bk h n)) rs=some ds->Qbb S k rs vs->rdr S.froz.ok S.froz.hp k ds vs/\ds.length=rs.length:=by
   intro k rs;induction rs with
   |nil=>
    intro ds vs _ hd _;simp only[mapO,Zae] at hd;subst hd;exact⟨by simp only[rdr],rfl⟩
   |cons x rs ih2=>
    intro ds vs hh hd hc;simp only[mapO] at hd;simp only[Qbb] at hc;split at hd
    .rename_i y ys hy hys;obtain rfl:=Zac hd;obtain⟨k1,k2⟩:=ih2 ys _ (fun m hm=>hh m (by rw[ZbN];exact ZbD _ hm)) hys hc.2.2;refine⟨?_,by simp[k2]⟩;simp only[rdr];exact⟨(Qg7 _ _ hy).trans hc.1,hp x y _ (fun m hm=>hh m (by rw[ZbN];exact Zbl _ hm)) hy hc.2.1,k1⟩
    .cases hd
  intro x d v hh hd hc;cases x with
  |im d'=>
   simp only[bk,Zae] at hd;subst hd;simp only[conc] at hc;exact Qb8 (Qgw S).ok _ _ hc
  |agg cs=>
   simp only[bk,Zay] at hd;obtain⟨ds,h1,rfl⟩:=hd;simp only[conc] at hc;obtain⟨vs,rfl,h2⟩:=hc;simp only[rd];exact⟨vs,rfl,hl cs ds _ hh h1 h2⟩
  |tup cs=>
   simp only[bk,Zay] at hd;obtain⟨ds,h1,rfl⟩:=hd;simp only[conc] at hc;obtain⟨vs,rfl,h2⟩:=hc;simp only[rd];exact⟨vs,rfl,hl cs ds _ hh h1 h2⟩
  |own o=>
   simp only[rch,Zaw] at hh;have h1:=hh o (.inl rfl);simp only[bk] at hd;simp only[conc] at hc;rw[<-h1] at hd hh;cases he:S.h o with
   |none=>rw[he] at hd;cases hd
   |some e=>
    have hc:=hc.2 e he;have hob:=hW.obj o _ he;obtain⟨mu,e⟩:=e;rw[he] at hd hh;have hok: ∀l,S.ρ o=some l->S.froz.ok l.b:=fun l hl=> .inr ⟨o,_,l,he,hl,rfl⟩
    have hpm:=Qgw S;cases e with
    |arr T k rows=>
     simp only[Qwz,Zae] at hd;subst hd;simp only[objc] at hob;simp only[rd];cases hl:S.ρ o with
     |none=>rw[hl] at hc hob;exact .inl ⟨.inl hc,hob.2⟩
     |some l=>
      rw[hl] at hc hob;obtain⟨h0,h2,vs,h3,h4,h5⟩:=hob;exact .inr ⟨l.b,l.p,l.cap,vs,T,(0,0),hc,by simp,h2,h0,hok l hl,h3,Qfu hpm.ok _ _ _ h5⟩
    |arrA T k rows=>
     simp only[Qwz,Zay] at hd;obtain⟨ds,hd,rfl⟩:=hd;simp only[objc] at hob;simp only[rd];have hlen:=Qg7 _ _ hd;cases hl:S.ρ o with
     |none=>
      rw[hl] at hc hob;obtain⟨_,hob⟩:=hob;subst hob;exact .inl ⟨.inl hc,Zcy (by simpa using hlen)⟩
     |some l=>
      rw[hl] at hc hob;obtain⟨h0,h2,vs,h3,h4,h5⟩:=hob;obtain⟨k1,k2⟩:=hr k rows ds _ (fun m hm=>hh m (.inr (by simpa only[rchE] using hm))) hd h5;simp only[AObj.len] at hc;exact .inr ⟨l.b,l.p,l.cap,vs,T,(0,0),by rw[hlen];exact hc,by simp,by rw[hlen];exact h2,by rw[hlen];exact h0,hok l hl,h3,k1⟩
    |_=>cases hd
  |mp o=>
   have h1:=hh o (by simp[rch]);simp only[bk] at hd;simp only[conc] at hc;rw[<-h1] at hd;cases he:S.h o with
   |none=>rw[he] at hd;cases hd
   |some e=>
    obtain⟨l,hl,rfl⟩:=hc.2 e he;have hob:=hW.obj o _ he;obtain⟨mu,e⟩:=e;rw[he] at hd;cases e with
    |map kt es=>
     simp only[bkMap,Zae] at hd;subst hd;rw[hl] at hob;simp only[objc] at hob;obtain⟨lc,ents,clock,h2,h3,h4,h5,h6⟩:=hob;cases h2;simp only[rd];exact⟨l.b,ents,clock,rfl,h3,.inr ⟨o,_,l,he,hl,rfl⟩,h4,Qc6 (Qgw S).ok _ _ h5,h6⟩
    |_=>cases hd
  |ptr o off=>
   simp only[rch,Zaw] at hh;simp only[bk,Zay] at hd;obtain⟨ds,hd,rfl⟩:=hd;simp only[rd];exact Qql hW (g:=rch h n) (fun x d v h1 h2 h3=>ih x d v h1 h2 h3) (hh o (.inl rfl)) (fun m hm=>hh m (.inr hm)) hd hc
  |clo f a c=>
   simp only[rch,Zan] at hh;simp only[bk] at hd;cases ha:mapO (bk h n) a with
   |none=>rw[ha] at hd;cases hd
   |some da=>
    cases hcc:mapO (bk h n) c with
    |none=>rw[ha,hcc] at hd;cases hd
    |some dc=>
     rw[ha,hcc] at hd;simp only[bkFn,Zae] at hd;subst hd;simp only[conc] at hc;obtain⟨va,vc,rfl,h3,h4⟩:=hc;simp only[rd];exact⟨va,vc,rfl,hl a da _ (fun m hm=>hh m (.inl hm)) ha h3,hl c dc _ (fun m hm=>hh m (.inr hm)) hcc h4⟩
  |_=>simp[bk] at hd
theorem Qii(hW:Wf C S){x:AV}{p:PK}{v:Value}(hh: ∀m∈rch h 9 x,S.h m=h m)(hp:pkFV (bk h 9 x)=some p)(hc:conc S x v):PKc S.froz p v:=by
 simp only[pkFV,Zay] at hp;obtain⟨d,h1,rfl⟩:=hp;simp only[PKc];exact bk_rd hW 9 x d v hh h1 hc
theorem pkF_spec(hW:Wf C S){x:AV}{p:PK}{v:Value}(hh: ∀m∈rch h 9 x,S.h m=h m)(hp:pkF h x=some p)(hc:conc S x v):PKc S.froz p v:=by
 cases x with
 |im d=>
  simp only[pkF,Zae] at hp;subst hp;simp only[conc] at hc;exact Qyv (Qxy hW) (Qb8 (Qgw S).ok d v hc)
 |ptr o off=>
  simp only[rch,Zaw] at hh;simp only[pkF,pkFP,Zay] at hp;obtain⟨ds,h1,rfl⟩:=hp;obtain⟨b,q,vs,T,fr,h2,h3,h4,h5⟩:=Qql hW (g:=rch h 8) (fun x d v h1 h2 h3=>bk_rd hW 8 x d v h1 h2 h3) (hh o (.inl rfl)) (fun m hm=>hh m (.inr hm)) h1 hc;simp only[PKc];exact⟨b,q,vs,T,fr,h2,(Qxy hW).oks b h3,h4,h5⟩
 |own o=>exact Qii hW hh hp hc
 |mp o=>exact Qii hW hh hp hc
 |agg cs=>exact Qii hW hh hp hc
 |tup cs=>exact Qii hW hh hp hc
 |clo f a c=>exact Qii hW hh hp hc
 |_=>cases hp
theorem Qtx(hW:Wf C S): ∀(xs:List AV) (ps:List PK) (vs:List Value),(∀m∈rchL h xs,S.h m=h m)->pkFL h xs=some ps->Qa0 S xs vs->PKL S.froz ps vs
 |[],ps,vs,_,hp,hc=>by
  simp only[pkFL,Zae] at hp;subst hp;simp only[Qa0] at hc;simp only[PKL];exact hc
 |x::xs,ps,vs,hh,hp,hc=>by
  simp only[pkFL] at hp;simp only[Qa0] at hc;obtain⟨v,r,rfl,h1,h2⟩:=hc;cases hx:pkF h x with
  |none=>rw[hx] at hp;cases hp
  |some p=>
   cases hr:pkFL h xs with
   |none=>rw[hx,hr] at hp;cases hp
   |some qs=>
    rw[hx,hr] at hp;simp only[Qabo,Zae] at hp;subst hp;simp only[PKL];refine⟨v,r,rfl,pkF_spec hW (fun m hm=>hh m ?_) hx h1,Qtx hW xs qs r (fun m hm=>hh m ?_) hr h2⟩
    .simp only[rchL,ZbN];exact Zbl _ hm
    .simp only[rchL,ZbN];exact ZbD _ hm
end
theorem view_runF{P:Program}(HM:P.follows .mixedOrders=true){V:Qbh}(hV:Qkj P V){g:FuncId}{fn:Func}{c:Code}(hf:P.funcs[g]? =some fn)(hb:fn.body=some c)(hchk:chk fn.ntmps c=true)
 {ps:List PK}(hlen:ps.length<=fn.ntmps){R:D->Prop}
 (hk:awp P V c (Qxj P fn.results.toList R) ⟨entry 0 (Qcq 0 ps),Qc5 0 ps,cnum ps⟩)
 {C:Ctx}{S:Env}{vs:Array Value}{RR:Ending->World->Prop}(hW:Wf C S)(hps:PKL S ps vs.toList)
 (hfin: ∀(v:Value) (C0:Ctx) (S1:Env) (d:D),C0.w=S.w->C0.ok=S.ok->(∀b,¬C0.M b)->Wf C0 S1->R d->rd (okF C0 S1) S1.hp d v->RR (.returned v) S1.w):Calls P g vs S.w RR:=by
 refine calls_of_wp hf hb ?_;have hvs:vs.size=(Qcq 0 ps).length:=by rw[Qee];simpa using hps.len
 obtain⟨ls,hls,hcl⟩:=Qob ps vs.toList 0 hps
 let S0:Env:=⟨ls,S.ok,hget (Qc5 0 ps),S.w⟩
 let C0:Ctx:=⟨S.w,fun _=>False,S.ok,0,fun _=>none,fun _=>none,[]⟩
 have hW0:Wf C0 S0:=by
  refine⟨rfl,rfl,rfl,Zap _,fun _ _ _=>rfl,fun _ hb=>hb,fun _ hb=> .inl hb,hW.oks,?_,?_,?_,hW.glN fun _ h=>h.elim⟩
  .intro n e he;obtain⟨l,h1,_,h3⟩:=hls n e he;have h4:S0.ρ n=some l:=h1;rw[h4];obtain⟨_,cs,rfl⟩:=Qbm 0 ps n e he;simp only[objc] at h3⊢;exact h3
  .intro n e l he hl;obtain⟨l',h1,h2,h3⟩:=hls n e he;have h4:S0.ρ n=some l':=h1;rw[h4] at hl;obtain rfl:=Zac hl;obtain⟨_,cs,rfl⟩:=Qbm 0 ps n e he;exact⟨h2,.inr rfl⟩
  .intro n n' e e' l l' he he' hl hl' hbb hfl;obtain⟨_,cs,rfl⟩:=Qbm 0 ps n e he;obtain⟨_,cs',rfl⟩:=Qbm 0 ps n' e' he';simp at hfl
 have hc0:Con C0 fn.ntmps ⟨entry 0 (Qcq 0 ps),Qc5 0 ps,cnum ps⟩ {tmps:=vs++Array.replicate (fn.ntmps - vs.size) undef,defers:=[]} S.w:=by
  have hargs0:Qa0 S0 (Qcq 0 ps) vs.toList:=hcl S0 rfl rfl (fun n _=>⟨rfl,rfl⟩);refine⟨S0,rfl,hW0,fun n=>rfl,?_,?_,?_,by simp;rw[Qee] at hvs;omega,rfl,ZaU _,fun o ho=>absurd ho (ZdO _)⟩
  .intro t;have h1:=Qev (S:=S0) (Qcq 0 ps) vs.toList 0 t hargs0;simp only[ZaU,ZaQ,ZdJ] at h1
   have:({tmps:=vs++Array.replicate (fn.ntmps - vs.size) undef,defers:=[]}:Act).eval (.tmp t)=(vs.toList[t]?).getD undef:=by
    simp only[Act.eval,ZaR,Zdc,Zcm];by_cases ht:t<vs.size
    .simp[ht]
    .simp only[ht,Zby]
     have:vs[t]? =none:=Zcd (by omega)
     simp only[Zbe,this]
     split<;>rfl
   rw[this];exact h1
  .intro t m hm;exact Qic 0 ps (cnum ps) (by omega) m (Qgh (Qcq 0 ps) 0 t m hm)
  .intro n e he;obtain⟨h1,cs,rfl⟩:=Qbm 0 ps n e he;exact⟨by show n<cnum ps;omega,by simp[AObj.nms]⟩
 refine wp_mono (Qo4 HM (Qvp hV) c hchk _ _ _ _ hk hc0) ?_;have fin: ∀(s:Qad) (a:Act) (w:World),retF P fn.results.toList R s->Con C0 fn.ntmps s a w->a.defers=[]/\ ∃v,(results fn a.tmps).run P w= .ok v w/\RR (.returned v) w:=by
  rintro s a w hr ⟨S1,rfl,hc⟩;unfold retF at hr;cases hxs:mapO (Qj3 P s) fn.results.toList with
  |none=>rw[hxs] at hr;exact hr.elim
  |some xs=>
   rw[hxs] at hr;simp only[retF1] at hr;obtain⟨v,hrun,hconc⟩:=Qe7 hc hxs;refine⟨hc.defers,v,hrun,?_⟩;have hSh:hget s.h=S1.h:=(funext hc.h).symm;rw[hSh] at hr;obtain⟨d,h1,h2⟩:=Qzf (fun _ h=>h) hc.wf hr hconc;exact hfin v C0 S1 d rfl rfl (fun _ h=>h) hc.wf h1 h2
 intro e a w he;cases e<;>simp only[toQ] at he<;>simp only[bodyPost]
 .obtain⟨s,hs,hc⟩:=he;exact fin s a w hs hc
 .obtain⟨s,hs,_⟩:=he;exact hs.elim
 .obtain⟨s,hs,hc⟩:=he;exact fin s a w hs hc
def Qct{A:Type}(ar:List PK->Option A)(pre:A->Prop)(re:A->D)(u:List Nat)(K:Kont):Option (List PK)->Prop
 |some ps=>decK (fun a=>pre a/\K (.im (re a)) {use:=u}) (ar ps)
 |none=>False
def Qfi{A:Type}(ar:List PK->Option A)(pre:A->Prop)(re:A->D):Row:=fun args h _ K=>Qct ar pre re (rchL h args) K (pkFL h args)
def decD{B:Type}(rc:D->Option B)(b:B)(d:D):Prop:=rc d=some b
theorem Quy{P:Program}{g:FuncId}(hcal:calb P g=true)
 {A B:Type}{ar:List PK->Option A}{ae:A->List PK}(hle: ∀ps a,ar ps=some a->LeKL ps (ae a)){rc:D->Option B}{re:B->D}(hrc: ∀d b,rc d=some b->Le d (re b))
 {pre:A->Prop}{f:A->B}
 (hrun: ∀a,pre a-> ∀{C:Ctx} {S:Env} {vs:Array Value} {RR:Ending->World->Prop},Wf C S->PKL S (ae a) vs.toList->
  (∀(v:Value) (C0:Ctx) (S1:Env) (d:D),C0.w=S.w->C0.ok=S.ok->(∀b,¬C0.M b)->Wf C0 S1->decD rc (f a) d->rd (okF C0 S1) S1.hp d v->RR (.returned v) S1.w)->Calls P g vs S.w RR):
 Qas P g (Qfi ar pre fun a=>re (f a)):=by
 intro args h nx K hrow;unfold Qfi at hrow;cases hp:pkFL h args with
 |none=>rw[hp] at hrow;exact hrow.elim
 |some ps=>
  rw[hp] at hrow;simp only[Qct] at hrow;cases ha:ar ps with
  |none=>rw[ha] at hrow;exact hrow.elim
  |some a=>
   rw[ha] at hrow;simp only[decK] at hrow;obtain⟨hpre,hK⟩:=hrow;refine⟨Qh7 hcal,_,_,?_,hK⟩;intro C S vs RR hW huse hfresh hnames hargs hfin;have hps:=Qtx hW args ps vs.toList (fun m hm=>huse m (Zbl _ hm)) hp hargs;have hWa:=Qxy hW;refine hrun a hpre (S:=S.froz) hWa ((hle ps a ha).c hps) ?_;intro v C0 S1 d hCw hCo hCM hW1 hR hrd;have hCw:C0.w=S.w:=hCw;have hCo:C0.ok=S.froz.ok:=hCo;have hkeep: ∀b,b<S.w.heap.size->S1.w.heap[b]? =S.w.heap[b]? :=fun b hb=>by
    have:=hW1.keep b (by rw[hCw];exact hb) (hCM b)
    rw[hCw] at this;exact this
   have hsz:S.w.heap.size<=S1.w.heap.size:=by have:=hW1.size;rw[hCw] at this;exact this
   let S':Env:={S with ok:=fun b=>S.ok b\/okF C0 S1 b,w:=S1.w}
   have hp':Pres (fun _=>True) S S':=⟨fun b hb=>⟨.inl hb,hkeep b (hW.oks b hb)⟩,fun o _ e' he'=>⟨e',he',rfl,rfl,rfl⟩⟩;have hbig: ∀b,okF C0 S1 b->S.w.heap.size<=b:=fun b hb=>by have:=hb.1;rw[hCw] at this;exact this
   have hW':Wf C S':=by
    refine⟨?_,?_,?_,Zbd hW.size hsz,?_,fun b hb=> .inl (hW.ok0 b hb),?_,?_,?_,?_,hW.inj,hW.gl⟩
    .exact hW1.os.trans (by rw[hCw];exact hW.os)
    .exact hW1.tape.trans (by rw[hCw];exact hW.tape)
    .exact hW1.output.trans (by rw[hCw];exact hW.output)
    .intro b hb hM;exact (hkeep b (Zbn hb hW.size)).trans (hW.keep b hb hM)
    .rintro b (hb|hb)
     .exact hW.ok1 b hb
     .exact .inr (.inl (Zbd hW.size (hbig b hb)))
    .rintro b (hb|hb)
     .exact Zbn (hW.oks b hb) hsz
     .exact hb.2.1
    .intro o e he;exact Qbr hp' (fun lc hl=>hkeep lc.b (hW.loc o e lc he hl).1) _ (fun _ _=>trivial) (hW.obj o e he)
    .intro o e l he hl;obtain⟨h2,h3⟩:=hW.loc o e l he hl;refine⟨Zbn h2 hsz,?_⟩;cases hm:e.1 with
     |false=>
      rw[hm] at h3;simp only[ZaB,Zby] at h3⊢;exact h3.imp (fun h=> .inl h) id
     |true=>
      rw[hm] at h3;simp only[ZaQ] at h3⊢;refine⟨?_,h3.2⟩;rintro (h|h)
      .exact h3.1 h
      .have:=hbig _ h;omega
   refine hfin v S' hW' ?_ ⟨hp'.ok,fun o _=>hp'.nm o trivial⟩ ?_
   .show S.h=_;funext m;simp[Eff.appf,hget]
   .simp only[conc];have h9:=hrc _ _ hR _ _ _ hrd;exact Qb8 (fun b hb=>⟨.inr hb,rfl⟩) _ _ h9
theorem Qbn{P:Program}(HM:P.follows .mixedOrders=true){V:Qbh}(hV:Qkj P V){g:FuncId}{fn:Func}{c:Code}(hf:P.funcs[g]? =some fn)(hb:fn.body=some c)(hchk:chk fn.ntmps c=true)(hcal:calb P g=true)
 {A B:Type}{ar:List PK->Option A}{ae:A->List PK}(hle: ∀ps a,ar ps=some a->LeKL ps (ae a)){n:Nat}(hn: ∀a,(ae a).length=n)(hnt:n<=fn.ntmps){rc:D->Option B}{re:B->D}(hrc: ∀d b,rc d=some b->Le d (re b))
 {pre:A->Prop}{f:A->B}
 (hk: ∀a,pre a->awp P V c (Qxj P fn.results.toList (decD rc (f a))) ⟨entry 0 (Qcq 0 (ae a)),Qc5 0 (ae a),cnum (ae a)⟩):
 Qas P g (Qfi ar pre fun a=>re (f a)):=
 Quy hcal hle hrc (fun a hpre _ _ _ _ hW hps hfin=>view_runF HM hV hf hb hchk (by rw[hn];exact hnt) (hk a hpre) hW hps hfin)
theorem ef_fit1(ks:List KK)(ds:List D):KT.fit ⟨true,ks⟩ (.agg ds)=fitL ks ds:=rfl
theorem ef_fit2(ks:List KK)(k:IntKind)(n:Int):KT.fit ⟨false,ks⟩ (.int k n)=fitL ks [.int k n]:=rfl
theorem ef_fit3(ks:List KK)(s:ByteArray):KT.fit ⟨false,ks⟩ (.str s)=fitL ks [.str s]:=rfl
theorem ef_fit4(ks:List KK)(s:Bool):KT.fit ⟨false,ks⟩ (.bool s)=fitL ks [.bool s]:=rfl
theorem ef_resV0:resV []= .tup []:=rfl
theorem ef_resV2(x y:AV):resV [x,y]= .tup [x,y]:=rfl
theorem ef_resV3(x y z:AV):resV [x,y,z]= .tup [x,y,z]:=rfl
theorem ef_resV4(x y z w:AV):resV [x,y,z,w]= .tup [x,y,z,w]:=rfl
theorem Qabq(t:Option Nat)(want:Bool)(s:Qad)(Kdo Kskip:Qad->Prop)(b:Bool):Qg4 t want s Kdo Kskip (.im (.bool b))=if b=want then Kdo (s.put t (.im (.bool want))) else Kskip (s.put t (.im (.bool (!want)))):=by
 cases b<;>cases want<;>simp[Qg4]
theorem ef_condVC(A B:Qbl->Qad->Prop)(Q:Qbl)(s:Qad)(b:Bool):Quv A B Q s (.im (.bool b))=if b=true then A Q s else B Q s:=by
 cases b<;>simp[Quv]
theorem ef_pickV(c:Bool)(K:Kont)(a b:AV):pickV c K a b=if c=true then K a {} else K b {}:=by
 cases c<;>simp[pickV]
theorem ef_tget(m:Nat)(x:AV)(r:List (Nat×AV))(n:Nat):tget ((m,x)::r) n=if m=n then x else tget r n:=by
 by_cases h:m=n
 .subst h;simp[tget]
 .have:(m==n)=false:=by simpa using h
  simp[tget,this,h]
theorem ef_hget(m:Nat)(x:Ent)(r:Qan)(n:Nat):hget ((m,x)::r) n=if m=n then some x else hget r n:=by
 by_cases h:m=n
 .subst h;simp[hget]
 .have:(m==n)=false:=by simpa using h
  simp[hget,this,h]
theorem ef_hdel(m:Nat)(x:Ent)(r:Qan)(ks:List Nat):hdel ((m,x)::r) ks=if ks.contains m=true then hdel r ks else (m,x)::hdel r ks:=by
 cases h:ks.contains m<;>simp only[hdel,h]<;>simp
theorem ef_ckP(cl:List (List Nat))(j:Nat)(use touch names:List Nat)(f:Fp):ckP cl j use touch names f=if (Ql9 (use++touch) f.touch && (Ql9 touch f.use && outN f.nx f.cnt names))=true then true else ordB cl f.i j:=by
 unfold ckP;cases (Ql9 (use++touch) f.touch && (Ql9 touch f.use && outN f.nx f.cnt names))<;>rfl
theorem nv_int(k:IntKind)(n:Int):nilV (.int k n)=0:=rfl
theorem nv_bool(b:Bool):nilV (.bool b)=0:=rfl
theorem nv_str(s:ByteArray):nilV (.string s)=0:=rfl
theorem nv_agg(cs:Array Value):nilV (.agg cs)=0:=rfl
theorem ns_int(k:IntKind)(n:Int):Qdt (.int k n)=false:=rfl
theorem ns_bool(b:Bool):Qdt (.bool b)=false:=rfl
theorem ns_str(s:ByteArray):Qdt (.string s)=false:=rfl
theorem ns_agg(cs:Array Value):Qdt (.agg cs)=false:=rfl
theorem ns_ptr(a:Option Addr):Qdt (.pointer a)=false:=rfl
theorem ns_map(a:Option Nat):Qdt (.map a)=false:=rfl
theorem ns_nf:Qdt .nilFunc=false:=rfl
theorem ns_ni:Qdt .nilIface=false:=rfl
section
variable (P:Program)(V:Qbh)(tm:List (Nat×AV))(h:Nat->Option Ent)(nx:Nat)(ty:TypeId)(K:Kont)
theorem sc_move(x:Operand):Qc0 P V tm h nx ty K (.move x)=step P V true tm h nx ty K (.move x):=rfl
theorem sc_assign(x:Operand):Qc0 P V tm h nx ty K (.assign x)=step P V true tm h nx ty K (.assign x):=rfl
theorem sc_pick(c:Operand)(a:Operand)(b:Operand):Qc0 P V tm h nx ty K (.pick c a b)=step P V true tm h nx ty K (.pick c a b):=rfl
theorem sc_alloc(t:TypeId):Qc0 P V tm h nx ty K (.alloc t)=step P V true tm h nx ty K (.alloc t):=rfl
theorem sc_box(t:TypeId)(x:Operand):Qc0 P V tm h nx ty K (.box t x)=step P V true tm h nx ty K (.box t x):=rfl
theorem sc_build(t:TypeId)(ps:Array (Nat×Operand)):Qc0 P V tm h nx ty K (.build t ps)=step P V true tm h nx ty K (.build t ps):=rfl
theorem Qs8(t:TypeId)(n:Nat)(ps:Array (Nat×Operand)):Qc0 P V tm h nx ty K (.buildSlice t n ps)=step P V true tm h nx ty K (.buildSlice t n ps):=rfl
theorem sc_load(t:TypeId)(x:Operand):Qc0 P V tm h nx ty K (.load t x)=step P V true tm h nx ty K (.load t x):=rfl
theorem sc_store(t:TypeId)(x:Operand)(v:Operand):Qc0 P V tm h nx ty K (.store t x v)=step P V true tm h nx ty K (.store t x v):=rfl
theorem Qyd(x:Operand):Qc0 P V tm h nx ty K (.nilCheck x)=step P V true tm h nx ty K (.nilCheck x):=rfl
theorem sc_binOp(op:BinOp)(t:TypeId)(x:Operand)(y:Operand)(u:TypeId):Qc0 P V tm h nx ty K (.binOp op t x y u)=step P V true tm h nx ty K (.binOp op t x y u):=rfl
theorem sc_unOp(op:UnOp)(t:TypeId)(x:Operand):Qc0 P V tm h nx ty K (.unOp op t x)=step P V true tm h nx ty K (.unOp op t x):=rfl
theorem Qaa9(s:TypeId)(t:TypeId)(x:Operand):Qc0 P V tm h nx ty K (.convert s t x)=step P V true tm h nx ty K (.convert s t x):=rfl
theorem Qyi(f:Fn)(a:Array Operand)(c:Array Operand):Qc0 P V tm h nx ty K (.makeFunc f a c)=step P V true tm h nx ty K (.makeFunc f a c):=rfl
theorem Qaa8(t:TypeId)(r:Option Operand):Qc0 P V tm h nx ty K (.makeMap t r)=step P V true tm h nx ty K (.makeMap t r):=rfl
theorem Qvy(t:TypeId)(l:Operand)(c:Operand):Qc0 P V tm h nx ty K (.makeSlice t l c)=step P V true tm h nx ty K (.makeSlice t l c):=rfl
theorem Qv2(t:TypeId)(x:Operand)(f:Nat):Qc0 P V tm h nx ty K (.fieldAddr t x f)=step P V true tm h nx ty K (.fieldAddr t x f):=rfl
theorem Qvr(t:TypeId)(x:Operand)(i:Operand):Qc0 P V tm h nx ty K (.indexAddr t x i)=step P V true tm h nx ty K (.indexAddr t x i):=rfl
theorem sc_index(t:TypeId)(x:Operand)(i:Operand):Qc0 P V tm h nx ty K (.index t x i)=step P V true tm h nx ty K (.index t x i):=rfl
theorem sc_lookup(t:TypeId)(m:Operand)(k:Operand)(ok:Bool):Qc0 P V tm h nx ty K (.lookup t m k ok)=step P V true tm h nx ty K (.lookup t m k ok):=rfl
theorem Qwt(t:TypeId)(m:Operand)(k:Operand)(v:Operand):Qc0 P V tm h nx ty K (.mapUpdate t m k v)=step P V true tm h nx ty K (.mapUpdate t m k v):=rfl
theorem sc_insert(t:TypeId)(m:Operand)(k:Operand)(v:Operand):Qc0 P V tm h nx ty K (.insert t m k v)=step P V true tm h nx ty K (.insert t m k v):=rfl
theorem Qabt(x:Operand)(i:Nat):Qc0 P V tm h nx ty K (.extract x i)=step P V true tm h nx ty K (.extract x i):=rfl
theorem sc_call(c:Call):Qc0 P V tm h nx ty K (.call c)=step P V true tm h nx ty K (.call c):=rfl
theorem sc_slice(t:TypeId)(x:Operand)(lo:Option Operand)(hi:Option Operand)(mx:Option Operand):Qc0 P V tm h nx ty K (.slice t x lo hi mx)=step P V true tm h nx ty K (.slice t x lo hi mx):=rfl
theorem sc_range(t:TypeId)(x:Operand):Qc0 P V tm h nx ty K (.range t x)=step P V true tm h nx ty K (.range t x):=rfl
theorem sc_next(x:Operand)(b:Bool):Qc0 P V tm h nx ty K (.next x b)=step P V true tm h nx ty K (.next x b):=rfl
theorem sc_entry(x:Operand):Qc0 P V tm h nx ty K (.entry x)=step P V true tm h nx ty K (.entry x):=rfl
theorem Qyj(t:TypeId)(x:Operand):Qc0 P V tm h nx ty K (.makeChan t x)=step P V true tm h nx ty K (.makeChan t x):=rfl
theorem Qmy(t:TypeId)(x:Operand):Qc0 P V tm h nx ty K (.makeInterface t x)=step P V true tm h nx ty K (.makeInterface t x):=rfl
theorem sc_panic(x:Operand):Qc0 P V tm h nx ty K (.panic x)=step P V true tm h nx ty K (.panic x):=rfl
theorem Qs9(x:Operand)(t:TypeId)(u:TypeId)(ok:Bool):Qc0 P V tm h nx ty K (.typeAssert x t u ok)=step P V true tm h nx ty K (.typeAssert x t u ok):=rfl
end
theorem J{a b:Prop}(x:a)(y:b):a/\b:=⟨x,y⟩
def VC0:=J @tget.eq_1<|J @hget.eq_1<|J @hdel.eq_1<|J @Qad.put.eq_1<|J @Qad.put.eq_2<|J @Qad.app_nr<|J @kD.eq_1<|J @kD.eq_2<|J @kD.eq_3<|J @kD.eq_4<|J @kD.eq_5<|J @kD.eq_6<|J @kD.eq_7<|J @kD.eq_8<|J @kD.eq_9<|J @evO.eq_1<|J @evO.eq_2<|J @evO.eq_3<|J @evO.eq_4<|J @D.cells.eq_1<|J @D.cells.eq_2<|J @D.cells.eq_3<|J @D.cells.eq_4<|J @D.cells.eq_5<|J @D.cells.eq_6<|J @D.cells.eq_7<|J @D.cells.eq_8<|J @D.cells.eq_9<|J @D.cells.eq_10<|@D.cells.eq_11
def VC1:=J @D.cells.eq_12<|J @D.cells.eq_13<|J @D.cells.eq_14<|J @D.cells.eq_15<|J @D.cells.eq_16<|J @D.cells.eq_17<|J @AV.cells.eq_1<|J @AV.cells.eq_2<|J @AV.cells.eq_3<|J @AV.cells.eq_4<|J @AV.cells.eq_5<|J @AV.cells.eq_6<|J @AV.cells.eq_7<|J @AV.cells.eq_8<|J @AV.cells.eq_9<|J @AV.cells.eq_10<|J @AV.cells.eq_11<|J @AV.cells.eq_12<|J @D.one.eq_1<|J @D.one.eq_2<|J @D.one.eq_3<|J @D.one.eq_4<|J @D.one.eq_5<|J @D.one.eq_6<|J @D.one.eq_7<|J @D.one.eq_8<|J @D.one.eq_9<|J @D.one.eq_10<|J @D.one.eq_11<|@D.one.eq_12
def VC2:=J @D.one.eq_13<|J @D.one.eq_14<|J @D.one.eq_15<|J @D.one.eq_16<|J @D.one.eq_17<|J @AV.one.eq_1<|J @AV.one.eq_2<|J @AV.one.eq_3<|J @AV.one.eq_4<|J @AV.one.eq_5<|J @AV.one.eq_6<|J @AV.one.eq_7<|J @AV.one.eq_8<|J @AV.one.eq_9<|J @AV.one.eq_10<|J @AV.one.eq_11<|J @AV.one.eq_12<|J @Qhz.eq_1<|J @Qhz.eq_2<|J @AV.asD.eq_1<|J @AV.asD.eq_2<|J @AV.asD.eq_3<|J @AV.asD.eq_4<|J @AV.asD.eq_5<|J @AV.asD.eq_6<|J @AV.asD.eq_7<|J @AV.asD.eq_8<|J @AV.asD.eq_9<|J @AV.asD.eq_10<|@AV.asD.eq_11
def VC3:=J @AV.asD.eq_12<|J @Qlx.eq_1<|J @Qlx.eq_2<|J @Qlx.eq_3<|J @Qcr.eq_1<|J @Qcr.eq_2<|J @mkO.eq_1<|J @mkO.eq_2<|J @hdV.eq_1<|J @hdV.eq_2<|J @hdD.eq_1<|J @hdD.eq_2<|J @mkV.eq_1<|J @mkD.eq_1<|J @Qa5.eq_1<|J @D.beq.eq_1<|J @D.beq.eq_2<|J @D.beq.eq_3<|J @D.beq.eq_4<|J @D.beql.eq_1<|J @D.beql.eq_2<|J @lk.eq_1<|J @lk.eq_2<|J @upd.eq_1<|J @upd.eq_2<|J @del.eq_1<|J @del.eq_2<|J @Qnv.eq_1<|J @Qwr.eq_1<|@ldPtr.eq_1
def VC4:=J @ldPtr.eq_2<|J @ldElt.eq_1<|J @ldElt.eq_2<|J @Qou.eq_1<|J @Qou.eq_2<|J @Qou.eq_3<|J @Qou.eq_4<|J @kStD.eq_1<|J @kStD.eq_2<|J @Qxz.eq_1<|J @Qyo.eq_1<|J @sdPtr.eq_1<|J @sdElt.eq_1<|J @sdElt.eq_2<|J @Qh8.eq_1<|J @Qh8.eq_2<|J @Qri.eq_1<|J @alv.eq_1<|J @alv.eq_2<|J @faAt.eq_1<|J @faAt.eq_2<|J @faAt.eq_3<|J @faOf.eq_1<|J @faOf.eq_2<|J @faK.eq_1<|J @Qhg.eq_1<|J @kRef.eq_1<|J @iaObj.eq_1<|J @iaObj.eq_2<|@iaSl.eq_1
def VC5:=J @iaSl.eq_2<|J @iaArr.eq_1<|J @iaArr.eq_2<|J @Qax.eq_1<|J @Qax.eq_2<|J @iaK.eq_1<|J @iaK.eq_2<|J @Qjp.eq_1<|J @ixArr.eq_1<|J @kCh.eq_1<|J @ixK.eq_1<|J @ixK.eq_2<|J @Qxc.eq_1<|J @shK.eq_1<|J @shK.eq_2<|J @shK.eq_3<|J @shK.eq_4<|J @shK.eq_5<|J @shK.eq_6<|J @shK.eq_7<|J @shK.eq_8<|J @shK.eq_9<|J @shK.eq_10<|J @shK.eq_11<|J @shK.eq_12<|J @shK.eq_13<|J @shK.eq_14<|J @shK.eq_15<|J @shK.eq_16<|@shK.eq_17
def VC6:=J @Qh2.eq_1<|J @Qh2.eq_2<|J @Qh2.eq_3<|J @Qh2.eq_4<|J @Qh2.eq_5<|J @Qh2.eq_6<|J @Qh2.eq_7<|J @Qh2.eq_8<|J @Qh2.eq_9<|J @Qh2.eq_10<|J @Qh2.eq_11<|J @Qh2.eq_12<|J @Qh2.eq_13<|J @Qh2.eq_14<|J @eqB.eq_1<|J @eqNilS.eq_1<|J @Qu7.eq_1<|J @Qu7.eq_2<|J @Qu7.eq_3<|J @Qu7.eq_4<|J @Qaal.eq_1<|J @Qaal.eq_2<|J @Qaal.eq_3<|J @Qkv.eq_1<|J @Qkv.eq_2<|J @Qkv.eq_3<|J @Qabv.eq_1<|J @Qabv.eq_2<|J @Qabv.eq_3<|@stBoo.eq_1
def VC7:=J @stBoo.eq_2<|J @stBoK.eq_1<|J @stBoK.eq_2<|J @Qok.eq_1<|J @Qok.eq_2<|J @Qoa.eq_1<|J @Qoa.eq_2<|J @Qmf.eq_1<|J @Qmf.eq_2<|J @Qmf.eq_3<|J @Qw4.eq_1<|J @Qw4.eq_2<|J @Qw4.eq_3<|J @Qw4.eq_4<|J @stUn.eq_1<|J @stUn.eq_2<|J @Qt6.eq_1<|J @Qt6.eq_2<|J @Qdp.eq_1<|J @Qdp.eq_2<|J @Qdp.eq_3<|J @plArr.eq_1<|J @plStr.eq_1<|J @Qabi.eq_1<|J @Qabi.eq_2<|J @bdArr.eq_1<|J @bdK.eq_1<|J @bdK.eq_2<|J @Qsy.eq_1<|@Qd0.eq_1
def VC8:=J @Qd0.eq_2<|J @repZ.eq_1<|J @repZ.eq_2<|J @bsObj.eq_1<|J @bsObj.eq_2<|J @bsEnd.eq_1<|J @bsEnd.eq_2<|J @bsE.eq_1<|J @bsK.eq_1<|J @Qfp.eq_1<|J @msE.eq_1<|J @msK.eq_1<|J @Qhl.eq_1<|J @Qmn.eq_1<|J @Qmn.eq_2<|J @Qco.eq_1<|J @Qco.eq_2<|J @imR.eq_1<|J @allD.eq_1<|J @allD.eq_2<|J @Src.okOne.eq_1<|J @Src.okOne.eq_2<|J @Src.okOne.eq_3<|J @Qaa6.eq_1<|J @Qaa6.eq_2<|J @Qaa6.eq_3<|J @apD.eq_1<|J @apD.eq_2<|J @apD.eq_3<|@apA.eq_1
def VC9:=J @apA.eq_2<|J @apA.eq_3<|J @apObj.eq_1<|J @apObj.eq_2<|J @apTo.eq_1<|J @apTo.eq_2<|J @apE.eq_1<|J @apK.eq_1<|J @Qsl.eq_1<|J @kInt.eq_1<|J @Qxr.eq_1<|J @Qxr.eq_2<|J @lenObjM.eq_1<|J @lenW.eq_1<|J @lenW.eq_2<|J @Qw2.eq_1<|J @Qw2.eq_2<|J @Qw2.eq_3<|J @lenStr.eq_1<|J @Qvs.eq_1<|J @Qvs.eq_2<|J @Qvs.eq_3<|J @lenK.eq_1<|J @lenK.eq_2<|J @lenK.eq_3<|J @lenK.eq_4<|J @lenK.eq_5<|J @lenK.eq_6<|J @lenK.eq_7<|@lenK.eq_8
def VC10:=J @lenK.eq_9<|J @Qxt.eq_1<|J @Qy3.eq_1<|J @kMiss.eq_1<|J @luObj.eq_1<|J @Qyc.eq_1<|J @Qyc.eq_2<|J @Qyc.eq_3<|J @luKt.eq_1<|J @luKt.eq_2<|J @luE.eq_1<|J @luK.eq_1<|J @Qnn.eq_1<|J @muObj.eq_1<|J @muKt.eq_1<|J @muKt.eq_2<|J @muK.eq_1<|J @muK.eq_2<|J @muK.eq_3<|J @muK.eq_4<|J @muK.eq_5<|J @muK.eq_6<|J @muK.eq_7<|J @muK.eq_8<|J @muK.eq_9<|J @muF.eq_1<|J @muOwn.eq_1<|J @Qfc.eq_1<|J @Qfc.eq_2<|@deObj.eq_1
def VC11:=J @deKt.eq_1<|J @deKt.eq_2<|J @deK.eq_1<|J @deK.eq_2<|J @deK.eq_3<|J @deK.eq_4<|J @deK.eq_5<|J @deK.eq_6<|J @deK.eq_7<|J @deK.eq_8<|J @deK.eq_9<|J @Qni.eq_1<|J @exA.eq_1<|J @exA.eq_2<|J @exD.eq_1<|J @exD.eq_2<|J @Qgf.eq_1<|J @Qgf.eq_2<|J @Qgg.eq_1<|J @Qgg.eq_2<|J @Qgg.eq_3<|J @Qgg.eq_4<|J @Qaar.eq_1<|J @Qaar.eq_2<|J @tkO.eq_1<|J @tkO.eq_2<|J @Qjk.eq_1<|J @Qg6.eq_1<|J @Qdt.eq_1<|@Qg8.eq_1
def VC12:=J @Qg8.eq_2<|J @Qg8.eq_3<|J @Qg8.eq_4<|J @Qk7.eq_1<|J @Qk7.eq_2<|J @Qm9.eq_1<|J @Qzp.eq_1<|J @Qsv.eq_1<|J @stBox.eq_1<|J @nilV.eq_1<|J @nilV.eq_2<|J @nilV.eq_3<|J @nilV.eq_4<|J @nilC.eq_1<|J @nilC.eq_2<|J @nilC.eq_3<|J @nilC.eq_4<|J @Qm5.eq_1<|J @Qm5.eq_2<|J @Qak0.eq_1<|J @Qak0.eq_2<|J @Qali.eq_1<|J @Qali.eq_2<|J @stIfc.eq_1<|J @Qalh.eq_1<|J @Qalh.eq_2<|J @stInv.eq_1<|J @Qwb.eq_1<|J @Qwb.eq_2<|@Qwb.eq_3
def VC13:=J @Qwb.eq_4<|J @Qwb.eq_5<|J @stConv.eq_1<|J @Qo0.eq_1<|J @Qo0.eq_2<|J @Qadw.eq_1<|J @Qadw.eq_2<|J @strI.eq_1<|J @byEnd.eq_1<|J @byEnd.eq_2<|J @byObj.eq_1<|J @byAV.eq_1<|J @byEl.eq_1<|J @byKd.eq_1<|J @bySrc.eq_1<|J @bySrc.eq_2<|J @TK.isStr.eq_1<|J @TK.isStr.eq_2<|J @TK.isStr.eq_3<|J @TK.isStr.eq_4<|J @TK.isStr.eq_5<|J @TK.isStr.eq_6<|J @TK.isStr.eq_7<|J @TK.isStr.eq_8<|J @TK.isStr.eq_9<|J @isStr.eq_1<|J @isStr.eq_2<|J @Qaeh.eq_1<|J @stMax.eq_1<|@TK.isSl.eq_1
def VC14:=J @TK.isSl.eq_2<|J @TK.isSl.eq_3<|J @TK.isSl.eq_4<|J @TK.isSl.eq_5<|J @TK.isSl.eq_6<|J @TK.isSl.eq_7<|J @TK.isSl.eq_8<|J @TK.isSl.eq_9<|J @Qlj.eq_1<|J @evOo.eq_1<|J @evOo.eq_2<|J @bdV.eq_1<|J @bdV.eq_2<|J @slIm.eq_1<|J @slIm.eq_2<|J @slIm.eq_3<|J @slStr.eq_1<|J @slStr.eq_2<|J @slStr.eq_3<|J @Qub.eq_1<|J @Qub.eq_2<|J @slWin.eq_1<|J @slWin.eq_2<|J @slWin.eq_3<|J @slOwn.eq_1<|J @slE.eq_1<|J @slE.eq_2<|J @slKs.eq_1<|J @slK.eq_1<|@slK.eq_2
def VC15:=J @slK.eq_3<|J @slK.eq_4<|J @slK.eq_5<|J @slK.eq_6<|J @slK.eq_7<|J @slK.eq_8<|J @slK.eq_9<|J @Qsm.eq_1<|J @cySO.eq_1<|J @cySW.eq_1<|J @Qx5.eq_1<|J @Qx5.eq_2<|J @Qx5.eq_3<|J @cyDO.eq_1<|J @cyDW.eq_1<|J @Qqa.eq_1<|J @Qqa.eq_2<|J @Qp0.eq_1<|J @cyGo.eq_1<|J @cyGo.eq_2<|J @cyGo.eq_3<|J @cyK.eq_1<|J @cyK.eq_2<|J @cyK.eq_3<|J @cyK.eq_4<|J @cyK.eq_5<|J @cyK.eq_6<|J @cyK.eq_7<|J @cyK.eq_8<|@cyK.eq_9
def VC16:=J @Qzd.eq_1<|J @clGo.eq_1<|J @clGo.eq_2<|J @clK.eq_1<|J @clK.eq_2<|J @clK.eq_3<|J @clK.eq_4<|J @clK.eq_5<|J @clK.eq_6<|J @clK.eq_7<|J @clK.eq_8<|J @clK.eq_9<|J @Qrt.eq_1<|J @rgObj.eq_1<|J @rgD.eq_1<|J @rgM.eq_1<|J @rgM.eq_2<|J @rgK.eq_1<|J @rgK.eq_2<|J @rgK.eq_3<|J @rgK.eq_4<|J @rgK.eq_5<|J @rgK.eq_6<|J @rgK.eq_7<|J @rgK.eq_8<|J @rgK.eq_9<|J @Qsh.eq_1<|J @nxGo.eq_1<|J @nxObj.eq_1<|@Qaab.eq_1
def VC17:=J @nxSq.eq_1<|J @nxSq.eq_2<|J @enObj.eq_1<|J @Qsz.eq_1<|J @mcE.eq_1<|J @mcV.eq_1<|J @mcK.eq_1<|J @mcK.eq_2<|J @Qi6.eq_1<|J @lnChO.eq_1<|J @lnCh.eq_1<|J @lnCh.eq_2<|J @sdGo.eq_1<|J @stSend.eq_1<|J @rvGo.eq_1<|J @rvC.eq_1<|J @rvE.eq_1<|J @rvK.eq_1<|J @rvK.eq_2<|J @stRecv.eq_1<|J @eqUn.eq_1<|J @eqUnO.eq_1<|J @eqUnO.eq_2<|J @Qab2.eq_1<|J @Qab2.eq_2<|J @Qir.eq_1<|J @Qir.eq_2<|J @Qir.eq_3<|J @Qir.eq_4<|@Qir.eq_5
def VC18:=J @Qir.eq_6<|J @Qir.eq_7<|J @Qir.eq_8<|J @Qir.eq_9<|J @Qir.eq_10<|J @Qir.eq_11<|J @Qir.eq_12<|J @Qir.eq_13<|J @Qir.eq_14<|J @Qir.eq_15<|J @Qir.eq_16<|J @Qir.eq_17<|J @isKn.eq_1<|J @isKn.eq_2<|J @isKn.eq_3<|J @isKn.eq_4<|J @isKn.eq_5<|J @isKn.eq_6<|J @isKn.eq_7<|J @isKn.eq_8<|J @isKn.eq_9<|J @isKn.eq_10<|J @isKn.eq_11<|J @isKn.eq_12<|J @unS.eq_1<|J @Qhy.eq_1<|J @Qhy.eq_2<|J @Qhy.eq_4<|J @Qhy.eq_5<|@Qhy.eq_6
def VC19:=J @Qhy.eq_7<|J @Qhy.eq_8<|J @Qhy.eq_9<|J @Qhy.eq_10<|J @Qhy.eq_11<|J @Qst.eq_1<|J @stBinS.eq_1<|J @Qfs.eq_1<|J @Qfs.eq_2<|J @Qfs.eq_3<|J @Qfs.eq_4<|J @Qfs.eq_5<|J @Qfs.eq_6<|J @Qfs.eq_7<|J @Qfs.eq_8<|J @Qfs.eq_9<|J @Qfs.eq_10<|J @Qfs.eq_11<|J @Qfs.eq_12<|J @Qe6.eq_1<|J @Qe6.eq_2<|J @Qe6.eq_3<|J @Qe6.eq_4<|J @Qe6.eq_5<|J @Qe6.eq_6<|J @Qle.eq_1<|J @Qle.eq_2<|J @Qle.eq_3<|J @mmKt.eq_1<|@mmKt.eq_2
def VC20:=J @mmK.eq_1<|J @mmK.eq_2<|J @mmK.eq_3<|J @mmK.eq_4<|J @mmK.eq_5<|J @mmK.eq_6<|J @mmK.eq_7<|J @mmK.eq_8<|J @mmK.eq_9<|J @Qko.eq_1<|J @evL.eq_1<|J @evL.eq_2<|J @evP.eq_1<|J @evP.eq_2<|J @Qrk.eq_1<|J @Qfq.eq_1<|J @Qno.eq_1<|J @cpO2.eq_1<|J @cpO2.eq_2<|J @cpO.eq_1<|J @cpO.eq_2<|J @cpO.eq_3<|J @cpO.eq_4<|J @cpO.eq_5<|J @cpO.eq_6<|J @cpO.eq_7<|J @cpO.eq_8<|J @cpD.eq_1<|J @cpD.eq_2<|@cpD.eq_3
def VC21:=J @cpD.eq_4<|J @cpD.eq_5<|J @cpD.eq_6<|J @cpD.eq_7<|J @cpD.eq_8<|J @cpD.eq_9<|J @cpD.eq_10<|J @cpD.eq_11<|J @cpD.eq_12<|J @cpD.eq_13<|J @cpC.eq_1<|J @cpC.eq_2<|J @cpC.eq_3<|J @cpL.eq_1<|J @cpL.eq_2<|J @hnm.eq_1<|J @hnm.eq_2<|J @Qz3.eq_1<|J @Qz3.eq_2<|J @Qabp.eq_1<|J @Qabp.eq_2<|J @Qabp.eq_3<|J @step.eq_1<|J @step.eq_2<|J @step.eq_3<|J @step.eq_4<|J @step.eq_5<|J @step.eq_6<|J @step.eq_7<|@step.eq_8
def VC22:=J @step.eq_9<|J @step.eq_10<|J @step.eq_11<|J @step.eq_12<|J @step.eq_13<|J @step.eq_14<|J @step.eq_15<|J @step.eq_16<|J @step.eq_17<|J @step.eq_18<|J @step.eq_19<|J @step.eq_20<|J @step.eq_21<|J @step.eq_22<|J @step.eq_23<|J @step.eq_24<|J @step.eq_25<|J @step.eq_26<|J @step.eq_27<|J @step.eq_28<|J @step.eq_29<|J @step.eq_30<|J @Qg4.eq_2<|J @belH.eq_1<|J @belH.eq_2<|J @belH.eq_3<|J @belH.eq_4<|J @belH.eq_5<|J @belH.eq_6<|@belH.eq_7
def VC23:=J @belH.eq_8<|J @Qafj.eq_1<|J @Qpx.eq_1<|J @Qpx.eq_2<|J @Eff.ok_nr<|J @Qx6.eq_1<|J @Qx6.eq_2<|J @Qgy.eq_1<|J @Qgy.eq_2<|J @kont.eq_1<|J @Qc0.eq_1<|J @Qc0.eq_2<|J @stepS.eq_1<|J @skipS.eq_1<|J @grdS.eq_1<|J @grdS.eq_2<|J @opS.eq_1<|J @opS.eq_2<|J @rgS.eq_1<|J @rgS.eq_2<|J @Qcv.eq_1<|J @Qcv.eq_2<|J @nmsH.eq_1<|J @nmsH.eq_2<|J @Ql9.eq_1<|J @Ql9.eq_2<|J @outN.eq_1<|J @outN.eq_2<|J @bnd.eq_1<|@bnd.eq_2
def VC24:=J @bnd.eq_3<|J @bnd.eq_4<|J @bnd.eq_5<|J @bnd.eq_6<|J @nthL.eq_1<|J @nthL.eq_2<|J @nthL.eq_3<|J @ins.eq_1<|J @insL.eq_1<|J @insL.eq_2<|J @cloE.eq_1<|J @cloE.eq_2<|J @Qdr.eq_1<|J @Qdr.eq_2<|J @ordB.eq_1<|J @Qabz.eq_1<|J @Qabz.eq_2<|J @Eff.touch.eq_1<|J @kontA.eq_1<|J @stepA.eq_1<|J @skipA.eq_1<|J @grdA.eq_1<|J @grdA.eq_2<|J @opA.eq_1<|J @opA.eq_2<|J @rgA.eq_1<|J @rgA.eq_2<|J @thenQ.eq_1<|J @thenQ.eq_2<|@thenQ.eq_3
def VC25:=J @exitQ.eq_1<|J @exitQ.eq_2<|J @Qqo.eq_1<|J @Qqo.eq_2<|J @Qqo.eq_3<|J @subT.eq_1<|J @subT.eq_2<|J @subH.eq_1<|J @subH.eq_2<|J @belT.eq_1<|J @belT.eq_2<|J @Qam.eq_1<|J @Qam.eq_2<|J @Qad.good.eq_1<|J @pm.eq_1<|J @pm.eq_2<|J @nilA.eq_1<|J @ownM.eq_1<|J @ownM.eq_2<|J @Qga.eq_1<|J @Qga.eq_2<|J @mt.eq_1<|J @mt.eq_2<|J @mt.eq_3<|J @mt.eq_4<|J @mt.eq_5<|J @mt.eq_6<|J @mt.eq_7<|J @mt.eq_8<|@mt.eq_9
def VC26:=J @mt.eq_10<|J @mt.eq_11<|J @mt.eq_13<|J @mt.eq_14<|J @mtL.eq_1<|J @mtL.eq_2<|J @mtL.eq_3<|J @mtL.eq_4<|J @mtR.eq_1<|J @mtR.eq_2<|J @mtR.eq_3<|J @mtR.eq_4<|J @mtE.eq_1<|J @mtE.eq_3<|J @mtE.eq_4<|J @mtE.eq_5<|J @mtE.eq_6<|J @mtE.eq_7<|J @mtE.eq_8<|J @mtE.eq_9<|J @mtE.eq_10<|J @mtE.eq_11<|J @mtE.eq_12<|J @mtE.eq_13<|J @mtE.eq_14<|J @entM.eq_1<|J @entM.eq_2<|J @nilE.eq_1<|J @nilE.eq_2<|@entN.eq_1
def VC27:=J @entN.eq_2<|J @Qpt.eq_1<|J @Qpt.eq_2<|J @Qgb.eq_1<|J @Qgb.eq_2<|J @geP.eq_1<|J @geP.eq_2<|J @imP.eq_1<|J @imP.eq_2<|J @nodS.eq_1<|J @nodS.eq_2<|J @nodS.eq_3<|J @loopQ.eq_1<|J @loopQ.eq_2<|J @loopQ.eq_3<|J @loopP.eq_1<|J @loopP.eq_2<|J @loopP.eq_3<|J @frzH.eq_1<|J @frzH.eq_2<|J @frzS.eq_1<|J @objD.eq_1<|J @objD.eq_2<|J @objD.eq_3<|J @objD.eq_4<|J @objD.eq_5<|J @objD.eq_6<|J @objD.eq_7<|J @ownD.eq_1<|@ownD.eq_2
def VC28:=J @AV.fzA.eq_1<|J @AV.fzA.eq_2<|J @AV.fzA.eq_3<|J @AV.fzA.eq_4<|J @AV.fzA.eq_5<|J @AV.fzA.eq_6<|J @AV.fzA.eq_7<|J @AV.fzA.eq_8<|J @AV.fzA.eq_9<|J @AV.fzA.eq_10<|J @AV.fzA.eq_11<|J @AV.fzA.eq_12<|J @fzAL.eq_1<|J @fzAL.eq_2<|J @fzAR.eq_1<|J @fzAR.eq_2<|J @AObj.fzA.eq_1<|J @AObj.fzA.eq_2<|J @AObj.fzA.eq_3<|J @AObj.fzA.eq_4<|J @AObj.fzA.eq_5<|J @AObj.fzA.eq_6<|J @AObj.fzA.eq_7<|J @fzAT.eq_1<|J @fzAT.eq_2<|J @fzAH.eq_1<|J @fzAH.eq_2<|J @fzAS.eq_1<|J @loopF.eq_1<|@loopF.eq_2
def VC29:=J @loopF.eq_3<|J @awp.eq_1<|J @awp.eq_2<|J @awp.eq_3<|J @awp.eq_4<|J @awp.eq_5<|J @awp.eq_6<|J @awp.eq_7<|J @awp.eq_8<|J @awp.eq_9<|J @KK.fit.eq_1<|J @KK.fit.eq_2<|J @KK.fit.eq_3<|J @fitL.eq_1<|J @fitL.eq_2<|J @AV.bel.eq_1<|J @AV.bel.eq_2<|J @AV.bel.eq_3<|J @AV.bel.eq_4<|J @AV.bel.eq_5<|J @AV.bel.eq_6<|J @AV.bel.eq_7<|J @AV.bel.eq_8<|J @AV.bel.eq_9<|J @AV.bel.eq_10<|J @AV.bel.eq_11<|J @AV.bel.eq_12<|J @belL.eq_1<|J @belL.eq_2<|@AV.nms.eq_1
def VC30:=J @AV.nms.eq_2<|J @AV.nms.eq_3<|J @AV.nms.eq_4<|J @AV.nms.eq_5<|J @AV.nms.eq_6<|J @AV.nms.eq_7<|J @AV.nms.eq_8<|J @AV.nms.eq_9<|J @AV.nms.eq_10<|J @AV.nms.eq_11<|J @AV.nms.eq_12<|J @nmsL.eq_1<|J @nmsL.eq_2<|J @nmsR.eq_1<|J @nmsR.eq_2<|J @AObj.nms.eq_1<|J @AObj.nms.eq_2<|J @AObj.nms.eq_3<|J @AObj.nms.eq_4<|J @AObj.nms.eq_5<|J @AObj.nms.eq_6<|J @AObj.nms.eq_7<|J @AV.ren.eq_1<|J @AV.ren.eq_2<|J @AV.ren.eq_3<|J @AV.ren.eq_4<|J @AV.ren.eq_5<|J @AV.ren.eq_6<|J @AV.ren.eq_7<|@AV.ren.eq_8
def VC31:=J @AV.ren.eq_9<|J @AV.ren.eq_10<|J @AV.ren.eq_11<|J @AV.ren.eq_12<|J @renL.eq_1<|J @renL.eq_2<|J @AObj.ren.eq_1<|J @AObj.ren.eq_2<|J @AObj.ren.eq_3<|J @AObj.ren.eq_4<|J @AObj.ren.eq_5<|J @AObj.ren.eq_6<|J @AObj.ren.eq_7<|J @mapO.eq_1<|J @mapO.eq_2<|J @Qho.eq_1<|J @Qho.eq_2<|J @Qsj.eq_1<|J @Qlb.eq_1<|J @mkT.eq_1<|J @mkT.eq_2<|J @mkC.eq_1<|J @mkC.eq_2<|J @mkC.eq_3<|J @mkCO.eq_1<|J @kp.eq_1<|J @kp.eq_2<|J @asDO.eq_1<|J @asDO.eq_2<|@cvt.eq_1
def VC32:=J @cvt.eq_2<|J @cvt.eq_3<|J @cvt.eq_4<|J @cvt.eq_5<|J @cvt.eq_6<|J @cvt.eq_7<|J @cvt.eq_8<|J @cvt.eq_9<|J @cvt.eq_10<|J @cvt.eq_11<|J @cvt.eq_12<|J @cvt.eq_13<|J @cvt.eq_14<|J @cellC.eq_1<|J @cellP.eq_1<|J @cellP.eq_2<|J @Qj3.eq_1<|J @Qj3.eq_2<|J @resV.eq_1<|J @entry.eq_1<|J @entry.eq_2<|J @idxL.eq_1<|J @idxL.eq_2<|J @kxOf.eq_1<|J @cvtE.eq_1<|J @cvtE.eq_2<|J @cvtE.eq_3<|J @cvtE.eq_4<|J @cvtE.eq_5<|@cvtE.eq_6
def VC33:=J @cvtE.eq_7<|J @consE.eq_1<|J @consE.eq_2<|J @consE.eq_3<|J @klE.eq_1<|J @klE.eq_2<|J @outKl.eq_1<|J @outKl.eq_2<|J @exE.eq_1<|J @exE.eq_2<|J @exE.eq_3<|J @outEx.eq_1<|J @outEx.eq_2<|J @appO.eq_1<|J @appO.eq_2<|J @appO.eq_3<|J @roOk.eq_1<|J @roOk.eq_2<|J @exOk.eq_1<|J @exOk.eq_2<|J @retO3.eq_1<|J @retO3.eq_2<|J @retO3.eq_3<|J @retO2.eq_1<|J @retO1.eq_1<|J @retO1.eq_2<|J @retO.eq_1<|J @retQ.eq_1<|J @retQ.eq_2<|@retQ.eq_3
def VC34:=J @exNo.eq_1<|J @geK.eq_1<|J @geK.eq_2<|J @exRes.eq_1<|J @sg.eq_1<|J @renH.eq_1<|J @renH.eq_2<|J @tab.eq_1<|J @tab.eq_2<|J @Qcq.eq_1<|J @Qcq.eq_2<|J @Qcq.eq_3<|J @Qc5.eq_1<|J @Qc5.eq_2<|J @Qc5.eq_3<|J @cnum.eq_1<|J @cnum.eq_2<|J @cnum.eq_3<|J @fzO.eq_1<|J @fzO.eq_2<|J @fzO.eq_3<|J @fzO.eq_4<|J @fzO.eq_5<|J @fzO.eq_6<|J @fzO.eq_7<|J @fzO.eq_8<|J @fzM.eq_1<|J @fzM.eq_2<|J @fzM.eq_3<|@fzM.eq_4
def VC35:=J @fzM.eq_5<|J @fzM.eq_6<|J @fzM.eq_7<|J @fzM.eq_8<|J @fzG.eq_1<|J @fzG.eq_2<|J @fzD.eq_1<|J @fzD.eq_2<|J @fzD.eq_3<|J @fzD.eq_4<|J @fzD.eq_5<|J @fzD.eq_6<|J @fzD.eq_7<|J @fzD.eq_8<|J @fzD.eq_9<|J @fzD.eq_10<|J @fzD.eq_11<|J @fzD.eq_12<|J @fzL.eq_1<|J @fzL.eq_2<|J @pkD.eq_1<|J @pkD.eq_2<|J @pkI.eq_1<|J @pkI.eq_2<|J @pkI.eq_3<|J @pkI.eq_4<|J @pkI.eq_5<|J @pkI.eq_6<|J @pkI.eq_7<|@pkI.eq_8
def VC36:=J @pkI.eq_9<|J @pkI.eq_10<|J @pkI.eq_11<|J @pkI.eq_12<|J @pkI.eq_13<|J @pkI.eq_14<|J @pkI.eq_15<|J @pkI.eq_16<|J @pkI.eq_17<|J @pkC.eq_1<|J @pkC.eq_2<|J @pkO.eq_1<|J @pkO.eq_2<|J @pkO.eq_3<|J @pkO.eq_4<|J @pkO.eq_5<|J @pkO.eq_6<|J @pkO.eq_7<|J @pkO.eq_8<|J @pk1.eq_1<|J @pk1.eq_2<|J @pk1.eq_3<|J @pk1.eq_4<|J @pk1.eq_5<|J @pk1.eq_6<|J @pk1.eq_7<|J @pk1.eq_8<|J @pk1.eq_9<|J @pk1.eq_10<|@pk1.eq_11
def VC37:=J @pk1.eq_12<|J @Qo3.eq_1<|J @Qo3.eq_2<|J @Qo3.eq_3<|J @pkL.eq_1<|J @pkL.eq_2<|J @decK.eq_1<|J @decK.eq_2<|J @frE.eq_1<|J @frE.eq_2<|J @Qa1.eq_1<|J @Qa1.eq_2<|J @vrow.eq_1<|J @decA.eq_1<|J @decA.eq_2<|J @decA.eq_3<|J @decA.eq_4<|J @decA.eq_5<|J @decA.eq_6<|J @decA.eq_7<|J @decA.eq_8<|J @decA.eq_9<|J @decA.eq_10<|J @decA.eq_11<|J @decA.eq_12<|J @pureR.eq_1<|J @sgx.eq_1<|J @domB.eq_1<|J @kxB.eq_1<|@entOk.eq_1
def VC38:=J @entOk.eq_2<|J @Qhk.eq_1<|J @Qhk.eq_2<|J @roB.eq_1<|J @roB.eq_2<|J @retB3.eq_1<|J @retB3.eq_2<|J @retB2.eq_1<|J @retB1.eq_1<|J @retB1.eq_2<|J @retB.eq_1<|J @Qabl.eq_1<|J @Qabl.eq_2<|J @Qabl.eq_3<|J @Qc7.eq_1<|J @Qc7.eq_2<|J @Qc7.eq_3<|J @Qer.eq_1<|J @Qer.eq_2<|J @Qc2.eq_1<|J @Qc2.eq_2<|J @osn.eq_1<|J @Qhb.eq_1<|J @Qhb.eq_2<|J @Qxw.eq_1<|J @Qxw.eq_2<|J @klO.eq_1<|J @klO.eq_2<|J @scL.eq_1<|@scL.eq_2
def VC39:=J @frO.eq_1<|J @frA.eq_1<|J @frA.eq_2<|J @frAL.eq_1<|J @frAL.eq_2<|J @frB.eq_1<|J @frB.eq_2<|J @frB.eq_3<|J @frBL.eq_1<|J @frBL.eq_2<|J @frP.eq_1<|J @frP.eq_2<|J @frP.eq_3<|J @frP.eq_4<|J @retF1.eq_1<|J @retF1.eq_2<|J @retF.eq_1<|J @Qxj.eq_1<|J @Qxj.eq_2<|J @Qxj.eq_3<|J @Qwz.eq_1<|J @Qwz.eq_2<|J @bkMap.eq_1<|J @Qu4.eq_1<|J @Qu4.eq_2<|J @bkFn.eq_1<|J @bkFn.eq_2<|J @bkFn.eq_3<|J @bk.eq_1<|@bk.eq_2
def VC40:=J @bk.eq_3<|J @bk.eq_4<|J @bk.eq_5<|J @bk.eq_6<|J @bk.eq_7<|J @bk.eq_8<|J @bk.eq_9<|J @bk.eq_10<|J @bk.eq_11<|J @bk.eq_12<|J @bk.eq_13<|J @pkFP.eq_1<|J @pkFV.eq_1<|J @pkF.eq_1<|J @pkF.eq_2<|J @pkF.eq_3<|J @pkF.eq_4<|J @pkF.eq_5<|J @pkF.eq_6<|J @pkF.eq_7<|J @pkF.eq_8<|J @pkF.eq_9<|J @pkF.eq_10<|J @pkF.eq_11<|J @pkF.eq_12<|J @Qabo.eq_1<|J @Qabo.eq_2<|J @Qabo.eq_3<|J @pkFL.eq_1<|@pkFL.eq_2
def VC41:=J @Qct.eq_1<|J @Qct.eq_2<|J @decD.eq_1<|J @ef_fit1<|J @ef_fit2<|J @ef_fit3<|J @ef_fit4<|J @ef_resV0<|J @ef_resV2<|J @ef_resV3<|J @ef_resV4<|J @Qabq<|J @ef_condVC<|J @ef_pickV<|J @ef_tget<|J @ef_hget<|J @ef_hdel<|J @ef_ckP<|J @nv_int<|J @nv_bool<|J @nv_str<|J @nv_agg<|J @ns_int<|J @ns_bool<|J @ns_str<|J @ns_agg<|J @ns_ptr<|J @ns_map<|J @ns_nf<|@ns_ni
def VC42:=J @sc_move<|J @sc_assign<|J @sc_pick<|J @sc_alloc<|J @sc_box<|J @sc_build<|J @Qs8<|J @sc_load<|J @sc_store<|J @Qyd<|J @sc_binOp<|J @sc_unOp<|J @Qaa9<|J @Qyi<|J @Qaa8<|J @Qvy<|J @Qv2<|J @Qvr<|J @sc_index<|J @sc_lookup<|J @Qwt<|J @sc_insert<|J @Qabt<|J @sc_call<|J @sc_slice<|J @sc_range<|J @sc_next<|J @sc_entry<|J @Qyj<|@Qmy
def VC43:=J @sc_panic (@Qs9)
end Go.Ae
