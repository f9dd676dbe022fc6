/- Lemmas. Conditions: none. -/
import Derived.Test.YtelbgmfdnnljoabGreatDoorP04
set_option linter.all false
set_option maxHeartbeats 8000000
set_option maxRecDepth 100000
namespace Go.Ae
def BM:List D->Bool
 |[]=>true
 |x::r=>x.sc && BM r
def nK(K:D->Prop):Option Am->Prop
 |some (true,.arr _ k rows)=>Bj BM rows/\K (.sl false k rows)
 |_=>False
def nJ(h:Nat->Option Am)(K:D->Prop):AV->Prop
 | .im d=>d.scs=true/\K d
 | .own o=>nK K (h o)
 |_=>False
def J0(h:Nat->Option Am):List AV->(List D->Prop)->Prop
 |[],K=>K []
 |x::r,K=>nJ h (λd=>J0 h r λds=>K (d::ds)) x
def SN(h:Nat->Option Am)(K:D->Prop):AV->Prop
 | .im d=>d.scs=true/\K d
 | .own o=>nK K (h o)
 | .agg z=>J0 h z λds=>K (.agg ds)
 |_=>False
def Lj(h:Nat->Option Am):List AV->(List D->Prop)->Prop
 |[],K=>K []
 |x::r,K=>SN h (λd=>Lj h r λds=>K (d::ds)) x
def QP(h:Nat->Option Am)(K:D->Prop):AV->Prop
 | .im d=>d.scs=true/\K d
 | .own o=>nK K (h o)
 | .agg z=>J0 h z λds=>K (.agg ds)
 | .tup z=>Lj h z λds=>K (.tup ds)
 |_=>False
def Ns(R:D->Prop)(s:Az):Option (List AV)->Prop
 |some xs=>QP (hget s.h) R (Ds xs)
 |none=>False
def Lz(P:Program)(z:List ResultVar)(R:D->Prop)(s:Az):Prop:=Ns R s (Ax (KE P s) z)
def aX(P:Program)(z:List ResultVar)(R:D->Prop):Ct
 | .normal,s=>Lz P z R s
 | .ret,s=>Lz P z R s
 | .exit _,_=>False
def Nw: ∀(r:List D),BM r=true->r.all D.sc=true
 |[],_=>rfl
 |x::r,h=>by
  simp only[BM,AY] at h;simp[h.1,Nw r h.2]
def Ly{ok ok':Nat->Prop}{hp hp':Nat->Option Obj}: ∀(ds:List D) (vs:List Value),ds.all D.sc=true->rdp ok hp ds vs->rdp ok' hp' ds vs
 |[],_,_,_=>by simp only[rdp]
 |d::ds,vs,h,hd=>by
  simp only[rdp,EZ,AY] at hd h⊢;obtain⟨v,r,rfl,z,O⟩:=hd;exact⟨v,r,rfl,DH h.1 z,Ly ds r h.2 O⟩
def U7{ok ok':Nat->Prop}{hp hp':Nat->Option Obj}{k:Nat}: ∀(z:List (List D)) (vs:List Value),Bj BM z->rdr ok hp k z vs->rdr ok' hp' k z vs
 |[],_,_,_=>by simp only[rdr]
 |r::z,vs,h,hd=>by
  simp only[rdr] at hd⊢;exact⟨hd.1,Ly r vs (Nw r (h r (BU ..))) hd.2.1,U7 z _ (λx O=>h x (BQ _ O)) hd.2.2⟩
section
variable {C:Bb}{S:A7}
def Ud(C:Bb)(S:A7)(b:Nat):Prop:=C.w.heap.size<=b/\b<S.w.heap.size/\ ¬S.ok b
def Qzs(hM: ∀b,¬C.M b)(hW:Wf C S){K:D->Prop}{o:Nat}{v:Value}(Q:nK K (S.h o))(O:Aa S (.own o) v): ∃d,K d/\rd (Ud C S) S.hp d v:=by
 cases he:S.h o with
 |none=>rw[he] at Q;exact Q.elim
 |some e=>
  obtain⟨mu,e⟩:=e;rw[he] at Q;cases mu with
  |false=>cases e<;>exact Q.elim
  |true=>
  cases e with
  |arr T k rows=>
   simp only[nK] at Q;refine⟨_,Q.2,?_⟩;have z:=hW.obj o _ he;simp only[Aa] at O;obtain⟨_,O⟩:=O;have O:=O _ he;simp only[Ao] at z;cases hl:S.ρ o with
   |none=>
    rw[hl] at O z;simp only[rd];exact .inl ⟨.inl O,z.2⟩
   |some l=>
    rw[hl] at O z;obtain⟨h0,h1,vs,h2,h3,h4⟩:=z;obtain⟨q1,Z⟩:=hW.loc o _ l he hl;simp only[BD] at Z;simp only[rd];refine .inr ⟨l.b,l.p,l.cap,vs,T,(0,0),O,by simp,h1,h0,⟨?_,q1,Z.1⟩,h2,U7 rows _ Q.1 h4⟩;rcases Z.2 with h|h
    .exact h
    .exact absurd h (hM _)
  |_=>exact Q.elim
def SM(Q: ∀b,¬C.M b)(hW:Wf C S){K:D->Prop}{x:AV}{v:Value}(z:nJ S.h K x)(O:Aa S x v): ∃d,K d/\rd (Ud C S) S.hp d v:=by
 cases x with
 |im d=>
  simp only[nJ] at z;simp only[Aa] at O;exact⟨d,z.2,WT z.1 O⟩
 |own o=>
  simp only[nJ] at z;exact Qzs Q hW z O
 |_=>exact z.elim
def Qvx(Q: ∀b,¬C.M b)(hW:Wf C S): ∀(xs:List AV) (K:List D->Prop) (vs:List Value),J0 S.h xs K->AO S xs vs-> ∃ds,K ds/\rdl (Ud C S) S.hp ds vs
 |[],K,vs,O,z=>by
  simp only[J0] at O;simp only[AO] at z;exact⟨[],O,by simp only[rdl];exact z⟩
 |x::xs,K,vs,O,z=>by
  simp only[J0] at O;simp only[AO] at z;obtain⟨v,r,rfl,Z,h2⟩:=z;obtain⟨d,h3,h4⟩:=SM Q hW O Z;obtain⟨ds,h5,h6⟩:=Qvx Q hW xs _ r h3 h2;exact⟨d::ds,h5,by simp only[rdl];exact⟨v,r,rfl,h4,h6⟩⟩
def zP(Q: ∀b,¬C.M b)(hW:Wf C S){K:D->Prop}{x:AV}{v:Value}(z:SN S.h K x)(O:Aa S x v): ∃d,K d/\rd (Ud C S) S.hp d v:=by
 cases x with
 |im d=>
  simp only[SN] at z;simp only[Aa] at O;exact⟨d,z.2,WT z.1 O⟩
 |own o=>
  simp only[SN] at z;exact Qzs Q hW z O
 |agg Z=>
  simp only[SN] at z;simp only[Aa] at O;obtain⟨vs,rfl,h1⟩:=O;obtain⟨ds,h2,h3⟩:=Qvx Q hW Z _ _ z h1;exact⟨_,h2,by simp only[rd];exact⟨vs,rfl,h3⟩⟩
 |_=>exact z.elim
def Qvn(Q: ∀b,¬C.M b)(hW:Wf C S): ∀(xs:List AV) (K:List D->Prop) (vs:List Value),Lj S.h xs K->AO S xs vs-> ∃ds,K ds/\rdl (Ud C S) S.hp ds vs
 |[],K,vs,O,z=>by
  simp only[Lj] at O;simp only[AO] at z;exact⟨[],O,by simp only[rdl];exact z⟩
 |x::xs,K,vs,O,z=>by
  simp only[Lj] at O;simp only[AO] at z;obtain⟨v,r,rfl,Z,h2⟩:=z;obtain⟨d,h3,h4⟩:=zP Q hW O Z;obtain⟨ds,h5,h6⟩:=Qvn Q hW xs _ r h3 h2;exact⟨d::ds,h5,by simp only[rdl];exact⟨v,r,rfl,h4,h6⟩⟩
def Qzf(Q: ∀b,¬C.M b)(hW:Wf C S){K:D->Prop}{x:AV}{v:Value}(z:QP S.h K x)(O:Aa S x v): ∃d,K d/\rd (Ud C S) S.hp d v:=by
 cases x with
 |tup Z=>
  simp only[QP] at z;simp only[Aa] at O;obtain⟨vs,rfl,h1⟩:=O;obtain⟨ds,h2,h3⟩:=Qvn Q hW Z _ _ z h1;exact⟨_,h2,by simp only[rd];exact⟨vs,rfl,h3⟩⟩
 |im d=>exact zP (x:= .im d) Q hW (by simpa only[QP,SN] using z) O
 |own o=>exact zP (x:= .own o) Q hW (by simpa only[QP,SN] using z) O
 |agg Z=>exact zP (x:= .agg Z) Q hW (by simpa only[QP,SN] using z) O
 |_=>exact z.elim
end
def KM(f:AV->Option D):Option Am->Option D
 |some (_,.arr _ k rows)=>some (.sl false k rows)
 |some (_,.arrA _ k rows)=>(Ax (Ax f) rows).map (.sl false k)
 |_=>none
def Ma:Option Am->Option D
 |some (_,.map O z)=>some (.mp O z)
 |_=>none
def aS(f:AV->Option D)(off:Nat):Option Am->Option (List D)
 |some (_,.cells _ z)=>Ax f (z.drop off)
 |some (_,.view z)=>some (z.drop off)
 |_=>none
def OV(g:FuncId):Option (List D)->Option (List D)->Option D
 |some a,some c=>some (.fn g a c)
 |some _,none=>none
 |none,_=>none
def bk(h:Nat->Option Am):Nat->AV->Option D
 |0,_=>none
 |_+1,.im d=>some d
 |n+1,.agg z=>(Ax (bk h n) z).map .agg
 |n+1,.tup z=>(Ax (bk h n) z).map .tup
 |n+1,.own o=>KM (bk h n) (h o)
 |_+1,.mp o=>Ma (h o)
 |n+1,.ptr o off=>(aS (bk h n) off (h o)).map .ref
 |n+1,.clo f a c=>OV f (Ax (bk h n) a) (Ax (bk h n) c)
 |_+1,.any=>none
 |_+1,.eptr _ _ _=>none
 |_+1,.ch _=>none
 |_+1,.it _=>none
 |_+1,.osl _ _ _=>none
def JE(ds:Option (List D)):Option PK:=ds.map .ptr
def DR(d:Option D):Option PK:=d.map .val
def Mb(off:Nat):Option (List D)->Option (List D)
 |some r=>some (r.drop off)
 |none=>none
def XI(i off:Nat):Option Am->Option (List D)
 |some (_,.arr _ _ rows)=>Mb off rows[i]?
 |_=>none
def DE(h:Nat->Option Am):AV->Option PK
 | .im d=>some (FQ d)
 | .ptr o off=>JE (aS (bk h 8) off (h o))
 | .own o=>DR (bk h 9 (.own o))
 | .mp o=>DR (bk h 9 (.mp o))
 | .agg z=>DR (bk h 9 (.agg z))
 | .tup z=>DR (bk h 9 (.tup z))
 | .clo f a c=>DR (bk h 9 (.clo f a c))
 | .any=>none
 | .eptr o i off=>JE (XI i off (h o))
 | .ch _=>none
 | .it _=>none
 | .osl _ _ _=>none
def Gz:Option PK->Option (List PK)->Option (List PK)
 |some p,some z=>some (p::z)
 |some _,none=>none
 |none,_=>none
def Ce(h:Nat->Option Am):List AV->Option (List PK)
 |[]=>some []
 |x::r=>Gz (DE h x) (Ce h r)
def IA(f:AV->List Nat):Option Am->List Nat
 |some (_,.cells _ z)=>z.flatMap f
 |some (_,.arrA _ _ rows)=>rows.flatMap λr=>r.flatMap f
 |_=>[]
def Ab(h:Nat->Option Am):Nat->AV->List Nat
 |0,_=>[]
 |n+1,.agg z=>z.flatMap (Ab h n)
 |n+1,.tup z=>z.flatMap (Ab h n)
 |n+1,.own o=>o::IA (Ab h n) (h o)
 |_+1,.mp o=>[o]
 |n+1,.ptr o _=>o::IA (Ab h n) (h o)
 |n+1,.clo _ a c=>a.flatMap (Ab h n)++c.flatMap (Ab h n)
 |_+1,.eptr o _ _=>[o]
 |_+1,_=>[]
def Ew(h:Nat->Option Am)(xs:List AV):List Nat:=xs.flatMap (Ab h 9)
def A7.froz(S:A7):A7:=⟨S.ρ,λb=>S.ok b\/ ∃o e l,S.h o=some e/\S.ρ o=some l/\l.b=b,λo=>(S.h o).map λe=>(false,e.2),S.w⟩
def lQ{S:A7}{o:Nat}{e':Am}(h:S.froz.h o=some e'): ∃e,S.h o=some e/\e'=(false,e.2):=by
 simp only[A7.froz,D4] at h;obtain⟨e,z,rfl⟩:=h;exact⟨e,z,rfl⟩
def fF(S:A7):BP (λ_=>True) S S.froz:=by
 refine⟨λb Q=>⟨.inl Q,rfl⟩,λo _ e' z=> ?_⟩;obtain⟨e,O,rfl⟩:=lQ z;exact⟨e,O,rfl,rfl,rfl⟩
def bS(S:A7):Bb:=⟨S.w,λ_=>False,S.froz.ok,0,λ_=>none,λ_=>none,[]⟩
def mJ{C:Bb}{S:A7}(hW:Wf C S):Wf (bS S) S.froz:=by
 refine⟨rfl,rfl,rfl,AU _,AU _,λ_ _ _=>rfl,λ_ O=>O,λ_ O=> .inl O,?_,?_,?_,?_,hW.gp.mono λb o O ho=>⟨⟨.inl O,λh=>h.elim⟩,ho⟩⟩
 .rintro b (O|⟨o,e,l,Q,h2,rfl⟩)
  .exact hW.oks b O
  .exact (hW.loc o e l Q h2).1
 .intro o e' z;obtain⟨e,Q,rfl⟩:=lQ z;exact HF (fF S) (λ_ _=>rfl) _ (λ_ _=>trivial) (hW.obj o e Q)
 .intro o e' l z Z;obtain⟨e,Q,rfl⟩:=lQ z;exact⟨(hW.loc o e l Q Z).1,.inl (.inr ⟨o,e,l,Q,Z,rfl⟩)⟩
 .intro o o' e e' l l' he z _ _ _ hf;obtain⟨x,_,rfl⟩:=lQ he;obtain⟨x',_,rfl⟩:=lQ z;simp at hf
section
variable {C:Bb}{S:A7}{h:Nat->Option Am}
def Qql(hW:Wf C S){f:AV->Option D}{g:AV->List Nat}(hf: ∀x d v,(∀m∈g x,S.h m=h m)->f x=some d->Aa S x v->rd S.froz.ok S.froz.hp d v)
 {o off:Nat}{ds:List D}{v:Value}(h1:S.h o=h o)(hg: ∀m∈IA g (h o),S.h m=h m)(hd:aS f off (h o)=some ds)(O:Aa S (.ptr o off) v):
 ∃b p vs T fr,v= .pointer (some ⟨b,p,none⟩)/\S.froz.ok b/\S.froz.hp b=some (.cells vs T fr)/\rdp S.froz.ok S.froz.hp ds (vs.toList.drop p):=by
 have hL: ∀(cs:List AV) (ds:List D) (vs:List Value),(∀m∈cs.flatMap g,S.h m=h m)->Ax f cs=some ds->Cz S cs vs->rdp S.froz.ok S.froz.hp ds vs:=by
  intro cs;induction cs with
  |nil=>
   intro ds vs _ hd _;simp only[Ax,AN] at hd;subst hd;simp only[rdp]
  |cons x cs ih=>
   intro ds vs hh hd O;simp only[Ax] at hd;simp only[Cz] at O;obtain⟨v,r,rfl,h1,h2⟩:=O;split at hd
   .rename_i y ys hy ab;obtain rfl:=AJ hd;simp only[rdp];exact⟨v,r,rfl,hf x y v (λm Z=>hh m (by rw[Kb];exact KQ _ Z)) hy h1,ih ys r (λm Z=>hh m (by rw[Kb];exact RF _ Z)) ab h2⟩
   .cases hd
 simp only[Aa] at O;obtain⟨_,O⟩:=O;rw[<-h1] at hd hg;cases he:S.h o with
 |none=>rw[he] at hd;cases hd
 |some e=>
  obtain⟨l,hl,rfl⟩:=O e he;have aa:S.froz.ok l.b:= .inr ⟨o,e,l,he,hl,rfl⟩;obtain⟨mu,e⟩:=e;rw[he] at hd hg;have z:=hW.obj o _ he;rw[hl] at z;cases e with
  |cells T cs=>
   simp only[aS] at hd;simp only[Ao] at z;obtain⟨lc,vs,h3,h4,h5,h6⟩:=z;cases h3;refine⟨l.b,l.p+off,vs,T,(0,0),rfl,aa,h5,?_⟩;rw[h4,FN];simp only[IA] at hg;rcases Zfa off cs.length with Q|Q
   .refine hL _ _ _ (λm Z=>hg m ?_) hd (lE off cs _ (Xe _ _ h6) Q);obtain⟨x,k1,k2⟩:=vC.1 Z;exact vC.2 ⟨x,Zff k1,k2⟩
   .rw[DY Q] at hd;simp only[Ax,AN] at hd;subst hd;simp only[rdp]
  |view cs=>
   simp only[aS,AN] at hd;subst hd;simp only[Ao] at z;obtain⟨lc,vs,T,fr,h3,h5,h6⟩:=z;cases h3;refine⟨l.b,l.p+off,vs,T,fr,rfl,aa,h5,?_⟩;have Q:=VV (fF S).ok _ _ h6;rw[<-Es];rcases Zfa off cs.length with h|h
   .exact Q6 off cs _ Q h
   .rw[DY h];simp only[rdp]
  |_=>cases hd
def bM(hW:Wf C S): ∀(n:Nat) (x:AV) (d:D) (v:Value),(∀m∈Ab h n x,S.h m=h m)->bk h n x=some d->Aa S x v->rd S.froz.ok S.froz.hp d v:=by
 intro n;induction n with
 |zero=>intro x d v _ hd;simp[bk] at hd
 |succ n ih=>
  have hl: ∀(cs:List AV) (ds:List D) (vs:List Value),(∀m∈cs.flatMap (Ab h n),S.h m=h m)->Ax (bk h n) cs=some ds->AO S cs vs->rdl S.froz.ok S.froz.hp ds vs:=by
   intro cs;induction cs with
   |nil=>
    intro ds vs _ hd z;simp only[Ax,AN] at hd;subst hd;simpa only[AO,rdl] using z
   |cons x cs ac=>
    intro ds vs Q hd z;simp only[Ax] at hd;simp only[AO] at z;obtain⟨v,r,rfl,h1,h2⟩:=z;split at hd
    .rename_i y ys hy ab;obtain rfl:=AJ hd;simp only[rdl];exact⟨v,r,rfl,ih x y v (λm Z=>Q m (by rw[Kb];exact KQ _ Z)) hy h1,ac ys r (λm Z=>Q m (by rw[Kb];exact RF _ Z)) ab h2⟩
    .cases hd
  have hp: ∀(cs:List AV) (ds:List D) (vs:List Value),(∀m∈cs.flatMap (Ab h n),S.h m=h m)->Ax (bk h n) cs=some ds->Cz S cs vs->rdp S.froz.ok S.froz.hp ds vs:=by
   intro cs;induction cs with
   |nil=>
    intro ds vs _ hd z;simp only[Ax,AN] at hd;subst hd;simp only[rdp]
   |cons x cs ac=>
    intro ds vs Q hd z;simp only[Ax] at hd;simp only[Cz] at z;obtain⟨v,r,rfl,h1,h2⟩:=z;split at hd
    .rename_i y ys hy ab;obtain rfl:=AJ hd;simp only[rdp];exact⟨v,r,rfl,ih x y v (λm Z=>Q m (by rw[Kb];exact KQ _ Z)) hy h1,ac ys r (λm Z=>Q m (by rw[Kb];exact RF _ Z)) ab h2⟩
    .cases hd
  have hr: ∀(k:Nat) (rs:List (List AV)) (ds:List (List D)) (vs:List Value),(∀m∈rs.flatMap (λr=>r.flatMap (Ab h n)),S.h m=h m)->Ax (Ax (bk h n)) rs=some ds->BG S k rs vs->rdr S.froz.ok S.froz.hp k ds vs/\ds.length=rs.length:=by
   intro k rs;induction rs with
   |nil=>
    intro ds vs _ hd _;simp only[Ax,AN] at hd;subst hd;exact⟨by simp only[rdr],rfl⟩
   |cons x rs ac=>
    intro ds vs Q hd z;simp only[Ax] at hd;simp only[BG] at z;split at hd
    .rename_i y ys hy ab;obtain rfl:=AJ hd;obtain⟨k1,k2⟩:=ac ys _ (λm Z=>Q m (by rw[Kb];exact RF _ Z)) ab z.2.2;refine⟨?_,by simp[k2]⟩;simp only[rdr];exact⟨(fD _ _ hy).trans z.1,hp x y _ (λm Z=>Q m (by rw[Kb];exact KQ _ Z)) hy z.2.1,k1⟩
    .cases hd
  intro x d v Q hd z;cases x with
  |im d'=>
   simp only[bk,AN] at hd;subst hd;simp only[Aa] at z;exact Hm (fF S).ok _ _ z
  |agg cs=>
   simp only[bk,D4] at hd;obtain⟨ds,h1,rfl⟩:=hd;simp only[Aa] at z;obtain⟨vs,rfl,h2⟩:=z;simp only[rd];exact⟨vs,rfl,hl cs ds _ Q h1 h2⟩
  |tup cs=>
   simp only[bk,D4] at hd;obtain⟨ds,h1,rfl⟩:=hd;simp only[Aa] at z;obtain⟨vs,rfl,h2⟩:=z;simp only[rd];exact⟨vs,rfl,hl cs ds _ Q h1 h2⟩
  |own o=>
   simp only[Ab,Br] at Q;have h1:=Q o (.inl rfl);simp only[bk] at hd;simp only[Aa] at z;rw[<-h1] at hd Q;cases he:S.h o with
   |none=>rw[he] at hd;cases hd
   |some e=>
    have z:=z.2 e he;have O:=hW.obj o _ he;obtain⟨mu,e⟩:=e;rw[he] at hd Q;have ag: ∀l,S.ρ o=some l->S.froz.ok l.b:=λl hl=> .inr ⟨o,_,l,he,hl,rfl⟩
    have ah:=fF S;cases e with
    |arr T k rows=>
     simp only[KM,AN] at hd;subst hd;simp only[Ao] at O;simp only[rd];cases hl:S.ρ o with
     |none=>rw[hl] at z O;exact .inl ⟨.inl z,O.2⟩
     |some l=>
      rw[hl] at z O;obtain⟨h0,h2,vs,h3,h4,h5⟩:=O;exact .inr ⟨l.b,l.p,l.cap,vs,T,(0,0),z,by simp,h2,h0,ag l hl,h3,ZV ah.ok _ _ _ h5⟩
    |arrA T k rows=>
     simp only[KM,D4] at hd;obtain⟨ds,hd,rfl⟩:=hd;simp only[Ao] at O;simp only[rd];have aa:=fD _ _ hd;cases hl:S.ρ o with
     |none=>
      rw[hl] at z O;obtain⟨_,O⟩:=O;subst O;exact .inl ⟨.inl z,uZ (by simpa using aa)⟩
     |some l=>
      rw[hl] at z O;obtain⟨h0,h2,vs,h3,h4,h5⟩:=O;obtain⟨k1,k2⟩:=hr k rows ds _ (λm Z=>Q m (.inr (by simpa only[IA] using Z))) hd h5;simp only[Ac.len] at z;exact .inr ⟨l.b,l.p,l.cap,vs,T,(0,0),by rw[aa];exact z,by simp,by rw[aa];exact h2,by rw[aa];exact h0,ag l hl,h3,k1⟩
    |_=>cases hd
  |mp o=>
   have h1:=Q o (by simp[Ab]);simp only[bk] at hd;simp only[Aa] at z;rw[<-h1] at hd;cases he:S.h o with
   |none=>rw[he] at hd;cases hd
   |some e=>
    obtain⟨l,hl,rfl⟩:=z.2 e he;have O:=hW.obj o _ he;obtain⟨mu,e⟩:=e;rw[he] at hd;cases e with
    |map kt es=>
     simp only[Ma,AN] at hd;subst hd;rw[hl] at O;simp only[Ao] at O;obtain⟨lc,af,ad,h2,h3,h4,h5,h6⟩:=O;cases h2;simp only[rd];exact⟨l.b,af,ad,rfl,h3,.inr ⟨o,_,l,he,hl,rfl⟩,h4,LD (fF S).ok _ _ h5,h6⟩
    |_=>cases hd
  |ptr o off=>
   simp only[Ab,Br] at Q;simp only[bk,D4] at hd;obtain⟨ds,hd,rfl⟩:=hd;simp only[rd];exact Qql hW (g:=Ab h n) (λx d v h1 h2 h3=>ih x d v h1 h2 h3) (Q o (.inl rfl)) (λm Z=>Q m (.inr Z)) hd z
  |clo f a c=>
   simp only[Ab,B7] at Q;simp only[bk] at hd;cases ha:Ax (bk h n) a with
   |none=>rw[ha] at hd;cases hd
   |some da=>
    cases hcc:Ax (bk h n) c with
    |none=>rw[ha,hcc] at hd;cases hd
    |some dc=>
     rw[ha,hcc] at hd;simp only[OV,AN] at hd;subst hd;simp only[Aa] at z;obtain⟨va,vc,rfl,h3,h4⟩:=z;simp only[rd];exact⟨va,vc,rfl,hl a da _ (λm Z=>Q m (.inl Z)) ha h3,hl c dc _ (λm Z=>Q m (.inr Z)) hcc h4⟩
  |_=>simp[bk] at hd
def sH(hW:Wf C S){x:AV}{p:PK}{v:Value}(Q: ∀m∈Ab h 9 x,S.h m=h m)(hp:DR (bk h 9 x)=some p)(O:Aa S x v):IV S.froz p v:=by
 simp only[DR,D4] at hp;obtain⟨d,z,rfl⟩:=hp;simp only[IV];exact bM hW 9 x d v Q z O
def OU(hW:Wf C S){o i off:Nat}{ds:List D}{v:Value}(h1:S.h o=h o)(hd:XI i off (h o)=some ds)(O:Aa S (.eptr o i off) v):
 ∃b p Q T fr,v= .pointer (some ⟨b,p,none⟩)/\S.froz.ok b/\S.froz.hp b=some (.cells Q T fr)/\rdp S.froz.ok S.froz.hp ds (Q.toList.drop p):=by
 simp only[Aa] at O;obtain⟨_,O⟩:=O;rw[<-h1] at hd;cases he:S.h o with
 |none=>rw[he] at hd;cases hd
 |some e=>
  obtain⟨l,hl,rfl⟩:=O e he;have aa:S.froz.ok l.b:= .inr ⟨o,e,l,he,hl,rfl⟩;obtain⟨mu,e⟩:=e;rw[he] at hd;have z:=hW.obj o _ he;rw[hl] at z;cases e with
  |arr T k rows=>
   simp only[XI] at hd;cases hr:rows[i]? with
   |none=>rw[hr] at hd;cases hd
   |some r=>
    rw[hr] at hd;simp only[Mb,AN] at hd;subst hd;simp only[Ao] at z;obtain⟨_,_,Q,h5,_,h6⟩:=z;obtain⟨g1,g2⟩:=dU rows _ i h6 hr;refine⟨l.b,l.p+i*k+off,Q,T,(0,0),rfl,aa,h5,?_⟩;have h7:=VV (fF S).ok _ _ g2;rw[Es] at h7;rcases Zfa off r.length with Z|Z
    .have:=Q6 off r _ h7 Z
     rwa [Es] at this
    .rw[DY Z];simp only[rdp]
  |_=>cases hd
def Ur(hW:Wf C S){x:AV}{p:PK}{v:Value}(z: ∀m∈Ab h 9 x,S.h m=h m)(hp:DE h x=some p)(O:Aa S x v):IV S.froz p v:=by
 cases x with
 |im d=>
  simp only[DE,AN] at hp;subst hp;simp only[Aa] at O;exact Qyv (mJ hW) (Hm (fF S).ok d v O)
 |ptr o off=>
  simp only[Ab,Br] at z;simp only[DE,JE,D4] at hp;obtain⟨ds,Q,rfl⟩:=hp;obtain⟨b,q,vs,T,fr,Z,h3,h4,h5⟩:=Qql hW (g:=Ab h 8) (λx d v Q Z h3=>bM hW 8 x d v Q Z h3) (z o (.inl rfl)) (λm hm=>z m (.inr hm)) Q O;simp only[IV];exact⟨b,q,vs,T,fr,Z,(mJ hW).oks b h3,h4,h5⟩
 |eptr o i off=>
  simp only[Ab,Br,OI,LV] at z;simp only[DE,JE,D4] at hp;obtain⟨ds,Q,rfl⟩:=hp;obtain⟨b,q,vs,T,fr,Z,h3,h4,h5⟩:=OU hW (z o rfl) Q O;simp only[IV];exact⟨b,q,vs,T,fr,Z,(mJ hW).oks b h3,h4,h5⟩
 |own o=>exact sH hW z hp O
 |mp o=>exact sH hW z hp O
 |agg cs=>exact sH hW z hp O
 |tup cs=>exact sH hW z hp O
 |clo f a c=>exact sH hW z hp O
 |_=>cases hp
def Qtx(hW:Wf C S): ∀(xs:List AV) (ps:List PK) (vs:List Value),(∀m∈Ew h xs,S.h m=h m)->Ce h xs=some ps->AO S xs vs->Fc S.froz ps vs
 |[],ps,vs,_,hp,z=>by
  simp only[Ce,AN] at hp;subst hp;simp only[AO] at z;simp only[Fc];exact z
 |x::xs,ps,vs,Q,hp,z=>by
  simp only[Ce] at hp;simp only[AO] at z;obtain⟨v,r,rfl,Z,h2⟩:=z;cases hx:DE h x with
  |none=>rw[hx] at hp;cases hp
  |some p=>
   cases hr:Ce h xs with
   |none=>rw[hx,hr] at hp;cases hp
   |some qs=>
    rw[hx,hr] at hp;simp only[Gz,AN] at hp;subst hp;simp only[Fc];refine⟨v,r,rfl,Ur hW (λm O=>Q m ?_) hx Z,Qtx hW xs qs r (λm O=>Q m ?_) hr h2⟩
    .simp only[Ew,Kb];exact KQ _ O
    .simp only[Ew,Kb];exact RF _ O
end
def Qu{P:Program}(HM:P.follows .mixedOrders=true){V:Dn}(hV:KJ P V){g:FuncId}{fn:Func}{c:Code}(hf:P.funcs[g]? =some fn)(hb:fn.body=some c)(ab:Eu fn.ntmps c=true)
 {ps:List PK}(ao:ps.length<=fn.ntmps){R:D->Prop}
 (hk:Di P V c (aX P fn.results.toList R) ⟨entry 0 (Da 0 ps),CY 0 ps,BV ps⟩)
 {C:Bb}{S:A7}{vs:Array Value}{RR:Ending->World->Prop}(hW:Wf C S)(af:Fc S ps vs.toList)
 (ac: ∀(v:Value) (O:Bb) (S1:A7) (d:D),O.w=S.w->O.ok=S.ok->(∀b,¬O.M b)->Wf O S1->R d->rd (Ud O S1) S1.hp d v->RR (.returned v) S1.w):Calls P g vs S.w RR:=by
 refine calls_of_wp hf hb ?_;have an:vs.size=(Da 0 ps).length:=by rw[ZS];simpa using af.len
 obtain⟨ls,ad,hcl⟩:=mB ps vs.toList 0 af
 let S0:A7:=⟨ls,S.ok,hget (CY 0 ps),S.w⟩
 let O:Bb:=⟨S.w,λ_=>False,S.ok,0,λ_=>none,λ_=>none,[]⟩
 have ai:Wf O S0:=by
  refine⟨rfl,rfl,rfl,AU _,AU _,λ_ _ _=>rfl,λ_ hb=>hb,λ_ hb=> .inl hb,hW.oks,?_,?_,?_,hW.glN λ_ h=>h.elim⟩
  .intro n e z;obtain⟨l,Q,_,h3⟩:=ad n e z;have h4:S0.ρ n=some l:=Q;rw[h4];obtain⟨_,cs,rfl⟩:=GF 0 ps n e z;simp only[Ao] at h3⊢;exact h3
  .intro n e l z hl;obtain⟨l',Q,h2,h3⟩:=ad n e z;have h4:S0.ρ n=some l':=Q;rw[h4] at hl;obtain rfl:=AJ hl;obtain⟨_,cs,rfl⟩:=GF 0 ps n e z;exact⟨h2,.inr rfl⟩
  .intro n n' e e' l l' z ak hl av au am;obtain⟨_,cs,rfl⟩:=GF 0 ps n e z;obtain⟨_,aq,rfl⟩:=GF 0 ps n' e' ak;simp at am
 have aj:BN O fn.ntmps ⟨entry 0 (Da 0 ps),CY 0 ps,BV ps⟩ {tmps:=vs++Array.replicate (fn.ntmps - vs.size) undef,defers:=[]} S.w:=by
  have Z:AO S0 (Da 0 ps) vs.toList:=hcl S0 rfl rfl (λn _=>⟨rfl,rfl⟩);refine⟨S0,rfl,ai,λn=>rfl,?_,?_,?_,by simp;rw[ZS] at an;omega,rfl,C5 _,λo ho=>absurd ho (vH _)⟩
  .intro t;have Q:=lD (S:=S0) (Da 0 ps) vs.toList 0 t Z;simp only[C5,BD,nA] at Q
   have:({tmps:=vs++Array.replicate (fn.ntmps - vs.size) undef,defers:=[]}:Act).eval (.tmp t)=(vs.toList[t]?).getD undef:=by
    simp only[Act.eval,Im,vB,gT];by_cases ht:t<vs.size
    .simp[ht]
    .simp only[ht,CO]
     have:vs[t]? =none:=XB (by omega)
     simp only[KS,this]
     split<;>rfl
   rw[this];exact Q
  .intro t m hm;exact sD 0 ps (BV ps) (by omega) m (lK (Da 0 ps) 0 t m hm)
  .intro n e z;obtain⟨Q,cs,rfl⟩:=GF 0 ps n e z;exact⟨by show n<BV ps;omega,by simp[Ac.nms]⟩
 refine wp_mono (Qo4 HM (uK hV) c ab _ _ _ _ hk aj) ?_;have fin: ∀(s:Az) (a:Act) (w:World),Lz P fn.results.toList R s->BN O fn.ntmps s a w->a.defers=[]/\ ∃v,(results fn a.tmps).run P w= .ok v w/\RR (.returned v) w:=by
  rintro s a w hr ⟨S1,rfl,hc⟩;unfold Lz at hr;cases hxs:Ax (KE P s) fn.results.toList with
  |none=>rw[hxs] at hr;exact hr.elim
  |some xs=>
   rw[hxs] at hr;simp only[Ns] at hr;obtain⟨v,ag,aa⟩:=rL hc hxs;refine⟨hc.defers,v,ag,?_⟩;have ah:hget s.h=S1.h:=(funext hc.h).symm;rw[ah] at hr;obtain⟨d,Q,h2⟩:=Qzf (λ_ h=>h) hc.wf hr aa;exact ac v O S1 d rfl rfl (λ_ h=>h) hc.wf Q h2
 intro e a w z;cases e<;>simp only[Hb] at z<;>simp only[bodyPost]
 .obtain⟨s,hs,hc⟩:=z;exact fin s a w hs hc
 .obtain⟨s,hs,_⟩:=z;exact hs.elim
 .obtain⟨s,hs,hc⟩:=z;exact fin s a w hs hc
def VP{A:Type}(ar:List PK->Option A)(pre:A->Prop)(re:A->D)(u:List Nat)(K:Ah):Option (List PK)->Prop
 |some z=>DZ (λa=>pre a/\K (.im (re a)) {use:=u}) (ar z)
 |none=>False
def R1{A:Type}(ar:List PK->Option A)(pre:A->Prop)(re:A->D):AF:=λargs h _ K=>VP ar pre re (Ew h args) K (Ce h args)
def AT{B:Type}(rc:D->Option B)(b:B)(d:D):Prop:=rc d=some b
def Quy{P:Program}{g:FuncId}(ag:GS P g=true)
 {A B:Type}{ar:List PK->Option A}{ae:A->List PK}(aw: ∀ps a,ar ps=some a->Cy ps (ae a)){rc:D->Option B}{re:B->D}(ay: ∀d b,rc d=some b->Le d (re b))
 {pre:A->Prop}{f:A->B}
 (aj: ∀a,pre a-> ∀{C:Bb} {S:A7} {vs:Array Value} {RR:Ending->World->Prop},Wf C S->Fc S (ae a) vs.toList->
  (∀(v:Value) (C0:Bb) (S1:A7) (d:D),C0.w=S.w->C0.ok=S.ok->(∀b,¬C0.M b)->Wf C0 S1->AT rc (f a) d->rd (Ud C0 S1) S1.hp d v->RR (.returned v) S1.w)->Calls P g vs S.w RR):
 HC P g (R1 ar pre λa=>re (f a)):=by
 intro args h nx K z;unfold R1 at z;cases hp:Ce h args with
 |none=>rw[hp] at z;exact z.elim
 |some ps=>
  rw[hp] at z;simp only[VP] at z;cases ha:ar ps with
  |none=>rw[ha] at z;exact z.elim
  |some a=>
   rw[ha] at z;simp only[DZ] at z;obtain⟨ai,hK⟩:=z;refine⟨aA ag,_,_,?_,hK⟩;intro C S vs RR hW ak am an ac ah;have ax:=Qtx hW args ps vs.toList (λm hm=>ak m (KQ _ hm)) hp ac;have au:=mJ hW;refine aj a ai (S:=S.froz) au ((aw ps a ha).c ax) ?_;intro v C0 S1 d O af ao aa hR az;have O:C0.w=S.w:=O;have af:C0.ok=S.froz.ok:=af;have Z: ∀b,b<S.w.heap.size->S1.w.heap[b]? =S.w.heap[b]? :=λb Q=>by
    have:=aa.keep b (by rw[O];exact Q) (ao b)
    rw[O] at this;exact this
   have ad:S.w.heap.size<=S1.w.heap.size:=by have:=aa.size;rw[O] at this;exact this
   let S':A7:={S with ok:=λb=>S.ok b\/Ud C0 S1 b,w:=S1.w}
   have hp':BP (λ_=>True) S S':=⟨λb Q=>⟨.inl Q,Z b (hW.oks b Q)⟩,λo _ e' av=>⟨e',av,rfl,rfl,rfl⟩⟩;have ab: ∀b,Ud C0 S1 b->S.w.heap.size<=b:=λb Q=>by have:=Q.1;rw[O] at this;exact this
   have aq:Wf C S':=by
    refine⟨?_,?_,?_,CS hW.dr (by have:=aa.dr;rw[O] at this;exact this),CS hW.size ad,?_,λb Q=> .inl (hW.ok0 b Q),?_,?_,?_,?_,hW.inj,hW.gl⟩
    .exact aa.os.trans (by rw[O];exact hW.os)
    .exact aa.tape.trans (by rw[O];exact hW.tape)
    .exact aa.output.trans (by rw[O];exact hW.output)
    .intro b Q hM;exact (Z b (FM Q hW.size)).trans (hW.keep b Q hM)
    .rintro b (Q|Q)
     .exact hW.ok1 b Q
     .exact .inr (.inl (CS hW.size (ab b Q)))
    .rintro b (Q|Q)
     .exact FM (hW.oks b Q) ad
     .exact Q.2.1
    .intro o e he;exact HF hp' (λlc hl=>Z lc.b (hW.loc o e lc he hl).1) _ (λ_ _=>trivial) (hW.obj o e he)
    .intro o e l he hl;obtain⟨h2,h3⟩:=hW.loc o e l he hl;refine⟨FM h2 ad,?_⟩;cases hm:e.1 with
     |false=>
      rw[hm] at h3;simp only[Df,CO] at h3⊢;exact h3.imp (λh=> .inl h) id
     |true=>
      rw[hm] at h3;simp only[BD] at h3⊢;refine⟨?_,h3.2⟩;rintro (h|h)
      .exact h3.1 h
      .have:=ab _ h;omega
   refine ah v S' aq ?_ ⟨hp'.ok,λo _=>hp'.nm o trivial⟩ ?_
   .show S.h=_;funext m;simp[B5.appf,hget]
   .simp only[Aa];have h9:=ay _ _ hR _ _ _ az;exact Hm (λb Q=>⟨.inr Q,rfl⟩) _ _ h9
def Qbn{P:Program}(HM:P.follows .mixedOrders=true){V:Dn}(hV:KJ P V){g:FuncId}{fn:Func}{c:Code}(hf:P.funcs[g]? =some fn)(hb:fn.body=some c)(O:Eu fn.ntmps c=true)(z:GS P g=true)
 {A B:Type}{ar:List PK->Option A}{ae:A->List PK}(aa: ∀ps a,ar ps=some a->Cy ps (ae a)){n:Nat}(hn: ∀a,(ae a).length=n)(ab:n<=fn.ntmps){rc:D->Option B}{re:B->D}(ad: ∀d b,rc d=some b->Le d (re b))
 {pre:A->Prop}{f:A->B}
 (hk: ∀a,pre a->Di P V c (aX P fn.results.toList (AT rc (f a))) ⟨entry 0 (Da 0 (ae a)),CY 0 (ae a),BV (ae a)⟩):
 HC P g (R1 ar pre λa=>re (f a)):=
 Quy z aa ad (λa Z _ _ _ _ hW ac Q=>Qu HM hV hf hb O (by rw[hn];exact ab) (hk a Z) hW ac Q)
def XT(ks:List KK)(ds:List D):KT.fit ⟨true,ks⟩ (.agg ds)=BB ks ds:=rfl
def XU(ks:List KK)(k:IntKind)(n:Int):KT.fit ⟨false,ks⟩ (.int k n)=BB ks [.int k n]:=rfl
def XV(ks:List KK)(s:ByteArray):KT.fit ⟨false,ks⟩ (.str s)=BB ks [.str s]:=rfl
def XW(ks:List KK)(s:Bool):KT.fit ⟨false,ks⟩ (.bool s)=BB ks [.bool s]:=rfl
def S8:Ds []= .tup []:=rfl
def S9(x y:AV):Ds [x,y]= .tup [x,y]:=rfl
def SA(x y z:AV):Ds [x,y,z]= .tup [x,y,z]:=rfl
def SB(x y z w:AV):Ds [x,y,z,w]= .tup [x,y,z,w]:=rfl
def Qabq(t:Option Nat)(z:Bool)(s:Az)(Kdo Kskip:Az->Prop)(b:Bool):Xm t z s Kdo Kskip (.im (.bool b))=if b=z then Kdo (s.put t (.im (.bool z))) else Kskip (s.put t (.im (.bool (!z)))):=by
 cases b<;>cases z<;>simp[Xm]
def Ph(A B:Ct->Az->Prop)(Q:Ct)(s:Az)(b:Bool):uH A B Q s (.im (.bool b))=if b=true then A Q s else B Q s:=by
 cases b<;>simp[uH]
def S7(c:Bool)(K:Ah)(a b:AV):Nb c K a b=if c=true then K a {} else K b {}:=by
 cases c<;>simp[Nb]
def XZ(m:Nat)(x:AV)(r:List (Nat×AV))(n:Nat):AE ((m,x)::r) n=if m=n then x else AE r n:=by
 by_cases h:m=n
 .subst h;simp[AE]
 .have:(m==n)=false:=by simpa using h
  simp[AE,this,h]
def XY(m:Nat)(x:Am)(r:An)(n:Nat):hget ((m,x)::r) n=if m=n then some x else hget r n:=by
 by_cases h:m=n
 .subst h;simp[hget]
 .have:(m==n)=false:=by simpa using h
  simp[hget,this,h]
def XX(m:Nat)(x:Am)(r:An)(ks:List Nat):AW ((m,x)::r) ks=if ks.contains m=true then AW r ks else (m,x)::AW r ks:=by
 cases h:ks.contains m<;>simp only[AW,h]<;>simp
def iG(cl:List (List Nat))(j:Nat)(use touch z:List Nat)(f:Fp):bO cl j use touch z f=if (Gs (use++touch) f.touch && (Gs touch f.use && EU f.nx f.cnt z))=true then true else Ed cl f.i j:=by
 unfold bO;cases (Gs (use++touch) f.touch && (Gs touch f.use && EU f.nx f.cnt z))<;>rfl
def jA(k:IntKind)(n:Int):Gj (.int k n)=0:=rfl
def YE(b:Bool):Gj (.bool b)=0:=rfl
def jB(s:ByteArray):Gj (.string s)=0:=rfl
def iZ(cs:Array Value):Gj (.agg cs)=0:=rfl
def iV(k:IntKind)(n:Int):Rw (.int k n)=false:=rfl
def YC(b:Bool):Rw (.bool b)=false:=rfl
def iY(s:ByteArray):Rw (.string s)=false:=rfl
def iU(cs:Array Value):Rw (.agg cs)=false:=rfl
def iX(a:Option Addr):Rw (.pointer a)=false:=rfl
def iW(a:Option Nat):Rw (.map a)=false:=rfl
def xC:Rw .nilFunc=false:=rfl
def xD:Rw .nilIface=false:=rfl
section
variable (P:Program)(V:Dn)(tm:List (Nat×AV))(h:Nat->Option Am)(nx:Nat)(ty:TypeId)(K:Ah)
def Zc(x:Operand):DV P V tm h nx ty K (.move x)=step P V true tm h nx ty K (.move x):=rfl
def PP(x:Operand):DV P V tm h nx ty K (.assign x)=step P V true tm h nx ty K (.assign x):=rfl
def Ze(c:Operand)(a:Operand)(b:Operand):DV P V tm h nx ty K (.pick c a b)=step P V true tm h nx ty K (.pick c a b):=rfl
def UR(t:TypeId):DV P V tm h nx ty K (.alloc t)=step P V true tm h nx ty K (.alloc t):=rfl
def jV(t:TypeId)(x:Operand):DV P V tm h nx ty K (.box t x)=step P V true tm h nx ty K (.box t x):=rfl
def UT(t:TypeId)(ps:Array (Nat×Operand)):DV P V tm h nx ty K (.build t ps)=step P V true tm h nx ty K (.build t ps):=rfl
def Qs8(t:TypeId)(n:Nat)(ps:Array (Nat×Operand)):DV P V tm h nx ty K (.buildSlice t n ps)=step P V true tm h nx ty K (.buildSlice t n ps):=rfl
def Zb(t:TypeId)(x:Operand):DV P V tm h nx ty K (.load t x)=step P V true tm h nx ty K (.load t x):=rfl
def Va(t:TypeId)(x:Operand)(v:Operand):DV P V tm h nx ty K (.store t x v)=step P V true tm h nx ty K (.store t x v):=rfl
def Qyd(x:Operand):DV P V tm h nx ty K (.nilCheck x)=step P V true tm h nx ty K (.nilCheck x):=rfl
def US(op:BinOp)(t:TypeId)(x:Operand)(y:Operand)(u:TypeId):DV P V tm h nx ty K (.binOp op t x y u)=step P V true tm h nx ty K (.binOp op t x y u):=rfl
def Zf(op:UnOp)(t:TypeId)(x:Operand):DV P V tm h nx ty K (.unOp op t x)=step P V true tm h nx ty K (.unOp op t x):=rfl
def Qaa9(s:TypeId)(t:TypeId)(x:Operand):DV P V tm h nx ty K (.convert s t x)=step P V true tm h nx ty K (.convert s t x):=rfl
def Qyi(f:Fn)(a:Array Operand)(c:Array Operand):DV P V tm h nx ty K (.makeFunc f a c)=step P V true tm h nx ty K (.makeFunc f a c):=rfl
def Qaa8(t:TypeId)(r:Option Operand):DV P V tm h nx ty K (.makeMap t r)=step P V true tm h nx ty K (.makeMap t r):=rfl
def Qvy(t:TypeId)(l:Operand)(c:Operand):DV P V tm h nx ty K (.makeSlice t l c)=step P V true tm h nx ty K (.makeSlice t l c):=rfl
def Qv2(t:TypeId)(x:Operand)(f:Nat):DV P V tm h nx ty K (.fieldAddr t x f)=step P V true tm h nx ty K (.fieldAddr t x f):=rfl
def Qvr(t:TypeId)(x:Operand)(i:Operand):DV P V tm h nx ty K (.indexAddr t x i)=step P V true tm h nx ty K (.indexAddr t x i):=rfl
def UW(t:TypeId)(x:Operand)(i:Operand):DV P V tm h nx ty K (.index t x i)=step P V true tm h nx ty K (.index t x i):=rfl
def PR(t:TypeId)(m:Operand)(k:Operand)(ok:Bool):DV P V tm h nx ty K (.lookup t m k ok)=step P V true tm h nx ty K (.lookup t m k ok):=rfl
def Qwt(t:TypeId)(m:Operand)(k:Operand)(v:Operand):DV P V tm h nx ty K (.mapUpdate t m k v)=step P V true tm h nx ty K (.mapUpdate t m k v):=rfl
def PQ(t:TypeId)(m:Operand)(k:Operand)(v:Operand):DV P V tm h nx ty K (.insert t m k v)=step P V true tm h nx ty K (.insert t m k v):=rfl
def Qabt(x:Operand)(i:Nat):DV P V tm h nx ty K (.extract x i)=step P V true tm h nx ty K (.extract x i):=rfl
def UV(t:TypeId)(x:Operand)(i:Nat):DV P V tm h nx ty K (.field t x i)=step P V true tm h nx ty K (.field t x i):=rfl
def Za(c:Call):DV P V tm h nx ty K (.call c)=step P V true tm h nx ty K (.call c):=rfl
def UZ(t:TypeId)(x:Operand)(lo:Option Operand)(z:Option Operand)(O:Option Operand):DV P V tm h nx ty K (.slice t x lo z O)=step P V true tm h nx ty K (.slice t x lo z O):=rfl
def UY(t:TypeId)(x:Operand):DV P V tm h nx ty K (.range t x)=step P V true tm h nx ty K (.range t x):=rfl
def Zd(x:Operand)(b:Bool):DV P V tm h nx ty K (.next x b)=step P V true tm h nx ty K (.next x b):=rfl
def UU(x:Operand):DV P V tm h nx ty K (.entry x)=step P V true tm h nx ty K (.entry x):=rfl
def Qyj(t:TypeId)(x:Operand):DV P V tm h nx ty K (.makeChan t x)=step P V true tm h nx ty K (.makeChan t x):=rfl
def Qmy(t:TypeId)(x:Operand):DV P V tm h nx ty K (.makeInterface t x)=step P V true tm h nx ty K (.makeInterface t x):=rfl
def UX(x:Operand):DV P V tm h nx ty K (.panic x)=step P V true tm h nx ty K (.panic x):=rfl
def Qs9(x:Operand)(t:TypeId)(u:TypeId)(ok:Bool):DV P V tm h nx ty K (.typeAssert x t u ok)=step P V true tm h nx ty K (.typeAssert x t u ok):=rfl
end
def J{a b:Prop}(x:a)(y:b):a/\b:=⟨x,y⟩
def VC0:=J @AE.eq_1<|J @hget.eq_1<|J @AW.eq_1<|J @Az.put.eq_1<|J @Az.put.eq_2<|J @Az.app_nr<|J @kD.eq_1<|J @kD.eq_2<|J @kD.eq_3<|J @kD.eq_4<|J @kD.eq_5<|J @kD.eq_6<|J @kD.eq_7<|J @kD.eq_8<|J @kD.eq_9<|J @Ay.eq_1<|J @Ay.eq_2<|J @Ay.eq_3<|J @Ay.eq_4<|J @D.cells.eq_1<|J @D.cells.eq_2<|J @D.cells.eq_3<|J @D.cells.eq_4<|J @D.cells.eq_5<|J @D.cells.eq_6<|J @D.cells.eq_7<|J @D.cells.eq_8<|J @D.cells.eq_9<|J @D.cells.eq_10<|@D.cells.eq_11
def VC1:=J @D.cells.eq_12<|J @D.cells.eq_13<|J @D.cells.eq_14<|J @D.cells.eq_15<|J @D.cells.eq_16<|J @D.cells.eq_17<|J @AV.cells.eq_1<|J @AV.cells.eq_2<|J @AV.cells.eq_3<|J @AV.cells.eq_4<|J @AV.cells.eq_5<|J @AV.cells.eq_6<|J @AV.cells.eq_7<|J @AV.cells.eq_8<|J @AV.cells.eq_9<|J @AV.cells.eq_10<|J @AV.cells.eq_11<|J @AV.cells.eq_12<|J @D.one.eq_1<|J @D.one.eq_2<|J @D.one.eq_3<|J @D.one.eq_4<|J @D.one.eq_5<|J @D.one.eq_6<|J @D.one.eq_7<|J @D.one.eq_8<|J @D.one.eq_9<|J @D.one.eq_10<|J @D.one.eq_11<|@D.one.eq_12
def VC2:=J @D.one.eq_13<|J @D.one.eq_14<|J @D.one.eq_15<|J @D.one.eq_16<|J @D.one.eq_17<|J @AV.one.eq_1<|J @AV.one.eq_2<|J @AV.one.eq_3<|J @AV.one.eq_4<|J @AV.one.eq_5<|J @AV.one.eq_6<|J @AV.one.eq_7<|J @AV.one.eq_8<|J @AV.one.eq_9<|J @AV.one.eq_10<|J @AV.one.eq_11<|J @AV.one.eq_12<|J @R5.eq_1<|J @R5.eq_2<|J @AV.asD.eq_1<|J @AV.asD.eq_2<|J @AV.asD.eq_3<|J @AV.asD.eq_4<|J @AV.asD.eq_5<|J @AV.asD.eq_6<|J @AV.asD.eq_7<|J @AV.asD.eq_8<|J @AV.asD.eq_9<|J @AV.asD.eq_10<|J @AV.asD.eq_11<|@AV.asD.eq_12
def VC3:=J @O7.eq_1<|J @O7.eq_2<|J @O7.eq_3<|J @DA.eq_1<|J @DA.eq_2<|J @Y6.eq_1<|J @Y6.eq_2<|J @hdV.eq_1<|J @hdV.eq_2<|J @nM.eq_1<|J @nM.eq_2<|J @iQ.eq_1<|J @cB.eq_1<|J @Ch.eq_1<|J @D.beq.eq_1<|J @D.beq.eq_2<|J @D.beq.eq_3<|J @D.beq.eq_4<|J @D.beql.eq_1<|J @D.beql.eq_2<|J @lk.eq_1<|J @lk.eq_2<|J @EF.eq_1<|J @EF.eq_2<|J @Mm.eq_1<|J @Mm.eq_2<|J @fW.eq_1<|J @uP.eq_1<|J @J6.eq_1<|@J6.eq_2
def VC4:=J @J5.eq_1<|J @J5.eq_2<|J @X0.eq_1<|J @X0.eq_2<|J @X0.eq_3<|J @X0.eq_4<|J @Yx.eq_1<|J @Yx.eq_2<|J @Qxz.eq_1<|J @Qyo.eq_1<|J @Vd.eq_1<|J @JJ.eq_1<|J @JJ.eq_2<|J @sB.eq_1<|J @sB.eq_2<|J @Qri.eq_1<|J @RO.eq_1<|J @RO.eq_2<|J @Li.eq_1<|J @Li.eq_2<|J @Li.eq_3<|J @Yc.eq_1<|J @Yc.eq_2<|J @faK.eq_1<|J @yO.eq_1<|J @wV.eq_1<|J @M5.eq_1<|J @M5.eq_2<|J @Th.eq_1<|@Tg.eq_1
def VC5:=J @Tg.eq_2<|J @Tg.eq_3<|J @M4.eq_1<|J @M4.eq_2<|J @Bn.eq_1<|J @Bn.eq_2<|J @wQ.eq_1<|J @wQ.eq_2<|J @Qjp.eq_1<|J @Tt.eq_1<|J @kCh.eq_1<|J @ixK.eq_1<|J @ixK.eq_2<|J @Qxc.eq_1<|J @Hj.eq_1<|J @Hj.eq_2<|J @Hj.eq_3<|J @Hj.eq_4<|J @Hj.eq_5<|J @Hj.eq_6<|J @Hj.eq_7<|J @Hj.eq_8<|J @Hj.eq_9<|J @Hj.eq_10<|J @Hj.eq_11<|J @Hj.eq_12<|J @Hj.eq_13<|J @Hj.eq_14<|J @Hj.eq_15<|J @Hj.eq_16<|@Hj.eq_17
def VC6:=J @Jk.eq_1<|J @Jk.eq_2<|J @Jk.eq_3<|J @Jk.eq_4<|J @Jk.eq_5<|J @Jk.eq_6<|J @Jk.eq_7<|J @Jk.eq_8<|J @Jk.eq_9<|J @Jk.eq_10<|J @Jk.eq_11<|J @Jk.eq_12<|J @Jk.eq_13<|J @Jk.eq_14<|J @bP.eq_1<|J @SE.eq_1<|J @uF.eq_1<|J @uF.eq_2<|J @uF.eq_3<|J @uF.eq_4<|J @W7.eq_1<|J @W7.eq_2<|J @W7.eq_3<|J @Xu.eq_1<|J @Xu.eq_2<|J @Xu.eq_3<|J @Om.eq_1<|J @Om.eq_2<|J @Om.eq_3<|@JM.eq_1
def VC7:=J @JM.eq_2<|J @N5.eq_1<|J @N5.eq_2<|J @tQ.eq_1<|J @tQ.eq_2<|J @tM.eq_1<|J @tM.eq_2<|J @aJ.eq_1<|J @aJ.eq_2<|J @aJ.eq_3<|J @gB.eq_1<|J @gB.eq_2<|J @gB.eq_3<|J @gB.eq_4<|J @Zu.eq_1<|J @Zu.eq_2<|J @aQ.eq_1<|J @aQ.eq_2<|J @Ij.eq_1<|J @Ij.eq_2<|J @Ij.eq_3<|J @JF.eq_1<|J @Nd.eq_1<|J @Of.eq_1<|J @Of.eq_2<|J @RV.eq_1<|J @vX.eq_1<|J @vX.eq_2<|J @Qsy.eq_1<|@IH.eq_1
def VC8:=J @IH.eq_2<|J @Cl.eq_1<|J @Cl.eq_2<|J @Ju.eq_1<|J @Ju.eq_2<|J @Me.eq_1<|J @Me.eq_2<|J @bsE.eq_1<|J @bsK.eq_1<|J @yG.eq_1<|J @msE.eq_1<|J @msK.eq_1<|J @yP.eq_1<|J @aM.eq_1<|J @aM.eq_2<|J @De.eq_1<|J @De.eq_2<|J @De.eq_3<|J @Bo.eq_1<|J @Bm.eq_1<|J @Bm.eq_2<|J @Src.okOne.eq_1<|J @Src.okOne.eq_2<|J @Src.okOne.eq_3<|J @Oc.eq_1<|J @Oc.eq_2<|J @Oc.eq_3<|J @nG.eq_1<|J @nG.eq_2<|J @nG.eq_3<|@nE.eq_1
def VC9:=J @nE.eq_2<|J @nE.eq_3<|J @Js.eq_1<|J @Js.eq_2<|J @RQ.eq_1<|J @RQ.eq_2<|J @apE.eq_1<|J @apK.eq_1<|J @Qsl.eq_1<|J @Gh.eq_1<|J @Qxr.eq_1<|J @Qxr.eq_2<|J @MF.eq_1<|J @iO.eq_1<|J @iO.eq_2<|J @gA.eq_1<|J @gA.eq_2<|J @gA.eq_3<|J @Ty.eq_1<|J @uL.eq_1<|J @uL.eq_2<|J @uL.eq_3<|J @FE.eq_1<|J @FE.eq_2<|J @FE.eq_3<|J @FE.eq_4<|J @FE.eq_5<|J @FE.eq_6<|J @FE.eq_7<|@FE.eq_8
def VC10:=J @FE.eq_9<|J @gH.eq_1<|J @Qy3.eq_1<|J @J3.eq_1<|J @T6.eq_1<|J @gJ.eq_1<|J @gJ.eq_2<|J @gJ.eq_3<|J @Y3.eq_1<|J @Y3.eq_2<|J @luE.eq_1<|J @luK.eq_1<|J @Qnn.eq_1<|J @TJ.eq_1<|J @TH.eq_1<|J @TH.eq_2<|J @Lo.eq_1<|J @Lo.eq_2<|J @Lo.eq_3<|J @Lo.eq_4<|J @Lo.eq_5<|J @Lo.eq_6<|J @Lo.eq_7<|J @Lo.eq_8<|J @Lo.eq_9<|J @muF.eq_1<|J @TL.eq_1<|J @lG.eq_1<|J @lG.eq_2<|@Sz.eq_1
def VC11:=J @XR.eq_1<|J @XR.eq_2<|J @Sy.eq_1<|J @Sy.eq_2<|J @Sy.eq_3<|J @Sy.eq_4<|J @Sy.eq_5<|J @Sy.eq_6<|J @Sy.eq_7<|J @Sy.eq_8<|J @Sy.eq_9<|J @Qni.eq_1<|J @exA.eq_1<|J @exA.eq_2<|J @exD.eq_1<|J @exD.eq_2<|J @lI.eq_1<|J @lI.eq_2<|J @lJ.eq_1<|J @lJ.eq_2<|J @lJ.eq_3<|J @lJ.eq_4<|J @Re.eq_1<|J @Re.eq_2<|J @QV.eq_1<|J @QV.eq_2<|J @Qjk.eq_1<|J @Qg6.eq_1<|J @Rw.eq_1<|J @Xo.eq_1<|@Xo.eq_2
def VC12:=J @Xo.eq_3<|J @Xo.eq_4<|J @zF.eq_1<|J @zF.eq_2<|J @zU.eq_1<|J @Qzp.eq_1<|J @Qsv.eq_1<|J @Vt.eq_1<|J @Gj.eq_1<|J @Gj.eq_2<|J @Gj.eq_3<|J @Gj.eq_4<|J @FG.eq_1<|J @FG.eq_2<|J @FG.eq_3<|J @FG.eq_4<|J @lZ.eq_1<|J @lZ.eq_2<|J @Rg.eq_1<|J @Rg.eq_2<|J @WO.eq_1<|J @WO.eq_2<|J @Vu.eq_1<|J @WN.eq_1<|J @WN.eq_2<|J @N6.eq_1<|J @aV.eq_1<|J @aV.eq_2<|J @aV.eq_3<|@aV.eq_4
def VC13:=J @aV.eq_5<|J @L5.eq_1<|J @tK.eq_1<|J @tK.eq_2<|J @HW.eq_1<|J @HW.eq_2<|J @H9.eq_1<|J @Mf.eq_1<|J @Mf.eq_2<|J @Sg.eq_1<|J @hZ.eq_1<|J @iA.eq_1<|J @iB.eq_1<|J @Jv.eq_1<|J @Jv.eq_2<|J @TK.isStr.eq_1<|J @TK.isStr.eq_2<|J @TK.isStr.eq_3<|J @TK.isStr.eq_4<|J @TK.isStr.eq_5<|J @TK.isStr.eq_6<|J @TK.isStr.eq_7<|J @TK.isStr.eq_8<|J @TK.isStr.eq_9<|J @isStr.eq_1<|J @isStr.eq_2<|J @WF.eq_1<|J @N7.eq_1<|J @N8.eq_1<|@TK.isSl.eq_1
def VC14:=J @TK.isSl.eq_2<|J @TK.isSl.eq_3<|J @TK.isSl.eq_4<|J @TK.isSl.eq_5<|J @TK.isSl.eq_6<|J @TK.isSl.eq_7<|J @TK.isSl.eq_8<|J @TK.isSl.eq_9<|J @zN.eq_1<|J @DK.eq_1<|J @DK.eq_2<|J @Hv.eq_1<|J @Hv.eq_2<|J @Vf.eq_1<|J @Vf.eq_2<|J @Vf.eq_3<|J @JK.eq_1<|J @JK.eq_2<|J @JK.eq_3<|J @uG.eq_1<|J @uG.eq_2<|J @JL.eq_1<|J @JL.eq_2<|J @JL.eq_3<|J @Vg.eq_1<|J @xQ.eq_1<|J @xQ.eq_2<|J @kE.eq_1<|J @QU.eq_1<|J @QU.eq_2<|@QU.eq_3
def VC15:=J @QU.eq_4<|J @QU.eq_5<|J @QU.eq_6<|J @QU.eq_7<|J @QU.eq_8<|J @QU.eq_9<|J @Qsm.eq_1<|J @iD.eq_1<|J @iE.eq_1<|J @gE.eq_1<|J @gE.eq_2<|J @gE.eq_3<|J @Su.eq_1<|J @Sv.eq_1<|J @Wh.eq_1<|J @Wh.eq_2<|J @fY.eq_1<|J @Sw.eq_1<|J @Sw.eq_2<|J @Sw.eq_3<|J @Sx.eq_1<|J @Sx.eq_2<|J @Sx.eq_3<|J @Sx.eq_4<|J @Sx.eq_5<|J @Sx.eq_6<|J @Sx.eq_7<|J @Sx.eq_8<|J @Sx.eq_9<|@Qzd.eq_1
def VC16:=J @XN.eq_1<|J @XN.eq_2<|J @Sl.eq_1<|J @Sl.eq_2<|J @Sl.eq_3<|J @Sl.eq_4<|J @Sl.eq_5<|J @Sl.eq_6<|J @Sl.eq_7<|J @Sl.eq_8<|J @Sl.eq_9<|J @Qrt.eq_1<|J @UK.eq_1<|J @rgD.eq_1<|J @rgM.eq_1<|J @rgM.eq_2<|J @UJ.eq_1<|J @UJ.eq_2<|J @UJ.eq_3<|J @UJ.eq_4<|J @UJ.eq_5<|J @UJ.eq_6<|J @UJ.eq_7<|J @UJ.eq_8<|J @UJ.eq_9<|J @Qsh.eq_1<|J @xE.eq_1<|J @Ub.eq_1<|J @W6.eq_1<|@jD.eq_1
def VC17:=J @jD.eq_2<|J @SC.eq_1<|J @Qsz.eq_1<|J @mcE.eq_1<|J @mcV.eq_1<|J @mcK.eq_1<|J @mcK.eq_2<|J @yS.eq_1<|J @bZ.eq_1<|J @T5.eq_1<|J @T5.eq_2<|J @jW.eq_1<|J @L7.eq_1<|J @jU.eq_1<|J @rvC.eq_1<|J @rvE.eq_1<|J @rvK.eq_1<|J @rvK.eq_2<|J @L6.eq_1<|J @SF.eq_1<|J @SG.eq_1<|J @SG.eq_2<|J @Od.eq_1<|J @Od.eq_2<|J @IL.eq_1<|J @IL.eq_2<|J @IL.eq_3<|J @IL.eq_4<|J @IL.eq_5<|J @IL.eq_6<|@IL.eq_7
def VC18:=J @IL.eq_8<|J @IL.eq_9<|J @IL.eq_10<|J @IL.eq_11<|J @IL.eq_12<|J @IL.eq_13<|J @IL.eq_14<|J @IL.eq_15<|J @IL.eq_16<|J @IL.eq_17<|J @FD.eq_1<|J @FD.eq_2<|J @FD.eq_3<|J @FD.eq_4<|J @FD.eq_5<|J @FD.eq_6<|J @FD.eq_7<|J @FD.eq_8<|J @FD.eq_9<|J @FD.eq_10<|J @FD.eq_11<|J @FD.eq_12<|J @unS.eq_1<|J @R4.eq_1<|J @R4.eq_2<|J @R4.eq_4<|J @R4.eq_5<|J @R4.eq_6<|J @R4.eq_7<|@R4.eq_8
def VC19:=J @R4.eq_9<|J @R4.eq_10<|J @R4.eq_11<|J @Qst.eq_1<|J @L4.eq_1<|J @LI.eq_1<|J @LI.eq_2<|J @LI.eq_3<|J @LI.eq_4<|J @LI.eq_5<|J @LI.eq_6<|J @LI.eq_7<|J @LI.eq_8<|J @LI.eq_9<|J @LI.eq_10<|J @LI.eq_11<|J @LI.eq_12<|J @Xi.eq_1<|J @Xi.eq_2<|J @Xi.eq_3<|J @Xi.eq_4<|J @Xi.eq_5<|J @Xi.eq_6<|J @Xi.eq_7<|J @tA.eq_1<|J @tA.eq_2<|J @tA.eq_3<|J @Y7.eq_1<|J @Y7.eq_2<|@TF.eq_1
def VC20:=J @TF.eq_2<|J @TF.eq_3<|J @TF.eq_4<|J @TF.eq_5<|J @TF.eq_6<|J @TF.eq_7<|J @TF.eq_8<|J @TF.eq_9<|J @zJ.eq_1<|J @DT.eq_1<|J @DT.eq_2<|J @Kj.eq_1<|J @Kj.eq_2<|J @Qrk.eq_1<|J @yH.eq_1<|J @Qno.eq_1<|J @Sr.eq_1<|J @Sr.eq_2<|J @Sq.eq_1<|J @Sq.eq_2<|J @Sq.eq_3<|J @Sq.eq_4<|J @Sq.eq_5<|J @Sq.eq_6<|J @Sq.eq_7<|J @Sq.eq_8<|J @Iy.eq_1<|J @Iy.eq_2<|J @Iy.eq_3<|J @Iy.eq_4<|@Iy.eq_5
def VC21:=J @Iy.eq_6<|J @Iy.eq_7<|J @Iy.eq_8<|J @Iy.eq_9<|J @Iy.eq_10<|J @Iy.eq_11<|J @Iy.eq_12<|J @Iy.eq_13<|J @Sp.eq_1<|J @Sp.eq_2<|J @Sp.eq_3<|J @Pd.eq_1<|J @Pd.eq_2<|J @hnm.eq_1<|J @hnm.eq_2<|J @Qz3.eq_1<|J @Qz3.eq_2<|J @Oi.eq_1<|J @Oi.eq_2<|J @Oi.eq_3<|J @Rk.eq_1<|J @Rk.eq_2<|J @Ri.eq_1<|J @Ri.eq_2<|J @dR.eq_1<|J @Rj.eq_1<|J @Rj.eq_2<|J @step.eq_1<|J @step.eq_2<|@step.eq_3
def VC22:=J @step.eq_4<|J @step.eq_5<|J @step.eq_6<|J @step.eq_7<|J @step.eq_8<|J @step.eq_9<|J @step.eq_10<|J @step.eq_11<|J @step.eq_12<|J @step.eq_13<|J @step.eq_14<|J @step.eq_15<|J @step.eq_16<|J @step.eq_17<|J @step.eq_18<|J @step.eq_19<|J @step.eq_20<|J @step.eq_21<|J @step.eq_22<|J @step.eq_23<|J @step.eq_24<|J @step.eq_25<|J @step.eq_26<|J @step.eq_27<|J @step.eq_28<|J @step.eq_29<|J @step.eq_30<|J @step.eq_31<|J @Xm.eq_2<|@Aw.eq_1
def VC23:=J @Aw.eq_2<|J @Aw.eq_3<|J @Aw.eq_4<|J @Aw.eq_5<|J @Aw.eq_6<|J @Aw.eq_7<|J @Aw.eq_8<|J @K1.eq_1<|J @HL.eq_1<|J @HL.eq_2<|J @B5.ok_nr<|J @gG.eq_1<|J @gG.eq_2<|J @Ik.eq_1<|J @Ik.eq_2<|J @D6.eq_1<|J @DV.eq_1<|J @DV.eq_2<|J @JN.eq_1<|J @N4.eq_1<|J @Yn.eq_1<|J @Yn.eq_2<|J @xJ.eq_1<|J @xJ.eq_2<|J @PL.eq_1<|J @PL.eq_2<|J @Gp.eq_1<|J @Gp.eq_2<|J @JA.eq_1<|J @JA.eq_2<|@Gs.eq_1
def VC24:=J @Gs.eq_2<|J @EU.eq_1<|J @EU.eq_2<|J @IP.eq_1<|J @IP.eq_2<|J @IP.eq_3<|J @IP.eq_4<|J @IP.eq_5<|J @IP.eq_6<|J @DQ.eq_1<|J @DQ.eq_2<|J @DQ.eq_3<|J @ins.eq_1<|J @Tj.eq_1<|J @Tj.eq_2<|J @Hw.eq_1<|J @Hw.eq_2<|J @Fh.eq_1<|J @Fh.eq_2<|J @Ed.eq_1<|J @FT.eq_1<|J @FT.eq_2<|J @B5.touch.eq_1<|J @Ja.eq_1<|J @N9.eq_1<|J @N3.eq_1<|J @Ym.eq_1<|J @Ym.eq_2<|J @xI.eq_1<|@xI.eq_2
def VC25:=J @Ww.eq_1<|J @Ww.eq_2<|J @NF.eq_1<|J @NF.eq_2<|J @NF.eq_3<|J @Jy.eq_1<|J @Jy.eq_2<|J @mG.eq_1<|J @mG.eq_2<|J @mG.eq_3<|J @Ha.eq_1<|J @Ha.eq_2<|J @Cm.eq_1<|J @Cm.eq_2<|J @Cv.eq_1<|J @Cv.eq_2<|J @B6.eq_1<|J @B6.eq_2<|J @Az.good.eq_1<|J @pm.eq_1<|J @pm.eq_2<|J @iT.eq_1<|J @EV.eq_1<|J @EV.eq_2<|J @Hs.eq_1<|J @Hs.eq_2<|J @mt.eq_1<|J @mt.eq_2<|J @mt.eq_3<|@mt.eq_4
def VC26:=J @mt.eq_5<|J @mt.eq_6<|J @mt.eq_7<|J @mt.eq_8<|J @mt.eq_9<|J @mt.eq_10<|J @mt.eq_11<|J @mt.eq_13<|J @mt.eq_14<|J @Dz.eq_1<|J @Dz.eq_2<|J @Dz.eq_3<|J @Dz.eq_4<|J @FF.eq_1<|J @FF.eq_2<|J @FF.eq_3<|J @FF.eq_4<|J @Ej.eq_1<|J @Ej.eq_3<|J @Ej.eq_4<|J @Ej.eq_5<|J @Ej.eq_6<|J @Ej.eq_7<|J @Ej.eq_8<|J @Ej.eq_9<|J @Ej.eq_10<|J @Ej.eq_11<|J @Ej.eq_12<|J @Ej.eq_13<|J @Ej.eq_14<|@Ej.eq_15
def VC27:=J @Ej.eq_16<|J @Ej.eq_17<|J @Ej.eq_18<|J @Ej.eq_19<|J @Ej.eq_20<|J @Lb.eq_1<|J @Lb.eq_2<|J @YA.eq_1<|J @YA.eq_2<|J @Cx.eq_1<|J @Cx.eq_2<|J @GH.eq_1<|J @GH.eq_2<|J @EJ.eq_1<|J @EJ.eq_2<|J @GU.eq_1<|J @GU.eq_2<|J @DC.eq_1<|J @DC.eq_2<|J @Cj.eq_1<|J @Cj.eq_2<|J @Cj.eq_3<|J @ML.eq_1<|J @ML.eq_2<|J @ML.eq_3<|J @MK.eq_1<|J @MK.eq_2<|J @MK.eq_3<|J @Iz.eq_1<|@Iz.eq_2
def VC28:=J @SO.eq_1<|J @H6.eq_1<|J @H6.eq_2<|J @H6.eq_3<|J @H6.eq_4<|J @H6.eq_5<|J @H6.eq_6<|J @H6.eq_7<|J @Lw.eq_1<|J @Lw.eq_2<|J @JG.eq_1<|J @JG.eq_2<|J @FH.eq_1<|J @FH.eq_2<|J @FH.eq_3<|J @FH.eq_4<|J @FH.eq_5<|J @FH.eq_6<|J @FH.eq_7<|J @FH.eq_8<|J @AV.fzA.eq_1<|J @AV.fzA.eq_2<|J @AV.fzA.eq_3<|J @AV.fzA.eq_4<|J @AV.fzA.eq_5<|J @AV.fzA.eq_6<|J @AV.fzA.eq_7<|J @AV.fzA.eq_8<|J @AV.fzA.eq_9<|@AV.fzA.eq_10
def VC29:=J @AV.fzA.eq_11<|J @AV.fzA.eq_12<|J @DL.eq_1<|J @DL.eq_2<|J @DM.eq_1<|J @DM.eq_2<|J @Ac.fzA.eq_1<|J @Ac.fzA.eq_2<|J @Ac.fzA.eq_3<|J @Ac.fzA.eq_4<|J @Ac.fzA.eq_5<|J @Ac.fzA.eq_6<|J @Ac.fzA.eq_7<|J @I6.eq_1<|J @I6.eq_2<|J @I5.eq_1<|J @I5.eq_2<|J @SR.eq_1<|J @MJ.eq_1<|J @MJ.eq_2<|J @MJ.eq_3<|J @Di.eq_1<|J @Di.eq_2<|J @Di.eq_3<|J @Di.eq_4<|J @Di.eq_5<|J @Di.eq_6<|J @Di.eq_7<|J @Di.eq_8<|J @Di.eq_9<|@KK.fit.eq_1
def VC30:=J @KK.fit.eq_2<|J @KK.fit.eq_3<|J @BB.eq_1<|J @BB.eq_2<|J @AV.bel.eq_1<|J @AV.bel.eq_2<|J @AV.bel.eq_3<|J @AV.bel.eq_4<|J @AV.bel.eq_5<|J @AV.bel.eq_6<|J @AV.bel.eq_7<|J @AV.bel.eq_8<|J @AV.bel.eq_9<|J @AV.bel.eq_10<|J @AV.bel.eq_11<|J @AV.bel.eq_12<|J @AA.eq_1<|J @AA.eq_2<|J @AV.nms.eq_1<|J @AV.nms.eq_2<|J @AV.nms.eq_3<|J @AV.nms.eq_4<|J @AV.nms.eq_5<|J @AV.nms.eq_6<|J @AV.nms.eq_7<|J @AV.nms.eq_8<|J @AV.nms.eq_9<|J @AV.nms.eq_10<|J @AV.nms.eq_11<|@AV.nms.eq_12
def VC31:=J @Au.eq_1<|J @Au.eq_2<|J @B8.eq_1<|J @B8.eq_2<|J @Ac.nms.eq_1<|J @Ac.nms.eq_2<|J @Ac.nms.eq_3<|J @Ac.nms.eq_4<|J @Ac.nms.eq_5<|J @Ac.nms.eq_6<|J @Ac.nms.eq_7<|J @AV.ren.eq_1<|J @AV.ren.eq_2<|J @AV.ren.eq_3<|J @AV.ren.eq_4<|J @AV.ren.eq_5<|J @AV.ren.eq_6<|J @AV.ren.eq_7<|J @AV.ren.eq_8<|J @AV.ren.eq_9<|J @AV.ren.eq_10<|J @AV.ren.eq_11<|J @AV.ren.eq_12<|J @AI.eq_1<|J @AI.eq_2<|J @Ac.ren.eq_1<|J @Ac.ren.eq_2<|J @Ac.ren.eq_3<|J @Ac.ren.eq_4<|@Ac.ren.eq_5
def VC32:=J @Ac.ren.eq_6<|J @Ac.ren.eq_7<|J @Ax.eq_1<|J @Ax.eq_2<|J @Q9.eq_1<|J @Q9.eq_2<|J @X2.eq_1<|J @Xw.eq_1<|J @nN.eq_1<|J @nN.eq_2<|J @iP.eq_1<|J @iP.eq_2<|J @iP.eq_3<|J @J8.eq_1<|J @kp.eq_1<|J @kp.eq_2<|J @E8.eq_1<|J @E8.eq_2<|J @Bf.eq_1<|J @Bf.eq_2<|J @Bf.eq_3<|J @Bf.eq_4<|J @Bf.eq_5<|J @Bf.eq_6<|J @Bf.eq_7<|J @Bf.eq_8<|J @Bf.eq_9<|J @Bf.eq_10<|J @Bf.eq_11<|J @Bf.eq_12<|@Bf.eq_13
def VC33:=J @Bf.eq_14<|J @Mg.eq_1<|J @Jw.eq_1<|J @Jw.eq_2<|J @KE.eq_1<|J @KE.eq_2<|J @Ds.eq_1<|J @entry.eq_1<|J @entry.eq_2<|J @Yr.eq_1<|J @Yr.eq_2<|J @I7.eq_1<|J @BZ.eq_1<|J @BZ.eq_2<|J @BZ.eq_3<|J @BZ.eq_4<|J @BZ.eq_5<|J @BZ.eq_6<|J @BZ.eq_7<|J @Jx.eq_1<|J @Jx.eq_2<|J @Jx.eq_3<|J @klE.eq_1<|J @klE.eq_2<|J @JD.eq_1<|J @JD.eq_2<|J @exE.eq_1<|J @exE.eq_2<|J @exE.eq_3<|@JC.eq_1
def VC34:=J @JC.eq_2<|J @RS.eq_1<|J @RS.eq_2<|J @RS.eq_3<|J @YY.eq_1<|J @YY.eq_2<|J @Yb.eq_1<|J @Yb.eq_2<|J @JH.eq_1<|J @JH.eq_2<|J @JH.eq_3<|J @cK.eq_1<|J @Nt.eq_1<|J @Nt.eq_2<|J @UG.eq_1<|J @PJ.eq_1<|J @PJ.eq_2<|J @PJ.eq_3<|J @Lg.eq_1<|J @wL.eq_1<|J @wL.eq_2<|J @wK.eq_1<|J @sg.eq_1<|J @AQ.eq_1<|J @AQ.eq_2<|J @tab.eq_1<|J @tab.eq_2<|J @Da.eq_1<|J @Da.eq_2<|@Da.eq_3
def VC35:=J @CY.eq_1<|J @CY.eq_2<|J @CY.eq_3<|J @BV.eq_1<|J @BV.eq_2<|J @BV.eq_3<|J @QR.eq_1<|J @QR.eq_2<|J @QR.eq_3<|J @QR.eq_4<|J @QR.eq_5<|J @QR.eq_6<|J @QR.eq_7<|J @QR.eq_8<|J @QQ.eq_1<|J @QQ.eq_2<|J @QQ.eq_3<|J @QQ.eq_4<|J @QQ.eq_5<|J @QQ.eq_6<|J @QQ.eq_7<|J @QQ.eq_8<|J @nL.eq_1<|J @nL.eq_2<|J @EA.eq_1<|J @EA.eq_2<|J @EA.eq_3<|J @EA.eq_4<|J @EA.eq_5<|J @EA.eq_6<|@EA.eq_7
def VC36:=J @EA.eq_8<|J @EA.eq_9<|J @EA.eq_10<|J @EA.eq_11<|J @EA.eq_12<|J @SS.eq_1<|J @SS.eq_2<|J @cF.eq_1<|J @cF.eq_2<|J @FQ.eq_1<|J @FQ.eq_2<|J @FQ.eq_3<|J @FQ.eq_4<|J @FQ.eq_5<|J @FQ.eq_6<|J @FQ.eq_7<|J @FQ.eq_8<|J @FQ.eq_9<|J @FQ.eq_10<|J @FQ.eq_11<|J @FQ.eq_12<|J @FQ.eq_13<|J @FQ.eq_14<|J @FQ.eq_15<|J @FQ.eq_16<|J @FQ.eq_17<|J @pkC.eq_1<|J @pkC.eq_2<|J @QT.eq_1<|@QT.eq_2
def VC37:=J @QT.eq_3<|J @QT.eq_4<|J @QT.eq_5<|J @QT.eq_6<|J @QT.eq_7<|J @QT.eq_8<|J @pkR.eq_1<|J @pkR.eq_2<|J @Uq.eq_1<|J @Uq.eq_2<|J @Uq.eq_3<|J @Uq.eq_4<|J @Uq.eq_5<|J @Uq.eq_6<|J @Uq.eq_7<|J @Uq.eq_8<|J @IS.eq_1<|J @IS.eq_2<|J @IS.eq_3<|J @IS.eq_4<|J @IS.eq_5<|J @IS.eq_6<|J @IS.eq_7<|J @IS.eq_8<|J @IS.eq_9<|J @IS.eq_10<|J @IS.eq_11<|J @IS.eq_12<|J @Xz.eq_1<|@Xz.eq_2
def VC38:=J @Xz.eq_3<|J @IT.eq_1<|J @IT.eq_2<|J @DZ.eq_1<|J @DZ.eq_2<|J @QO.eq_1<|J @QO.eq_2<|J @W3.eq_1<|J @W3.eq_2<|J @EX.eq_1<|J @Fm.eq_1<|J @Fm.eq_2<|J @Fm.eq_3<|J @Fm.eq_4<|J @Fm.eq_5<|J @Fm.eq_6<|J @Fm.eq_7<|J @Fm.eq_8<|J @Fm.eq_9<|J @Fm.eq_10<|J @Fm.eq_11<|J @Fm.eq_12<|J @Ng.eq_1<|J @Bw.eq_1<|J @Aj.eq_1<|J @Hx.eq_1<|J @SD.eq_1<|J @SD.eq_2<|J @Er.eq_1<|J @Er.eq_2<|@IC.eq_1
def VC39:=J @IC.eq_2<|J @Nr.eq_1<|J @Nr.eq_2<|J @cJ.eq_1<|J @Nq.eq_1<|J @Nq.eq_2<|J @IB.eq_1<|J @Oh.eq_1<|J @Oh.eq_2<|J @Oh.eq_3<|J @Bs.eq_1<|J @Bs.eq_2<|J @Bs.eq_3<|J @Db.eq_1<|J @Db.eq_2<|J @BT.eq_1<|J @BT.eq_2<|J @I9.eq_1<|J @fH.eq_1<|J @fH.eq_2<|J @aY.eq_1<|J @aY.eq_2<|J @Wu.eq_1<|J @Wu.eq_2<|J @BM.eq_1<|J @BM.eq_2<|J @nK.eq_1<|J @nJ.eq_1<|J @nJ.eq_2<|@J0.eq_1
def VC40:=J @J0.eq_2<|J @SN.eq_1<|J @SN.eq_2<|J @SN.eq_3<|J @Lj.eq_1<|J @Lj.eq_2<|J @QP.eq_1<|J @QP.eq_2<|J @QP.eq_3<|J @QP.eq_4<|J @Ns.eq_1<|J @Ns.eq_2<|J @Lz.eq_1<|J @aX.eq_1<|J @aX.eq_2<|J @aX.eq_3<|J @KM.eq_1<|J @KM.eq_2<|J @Ma.eq_1<|J @aS.eq_1<|J @aS.eq_2<|J @OV.eq_1<|J @OV.eq_2<|J @OV.eq_3<|J @bk.eq_1<|J @bk.eq_2<|J @bk.eq_3<|J @bk.eq_4<|J @bk.eq_5<|@bk.eq_6
def VC41:=J @bk.eq_7<|J @bk.eq_8<|J @bk.eq_9<|J @bk.eq_10<|J @bk.eq_11<|J @bk.eq_12<|J @bk.eq_13<|J @JE.eq_1<|J @DR.eq_1<|J @Mb.eq_1<|J @Mb.eq_2<|J @XI.eq_1<|J @DE.eq_1<|J @DE.eq_2<|J @DE.eq_3<|J @DE.eq_4<|J @DE.eq_5<|J @DE.eq_6<|J @DE.eq_7<|J @DE.eq_8<|J @DE.eq_9<|J @DE.eq_10<|J @DE.eq_11<|J @DE.eq_12<|J @Gz.eq_1<|J @Gz.eq_2<|J @Gz.eq_3<|J @Ce.eq_1<|J @Ce.eq_2<|J @VP.eq_1<|@VP.eq_2
def VC42:=J @AT.eq_1<|J @XT<|J @XU<|J @XV<|J @XW<|J @S8<|J @S9<|J @SA<|J @SB<|J @Qabq<|J @Ph<|J @S7<|J @XZ<|J @XY<|J @XX<|J @iG<|J @jA<|J @YE<|J @jB<|J @iZ<|J @iV<|J @YC<|J @iY<|J @iU<|J @iX<|J @iW<|J @xC<|J @xD<|J @Zc<|@PP
def VC43:=J @Ze<|J @UR<|J @jV<|J @UT<|J @Qs8<|J @Zb<|J @Va<|J @Qyd<|J @US<|J @Zf<|J @Qaa9<|J @Qyi<|J @Qaa8<|J @Qvy<|J @Qv2<|J @Qvr<|J @UW<|J @PR<|J @Qwt<|J @PQ<|J @Qabt<|J @UV<|J @Za<|J @UZ<|J @UY<|J @Zd<|J @UU<|J @Qyj<|J @Qmy<|J @UX<|@Qs9
end Go.Ae
