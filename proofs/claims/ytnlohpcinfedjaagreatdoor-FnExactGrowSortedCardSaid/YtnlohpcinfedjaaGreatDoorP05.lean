/- Lemmas. Conditions: none. -/
import Derived.Test.YtnlohpcinfedjaaGreatDoorP04
set_option linter.all false
set_option maxHeartbeats 8000000
set_option maxRecDepth 100000
namespace Go.Ae
def B6:List D->Bool
 |[]=>true
 |x::r=>x.sc && B6 r
def jD(K:D->Prop):Option Au->Prop
 |some (true,.arr _ k rows)=>Cj B6 rows/\K (.sl false k rows)
 |_=>False
def jC(h:Nat->Option Au)(K:D->Prop):AV->Prop
 | .im d=>d.scs=true/\K d
 | .own o=>jD K (h o)
 |_=>False
def Jz(h:Nat->Option Au):List AV->(List D->Prop)->Prop
 |[],K=>K []
 |x::r,K=>jC h (λd=>Jz h r λds=>K (d::ds)) x
def Ta(h:Nat->Option Au)(K:D->Prop):AV->Prop
 | .im d=>d.scs=true/\K d
 | .own o=>jD K (h o)
 | .agg z=>Jz h z λds=>K (.agg ds)
 |_=>False
def KZ(h:Nat->Option Au):List AV->(List D->Prop)->Prop
 |[],K=>K []
 |x::r,K=>Ta h (λd=>KZ h r λds=>K (d::ds)) x
def Pf(h:Nat->Option Au)(K:D->Prop):AV->Prop
 | .im d=>d.scs=true/\K d
 | .own o=>jD K (h o)
 | .agg z=>Jz h z λds=>K (.agg ds)
 | .tup z=>KZ h z λds=>K (.tup ds)
 |_=>False
def Nn(R:D->Prop)(s:A8):Option (List AV)->Prop
 |some xs=>Pf (hget s.h) R (DE xs)
 |none=>False
def Lu(P:Program)(z:List ResultVar)(R:D->Prop)(s:A8):Prop:=Nn R s (AA (KE P s) z)
def bO(P:Program)(z:List ResultVar)(R:D->Prop):C4
 | .normal,s=>Lu P z R s
 | .ret,s=>Lu P z R s
 | .exit _,_=>False
def Ns: ∀(r:List D),B6 r=true->r.all D.sc=true
 |[],_=>rfl
 |x::r,h=>by
  simp only[B6,Bc] at h;simp[h.1,Ns r h.2]
def Ls{ok ok':Nat->Prop}{hp hp':Nat->Option Obj}: ∀(ds:List D) (vs:List Value),ds.all D.sc=true->rdp ok hp ds vs->rdp ok' hp' ds vs
 |[],_,_,_=>by simp only[rdp]
 |d::ds,vs,h,hd=>by
  simp only[rdp,EE,Bc] at hd h⊢;obtain⟨v,r,rfl,z,G⟩:=hd;exact⟨v,r,rfl,Nc h.1 z,Ls ds r h.2 G⟩
def UU{ok ok':Nat->Prop}{hp hp':Nat->Option Obj}{k:Nat}: ∀(z:List (List D)) (vs:List Value),Cj B6 z->rdr ok hp k z vs->rdr ok' hp' k z vs
 |[],_,_,_=>by simp only[rdr]
 |r::z,vs,h,hd=>by
  simp only[rdr] at hd⊢;exact⟨hd.1,Ls r vs (Ns r (h r (BS ..))) hd.2.1,UU z _ (λx G=>h x (BW _ G)) hd.2.2⟩
section
variable {C:Ba}{S:Ay}
def U7(C:Ba)(S:Ay)(b:Nat):Prop:=C.w.heap.size<=b/\b<S.w.heap.size/\ ¬S.ok b
def Qzs(hM: ∀b,¬C.M b)(hW:Wf C S){K:D->Prop}{o:Nat}{v:Value}(O:jD K (S.h o))(G:Aa S (.own o) v): ∃d,K d/\rd (U7 C S) S.hp d v:=by
 cases he:S.h o with
 |none=>rw[he] at O;exact O.elim
 |some e=>
  obtain⟨mu,e⟩:=e;rw[he] at O;cases mu with
  |false=>cases e<;>exact O.elim
  |true=>
  cases e with
  |arr T k rows=>
   simp only[jD] at O;refine⟨_,O.2,?_⟩;have z:=hW.obj o _ he;simp only[Aa] at G;obtain⟨_,G⟩:=G;have G:=G _ he;simp only[Ap] at z;cases hl:S.ρ o with
   |none=>
    rw[hl] at G z;simp only[rd];exact .inl ⟨.inl G,z.2⟩
   |some l=>
    rw[hl] at G z;obtain⟨h0,Z,vs,h2,h3,h4⟩:=z;obtain⟨q1,Q⟩:=hW.loc o _ l he hl;simp only[Bb] at Q;simp only[rd];refine .inr ⟨l.b,l.p,l.cap,vs,T,(0,0),G,by simp,Z,h0,⟨?_,q1,Q.1⟩,h2,UU rows _ O.1 h4⟩;rcases Q.2 with h|h
    .exact h
    .exact absurd h (hM _)
  |_=>exact O.elim
def SZ(O: ∀b,¬C.M b)(hW:Wf C S){K:D->Prop}{x:AV}{v:Value}(z:jC S.h K x)(G:Aa S x v): ∃d,K d/\rd (U7 C S) S.hp d v:=by
 cases x with
 |im d=>
  simp only[jC] at z;simp only[Aa] at G;exact⟨d,z.2,Xh z.1 G⟩
 |own o=>
  simp only[jC] at z;exact Qzs O hW z G
 |_=>exact z.elim
def Qvx(O: ∀b,¬C.M b)(hW:Wf C S): ∀(xs:List AV) (K:List D->Prop) (vs:List Value),Jz S.h xs K->AR S xs vs-> ∃ds,K ds/\rdl (U7 C S) S.hp ds vs
 |[],K,vs,G,z=>by
  simp only[Jz] at G;simp only[AR] at z;exact⟨[],G,by simp only[rdl];exact z⟩
 |x::xs,K,vs,G,z=>by
  simp only[Jz] at G;simp only[AR] at z;obtain⟨v,r,rfl,Q,Z⟩:=z;obtain⟨d,h3,h4⟩:=SZ O hW G Q;obtain⟨ds,h5,h6⟩:=Qvx O hW xs _ r h3 Z;exact⟨d::ds,h5,by simp only[rdl];exact⟨v,r,rfl,h4,h6⟩⟩
def Qm1(O: ∀b,¬C.M b)(hW:Wf C S){K:D->Prop}{x:AV}{v:Value}(z:Ta S.h K x)(G:Aa S x v): ∃d,K d/\rd (U7 C S) S.hp d v:=by
 cases x with
 |im d=>
  simp only[Ta] at z;simp only[Aa] at G;exact⟨d,z.2,Xh z.1 G⟩
 |own o=>
  simp only[Ta] at z;exact Qzs O hW z G
 |agg Q=>
  simp only[Ta] at z;simp only[Aa] at G;obtain⟨vs,rfl,Z⟩:=G;obtain⟨ds,h2,h3⟩:=Qvx O hW Q _ _ z Z;exact⟨_,h2,by simp only[rd];exact⟨vs,rfl,h3⟩⟩
 |_=>exact z.elim
def Qvn(O: ∀b,¬C.M b)(hW:Wf C S): ∀(xs:List AV) (K:List D->Prop) (vs:List Value),KZ S.h xs K->AR S xs vs-> ∃ds,K ds/\rdl (U7 C S) S.hp ds vs
 |[],K,vs,G,z=>by
  simp only[KZ] at G;simp only[AR] at z;exact⟨[],G,by simp only[rdl];exact z⟩
 |x::xs,K,vs,G,z=>by
  simp only[KZ] at G;simp only[AR] at z;obtain⟨v,r,rfl,Q,Z⟩:=z;obtain⟨d,h3,h4⟩:=Qm1 O hW G Q;obtain⟨ds,h5,h6⟩:=Qvn O hW xs _ r h3 Z;exact⟨d::ds,h5,by simp only[rdl];exact⟨v,r,rfl,h4,h6⟩⟩
def Qzf(O: ∀b,¬C.M b)(hW:Wf C S){K:D->Prop}{x:AV}{v:Value}(z:Pf S.h K x)(G:Aa S x v): ∃d,K d/\rd (U7 C S) S.hp d v:=by
 cases x with
 |tup Q=>
  simp only[Pf] at z;simp only[Aa] at G;obtain⟨vs,rfl,Z⟩:=G;obtain⟨ds,h2,h3⟩:=Qvn O hW Q _ _ z Z;exact⟨_,h2,by simp only[rd];exact⟨vs,rfl,h3⟩⟩
 |im d=>exact Qm1 (x:= .im d) O hW (by simpa only[Pf,Ta] using z) G
 |own o=>exact Qm1 (x:= .own o) O hW (by simpa only[Pf,Ta] using z) G
 |agg Q=>exact Qm1 (x:= .agg Q) O hW (by simpa only[Pf,Ta] using z) G
 |_=>exact z.elim
end
def RE(f:AV->Option D):Option Au->Option D
 |some (_,.arr _ k rows)=>some (.sl false k rows)
 |some (_,.arrA _ k rows)=>(AA (AA f) rows).map (.sl false k)
 |_=>none
def LV:Option Au->Option D
 |some (_,.map G z)=>some (.mp G z)
 |_=>none
def bJ(f:AV->Option D)(off:Nat):Option Au->Option (List D)
 |some (_,.cells _ z)=>AA f (z.drop off)
 |some (_,.view z)=>some (z.drop off)
 |_=>none
def OQ(g:FuncId):Option (List D)->Option (List D)->Option D
 |some a,some c=>some (.fn g a c)
 |some _,none=>none
 |none,_=>none
def bk(h:Nat->Option Au):Nat->AV->Option D
 |0,_=>none
 |_+1,.im d=>some d
 |n+1,.agg z=>(AA (bk h n) z).map .agg
 |n+1,.tup z=>(AA (bk h n) z).map .tup
 |n+1,.own o=>RE (bk h n) (h o)
 |_+1,.mp o=>LV (h o)
 |n+1,.ptr o off=>(bJ (bk h n) off (h o)).map .ref
 |n+1,.clo f a c=>OQ f (AA (bk h n) a) (AA (bk h n) c)
 |_+1,.any=>none
 |_+1,.eptr _ _ _=>none
 |_+1,.ch _=>none
 |_+1,.it _=>none
 |_+1,.osl _ _ _=>none
def JH(ds:Option (List D)):Option PK:=ds.map .ptr
def E6(d:Option D):Option PK:=d.map .val
def LW(off:Nat):Option (List D)->Option (List D)
 |some r=>some (r.drop off)
 |none=>none
def Yc(i off:Nat):Option Au->Option (List D)
 |some (_,.arr _ _ rows)=>LW off rows[i]?
 |_=>none
def Ec(h:Nat->Option Au):AV->Option PK
 | .im d=>some (FV d)
 | .ptr o off=>JH (bJ (bk h 8) off (h o))
 | .own o=>E6 (bk h 9 (.own o))
 | .mp o=>E6 (bk h 9 (.mp o))
 | .agg z=>E6 (bk h 9 (.agg z))
 | .tup z=>E6 (bk h 9 (.tup z))
 | .clo f a c=>E6 (bk h 9 (.clo f a c))
 | .any=>none
 | .eptr o i off=>JH (Yc i off (h o))
 | .ch _=>none
 | .it _=>none
 | .osl _ _ _=>none
def Gz:Option PK->Option (List PK)->Option (List PK)
 |some p,some z=>some (p::z)
 |some _,none=>none
 |none,_=>none
def Cp(h:Nat->Option Au):List AV->Option (List PK)
 |[]=>some []
 |x::r=>Gz (Ec h x) (Cp h r)
def Iz(f:AV->List Nat):Option Au->List Nat
 |some (_,.cells _ z)=>z.flatMap f
 |some (_,.arrA _ _ rows)=>rows.flatMap λr=>r.flatMap f
 |_=>[]
def Ab(h:Nat->Option Au):Nat->AV->List Nat
 |0,_=>[]
 |n+1,.agg z=>z.flatMap (Ab h n)
 |n+1,.tup z=>z.flatMap (Ab h n)
 |n+1,.own o=>o::Iz (Ab h n) (h o)
 |_+1,.mp o=>[o]
 |n+1,.ptr o _=>o::Iz (Ab h n) (h o)
 |n+1,.clo _ a c=>a.flatMap (Ab h n)++c.flatMap (Ab h n)
 |_+1,.eptr o _ _=>[o]
 |_+1,_=>[]
def E7(h:Nat->Option Au)(xs:List AV):List Nat:=xs.flatMap (Ab h 9)
def Ay.froz(S:Ay):Ay:=⟨S.ρ,λb=>S.ok b\/ ∃o e l,S.h o=some e/\S.ρ o=some l/\l.b=b,λo=>(S.h o).map λe=>(false,e.2),S.w⟩
def mI{S:Ay}{o:Nat}{e':Au}(h:S.froz.h o=some e'): ∃e,S.h o=some e/\e'=(false,e.2):=by
 simp only[Ay.froz,Da] at h;obtain⟨e,z,rfl⟩:=h;exact⟨e,z,rfl⟩
def fV(S:Ay):BA (λ_=>True) S S.froz:=by
 refine⟨λb O=>⟨.inl O,rfl⟩,λo _ e' z=> ?_⟩;obtain⟨e,G,rfl⟩:=mI z;exact⟨e,G,rfl,rfl,rfl⟩
def cI(S:Ay):Ba:=⟨S.w,λ_=>False,S.froz.ok,0,λ_=>none,λ_=>none,[]⟩
def nK{C:Ba}{S:Ay}(hW:Wf C S):Wf (cI S) S.froz:=by
 refine⟨rfl,rfl,rfl,AU _,AU _,λ_ _ _=>rfl,λ_ G=>G,λ_ G=> .inl G,?_,?_,?_,?_,hW.gp.mono λb o G ho=>⟨⟨.inl G,λh=>h.elim⟩,ho⟩⟩
 .rintro b (G|⟨o,e,l,O,Z,rfl⟩)
  .exact hW.oks b G
  .exact (hW.loc o e l O Z).1
 .intro o e' z;obtain⟨e,O,rfl⟩:=mI z;exact H9 (fV S) (λ_ _=>rfl) _ (λ_ _=>trivial) (hW.obj o e O)
 .intro o e' l z Q;obtain⟨e,O,rfl⟩:=mI z;exact⟨(hW.loc o e l O Q).1,.inl (.inr ⟨o,e,l,O,Q,rfl⟩)⟩
 .intro o o' e e' l l' he z _ _ _ hf;obtain⟨x,_,rfl⟩:=mI he;obtain⟨x',_,rfl⟩:=mI z;simp at hf
section
variable {C:Ba}{S:Ay}{h:Nat->Option Au}
def Qql(hW:Wf C S){f:AV->Option D}{g:AV->List Nat}(hf: ∀x d v,(∀m∈g x,S.h m=h m)->f x=some d->Aa S x v->rd S.froz.ok S.froz.hp d v)
 {o off:Nat}{ds:List D}{v:Value}(h1:S.h o=h o)(hg: ∀m∈Iz g (h o),S.h m=h m)(hd:bJ f off (h o)=some ds)(G:Aa S (.ptr o off) v):
 ∃b p vs T fr,v= .pointer (some ⟨b,p,none⟩)/\S.froz.ok b/\S.froz.hp b=some (.cells vs T fr)/\rdp S.froz.ok S.froz.hp ds (vs.toList.drop p):=by
 have hL: ∀(cs:List AV) (ds:List D) (vs:List Value),(∀m∈cs.flatMap g,S.h m=h m)->AA f cs=some ds->CA S cs vs->rdp S.froz.ok S.froz.hp ds vs:=by
  intro cs;induction cs with
  |nil=>
   intro ds vs _ hd _;simp only[AA,AO] at hd;subst hd;simp only[rdp]
  |cons x cs ih=>
   intro ds vs hh hd G;simp only[AA] at hd;simp only[CA] at G;obtain⟨v,r,rfl,h1,h2⟩:=G;split at hd
   .rename_i y ys hy aa;obtain rfl:=AC hd;simp only[rdp];exact⟨v,r,rfl,hf x y v (λm Q=>hh m (by rw[FD];exact IG _ Q)) hy h1,ih ys r (λm Q=>hh m (by rw[FD];exact OB _ Q)) aa h2⟩
   .cases hd
 simp only[Aa] at G;obtain⟨_,G⟩:=G;rw[<-h1] at hd hg;cases he:S.h o with
 |none=>rw[he] at hd;cases hd
 |some e=>
  obtain⟨l,hl,rfl⟩:=G e he;have Z:S.froz.ok l.b:= .inr ⟨o,e,l,he,hl,rfl⟩;obtain⟨mu,e⟩:=e;rw[he] at hd hg;have z:=hW.obj o _ he;rw[hl] at z;cases e with
  |cells T cs=>
   simp only[bJ] at hd;simp only[Ap] at z;obtain⟨lc,vs,h3,h4,h5,h6⟩:=z;cases h3;refine⟨l.b,l.p+off,vs,T,(0,0),rfl,Z,h5,?_⟩;rw[h4,FS];simp only[Iz] at hg;rcases Zfe off cs.length with O|O
   .refine hL _ _ _ (λm Q=>hg m ?_) hd (lW off cs _ (Xp _ _ h6) O);obtain⟨x,k1,k2⟩:=bW.1 Q;exact bW.2 ⟨x,Zfl k1,k2⟩
   .rw[Ee O] at hd;simp only[AA,AO] at hd;subst hd;simp only[rdp]
  |view cs=>
   simp only[bJ,AO] at hd;subst hd;simp only[Ap] at z;obtain⟨lc,vs,T,fr,h3,h5,h6⟩:=z;cases h3;refine⟨l.b,l.p+off,vs,T,fr,rfl,Z,h5,?_⟩;have O:=Wm (fV S).ok _ _ h6;rw[<-EC];rcases Zfe off cs.length with h|h
   .exact Q7 off cs _ O h
   .rw[Ee h];simp only[rdp]
  |_=>cases hd
def cE(hW:Wf C S): ∀(n:Nat) (x:AV) (d:D) (v:Value),(∀m∈Ab h n x,S.h m=h m)->bk h n x=some d->Aa S x v->rd S.froz.ok S.froz.hp d v:=by
 intro n;induction n with
 |zero=>intro x d v _ hd;simp[bk] at hd
 |succ n ih=>
  have Z: ∀(cs:List AV) (ds:List D) (vs:List Value),(∀m∈cs.flatMap (Ab h n),S.h m=h m)->AA (bk h n) cs=some ds->AR S cs vs->rdl S.froz.ok S.froz.hp ds vs:=by
   intro cs;induction cs with
   |nil=>
    intro ds vs _ hd z;simp only[AA,AO] at hd;subst hd;simpa only[AR,rdl] using z
   |cons x cs ac=>
    intro ds vs O hd z;simp only[AA] at hd;simp only[AR] at z;obtain⟨v,r,rfl,h1,h2⟩:=z;split at hd
    .rename_i y ys hy ab;obtain rfl:=AC hd;simp only[rdl];exact⟨v,r,rfl,ih x y v (λm Q=>O m (by rw[FD];exact IG _ Q)) hy h1,ac ys r (λm Q=>O m (by rw[FD];exact OB _ Q)) ab h2⟩
    .cases hd
  have hp: ∀(cs:List AV) (ds:List D) (vs:List Value),(∀m∈cs.flatMap (Ab h n),S.h m=h m)->AA (bk h n) cs=some ds->CA S cs vs->rdp S.froz.ok S.froz.hp ds vs:=by
   intro cs;induction cs with
   |nil=>
    intro ds vs _ hd z;simp only[AA,AO] at hd;subst hd;simp only[rdp]
   |cons x cs ac=>
    intro ds vs O hd z;simp only[AA] at hd;simp only[CA] at z;obtain⟨v,r,rfl,h1,h2⟩:=z;split at hd
    .rename_i y ys hy ab;obtain rfl:=AC hd;simp only[rdp];exact⟨v,r,rfl,ih x y v (λm Q=>O m (by rw[FD];exact IG _ Q)) hy h1,ac ys r (λm Q=>O m (by rw[FD];exact OB _ Q)) ab h2⟩
    .cases hd
  have hr: ∀(k:Nat) (rs:List (List AV)) (ds:List (List D)) (vs:List Value),(∀m∈rs.flatMap (λr=>r.flatMap (Ab h n)),S.h m=h m)->AA (AA (bk h n)) rs=some ds->BG S k rs vs->rdr S.froz.ok S.froz.hp k ds vs/\ds.length=rs.length:=by
   intro k rs;induction rs with
   |nil=>
    intro ds vs _ hd _;simp only[AA,AO] at hd;subst hd;exact⟨by simp only[rdr],rfl⟩
   |cons x rs ac=>
    intro ds vs O hd z;simp only[AA] at hd;simp only[BG] at z;split at hd
    .rename_i y ys hy ab;obtain rfl:=AC hd;obtain⟨k1,k2⟩:=ac ys _ (λm Q=>O m (by rw[FD];exact OB _ Q)) ab z.2.2;refine⟨?_,by simp[k2]⟩;simp only[rdr];exact⟨(fT _ _ hy).trans z.1,hp x y _ (λm Q=>O m (by rw[FD];exact IG _ Q)) hy z.2.1,k1⟩
    .cases hd
  intro x d v O hd z;cases x with
  |im d'=>
   simp only[bk,AO] at hd;subst hd;simp only[Aa] at z;exact Hf (fV S).ok _ _ z
  |agg cs=>
   simp only[bk,Da] at hd;obtain⟨ds,h1,rfl⟩:=hd;simp only[Aa] at z;obtain⟨vs,rfl,h2⟩:=z;simp only[rd];exact⟨vs,rfl,Z cs ds _ O h1 h2⟩
  |tup cs=>
   simp only[bk,Da] at hd;obtain⟨ds,h1,rfl⟩:=hd;simp only[Aa] at z;obtain⟨vs,rfl,h2⟩:=z;simp only[rd];exact⟨vs,rfl,Z cs ds _ O h1 h2⟩
  |own o=>
   simp only[Ab,Bw] at O;have h1:=O o (.inl rfl);simp only[bk] at hd;simp only[Aa] at z;rw[<-h1] at hd O;cases he:S.h o with
   |none=>rw[he] at hd;cases hd
   |some e=>
    have z:=z.2 e he;have G:=hW.obj o _ he;obtain⟨mu,e⟩:=e;rw[he] at hd O;have ag: ∀l,S.ρ o=some l->S.froz.ok l.b:=λl Z=> .inr ⟨o,_,l,he,Z,rfl⟩
    have ah:=fV S;cases e with
    |arr T k rows=>
     simp only[RE,AO] at hd;subst hd;simp only[Ap] at G;simp only[rd];cases Z:S.ρ o with
     |none=>rw[Z] at z G;exact .inl ⟨.inl z,G.2⟩
     |some l=>
      rw[Z] at z G;obtain⟨h0,h2,vs,h3,h4,h5⟩:=G;exact .inr ⟨l.b,l.p,l.cap,vs,T,(0,0),z,by simp,h2,h0,ag l Z,h3,aS ah.ok _ _ _ h5⟩
    |arrA T k rows=>
     simp only[RE,Da] at hd;obtain⟨ds,hd,rfl⟩:=hd;simp only[Ap] at G;simp only[rd];have aa:=fT _ _ hd;cases Z:S.ρ o with
     |none=>
      rw[Z] at z G;obtain⟨_,G⟩:=G;subst G;exact .inl ⟨.inl z,wH (by simpa using aa)⟩
     |some l=>
      rw[Z] at z G;obtain⟨h0,h2,vs,h3,h4,h5⟩:=G;obtain⟨k1,k2⟩:=hr k rows ds _ (λm Q=>O m (.inr (by simpa only[Iz] using Q))) hd h5;simp only[Ah.len] at z;exact .inr ⟨l.b,l.p,l.cap,vs,T,(0,0),by rw[aa];exact z,by simp,by rw[aa];exact h2,by rw[aa];exact h0,ag l Z,h3,k1⟩
    |_=>cases hd
  |mp o=>
   have h1:=O o (by simp[Ab]);simp only[bk] at hd;simp only[Aa] at z;rw[<-h1] at hd;cases he:S.h o with
   |none=>rw[he] at hd;cases hd
   |some e=>
    obtain⟨l,Z,rfl⟩:=z.2 e he;have G:=hW.obj o _ he;obtain⟨mu,e⟩:=e;rw[he] at hd;cases e with
    |map kt es=>
     simp only[LV,AO] at hd;subst hd;rw[Z] at G;simp only[Ap] at G;obtain⟨lc,af,ad,h2,h3,h4,h5,h6⟩:=G;cases h2;simp only[rd];exact⟨l.b,af,ad,rfl,h3,.inr ⟨o,_,l,he,Z,rfl⟩,h4,L7 (fV S).ok _ _ h5,h6⟩
    |_=>cases hd
  |ptr o off=>
   simp only[Ab,Bw] at O;simp only[bk,Da] at hd;obtain⟨ds,hd,rfl⟩:=hd;simp only[rd];exact Qql hW (g:=Ab h n) (λx d v h1 h2 h3=>ih x d v h1 h2 h3) (O o (.inl rfl)) (λm Q=>O m (.inr Q)) hd z
  |clo f a c=>
   simp only[Ab,B2] at O;simp only[bk] at hd;cases ha:AA (bk h n) a with
   |none=>rw[ha] at hd;cases hd
   |some da=>
    cases hcc:AA (bk h n) c with
    |none=>rw[ha,hcc] at hd;cases hd
    |some dc=>
     rw[ha,hcc] at hd;simp only[OQ,AO] at hd;subst hd;simp only[Aa] at z;obtain⟨va,vc,rfl,h3,h4⟩:=z;simp only[rd];exact⟨va,vc,rfl,Z a da _ (λm Q=>O m (.inl Q)) ha h3,Z c dc _ (λm Q=>O m (.inr Q)) hcc h4⟩
  |_=>simp[bk] at hd
def tP(hW:Wf C S){x:AV}{p:PK}{v:Value}(O: ∀m∈Ab h 9 x,S.h m=h m)(hp:E6 (bk h 9 x)=some p)(G:Aa S x v):I4 S.froz p v:=by
 simp only[E6,Da] at hp;obtain⟨d,z,rfl⟩:=hp;simp only[I4];exact cE hW 9 x d v O z G
def OP(hW:Wf C S){o i off:Nat}{ds:List D}{v:Value}(h1:S.h o=h o)(hd:Yc i off (h o)=some ds)(G:Aa S (.eptr o i off) v):
 ∃b p O T fr,v= .pointer (some ⟨b,p,none⟩)/\S.froz.ok b/\S.froz.hp b=some (.cells O T fr)/\rdp S.froz.ok S.froz.hp ds (O.toList.drop p):=by
 simp only[Aa] at G;obtain⟨_,G⟩:=G;rw[<-h1] at hd;cases he:S.h o with
 |none=>rw[he] at hd;cases hd
 |some e=>
  obtain⟨l,hl,rfl⟩:=G e he;have Z:S.froz.ok l.b:= .inr ⟨o,e,l,he,hl,rfl⟩;obtain⟨mu,e⟩:=e;rw[he] at hd;have z:=hW.obj o _ he;rw[hl] at z;cases e with
  |arr T k rows=>
   simp only[Yc] at hd;cases hr:rows[i]? with
   |none=>rw[hr] at hd;cases hd
   |some r=>
    rw[hr] at hd;simp only[LW,AO] at hd;subst hd;simp only[Ap] at z;obtain⟨_,_,O,h5,_,h6⟩:=z;obtain⟨g1,g2⟩:=eR rows _ i h6 hr;refine⟨l.b,l.p+i*k+off,O,T,(0,0),rfl,Z,h5,?_⟩;have h7:=Wm (fV S).ok _ _ g2;rw[EC] at h7;rcases Zfe off r.length with Q|Q
    .have:=Q7 off r _ h7 Q
     rwa [EC] at this
    .rw[Ee Q];simp only[rdp]
  |_=>cases hd
def UJ(hW:Wf C S){x:AV}{p:PK}{v:Value}(z: ∀m∈Ab h 9 x,S.h m=h m)(hp:Ec h x=some p)(G:Aa S x v):I4 S.froz p v:=by
 cases x with
 |im d=>
  simp only[Ec,AO] at hp;subst hp;simp only[Aa] at G;exact Qyv (nK hW) (Hf (fV S).ok d v G)
 |ptr o off=>
  simp only[Ab,Bw] at z;simp only[Ec,JH,Da] at hp;obtain⟨ds,O,rfl⟩:=hp;obtain⟨b,q,vs,T,fr,Q,Z,h4,h5⟩:=Qql hW (g:=Ab h 8) (λx d v O Q Z=>cE hW 8 x d v O Q Z) (z o (.inl rfl)) (λm hm=>z m (.inr hm)) O G;simp only[I4];exact⟨b,q,vs,T,fr,Q,(nK hW).oks b Z,h4,h5⟩
 |eptr o i off=>
  simp only[Ab,Bw,G7,Gd] at z;simp only[Ec,JH,Da] at hp;obtain⟨ds,O,rfl⟩:=hp;obtain⟨b,q,vs,T,fr,Q,Z,h4,h5⟩:=OP hW (z o rfl) O G;simp only[I4];exact⟨b,q,vs,T,fr,Q,(nK hW).oks b Z,h4,h5⟩
 |own o=>exact tP hW z hp G
 |mp o=>exact tP hW z hp G
 |agg cs=>exact tP hW z hp G
 |tup cs=>exact tP hW z hp G
 |clo f a c=>exact tP hW z hp G
 |_=>cases hp
def Qtx(hW:Wf C S): ∀(xs:List AV) (ps:List PK) (vs:List Value),(∀m∈E7 h xs,S.h m=h m)->Cp h xs=some ps->AR S xs vs->EV S.froz ps vs
 |[],ps,vs,_,hp,z=>by
  simp only[Cp,AO] at hp;subst hp;simp only[AR] at z;simp only[EV];exact z
 |x::xs,ps,vs,O,hp,z=>by
  simp only[Cp] at hp;simp only[AR] at z;obtain⟨v,r,rfl,Q,Z⟩:=z;cases hx:Ec h x with
  |none=>rw[hx] at hp;cases hp
  |some p=>
   cases hr:Cp h xs with
   |none=>rw[hx,hr] at hp;cases hp
   |some qs=>
    rw[hx,hr] at hp;simp only[Gz,AO] at hp;subst hp;simp only[EV];refine⟨v,r,rfl,UJ hW (λm G=>O m ?_) hx Q,Qtx hW xs qs r (λm G=>O m ?_) hr Z⟩
    .simp only[E7,FD];exact IG _ G
    .simp only[E7,FD];exact OB _ G
end
def Qy{P:Program}(HM:P.follows .mixedOrders=true){V:D4}(hV:Kc P V){g:FuncId}{fn:Func}{c:Code}(hf:P.funcs[g]? =some fn)(hb:fn.body=some c)(ab:E0 fn.ntmps c=true)
 {ps:List PK}(aq:ps.length<=fn.ntmps){R:D->Prop}
 (hk:D6 P V c (bO P fn.results.toList R) ⟨entry 0 (Dn 0 ps),Dm 0 ps,BT ps⟩)
 {C:Ba}{S:Ay}{vs:Array Value}{RR:Ending->World->Prop}(hW:Wf C S)(af:EV S ps vs.toList)
 (ac: ∀(v:Value) (G:Ba) (S1:Ay) (d:D),G.w=S.w->G.ok=S.ok->(∀b,¬G.M b)->Wf G S1->R d->rd (U7 G S1) S1.hp d v->RR (.returned v) S1.w):Calls P g vs S.w RR:=by
 refine calls_of_wp hf hb ?_;have ao:vs.size=(Dn 0 ps).length:=by rw[aO];simpa using af.len
 obtain⟨ls,ad,ak⟩:=nA ps vs.toList 0 af
 let S0:Ay:=⟨ls,S.ok,hget (Dm 0 ps),S.w⟩
 let G:Ba:=⟨S.w,λ_=>False,S.ok,0,λ_=>none,λ_=>none,[]⟩
 have ai:Wf G S0:=by
  refine⟨rfl,rfl,rfl,AU _,AU _,λ_ _ _=>rfl,λ_ hb=>hb,λ_ hb=> .inl hb,hW.oks,?_,?_,?_,hW.glN λ_ h=>h.elim⟩
  .intro n e z;obtain⟨l,O,_,h3⟩:=ad n e z;have h4:S0.ρ n=some l:=O;rw[h4];obtain⟨_,cs,rfl⟩:=G3 0 ps n e z;simp only[Ap] at h3⊢;exact h3
  .intro n e l z hl;obtain⟨l',O,h2,h3⟩:=ad n e z;have h4:S0.ρ n=some l':=O;rw[h4] at hl;obtain rfl:=AC hl;obtain⟨_,cs,rfl⟩:=G3 0 ps n e z;exact⟨h2,.inr rfl⟩
  .intro n n' e e' l l' z am hl aw av an;obtain⟨_,cs,rfl⟩:=G3 0 ps n e z;obtain⟨_,au,rfl⟩:=G3 0 ps n' e' am;simp at an
 have aj:BR G fn.ntmps ⟨entry 0 (Dn 0 ps),Dm 0 ps,BT ps⟩ {tmps:=vs++Array.replicate (fn.ntmps - vs.size) undef,defers:=[]} S.w:=by
  have Q:AR S0 (Dn 0 ps) vs.toList:=ak S0 rfl rfl (λn _=>⟨rfl,rfl⟩);refine⟨S0,rfl,ai,λn=>rfl,?_,?_,?_,by simp;rw[aO] at ao;omega,rfl,BV _,λo ho=>absurd ho (wZ _)⟩
  .intro t;have O:=lV (S:=S0) (Dn 0 ps) vs.toList 0 t Q;simp only[BV,Bb,bZ] at O
   have:({tmps:=vs++Array.replicate (fn.ntmps - vs.size) undef,defers:=[]}:Act).eval (.tmp t)=(vs.toList[t]?).getD undef:=by
    simp only[Act.eval,Ib,wT,iE];by_cases ht:t<vs.size
    .simp[ht]
    .simp only[ht,CN]
     have:vs[t]? =none:=XR (by omega)
     simp only[Hq,this]
     split<;>rfl
   rw[this];exact O
  .intro t m hm;exact tK 0 ps (BT ps) (by omega) m (mC (Dn 0 ps) 0 t m hm)
  .intro n e z;obtain⟨O,cs,rfl⟩:=G3 0 ps n e z;exact⟨by show n<BT ps;omega,by simp[Ah.nms]⟩
 refine wp_mono (Qo4 HM (gL hV) c ab _ _ _ _ hk aj) ?_;have fin: ∀(s:A8) (a:Act) (w:World),Lu P fn.results.toList R s->BR G fn.ntmps s a w->a.defers=[]/\ ∃v,(results fn a.tmps).run P w= .ok v w/\RR (.returned v) w:=by
  rintro s a w hr ⟨S1,rfl,Z⟩;unfold Lu at hr;cases hxs:AA (KE P s) fn.results.toList with
  |none=>rw[hxs] at hr;exact hr.elim
  |some xs=>
   rw[hxs] at hr;simp only[Nn] at hr;obtain⟨v,ag,aa⟩:=sQ Z hxs;refine⟨Z.defers,v,ag,?_⟩;have ah:hget s.h=S1.h:=(funext Z.h).symm;rw[ah] at hr;obtain⟨d,O,h2⟩:=Qzf (λ_ h=>h) Z.wf hr aa;exact ac v G S1 d rfl rfl (λ_ h=>h) Z.wf O h2
 intro e a w z;cases e<;>simp only[Gv] at z<;>simp only[bodyPost]
 .obtain⟨s,hs,Z⟩:=z;exact fin s a w hs Z
 .obtain⟨s,hs,_⟩:=z;exact hs.elim
 .obtain⟨s,hs,Z⟩:=z;exact fin s a w hs Z
def Xq{A:Type}(ar:List PK->Option A)(pre:A->Prop)(re:A->D)(u:List Nat)(K:Aj):Option (List PK)->Prop
 |some z=>EQ (λa=>pre a/\K (.im (re a)) {use:=u}) (ar z)
 |none=>False
def LB{A:Type}(ar:List PK->Option A)(pre:A->Prop)(re:A->D):AG:=λargs h _ K=>Xq ar pre re (E7 h args) K (Cp h args)
def AP{B:Type}(rc:D->Option B)(b:B)(d:D):Prop:=rc d=some b
def Quy{P:Program}{g:FuncId}(af:GC P g=true)
 {A B:Type}{ar:List PK->Option A}{ae:A->List PK}(av: ∀ps a,ar ps=some a->BY ps (ae a)){rc:D->Option B}{re:B->D}(ax: ∀d b,rc d=some b->Le d (re b))
 {pre:A->Prop}{f:A->B}
 (ai: ∀a,pre a-> ∀{C:Ba} {S:Ay} {vs:Array Value} {RR:Ending->World->Prop},Wf C S->EV S (ae a) vs.toList->
  (∀(v:Value) (C0:Ba) (S1:Ay) (d:D),C0.w=S.w->C0.ok=S.ok->(∀b,¬C0.M b)->Wf C0 S1->AP rc (f a) d->rd (U7 C0 S1) S1.hp d v->RR (.returned v) S1.w)->Calls P g vs S.w RR):
 H6 P g (LB ar pre λa=>re (f a)):=by
 intro args h nx K z;unfold LB at z;cases hp:Cp h args with
 |none=>rw[hp] at z;exact z.elim
 |some ps=>
  rw[hp] at z;simp only[Xq] at z;cases ha:ar ps with
  |none=>rw[ha] at z;exact z.elim
  |some a=>
   rw[ha] at z;simp only[EQ] at z;obtain⟨ah,hK⟩:=z;refine⟨Oy af,_,_,?_,hK⟩;intro C S vs RR hW aj ak am ab ag;have aw:=Qtx hW args ps vs.toList (λm hm=>aj m (IG _ hm)) hp ab;have aq:=nK hW;refine ai a ah (S:=S.froz) aq ((av ps a ha).c aw) ?_;intro v C0 S1 d G ad an Z hR ay;have G:C0.w=S.w:=G;have ad:C0.ok=S.froz.ok:=ad;have Q: ∀b,b<S.w.heap.size->S1.w.heap[b]? =S.w.heap[b]? :=λb O=>by
    have:=Z.keep b (by rw[G];exact O) (an b)
    rw[G] at this;exact this
   have ac:S.w.heap.size<=S1.w.heap.size:=by have:=Z.size;rw[G] at this;exact this
   let S':Ay:={S with ok:=λb=>S.ok b\/U7 C0 S1 b,w:=S1.w}
   have hp':BA (λ_=>True) S S':=⟨λb O=>⟨.inl O,Q b (hW.oks b O)⟩,λo _ e' au=>⟨e',au,rfl,rfl,rfl⟩⟩;have aa: ∀b,U7 C0 S1 b->S.w.heap.size<=b:=λb O=>by have:=O.1;rw[G] at this;exact this
   have ao:Wf C S':=by
    refine⟨?_,?_,?_,CW hW.dr (by have:=Z.dr;rw[G] at this;exact this),CW hW.size ac,?_,λb O=> .inl (hW.ok0 b O),?_,?_,?_,?_,hW.inj,hW.gl⟩
    .exact Z.os.trans (by rw[G];exact hW.os)
    .exact Z.tape.trans (by rw[G];exact hW.tape)
    .exact Z.output.trans (by rw[G];exact hW.output)
    .intro b O hM;exact (Q b (FC O hW.size)).trans (hW.keep b O hM)
    .rintro b (O|O)
     .exact hW.ok1 b O
     .exact .inr (.inl (CW hW.size (aa b O)))
    .rintro b (O|O)
     .exact FC (hW.oks b O) ac
     .exact O.2.1
    .intro o e he;exact H9 hp' (λlc hl=>Q lc.b (hW.loc o e lc he hl).1) _ (λ_ _=>trivial) (hW.obj o e he)
    .intro o e l he hl;obtain⟨h2,h3⟩:=hW.loc o e l he hl;refine⟨FC h2 ac,?_⟩;cases hm:e.1 with
     |false=>
      rw[hm] at h3;simp only[Dp,CN] at h3⊢;exact h3.imp (λh=> .inl h) id
     |true=>
      rw[hm] at h3;simp only[Bb] at h3⊢;refine⟨?_,h3.2⟩;rintro (h|h)
      .exact h3.1 h
      .have:=aa _ h;omega
   refine ag v S' ao ?_ ⟨hp'.ok,λo _=>hp'.nm o trivial⟩ ?_
   .show S.h=_;funext m;simp[B4.appf,hget]
   .simp only[Aa];have h9:=ax _ _ hR _ _ _ ay;exact Hf (λb O=>⟨.inr O,rfl⟩) _ _ h9
def lP{P:Program}(HM:P.follows .mixedOrders=true){V:D4}(hV:Kc P V){g:FuncId}{fn:Func}{c:Code}(hf:P.funcs[g]? =some fn)(hb:fn.body=some c)(G:E0 fn.ntmps c=true)(z:GC P g=true)
 {A B:Type}{ar:List PK->Option A}{ae:A->List PK}(Z: ∀ps a,ar ps=some a->BY ps (ae a)){n:Nat}(hn: ∀a,(ae a).length=n)(aa:n<=fn.ntmps){rc:D->Option B}{re:B->D}(ac: ∀d b,rc d=some b->Le d (re b))
 {pre:A->Prop}{f:A->B}
 (hk: ∀a,pre a->D6 P V c (bO P fn.results.toList (AP rc (f a))) ⟨entry 0 (Dn 0 (ae a)),Dm 0 (ae a),BT (ae a)⟩):
 H6 P g (LB ar pre λa=>re (f a)):=
 Quy z Z ac (λa Q _ _ _ _ hW ab O=>Qy HM hV hf hb G (by rw[hn];exact aa) (hk a Q) hW ab O)
def Yq(ks:List KK)(ds:List D):KT.fit ⟨true,ks⟩ (.agg ds)=B8 ks ds:=rfl
def Yr(ks:List KK)(k:IntKind)(n:Int):KT.fit ⟨false,ks⟩ (.int k n)=B8 ks [.int k n]:=rfl
def Ys(ks:List KK)(s:ByteArray):KT.fit ⟨false,ks⟩ (.str s)=B8 ks [.str s]:=rfl
def Yt(ks:List KK)(s:Bool):KT.fit ⟨false,ks⟩ (.bool s)=B8 ks [.bool s]:=rfl
def SH:DE []= .tup []:=rfl
def SI(x y:AV):DE [x,y]= .tup [x,y]:=rfl
def SJ(x y z:AV):DE [x,y,z]= .tup [x,y,z]:=rfl
def SK(x y z w:AV):DE [x,y,z,w]= .tup [x,y,z,w]:=rfl
def Qabq(t:Option Nat)(z:Bool)(s:A8)(Kdo Kskip:A8->Prop)(b:Bool):Xx t z s Kdo Kskip (.im (.bool b))=if b=z then Kdo (s.put t (.im (.bool z))) else Kskip (s.put t (.im (.bool (!z)))):=by
 cases b<;>cases z<;>simp[Xx]
def OZ(A B:C4->A8->Prop)(Q:C4)(s:A8)(b:Bool):vQ A B Q s (.im (.bool b))=if b=true then A Q s else B Q s:=by
 cases b<;>simp[vQ]
def SG(c:Bool)(K:Aj)(a b:AV):MW c K a b=if c=true then K a {} else K b {}:=by
 cases c<;>simp[MW]
def Yw(m:Nat)(x:AV)(r:List (Nat×AV))(n:Nat):A9 ((m,x)::r) n=if m=n then x else A9 r n:=by
 by_cases h:m=n
 .subst h;simp[A9]
 .have:(m==n)=false:=by simpa using h
  simp[A9,this,h]
def Yv(m:Nat)(x:Au)(r:Ar)(n:Nat):hget ((m,x)::r) n=if m=n then some x else hget r n:=by
 by_cases h:m=n
 .subst h;simp[hget]
 .have:(m==n)=false:=by simpa using h
  simp[hget,this,h]
def Yu(m:Nat)(x:Au)(r:Ar)(ks:List Nat):Cb ((m,x)::r) ks=if ks.contains m=true then Cb r ks else (m,x)::Cb r ks:=by
 cases h:ks.contains m<;>simp only[Cb,h]<;>simp
def iZ(cl:List (List Nat))(j:Nat)(use touch z:List Nat)(f:Fp):xL cl j use touch z f=if (O0 (use++touch) f.touch && (O0 touch f.use && Hz f.nx f.cnt z))=true then true else Fc cl f.i j:=by
 unfold xL;cases (O0 (use++touch) f.touch && (O0 touch f.use && Hz f.nx f.cnt z))<;>rfl
def jY(k:IntKind)(n:Int):Gj (.int k n)=0:=rfl
def YZ(b:Bool):Gj (.bool b)=0:=rfl
def jZ(s:ByteArray):Gj (.string s)=0:=rfl
def jX(cs:Array Value):Gj (.agg cs)=0:=rfl
def jT(k:IntKind)(n:Int):Rz (.int k n)=false:=rfl
def YX(b:Bool):Rz (.bool b)=false:=rfl
def jW(s:ByteArray):Rz (.string s)=false:=rfl
def jS(cs:Array Value):Rz (.agg cs)=false:=rfl
def jV(a:Option Addr):Rz (.pointer a)=false:=rfl
def jU(a:Option Nat):Rz (.map a)=false:=rfl
def yI:Rz .nilFunc=false:=rfl
def yJ:Rz .nilIface=false:=rfl
section
variable (P:Program)(V:D4)(tm:List (Nat×AV))(h:Nat->Option Au)(nx:Nat)(ty:TypeId)(K:Aj)
def Zt(x:Operand):Ei P V tm h nx ty K (.move x)=step P V true tm h nx ty K (.move x):=rfl
def PM(x:Operand):Ei P V tm h nx ty K (.assign x)=step P V true tm h nx ty K (.assign x):=rfl
def Zv(c:Operand)(a:Operand)(b:Operand):Ei P V tm h nx ty K (.pick c a b)=step P V true tm h nx ty K (.pick c a b):=rfl
def Vq(t:TypeId):Ei P V tm h nx ty K (.alloc t)=step P V true tm h nx ty K (.alloc t):=rfl
def kO(t:TypeId)(x:Operand):Ei P V tm h nx ty K (.box t x)=step P V true tm h nx ty K (.box t x):=rfl
def Vs(t:TypeId)(ps:Array (Nat×Operand)):Ei P V tm h nx ty K (.build t ps)=step P V true tm h nx ty K (.build t ps):=rfl
def Qs8(t:TypeId)(n:Nat)(ps:Array (Nat×Operand)):Ei P V tm h nx ty K (.buildSlice t n ps)=step P V true tm h nx ty K (.buildSlice t n ps):=rfl
def Zs(t:TypeId)(x:Operand):Ei P V tm h nx ty K (.load t x)=step P V true tm h nx ty K (.load t x):=rfl
def Vz(t:TypeId)(x:Operand)(v:Operand):Ei P V tm h nx ty K (.store t x v)=step P V true tm h nx ty K (.store t x v):=rfl
def Qyd(x:Operand):Ei P V tm h nx ty K (.nilCheck x)=step P V true tm h nx ty K (.nilCheck x):=rfl
def Vr(op:BinOp)(t:TypeId)(x:Operand)(y:Operand)(u:TypeId):Ei P V tm h nx ty K (.binOp op t x y u)=step P V true tm h nx ty K (.binOp op t x y u):=rfl
def Zw(op:UnOp)(t:TypeId)(x:Operand):Ei P V tm h nx ty K (.unOp op t x)=step P V true tm h nx ty K (.unOp op t x):=rfl
def Qaa9(s:TypeId)(t:TypeId)(x:Operand):Ei P V tm h nx ty K (.convert s t x)=step P V true tm h nx ty K (.convert s t x):=rfl
def Qyi(f:Fn)(a:Array Operand)(c:Array Operand):Ei P V tm h nx ty K (.makeFunc f a c)=step P V true tm h nx ty K (.makeFunc f a c):=rfl
def Qaa8(t:TypeId)(r:Option Operand):Ei P V tm h nx ty K (.makeMap t r)=step P V true tm h nx ty K (.makeMap t r):=rfl
def Qvy(t:TypeId)(l:Operand)(c:Operand):Ei P V tm h nx ty K (.makeSlice t l c)=step P V true tm h nx ty K (.makeSlice t l c):=rfl
def Qv2(t:TypeId)(x:Operand)(f:Nat):Ei P V tm h nx ty K (.fieldAddr t x f)=step P V true tm h nx ty K (.fieldAddr t x f):=rfl
def Qvr(t:TypeId)(x:Operand)(i:Operand):Ei P V tm h nx ty K (.indexAddr t x i)=step P V true tm h nx ty K (.indexAddr t x i):=rfl
def Vv(t:TypeId)(x:Operand)(i:Operand):Ei P V tm h nx ty K (.index t x i)=step P V true tm h nx ty K (.index t x i):=rfl
def PO(t:TypeId)(m:Operand)(k:Operand)(ok:Bool):Ei P V tm h nx ty K (.lookup t m k ok)=step P V true tm h nx ty K (.lookup t m k ok):=rfl
def Qwt(t:TypeId)(m:Operand)(k:Operand)(v:Operand):Ei P V tm h nx ty K (.mapUpdate t m k v)=step P V true tm h nx ty K (.mapUpdate t m k v):=rfl
def PN(t:TypeId)(m:Operand)(k:Operand)(v:Operand):Ei P V tm h nx ty K (.insert t m k v)=step P V true tm h nx ty K (.insert t m k v):=rfl
def Qabt(x:Operand)(i:Nat):Ei P V tm h nx ty K (.extract x i)=step P V true tm h nx ty K (.extract x i):=rfl
def Vu(t:TypeId)(x:Operand)(i:Nat):Ei P V tm h nx ty K (.field t x i)=step P V true tm h nx ty K (.field t x i):=rfl
def Zr(c:Call):Ei P V tm h nx ty K (.call c)=step P V true tm h nx ty K (.call c):=rfl
def Vy(t:TypeId)(x:Operand)(lo:Option Operand)(z:Option Operand)(G:Option Operand):Ei P V tm h nx ty K (.slice t x lo z G)=step P V true tm h nx ty K (.slice t x lo z G):=rfl
def Vx(t:TypeId)(x:Operand):Ei P V tm h nx ty K (.range t x)=step P V true tm h nx ty K (.range t x):=rfl
def Zu(x:Operand)(b:Bool):Ei P V tm h nx ty K (.next x b)=step P V true tm h nx ty K (.next x b):=rfl
def Vt(x:Operand):Ei P V tm h nx ty K (.entry x)=step P V true tm h nx ty K (.entry x):=rfl
def Qyj(t:TypeId)(x:Operand):Ei P V tm h nx ty K (.makeChan t x)=step P V true tm h nx ty K (.makeChan t x):=rfl
def Qmy(t:TypeId)(x:Operand):Ei P V tm h nx ty K (.makeInterface t x)=step P V true tm h nx ty K (.makeInterface t x):=rfl
def Vw(x:Operand):Ei P V tm h nx ty K (.panic x)=step P V true tm h nx ty K (.panic x):=rfl
def Qs9(x:Operand)(t:TypeId)(u:TypeId)(ok:Bool):Ei P V tm h nx ty K (.typeAssert x t u ok)=step P V true tm h nx ty K (.typeAssert x t u ok):=rfl
end
def J{a b:Prop}(x:a)(y:b):a/\b:=⟨x,y⟩
def VC0:=J @A9.eq_1<|J @hget.eq_1<|J @Cb.eq_1<|J @A8.put.eq_1<|J @A8.put.eq_2<|J @A8.app_nr<|J @kD.eq_1<|J @kD.eq_2<|J @kD.eq_3<|J @kD.eq_4<|J @kD.eq_5<|J @kD.eq_6<|J @kD.eq_7<|J @kD.eq_8<|J @kD.eq_9<|J @Aw.eq_1<|J @Aw.eq_2<|J @Aw.eq_3<|J @Aw.eq_4<|J @D.cells.eq_1<|J @D.cells.eq_2<|J @D.cells.eq_3<|J @D.cells.eq_4<|J @D.cells.eq_5<|J @D.cells.eq_6<|J @D.cells.eq_7<|J @D.cells.eq_8<|J @D.cells.eq_9<|J @D.cells.eq_10<|@D.cells.eq_11
def VC1:=J @D.cells.eq_12<|J @D.cells.eq_13<|J @D.cells.eq_14<|J @D.cells.eq_15<|J @D.cells.eq_16<|J @D.cells.eq_17<|J @AV.cells.eq_1<|J @AV.cells.eq_2<|J @AV.cells.eq_3<|J @AV.cells.eq_4<|J @AV.cells.eq_5<|J @AV.cells.eq_6<|J @AV.cells.eq_7<|J @AV.cells.eq_8<|J @AV.cells.eq_9<|J @AV.cells.eq_10<|J @AV.cells.eq_11<|J @AV.cells.eq_12<|J @D.one.eq_1<|J @D.one.eq_2<|J @D.one.eq_3<|J @D.one.eq_4<|J @D.one.eq_5<|J @D.one.eq_6<|J @D.one.eq_7<|J @D.one.eq_8<|J @D.one.eq_9<|J @D.one.eq_10<|J @D.one.eq_11<|@D.one.eq_12
def VC2:=J @D.one.eq_13<|J @D.one.eq_14<|J @D.one.eq_15<|J @D.one.eq_16<|J @D.one.eq_17<|J @AV.one.eq_1<|J @AV.one.eq_2<|J @AV.one.eq_3<|J @AV.one.eq_4<|J @AV.one.eq_5<|J @AV.one.eq_6<|J @AV.one.eq_7<|J @AV.one.eq_8<|J @AV.one.eq_9<|J @AV.one.eq_10<|J @AV.one.eq_11<|J @AV.one.eq_12<|J @R6.eq_1<|J @R6.eq_2<|J @AV.asD.eq_1<|J @AV.asD.eq_2<|J @AV.asD.eq_3<|J @AV.asD.eq_4<|J @AV.asD.eq_5<|J @AV.asD.eq_6<|J @AV.asD.eq_7<|J @AV.asD.eq_8<|J @AV.asD.eq_9<|J @AV.asD.eq_10<|J @AV.asD.eq_11<|@AV.asD.eq_12
def VC3:=J @O1.eq_1<|J @O1.eq_2<|J @O1.eq_3<|J @DP.eq_1<|J @DP.eq_2<|J @YS.eq_1<|J @YS.eq_2<|J @hdV.eq_1<|J @hdV.eq_2<|J @oH.eq_1<|J @oH.eq_2<|J @jO.eq_1<|J @cW.eq_1<|J @Co.eq_1<|J @D.beq.eq_1<|J @D.beq.eq_2<|J @D.beq.eq_3<|J @D.beq.eq_4<|J @D.beql.eq_1<|J @D.beql.eq_2<|J @lk.eq_1<|J @lk.eq_2<|J @Eg.eq_1<|J @Eg.eq_2<|J @Ju.eq_1<|J @Ju.eq_2<|J @gG.eq_1<|J @vX.eq_1<|J @J8.eq_1<|@J8.eq_2
def VC4:=J @J7.eq_1<|J @J7.eq_2<|J @XB.eq_1<|J @XB.eq_2<|J @XB.eq_3<|J @XB.eq_4<|J @YH.eq_1<|J @YH.eq_2<|J @Qxz.eq_1<|J @Qyo.eq_1<|J @V1.eq_1<|J @JN.eq_1<|J @JN.eq_2<|J @tF.eq_1<|J @tF.eq_2<|J @Qri.eq_1<|J @RZ.eq_1<|J @RZ.eq_2<|J @KY.eq_1<|J @KY.eq_2<|J @KY.eq_3<|J @Y0.eq_1<|J @Y0.eq_2<|J @faK.eq_1<|J @zN.eq_1<|J @xY.eq_1<|J @M3.eq_1<|J @M3.eq_2<|J @T7.eq_1<|@T6.eq_1
def VC5:=J @T6.eq_2<|J @T6.eq_3<|J @M2.eq_1<|J @M2.eq_2<|J @Bl.eq_1<|J @Bl.eq_2<|J @xR.eq_1<|J @xR.eq_2<|J @Qjp.eq_1<|J @TH.eq_1<|J @kCh.eq_1<|J @ixK.eq_1<|J @ixK.eq_2<|J @Qxc.eq_1<|J @Hb.eq_1<|J @Hb.eq_2<|J @Hb.eq_3<|J @Hb.eq_4<|J @Hb.eq_5<|J @Hb.eq_6<|J @Hb.eq_7<|J @Hb.eq_8<|J @Hb.eq_9<|J @Hb.eq_10<|J @Hb.eq_11<|J @Hb.eq_12<|J @Hb.eq_13<|J @Hb.eq_14<|J @Hb.eq_15<|J @Hb.eq_16<|@Hb.eq_17
def VC6:=J @Ja.eq_1<|J @Ja.eq_2<|J @Ja.eq_3<|J @Ja.eq_4<|J @Ja.eq_5<|J @Ja.eq_6<|J @Ja.eq_7<|J @Ja.eq_8<|J @Ja.eq_9<|J @Ja.eq_10<|J @Ja.eq_11<|J @Ja.eq_12<|J @Ja.eq_13<|J @Ja.eq_14<|J @cF.eq_1<|J @SN.eq_1<|J @vO.eq_1<|J @vO.eq_2<|J @vO.eq_3<|J @vO.eq_4<|J @WL.eq_1<|J @WL.eq_2<|J @WL.eq_3<|J @X6.eq_1<|J @X6.eq_2<|J @X6.eq_3<|J @NW.eq_1<|J @NW.eq_2<|J @NW.eq_3<|@JR.eq_1
def VC7:=J @JR.eq_2<|J @N2.eq_1<|J @N2.eq_2<|J @uW.eq_1<|J @uW.eq_2<|J @uS.eq_1<|J @uS.eq_2<|J @bB.eq_1<|J @bB.eq_2<|J @bB.eq_3<|J @gO.eq_1<|J @gO.eq_2<|J @gO.eq_3<|J @gO.eq_4<|J @ZH.eq_1<|J @ZH.eq_2<|J @bI.eq_1<|J @bI.eq_2<|J @HY.eq_1<|J @HY.eq_2<|J @HY.eq_3<|J @JI.eq_1<|J @MY.eq_1<|J @NR.eq_1<|J @NR.eq_2<|J @Sf.eq_1<|J @xI.eq_1<|J @xI.eq_2<|J @Qsy.eq_1<|@I6.eq_1
def VC8:=J @I6.eq_2<|J @Cq.eq_1<|J @Cq.eq_2<|J @Jq.eq_1<|J @Jq.eq_2<|J @LX.eq_1<|J @LX.eq_2<|J @bsE.eq_1<|J @bsK.eq_1<|J @zC.eq_1<|J @msE.eq_1<|J @msK.eq_1<|J @zO.eq_1<|J @bE.eq_1<|J @bE.eq_2<|J @D5.eq_1<|J @D5.eq_2<|J @D5.eq_3<|J @Bm.eq_1<|J @BZ.eq_1<|J @BZ.eq_2<|J @Src.okOne.eq_1<|J @Src.okOne.eq_2<|J @Src.okOne.eq_3<|J @NO.eq_1<|J @NO.eq_2<|J @NO.eq_3<|J @oE.eq_1<|J @oE.eq_2<|J @oE.eq_3<|@oD.eq_1
def VC9:=J @oD.eq_2<|J @oD.eq_3<|J @Jo.eq_1<|J @Jo.eq_2<|J @Sa.eq_1<|J @Sa.eq_2<|J @apE.eq_1<|J @apK.eq_1<|J @Qsl.eq_1<|J @Gi.eq_1<|J @Qxr.eq_1<|J @Qxr.eq_2<|J @MC.eq_1<|J @jL.eq_1<|J @jL.eq_2<|J @gM.eq_1<|J @gM.eq_2<|J @gM.eq_3<|J @TU.eq_1<|J @vT.eq_1<|J @vT.eq_2<|J @vT.eq_3<|J @FH.eq_1<|J @FH.eq_2<|J @FH.eq_3<|J @FH.eq_4<|J @FH.eq_5<|J @FH.eq_6<|J @FH.eq_7<|@FH.eq_8
def VC10:=J @FH.eq_9<|J @gU.eq_1<|J @Qy3.eq_1<|J @J5.eq_1<|J @Uc.eq_1<|J @gV.eq_1<|J @gV.eq_2<|J @gV.eq_3<|J @YP.eq_1<|J @YP.eq_2<|J @luE.eq_1<|J @luK.eq_1<|J @Qnn.eq_1<|J @Un.eq_1<|J @Um.eq_1<|J @Um.eq_2<|J @Ll.eq_1<|J @Ll.eq_2<|J @Ll.eq_3<|J @Ll.eq_4<|J @Ll.eq_5<|J @Ll.eq_6<|J @Ll.eq_7<|J @Ll.eq_8<|J @Ll.eq_9<|J @muF.eq_1<|J @Uo.eq_1<|J @lY.eq_1<|J @lY.eq_2<|@SB.eq_1
def VC11:=J @Yo.eq_1<|J @Yo.eq_2<|J @SA.eq_1<|J @SA.eq_2<|J @SA.eq_3<|J @SA.eq_4<|J @SA.eq_5<|J @SA.eq_6<|J @SA.eq_7<|J @SA.eq_8<|J @SA.eq_9<|J @Qni.eq_1<|J @exA.eq_1<|J @exA.eq_2<|J @exD.eq_1<|J @exD.eq_2<|J @mA.eq_1<|J @mA.eq_2<|J @mB.eq_1<|J @mB.eq_2<|J @mB.eq_3<|J @mB.eq_4<|J @Rg.eq_1<|J @Rg.eq_2<|J @QX.eq_1<|J @QX.eq_2<|J @Qjk.eq_1<|J @Qg6.eq_1<|J @Rz.eq_1<|J @Xz.eq_1<|@Xz.eq_2
def VC12:=J @Xz.eq_3<|J @Xz.eq_4<|J @Qk7.eq_1<|J @Qk7.eq_2<|J @Qm9.eq_1<|J @Qzp.eq_1<|J @Qsv.eq_1<|J @VL.eq_1<|J @Gj.eq_1<|J @Gj.eq_2<|J @Gj.eq_3<|J @Gj.eq_4<|J @FI.eq_1<|J @FI.eq_2<|J @FI.eq_3<|J @FI.eq_4<|J @mX.eq_1<|J @mX.eq_2<|J @Rl.eq_1<|J @Rl.eq_2<|J @Xb.eq_1<|J @Xb.eq_2<|J @VM.eq_1<|J @Xa.eq_1<|J @Xa.eq_2<|J @N3.eq_1<|J @bM.eq_1<|J @bM.eq_2<|J @bM.eq_3<|@bM.eq_4
def VC13:=J @bM.eq_5<|J @Lz.eq_1<|J @uQ.eq_1<|J @uQ.eq_2<|J @HP.eq_1<|J @HP.eq_2<|J @Ql.eq_1<|J @LY.eq_1<|J @LY.eq_2<|J @Sm.eq_1<|J @iR.eq_1<|J @iS.eq_1<|J @iT.eq_1<|J @Jr.eq_1<|J @Jr.eq_2<|J @TK.isStr.eq_1<|J @TK.isStr.eq_2<|J @TK.isStr.eq_3<|J @TK.isStr.eq_4<|J @TK.isStr.eq_5<|J @TK.isStr.eq_6<|J @TK.isStr.eq_7<|J @TK.isStr.eq_8<|J @TK.isStr.eq_9<|J @isStr.eq_1<|J @isStr.eq_2<|J @WO.eq_1<|J @N4.eq_1<|J @N5.eq_1<|@TK.isSl.eq_1
def VC14:=J @TK.isSl.eq_2<|J @TK.isSl.eq_3<|J @TK.isSl.eq_4<|J @TK.isSl.eq_5<|J @TK.isSl.eq_6<|J @TK.isSl.eq_7<|J @TK.isSl.eq_8<|J @TK.isSl.eq_9<|J @Qlj.eq_1<|J @DW.eq_1<|J @DW.eq_2<|J @Hs.eq_1<|J @Hs.eq_2<|J @V5.eq_1<|J @V5.eq_2<|J @V5.eq_3<|J @JP.eq_1<|J @JP.eq_2<|J @JP.eq_3<|J @vP.eq_1<|J @vP.eq_2<|J @JQ.eq_1<|J @JQ.eq_2<|J @JQ.eq_3<|J @V6.eq_1<|J @yU.eq_1<|J @yU.eq_2<|J @kZ.eq_1<|J @QW.eq_1<|J @QW.eq_2<|@QW.eq_3
def VC15:=J @QW.eq_4<|J @QW.eq_5<|J @QW.eq_6<|J @QW.eq_7<|J @QW.eq_8<|J @QW.eq_9<|J @Qsm.eq_1<|J @iW.eq_1<|J @iX.eq_1<|J @gS.eq_1<|J @gS.eq_2<|J @gS.eq_3<|J @S6.eq_1<|J @S7.eq_1<|J @Wv.eq_1<|J @Wv.eq_2<|J @gH.eq_1<|J @S8.eq_1<|J @S8.eq_2<|J @S8.eq_3<|J @S9.eq_1<|J @S9.eq_2<|J @S9.eq_3<|J @S9.eq_4<|J @S9.eq_5<|J @S9.eq_6<|J @S9.eq_7<|J @S9.eq_8<|J @S9.eq_9<|@Qzd.eq_1
def VC16:=J @Yi.eq_1<|J @Yi.eq_2<|J @Ss.eq_1<|J @Ss.eq_2<|J @Ss.eq_3<|J @Ss.eq_4<|J @Ss.eq_5<|J @Ss.eq_6<|J @Ss.eq_7<|J @Ss.eq_8<|J @Ss.eq_9<|J @Qrt.eq_1<|J @Vg.eq_1<|J @rgD.eq_1<|J @rgM.eq_1<|J @rgM.eq_2<|J @Vf.eq_1<|J @Vf.eq_2<|J @Vf.eq_3<|J @Vf.eq_4<|J @Vf.eq_5<|J @Vf.eq_6<|J @Vf.eq_7<|J @Vf.eq_8<|J @Vf.eq_9<|J @Qsh.eq_1<|J @yL.eq_1<|J @U5.eq_1<|J @WK.eq_1<|@kC.eq_1
def VC17:=J @kC.eq_2<|J @SL.eq_1<|J @Qsz.eq_1<|J @mcE.eq_1<|J @mcV.eq_1<|J @mcK.eq_1<|J @mcK.eq_2<|J @zQ.eq_1<|J @cQ.eq_1<|J @TZ.eq_1<|J @TZ.eq_2<|J @kV.eq_1<|J @L2.eq_1<|J @kN.eq_1<|J @rvC.eq_1<|J @rvE.eq_1<|J @rvK.eq_1<|J @rvK.eq_2<|J @L0.eq_1<|J @SO.eq_1<|J @SP.eq_1<|J @SP.eq_2<|J @NP.eq_1<|J @NP.eq_2<|J @IB.eq_1<|J @IB.eq_2<|J @IB.eq_3<|J @IB.eq_4<|J @IB.eq_5<|J @IB.eq_6<|@IB.eq_7
def VC18:=J @IB.eq_8<|J @IB.eq_9<|J @IB.eq_10<|J @IB.eq_11<|J @IB.eq_12<|J @IB.eq_13<|J @IB.eq_14<|J @IB.eq_15<|J @IB.eq_16<|J @IB.eq_17<|J @FG.eq_1<|J @FG.eq_2<|J @FG.eq_3<|J @FG.eq_4<|J @FG.eq_5<|J @FG.eq_6<|J @FG.eq_7<|J @FG.eq_8<|J @FG.eq_9<|J @FG.eq_10<|J @FG.eq_11<|J @FG.eq_12<|J @unS.eq_1<|J @R5.eq_1<|J @R5.eq_2<|J @R5.eq_4<|J @R5.eq_5<|J @R5.eq_6<|J @R5.eq_7<|@R5.eq_8
def VC19:=J @R5.eq_9<|J @R5.eq_10<|J @R5.eq_11<|J @Qst.eq_1<|J @Ly.eq_1<|J @LD.eq_1<|J @LD.eq_2<|J @LD.eq_3<|J @LD.eq_4<|J @LD.eq_5<|J @LD.eq_6<|J @LD.eq_7<|J @LD.eq_8<|J @LD.eq_9<|J @LD.eq_10<|J @LD.eq_11<|J @LD.eq_12<|J @Xu.eq_1<|J @Xu.eq_2<|J @Xu.eq_3<|J @Xu.eq_4<|J @Xu.eq_5<|J @Xu.eq_6<|J @Xu.eq_7<|J @uH.eq_1<|J @uH.eq_2<|J @uH.eq_3<|J @YT.eq_1<|J @YT.eq_2<|@Uk.eq_1
def VC20:=J @Uk.eq_2<|J @Uk.eq_3<|J @Uk.eq_4<|J @Uk.eq_5<|J @Uk.eq_6<|J @Uk.eq_7<|J @Uk.eq_8<|J @Uk.eq_9<|J @Qko.eq_1<|J @DV.eq_1<|J @DV.eq_2<|J @Kh.eq_1<|J @Kh.eq_2<|J @Qrk.eq_1<|J @zE.eq_1<|J @Qno.eq_1<|J @Sz.eq_1<|J @Sz.eq_2<|J @Sx.eq_1<|J @Sx.eq_2<|J @Sx.eq_3<|J @Sx.eq_4<|J @Sx.eq_5<|J @Sx.eq_6<|J @Sx.eq_7<|J @Sx.eq_8<|J @Im.eq_1<|J @Im.eq_2<|J @Im.eq_3<|J @Im.eq_4<|@Im.eq_5
def VC21:=J @Im.eq_6<|J @Im.eq_7<|J @Im.eq_8<|J @Im.eq_9<|J @Im.eq_10<|J @Im.eq_11<|J @Im.eq_12<|J @Im.eq_13<|J @Sw.eq_1<|J @Sw.eq_2<|J @Sw.eq_3<|J @OV.eq_1<|J @OV.eq_2<|J @hnm.eq_1<|J @hnm.eq_2<|J @Qz3.eq_1<|J @Qz3.eq_2<|J @NU.eq_1<|J @NU.eq_2<|J @NU.eq_3<|J @Ro.eq_1<|J @Ro.eq_2<|J @Rm.eq_1<|J @Rm.eq_2<|J @eN.eq_1<|J @Rn.eq_1<|J @Rn.eq_2<|J @step.eq_1<|J @step.eq_2<|@step.eq_3
def VC22:=J @step.eq_4<|J @step.eq_5<|J @step.eq_6<|J @step.eq_7<|J @step.eq_8<|J @step.eq_9<|J @step.eq_10<|J @step.eq_11<|J @step.eq_12<|J @step.eq_13<|J @step.eq_14<|J @step.eq_15<|J @step.eq_16<|J @step.eq_17<|J @step.eq_18<|J @step.eq_19<|J @step.eq_20<|J @step.eq_21<|J @step.eq_22<|J @step.eq_23<|J @step.eq_24<|J @step.eq_25<|J @step.eq_26<|J @step.eq_27<|J @step.eq_28<|J @step.eq_29<|J @step.eq_30<|J @step.eq_31<|J @Xx.eq_2<|@AB.eq_1
def VC23:=J @AB.eq_2<|J @AB.eq_3<|J @AB.eq_4<|J @AB.eq_5<|J @AB.eq_6<|J @AB.eq_7<|J @AB.eq_8<|J @K0.eq_1<|J @IC.eq_1<|J @IC.eq_2<|J @B4.ok_nr<|J @XI.eq_1<|J @XI.eq_2<|J @G4.eq_1<|J @G4.eq_2<|J @Fx.eq_1<|J @Ei.eq_1<|J @Ei.eq_2<|J @JS.eq_1<|J @N1.eq_1<|J @Y9.eq_1<|J @Y9.eq_2<|J @yP.eq_1<|J @yP.eq_2<|J @Lv.eq_1<|J @Lv.eq_2<|J @L9.eq_1<|J @L9.eq_2<|J @JC.eq_1<|J @JC.eq_2<|@O0.eq_1
def VC24:=J @O0.eq_2<|J @Hz.eq_1<|J @Hz.eq_2<|J @IJ.eq_1<|J @IJ.eq_2<|J @IJ.eq_3<|J @IJ.eq_4<|J @IJ.eq_5<|J @IJ.eq_6<|J @Eb.eq_1<|J @Eb.eq_2<|J @Eb.eq_3<|J @ins.eq_1<|J @TA.eq_1<|J @TA.eq_2<|J @Ht.eq_1<|J @Ht.eq_2<|J @Fq.eq_1<|J @Fq.eq_2<|J @Fc.eq_1<|J @NY.eq_1<|J @NY.eq_2<|J @B4.touch.eq_1<|J @cN.eq_1<|J @N6.eq_1<|J @N0.eq_1<|J @Y8.eq_1<|J @Y8.eq_2<|J @yO.eq_1<|@yO.eq_2
def VC25:=J @WD.eq_1<|J @WD.eq_2<|J @N8.eq_1<|J @N8.eq_2<|J @N8.eq_3<|J @Jx.eq_1<|J @Jx.eq_2<|J @nH.eq_1<|J @nH.eq_2<|J @nH.eq_3<|J @GM.eq_1<|J @GM.eq_2<|J @CQ.eq_1<|J @CQ.eq_2<|J @Df.eq_1<|J @Df.eq_2<|J @Cg.eq_1<|J @Cg.eq_2<|J @A8.good.eq_1<|J @pm.eq_1<|J @pm.eq_2<|J @jR.eq_1<|J @H2.eq_1<|J @H2.eq_2<|J @Hl.eq_1<|J @Hl.eq_2<|J @mt.eq_1<|J @mt.eq_2<|J @mt.eq_3<|@mt.eq_4
def VC26:=J @mt.eq_5<|J @mt.eq_6<|J @mt.eq_7<|J @mt.eq_8<|J @mt.eq_9<|J @mt.eq_10<|J @mt.eq_11<|J @mt.eq_13<|J @mt.eq_14<|J @Es.eq_1<|J @Es.eq_2<|J @Es.eq_3<|J @Es.eq_4<|J @GZ.eq_1<|J @GZ.eq_2<|J @GZ.eq_3<|J @GZ.eq_4<|J @Er.eq_1<|J @Er.eq_3<|J @Er.eq_4<|J @Er.eq_5<|J @Er.eq_6<|J @Er.eq_7<|J @Er.eq_8<|J @Er.eq_9<|J @Er.eq_10<|J @Er.eq_11<|J @Er.eq_12<|J @Er.eq_13<|J @Er.eq_14<|@Er.eq_15
def VC27:=J @Er.eq_16<|J @Er.eq_17<|J @Er.eq_18<|J @Er.eq_19<|J @Er.eq_20<|J @KS.eq_1<|J @KS.eq_2<|J @Ut.eq_1<|J @Ut.eq_2<|J @Fa.eq_1<|J @Fa.eq_2<|J @RC.eq_1<|J @RC.eq_2<|J @HC.eq_1<|J @HC.eq_2<|J @W7.eq_1<|J @W7.eq_2<|J @Pk.eq_1<|J @Pk.eq_2<|J @Fy.eq_1<|J @Fy.eq_2<|J @Fy.eq_3<|J @MK.eq_1<|J @MK.eq_2<|J @MK.eq_3<|J @MJ.eq_1<|J @MJ.eq_2<|J @MJ.eq_3<|J @Ip.eq_1<|@Ip.eq_2
def VC28:=J @Tc.eq_1<|J @Hy.eq_1<|J @Hy.eq_2<|J @Hy.eq_3<|J @Hy.eq_4<|J @Hy.eq_5<|J @Hy.eq_6<|J @Hy.eq_7<|J @Lp.eq_1<|J @Lp.eq_2<|J @JJ.eq_1<|J @JJ.eq_2<|J @FK.eq_1<|J @FK.eq_2<|J @FK.eq_3<|J @FK.eq_4<|J @FK.eq_5<|J @FK.eq_6<|J @FK.eq_7<|J @FK.eq_8<|J @AV.fzA.eq_1<|J @AV.fzA.eq_2<|J @AV.fzA.eq_3<|J @AV.fzA.eq_4<|J @AV.fzA.eq_5<|J @AV.fzA.eq_6<|J @AV.fzA.eq_7<|J @AV.fzA.eq_8<|J @AV.fzA.eq_9<|@AV.fzA.eq_10
def VC29:=J @AV.fzA.eq_11<|J @AV.fzA.eq_12<|J @DX.eq_1<|J @DX.eq_2<|J @DY.eq_1<|J @DY.eq_2<|J @Ah.fzA.eq_1<|J @Ah.fzA.eq_2<|J @Ah.fzA.eq_3<|J @Ah.fzA.eq_4<|J @Ah.fzA.eq_5<|J @Ah.fzA.eq_6<|J @Ah.fzA.eq_7<|J @Ir.eq_1<|J @Ir.eq_2<|J @Iq.eq_1<|J @Iq.eq_2<|J @Tf.eq_1<|J @MI.eq_1<|J @MI.eq_2<|J @MI.eq_3<|J @D6.eq_1<|J @D6.eq_2<|J @D6.eq_3<|J @D6.eq_4<|J @D6.eq_5<|J @D6.eq_6<|J @D6.eq_7<|J @D6.eq_8<|J @D6.eq_9<|@KK.fit.eq_1
def VC30:=J @KK.fit.eq_2<|J @KK.fit.eq_3<|J @B8.eq_1<|J @B8.eq_2<|J @AV.bel.eq_1<|J @AV.bel.eq_2<|J @AV.bel.eq_3<|J @AV.bel.eq_4<|J @AV.bel.eq_5<|J @AV.bel.eq_6<|J @AV.bel.eq_7<|J @AV.bel.eq_8<|J @AV.bel.eq_9<|J @AV.bel.eq_10<|J @AV.bel.eq_11<|J @AV.bel.eq_12<|J @AQ.eq_1<|J @AQ.eq_2<|J @AV.nms.eq_1<|J @AV.nms.eq_2<|J @AV.nms.eq_3<|J @AV.nms.eq_4<|J @AV.nms.eq_5<|J @AV.nms.eq_6<|J @AV.nms.eq_7<|J @AV.nms.eq_8<|J @AV.nms.eq_9<|J @AV.nms.eq_10<|J @AV.nms.eq_11<|@AV.nms.eq_12
def VC31:=J @Ax.eq_1<|J @Ax.eq_2<|J @B7.eq_1<|J @B7.eq_2<|J @Ah.nms.eq_1<|J @Ah.nms.eq_2<|J @Ah.nms.eq_3<|J @Ah.nms.eq_4<|J @Ah.nms.eq_5<|J @Ah.nms.eq_6<|J @Ah.nms.eq_7<|J @AV.ren.eq_1<|J @AV.ren.eq_2<|J @AV.ren.eq_3<|J @AV.ren.eq_4<|J @AV.ren.eq_5<|J @AV.ren.eq_6<|J @AV.ren.eq_7<|J @AV.ren.eq_8<|J @AV.ren.eq_9<|J @AV.ren.eq_10<|J @AV.ren.eq_11<|J @AV.ren.eq_12<|J @Bd.eq_1<|J @Bd.eq_2<|J @Ah.ren.eq_1<|J @Ah.ren.eq_2<|J @Ah.ren.eq_3<|J @Ah.ren.eq_4<|@Ah.ren.eq_5
def VC32:=J @Ah.ren.eq_6<|J @Ah.ren.eq_7<|J @AA.eq_1<|J @AA.eq_2<|J @Q9.eq_1<|J @Q9.eq_2<|J @XE.eq_1<|J @X7.eq_1<|J @oJ.eq_1<|J @oJ.eq_2<|J @jN.eq_1<|J @jN.eq_2<|J @jN.eq_3<|J @JA.eq_1<|J @kp.eq_1<|J @kp.eq_2<|J @EM.eq_1<|J @EM.eq_2<|J @Bs.eq_1<|J @Bs.eq_2<|J @Bs.eq_3<|J @Bs.eq_4<|J @Bs.eq_5<|J @Bs.eq_6<|J @Bs.eq_7<|J @Bs.eq_8<|J @Bs.eq_9<|J @Bs.eq_10<|J @Bs.eq_11<|J @Bs.eq_12<|@Bs.eq_13
def VC33:=J @Bs.eq_14<|J @LZ.eq_1<|J @Js.eq_1<|J @Js.eq_2<|J @KE.eq_1<|J @KE.eq_2<|J @DE.eq_1<|J @entry.eq_1<|J @entry.eq_2<|J @YB.eq_1<|J @YB.eq_2<|J @Iw.eq_1<|J @DU.eq_1<|J @DU.eq_2<|J @DU.eq_3<|J @DU.eq_4<|J @DU.eq_5<|J @DU.eq_6<|J @DU.eq_7<|J @Jt.eq_1<|J @Jt.eq_2<|J @Jt.eq_3<|J @klE.eq_1<|J @klE.eq_2<|J @JF.eq_1<|J @JF.eq_2<|J @exE.eq_1<|J @exE.eq_2<|J @exE.eq_3<|@JE.eq_1
def VC34:=J @JE.eq_2<|J @Sb.eq_1<|J @Sb.eq_2<|J @Sb.eq_3<|J @Zq.eq_1<|J @Zq.eq_2<|J @Yz.eq_1<|J @Yz.eq_2<|J @JK.eq_1<|J @JK.eq_2<|J @JK.eq_3<|J @dC.eq_1<|J @Np.eq_1<|J @Np.eq_2<|J @Vd.eq_1<|J @PF.eq_1<|J @PF.eq_2<|J @PF.eq_3<|J @KW.eq_1<|J @xQ.eq_1<|J @xQ.eq_2<|J @xP.eq_1<|J @sg.eq_1<|J @Bp.eq_1<|J @Bp.eq_2<|J @tab.eq_1<|J @tab.eq_2<|J @Dn.eq_1<|J @Dn.eq_2<|@Dn.eq_3
def VC35:=J @Dm.eq_1<|J @Dm.eq_2<|J @Dm.eq_3<|J @BT.eq_1<|J @BT.eq_2<|J @BT.eq_3<|J @QQ.eq_1<|J @QQ.eq_2<|J @QQ.eq_3<|J @QQ.eq_4<|J @QQ.eq_5<|J @QQ.eq_6<|J @QQ.eq_7<|J @QQ.eq_8<|J @QP.eq_1<|J @QP.eq_2<|J @QP.eq_3<|J @QP.eq_4<|J @QP.eq_5<|J @QP.eq_6<|J @QP.eq_7<|J @QP.eq_8<|J @oG.eq_1<|J @oG.eq_2<|J @ER.eq_1<|J @ER.eq_2<|J @ER.eq_3<|J @ER.eq_4<|J @ER.eq_5<|J @ER.eq_6<|@ER.eq_7
def VC36:=J @ER.eq_8<|J @ER.eq_9<|J @ER.eq_10<|J @ER.eq_11<|J @ER.eq_12<|J @Tg.eq_1<|J @Tg.eq_2<|J @cY.eq_1<|J @cY.eq_2<|J @FV.eq_1<|J @FV.eq_2<|J @FV.eq_3<|J @FV.eq_4<|J @FV.eq_5<|J @FV.eq_6<|J @FV.eq_7<|J @FV.eq_8<|J @FV.eq_9<|J @FV.eq_10<|J @FV.eq_11<|J @FV.eq_12<|J @FV.eq_13<|J @FV.eq_14<|J @FV.eq_15<|J @FV.eq_16<|J @FV.eq_17<|J @pkC.eq_1<|J @pkC.eq_2<|J @QV.eq_1<|@QV.eq_2
def VC37:=J @QV.eq_3<|J @QV.eq_4<|J @QV.eq_5<|J @QV.eq_6<|J @QV.eq_7<|J @QV.eq_8<|J @pkR.eq_1<|J @pkR.eq_2<|J @UI.eq_1<|J @UI.eq_2<|J @UI.eq_3<|J @UI.eq_4<|J @UI.eq_5<|J @UI.eq_6<|J @UI.eq_7<|J @UI.eq_8<|J @IL.eq_1<|J @IL.eq_2<|J @IL.eq_3<|J @IL.eq_4<|J @IL.eq_5<|J @IL.eq_6<|J @IL.eq_7<|J @IL.eq_8<|J @IL.eq_9<|J @IL.eq_10<|J @IL.eq_11<|J @IL.eq_12<|J @X8.eq_1<|@X8.eq_2
def VC38:=J @X8.eq_3<|J @Kp.eq_1<|J @Kp.eq_2<|J @EQ.eq_1<|J @EQ.eq_2<|J @Tb.eq_1<|J @Tb.eq_2<|J @aE.eq_1<|J @aE.eq_2<|J @Ff.eq_1<|J @Fv.eq_1<|J @Fv.eq_2<|J @Fv.eq_3<|J @Fv.eq_4<|J @Fv.eq_5<|J @Fv.eq_6<|J @Fv.eq_7<|J @Fv.eq_8<|J @Fv.eq_9<|J @Fv.eq_10<|J @Fv.eq_11<|J @Fv.eq_12<|J @Na.eq_1<|J @Db.eq_1<|J @An.eq_1<|J @YI.eq_1<|J @SM.eq_1<|J @SM.eq_2<|J @HZ.eq_1<|J @HZ.eq_2<|@JL.eq_1
def VC39:=J @JL.eq_2<|J @Nm.eq_1<|J @Nm.eq_2<|J @dB.eq_1<|J @Nl.eq_1<|J @Nl.eq_2<|J @I0.eq_1<|J @NT.eq_1<|J @NT.eq_2<|J @NT.eq_3<|J @AD.eq_1<|J @AD.eq_2<|J @AD.eq_3<|J @Fs.eq_1<|J @Fs.eq_2<|J @Cs.eq_1<|J @Cs.eq_2<|J @P3.eq_1<|J @fX.eq_1<|J @fX.eq_2<|J @bP.eq_1<|J @bP.eq_2<|J @W8.eq_1<|J @W8.eq_2<|J @B6.eq_1<|J @B6.eq_2<|J @jD.eq_1<|J @jC.eq_1<|J @jC.eq_2<|@Jz.eq_1
def VC40:=J @Jz.eq_2<|J @Ta.eq_1<|J @Ta.eq_2<|J @Ta.eq_3<|J @KZ.eq_1<|J @KZ.eq_2<|J @Pf.eq_1<|J @Pf.eq_2<|J @Pf.eq_3<|J @Pf.eq_4<|J @Nn.eq_1<|J @Nn.eq_2<|J @Lu.eq_1<|J @bO.eq_1<|J @bO.eq_2<|J @bO.eq_3<|J @RE.eq_1<|J @RE.eq_2<|J @LV.eq_1<|J @bJ.eq_1<|J @bJ.eq_2<|J @OQ.eq_1<|J @OQ.eq_2<|J @OQ.eq_3<|J @bk.eq_1<|J @bk.eq_2<|J @bk.eq_3<|J @bk.eq_4<|J @bk.eq_5<|@bk.eq_6
def VC41:=J @bk.eq_7<|J @bk.eq_8<|J @bk.eq_9<|J @bk.eq_10<|J @bk.eq_11<|J @bk.eq_12<|J @bk.eq_13<|J @JH.eq_1<|J @E6.eq_1<|J @LW.eq_1<|J @LW.eq_2<|J @Yc.eq_1<|J @Ec.eq_1<|J @Ec.eq_2<|J @Ec.eq_3<|J @Ec.eq_4<|J @Ec.eq_5<|J @Ec.eq_6<|J @Ec.eq_7<|J @Ec.eq_8<|J @Ec.eq_9<|J @Ec.eq_10<|J @Ec.eq_11<|J @Ec.eq_12<|J @Gz.eq_1<|J @Gz.eq_2<|J @Gz.eq_3<|J @Cp.eq_1<|J @Cp.eq_2<|J @Xq.eq_1<|@Xq.eq_2
def VC42:=J @AP.eq_1<|J @Yq<|J @Yr<|J @Ys<|J @Yt<|J @SH<|J @SI<|J @SJ<|J @SK<|J @Qabq<|J @OZ<|J @SG<|J @Yw<|J @Yv<|J @Yu<|J @iZ<|J @jY<|J @YZ<|J @jZ<|J @jX<|J @jT<|J @YX<|J @jW<|J @jS<|J @jV<|J @jU<|J @yI<|J @yJ<|J @Zt<|@PM
def VC43:=J @Zv<|J @Vq<|J @kO<|J @Vs<|J @Qs8<|J @Zs<|J @Vz<|J @Qyd<|J @Vr<|J @Zw<|J @Qaa9<|J @Qyi<|J @Qaa8<|J @Qvy<|J @Qv2<|J @Qvr<|J @Vv<|J @PO<|J @Qwt<|J @PN<|J @Qabt<|J @Vu<|J @Zr<|J @Vy<|J @Vx<|J @Zu<|J @Vt<|J @Qyj<|J @Qmy<|J @Vw<|@Qs9
end Go.Ae
