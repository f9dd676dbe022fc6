/- Lemmas. Conditions: none. -/
import Derived.Test.YtnlohpcinfedjaaGreatDoorP00
import Derived.Laws.Cells
set_option linter.all false
set_option maxHeartbeats 8000000
set_option maxRecDepth 100000
namespace Go.Ae
def Ox{P:Program}{t:TypeId}{ti:TI}(h:tI P t=some ti):
 ∃i u,P.info? t=some i/\P.underlying t=some u/\ti.size=i.size/\ti.bytes=i.bytes/\
  ti.agg=OE u/\ti.kind=FL P u/\ti.zero=zOf ti.agg i.zero:=by
 unfold tI at h;split at h
 .rename_i i u z G;simp only[AO] at h;subst h;exact⟨i,u,z,G,rfl,rfl,rfl,rfl,rfl⟩
 .cases h
section
variable {P:Program}{t:TypeId}{ti:TI}(h:tI P t=some ti)(w:World)
include h
def IX:(sizeOf t).run P w= .ok ti.size w:=by
 obtain⟨i,u,G,hu,z,O,Q,Z,h5⟩:=Ox h;simp[sizeOf,typeInfo,G,z]
def Qsu:(isAgg t).run P w= .ok ti.agg w:=by
 obtain⟨i,u,hi,G,Q,Z,z,h4,h5⟩:=Ox h;have O:(underlying t).run P w= .ok u w:=by simp[underlying,G]
 rw[z];cases u<;>simp[isAgg,O,OE]
end
def Qyp{w:World}{b p:Nat}{vs:Array Value}{T:TypeId}{z:Nat×Nat}(h:w.heap[b]? =some (.cells vs T z)):w.cell? ⟨b,p,none⟩=vs[p]? :=by
 simp[World.cell?,h]
def Ow(b p n:Nat):(⟨b,p,none⟩:Addr).add n=⟨b,p+n,none⟩:=by
 unfold Addr.add;split
 .rename_i h;subst h;rfl
 .rfl
def Wk{ok:Nat->Prop}{hp:Nat->Option Obj}: ∀(n:Nat) (ds:List D) (vs:List Value),rdp ok hp ds vs->n<=ds.length->
 n<=vs.length/\rdl ok hp (ds.take n) (vs.take n)
 |0,ds,vs,_,_=>by simp[rdl]
 |n+1,[],vs,_,h=>by simp at h
 |n+1,d::ds,vs,h,hn=>by
  simp only[rdp] at h;obtain⟨v,r,rfl,z,G⟩:=h;obtain⟨O,Q⟩:=Wk n ds r G (by simpa using hn);refine⟨by simpa using O,?_⟩;simp only[OC,rdl];exact⟨v,_,rfl,z,Q⟩
def Q7{ok:Nat->Prop}{hp:Nat->Option Obj}: ∀(n:Nat) (ds:List D) (vs:List Value),rdp ok hp ds vs->n<=ds.length->rdp ok hp (ds.drop n) (vs.drop n)
 |0,ds,vs,h,_=>by simpa using h
 |n+1,[],vs,_,h=>by simp at h
 |n+1,d::ds,vs,h,hn=>by
  simp only[rdp] at h;obtain⟨v,r,rfl,G,z⟩:=h;simpa using Q7 n ds r z (by simpa using hn)
def X2{ok:Nat->Prop}{hp:Nat->Option Obj}: ∀(ds:List D) (vs:List Value),rdl ok hp ds vs->rdp ok hp ds vs
 |[],_,_=>by simp only[rdp]
 |d::ds,vs,h=>by
  simp only[rdl,rdp] at h⊢;obtain⟨v,r,rfl,z,G⟩:=h;exact⟨v,r,rfl,z,X2 ds r G⟩
def gD{ok:Nat->Prop}{hp:Nat->Option Obj}: ∀(ds:List D) (vs:List Value),rdl ok hp ds vs->vs.length=ds.length
 |[],_,h=>by simp only[rdl] at h;simp[h]
 |d::ds,vs,h=>by
  simp only[rdl] at h;obtain⟨v,r,rfl,G,z⟩:=h;simp[gD ds r z]
def IW{S:Ay}: ∀(xs:List AV) (vs:List Value),AR S xs vs->vs.length=xs.length
 |[],_,h=>by simp only[AR] at h;simp[h]
 |d::ds,vs,h=>by
  simp only[AR] at h;obtain⟨v,r,rfl,G,z⟩:=h;simp[IW ds r z]
def Xp{S:Ay}: ∀(xs:List AV) (vs:List Value),AR S xs vs->CA S xs vs
 |[],_,_=>by simp only[CA]
 |d::ds,vs,h=>by
  simp only[AR,CA] at h⊢;obtain⟨v,r,rfl,z,G⟩:=h;exact⟨v,r,rfl,z,Xp ds r G⟩
def Xo{S:Ay}: ∀(n:Nat) (ds:List AV) (vs:List Value),CA S ds vs->n<=ds.length->n<=vs.length/\AR S (ds.take n) (vs.take n)
 |0,ds,vs,_,_=>by simp[AR]
 |n+1,[],vs,_,h=>by simp at h
 |n+1,d::ds,vs,h,hn=>by
  simp only[CA] at h;obtain⟨v,r,rfl,z,G⟩:=h;obtain⟨O,Q⟩:=Xo n ds r G (by simpa using hn);refine⟨by simpa using O,?_⟩;simp only[OC,AR];exact⟨v,_,rfl,z,Q⟩
def lW{S:Ay}: ∀(n:Nat) (ds:List AV) (vs:List Value),CA S ds vs->n<=ds.length->CA S (ds.drop n) (vs.drop n)
 |0,ds,vs,h,_=>by simpa using h
 |n+1,[],vs,_,h=>by simp at h
 |n+1,d::ds,vs,h,hn=>by
  simp only[CA] at h;obtain⟨v,r,rfl,G,z⟩:=h;simpa using lW n ds r z (by simpa using hn)
def IQ{S:Ay}: ∀(ds:List D) (vs:List Value),AR S (ds.map .im) vs↔rdl S.ok S.hp ds vs
 |[],vs=>by simp[AR,rdl]
 |d::ds,vs=>by
  simp only[Bf,AR,rdl,Aa];constructor
  .rintro⟨v,r,rfl,z,G⟩;exact⟨v,r,rfl,z,(IQ ds r).1 G⟩
  .rintro⟨v,r,rfl,z,G⟩;exact⟨v,r,rfl,z,(IQ ds r).2 G⟩
def sU{S:Ay}: ∀(ds:List D) (vs:List Value),CA S (ds.map .im) vs↔rdp S.ok S.hp ds vs
 |[],vs=>by simp[CA,rdp]
 |d::ds,vs=>by
  simp only[Bf,CA,rdp,Aa];constructor
  .rintro⟨v,r,rfl,z,G⟩;exact⟨v,r,rfl,z,(sU ds r).1 G⟩
  .rintro⟨v,r,rfl,z,G⟩;exact⟨v,r,rfl,z,(sU ds r).2 G⟩
def mE: ∀{cs:List AV} {ds:List D},DP cs=some ds->cs=ds.map .im
 |[],ds,h=>by simp only[DP,AO] at h;subst h;rfl
 |x::r,ds,h=>by
  simp only[DP] at h;cases hx:x.asD with
  |none=>rw[hx] at h;simp only[O1] at h;cases h
  |some d=>
   rw[hx] at h;cases hr:DP r with
   |none=>rw[hr] at h;simp only[O1] at h;cases h
   |some z=>
    rw[hr] at h;simp only[O1,AO] at h;subst h
    have:x= .im d:=by cases x<;>simp[AV.asD] at hx;subst hx;rfl
    rw[this,mE hr];rfl
def PB{ok:Nat->Prop}{hp:Nat->Option Obj}{d:D}{v:Value}(h:rd ok hp d v):rdl ok hp d.cells v.cells.toList:=by
 cases d<;>simp only[rd] at h<;>simp only[D.cells]
 case agg cs=>obtain⟨G,rfl,z⟩:=h;exact z
 case sl nz k rows=>
  rcases h with ⟨h0,z⟩|⟨b,p,cap,G,T,O,rfl,z⟩
  .obtain⟨ao,Z⟩:=uU h0;subst Z;simp only[rdl];exact⟨_,[],rfl,by simp only[rd];exact .inl ⟨h0,z⟩,rfl⟩
  .simp only[rdl];exact⟨_,[],rfl,by simp only[rd];exact .inr ⟨b,p,cap,G,T,O,rfl,z⟩,rfl⟩
 case tup cs=>obtain⟨G,rfl,z⟩:=h;simp only[rdl];exact⟨_,[],rfl,by simp only[rd];exact⟨G,rfl,z⟩,rfl⟩
 case ref cs=>obtain⟨b,p,G,T,O,rfl,z⟩:=h;simp only[rdl];exact⟨_,[],rfl,by simp only[rd];exact⟨b,p,G,T,O,rfl,z⟩,rfl⟩
 case mp es=>obtain⟨b,p,G,rfl,z⟩:=h;simp only[rdl];exact⟨_,[],rfl,by simp only[rd];exact⟨b,p,G,rfl,z⟩,rfl⟩
 case fn f a c=>obtain⟨b,p,rfl,z⟩:=h;simp only[rdl];exact⟨_,[],rfl,by simp only[rd];exact⟨b,p,rfl,z⟩,rfl⟩
 case ifc t d=>obtain⟨b,rfl,z⟩:=h;simp only[rdl];exact⟨_,[],rfl,by simp only[rd];exact⟨b,rfl,z⟩,rfl⟩
 case tok g=>obtain⟨z,⟨t,x,rfl⟩,Q⟩:=h;simp only[rdl];exact⟨_,[],rfl,by simp only[rd];exact⟨z,⟨t,x,rfl⟩,Q⟩,rfl⟩
 all_goals (subst h;simp only[rdl];exact⟨_,[],rfl,by simp only[rd],rfl⟩)
def Qsn(v:Value)(h: ∀z,v≠ .agg z):v.cells= #[v]:=by
 cases v<;>first|rfl|exact absurd rfl (h _)
def OU{v:Value}(h:v.oneCell'=true):v.cells= #[v]:=by
 cases v<;>first|rfl|cases h
def sX{S:Ay}{x:AV}{v:Value}(O:x≠ .any)(h:Aa S x v):AR S x.cells v.cells.toList:=by
 cases x<;>simp only[AV.cells]
 case any=>exact absurd rfl O
 case im d=>simp only[Aa] at h;exact (IQ _ _).2 (PB h)
 case agg cs=>simp only[Aa] at h;obtain⟨G,rfl,z⟩:=h;exact z
 case tup cs=>
  have h':=h;simp only[Aa] at h;obtain⟨G,rfl,z⟩:=h;simp only[AR];exact⟨_,[],rfl,h',rfl⟩
 case clo f a c=>
  have h':=h;simp only[Aa] at h;obtain⟨G,c',rfl,z⟩:=h;simp only[AR];exact⟨_,[],rfl,h',rfl⟩
 all_goals
  have h':=h;simp only[Aa] at h;rw[OU h.1];simp only[AR];exact⟨_,[],rfl,h',rfl⟩
def dG{ok:Nat->Prop}{hp:Nat->Option Obj}(v:Value)(h:dH v=true):rd ok hp (zD v) v:=by
 unfold dH at h;split at h<;>first|(simp only[zD,rd];done)|cases h|skip
 simp only[zD,rd];exact .inl ⟨.inl rfl,trivial⟩
def Wg{ok:Nat->Prop}{hp:Nat->Option Obj}: ∀(vs:List Value),vs.all dH=true->rdl ok hp (vs.map zD) vs
 |[],_=>by simp[rdl]
 |v::vs,h=>by
  simp only[EE,Bc] at h;simp only[Bf,rdl];exact⟨v,vs,rfl,dG v h.1,Wg vs h.2⟩
def Qrg{P:Program}{t:TypeId}{ti:TI}(h:tI P t=some ti)(Z:ti.zero.length=ti.size)(hz:ti.size≠0):
 ∃z,(∀w,(zeroValue t).run P w= .ok z w)/\z.cells.size=ti.size/\(∀ok hp,rdl ok hp ti.zero z.cells.toList)/\ ∀ok hp,rd ok hp (bif ti.agg then .agg ti.zero else oH ti.zero) z:=by
 obtain⟨i,u,hi,hu,h1,h2,h3,h4,O⟩:=Ox h;have Q:ti.zero≠[]:=by intro h;rw[h] at Z;exact hz Z.symm
 have G: ∀z,i.zero=some z-> ∀w,(zeroValue t).run P w= .ok z w:=λz hz w=>by simp[zeroValue,typeInfo,hi,hz]
 revert O Z Q G;generalize ti.agg=ag;generalize ti.zero=zs;generalize i.zero=iz;intro Z O Q G;unfold zOf at O;split at O
 .rename_i vs;cases ha:vs.toList.all dH<;>rw[ha] at O
  .exact absurd O Q
  .simp only[C8] at O;subst O;have hr: ∀ok hp,rdl ok hp (vs.toList.map zD) vs.toList:=λok hp=>Wg _ ha
   exact⟨_,G _ rfl,by simpa[Value.cells] using Z,λok hp=>by simpa[Value.cells] using hr ok hp,λok hp=>by simp only[C8,rd];exact⟨_,rfl,hr ok hp⟩⟩
 .rename_i v;cases ha:dH v<;>rw[ha] at O
  .exact absurd O Q
  .simp only[C8] at O;subst O;have hr: ∀ok hp,rd ok hp (zD v) v:=λok hp=>dG v ha
   have hc:v.cells= #[v]:=Qsn v (by intro cs hh;rw[hh] at ha;simp[dH] at ha);exact⟨_,G _ rfl,by rw[hc];simpa using Z,λok hp=>by rw[hc];simp only[rdl];exact⟨v,[],rfl,hr ok hp,rfl⟩,λok hp=>by simpa[oH] using hr ok hp⟩
 .exact absurd O Q
def fK{P:Program}{t:TypeId}{ti:TI}(h:tI P t=some ti)(Z:ti.zero.length=ti.size)(hz:ti.size≠0):
 ∃z,(∀w,(zeroValue t).run P w= .ok z w)/\z.cells.size=ti.size/\ ∀ok hp,rdl ok hp ti.zero z.cells.toList:=by
 obtain⟨z,G,O,Q,_⟩:=Qrg h Z hz;exact⟨z,G,O,Q⟩
def B4.appf(E:B4)(h:Nat->Option Au)(n:Nat):Option Au:=
 match hget E.new n with
 |some e=>some e
 |none=>bif E.kill.contains n then none else h n
def Fr(nx cnt n:Nat):Prop:=nx<=n/\n<nx+cnt
def BE(P:Program)(tm:List (Nat×AV))(h:Nat->Option Au)(nx:Nat)(o:Oper)(r:AV)(E:B4):Prop:=
 ∀(C:Ba) (S:Ay) (a:Act) (next:Act->World->Prop) (Q:Exit->Act->World->Prop),
  Wf C S->(∀n∈E.use++E.kill,S.h n=h n)->(∀n,Fr nx E.cnt n->S.h n=none)->
  (∀n e,S.h n=some e-> ∀m∈e.2.nms,¬Fr nx E.cnt m)->
  (∀x∈o.op.operands,Aa S (Aw tm x) (a.eval x))->
  (∀v S',Wf C S'->S'.h=E.appf S.h->BA (λm=> ¬Fr nx E.cnt m) S S'->Aa S' r v->next (a.put o.dst v) S'.w)->
  o.wp P a S.w next Q
def eI(S:Ay)(v:Value):Aa S (kD v) v:=by
 unfold kD
 split<;>simp only[Aa,rd]
 exact .inl ⟨.inl rfl,trivial⟩
def Qnd(u:List Nat)(h:Nat->Option Au):({use:=u}:B4).appf h=h:=by
 funext n;simp[B4.appf,hget]
section
variable {P:Program}{tm:List (Nat×AV)}{h:Nat->Option Au}{nx:Nat}{o:Oper}{r:AV}
def BE.pure{u:List Nat}(O: ∀(C:Ba) (S:Ay) (a:Act),Wf C S->(∀n∈u,S.h n=h n)->(∀x∈o.op.operands,Aa S (Aw tm x) (a.eval x))->
 ∃v,(execOp a.eval o).run P S.w= .ok (.value v) S.w/\Aa S r v):BE P tm h nx o r {use:=u}:=by
 intro C S a next Q hW Z _ _ z hn
 obtain⟨v,hv,G⟩:=O C S a hW (by simpa using Z) z;unfold Oper.wp;rw[hv,Oper.upon_value];exact hn v S hW (Qnd u S.h).symm (BA.refl _ _) G
end
abbrev Ca(P:Program)(tm:List (Nat×AV))(h:Nat->Option Au)(nx:Nat)(o:Oper)(K:Aj):Prop:= ∃r E,BE P tm h nx o r E/\K r E
section
variable {P:Program}{tm:List (Nat×AV)}{h:Nat->Option Au}{nx:Nat}{o:Oper}{K:Aj}
def pP{x:Operand}(z:o.op= .move x\/o.op= .assign x)(Q:K (Aw tm x) {}):Ca P tm h nx o K:=by
 refine⟨_,_,BE.pure (u:=[]) ?_,Q⟩;intro C S a hW _ G;have O:=G x (by rcases z with z|z<;>rw[z]<;>simp[Op.operands]);refine⟨a.eval x,?_,O⟩;rcases z with z|z<;>simp[execOp,z]
def VF{c x y:Operand}(O:o.op= .pick c x y)(G:Qzp (Aw tm x) (Aw tm y) K (Aw tm c)):Ca P tm h nx o K:=by
 cases hc:Aw tm c<;>rw[hc] at G<;>try exact G.elim
 rename_i d;cases d<;>try exact G.elim
 rename_i b;simp only[Qzp,MW] at G;have Z:K (if b then Aw tm x else Aw tm y) {}:=by
  cases b
  .simpa using G.2 rfl
  .simpa using G.1 rfl
 refine⟨_,_,BE.pure (u:=[]) ?_,Z⟩;intro C S a hW _ z;have Q:=z c (by rw[O];simp[Op.operands]);have h2:=z x (by rw[O];simp[Op.operands]);have h3:=z y (by rw[O];simp[Op.operands]);rw[hc] at Q;simp only[Aa,rd] at Q;refine⟨if b then a.eval x else a.eval y,?_,?_⟩
 .simp[execOp,O,Q,asBool]
 .cases b<;>simp_all
def fZ{n:Nat}{x:AV}{e:Option Au}(z:RZ n x K e):(∃e',e=some e')/\K x {use:=[n]}:=by
 cases e with
 |none=>exact z.elim
 |some e=>exact⟨⟨e,rfl⟩,z⟩
def Qvi{x:Operand}(Q:o.op= .nilCheck x)(O:mB h K (Aw tm x)):Ca P tm h nx o K:=by
 cases hx:Aw tm x<;>rw[hx] at O<;>try exact O.elim
 case im d=>
  cases d<;>try exact O.elim
  all_goals
   refine⟨_,_,BE.pure (u:=[]) ?_,O⟩;intro C S a hW _ G;have z:=G x (by rw[Q];simp[Op.operands]);rw[hx] at z;refine⟨_,?_,z⟩;simp only[Aa,rd] at z
   first
    |(obtain⟨b,p,vs,T,fr,z,_⟩:=z;simp[execOp,Q,z];done)
    |(obtain⟨v,z,_⟩:=z;simp[execOp,Q,z])
 case ptr n p=>
  obtain⟨⟨e,Z⟩,O⟩:=fZ O;refine⟨_,_,BE.pure (u:=[n]) ?_,O⟩;intro C S a hW hu G;have z:=G x (by rw[Q];simp[Op.operands]);rw[hx] at z;refine⟨_,?_,z⟩;simp only[Aa] at z;obtain⟨l,hl,hv⟩:=z.2 e (by rw[hu n (by simp),Z]);simp[execOp,Q,hv]
 case eptr n i p=>
  obtain⟨⟨e,Z⟩,O⟩:=fZ O;refine⟨_,_,BE.pure (u:=[n]) ?_,O⟩;intro C S a hW hu G;have z:=G x (by rw[Q];simp[Op.operands]);rw[hx] at z;refine⟨_,?_,z⟩;simp only[Aa] at z;obtain⟨l,hl,hv⟩:=z.2 e (by rw[hu n (by simp),Z]);simp[execOp,Q,hv]
def VG{op:UnOp}{T:TypeId}{x:Operand}(Q:o.op= .unOp op T x)(G:ZH K op (Aw tm x)):Ca P tm h nx o K:=by
 cases hx:Aw tm x<;>rw[hx] at G<;>cases op<;>try exact G.elim
 all_goals
  rename_i d;cases d<;>try exact G.elim
 all_goals
  refine⟨_,_,BE.pure (u:=[]) ?_,G⟩;intro C S a hW _ z;have O:=z x (by rw[Q];simp[Op.operands]);rw[hx] at O;simp only[Aa,rd] at O;refine⟨_,by simp[execOp,Q,O,Op.unary,Op.intArith];rfl,by simp only[Aa,rd]⟩
def Qyh{x:Operand}{i:Nat}(ho:o.op= .extract x i)(O:mA i K (Aw tm x)):Ca P tm h nx o K:=by
 cases hx:Aw tm x<;>rw[hx] at O<;>try exact O.elim
 case im d=>
  cases d<;>try exact O.elim
  rename_i cs;simp only[mA] at O;cases z:cs[i]? with
  |none=>rw[z] at O;exact O.elim
  |some d=>
   rw[z] at O;refine⟨_,_,BE.pure (u:=[]) ?_,O⟩;intro C S a hW _ Q;have G:=Q x (by rw[ho];simp[Op.operands]);rw[hx] at G;simp only[Aa,rd] at G;obtain⟨vs,G,Z⟩:=G;have aa: ∀(i:Nat) (cs:List D) (vs:List Value),rdl S.ok S.hp cs vs->cs[i]? =some d-> ∃v,vs[i]? =some v/\rd S.ok S.hp d v:=by
    intro i;induction i with
    |zero=>
     intro cs vs h z;cases cs with
     |nil=>simp at z
     |cons c cs=>simp at z;subst z;simp only[rdl] at h;obtain⟨v,r,rfl,G,_⟩:=h;exact⟨v,by simp,G⟩
    |succ i ih=>
     intro cs vs h z;cases cs with
     |nil=>simp at z
     |cons c cs=>simp at z;simp only[rdl] at h;obtain⟨v,r,rfl,_,Z⟩:=h;simpa using ih cs r Z z
   obtain⟨v,hv,hd⟩:=aa i cs vs.toList Z z;refine⟨v,?_,by simpa only[Aa] using hd⟩;simp at hv;simp[execOp,ho,G,Instr.extract,hv]
 case tup cs=>
  simp only[mA] at O;cases z:cs[i]? with
  |none=>rw[z] at O;exact O.elim
  |some d=>
   rw[z] at O;refine⟨_,_,BE.pure (u:=[]) ?_,O⟩;intro C S a hW _ Q;have G:=Q x (by rw[ho];simp[Op.operands]);rw[hx] at G;simp only[Aa] at G;obtain⟨vs,G,Z⟩:=G;have aa: ∀(i:Nat) (cs:List AV) (vs:List Value),AR S cs vs->cs[i]? =some d-> ∃v,vs[i]? =some v/\Aa S d v:=by
    intro i;induction i with
    |zero=>
     intro cs vs h z;cases cs with
     |nil=>simp at z
     |cons c cs=>simp at z;subst z;simp only[AR] at h;obtain⟨v,r,rfl,G,_⟩:=h;exact⟨v,by simp,G⟩
    |succ i ih=>
     intro cs vs h z;cases cs with
     |nil=>simp at z
     |cons c cs=>simp at z;simp only[AR] at h;obtain⟨v,r,rfl,_,Z⟩:=h;simpa using ih cs r Z z
   obtain⟨v,hv,hd⟩:=aa i cs vs.toList Z z;refine⟨v,?_,hd⟩;simp at hv;simp[execOp,ho,G,Instr.extract,hv]
def eO{ok:Nat->Prop}{hp:Nat->Option Obj}: ∀(off n:Nat) (ds:List D) (vs:List Value),rdl ok hp ds vs->rdl ok hp ((ds.drop off).take n) ((vs.drop off).take n)
 |0,0,ds,vs,_=>by simp[rdl]
 |0,n+1,[],vs,h=>by
  simp only[rdl] at h;subst h;simp[rdl]
 |0,n+1,d::ds,vs,h=>by
  simp only[rdl] at h;obtain⟨v,r,rfl,G,z⟩:=h
  have:=eO 0 n ds r z
  simp only[Ie] at this⊢;rw[OC,OC];simp only[rdl];exact⟨v,_,rfl,G,this⟩
 |off+1,n,[],vs,h=>by
  simp only[rdl] at h;subst h;simp[rdl]
 |off+1,n,d::ds,vs,h=>by
  simp only[rdl] at h;obtain⟨v,r,rfl,_,z⟩:=h;rw[LK,LK];exact eO off n ds r z
def Zk{ok:Nat->Prop}{hp:Nat->Option Obj}{d:D}: ∀(i:Nat) (cs:List D) (vs:List Value),rdl ok hp cs vs->cs[i]? =some d-> ∃v,vs[i]? =some v/\rd ok hp d v:=by
 intro i;induction i with
 |zero=>
  intro cs vs h z;cases cs with
  |nil=>simp at z
  |cons c cs=>simp at z;subst z;simp only[rdl] at h;obtain⟨v,r,rfl,G,_⟩:=h;exact⟨v,by simp,G⟩
 |succ i ih=>
  intro cs vs h z;cases cs with
  |nil=>simp at z
  |cons c cs=>simp at z;simp only[rdl] at h;obtain⟨v,r,rfl,_,O⟩:=h;simpa using ih cs r O z
def PY{U:TypeId}{x:Operand}{f:Nat}(ho:o.op= .field U x f)(z:Rn P (Aw tm x) K (Y2 P U f)):Ca P tm h nx o K:=by
 cases hF:Y2 P U f with
 |none=>rw[hF] at z;exact z.elim
 |some q=>
  obtain⟨t,off⟩:=q;rw[hF] at z;simp only[Rn] at z;cases hT:tI P t with
  |none=>rw[hT] at z;exact z.elim
  |some ti=>
   rw[hT] at z;simp only[Bl] at z;cases hx:Aw tm x<;>rw[hx] at z<;>try exact z.elim
   rename_i d;cases d<;>try exact z.elim
   rename_i cs;simp only[eN] at z;obtain⟨af,z⟩:=z;have ac: ∃Z Q,P.underlying U=some (.struct Z)/\Z[f]? =some Q/\Q.type=t/\Q.offset=off:=by
    unfold Y2 at hF;split at hF
    .rename_i Z hu;cases hq:Z[f]? with
     |none=>rw[hq] at hF;cases hF
     |some Q=>
      rw[hq] at hF;simp only[Ez,AO,EF] at hF;exact⟨Z,Q,hu,hq,hF.1,hF.2⟩
    .cases hF
   obtain⟨Z,Q,hu,aa,h4,h5⟩:=ac;obtain⟨ag,u,hi,ab,h1,h2,h3,_,_⟩:=Ox hT;cases ha:ti.agg with
   |true=>
    rw[ha] at z;simp only[Ro,Rm] at z;refine⟨_,_,BE.pure (u:=[]) ?_,z⟩;intro C S a hW _ O;have G:=O x (by rw[ho];simp[Op.operands]);rw[hx] at G;simp only[Aa,rd] at G;obtain⟨vs,G,h7⟩:=G;refine⟨.agg (vs.extract off (off+ti.size)),?_,?_⟩
    .simp[execOp,ho,G,Instr.field,underlying,hu,aa,asAgg,part,isAgg,h4,ab,h5,sizeOf,typeInfo,hi];rw[ha] at h3;cases u<;>first|(simp[OE] at h3;done)|simp[h1]
    .simp only[Aa,rd];refine⟨_,rfl,?_⟩
     have:=eO off ti.size cs vs.toList h7
     simpa using this
   |false=>
    rw[ha] at z;simp only[Ro] at z;cases hc:cs[off]? with
    |none=>rw[hc] at z;exact z.elim
    |some d=>
     rw[hc] at z;simp only[Rm] at z;refine⟨_,_,BE.pure (u:=[]) ?_,z⟩;intro C S a hW _ O;have G:=O x (by rw[ho];simp[Op.operands]);rw[hx] at G;simp only[Aa,rd] at G;obtain⟨vs,G,h7⟩:=G;obtain⟨v,hv,hd⟩:=Zk off cs vs.toList h7 hc;refine⟨v,?_,by simpa only[Aa] using hd⟩;simp[execOp,ho,G,Instr.field,underlying,hu,aa,asAgg,part,isAgg,h4,ab,h5];have ad:vs[off]? =some v:=by simpa using hv
     rw[ha] at h3;cases u<;>first|(simp[OE] at h3;done)|simp[ad]
end
section
variable {P:Program}{tm:List (Nat×AV)}{h:Nat->Option Au}{nx:Nat}{o:Oper}{K:Aj}
def fM{T:TypeId}{ti:TI}(Q:tI P T=some ti){w:World}{b p:Nat}{vs:Array Value}{U:TypeId}{fr:Nat×Nat}
 (hb:w.heap[b]? =some (.cells vs U fr))(hn:ti.size<=(vs.toList.drop p).length)(hs:ti.agg=true\/ti.size=1):
 (loadVar T ⟨b,p,none⟩).run P w= .ok (if ti.agg then .agg ((vs.toList.drop p).take ti.size).toArray else ((vs.toList.drop p).take ti.size).headD undef) w:=by
 have G: ∀j v,((vs.toList.drop p).take ti.size)[j]? =some v->w.cell? ((⟨b,p,none⟩:Addr).add j)=some v:=by
  intro j v O;rw[Ow,Qyp hb];rw[bU] at O;split at O
  .rw[Jf] at O;simpa using O
  .cases O
 have Z:((vs.toList.drop p).take ti.size).length=ti.size:=by rw[CB];omega
 have z:=run_loadCells_list (P:=P) w ⟨b,p,none⟩ _ G;rw[Z] at z;unfold loadVar;cases ha:ti.agg with
 |true=>simp[Qsu Q,ha,IX Q,z]
 |false=>
  have h1:ti.size=1:=by simpa[ha] using hs
  obtain⟨v,hv⟩: ∃v,(vs.toList.drop p).take ti.size=[v]:=by
   rw[h1] at Z⊢;exact Zed.1 Z
  have:=G 0 v (by rw[hv];rfl)
  rw[Ow] at this;rw[hv];simp[Qsu Q,ha,run_load];simp at this;rw[this]
def WJ{ok:Nat->Prop}{hp:Nat->Option Obj}{ti:TI}{ds:List D}{vs:List Value}(z:rdl ok hp ds vs)(G:ds.length=ti.size)(hs:ti.agg=true\/ti.size=1):
 rd ok hp (cW ti.agg ds) (if ti.agg then .agg vs.toArray else vs.headD undef):=by
 cases ha:ti.agg with
 |true=>simp only[cW,C8,Bb,rd];exact⟨_,rfl,z⟩
 |false=>
  have O:ti.size=1:=by simpa[ha] using hs
  rw[O] at G;obtain⟨d,rfl⟩:=Zed.1 G;simp only[rdl] at z;obtain⟨v,r,rfl,Q,Z⟩:=z;simpa[cW,oH] using Q
def tR{S:Ay}{ti:TI}{ds:List AV}{vs:List Value}(z:AR S ds vs)(G:ds.length=ti.size)(hs:ti.agg=true\/ti.size=1):
 Aa S (jO ti.agg ds) (if ti.agg then .agg vs.toArray else vs.headD undef):=by
 cases ha:ti.agg with
 |true=>
  simp only[jO,C8,Bb];cases hi:DP ds with
  |none=>simp only[YS,Aa];exact⟨_,rfl,z⟩
  |some Z=>
   simp only[YS,Aa,rd];rw[mE hi] at z;exact⟨_,rfl,(IQ _ _).1 z⟩
 |false=>
  have O:ti.size=1:=by simpa[ha] using hs
  rw[O] at G;obtain⟨d,rfl⟩:=Zed.1 G;simp only[AR] at z;obtain⟨v,r,rfl,Q,h5⟩:=z;simpa[jO,hdV] using Q
def Qy5{ok:Nat->Prop}{hp:Nat->Option Obj}{k:Nat}: ∀(i:Nat) (rows:List (List D)) (vs:List Value) (row:List D),rdr ok hp k rows vs->rows[i]? =some row->
 row.length=k/\rdp ok hp row (vs.drop (i*k))
 |_,[],_,_,_,z=>by simp at z
 |0,r::G,vs,row,h,z=>by
  simp at z;subst z;simp only[rdr] at h;simpa using ⟨h.1,h.2.1⟩
 |i+1,r::G,vs,row,h,z=>by
  simp only[rdr] at h
  have:=Qy5 i G (vs.drop k) row h.2.2 (by simpa using z)
  rw[EC] at this;rwa [FB,Jm,nZ]
def Qw7{S:Ay}{k:Nat}: ∀(i:Nat) (rows:List (List AV)) (vs:List Value) (row:List AV),BG S k rows vs->rows[i]? =some row->
 row.length=k/\CA S row (vs.drop (i*k))
 |_,[],_,_,_,z=>by simp at z
 |0,r::G,vs,row,h,z=>by
  simp at z;subst z;simp only[BG] at h;simpa using ⟨h.1,h.2.1⟩
 |i+1,r::G,vs,row,h,z=>by
  simp only[BG] at h
  have:=Qw7 i G (vs.drop k) row h.2.2 (by simpa using z)
  rw[EC] at this;rwa [FB,Jm,nZ]
def VD{T:TypeId}{x:Operand}(ho:o.op= .load T x)(z:Bl (Qrk h (Aw tm x) K) (tI P T)):Ca P tm h nx o K:=by
 cases hT:tI P T with
 |none=>rw[hT] at z;exact z.elim
 |some ti=>
  rw[hT] at z;simp only[Bl,Qrk] at z;cases hx:Aw tm x<;>rw[hx] at z<;>try exact z.elim
  case im d=>
   cases d<;>try exact z.elim
   case ref cs=>
    simp only[XB,gG,Ie,FS] at z;obtain⟨hs,aa,z⟩:=z;refine⟨_,_,BE.pure (u:=[]) ?_,z⟩;intro C S a hW _ G;have Q:=G x (by rw[ho];simp[Op.operands]);rw[hx] at Q;simp only[Aa,rd] at Q;obtain⟨b,p,vs,U,fr,hv,ag,hb,hr⟩:=Q;obtain⟨h2,h3⟩:=Wk ti.size cs _ hr aa;refine⟨_,?_,by simp only[Aa];exact WJ h3 (by rw[CB];omega) hs⟩;simp[execOp,ho,hv,Instr.loadAt,Instr.sureAddr,fM hT hb h2 hs]
   case gp g=>
    simp only[XB] at z;obtain⟨hg,hz,ha,z⟩:=z;refine⟨_,_,BE.pure (u:=[]) ?_,z⟩;intro C S a hW _ G;have Q:=G x (by rw[ho];simp[Op.operands]);rw[hx] at Q;simp only[Aa,rd] at Q;obtain⟨ag,t2,x2,T2,fr,hb⟩:=hW.gp.at hg;refine⟨.iface t2 x2,?_,by simp only[Aa,rd];exact⟨ag,⟨t2,x2,rfl⟩,T2,fr,hb⟩⟩;have hl:=fM hT (w:=S.w) (p:=0) hb (by simp[hz]) (.inr hz);simp[execOp,ho,Q,Instr.loadAt,Instr.sureAddr,hl,ha,hz]
  case ptr n p=>
   simp only[XB] at z;cases hn:h n with
   |none=>rw[hn] at z;exact z.elim
   |some e=>
    rw[hn] at z;obtain⟨m,e⟩:=e;cases e<;>try exact z.elim
    case cells U cs=>
     simp only[J8,vX] at z;obtain⟨hs,aa,z⟩:=z;refine⟨_,_,BE.pure (u:=[n]) ?_,z⟩;intro C S a hW hu G;have Q:=G x (by rw[ho];simp[Op.operands]);have Z:S.h n=some (m,.cells U cs):=(hu n (by simp)).trans hn;rw[hx] at Q;simp only[Aa] at Q;obtain⟨l,hl,hv⟩:=Q.2 _ Z;have O:=hW.obj _ _ Z;simp only[Ap] at O;obtain⟨lc,vs,ab,ah,hb,ad⟩:=O;rw[hl] at ab;obtain rfl:=AC ab;have h2:=lW p cs _ (Xp _ _ ad) (by omega);obtain⟨h3,h4⟩:=Xo ti.size _ _ h2 (by rw[De];omega);refine⟨_,?_,tR h4 (by rw[CB,De];omega) hs⟩;simp[execOp,ho,hv,ah,Instr.loadAt,Instr.sureAddr,fM hT hb h3 hs]
    case view cs=>
     simp only[J8,gG] at z;obtain⟨hs,aa,z⟩:=z;refine⟨_,_,BE.pure (u:=[n]) ?_,z⟩;intro C S a hW hu G;have Q:=G x (by rw[ho];simp[Op.operands]);have Z:S.h n=some (m,.view cs):=(hu n (by simp)).trans hn;rw[hx] at Q;simp only[Aa] at Q;obtain⟨l,hl,hv⟩:=Q.2 _ Z;have O:=hW.obj _ _ Z;simp only[Ap] at O;obtain⟨lc,vs,U,fr,ab,hb,ad⟩:=O;rw[hl] at ab;obtain rfl:=AC ab;have h2:=Q7 p _ _ ad (by omega);obtain⟨h3,h4⟩:=Wk ti.size _ _ h2 (by rw[De];omega);rw[EC] at h3 h4;refine⟨_,?_,by simp only[Aa];exact WJ h4 (by rw[CB,De];omega) hs⟩;simp[execOp,ho,hv,Instr.loadAt,Instr.sureAddr,fM hT hb h3 hs]
  case eptr n i p=>
   simp only[XB] at z;cases hn:h n with
   |none=>rw[hn] at z;exact z.elim
   |some e=>
    rw[hn] at z;obtain⟨m,e⟩:=e;cases e<;>try exact z.elim
    case arr U k rows=>
     simp only[J7,JZ,gG] at z;obtain⟨hi,z⟩:=z;obtain⟨hs,aa,z⟩:=z rows[i] (BB hi);refine⟨_,_,BE.pure (u:=[n]) ?_,z⟩;intro C S a hW hu G;have Q:=G x (by rw[ho];simp[Op.operands]);have Z:S.h n=some (m,.arr U k rows):=(hu n (by simp)).trans hn;rw[hx] at Q;simp only[Aa] at Q;obtain⟨l,hl,hv⟩:=Q.2 _ Z;have O:=hW.obj _ _ Z;rw[hl] at O;simp only[Ap] at O;obtain⟨_,af,vs,hb,aj,hr⟩:=O;obtain⟨ai,ac⟩:=Qy5 i rows _ _ hr (BB hi);have h2:=Q7 p _ _ ac (by omega);obtain⟨h3,h4⟩:=Wk ti.size _ _ h2 (by rw[De];omega);rw[EC,EC,<-RP] at h3 h4;refine⟨_,?_,by simp only[Aa];exact WJ h4 (by rw[CB,De];omega) hs⟩;simp only[Ah.esz] at hv;simp[execOp,ho,hv,Instr.loadAt,Instr.sureAddr,fM hT hb h3 hs]
    case arrA U k rows=>
     simp only[J7,JZ,vX] at z;obtain⟨hi,z⟩:=z;obtain⟨hs,aa,z⟩:=z rows[i] (BB hi);refine⟨_,_,BE.pure (u:=[n]) ?_,z⟩;intro C S a hW hu G;have Q:=G x (by rw[ho];simp[Op.operands]);have Z:S.h n=some (m,.arrA U k rows):=(hu n (by simp)).trans hn;rw[hx] at Q;simp only[Aa] at Q;obtain⟨l,hl,hv⟩:=Q.2 _ Z;have O:=hW.obj _ _ Z;rw[hl] at O;simp only[Ap] at O;obtain⟨_,af,vs,hb,aj,hr⟩:=O;obtain⟨ai,ac⟩:=Qw7 i rows _ _ hr (BB hi);have h2:=lW p _ _ ac (by omega);obtain⟨h3,h4⟩:=Xo ti.size _ _ h2 (by rw[De];omega);rw[EC,EC,<-RP] at h3 h4;refine⟨_,?_,tR h4 (by rw[CB,De];omega) hs⟩;simp only[Ah.esz] at hv;simp[execOp,ho,hv,Instr.loadAt,Instr.sureAddr,fM hT hb h3 hs]
def zP{u:TypeDesc}(P:Program):(∃z:Array Field,u= .struct z/\(z.toList.all λf=>(P.info? f.type).isSome)=true/\
 FL P u= .struct (z.toList.map λf=>(f.offset,((P.info? f.type).map (·.size)).getD 0)))\/
 (∃z,u= .struct z/\FL P u= .other)\/(∀z,u≠ .struct z):=by
 cases u<;>try (right;right;intro f hf;cases hf;done)
 rename_i z;cases hh:(z.toList.all λf=>(P.info? f.type).isSome) with
 |true=>left;exact⟨z,rfl,hh,by simp only[FL,hh,C8]⟩
 |false=>right;left;exact⟨z,rfl,by simp only[FL,hh,Cy]⟩
def Qut{T:TypeId}{ti:TI}(hT:tI P T=some ti){fs:List (Nat×Nat)}(hf:ti.kind= .struct fs):
 ∃z,P.underlying T=some (.struct z)/\(z.toList.all λf=>(P.info? f.type).isSome)=true/\fs=z.toList.map λf=>(f.offset,((P.info? f.type).map (·.size)).getD 0):=by
 obtain⟨i,u,hi,hu,h1,h2,h3,G,h5⟩:=Ox hT;rw[hf] at G;rcases zP P (u:=u) with ⟨z,rfl,O,Q⟩|⟨z,rfl,Q⟩|Z
 .rw[Q] at G;exact⟨z,hu,O,by simpa using G⟩
 .rw[Q] at G;cases G
 .cases u<;>simp only[FL,reduceCtorEq] at G;exact absurd rfl (Z _)
def bC(u:TypeDesc):TK->Prop
 | .int k=>u= .int k
 | .str=>u= .string
 | .bool=>u= .bool
 | .ptr e=>u= .pointer e
 |_=>True
def Qo(P:Program)(u:TypeDesc):bC u (FL P u):=by
 cases u<;>try (simp only[FL,bC];done)
 rename_i z;cases hh:(z.toList.all λf=>(P.info? f.type).isSome)<;>simp only[FL,hh,C8,Cy,bC]
def Qr8{T:TypeId}{ti:TI}(G:tI P T=some ti): ∃u,P.underlying T=some u/\bC u ti.kind:=by
 obtain⟨i,u,hi,O,Q,Z,h3,z,h5⟩:=Ox G;exact⟨u,O,z▸Qo P u⟩
def VQ{T:TypeId}{ti:TI}(G:tI P T=some ti){k:IntKind}(hf:ti.kind= .int k):P.underlying T=some (.int k):=by
 obtain⟨u,O,z⟩:=Qr8 G;rw[hf] at z;simp only[bC] at z;rw[O,z]
def Ri{T:TypeId}{ti:TI}(G:tI P T=some ti)(hf:ti.kind= .str):P.underlying T=some .string:=by
 obtain⟨u,O,z⟩:=Qr8 G;rw[hf] at z;simp only[bC] at z;rw[O,z]
def ZN{T:TypeId}{ti:TI}(G:tI P T=some ti)(hf:ti.kind= .bool):P.underlying T=some .bool:=by
 obtain⟨u,O,z⟩:=Qr8 G;rw[hf] at z;simp only[bC] at z;rw[O,z]
def lG{T e:TypeId}{ti:TI}(G:tI P T=some ti)(hf:ti.kind= .ptr e):P.underlying T=some (.pointer e):=by
 obtain⟨u,O,z⟩:=Qr8 G;rw[hf] at z;simp only[bC] at z;rw[O,z]
def Qjn{T:TypeId}{ti:TI}(hT:tI P T=some ti){fs:List (Nat×Nat)}(hf:ti.kind= .struct fs){f off sz:Nat}(G:fs[f]? =some (off,sz))(Q:sz≠0)
 (w:World)(b p:Nat):(Instr.fieldAt T (.pointer (some ⟨b,p,none⟩)) f).run P w= .ok (.pointer (some ⟨b,p+off,none⟩)) w:=by
 obtain⟨z,hu,_,rfl⟩:=Qut hT hf;rw[Gb] at G;cases hfe:z.toList[f]? with
 |none=>rw[hfe] at G;simp at G
 |some Z=>
  rw[hfe] at G;simp only[Ez,AO,EF] at G;obtain⟨rfl,rfl⟩:=G;have O:z[f]? =some Z:=by simpa using hfe
  cases hin:P.info? Z.type with
  |none=>rw[hin] at Q;simp at Q
  |some aa=>
   rw[hin] at Q;simp only[Ez,AW] at Q;simp[Instr.fieldAt,underlying,hu,O,Instr.sureAddr,fieldPlace,sizeOf,typeInfo,hin,Q,Ow]
def Qsq{T:TypeId}{x:Operand}{f:Nat}(Z:o.op= .fieldAddr T x f)(z:Bl (zN h (Aw tm x) f K) (tI P T)):Ca P tm h nx o K:=by
 cases hT:tI P T with
 |none=>rw[hT] at z;exact z.elim
 |some ti=>
  rw[hT] at z;simp only[Bl,zN] at z;cases hf:ti.kind<;>rw[hf] at z<;>try exact z.elim
  rename_i fs;simp only[faK] at z;cases hi:fs[f]? with
  |none=>rw[hi] at z;exact z.elim
  |some q=>
   obtain⟨off,sz⟩:=q;rw[hi] at z;simp only[Y0] at z;obtain⟨hz,z⟩:=z;cases hx:Aw tm x<;>rw[hx] at z<;>try exact z.elim
   case im d=>
    cases d<;>try exact z.elim
    rename_i cs;simp only[KY] at z;obtain⟨aa,z⟩:=z;refine⟨_,_,BE.pure (u:=[]) ?_,z⟩;intro C S a hW _ G;have O:=G x (by rw[Z];simp[Op.operands]);rw[hx] at O;simp only[Aa,rd] at O;obtain⟨b,p,vs,U,fr,hv,ab,hb,hr⟩:=O;refine⟨_,by simp[execOp,Z,hv,Qjn hT hf hi hz];rfl,?_⟩;simp only[Aa,rd]
    have:=Q7 off _ _ hr aa
    rw[EC] at this;exact⟨b,p+off,vs,U,fr,rfl,ab,hb,this⟩
   case ptr n p=>
    simp only[KY] at z;obtain⟨⟨e,he⟩,z⟩:=fZ z;refine⟨_,_,BE.pure (u:=[n]) ?_,z⟩;intro C S a hW hu G;have O:=G x (by rw[Z];simp[Op.operands]);rw[hx] at O;simp only[Aa] at O;have hS:S.h n=some e:=(hu n (by simp)).trans he;obtain⟨l,hl,hv⟩:=O.2 e hS;refine⟨_,by simp[execOp,Z,hv,Qjn hT hf hi hz];rfl,?_⟩;simp only[Aa];refine⟨rfl,λe' Q=>⟨l,hl,by rw[RP]⟩⟩
   case eptr n i p=>
    simp only[KY] at z;obtain⟨⟨e,he⟩,z⟩:=fZ z;refine⟨_,_,BE.pure (u:=[n]) ?_,z⟩;intro C S a hW hu G;have O:=G x (by rw[Z];simp[Op.operands]);rw[hx] at O;simp only[Aa] at O;have hS:S.h n=some e:=(hu n (by simp)).trans he;obtain⟨l,hl,hv⟩:=O.2 e hS;refine⟨_,by simp[execOp,Z,hv,Qjn hT hf hi hz];rfl,?_⟩;simp only[Aa];refine⟨rfl,λe' Q=>⟨l,hl,?_⟩⟩;rw[hS] at Q;obtain rfl:=AC Q;rw[RP]
def Q5{T:TypeId}{ti:TI}(hT:tI P T=some ti){e:TypeId}(hf:ti.kind= .slice e):P.underlying T=some (.slice e):=by
 obtain⟨i,u,hi,hu,h1,h2,h3,G,h5⟩:=Ox hT;rw[hf] at G;rcases zP P (u:=u) with ⟨z,rfl,Z,O⟩|⟨z,rfl,O⟩|Q
 .rw[O] at G;cases G
 .rw[O] at G;cases G
 cases u<;>simp only[FL,TK.slice.injEq,reduceCtorEq] at G;rotate_left
 .exact absurd rfl (Q _)
 rw[G];exact hu
def Qs2{T:TypeId}{ti:TI}(hT:tI P T=some ti){n:Nat}{e:TypeId}(hf:ti.kind= .array n e):P.underlying T=some (.array n e):=by
 obtain⟨i,u,hi,hu,h1,h2,h3,G,h5⟩:=Ox hT;rw[hf] at G;rcases zP P (u:=u) with ⟨z,rfl,Z,O⟩|⟨z,rfl,O⟩|Q
 .rw[O] at G;cases G
 .rw[O] at G;cases G
 cases u<;>simp only[FL,TK.array.injEq,reduceCtorEq] at G;rotate_left
 .exact absurd rfl (Q _)
 obtain⟨rfl,rfl⟩:=G;exact hu
def nJ{T:TypeId}{ti:TI}(hT:tI P T=some ti){n:TypeId}{e:TypeId}(hf:ti.kind= .map n e):P.underlying T=some (.map n e):=by
 obtain⟨i,u,hi,hu,h1,h2,h3,G,h5⟩:=Ox hT;rw[hf] at G;rcases zP P (u:=u) with ⟨z,rfl,Z,O⟩|⟨z,rfl,O⟩|Q
 .rw[O] at G;cases G
 .rw[O] at G;cases G
 cases u<;>simp only[FL,TK.map.injEq,reduceCtorEq] at G;rotate_left
 .exact absurd rfl (Q _)
 obtain⟨rfl,rfl⟩:=G;exact hu
def Qsk{T:TypeId}{x i:Operand}(ho:o.op= .indexAddr T x i)(z:Bl (zE P h (Aw tm x) (Aw tm i) K) (tI P T)):Ca P tm h nx o K:=by
 cases hT:tI P T with
 |none=>rw[hT] at z;exact z.elim
 |some ti=>
  rw[hT] at z;simp only[Bl,zE] at z;cases hi:Aw tm i<;>rw[hi] at z<;>try exact z.elim
  rename_i d;cases d<;>try exact z.elim
  rename_i ik n;simp only[Qjp] at z;cases hf:ti.kind<;>rw[hf] at z<;>try exact z.elim
  case slice e=>
   have O:=Q5 hT hf;simp only[xR] at z;cases hE:tI P e with
   |none=>rw[hE] at z;exact z.elim
   |some te=>
    rw[hE] at z;simp only[Bl,T6] at z;cases hx:Aw tm x<;>rw[hx] at z<;>try exact z.elim
    case im d=>
     cases d<;>try exact z.elim
     rename_i nz k rows;obtain⟨ad,h0,hn,z⟩:=z;have ag:n.toNat<rows.length:=by omega
     have z:=z rows[n.toNat] (BB ag);refine⟨_,_,BE.pure (u:=[]) ?_,z⟩;intro C S a hW _ G;have Q:=G x (by rw[ho];simp[Op.operands]);have Z:=G i (by rw[ho];simp[Op.operands]);rw[hx] at Q;rw[hi] at Z;simp only[Aa,rd] at Q Z;rcases Q with ⟨_,ak⟩|⟨b,p,cap,vs,U,fr,hv,_,_,_,ai,hb,hr⟩
     .rw[ak] at ag;simp at ag
     obtain⟨am,aa⟩:=Qy5 n.toNat rows _ _ hr (BB ag);rw[EC] at aa;refine⟨.pointer (some ⟨b,p+n.toNat*k,none⟩),?_,?_⟩
     .simp[execOp,ho,Z,hv,Instr.indexAt,asIntOf,underlying,O,h0,hn,IX hE,Ow,ad]
     .simp only[Aa,rd];exact⟨b,_,vs,U,fr,rfl,ai,hb,aa⟩
    case own m=>
     change M3 m n K te (h m) at z;cases hm:h m with
     |none=>rw[hm] at z;exact z.elim
     |some q=>
      rw[hm] at z;obtain⟨mu,q⟩:=q;have aj: ∃k len,q.esz=k/\q.len=len/\k=te.size/\0<=n/\n<(len:Int)/\K (.eptr m n.toNat 0) {use:=[m]}:=by
       cases q<;>try exact z.elim
       all_goals exact⟨_,_,rfl,rfl,z⟩
      obtain⟨k,len,ac,af,ad,h0,hn,z⟩:=aj;refine⟨_,_,BE.pure (u:=[m]) ?_,z⟩;intro C S a hW hu G;have Q:=G x (by rw[ho];simp[Op.operands]);have Z:=G i (by rw[ho];simp[Op.operands]);rw[hx] at Q;rw[hi] at Z;have hS:S.h m=some (mu,q):=(hu m (by simp)).trans hm;simp only[Aa,rd] at Q Z;have h3:=Q.2 _ hS;cases hl:S.ρ m with
      |none=>
       exfalso;have ah:=hW.obj _ _ hS;rw[hl] at ah
       have:q.len=0:=by
        cases q<;>simp only[Ap] at ah<;>simp[Ah.len]<;>(try exact ah.2)
       omega
      |some l=>
       rw[hl] at h3;simp only at h3;refine⟨.pointer (some ⟨l.b,l.p+n.toNat*k,none⟩),?_,?_⟩
       .rw[af] at h3;simp[execOp,ho,Z,h3,Instr.indexAt,asIntOf,underlying,O,h0,hn,IX hE,Ow,ad]
       .simp only[Aa];refine⟨rfl,λe' ab=>⟨l,hl,?_⟩⟩;rw[hS] at ab;obtain rfl:=AC ab;simp[ac]
    case osl m a len=>
     change T7 m a len n K te (h m) at z;cases hm:h m with
     |none=>rw[hm] at z;exact z.elim
     |some q=>
      rw[hm] at z;obtain⟨mu,q⟩:=q;have aj: ∃k,q.esz=k/\k=te.size/\0<=n/\n<(len:Int)/\K (.eptr m (a+n.toNat) 0) {use:=[m]}:=by
       cases q<;>try exact z.elim
       exact⟨_,rfl,z.1,z.2.1,z.2.2.1,z.2.2.2.2⟩
      obtain⟨k,ac,ad,h0,hn,z⟩:=aj;refine⟨_,_,BE.pure (u:=[m]) ?_,z⟩;intro C S _ hW hu G;have Q:=G x (by rw[ho];simp[Op.operands]);have Z:=G i (by rw[ho];simp[Op.operands]);rw[hx] at Q;rw[hi] at Z;have hS:S.h m=some (mu,q):=(hu m (by simp)).trans hm;simp only[Aa,rd] at Q Z;have h3:=Q.2 _ hS;cases hl:S.ρ m with
      |none=>
       rw[hl] at h3
       have:=h3.2
       omega
      |some l=>
       rw[hl] at h3;obtain⟨p,cp,hv,hc,hp,_⟩:=h3;obtain rfl:p=l.p+a*q.esz:=hp (by omega);have e:l.p+a*q.esz+n.toNat*te.size=l.p+(a+n.toNat)*k:=by rw[ac,ad,FB,RP]
       refine⟨.pointer (some ⟨l.b,l.p+(a+n.toNat)*k,none⟩),?_,?_⟩
       .simp[execOp,ho,Z,hv,Instr.indexAt,asIntOf,underlying,O,h0,hn,IX hE,Ow,e]
       .simp only[Aa];refine⟨rfl,λe' ab=>⟨l,hl,?_⟩⟩;rw[hS] at ab;obtain rfl:=AC ab;simp[ac]
  case array m e=>
   have O:=Qs2 hT hf;simp only[xR] at z;cases hE:tI P e with
   |none=>rw[hE] at z;exact z.elim
   |some te=>
    rw[hE] at z;simp only[Bl,M2] at z;cases hx:Aw tm x<;>rw[hx] at z<;>try exact z.elim
    case im d=>
     cases d<;>try exact z.elim
     rename_i cs;obtain⟨h0,hn,af,z⟩:=z;refine⟨_,_,BE.pure (u:=[]) ?_,z⟩;intro C S a hW _ G;have Q:=G x (by rw[ho];simp[Op.operands]);have Z:=G i (by rw[ho];simp[Op.operands]);rw[hx] at Q;rw[hi] at Z;simp only[Aa,rd] at Q Z;obtain⟨b,p,vs,U,fr,hv,ai,hb,hr⟩:=Q;have aa:=Q7 (n.toNat*te.size) _ _ hr af;rw[EC] at aa;refine⟨.pointer (some ⟨b,p+n.toNat*te.size,none⟩),?_,?_⟩
     .simp[execOp,ho,Z,hv,Instr.indexAt,asIntOf,underlying,O,h0,hn,IX hE,Ow,Instr.sureAddr]
     .simp only[Aa,rd];exact⟨b,_,vs,U,fr,rfl,ai,hb,aa⟩
    case ptr q p=>
     obtain⟨h0,hn,z⟩:=z;obtain⟨⟨e',ab⟩,z⟩:=fZ z;refine⟨_,_,BE.pure (u:=[q]) ?_,z⟩;intro C S a hW hu G;have Q:=G x (by rw[ho];simp[Op.operands]);have Z:=G i (by rw[ho];simp[Op.operands]);rw[hx] at Q;rw[hi] at Z;have hS:S.h q=some e':=(hu q (by simp)).trans ab;simp only[Aa,rd] at Q Z;obtain⟨l,hl,hv⟩:=Q.2 _ hS;refine⟨.pointer (some ⟨l.b,l.p+p+n.toNat*te.size,none⟩),?_,?_⟩
     .simp[execOp,ho,Z,hv,Instr.indexAt,asIntOf,underlying,O,h0,hn,IX hE,Ow,Instr.sureAddr]
     .simp only[Aa];exact⟨rfl,λ_ _=>⟨l,hl,by rw[RP]⟩⟩
end
def Ay.ice(S:Ay)(X:Nat->Bool):Ay:=⟨S.ρ,λb=>S.ok b\/ ∃o e l,X o=false/\S.h o=some e/\e.2.isView=false/\S.ρ o=some l/\l.b=b,λo=>(S.h o).map λe=>(e.1 && X o,e.2),S.w⟩
def Wj{S:Ay}{X:Nat->Bool}{o:Nat}{e':Au}(h:(S.ice X).h o=some e'): ∃e,S.h o=some e/\e'=(e.1 && X o,e.2):=by
 simp only[Ay.ice,Da] at h;obtain⟨e,z,rfl⟩:=h;exact⟨e,z,rfl⟩
def H7(S:Ay)(X:Nat->Bool):BA (λ_=>True) S (S.ice X):=by
 refine⟨λb G=>⟨.inl G,rfl⟩,?_⟩;intro o _ e' z;obtain⟨e,O,rfl⟩:=Wj z;exact⟨e,O,rfl,rfl,rfl⟩
def Wo{C:Ba}{S:Ay}{X:Nat->Bool}(hW:Wf C S):Wf C (S.ice X):=by
 have hp:=H7 S X;refine⟨hW.os,hW.tape,hW.output,hW.dr,hW.size,hW.keep,λb O=> .inl (hW.ok0 b O),?_,?_,?_,?_,?_,hW.gl⟩
 .rintro b (O|⟨o,e,l,_,Q,hv,Z,rfl⟩)
  .exact hW.ok1 b O
  .obtain⟨_,z⟩:=hW.loc o e l Q Z;cases hm:e.1 with
   |false=>rw[hm,hv] at z;exact hW.ok1 _ (by simpa using z)
   |true=>
    rw[hm] at z;simp only[Bb] at z;exact .inr z.2
 .rintro b (O|⟨o,e,l,_,Q,_,Z,rfl⟩)
  .exact hW.oks b O
  .exact (hW.loc o e l Q Z).1
 .intro o e' G;obtain⟨e,Q,rfl⟩:=Wj G;exact H9 hp (λ_ _=>rfl) _ (λ_ _=>trivial) (hW.obj o e Q)
 .intro o e' l G Z;obtain⟨e,Q,rfl⟩:=Wj G;obtain⟨h1,z⟩:=hW.loc o e l Q Z;refine⟨h1,?_⟩;cases hX:X o with
  |false=>
   simp only[nT,Dp,CN];cases hv:e.2.isView with
   |true=>exact .inr rfl
   |false=>exact .inl (.inr ⟨o,e,l,hX,Q,hv,Z,rfl⟩)
  |true=>
   cases hm:e.1 with
   |false=>
    rw[hm] at z;simp only[FT,Dp,CN] at z⊢;exact z.imp .inl id
   |true=>
    rw[hm] at z;simp only[nU,Bb] at z⊢;refine⟨?_,z.2⟩;rintro (O|⟨o',e',l',ab,G,_,aa,O⟩)
    .exact z.1 O
    .have:=hW.inj o' o e' e l' l G Q aa Z O (by simp[hm])
     subst this;rw[hX] at ab;cases ab
 .intro o o' e1 e2 l l' h1 z Z aa O ac;obtain⟨e,Q,q1⟩:=Wj h1;obtain⟨e',G,q2⟩:=Wj z;refine hW.inj o o' e e' l l' Q G Z aa O ?_;subst q1 q2;simp only[Ic,Bc] at ac⊢;exact ac.imp And.left And.left
def nC{C:Ba}{S:Ay}(hW:Wf C S){X:Nat->Bool}{o:Nat}{e:Au}{l:FX}(Q:X o=false)(Z:(S.ice X).h o=some e)(hv:e.2.isView=false)(hl:(S.ice X).ρ o=some l):(S.ice X).ok l.b:=by
 obtain⟨z,G,O⟩:=Wj Z;subst O;exact .inr ⟨o,z,l,Q,G,hv,hl,rfl⟩
def T8{S:Ay}{F:Ar}{u:List Nat}(z: ∀n e,(n,e)∈F-> ∃mu,S.h n=some (mu,e.2)/\e.1=false):
 (S.ice λn=> !(F.map (·.1)).contains n).h=({use:=u,kill:=F.map (·.1),new:=F}:B4).appf S.h:=by
 funext n;have Q: ∀(G:Ar) (e:Au),hget G n=some e->(n,e)∈G:=by
  intro G;induction G with
  |nil=>intro e h;simp[hget] at h
  |cons p G ih=>
   intro e h;obtain⟨q,y⟩:=p;simp only[hget] at h;cases hq:q==n<;>rw[hq] at h
   .exact BW _ (ih e (by simpa using h))
   .have:q=n:=by simpa using hq
    subst this;simp only[C8,AO] at h;subst h;simp
 have O: ∀(G:Ar),hget G n=none->n∉G.map (·.1):=by
  intro G;induction G with
  |nil=>intro _;simp
  |cons p G ih=>
   intro h;obtain⟨q,y⟩:=p;simp only[hget] at h;cases hq:q==n<;>rw[hq] at h
   .have:q≠n:=by simpa using hq
    simp only[Bf,Bw,XV];exact⟨λh'=>this h'.symm,ih (by simpa using h)⟩
   .simp at h
 simp only[B4.appf,Ay.ice];cases hg:hget F n with
 |some e=>
  have Z:=Q F e hg;obtain⟨mu,q1,q2⟩:=z n e Z;rw[q1]
  have:n∈F.map (·.1):=BF.2 ⟨_,Z,rfl⟩
  rw[Jl.2 this];obtain⟨e1,e2⟩:=e;simp only at q2;simp[q2]
 |none=>
  have hc:(F.map (·.1)).contains n=false:=by
   rw[QL];intro h';exact O F hg (Jl.1 h')
  rw[hc];simp only[Cy,XT,EL];cases S.h n with
  |none=>rfl
  |some e=>rfl
section
variable {P:Program}{tm:List (Nat×AV)}{h:Nat->Option Au}{nx:Nat}{o:Oper}{K:Aj}
def PZ{T:TypeId}{x i:Operand}(ho:o.op= .index T x i)(z:Bl (Qno P (Aw tm x) (Aw tm i) K) (tI P T)):Ca P tm h nx o K:=by
 cases hT:tI P T with
 |none=>rw[hT] at z;exact z.elim
 |some ti=>
  rw[hT] at z;simp only[Bl,Qno] at z;cases hi:Aw tm i<;>rw[hi] at z<;>try exact z.elim
  rename_i d;cases d<;>try exact z.elim
  rename_i ik n;simp only[Qxc] at z;cases hx:Aw tm x
  all_goals rw[hx] at z
  case im d=>
   cases d<;>(try (exfalso;generalize ti.kind=kk at z;cases kk<;>exact z))
   case str s=>
    have ac:ti.kind= .str/\0<=n/\n<(s.size:Int)/\dJ s n.toNat (kCh K):=by generalize ti.kind=kk at z;cases kk<;>first|exact z.elim|exact⟨rfl,z⟩
    obtain⟨ad,h0,hn,z⟩:=ac;have Q:n.toNat<s.data.size:=by show n.toNat<s.size;omega
    have O:P.underlying T=some .string:=Ri hT ad;refine⟨_,_,BE.pure (u:=[]) ?_,z s.data[n.toNat] (by simp)⟩;intro C S a hW _ G;have h1:=G x (by rw[ho];simp[Op.operands]);have Z:=G i (by rw[ho];simp[Op.operands]);rw[hx] at h1;rw[hi] at Z;simp only[Aa,rd] at h1 Z;have ab:n.toNat<s.size:=Q;refine⟨.int .u8 (s.data[n.toNat].toNat),?_,by simp only[Aa,rd]⟩;simp[execOp,ho,Z,h1,Instr.index,asIntOf,underlying,O,h0,ab];rfl
   case agg cs=>
    cases hf:ti.kind<;>rw[hf] at z<;>try exact z.elim
    rename_i m e;have O:=Qs2 hT hf;simp only[ixK] at z;cases hE:tI P e with
    |none=>rw[hE] at z;exact z.elim
    |some te=>
     rw[hE] at z;simp only[Bl,TH] at z;obtain⟨hs,h0,hn,af,z⟩:=z;refine⟨_,_,BE.pure (u:=[]) ?_,z⟩;intro C S a hW _ G;have h1:=G x (by rw[ho];simp[Op.operands]);have Z:=G i (by rw[ho];simp[Op.operands]);rw[hx] at h1;rw[hi] at Z;simp only[Aa,rd] at h1 Z;obtain⟨vs,hv,hr⟩:=h1;have h3:=Q7 (n.toNat*te.size) _ _ (X2 _ _ hr) (by omega);obtain⟨h4,h5⟩:=Wk te.size _ _ h3 (by rw[De];omega);refine⟨_,?_,by simp only[Aa];exact WJ h5 (by rw[CB,De];omega) hs⟩;cases ha:te.agg with
     |true=>
      simp[execOp,ho,Z,hv,Instr.index,asIntOf,underlying,O,h0,hn,IX hE,part,Qsu hE,ha];apply KM;simp[List.take_drop,nZ]
     |false=>
      have aa:te.size=1:=by simpa[ha] using hs
      have Q:n.toNat*1<vs.toList.length:=by rw[aa,De] at h4;omega
      have hget:vs[n.toNat*te.size]? =some (vs.toList[n.toNat*1]):=by
       rw[aa];rw[<-Hq,BB Q]
      simp only[execOp,ho,Z,hv,Instr.index,asIntOf];simp[underlying,O,h0,hn,IX hE,part,Qsu hE,ha,hget];rw[aa];simp at Q;simp[List.head?_take,List.head?_drop,Q]
  all_goals (exfalso;generalize ti.kind=kk at z;cases kk<;>exact z)
def Qwv{O T:TypeId}{x:Operand}(ho:o.op= .convert O T x)(z:uQ (QX (tI P T)) (Aw tm x) K (tI P O)):Ca P tm h nx o K:=by
 cases hS:tI P O with
 |none=>rw[hS] at z;exact z.elim
 |some si=>
 rw[hS] at z;simp only[uQ] at z;have Z:(P.underlying O).isSome:=by
  obtain⟨i,u,hi,hu,_⟩:=Ox hS;rw[hu];rfl
 cases hT:tI P T with
 |none=>rw[hT] at z;exact z.elim
 |some ti=>
  rw[hT] at z;simp only[QX] at z;cases hf:ti.kind<;>rw[hf] at z<;>try exact z.elim
  rename_i k;cases hx:Aw tm x<;>rw[hx] at z<;>try exact z.elim
  rename_i d;cases d<;>try exact z.elim
  rename_i k0 n;simp only[Lz] at z;have hu:=VQ hT hf;obtain⟨u0,aa⟩:=ZeR.1 Z;refine⟨_,_,BE.pure (u:=[]) ?_,z⟩;intro C S a hW _ G;have Q:=G x (by rw[ho];simp[Op.operands]);rw[hx] at Q;simp only[Aa,rd] at Q;refine⟨.int k (k.wrap n),?_,by simp only[Aa,rd]⟩;simp only[execOp,ho,Q];simp only[convert,Sem.run_bind];simp[underlying,aa,hu,Conv.intToInt]
def Qh1{f:FuncId}(O:f<1000000000){first capt:Array Operand}(Q:o.op= .makeFunc (.func f) first capt)(hk:K (.clo f (DV tm first.toList) (DV tm capt.toList)) {}):Ca P tm h nx o K:=by
 refine⟨_,_,BE.pure (u:=[]) ?_,hk⟩;intro C S a hW _ z;have G: ∀(l:List Operand),(∀x∈l,Aa S (Aw tm x) (a.eval x))->AR S (DV tm l) (l.map a.eval):=by
  intro l;induction l with
  |nil=>intro _;simp[DV,AR]
  |cons x l ih=>
   intro hl;simp only[DV,AR,Bf];exact⟨_,_,rfl,hl x (by simp),ih (λy hy=>hl y (by simp[hy]))⟩
 refine⟨.func (W6 f) (first.map a.eval) (capt.map a.eval),by rw[X9 O];simp[execOp,Q,Instr.makeFunc],?_⟩;simp only[Aa];refine⟨_,_,rfl,?_,?_⟩
 .rw[W4];exact G _ (λx Z=>z x (by rw[Q];simp[Op.operands];exact .inl (by simpa using Z)))
 .rw[W4];exact G _ (λx Z=>z x (by rw[Q];simp[Op.operands];exact .inr (by simpa using Z)))
def Qov{S:Ay}: ∀(z:List AV) (ds:List D) (vs:List Value),DP z=some ds->AR S z vs->rdl S.ok S.hp ds vs
 |[],ds,vs,h,G=>by
  simp only[DP,AO] at h;subst h;simpa only[rdl,AR] using G
 |y::z,ds,vs,h,G=>by
  simp only[DP] at h;simp only[AR] at G;obtain⟨v,r,rfl,Q,Z⟩:=G;cases hy:y.asD with
  |none=>rw[hy] at h;simp[O1] at h
  |some d=>
   cases hys:DP z with
   |none=>rw[hy,hys] at h;simp[O1] at h
   |some O=>
    rw[hy,hys] at h;simp only[O1,AO] at h;subst h;cases y<;>simp only[AV.asD,reduceCtorEq] at hy;obtain rfl:=AC hy;simp only[rdl];exact⟨v,r,rfl,by simpa only[Aa] using Q,Qov z O r hys Z⟩
def Qse{ok:Nat->Prop}{hp:Nat->Option Obj}: ∀(ds:List D) (vs:List Value),rdl ok hp ds vs->rdp ok hp ds vs
 |[],_,_=>by simp only[rdp]
 |d::ds,vs,h=>by
  simp only[rdl,rdp] at h⊢;obtain⟨v,r,rfl,z,G⟩:=h;exact⟨v,r,rfl,z,Qse ds r G⟩
def Qrs{C:Ba}{S:Ay}(hW:Wf C S){h:Nat->Option Au}: ∀(xs:List AV) (ds:List D) (E:Ar) (vs:List Value),OV h xs=some (ds,E)->(∀n∈hnm E,S.h n=h n)->AR S xs vs->
 (∀n e,(n,e)∈E-> ∃Z,S.h n=some (Z,e.2)/\e.1=false)/\ ∀X:Nat->Bool,(∀n∈hnm E,X n=false)->rdl (S.ice X).ok (S.ice X).hp ds vs
 |[],ds,E,vs,G,_,hc=>by
  simp only[OV,AO,EF] at G;obtain⟨rfl,rfl⟩:=G;exact⟨(λn e z=>by cases z),(λX _=>by simpa only[rdl,AR] using hc)⟩
 |x::xs,ds,E,vs,G,hu,hc=>by
  simp only[OV] at G;simp only[AR] at hc;obtain⟨v,r,rfl,hx,af⟩:=hc;cases hd:Im h x with
  |none=>rw[hd] at G;simp[Sw] at G
  |some dE=>
   obtain⟨d,E1⟩:=dE;cases hl:OV h xs with
   |none=>rw[hd,hl] at G;simp[Sw] at G
   |some q=>
    obtain⟨ad,E2⟩:=q;rw[hd,hl] at G;simp only[Sw,AO,EF] at G;obtain⟨rfl,rfl⟩:=G;have Q: ∀(a b:Ar),hnm (a++b)=hnm a++hnm b:=by
     intro a b;induction a with
     |nil=>rfl
     |cons p a ih=>obtain⟨n,e⟩:=p;simp only[Ci,hnm,ih]
    rw[Q] at hu;obtain⟨i1,i2⟩:=Qrs hW xs ad E2 r hl (λn hn=>hu n (OB _ hn)) af;have ac:(∀n e,(n,e)∈E1-> ∃Z,S.h n=some (Z,e.2)/\e.1=false)/\ ∀X:Nat->Bool,(∀n∈hnm E1,X n=false)->rd (S.ice X).ok (S.ice X).hp d v:=by
     cases x<;>try (simp[Im] at hd;done)
     case im d'=>
      simp only[Im,AO,EF] at hd;obtain⟨rfl,rfl⟩:=hd;refine⟨(λn e z=>by cases z),(λX _=> ?_)⟩;simp only[Aa] at hx;exact Hf (H7 S X).ok _ _ hx
     case ptr o p=>
      cases p with
      |succ p=>simp[Im] at hd
      |zero=>
       simp only[Im] at hd;cases ho:h o with
       |none=>rw[ho] at hd;simp[Sx] at hd
       |some e=>
        obtain⟨Z,e⟩:=e;rw[ho] at hd;cases e<;>simp only[Sx,reduceCtorEq] at hd;rename_i T cs;cases ha:DP cs with
        |none=>rw[ha] at hd;simp[Sz] at hd
        |some es=>
         rw[ha] at hd;simp only[Sz,AO,EF] at hd;obtain⟨rfl,rfl⟩:=hd;have O:S.h o=some (Z,.cells T cs):=(hu o (by simp[hnm])).trans ho;refine⟨?_,?_⟩
         .intro n e z;simp only[BL,EF] at z;obtain⟨rfl,rfl⟩:=z;exact⟨Z,O,rfl⟩
         .intro X hX;have ab:=hW.obj o _ O;simp only[Ap] at ab;obtain⟨lc,vs,g1,g2,g3,g4⟩:=ab;simp only[Aa] at hx;obtain⟨l,aa,hv⟩:=hx.2 _ O;rw[g1] at aa;obtain rfl:=AC aa;simp only[rd];refine⟨lc.b,lc.p+0,vs,_,_,hv,.inr ⟨o,_,lc,hX o (by simp[hnm]),O,rfl,g1,rfl⟩,g3,?_⟩;rw[g2];have g5:=Qov (S:=S) cs es vs.toList ha g4;have g6:=L8 (H7 S X).ok es _ g5;simpa using Qse es _ g6
    refine⟨?_,?_⟩
    .intro n e z;rcases B2.1 z with z|z
     .exact ac.1 n e z
     .exact i1 n e z
    .intro X hX;rw[Q] at hX;simp only[rdl];exact⟨v,r,rfl,ac.2 X (λn hn=>hX n (IG _ hn)),i2 X (λn hn=>hX n (OB _ hn))⟩
def M1: ∀{E:Ar} {n:Nat},(hget E n=none->n∉hnm E)/\ ∀e,hget E n=some e->(n,e)∈E
 |[],n=>⟨λ_=>by simp[hnm],λe h=>by simp[hget] at h⟩
 |(q,x)::E,n=>by
  obtain⟨O,Q⟩:= @M1 E n;simp only[hget,hnm];cases hq:q==n
  .have z:q≠n:=by simpa using hq
   refine⟨λh=> ?_,λe h=> ?_⟩
   .simp only[Bw,XV];exact⟨λh'=>z h'.symm,O (by simpa using h)⟩
   .exact BW _ (Q e (by simpa using h))
  .have G:q=n:=by simpa using hq
   refine⟨λh=>by simp at h,λe h=> ?_⟩;simp only[C8,AO] at h;subst h;subst G;simp
def Z4{f:FuncId}(aa:f<1000000000){first capt:Array Operand}(ho:o.op= .makeFunc (.func f) first capt)
 (z:NU f (DV tm first.toList) (DV tm capt.toList) K (OV h (DV tm first.toList)) (OV h (DV tm capt.toList))):Ca P tm h nx o K:=by
 cases h1:OV h (DV tm first.toList) with
 |none=>rw[h1] at z;exact Qh1 aa ho z
 |some q1=>
  cases h2:OV h (DV tm capt.toList) with
  |none=>rw[h1,h2] at z;exact Qh1 aa ho z
  |some q2=>
   obtain⟨a,E⟩:=q1;obtain⟨b,F⟩:=q2;rw[h1,h2] at z;simp only[NU] at z;have Z:K (.im (.fn f a b)) {use:=hnm (E++F),kill:=hnm (E++F),new:=E++F}->Ca P tm h nx o K:=by
    intro z;refine⟨_,_,?_,z⟩;intro C S ac next Q hW hu an am ab hn
    have ad: ∀(l:List Operand),(∀x∈l,Aa S (Aw tm x) (ac.eval x))->AR S (DV tm l) (l.map ac.eval):=by
     intro l;induction l with
     |nil=>intro _;simp[DV,AR]
     |cons x l ih=>
      intro hl;simp only[DV,AR,Bf];exact⟨_,_,rfl,hl x (by simp),ih (λy hy=>hl y (by simp[hy]))⟩
    have O: ∀(a b:Ar),hnm (a++b)=hnm a++hnm b:=by
     intro a b;induction a with
     |nil=>rfl
     |cons p a ih=>obtain⟨n,e⟩:=p;simp only[Ci,hnm,ih]
    have ai: ∀n∈hnm (E++F),S.h n=h n:=λn hn=>hu n (by simpa using hn)
    have c1:=ad first.toList (λx hx=>ab x (by rw[ho];simp[Op.operands];exact .inl (by simpa using hx)))
    have c2:=ad capt.toList (λx hx=>ab x (by rw[ho];simp[Op.operands];exact .inr (by simpa using hx)));obtain⟨s1,s2⟩:=Qrs hW _ a E _ h1 (λn hn=>ai n (by rw[O];exact IG _ hn)) c1;obtain⟨t1,t2⟩:=Qrs hW _ b F _ h2 (λn hn=>ai n (by rw[O];exact OB _ hn)) c2
    let X:Nat->Bool:=λn=> !(hnm (E++F)).contains n
    have hX: ∀n∈hnm (E++F),X n=false:=by
     intro n hn;simp only[X,Jl.2 hn,nV]
    have af: ∀n e,(n,e)∈E++F-> ∃mu,S.h n=some (mu,e.2)/\e.1=false:=by
     intro n e he;rcases B2.1 he with he|he
     .exact s1 n e he
     .exact t1 n e he
    have ag:(S.ice X).h=({use:=hnm (E++F),kill:=hnm (E++F),new:=E++F}:B4).appf S.h:=by
     funext n;simp only[B4.appf,Ay.ice];obtain⟨g1,g2⟩:= @M1 (E++F) n;cases hg:hget (E++F) n with
     |some e=>
      have hm:=g2 e hg;obtain⟨mu,q1,q2⟩:=af n e hm;rw[q1];simp only[Ez]
      have:n∈hnm (E++F):=by
       have: ∀(G:Ar),(n,e)∈G->n∈hnm G:=by
        intro G;induction G with
        |nil=>intro h;cases h
        |cons p G ih=>
         intro h;rcases Bw.1 h with h'|h'
         .subst h';simp[hnm]
         .obtain⟨q,y⟩:=p;simp only[hnm,Bw];exact .inr (ih h')
       exact this _ hm
      rw[hX n this];obtain⟨e1,e2⟩:=e;simp only at q2;simp[q2]
     |none=>
      have ak:=g1 hg;have hc:(hnm (E++F)).contains n=false:=by
       rw[QL];intro h';exact ak (Jl.1 h')
      rw[hc];simp only[Cy];have aj:X n=true:=by simp only[X,hc,XT]
      cases S.h n with
      |none=>rfl
      |some e=>simp[aj]
    unfold Oper.wp;have ah:(execOp ac.eval o).run P S.w= .ok (.value (.func (W6 f) (first.map ac.eval) (capt.map ac.eval))) S.w:=by rw[X9 aa];simp[execOp,ho,Instr.makeFunc]
    rw[ah,Oper.upon_value];refine hn _ (S.ice X) (Wo hW) ag ?_ ?_
    .have:=H7 S X
     exact⟨this.ok,λo _=>this.nm o trivial⟩
    .simp only[Aa,rd];refine⟨_,_,rfl,?_,?_⟩
     .rw[W4];exact s2 X (λn hn=>hX n (by rw[O];exact IG _ hn))
     .rw[W4];exact t2 X (λn hn=>hX n (by rw[O];exact OB _ hn))
   cases hEF:E++F with
   |nil=>
    rw[hEF] at z Z;exact Z z
   |cons e r=>
    rw[hEF] at z Z;simp only[Qz3] at z;rcases z with z|z
    .exact Z z
    .exact Qh1 aa ho z
def Qj2(op:BinOp)(t:TypeId)(x y:Operand)(k k':IntKind)(a b:Int)(w:World):(eqGuard op t x y (.int k a) (.int k' b)).run P w= .ok () w:=by
 cases op<;>simp[eqGuard]
def Qn0(op:BinOp)(t:TypeId)(x y:Operand)(a b:ByteArray)(w:World):(eqGuard op t x y (.string a) (.string b)).run P w= .ok () w:=by
 cases op<;>simp[eqGuard]
def Qwl(op:BinOp)(t:TypeId)(x y:Operand)(a b:Bool)(w:World):(eqGuard op t x y (.bool a) (.bool b)).run P w= .ok () w:=by
 cases op<;>simp[eqGuard]
def xK(a b:Int):(a==b)=decide (a=b):=by
 by_cases h:a=b<;>simp[h]
def Z6{op:BinOp}{T U:TypeId}{x y:Operand}{k:IntKind}{a b:Int}(ho:o.op= .binOp op T x y U)(hx:Aw tm x= .im (.int k a))(hy:Aw tm y= .im (.int k b))
 (z:Ja op k a b K):Ca P tm h nx o K:=by
 have Q: ∀n,(∀w,(binOp op T (.int k a) (.int k b)).run P w= .ok (.int k n) w)->K (.im (.int k n)) {}->Ca P tm h nx o K:=by
  intro n Z z;refine⟨_,_,BE.pure (u:=[]) ?_,z⟩;intro C S ac hW _ G;have h1:=G x (by rw[ho];simp[Op.operands]);have h2:=G y (by rw[ho];simp[Op.operands]);rw[hx] at h1;rw[hy] at h2;simp only[Aa,rd] at h1 h2;refine⟨.int k n,?_,by simp only[Aa,rd]⟩;simp[execOp,ho,h1,h2,Qj2,Z]
 have O: ∀n,(∀w,(binOp op T (.int k a) (.int k b)).run P w= .ok (.bool n) w)->K (.im (.bool n)) {}->Ca P tm h nx o K:=by
  intro n Z z;refine⟨_,_,BE.pure (u:=[]) ?_,z⟩;intro C S ac hW _ G;have h1:=G x (by rw[ho];simp[Op.operands]);have h2:=G y (by rw[ho];simp[Op.operands]);rw[hx] at h1;rw[hy] at h2;simp only[Aa,rd] at h1 h2;refine⟨.bool n,?_,by simp only[Aa,rd]⟩;simp[execOp,ho,h1,h2,Qj2,Z]
 cases op<;>simp only[Ja] at z<;>try exact z.elim
 case quo=>exact Q _ (λw=>by simp[binOp,Op.intDiv,z.1]) z.2
 case rem=>exact Q _ (λw=>by simp[binOp,Op.intDiv,z.1]) z.2
 case eql=>exact O _ (λw=>by simp[binOp,Op.intCmp,xK]) z
 case neq=>exact O _ (λw=>by simp[binOp,Op.intCmp,bne,xK]) z
 case lss=>exact O _ (λw=>by simp[binOp,Op.intCmp]) z
 case leq=>exact O _ (λw=>by simp[binOp,Op.intCmp]) z
 case gtr=>exact O _ (λw=>by simp[binOp,Op.intCmp]) z
 case geq=>exact O _ (λw=>by simp[binOp,Op.intCmp]) z
 case and=>exact Q _ (λw=>by simp[binOp,Op.intBits,XW]) z
 case or=>exact Q _ (λw=>by simp[binOp,Op.intBits,orI]) z
 case xor=>exact Q _ (λw=>by simp[binOp,Op.intBits,yZ]) z
 all_goals exact Q _ (λw=>by simp[binOp,Op.intArith]) z
def VC{op:BinOp}{T U:TypeId}{x y:Operand}{k k':IntKind}{a b:Int}(Z:o.op= .binOp op T x y U)(hx:Aw tm x= .im (.int k a))(hy:Aw tm y= .im (.int k' b))
 (z:bB op k a k' b K (Hb op)):Ca P tm h nx o K:=by
 have O: ∀n,(∀w,(binOp op T (.int k a) (.int k' b)).run P w= .ok (.int k n) w)->K (.im (.int k n)) {}->Ca P tm h nx o K:=by
  intro n Q z;refine⟨_,_,BE.pure (u:=[]) ?_,z⟩;intro C S ac hW _ G;have h1:=G x (by rw[Z];simp[Op.operands]);have h2:=G y (by rw[Z];simp[Op.operands]);rw[hx] at h1;rw[hy] at h2;simp only[Aa,rd] at h1 h2;refine⟨.int k n,?_,by simp only[Aa,rd]⟩;simp[execOp,Z,h1,h2,Qj2,Q]
 cases op
 case shr=>
  simp only[Hb,bB] at z;exact O _ (λw=>by simp[binOp,Op.shift,Zfq.2 z.1]) z.2
 case shl=>
  simp only[Hb,bB] at z;exact O _ (λw=>by simp[binOp,Op.shift,Zfq.2 z.1]) z.2
 all_goals
  simp only[Hb,bB] at z;obtain⟨rfl,z⟩:=z;exact Z6 Z hx hy z
def Qmj(s:ByteArray):s.toList=s.data.toList:=by
 have G: ∀(n i:Nat) (r:List UInt8),s.size - i=n->ByteArray.toList.loop s i r=r.reverse++s.data.toList.drop i:=by
  intro n;induction n with
  |zero=>
   intro i r h;unfold ByteArray.toList.loop;rw[Ag (by omega),Ee (by show s.data.toList.length<=i;simp;show s.size<=i;omega)];simp
  |succ n ih=>
   intro i r h;unfold ByteArray.toList.loop;rw[Al (by omega),ih (i+1) _ (by omega)];have z:i<s.data.toList.length:=by simp;show i<s.size;omega
   rw[XP z];simp[ByteArray.get!]
   have:i<s.data.size:=by simpa using z
   exact getElem!_pos s.data i this
 have:=G _ 0 [] rfl
 simpa[ByteArray.toList] using this
def Qry(a b:ByteArray):(a.toList==b.toList)=decide (a=b):=by
 rw[Qmj,Qmj];by_cases h:a=b
 .subst h;simp
 .have:a.data≠b.data:=by
   intro h';apply h;cases a;cases b;simp at h';rw[h']
  simp[h,this]
def ZB{op:BinOp}{T U:TypeId}{x y:Operand}{a b:ByteArray}(ho:o.op= .binOp op T x y U)(hx:Aw tm x= .im (.str a))(hy:Aw tm y= .im (.str b))
 (Q:NW op a b K):Ca P tm h nx o K:=by
 have aa: ∀n,(∀w,(binOp op T (.string a) (.string b)).run P w= .ok (.bool n) w)->K (.im (.bool n)) {}->Ca P tm h nx o K:=by
  intro n G Q;refine⟨_,_,BE.pure (u:=[]) ?_,Q⟩;intro C S ac hW _ z;have Z:=z x (by rw[ho];simp[Op.operands]);have O:=z y (by rw[ho];simp[Op.operands]);rw[hx] at Z;rw[hy] at O;simp only[Aa,rd] at Z O;refine⟨.bool n,?_,by simp only[Aa,rd]⟩;simp[execOp,ho,Z,O,Qn0,G]
 cases op<;>simp only[NW] at Q<;>try exact Q.elim
 case eql=>exact aa _ (λw=>by simp[binOp,Op.stringOp,Qry]) Q
 case neq=>exact aa _ (λw=>by simp[binOp,Op.stringOp,Qry]) Q
 case add=>
  refine⟨_,_,BE.pure (u:=[]) ?_,Q.2⟩;intro C S ac hW _ z;have Z:=z x (by rw[ho];simp[Op.operands]);have O:=z y (by rw[ho];simp[Op.operands]);rw[hx] at Z;rw[hy] at O;simp only[Aa,rd] at Z O;refine⟨.string (a++b),?_,by simp only[Aa,rd]⟩;have ab: ¬(((a.size+b.size:Nat):Int)>IntKind.i64.max):=by
   have:=Q.1
   have O:IntKind.i64.max=9223372036854775807:=by decide
   rw[O];omega
  have G: ∀w,(binOp .add T (.string a) (.string b)).run P w= .ok (.string (a++b)) w:=by
   intro w;simp only[binOp,Op.stringOp];rw[Sem.run_ite,Ag ab,Sem.run_pure]
  simp[execOp,ho,Z,O,Qn0,G]
def Qmu{T:TypeId}(z:P.underlying T=some .bool)(d:Nat)(a b:Bool)(w:World):(Op.equalIn (d+1) T (.bool a) (.bool b)).run P w= .ok (a==b) w:=by
 simp[Op.equalIn,underlying,z]
def Z2{op:BinOp}{T U:TypeId}{x y:Operand}{a b:Bool}(ho:o.op= .binOp op T x y U)(hT:P.underlying T=some .bool)(hx:Aw tm x= .im (.bool a))(hy:Aw tm y= .im (.bool b))
 (G:JR op a b K):Ca P tm h nx o K:=by
 have O: ∀n,(∀w,(binOp op T (.bool a) (.bool b)).run P w= .ok (.bool n) w)->K (.im (.bool n)) {}->Ca P tm h nx o K:=by
  intro n Q G;refine⟨_,_,BE.pure (u:=[]) ?_,G⟩;intro C S ac hW _ z;have Z:=z x (by rw[ho];simp[Op.operands]);have h2:=z y (by rw[ho];simp[Op.operands]);rw[hx] at Z;rw[hy] at h2;simp only[Aa,rd] at Z h2;refine⟨.bool n,?_,by simp only[Aa,rd]⟩;simp[execOp,ho,Z,h2,Qwl,Q]
 cases op<;>simp only[JR] at G<;>try exact G.elim
 case eql=>exact O _ (λw=>by simp[binOp,Op.equal,Op.maxDepth,Qmu hT 9999]) G
 case neq=>exact O _ (λw=>by simp[binOp,Op.equal,Op.maxDepth,Qmu hT 9999,bne]) G
end
def Ay.one(S:Ay)(m:Nat)(e:Ah)(l:Option FX)(ks:List Nat)(w':World):Ay:=
 ⟨λn=>if n=m then l else S.ρ n,S.ok,λn=>if n=m then some (true,e) else if n∈ks then none else S.h n,w'⟩
structure Kb(S:Ay)(m:Nat)(e:Ah)(l:Option FX)(ks:List Nat)(w':World):Prop where
 os:w'.os=S.w.os
 tape:w'.tape=S.w.tape
 output:w'.output=S.w.output
 dr:S.w.drawn<=w'.drawn
 size:S.w.heap.size<=w'.heap.size
 keep: ∀b,b<S.w.heap.size->(∀n f lo,n∈ks->S.h n=some (true,f)->S.ρ n=some lo->lo.b≠b)->w'.heap[b]? =S.w.heap[b]?
 name:m∈ks\/S.h m=none
 loc: ∀lo,l=some lo->lo.b<w'.heap.size/\(S.w.heap.size<=lo.b\/ ∃n f lo',n∈ks/\S.h n=some (true,f)/\S.ρ n=some lo'/\lo'.b=lo.b)
 shape: ∀f,S.h m=some f->l=S.ρ m/\e.esz=f.2.esz/\e.len=f.2.len
 nms: ∀n f,S.h n=some f->S.h m=none->m∉f.2.nms
def fS{C:Ba}{S:Ay}{m:Nat}{e:Ah}{l:Option FX}{ks:List Nat}{w':World}(hW:Wf C S)(h:Kb S m e l ks w'):
 BA (λn=>S.h m≠none\/n≠m) S (S.one m e l ks w'):=by
 refine⟨λb O=>⟨O,?_⟩,?_⟩
 .refine h.keep b (hW.oks b O) ?_;intro n f lo _ hn hl Q
  have:=(hW.loc n _ lo hn hl).2
  simp only[Bb] at this;exact this.1 (Q▸O)
 .intro n hX e' z;simp only[Ay.one] at z⊢;by_cases hnm:n=m
  .subst hnm;rw[Al rfl] at z⊢;obtain rfl:=AC z;have Z:S.h n≠none:=by rcases hX with G|G;exact G;exact absurd rfl G
   obtain⟨f,hf⟩:=Option.ne_none_iff_exists'.1 Z;obtain⟨G,h2,h3⟩:=h.shape f hf;exact⟨f,hf,G,h2,h3⟩
  .rw[Ag hnm] at z⊢;split at z
   .cases z
   .exact⟨e',z,rfl,rfl,rfl⟩
def nI{C:Ba}{S:Ay}{m:Nat}{e:Ah}{l:Option FX}{ks:List Nat}{w':World}(hW:Wf C S)(h:Kb S m e l ks w')
 (ak:Ap (S.one m e l ks w') l e):Wf C (S.one m e l ks w'):=by
 have hp:=fS hW h;have ah: ∀n f lo Q,n≠m->n∉ks->S.h n=some f->S.ρ n=some lo->l=some Q->Q.b≠lo.b:=by
  intro n f lo Q hnm Z hn hl G hb;rcases (h.loc Q G).2 with h1|⟨n2,f2,ad,ag,ac,aa,af⟩
  .have:=(hW.loc n f lo hn hl).1;omega
  .have:=hW.inj n2 n _ _ ad lo ac hn aa hl (by omega) (by simp)
   subst this;exact Z ag
 refine⟨h.os.trans hW.os,h.tape.trans hW.tape,h.output.trans hW.output,CW hW.dr h.dr,CW hW.size h.size,?_,hW.ok0,hW.ok1,λb hb=>FC (hW.oks b hb) h.size,?_,?_,?_,hW.gl⟩
 .intro b hb hM;refine (h.keep b (FC hb hW.size) ?_).trans (hW.keep b hb hM);intro n f lo _ hn hl am
  have:=(hW.loc n _ lo hn hl).2
  simp only[Bb] at this;rcases this.2 with h1|h1
  .omega
  .exact hM (am▸h1)
 .intro n f hf;simp only[Ay.one] at hf;by_cases hnm:n=m
  .subst hnm;rw[Al rfl] at hf;obtain rfl:=AC hf;simpa[Ay.one] using ak
  .rw[Ag hnm] at hf;split at hf
   .cases hf
   .rename_i Z;have ho:=hW.obj n f hf;have hr:(S.one m e l ks w').ρ n=S.ρ n:=by simp[Ay.one,hnm]
    rw[hr];refine H9 hp ?_ _ ?_ ho
    .intro lc ai;refine h.keep lc.b (hW.loc n f lc hf ai).1 ?_;intro n2 f2 ad ag ac aa af
     have:=hW.inj n2 n _ _ ad lc ac hf aa ai af (by simp)
     subst this;exact Z ag
    .intro x hx;by_cases aj:S.h m=none
     .right;intro aq;subst aq;exact h.nms n f hf aj hx
     .exact .inl aj
 .intro n f lo hf ab;simp only[Ay.one] at hf ab⊢;by_cases hnm:n=m
  .subst hnm;rw[Al rfl] at hf ab;obtain rfl:=AC hf;obtain⟨h1,h2⟩:=h.loc lo ab;refine⟨h1,?_⟩;simp only[Bb];rcases h2 with h2|⟨n2,f2,ad,ag,ac,aa,af⟩
   .exact⟨λao=>by have:=hW.oks _ ao;omega,.inl (CW hW.size h2)⟩
   .have:=(hW.loc n2 _ ad ac aa).2
    simp only[Bb] at this;rw[af] at this;exact this
  .rw[Ag hnm] at hf ab;split at hf
   .cases hf
   .have:=hW.loc n f lo hf ab
    exact⟨FC this.1 h.size,this.2⟩
 .intro n n' f f' lo Q hf z hl G hb an;simp only[Ay.one] at hf z hl G;by_cases hnm:n=m<;>by_cases O:n'=m
  .rw[hnm,O]
  .rw[Al hnm] at hf hl;rw[Ag O] at z G;split at z
   .cases z
   .rename_i Z;exact absurd hb (ah n' f' Q lo O Z z G hl)
  .rw[Ag hnm] at hf hl;rw[Al O] at z G;split at hf
   .cases hf
   .rename_i Z;exact absurd hb.symm (ah n f lo Q hnm Z hf hl G)
  .rw[Ag hnm] at hf hl;rw[Ag O] at z G;split at hf
   .cases hf
   .split at z
    .cases z
    .exact hW.inj n n' f f' lo Q hf z hl G hb an
section
variable {P:Program}{tm:List (Nat×AV)}{h:Nat->Option Au}{nx:Nat}{o:Oper}{r:AV}
def BE.one{u ks:List Nat}{m cnt:Nat}{e:Ah}(hm:(cnt=1/\m=nx)\/(cnt=0/\m∈ks/\h m≠none))
 (hr: ∀(C:Ba) (S:Ay) (a:Act),Wf C S->(∀n∈u++ks,S.h n=h n)->(cnt=1->S.h nx=none)->(∀n f,S.h n=some f->cnt=1->nx∉f.2.nms)->
  (∀x∈o.op.operands,Aa S (Aw tm x) (a.eval x))->
  ∃v w' l,((execOp a.eval o).run P S.w= .ok (.value v) w'\/((execOp a.eval o).run P S.w= .ok .skip w'/\v=undef))/\Kb S m e l ks w'/\
   (BA (λn=>S.h m≠none\/n≠m) S (S.one m e l ks w')->Ap (S.one m e l ks w') l e/\Aa (S.one m e l ks w') r v)):
 BE P tm h nx o r {use:=u,kill:=ks,new:=[(m,(true,e))],cnt:=cnt}:=by
 intro C S a next Q hW hu ad hnm ab hn
 obtain⟨v,w',l,z,G,ac⟩:=hr C S a hW hu (λO=>ad nx ⟨AU _,by rw[O];exact Nat.lt_succ_self nx⟩)
  (λn f hf O af=>hnm n f hf nx af ⟨AU _,by rw[O];exact Nat.lt_succ_self nx⟩) ab
 have hp:=fS hW G;obtain⟨aa,O⟩:=ac hp;have Z:=nI hW G aa;have hh:(S.one m e l ks w').h=({use:=u,kill:=ks,new:=[(m,(true,e))],cnt:=cnt}:B4).appf S.h:=by
  funext n;simp only[Ay.one,B4.appf,hget];by_cases hnm:n=m
  .subst hnm;simp
  .have:(m==n)=false:=by
    rw[Ih];exact λh=>hnm h.symm
   simp[this,hnm]
 have hp':BA (λn=> ¬Fr nx cnt n) S (S.one m e l ks w'):=by
  refine⟨hp.ok,λn hX=>hp.nm n ?_⟩;rcases hm with ⟨aj,ak⟩|⟨ai,ah,ag⟩
  .right;intro hnm;exact hX ⟨by omega,by omega⟩
  .left;rw[hu m (by simp[ah])];exact ag
 unfold Oper.wp;rcases z with z|⟨z,rfl⟩
 .rw[z,Oper.upon_value];exact hn v _ Z hh hp' O
 .rw[z,Oper.upon_skip];exact hn undef _ Z hh hp' O
end
def Wn{S:Ay}{nx:Nat}{e:Ah}{cap:Nat}{w':World}{ob:Obj}(z:w'.heap=S.w.heap.push ob)
 (ab:w'.os=S.w.os)(G:w'.tape=S.w.tape)(Q:w'.output=S.w.output){ks:List Nat}(hS:S.h nx=none)
 (O: ∀n f,S.h n=some f->nx∉f.2.nms)(Z:S.w.drawn<=w'.drawn:=by first|exact AU _|exact oB _|assumption):Kb S nx e (some ⟨S.w.heap.size,0,cap⟩) ks w':=by
 refine⟨ab,G,Q,Z,by rw[z];simp,?_,.inr hS,?_,?_,λn f hf _=>O n f hf⟩
 .intro b hb _;rw[z,Array.getElem?_push,Ag (by omega)]
 .intro lo aa;obtain rfl:=AC aa;refine⟨by rw[z];simp,.inl (AU _)⟩
 .intro f hf;rw[hS] at hf;cases hf
def Ql6{S:Ay}{nx:Nat}{e:Ah}{ks:List Nat}(O:S.h nx=none)
 (z: ∀n f,S.h n=some f->nx∉f.2.nms):Kb S nx e none ks S.w:=by
 refine⟨rfl,rfl,rfl,AU _,AU _,λ_ _ _=>rfl,.inr O,?_,?_,λn f hf _=>z n f hf⟩
 .intro lo G;cases G
 .intro f hf;rw[O] at hf;cases hf
def gE{C:Ba}{S:Ay}(hW:Wf C S){m:Nat}{f e:Ah}{l:FX}{w':World}{ob:Obj}(hm:S.h m=some (true,f))(hl:S.ρ m=some l)
 (z:w'.heap=S.w.heap.setIfInBounds l.b ob)(af:w'.os=S.w.os)(O:w'.tape=S.w.tape)(aa:w'.output=S.w.output)
 (Q:e.esz=f.esz)(Z:e.len=f.len)(ab:S.w.drawn<=w'.drawn:=by first|exact AU _|exact oB _|assumption):Kb S m e (some l) [m] w':=by
 refine⟨af,O,aa,ab,by rw[z];simp,?_,.inl (by simp),?_,?_,?_⟩
 .intro b hb ad
  have:=ad m f l (by simp) hm hl
  rw[z,iC];rw[Ag this]
 .intro lo ac;obtain rfl:=AC ac;exact⟨by rw[z];simpa using (hW.loc m _ _ hm hl).1,.inr ⟨m,f,l,by simp,hm,hl,rfl⟩⟩
 .intro g hg;rw[hm] at hg;obtain rfl:=AC hg;exact⟨hl.symm,Q,Z⟩
 .intro n g _ G;rw[hm] at G;cases G
def bG{S:Ay}{nx:Nat}{e:Ah}{l:Option FX}{ks:List Nat}{w':World}{ob:Obj}(z:w'.heap=S.w.heap.push ob):
 (S.one nx e l ks w').hp S.w.heap.size=some ob:=by
 simp[Ay.hp,Ay.one,z]
section
variable {P:Program}{tm:List (Nat×AV)}{h:Nat->Option Au}{nx:Nat}{o:Oper}{K:Aj}
def Qqf{T:TypeId}{cs:List AV}(G:(C:Ba)->(S:Ay)->(a:Act)->Wf C S->(∀x∈o.op.operands,Aa S (Aw tm x) (a.eval x))->
 ∃z:Array Value,(execOp a.eval o).run P S.w= .ok (.value (.pointer (some ⟨S.w.heap.size,0,none⟩))) (S.w.alloc (.cells z T))/\AR S cs z.toList)
 (hb: ∀m∈Ax cs,m≠nx):BE P tm h nx o (.ptr nx 0) {new:=[(nx,(true,.cells T cs))],cnt:=1}:=by
 refine BE.one (u:=[]) (ks:=[]) (.inl ⟨rfl,rfl⟩) ?_;intro C S a hW _ Z hnm aa;obtain⟨z,O,Q⟩:=G C S a hW aa;refine⟨_,_,some ⟨S.w.heap.size,0,0⟩,.inl O,Wn (w':=S.w.alloc (.cells z T)) (ob:= .cells z T) rfl rfl rfl rfl (Z rfl) (λn f hf=>hnm n f hf rfl),?_⟩;intro hp;constructor
 .simp only[Ap];refine⟨_,z,rfl,rfl,bG rfl,Wh hp cs _ (λm hm=> .inr (hb m hm)) Q⟩
 .simp only[Aa];refine⟨rfl,λe he=>⟨⟨S.w.heap.size,0,0⟩,by simp[Ay.one],rfl⟩⟩
def Z3{T:TypeId}{x:Operand}(Q:o.op= .box T x)(G:VL nx T K (Aw tm x).cells)(hb: ∀m∈Ax (Aw tm x).cells,m≠nx):Ca P tm h nx o K:=by
 obtain⟨O,G⟩:=G;refine⟨_,_,Qqf ?_ hb,G⟩;intro C S a hW z;have Z:=z x (by rw[Q];simp[Op.operands]);refine⟨(a.eval x).cells,?_,sX (λh=>O (by rw[h];rfl)) Z⟩;simp[execOp,Q,Instr.box,newVar,newRow]
def PS{T:TypeId}(ho:o.op= .alloc T)(G:Bl (Qsv nx T K) (tI P T)):Ca P tm h nx o K:=by
 cases hT:tI P T with
 |none=>rw[hT] at G;exact G.elim
 |some ti=>
  rw[hT] at G;simp only[Bl,Qsv] at G;obtain⟨hl,hz,G⟩:=G;obtain⟨z,Q,ab,O⟩:=fK hT hl hz;refine⟨_,_,Qqf ?_ ?_,G⟩
  .intro C S a hW aa;refine⟨z.cells,?_,(IQ _ _).2 (O _ _)⟩;simp[execOp,ho,Instr.alloc,Q,newVar,newRow]
  .intro m Z
   have: ∀(l:List D),Ax (l.map AV.im)=[]:=by
    intro l;induction l with
    |nil=>rfl
    |cons x l ih=>simp[Ax,AV.nms,ih]
   rw[this] at Z;cases Z
def Qw0(l:List D):Ax (l.map AV.im)=[]:=by
 induction l with
 |nil=>rfl
 |cons x l ih=>simp[Ax,AV.nms,ih]
def Qyk{T:TypeId}(O:o.op= .makeMap T none)(z:Bl (Qko P nx K) (tI P T)):Ca P tm h nx o K:=by
 cases hT:tI P T with
 |none=>rw[hT] at z;exact z.elim
 |some ti=>
 rw[hT] at z;simp only[Bl,Qko] at z;cases hf:ti.kind<;>rw[hf] at z<;>try exact z.elim
 rename_i Z e;simp only[Uk] at z;cases hkt:BU P Z with
 |none=>rw[hkt] at z;exact z.elim
 |some kt=>
 rw[hkt] at z;simp only[YT] at z;refine⟨_,_,BE.one (u:=[]) (ks:=[]) (.inl ⟨rfl,rfl⟩) ?_,z⟩;intro C S a hW _ G hnm Q;refine⟨.map (some S.w.heap.size),S.w.alloc (.map #[] 0),some ⟨S.w.heap.size,0,0⟩,.inl ?_,Wn (w':=S.w.alloc (.map #[] 0)) (ob:= .map #[] 0) rfl rfl rfl rfl (G rfl) (λn f hf=>hnm n f hf rfl),?_⟩
 .simp[execOp,O,Instr.makeMap]
 intro hp;constructor
 .simp only[Ap];refine⟨_,#[],0,rfl,by simp,bG rfl,by simp[rde],by simp,by simp⟩
 .simp only[Aa];exact⟨rfl,λe he=>⟨⟨S.w.heap.size,0,0⟩,by simp[Ay.one],rfl⟩⟩
def Qb{e k:Nat}(z: ∀(S:Ay) (a:Act),(execOp a.eval o).run P S.w= .ok (.value (.slice none 0 0)) S.w)(O:K (.own nx) {new:=[(nx,(true,.arr e k []))],cnt:=1}):Ca P tm h nx o K:=by
 refine⟨_,_,BE.one (u:=[]) (ks:=[]) (.inl ⟨rfl,rfl⟩) ?_,O⟩;intro C S a hW _ G hnm Q;refine⟨_,_,none,.inl (z S a),Ql6 (G rfl) (λn f hf=>hnm n f hf rfl),?_⟩;intro hp;constructor
 .simp[Ap]
 .simp only[Aa];exact⟨rfl,λe Z=>by simp[Ay.one]⟩
def Qabd{x:Operand}(G:o.op= .assign x)(z:Qm9 P tm nx o.type K x):Ca P tm h nx o K:=by
 simp only[Qm9] at z;cases hn':(Xz x && !(o.type==260)) with
 |false=>rw[hn'] at z;exact pP (.inr G) z
 |true=>
  rw[hn'] at z;have hn:Xz x=true:=by
   cases h:Xz x
   .rw[h] at hn';cases hn'
   .rfl
  simp only[Qk7] at z;have O:x= .const (.slice none 0 0):=by
   cases x<;>simp only[Xz,reduceCtorEq] at hn;rename_i v;unfold Rz at hn;split at hn
   .rfl
   .cases hn
  cases ht:QX (tI P o.type) with
  |none=>rw[ht] at z;exact z.elim
  |some Q=>
   rw[ht] at z;cases Q<;>try exact z.elim
   rename_i e;simp only[Qg6] at z;cases hE:tI P e with
   |none=>rw[hE] at z;exact z.elim
   |some Z=>
    rw[hE] at z;simp only[Bl,Qjk] at z;exact Qb (λS a=>by simp[execOp,G,O,Act.eval]) z
def Qod{α:Type}(l:List α)(off:Nat)(v:α)(xs:List α)(h:off<l.length):Co (l.set off v) (off+1) xs=Co l off (v::xs):=by
 have z:(l.set off v).take (off+1)=l.take off++[v]:=by
  rw[List.take_set,List.set_eq_take_append_cons_drop];rw[Al (by rw[CB];omega),List.take_take,Zff (by omega),Zfm];simp
 have G:(l.set off v).drop (off+1+xs.length)=l.drop (off+1+xs.length):=List.drop_set_of_lt (by omega);simp only[Co,z,G,CR];rw[show off+1+xs.length=off+(xs.length+1) from by omega];simp
def Qf9{w:World}{b p:Nat}{T:TypeId}: ∀(xs:List Value) (i:Nat) (vs:Array Value),(∀v∈xs,v.oneCell'=true)->p+i+xs.length<=vs.size->
 w.heap[b]? =some (.cells vs T (0,0))-> ∃w',(storeCells ⟨b,p,none⟩ xs i).run P w= .ok () w'/\w'.heap=w.heap.setIfInBounds b (.cells (Co vs.toList (p+i) xs).toArray T (0,0))/\
  w'.os=w.os/\w'.tape=w.tape/\w'.output=w.output/\w.drawn<=w'.drawn:=by
 intro xs;induction xs generalizing w with
 |nil=>
  intro i vs _ _ z;refine⟨w,by simp[storeCells],?_,rfl,rfl,rfl,AU _⟩
  have:(Co vs.toList (p+i) ([]:List Value)).toArray=vs:=by simp[Co]
  rw[this];apply ZeH;intro k;rw[iC];split
  .rename_i ad;subst ad;split
   .exact z
   .rename_i ag
    have:b<w.heap.size:=by
     rcases FR b w.heap.size with h|h
     .exact h
     .rw[XR h] at z;cases z
    exact absurd this ag
  .rfl
 |cons v xs ih=>
  intro i vs O aa z;have G:b<w.heap.size:=by
   rcases FR b w.heap.size with h|h
   .exact h
   .rw[XR h] at z;cases z
  simp only[CR] at aa;have Z:w.cell? ⟨b,p+i,none⟩=some (vs[p+i]'(by omega)):=by rw[Qyp z];simp
  have af:w.frozen? ⟨b,p+i,none⟩=false:=by simp[World.frozen?,z]
  have Q:(w.setCell ⟨b,p+i,none⟩ v).heap=w.heap.setIfInBounds b (.cells (vs.setIfInBounds (p+i) v) T (0,0)):=by
   apply ZeH;intro k;simp only[World.setCell,Zej,iC];by_cases hk:b=k
   .subst hk;have ac:w.heap[b]= .cells vs T (0,0):=by simpa[Ke G] using z
    simp[G,ac]
   .simp[hk]
  have ab:(w.setCell ⟨b,p+i,none⟩ v).heap[b]? =some (.cells (vs.setIfInBounds (p+i) v) T (0,0)):=by
   rw[Q,iC];simp[G]
  obtain⟨w',h1,h2,h3,h4,h5⟩:=ih (w:=w.setCell ⟨b,p+i,none⟩ v) (i+1) _ (λu hu=>O u (by simp[hu])) (by simp;omega) ab;refine⟨w',?_,?_,h3,h4,h5⟩
  .simp only[storeCells,Sem.run_bind,Ow,run_store P w _ v .plain (O v (by simp)),Z,af];simpa using h1
  .rw[h2,Q];apply ZeH;intro k;simp only[iC,ZdU];by_cases hk:b=k
   .subst hk;simp only[Bb,G];congr 3;rw[ZdJ,<-RP];exact Qod _ _ _ _ (by simp;omega)
   .simp[hk]
def lQ{S:Ay}: ∀(cs:List AV) (vs:List Value),R6 cs=true->AR S cs vs-> ∀v∈vs,v.oneCell'=true
 |[],vs,_,h=>by simp only[AR] at h;simp[h]
 |x::cs,vs,G,h=>by
  simp only[R6,Bc] at G;simp only[AR] at h;obtain⟨v,r,rfl,z,Z⟩:=h;intro u O;rcases Bw.1 O with rfl|O
  .cases x<;>simp only[AV.one,Dp,false_and] at G<;>simp only[Aa] at z
   case im d=>
    cases d<;>simp only[D.one,Dp,false_and] at G<;>simp only[rd] at z
    case sl nz k rows=>
     rcases z with ⟨rfl|⟨_,a,rfl⟩,_⟩|⟨b,p,cap,vs,T,Q,rfl,_⟩<;>rfl
    case ref cs=>obtain⟨b,p,vs,T,Q,rfl,_⟩:=z;rfl
    case mp kt es=>obtain⟨b,p,vs,rfl,_⟩:=z;rfl
    case fn f a c=>obtain⟨b,p,rfl,_⟩:=z;rfl
    case ifc t d=>obtain⟨b,rfl,_⟩:=z;rfl
    case tok g=>obtain⟨_,⟨t,x,rfl⟩,_⟩:=z;rfl
    all_goals subst z;rfl
   case clo=>obtain⟨b,p,rfl,_⟩:=z;rfl
   all_goals exact z.1
  .exact lQ cs r G.2 Z u O
def Qab4{ok:Nat->Prop}{hp:Nat->Option Obj}: ∀(off:Nat) (ds xs:List D) (vs us:List Value),rdp ok hp ds vs->rdl ok hp xs us->off+xs.length<=ds.length->
 rdp ok hp (Co ds off xs) (Co vs off us):=by
 intro off;induction off with
 |zero=>
  intro ds xs vs us O G z;have hl:=gD _ _ G;simp only[Co,Hp,Dv,FS] at*;rw[hl];have hd:=Q7 xs.length ds vs O z;clear z O hl;generalize ds.drop xs.length=ds' at*;generalize vs.drop xs.length=vs' at*;induction xs generalizing us with
  |nil=>simp only[rdl] at G;subst G;simpa using hd
  |cons x xs ih=>
   simp only[rdl] at G;obtain⟨v,r,rfl,Q,Z⟩:=G;simp only[Ci,rdp];exact⟨v,_,rfl,Q,ih r Z⟩
 |succ off ih=>
  intro ds xs vs us O G z;cases ds with
  |nil=>simp at z
  |cons d ds=>
   simp only[rdp] at O;obtain⟨v,r,rfl,Q,Z⟩:=O
   have:=ih ds xs r us Z G (by simp only[CR] at z;omega)
   simp only[Co,OC,Ci,Nat.succ_add,LK,rdp] at this⊢;exact⟨v,_,rfl,Q,this⟩
def Qmv{S:Ay}: ∀(off:Nat) (ds xs:List AV) (vs us:List Value),CA S ds vs->AR S xs us->off+xs.length<=ds.length->
 CA S (Co ds off xs) (Co vs off us):=by
 intro off;induction off with
 |zero=>
  intro ds xs vs us O G z;have hl:=IW _ _ G;simp only[Co,Hp,Dv,FS] at*;rw[hl];have hd:=lW xs.length ds vs O z;clear z O hl;generalize ds.drop xs.length=ds' at*;generalize vs.drop xs.length=vs' at*;induction xs generalizing us with
  |nil=>simp only[AR] at G;subst G;simpa using hd
  |cons x xs ih=>
   simp only[AR] at G;obtain⟨v,r,rfl,Q,Z⟩:=G;simp only[Ci,CA];exact⟨v,_,rfl,Q,ih r Z⟩
 |succ off ih=>
  intro ds xs vs us O G z;cases ds with
  |nil=>simp at z
  |cons d ds=>
   simp only[CA] at O;obtain⟨v,r,rfl,Q,Z⟩:=O
   have:=ih ds xs r us Z G (by simp only[CR] at z;omega)
   simp only[Co,OC,Ci,Nat.succ_add,LK,CA] at this⊢;exact⟨v,_,rfl,Q,this⟩
def Qml{S:Ay}{off:Nat}{ds xs:List AV}{vs us:List Value}(Q:AR S ds vs)(Z:AR S xs us)(z:off+xs.length<=ds.length):
 AR S (Co ds off xs) (Co vs off us):=by
 have G:=IW _ _ Q;have O:=IW _ _ Z;have h3:=Qmv off ds xs vs us (Xp _ _ Q) Z z;have h4:=(Xo (Co ds off xs).length _ _ h3 (AU _)).2;rw[IF] at h4
 have:(Co ds off xs).length=(Co vs off us).length:=by
  simp[Co,CB,De,G,O]
 rwa [this,IF] at h4
def Ni{ok:Nat->Prop}{hp:Nat->Option Obj}{k:Nat}: ∀(i:Nat) (rows:List (List D)) (vs us:List Value) (row xs:List D) (off:Nat),rdr ok hp k rows vs->rows[i]? =some row->
 rdl ok hp xs us->off+xs.length<=k->i*k+k<=vs.length->rdr ok hp k (rows.set i (Co row off xs)) (Co vs (i*k+off) us)
 |_,[],_,_,_,_,_,_,G,_,_,_=>by simp at G
 |0,r::rs,vs,us,row,xs,off,h,G,Z,ho,hv=>by
  simp at G;subst G;simp only[rdr] at h;have hl:=gD _ _ Z;simp only[iB,rdr,iH,FS] at hv⊢;refine⟨?_,Qab4 _ _ _ _ _ h.2.1 Z (by omega),?_⟩
  .simp[Co,CB,De];omega
  .have:(Co vs off us).drop k=vs.drop k:=by
    simp only[Co];rw[Wy,Wy];rw[Ee (by simp only[CB];omega),Ee (by simp only[CB];omega),EC];simp only[Dv,Bz,CB];congr 1;omega
   rw[this];exact h.2.2
 |i+1,r::rs,vs,us,row,xs,off,h,G,Z,ho,hv=>by
  simp only[rdr] at h;simp only[nW,rdr];have e1:(i+1)*k=i*k+k:=by rw[FB,Jm]
  rw[e1] at hv⊢;have ih:=Ni i rs (vs.drop k) us row xs off h.2.2 (by simpa using G) Z ho (by rw[De];omega);have Q:Co vs (i*k+k+off) us=vs.take k++Co (vs.drop k) (i*k+off) us:=by
   have e2:vs.take (i*k+k+off)=vs.take k++(vs.drop k).take (i*k+off):=by
    rw[<-iG];congr 1;omega
   simp only[Co,e2,EC,Ej];rw[show i*k+k+off+us.length=k+(i*k+off+us.length) from by omega]
  rw[Q];have O:(vs.take k).length=k:=by rw[CB];omega
  refine⟨h.1,?_,?_⟩
  .obtain⟨_,h5⟩:=Wk k r vs h.2.1 (by omega);have h6:=X2 _ _ h5;rw[GW (by omega)] at h6;clear ih Q h5 O;generalize vs.take k=q at*;have ab: ∀(r:List D) (q t:List Value),rdp ok hp r q->rdp ok hp r (q++t):=by
    intro r;induction r with
    |nil=>intro q t _;simp only[rdp]
    |cons d r aa=>
     intro q t h;simp only[rdp] at h⊢;obtain⟨v,z,rfl,h7,h8⟩:=h;exact⟨v,z++t,rfl,h7,aa z t h8⟩
   exact ab r q _ h6
  .rw[Wy,Ee (by omega),O,Ii];simpa using ih
end
def mH{S:Ay}: ∀(r:List AV) (q t:List Value),CA S r q->CA S r (q++t)
 |[],_,_,_=>by simp only[CA]
 |d::r,q,t,h=>by
  simp only[CA] at h⊢;obtain⟨v,z,rfl,G,O⟩:=h;exact⟨v,z++t,rfl,G,mH r z t O⟩
def uV{ok:Nat->Prop}{hp:Nat->Option Obj}: ∀(r:List D) (q t:List Value),rdp ok hp r q->rdp ok hp r (q++t)
 |[],_,_,_=>by simp only[rdp]
 |d::r,q,t,h=>by
  simp only[rdp] at h⊢;obtain⟨v,z,rfl,G,O⟩:=h;exact⟨v,z++t,rfl,G,uV r z t O⟩
def Qu1{S:Ay}{k:Nat}: ∀(i:Nat) (rows:List (List AV)) (vs us:List Value) (row xs:List AV) (off:Nat),BG S k rows vs->rows[i]? =some row->
 AR S xs us->off+xs.length<=k->i*k+k<=vs.length->BG S k (rows.set i (Co row off xs)) (Co vs (i*k+off) us)
 |_,[],_,_,_,_,_,_,z,_,_,_=>by simp at z
 |0,r::rs,vs,us,row,xs,off,h,z,G,ho,Z=>by
  simp at z;subst z;simp only[BG] at h;have hl:=IW _ _ G;simp only[iB,BG,iH,FS] at Z⊢;refine⟨?_,Qmv _ _ _ _ _ h.2.1 G (by omega),?_⟩
  .simp[Co,CB,De];omega
  .have:(Co vs off us).drop k=vs.drop k:=by
    simp only[Co];rw[Wy,Wy];rw[Ee (by simp only[CB];omega),Ee (by simp only[CB];omega),EC];simp only[Dv,Bz,CB];congr 1;omega
   rw[this];exact h.2.2
 |i+1,r::rs,vs,us,row,xs,off,h,z,G,ho,Z=>by
  simp only[BG] at h;simp only[nW,BG];have e1:(i+1)*k=i*k+k:=by rw[FB,Jm]
  rw[e1] at Z⊢;have ih:=Qu1 i rs (vs.drop k) us row xs off h.2.2 (by simpa using z) G ho (by rw[De];omega);have Q:Co vs (i*k+k+off) us=vs.take k++Co (vs.drop k) (i*k+off) us:=by
   have e2:vs.take (i*k+k+off)=vs.take k++(vs.drop k).take (i*k+off):=by
    rw[<-iG];congr 1;omega
   simp only[Co,e2,EC,Ej];rw[show i*k+k+off+us.length=k+(i*k+off+us.length) from by omega]
  rw[Q];have O:(vs.take k).length=k:=by rw[CB];omega
  refine⟨h.1,?_,?_⟩
  .obtain⟨_,h5⟩:=Xo k r vs h.2.1 (by omega);have h6:=Xp _ _ h5;rw[GW (by omega)] at h6;exact mH r _ _ h6
  .rw[Wy,Ee (by omega),O,Ii];simpa using ih
def zJ{α:Type}(l:List α)(p off:Nat)(xs:List α)(h:p<=l.length):(Co l (p+off) xs).drop p=Co (l.drop p) off xs:=by
 have G:l.take (p+off)=l.take p++(l.drop p).take off:=by rw[<-iG]
 have z:(l.take p).length=p:=by rw[CB];omega
 simp only[Co,G,Ej];rw[Wy,Ee (by omega),z,Ii];simp[RP]
section
variable {P:Program}{tm:List (Nat×AV)}{h:Nat->Option Au}{nx:Nat}{o:Oper}{K:Aj}
def Qiq{T:TypeId}{ti:TI}(hT:tI P T=some ti){w:World}{b p:Nat}{U:TypeId}{vs:Array Value}{v:Value}(G:v.cells.size=ti.size)(z: ∀u∈v.cells.toList,u.oneCell'=true)
 (O:p+ti.size<=vs.size)(hb:w.heap[b]? =some (.cells vs U (0,0))):
 ∃w',(Instr.storeAt T (.pointer (some ⟨b,p,none⟩)) v).run P w= .ok () w'/\w'.heap=w.heap.setIfInBounds b (.cells (Co vs.toList p v.cells.toList).toArray U (0,0))/\
  w'.os=w.os/\w'.tape=w.tape/\w'.output=w.output/\w.drawn<=w'.drawn:=by
 obtain⟨w',Q,Z⟩:=Qf9 (P:=P) (w:=w) (b:=b) (p:=p) (T:=U) v.cells.toList 0 vs z (by simp;omega) hb;refine⟨w',?_,by simpa using Z⟩;simp[Instr.storeAt,Instr.sureAddr,storeVar,IX hT,G,Q]
def gJ{S:Ay}{m:Nat}{e:Ah}{l:Option FX}{ks:List Nat}{w':World}{b:Nat}{ob:Obj}(G:b<S.w.heap.size)(z:w'.heap=S.w.heap.setIfInBounds b ob):
 (S.one m e l ks w').hp b=some ob:=by
 simp[Ay.hp,Ay.one,z,G]
def Qe{T:TypeId}{x y:Operand}(ho:o.op= .store T x y)(z:Bl (Qri h (Aw tm x) (Aw tm y) K) (tI P T)):Ca P tm h nx o K:=by
 cases hT:tI P T with
 |none=>rw[hT] at z;exact z.elim
 |some ti=>
 rw[hT] at z;simp only[Bl,Qri] at z;obtain⟨hz,aa,ag,z⟩:=z;have ad:Aw tm y≠ .any:=by intro hh;rw[hh] at aa;simp only[AV.cells,DQ] at aa;exact hz aa.symm
 cases hx:Aw tm x<;>rw[hx] at z<;>try exact z.elim
 case ptr n p=>
  simp only[tF] at z;cases hn:h n with
  |none=>rw[hn] at z;exact z.elim
  |some e=>
  rw[hn] at z;obtain⟨mu,e⟩:=e;cases mu<;>cases e<;>try exact z.elim
  rename_i U cs;simp only[V1] at z;obtain⟨aj,z⟩:=z;refine⟨_,_,BE.one (u:=[n]) (ks:=[n]) (m:=n) (cnt:=0) (.inr ⟨rfl,by simp,by rw[hn];simp⟩) ?_,z⟩;intro C S a hW hu _ _ O;have h1:=O x (by rw[ho];simp[Op.operands]);have h2:=O y (by rw[ho];simp[Op.operands]);have hS:S.h n=some (true,.cells U cs):=(hu n (by simp)).trans hn;rw[hx] at h1;simp only[Aa] at h1;obtain⟨l,hl,hv⟩:=h1.2 _ hS;have Z:=hW.obj _ _ hS;simp only[Ap] at Z;obtain⟨lc,vs,ao,aq,hb,an⟩:=Z;rw[hl] at ao;obtain rfl:=AC ao;have h3:=sX ad h2;have h4:=IW _ _ h3;have h5:=IW _ _ an;rw[aq,FS] at hv;obtain⟨w',ab,G,ah,ai,Q⟩:=Qiq hT (w:=S.w) (b:=l.b) (p:=p) (U:=U) (vs:=vs) (v:=a.eval y) (by simpa[aa] using h4) (lQ _ _ ag h3)
   (by have:vs.size=cs.length:=by simpa using h5
       omega) hb
  refine⟨undef,w',some l,.inr ⟨by simp[execOp,ho,hv,ab],rfl⟩,gE hW hS hl G ah ai Q.1 rfl rfl Q.2,?_⟩;intro hp;refine⟨?_,by simp only[Aa]⟩;simp only[Ap];have hX: ∀q:Nat,S.h n≠none\/q≠n:=λq=> .inl (by rw[hS];simp)
  refine⟨l,_,rfl,aq,gJ (hW.loc n _ l hS hl).1 G,?_⟩;exact Qml (Wh hp _ _ (λq _=>hX q) an) (Wh hp _ _ (λq _=>hX q) h3) (by omega)
 case eptr n i p=>
  simp only[tF] at z;cases hn:h n with
  |none=>rw[hn] at z;exact z.elim
  |some e=>
  rw[hn] at z;obtain⟨mu,e⟩:=e;cases mu<;>cases e<;>try exact z.elim
  case true.arr U k rows=>
   simp only[JN,JZ,Qxz] at z;obtain⟨hi,z⟩:=z;have z:=z rows[i] (BB hi);cases hai:DP (Aw tm y).cells with
   |none=>rw[hai] at z;exact z.elim
   |some ds=>
   rw[hai] at z;simp only[YH] at z;obtain⟨aj,z⟩:=z;refine⟨_,_,BE.one (u:=[n]) (ks:=[n]) (m:=n) (cnt:=0) (.inr ⟨rfl,by simp,by rw[hn];simp⟩) ?_,z⟩;intro C S a hW hu _ _ O;have h1:=O x (by rw[ho];simp[Op.operands]);have h2:=O y (by rw[ho];simp[Op.operands]);have hS:S.h n=some (true,.arr U k rows):=(hu n (by simp)).trans hn;rw[hx] at h1;simp only[Aa] at h1;obtain⟨l,hl,hv⟩:=h1.2 _ hS;have Z:=hW.obj _ _ hS;rw[hl] at Z;simp only[Ap] at Z;obtain⟨ac,af,vs,hb,aw,hr⟩:=Z;have h3:=sX ad h2;have h4:=IW _ _ h3;obtain⟨av,_⟩:=Qy5 i rows _ _ hr (BB hi);simp only[Ah.esz] at hv;have au:i*k+k<=l.cap*k:=by
    have:(i+1)*k<=l.cap*k:=Ig k (by omega)
    rwa [FB,Jm] at this
   obtain⟨w',ab,G,ah,ai,Q⟩:=Qiq hT (w:=S.w) (b:=l.b) (p:=l.p+i*k+p) (U:=U) (vs:=vs) (v:=a.eval y) (by simpa[aa] using h4) (lQ _ _ ag h3)
    (by omega) hb
   refine⟨undef,w',some l,.inr ⟨by simp[execOp,ho,hv,ab],rfl⟩,gE hW hS hl G ah ai Q.1 rfl (by simp[Ah.len]) Q.2,?_⟩;intro hp;refine⟨?_,by simp only[Aa]⟩;simp only[Ap];have am:=aS hp.ok k rows _ hr;rw[mE hai] at h3;have ak:=L8 hp.ok _ _ ((IQ _ _).1 h3);have ax:ds.length=ti.size:=by rw[mE hai] at aa;simpa using aa
   refine⟨by simpa using ac,by simpa using af,_,gJ (hW.loc n _ l hS hl).1 G,?_,?_⟩
   .simp[Co,CB,De] at h4⊢;omega
   .have:=Ni i rows _ (a.eval y).cells.toList rows[i] ds p am (BB hi) ak (by omega) (by simp;omega)
    rw[Zey,RP,zJ _ _ _ _ (by simp;omega)];exact this
  case true.arrA U k rows=>
   simp only[JN,JZ,Qyo] at z;obtain⟨hi,z⟩:=z;obtain⟨aj,z⟩:=z rows[i] (BB hi);refine⟨_,_,BE.one (u:=[n]) (ks:=[n]) (m:=n) (cnt:=0) (.inr ⟨rfl,by simp,by rw[hn];simp⟩) ?_,z⟩;intro C S a hW hu _ _ O;have h1:=O x (by rw[ho];simp[Op.operands]);have h2:=O y (by rw[ho];simp[Op.operands]);have hS:S.h n=some (true,.arrA U k rows):=(hu n (by simp)).trans hn;rw[hx] at h1;simp only[Aa] at h1;obtain⟨l,hl,hv⟩:=h1.2 _ hS;have Z:=hW.obj _ _ hS;rw[hl] at Z;simp only[Ap] at Z;obtain⟨ac,af,vs,hb,aw,hr⟩:=Z;have h3:=sX ad h2;have h4:=IW _ _ h3;obtain⟨av,_⟩:=Qw7 i rows _ _ hr (BB hi);simp only[Ah.esz] at hv;have au:i*k+k<=l.cap*k:=by
    have:(i+1)*k<=l.cap*k:=Ig k (by omega)
    rwa [FB,Jm] at this
   obtain⟨w',ab,G,ah,ai,Q⟩:=Qiq hT (w:=S.w) (b:=l.b) (p:=l.p+i*k+p) (U:=U) (vs:=vs) (v:=a.eval y) (by simpa[aa] using h4) (lQ _ _ ag h3)
    (by omega) hb
   refine⟨undef,w',some l,.inr ⟨by simp[execOp,ho,hv,ab],rfl⟩,gE hW hS hl G ah ai Q.1 rfl (by simp[Ah.len]) Q.2,?_⟩;intro hp;refine⟨?_,by simp only[Aa]⟩;simp only[Ap];have hX: ∀q:Nat,S.h n≠none\/q≠n:=λq=> .inl (by rw[hS];simp)
   have am:=tB hp k rows _ (λq _=>hX q) hr;have ak:=Wh hp _ _ (λq _=>hX q) h3;refine⟨by simpa using ac,by simpa using af,_,gJ (hW.loc n _ l hS hl).1 G,?_,?_⟩
   .simp[Co,CB,De] at h4⊢;omega
   .have:=Qu1 i rows _ (a.eval y).cells.toList rows[i] (Aw tm y).cells p am (BB hi) ak (by omega) (by simp;omega)
    rw[Zey,RP,zJ _ _ _ _ (by simp;omega)];exact this
end
def Quk(n:Nat): ∀(xs:List Value) (off:Nat) (cs:Array Value),off+xs.length<=cs.size->
 ((xs.zipIdx n).foldl (λ(cs:Array Value) (q:Value×Nat)=>cs.setIfInBounds (off - n+q.2) q.1) cs)=(Co cs.toList (off) xs).toArray\/off<n
 |xs,off,cs,h=>by
  by_cases hn:off<n
  .exact .inr hn
  left;induction xs generalizing n off cs with
  |nil=>simp[Co]
  |cons x xs ih=>
   simp only[CR] at h;simp only[List.zipIdx_cons,KN];rw[show off - n+n=off from by omega];have z:=ih (n+1) (off+1) (cs.setIfInBounds off x) (by simp;omega) (by omega);rw[show off+1 - (n+1)=off - n from by omega] at z;rw[z];congr 1;rw[ZdJ];exact Qod _ _ _ _ (by simp;omega)
def SS{place:Nat->Option (Nat×Nat)}{cs:Array Value}{i off size:Nat}{v:Value}{rest:List (Nat×Value)}(hp:place i=some (off,size))(hs:v.cells.size=size)
 (z:off+size<=cs.size):Instr.fill place cs ((i,v)::rest)=Instr.fill place (Co cs.toList off v.cells.toList).toArray rest:=by
 simp only[Instr.fill,hp];rw[Ag (by simp[hs];omega)];congr 1
 have:=Quk 0 v.cells.toList off cs (by simp;omega)
 rcases this with h|h
 .rw[<-h];rw[<-Array.foldl_toList];simp
 .omega
def Qsp{α:Type}(l:List α)(off:Nat)(xs:List α)(h:off+xs.length<=l.length):(Co l off xs).length=l.length:=by
 simp[Co,CB,De];omega
section
variable {P:Program}{tm:List (Nat×AV)}{h:Nat->Option Au}{nx:Nat}{o:Oper}{K:Aj}
def Qjy(z:Nat->Option (Nat×Nat)): ∀(ps:List (Nat×AV)) {r:List AV},HY z ps none=some r->False
 |[],_,h=>by simp[HY] at h
 |_::_,_,h=>by simp[HY] at h
def zU{S:Ay}{a:Act}{pl place:Nat->Option (Nat×Nat)}(Z: ∀i q,pl i=some q->place i=some q): ∀(ps:List (Nat×Operand)) (cs r:List AV) (G:Array Value),
 HY pl (Kh tm ps) (some cs)=some r->AR S cs G.toList->(∀p∈ps,Aa S (Aw tm p.2) (a.eval p.2))->
 ∃us,Instr.fill place G (ps.map λp=>(p.1,a.eval p.2))=some us/\AR S r us.toList/\r.length=cs.length
 |[],cs,r,G,hf,hc,_=>by
  simp only[Kh,HY,AO] at hf;subst hf;exact⟨G,rfl,hc,rfl⟩
 |(i,x)::ps,cs,r,G,hf,hc,z=>by
  simp only[Kh,HY] at hf;cases hp:pl i with
  |none=>rw[hp] at hf;simp only[bI] at hf;exact (Qjy _ _ hf).elim
  |some q=>
   obtain⟨off,size⟩:=q;rw[hp] at hf;simp only[bI] at hf;cases hcond:((Aw tm x).cells.length==size && (Nat.blt 0 size && Nat.ble (off+size) cs.length)) with
   |false=>rw[hcond] at hf;simp only[Cy] at hf;exact (Qjy _ _ hf).elim
   |true=>
    rw[hcond] at hf;simp only[C8] at hf;simp only[Bc,QO] at hcond;obtain⟨hl,hz,Q⟩:=hcond;have hz:0<size:=nQ hz;have Q:off+size<=cs.length:=nQ Q;have hx:=z (i,x) (by simp);have O:Aw tm x≠ .any:=by intro hh;rw[hh] at hl;simp only[AV.cells,DQ] at hl;omega
    have h3:=sX O hx;have h4:=IW _ _ h3;have h5:=IW _ _ hc;have h6:=Qml hc h3 (by omega:off+(Aw tm x).cells.length<=cs.length);have ab:(Co cs off (Aw tm x).cells).length=cs.length:=Qsp _ _ _ (by omega);obtain⟨us,aa,hr,ac⟩:=zU Z ps _ r (Co G.toList off (a.eval x).cells.toList).toArray hf (by simpa using h6) (λp hp=>z p (by simp[hp]));refine⟨us,?_,hr,by omega⟩;rw[Bf,SS (Z i _ hp) (by show (a.eval x).cells.size=size;simp only[Fj] at h4;omega) (by simp only[Fj] at h5;omega)];exact aa
def Qnx(w:World): ∀(G:List Field),(G.all λf=>(P.info? f.type).isSome)=true->
 (G.mapM (m:=Sem) λf=>do pure (f.offset,<-sizeOf f.type)).run P w= .ok (G.map λf=>(f.offset,((P.info? f.type).map (·.size)).getD 0)) w
 |[],_=>by simp
 |f::G,z=>by
  simp only[EE,Bc] at z;obtain⟨i,O⟩:=ZeR.1 z.1;have ih:=Qnx w G z.2;have Q:(sizeOf f.type).run P w= .ok i.size w:=by simp[sizeOf,typeInfo,O]
  simp only[List.mapM_cons,Sem.run_bind,Q,Result.andThen_ok,Sem.run_pure,ih,Bf,O,Ez,AW]
def PT{T:TypeId}{ps:Array (Nat×Operand)}(ho:o.op= .build T ps)(G:Bl (Qsy P (Kh tm ps.toList) K) (tI P T)):Ca P tm h nx o K:=by
 cases hT:tI P T with
 |none=>rw[hT] at G;exact G.elim
 |some ti=>
 rw[hT] at G;simp only[Bl,Qsy] at G;obtain⟨hl,hz,G⟩:=G;obtain⟨z,af,aj,ad⟩:=fK hT hl hz;have Z: ∀{S:Ay} {a:Act},(∀x∈o.op.operands,Aa S (Aw tm x) (a.eval x))-> ∀p∈ps.toList,Aa S (Aw tm p.2) (a.eval p.2):=by
  intro S a O p hp;refine O p.2 ?_;rw[ho];simp only[Op.operands];simp;exact⟨p.1,by simpa using hp⟩
 have aa: ∀(a:Act),(ps.map λ(i,x)=>(i,a.eval x)).toList=ps.toList.map λp=>(p.1,a.eval p.2):=by intro a;simp
 cases hf:ti.kind<;>rw[hf] at G<;>try exact G.elim
 case struct fs=>
  obtain⟨Q,hu,ac,ag⟩:=Qut hT hf;simp only[xI] at G;cases hfl:HY (MY fs) (Kh tm ps.toList) (some (ti.zero.map .im)) with
  |none=>rw[hfl] at G;exact G.elim
  |some cs=>
   rw[hfl] at G;simp only[NR] at G;refine⟨_,_,BE.pure (u:=[]) ?_,G⟩;intro C S a hW _ O;have ah: ∀(w:World),(Q.mapM (m:=Sem) λf=>do pure (f.offset,<-sizeOf f.type)).run P w= .ok (fs.toArray) w:=by
    intro w;rw[ZeM,Sem.run_map,Qnx w _ ac,ag];rfl
   obtain⟨us,ab,hr,ai⟩:=zU (S:=S) (a:=a) (place:=λi=>fs.toArray[i]?) (λi q hq=>by simpa[MY] using hq) ps.toList _ cs z.cells hfl ((IQ _ _).2 (ad _ _)) (Z O);refine⟨.agg us,?_,by have:=tR (ti:={ti with agg:=true,size:=cs.length}) hr rfl (.inl rfl);simpa using this⟩;simp only[execOp,ho,Instr.build,Sem.run_bind,af,Result.andThen_ok];rw[show (underlying T).run P S.w= .ok (.struct Q) S.w from by simp[underlying,hu]];simp only[Result.andThen_ok,Sem.run_bind,ah];rw[aa,ab];rfl
 case array m e=>
  have hu:=Qs2 hT hf;simp only[xI] at G;cases hE:tI P e with
  |none=>rw[hE] at G;exact G.elim
  |some te=>
  rw[hE] at G;simp only[Bl,Sf] at G;cases hfl:HY (JI te.size) (Kh tm ps.toList) (some (ti.zero.map .im)) with
  |none=>rw[hfl] at G;exact G.elim
  |some cs=>
   rw[hfl] at G;simp only[NR] at G;refine⟨_,_,BE.pure (u:=[]) ?_,G⟩;intro C S a hW _ O;obtain⟨us,ab,hr,ai⟩:=zU (S:=S) (a:=a) (place:=λi=>some (i*te.size,te.size)) (λi q hq=>hq) ps.toList _ cs z.cells hfl ((IQ _ _).2 (ad _ _)) (Z O);refine⟨.agg us,?_,by have:=tR (ti:={ti with agg:=true,size:=cs.length}) hr rfl (.inl rfl);simpa using this⟩;simp only[execOp,ho,Instr.build,Sem.run_bind,af,Result.andThen_ok];rw[show (underlying T).run P S.w= .ok (.array m e) S.w from by simp[underlying,hu]];simp only[Result.andThen_ok,Sem.run_bind,IX hE];rw[aa,ab];rfl
end
end Go.Ae
