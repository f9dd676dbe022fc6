/- Lemmas. Conditions: none. -/
import Derived.Test.YtelbgmfdnnljoaaGreatDoorP00
import Derived.Laws.Cells
set_option linter.all false
set_option maxHeartbeats 8000000
set_option maxRecDepth 100000
namespace Go.Ae
def N8{P:Program}{t:TypeId}{ti:TI}(h:tI P t=some ti):
 ∃i u,P.info? t=some i/\P.underlying t=some u/\ti.size=i.size/\ti.bytes=i.bytes/\
  ti.agg=NM u/\ti.kind=Fo P u/\ti.zero=zOf ti.agg i.zero:=by
 unfold tI at h;split at h
 .rename_i i u z G;simp only[AM] at h;subst h;exact⟨i,u,z,G,rfl,rfl,rfl,rfl,rfl⟩
 .cases h
section
variable {P:Program}{t:TypeId}{ti:TI}(h:tI P t=some ti)(w:World)
include h
def I2:(sizeOf t).run P w= .ok ti.size w:=by
 obtain⟨i,u,G,hu,z,O,Q,Z,h5⟩:=N8 h;simp[sizeOf,typeInfo,G,z]
def xN:(isAgg t).run P w= .ok ti.agg w:=by
 obtain⟨i,u,hi,G,Q,Z,z,h4,h5⟩:=N8 h;have O:(underlying t).run P w= .ok u w:=by simp[underlying,G]
 rw[z];cases u<;>simp[isAgg,O,NM]
end
def Qyp{w:World}{b p:Nat}{vs:Array Value}{T:TypeId}{z:Nat×Nat}(h:w.heap[b]? =some (.cells vs T z)):w.cell? ⟨b,p,none⟩=vs[p]? :=by
 simp[World.cell?,h]
def N7(b p n:Nat):(⟨b,p,none⟩:Addr).add n=⟨b,p+n,none⟩:=by
 unfold Addr.add;split
 .rename_i h;subst h;rfl
 .rfl
def UT{ok:Nat->Prop}{hp:Nat->Option Obj}: ∀(n:Nat) (ds:List D) (vs:List Value),rdp ok hp ds vs->n<=ds.length->
 n<=vs.length/\rdl ok hp (ds.take n) (vs.take n)
 |0,ds,vs,_,_=>by simp[rdl]
 |n+1,[],vs,_,h=>by simp at h
 |n+1,d::ds,vs,h,hn=>by
  simp only[rdp] at h;obtain⟨v,r,rfl,z,G⟩:=h;obtain⟨O,Q⟩:=UT n ds r G (by simpa using hn);refine⟨by simpa using O,?_⟩;simp only[EG,rdl];exact⟨v,_,rfl,z,Q⟩
def P4{ok:Nat->Prop}{hp:Nat->Option Obj}: ∀(n:Nat) (ds:List D) (vs:List Value),rdp ok hp ds vs->n<=ds.length->rdp ok hp (ds.drop n) (vs.drop n)
 |0,ds,vs,h,_=>by simpa using h
 |n+1,[],vs,_,h=>by simp at h
 |n+1,d::ds,vs,h,hn=>by
  simp only[rdp] at h;obtain⟨v,r,rfl,G,z⟩:=h;simpa using P4 n ds r z (by simpa using hn)
def Wk{ok:Nat->Prop}{hp:Nat->Option Obj}: ∀(ds:List D) (vs:List Value),rdl ok hp ds vs->rdp ok hp ds vs
 |[],_,_=>by simp only[rdp]
 |d::ds,vs,h=>by
  simp only[rdl,rdp] at h⊢;obtain⟨v,r,rfl,z,G⟩:=h;exact⟨v,r,rfl,z,Wk ds r G⟩
def cM{ok:Nat->Prop}{hp:Nat->Option Obj}: ∀(ds:List D) (vs:List Value),rdl ok hp ds vs->vs.length=ds.length
 |[],_,h=>by simp only[rdl] at h;simp[h]
 |d::ds,vs,h=>by
  simp only[rdl] at h;obtain⟨v,r,rfl,G,z⟩:=h;simp[cM ds r z]
def I0{S:Ay}: ∀(xs:List AV) (vs:List Value),AN S xs vs->vs.length=xs.length
 |[],_,h=>by simp only[AN] at h;simp[h]
 |d::ds,vs,h=>by
  simp only[AN] at h;obtain⟨v,r,rfl,G,z⟩:=h;simp[I0 ds r z]
def VW{S:Ay}: ∀(xs:List AV) (vs:List Value),AN S xs vs->Cm S xs vs
 |[],_,_=>by simp only[Cm]
 |d::ds,vs,h=>by
  simp only[AN,Cm] at h⊢;obtain⟨v,r,rfl,z,G⟩:=h;exact⟨v,r,rfl,z,VW ds r G⟩
def VV{S:Ay}: ∀(n:Nat) (ds:List AV) (vs:List Value),Cm S ds vs->n<=ds.length->n<=vs.length/\AN S (ds.take n) (vs.take n)
 |0,ds,vs,_,_=>by simp[AN]
 |n+1,[],vs,_,h=>by simp at h
 |n+1,d::ds,vs,h,hn=>by
  simp only[Cm] at h;obtain⟨v,r,rfl,z,G⟩:=h;obtain⟨O,Q⟩:=VV n ds r G (by simpa using hn);refine⟨by simpa using O,?_⟩;simp only[EG,AN];exact⟨v,_,rfl,z,Q⟩
def gT{S:Ay}: ∀(n:Nat) (ds:List AV) (vs:List Value),Cm S ds vs->n<=ds.length->Cm S (ds.drop n) (vs.drop n)
 |0,ds,vs,h,_=>by simpa using h
 |n+1,[],vs,_,h=>by simp at h
 |n+1,d::ds,vs,h,hn=>by
  simp only[Cm] at h;obtain⟨v,r,rfl,G,z⟩:=h;simpa using gT n ds r z (by simpa using hn)
def Ir{S:Ay}: ∀(ds:List D) (vs:List Value),AN S (ds.map .im) vs↔rdl S.ok S.hp ds vs
 |[],vs=>by simp[AN,rdl]
 |d::ds,vs=>by
  simp only[Bb,AN,rdl,Aa];constructor
  .rintro⟨v,r,rfl,z,G⟩;exact⟨v,r,rfl,z,(Ir ds r).1 G⟩
  .rintro⟨v,r,rfl,z,G⟩;exact⟨v,r,rfl,z,(Ir ds r).2 G⟩
def nJ{S:Ay}: ∀(ds:List D) (vs:List Value),Cm S (ds.map .im) vs↔rdp S.ok S.hp ds vs
 |[],vs=>by simp[Cm,rdp]
 |d::ds,vs=>by
  simp only[Bb,Cm,rdp,Aa];constructor
  .rintro⟨v,r,rfl,z,G⟩;exact⟨v,r,rfl,z,(nJ ds r).1 G⟩
  .rintro⟨v,r,rfl,z,G⟩;exact⟨v,r,rfl,z,(nJ ds r).2 G⟩
def hZ: ∀{cs:List AV} {ds:List D},Ds cs=some ds->cs=ds.map .im
 |[],ds,h=>by simp only[Ds,AM] at h;subst h;rfl
 |x::r,ds,h=>by
  simp only[Ds] at h;cases hx:x.asD with
  |none=>rw[hx] at h;simp only[NB] at h;cases h
  |some d=>
   rw[hx] at h;cases hr:Ds r with
   |none=>rw[hr] at h;simp only[NB] at h;cases h
   |some z=>
    rw[hr] at h;simp only[NB,AM] at h;subst h
    have:x= .im d:=by cases x<;>simp[AV.asD] at hx;subst hx;rfl
    rw[this,hZ hr];rfl
def OJ{ok:Nat->Prop}{hp:Nat->Option Obj}{d:D}{v:Value}(h:rd ok hp d v):rdl ok hp d.cells v.cells.toList:=by
 cases d<;>simp only[rd] at h<;>simp only[D.cells]
 case agg cs=>obtain⟨G,rfl,z⟩:=h;exact z
 case sl nz k rows=>
  rcases h with ⟨h0,z⟩|⟨b,p,cap,G,T,O,rfl,z⟩
  .obtain⟨ao,Z⟩:=pH h0;subst Z;simp only[rdl];exact⟨_,[],rfl,by simp only[rd];exact .inl ⟨h0,z⟩,rfl⟩
  .simp only[rdl];exact⟨_,[],rfl,by simp only[rd];exact .inr ⟨b,p,cap,G,T,O,rfl,z⟩,rfl⟩
 case tup cs=>obtain⟨G,rfl,z⟩:=h;simp only[rdl];exact⟨_,[],rfl,by simp only[rd];exact⟨G,rfl,z⟩,rfl⟩
 case ref cs=>obtain⟨b,p,G,T,O,rfl,z⟩:=h;simp only[rdl];exact⟨_,[],rfl,by simp only[rd];exact⟨b,p,G,T,O,rfl,z⟩,rfl⟩
 case mp es=>obtain⟨b,p,G,rfl,z⟩:=h;simp only[rdl];exact⟨_,[],rfl,by simp only[rd];exact⟨b,p,G,rfl,z⟩,rfl⟩
 case fn f a c=>obtain⟨b,p,rfl,z⟩:=h;simp only[rdl];exact⟨_,[],rfl,by simp only[rd];exact⟨b,p,rfl,z⟩,rfl⟩
 case ifc t d=>obtain⟨b,rfl,z⟩:=h;simp only[rdl];exact⟨_,[],rfl,by simp only[rd];exact⟨b,rfl,z⟩,rfl⟩
 case tok g=>obtain⟨z,⟨t,x,rfl⟩,Q⟩:=h;simp only[rdl];exact⟨_,[],rfl,by simp only[rd];exact⟨z,⟨t,x,rfl⟩,Q⟩,rfl⟩
 all_goals (subst h;simp only[rdl];exact⟨_,[],rfl,by simp only[rd],rfl⟩)
def Qsn(v:Value)(h: ∀z,v≠ .agg z):v.cells= #[v]:=by
 cases v<;>first|rfl|exact absurd rfl (h _)
def Od{v:Value}(h:v.oneCell'=true):v.cells= #[v]:=by
 cases v<;>first|rfl|cases h
def nM{S:Ay}{x:AV}{v:Value}(O:x≠ .any)(h:Aa S x v):AN S x.cells v.cells.toList:=by
 cases x<;>simp only[AV.cells]
 case any=>exact absurd rfl O
 case im d=>simp only[Aa] at h;exact (Ir _ _).2 (OJ h)
 case agg cs=>simp only[Aa] at h;obtain⟨G,rfl,z⟩:=h;exact z
 case tup cs=>
  have h':=h;simp only[Aa] at h;obtain⟨G,rfl,z⟩:=h;simp only[AN];exact⟨_,[],rfl,h',rfl⟩
 case clo f a c=>
  have h':=h;simp only[Aa] at h;obtain⟨G,c',rfl,z⟩:=h;simp only[AN];exact⟨_,[],rfl,h',rfl⟩
 all_goals
  have h':=h;simp only[Aa] at h;rw[Od h.1];simp only[AN];exact⟨_,[],rfl,h',rfl⟩
def ZM{ok:Nat->Prop}{hp:Nat->Option Obj}(v:Value)(h:ZN v=true):rd ok hp (zD v) v:=by
 unfold ZN at h;split at h<;>first|(simp only[zD,rd];done)|cases h|skip
 simp only[zD,rd];exact .inl ⟨.inl rfl,trivial⟩
def UN{ok:Nat->Prop}{hp:Nat->Option Obj}: ∀(vs:List Value),vs.all ZN=true->rdl ok hp (vs.map zD) vs
 |[],_=>by simp[rdl]
 |v::vs,h=>by
  simp only[ET,AW] at h;simp only[Bb,rdl];exact⟨v,vs,rfl,ZM v h.1,UN vs h.2⟩
def Qrg{P:Program}{t:TypeId}{ti:TI}(h:tI P t=some ti)(Z:ti.zero.length=ti.size)(hz:ti.size≠0):
 ∃z,(∀w,(zeroValue t).run P w= .ok z w)/\z.cells.size=ti.size/\(∀ok hp,rdl ok hp ti.zero z.cells.toList)/\ ∀ok hp,rd ok hp (bif ti.agg then .agg ti.zero else jZ ti.zero) z:=by
 obtain⟨i,u,hi,hu,h1,h2,h3,h4,O⟩:=N8 h;have Q:ti.zero≠[]:=by intro h;rw[h] at Z;exact hz Z.symm
 have G: ∀z,i.zero=some z-> ∀w,(zeroValue t).run P w= .ok z w:=λz hz w=>by simp[zeroValue,typeInfo,hi,hz]
 revert O Z Q G;generalize ti.agg=ag;generalize ti.zero=zs;generalize i.zero=iz;intro Z O Q G;unfold zOf at O;split at O
 .rename_i vs;cases ha:vs.toList.all ZN<;>rw[ha] at O
  .exact absurd O Q
  .simp only[BV] at O;subst O;have hr: ∀ok hp,rdl ok hp (vs.toList.map zD) vs.toList:=λok hp=>UN _ ha
   exact⟨_,G _ rfl,by simpa[Value.cells] using Z,λok hp=>by simpa[Value.cells] using hr ok hp,λok hp=>by simp only[BV,rd];exact⟨_,rfl,hr ok hp⟩⟩
 .rename_i v;cases ha:ZN v<;>rw[ha] at O
  .exact absurd O Q
  .simp only[BV] at O;subst O;have hr: ∀ok hp,rd ok hp (zD v) v:=λok hp=>ZM v ha
   have hc:v.cells= #[v]:=Qsn v (by intro cs hh;rw[hh] at ha;simp[ZN] at ha);exact⟨_,G _ rfl,by rw[hc];simpa using Z,λok hp=>by rw[hc];simp only[rdl];exact⟨v,[],rfl,hr ok hp,rfl⟩,λok hp=>by simpa[jZ] using hr ok hp⟩
 .exact absurd O Q
def bR{P:Program}{t:TypeId}{ti:TI}(h:tI P t=some ti)(Z:ti.zero.length=ti.size)(hz:ti.size≠0):
 ∃z,(∀w,(zeroValue t).run P w= .ok z w)/\z.cells.size=ti.size/\ ∀ok hp,rdl ok hp ti.zero z.cells.toList:=by
 obtain⟨z,G,O,Q,_⟩:=Qrg h Z hz;exact⟨z,G,O,Q⟩
def Bv.appf(E:Bv)(h:Nat->Option Am)(n:Nat):Option Am:=
 match hget E.new n with
 |some e=>some e
 |none=>bif E.kill.contains n then none else h n
def Fr(nx cnt n:Nat):Prop:=nx<=n/\n<nx+cnt
def B6(P:Program)(tm:List (Nat×AV))(h:Nat->Option Am)(nx:Nat)(o:Oper)(r:AV)(E:Bv):Prop:=
 ∀(C:AZ) (S:Ay) (a:Act) (next:Act->World->Prop) (Q:Exit->Act->World->Prop),
  Wf C S->(∀n∈E.use++E.kill,S.h n=h n)->(∀n,Fr nx E.cnt n->S.h n=none)->
  (∀n e,S.h n=some e-> ∀m∈e.2.nms,¬Fr nx E.cnt m)->
  (∀x∈o.op.operands,Aa S (Ap tm x) (a.eval x))->
  (∀v S',Wf C S'->S'.h=E.appf S.h->BE (λm=> ¬Fr nx E.cnt m) S S'->Aa S' r v->next (a.put o.dst v) S'.w)->
  o.wp P a S.w next Q
def LQ(S:Ay)(v:Value):Aa S (kD v) v:=by
 unfold kD
 split<;>simp only[Aa,rd]
 exact .inl ⟨.inl rfl,trivial⟩
def wB(u:List Nat)(h:Nat->Option Am):({use:=u}:Bv).appf h=h:=by
 funext n;simp[Bv.appf,hget]
section
variable {P:Program}{tm:List (Nat×AV)}{h:Nat->Option Am}{nx:Nat}{o:Oper}{r:AV}
def B6.pure{u:List Nat}(O: ∀(C:AZ) (S:Ay) (a:Act),Wf C S->(∀n∈u,S.h n=h n)->(∀x∈o.op.operands,Aa S (Ap tm x) (a.eval x))->
 ∃v,(execOp a.eval o).run P S.w= .ok (.value v) S.w/\Aa S r v):B6 P tm h nx o r {use:=u}:=by
 intro C S a next Q hW Z _ _ z hn
 obtain⟨v,hv,G⟩:=O C S a hW (by simpa using Z) z;unfold Oper.wp;rw[hv,Oper.upon_value];exact hn v S hW (wB u S.h).symm (BE.refl _ _) G
end
abbrev BM(P:Program)(tm:List (Nat×AV))(h:Nat->Option Am)(nx:Nat)(o:Oper)(K:Ah):Prop:= ∃r E,B6 P tm h nx o r E/\K r E
section
variable {P:Program}{tm:List (Nat×AV)}{h:Nat->Option Am}{nx:Nat}{o:Oper}{K:Ah}
def lL{x:Operand}(z:o.op= .move x\/o.op= .assign x)(Q:K (Ap tm x) {}):BM P tm h nx o K:=by
 refine⟨_,_,B6.pure (u:=[]) ?_,Q⟩;intro C S a hW _ G;have O:=G x (by rcases z with z|z<;>rw[z]<;>simp[Op.operands]);refine⟨a.eval x,?_,O⟩;rcases z with z|z<;>simp[execOp,z]
def Un{c x y:Operand}(O:o.op= .pick c x y)(G:yH (Ap tm x) (Ap tm y) K (Ap tm c)):BM P tm h nx o K:=by
 cases hc:Ap tm c<;>rw[hc] at G<;>try exact G.elim
 rename_i d;cases d<;>try exact G.elim
 rename_i b;simp only[yH,Mt] at G;have Z:K (if b then Ap tm x else Ap tm y) {}:=by
  cases b
  .simpa using G.2 rfl
  .simpa using G.1 rfl
 refine⟨_,_,B6.pure (u:=[]) ?_,Z⟩;intro C S a hW _ z;have Q:=z c (by rw[O];simp[Op.operands]);have h2:=z x (by rw[O];simp[Op.operands]);have h3:=z y (by rw[O];simp[Op.operands]);rw[hc] at Q;simp only[Aa,rd] at Q;refine⟨if b then a.eval x else a.eval y,?_,?_⟩
 .simp[execOp,O,Q,asBool]
 .cases b<;>simp_all
def cH{n:Nat}{x:AV}{e:Option Am}(z:QP n x K e):(∃e',e=some e')/\K x {use:=[n]}:=by
 cases e with
 |none=>exact z.elim
 |some e=>exact⟨⟨e,rfl⟩,z⟩
def Qvi{x:Operand}(Q:o.op= .nilCheck x)(O:gY h K (Ap tm x)):BM P tm h nx o K:=by
 cases hx:Ap tm x<;>rw[hx] at O<;>try exact O.elim
 case im d=>
  cases d<;>try exact O.elim
  all_goals
   refine⟨_,_,B6.pure (u:=[]) ?_,O⟩;intro C S a hW _ G;have z:=G x (by rw[Q];simp[Op.operands]);rw[hx] at z;refine⟨_,?_,z⟩;simp only[Aa,rd] at z
   first
    |(obtain⟨b,p,vs,T,fr,z,_⟩:=z;simp[execOp,Q,z];done)
    |(obtain⟨v,z,_⟩:=z;simp[execOp,Q,z])
 case ptr n p=>
  obtain⟨⟨e,Z⟩,O⟩:=cH O;refine⟨_,_,B6.pure (u:=[n]) ?_,O⟩;intro C S a hW hu G;have z:=G x (by rw[Q];simp[Op.operands]);rw[hx] at z;refine⟨_,?_,z⟩;simp only[Aa] at z;obtain⟨l,hl,hv⟩:=z.2 e (by rw[hu n (by simp),Z]);simp[execOp,Q,hv]
 case eptr n i p=>
  obtain⟨⟨e,Z⟩,O⟩:=cH O;refine⟨_,_,B6.pure (u:=[n]) ?_,O⟩;intro C S a hW hu G;have z:=G x (by rw[Q];simp[Op.operands]);rw[hx] at z;refine⟨_,?_,z⟩;simp only[Aa] at z;obtain⟨l,hl,hv⟩:=z.2 e (by rw[hu n (by simp),Z]);simp[execOp,Q,hv]
def Uo{op:UnOp}{T:TypeId}{x:Operand}(Q:o.op= .unOp op T x)(G:Yk K op (Ap tm x)):BM P tm h nx o K:=by
 cases hx:Ap tm x<;>rw[hx] at G<;>cases op<;>try exact G.elim
 all_goals
  rename_i d;cases d<;>try exact G.elim
 all_goals
  refine⟨_,_,B6.pure (u:=[]) ?_,G⟩;intro C S a hW _ z;have O:=z x (by rw[Q];simp[Op.operands]);rw[hx] at O;simp only[Aa,rd] at O;refine⟨_,by simp[execOp,Q,O,Op.unary,Op.intArith];rfl,by simp only[Aa,rd]⟩
def Qyh{x:Operand}{i:Nat}(ho:o.op= .extract x i)(O:gX i K (Ap tm x)):BM P tm h nx o K:=by
 cases hx:Ap tm x<;>rw[hx] at O<;>try exact O.elim
 case im d=>
  cases d<;>try exact O.elim
  rename_i cs;simp only[gX] at O;cases z:cs[i]? with
  |none=>rw[z] at O;exact O.elim
  |some d=>
   rw[z] at O;refine⟨_,_,B6.pure (u:=[]) ?_,O⟩;intro C S a hW _ Q;have G:=Q x (by rw[ho];simp[Op.operands]);rw[hx] at G;simp only[Aa,rd] at G;obtain⟨vs,G,Z⟩:=G;have aa: ∀(i:Nat) (cs:List D) (vs:List Value),rdl S.ok S.hp cs vs->cs[i]? =some d-> ∃v,vs[i]? =some v/\rd S.ok S.hp d v:=by
    intro i;induction i with
    |zero=>
     intro cs vs h z;cases cs with
     |nil=>simp at z
     |cons c cs=>simp at z;subst z;simp only[rdl] at h;obtain⟨v,r,rfl,G,_⟩:=h;exact⟨v,by simp,G⟩
    |succ i ih=>
     intro cs vs h z;cases cs with
     |nil=>simp at z
     |cons c cs=>simp at z;simp only[rdl] at h;obtain⟨v,r,rfl,_,Z⟩:=h;simpa using ih cs r Z z
   obtain⟨v,hv,hd⟩:=aa i cs vs.toList Z z;refine⟨v,?_,by simpa only[Aa] using hd⟩;simp at hv;simp[execOp,ho,G,Instr.extract,hv]
 case tup cs=>
  simp only[gX] at O;cases z:cs[i]? with
  |none=>rw[z] at O;exact O.elim
  |some d=>
   rw[z] at O;refine⟨_,_,B6.pure (u:=[]) ?_,O⟩;intro C S a hW _ Q;have G:=Q x (by rw[ho];simp[Op.operands]);rw[hx] at G;simp only[Aa] at G;obtain⟨vs,G,Z⟩:=G;have aa: ∀(i:Nat) (cs:List AV) (vs:List Value),AN S cs vs->cs[i]? =some d-> ∃v,vs[i]? =some v/\Aa S d v:=by
    intro i;induction i with
    |zero=>
     intro cs vs h z;cases cs with
     |nil=>simp at z
     |cons c cs=>simp at z;subst z;simp only[AN] at h;obtain⟨v,r,rfl,G,_⟩:=h;exact⟨v,by simp,G⟩
    |succ i ih=>
     intro cs vs h z;cases cs with
     |nil=>simp at z
     |cons c cs=>simp at z;simp only[AN] at h;obtain⟨v,r,rfl,_,Z⟩:=h;simpa using ih cs r Z z
   obtain⟨v,hv,hd⟩:=aa i cs vs.toList Z z;refine⟨v,?_,hd⟩;simp at hv;simp[execOp,ho,G,Instr.extract,hv]
def aN{ok:Nat->Prop}{hp:Nat->Option Obj}: ∀(off n:Nat) (ds:List D) (vs:List Value),rdl ok hp ds vs->rdl ok hp ((ds.drop off).take n) ((vs.drop off).take n)
 |0,0,ds,vs,_=>by simp[rdl]
 |0,n+1,[],vs,h=>by
  simp only[rdl] at h;subst h;simp[rdl]
 |0,n+1,d::ds,vs,h=>by
  simp only[rdl] at h;obtain⟨v,r,rfl,G,z⟩:=h
  have:=aN 0 n ds r z
  simp only[Gf] at this⊢;rw[EG,EG];simp only[rdl];exact⟨v,_,rfl,G,this⟩
 |off+1,n,[],vs,h=>by
  simp only[rdl] at h;subst h;simp[rdl]
 |off+1,n,d::ds,vs,h=>by
  simp only[rdl] at h;obtain⟨v,r,rfl,_,z⟩:=h;rw[Lg,Lg];exact aN off n ds r z
def XK{ok:Nat->Prop}{hp:Nat->Option Obj}{d:D}: ∀(i:Nat) (cs:List D) (vs:List Value),rdl ok hp cs vs->cs[i]? =some d-> ∃v,vs[i]? =some v/\rd ok hp d v:=by
 intro i;induction i with
 |zero=>
  intro cs vs h z;cases cs with
  |nil=>simp at z
  |cons c cs=>simp at z;subst z;simp only[rdl] at h;obtain⟨v,r,rfl,G,_⟩:=h;exact⟨v,by simp,G⟩
 |succ i ih=>
  intro cs vs h z;cases cs with
  |nil=>simp at z
  |cons c cs=>simp at z;simp only[rdl] at h;obtain⟨v,r,rfl,_,O⟩:=h;simpa using ih cs r O z
def Pd{U:TypeId}{x:Operand}{f:Nat}(ho:o.op= .field U x f)(z:Ql P (Ap tm x) K (WZ P U f)):BM P tm h nx o K:=by
 cases hF:WZ P U f with
 |none=>rw[hF] at z;exact z.elim
 |some q=>
  obtain⟨t,off⟩:=q;rw[hF] at z;simp only[Ql] at z;cases hT:tI P t with
  |none=>rw[hT] at z;exact z.elim
  |some ti=>
   rw[hT] at z;simp only[Bh] at z;cases hx:Ap tm x<;>rw[hx] at z<;>try exact z.elim
   rename_i d;cases d<;>try exact z.elim
   rename_i cs;simp only[aM] at z;obtain⟨af,z⟩:=z;have ac: ∃Z Q,P.underlying U=some (.struct Z)/\Z[f]? =some Q/\Q.type=t/\Q.offset=off:=by
    unfold WZ at hF;split at hF
    .rename_i Z hu;cases hq:Z[f]? with
     |none=>rw[hq] at hF;cases hF
     |some Q=>
      rw[hq] at hF;simp only[D7,AM,Ea] at hF;exact⟨Z,Q,hu,hq,hF.1,hF.2⟩
    .cases hF
   obtain⟨Z,Q,hu,aa,h4,h5⟩:=ac;obtain⟨ag,u,hi,ab,h1,h2,h3,_,_⟩:=N8 hT;cases ha:ti.agg with
   |true=>
    rw[ha] at z;simp only[Qm,Qk] at z;refine⟨_,_,B6.pure (u:=[]) ?_,z⟩;intro C S a hW _ O;have G:=O x (by rw[ho];simp[Op.operands]);rw[hx] at G;simp only[Aa,rd] at G;obtain⟨vs,G,h7⟩:=G;refine⟨.agg (vs.extract off (off+ti.size)),?_,?_⟩
    .simp[execOp,ho,G,Instr.field,underlying,hu,aa,asAgg,part,isAgg,h4,ab,h5,sizeOf,typeInfo,hi];rw[ha] at h3;cases u<;>first|(simp[NM] at h3;done)|simp[h1]
    .simp only[Aa,rd];refine⟨_,rfl,?_⟩
     have:=aN off ti.size cs vs.toList h7
     simpa using this
   |false=>
    rw[ha] at z;simp only[Qm] at z;cases hc:cs[off]? with
    |none=>rw[hc] at z;exact z.elim
    |some d=>
     rw[hc] at z;simp only[Qk] at z;refine⟨_,_,B6.pure (u:=[]) ?_,z⟩;intro C S a hW _ O;have G:=O x (by rw[ho];simp[Op.operands]);rw[hx] at G;simp only[Aa,rd] at G;obtain⟨vs,G,h7⟩:=G;obtain⟨v,hv,hd⟩:=XK off cs vs.toList h7 hc;refine⟨v,?_,by simpa only[Aa] using hd⟩;simp[execOp,ho,G,Instr.field,underlying,hu,aa,asAgg,part,isAgg,h4,ab,h5];have ad:vs[off]? =some v:=by simpa using hv
     rw[ha] at h3;cases u<;>first|(simp[NM] at h3;done)|simp[ad]
end
section
variable {P:Program}{tm:List (Nat×AV)}{h:Nat->Option Am}{nx:Nat}{o:Oper}{K:Ah}
def bU{T:TypeId}{ti:TI}(Q:tI P T=some ti){w:World}{b p:Nat}{vs:Array Value}{U:TypeId}{fr:Nat×Nat}
 (hb:w.heap[b]? =some (.cells vs U fr))(hn:ti.size<=(vs.toList.drop p).length)(hs:ti.agg=true\/ti.size=1):
 (loadVar T ⟨b,p,none⟩).run P w= .ok (if ti.agg then .agg ((vs.toList.drop p).take ti.size).toArray else ((vs.toList.drop p).take ti.size).headD undef) w:=by
 have G: ∀j v,((vs.toList.drop p).take ti.size)[j]? =some v->w.cell? ((⟨b,p,none⟩:Addr).add j)=some v:=by
  intro j v O;rw[N7,Qyp hb];rw[Zey] at O;split at O
  .rw[W8] at O;simpa using O
  .cases O
 have Z:((vs.toList.drop p).take ti.size).length=ti.size:=by rw[Ck];omega
 have z:=run_loadCells_list (P:=P) w ⟨b,p,none⟩ _ G;rw[Z] at z;unfold loadVar;cases ha:ti.agg with
 |true=>simp[xN Q,ha,I2 Q,z]
 |false=>
  have h1:ti.size=1:=by simpa[ha] using hs
  obtain⟨v,hv⟩: ∃v,(vs.toList.drop p).take ti.size=[v]:=by
   rw[h1] at Z⊢;exact ZdP.1 Z
  have:=G 0 v (by rw[hv];rfl)
  rw[N7] at this;rw[hv];simp[xN Q,ha,run_load];simp at this;rw[this]
def V3{ok:Nat->Prop}{hp:Nat->Option Obj}{ti:TI}{ds:List D}{vs:List Value}(z:rdl ok hp ds vs)(G:ds.length=ti.size)(hs:ti.agg=true\/ti.size=1):
 rd ok hp (Z4 ti.agg ds) (if ti.agg then .agg vs.toArray else vs.headD undef):=by
 cases ha:ti.agg with
 |true=>simp only[Z4,BV,B5,rd];exact⟨_,rfl,z⟩
 |false=>
  have O:ti.size=1:=by simpa[ha] using hs
  rw[O] at G;obtain⟨d,rfl⟩:=ZdP.1 G;simp only[rdl] at z;obtain⟨v,r,rfl,Q,Z⟩:=z;simpa[Z4,jZ] using Q
def oH{S:Ay}{ti:TI}{ds:List AV}{vs:List Value}(z:AN S ds vs)(G:ds.length=ti.size)(hs:ti.agg=true\/ti.size=1):
 Aa S (eQ ti.agg ds) (if ti.agg then .agg vs.toArray else vs.headD undef):=by
 cases ha:ti.agg with
 |true=>
  simp only[eQ,BV,B5];cases hi:Ds ds with
  |none=>simp only[X1,Aa];exact⟨_,rfl,z⟩
  |some Z=>
   simp only[X1,Aa,rd];rw[hZ hi] at z;exact⟨_,rfl,(Ir _ _).1 z⟩
 |false=>
  have O:ti.size=1:=by simpa[ha] using hs
  rw[O] at G;obtain⟨d,rfl⟩:=ZdP.1 G;simp only[AN] at z;obtain⟨v,r,rfl,Q,h5⟩:=z;simpa[eQ,zQ] using Q
def xX{ok:Nat->Prop}{hp:Nat->Option Obj}{k:Nat}: ∀(i:Nat) (rows:List (List D)) (vs:List Value) (row:List D),rdr ok hp k rows vs->rows[i]? =some row->
 row.length=k/\rdp ok hp row (vs.drop (i*k))
 |_,[],_,_,_,z=>by simp at z
 |0,r::G,vs,row,h,z=>by
  simp at z;subst z;simp only[rdr] at h;simpa using ⟨h.1,h.2.1⟩
 |i+1,r::G,vs,row,h,z=>by
  simp only[rdr] at h
  have:=xX i G (vs.drop k) row h.2.2 (by simpa using z)
  rw[DS] at this;rwa [Du,EH,jG]
def Qw7{S:Ay}{k:Nat}: ∀(i:Nat) (rows:List (List AV)) (vs:List Value) (row:List AV),B7 S k rows vs->rows[i]? =some row->
 row.length=k/\Cm S row (vs.drop (i*k))
 |_,[],_,_,_,z=>by simp at z
 |0,r::G,vs,row,h,z=>by
  simp at z;subst z;simp only[B7] at h;simpa using ⟨h.1,h.2.1⟩
 |i+1,r::G,vs,row,h,z=>by
  simp only[B7] at h
  have:=Qw7 i G (vs.drop k) row h.2.2 (by simpa using z)
  rw[DS] at this;rwa [Du,EH,jG]
def Ul{T:TypeId}{x:Operand}(ho:o.op= .load T x)(z:Bh (wY h (Ap tm x) K) (tI P T)):BM P tm h nx o K:=by
 cases hT:tI P T with
 |none=>rw[hT] at z;exact z.elim
 |some ti=>
  rw[hT] at z;simp only[Bh,wY] at z;cases hx:Ap tm x<;>rw[hx] at z<;>try exact z.elim
  case im d=>
   cases d<;>try exact z.elim
   case ref cs=>
    simp only[Wu,cS,Gf,FC] at z;obtain⟨hs,aa,z⟩:=z;refine⟨_,_,B6.pure (u:=[]) ?_,z⟩;intro C S a hW _ G;have Q:=G x (by rw[ho];simp[Op.operands]);rw[hx] at Q;simp only[Aa,rd] at Q;obtain⟨b,p,vs,U,fr,hv,ag,hb,hr⟩:=Q;obtain⟨h2,h3⟩:=UT ti.size cs _ hr aa;refine⟨_,?_,by simp only[Aa];exact V3 h3 (by rw[Ck];omega) hs⟩;simp[execOp,ho,hv,Instr.loadAt,Instr.sureAddr,bU hT hb h2 hs]
   case gp g=>
    simp only[Wu] at z;obtain⟨hg,hz,ha,z⟩:=z;refine⟨_,_,B6.pure (u:=[]) ?_,z⟩;intro C S a hW _ G;have Q:=G x (by rw[ho];simp[Op.operands]);rw[hx] at Q;simp only[Aa,rd] at Q;obtain⟨ag,t2,x2,T2,fr,hb⟩:=hW.gp.at hg;refine⟨.iface t2 x2,?_,by simp only[Aa,rd];exact⟨ag,⟨t2,x2,rfl⟩,T2,fr,hb⟩⟩;have hl:=bU hT (w:=S.w) (p:=0) hb (by simp[hz]) (.inr hz);simp[execOp,ho,Q,Instr.loadAt,Instr.sureAddr,hl,ha,hz]
  case ptr n p=>
   simp only[Wu] at z;cases hn:h n with
   |none=>rw[hn] at z;exact z.elim
   |some e=>
    rw[hn] at z;obtain⟨m,e⟩:=e;cases e<;>try exact z.elim
    case cells U cs=>
     simp only[IS,qL] at z;obtain⟨hs,aa,z⟩:=z;refine⟨_,_,B6.pure (u:=[n]) ?_,z⟩;intro C S a hW hu G;have Q:=G x (by rw[ho];simp[Op.operands]);have Z:S.h n=some (m,.cells U cs):=(hu n (by simp)).trans hn;rw[hx] at Q;simp only[Aa] at Q;obtain⟨l,hl,hv⟩:=Q.2 _ Z;have O:=hW.obj _ _ Z;simp only[An] at O;obtain⟨lc,vs,ab,ah,hb,ad⟩:=O;rw[hl] at ab;obtain rfl:=AB ab;have h2:=gT p cs _ (VW _ _ ad) (by omega);obtain⟨h3,h4⟩:=VV ti.size _ _ h2 (by rw[C6];omega);refine⟨_,?_,oH h4 (by rw[Ck,C6];omega) hs⟩;simp[execOp,ho,hv,ah,Instr.loadAt,Instr.sureAddr,bU hT hb h3 hs]
    case view cs=>
     simp only[IS,cS] at z;obtain⟨hs,aa,z⟩:=z;refine⟨_,_,B6.pure (u:=[n]) ?_,z⟩;intro C S a hW hu G;have Q:=G x (by rw[ho];simp[Op.operands]);have Z:S.h n=some (m,.view cs):=(hu n (by simp)).trans hn;rw[hx] at Q;simp only[Aa] at Q;obtain⟨l,hl,hv⟩:=Q.2 _ Z;have O:=hW.obj _ _ Z;simp only[An] at O;obtain⟨lc,vs,U,fr,ab,hb,ad⟩:=O;rw[hl] at ab;obtain rfl:=AB ab;have h2:=P4 p _ _ ad (by omega);obtain⟨h3,h4⟩:=UT ti.size _ _ h2 (by rw[C6];omega);rw[DS] at h3 h4;refine⟨_,?_,by simp only[Aa];exact V3 h4 (by rw[Ck,C6];omega) hs⟩;simp[execOp,ho,hv,Instr.loadAt,Instr.sureAddr,bU hT hb h3 hs]
  case eptr n i p=>
   simp only[Wu] at z;cases hn:h n with
   |none=>rw[hn] at z;exact z.elim
   |some e=>
    rw[hn] at z;obtain⟨m,e⟩:=e;cases e<;>try exact z.elim
    case arr U k rows=>
     simp only[IR,Jx,cS] at z;obtain⟨hi,z⟩:=z;obtain⟨hs,aa,z⟩:=z rows[i] (B2 hi);refine⟨_,_,B6.pure (u:=[n]) ?_,z⟩;intro C S a hW hu G;have Q:=G x (by rw[ho];simp[Op.operands]);have Z:S.h n=some (m,.arr U k rows):=(hu n (by simp)).trans hn;rw[hx] at Q;simp only[Aa] at Q;obtain⟨l,hl,hv⟩:=Q.2 _ Z;have O:=hW.obj _ _ Z;rw[hl] at O;simp only[An] at O;obtain⟨_,af,vs,hb,aj,hr⟩:=O;obtain⟨ai,ac⟩:=xX i rows _ _ hr (B2 hi);have h2:=P4 p _ _ ac (by omega);obtain⟨h3,h4⟩:=UT ti.size _ _ h2 (by rw[C6];omega);rw[DS,DS,<-FA] at h3 h4;refine⟨_,?_,by simp only[Aa];exact V3 h4 (by rw[Ck,C6];omega) hs⟩;simp only[Ac.esz] at hv;simp[execOp,ho,hv,Instr.loadAt,Instr.sureAddr,bU hT hb h3 hs]
    case arrA U k rows=>
     simp only[IR,Jx,qL] at z;obtain⟨hi,z⟩:=z;obtain⟨hs,aa,z⟩:=z rows[i] (B2 hi);refine⟨_,_,B6.pure (u:=[n]) ?_,z⟩;intro C S a hW hu G;have Q:=G x (by rw[ho];simp[Op.operands]);have Z:S.h n=some (m,.arrA U k rows):=(hu n (by simp)).trans hn;rw[hx] at Q;simp only[Aa] at Q;obtain⟨l,hl,hv⟩:=Q.2 _ Z;have O:=hW.obj _ _ Z;rw[hl] at O;simp only[An] at O;obtain⟨_,af,vs,hb,aj,hr⟩:=O;obtain⟨ai,ac⟩:=Qw7 i rows _ _ hr (B2 hi);have h2:=gT p _ _ ac (by omega);obtain⟨h3,h4⟩:=VV ti.size _ _ h2 (by rw[C6];omega);rw[DS,DS,<-FA] at h3 h4;refine⟨_,?_,oH h4 (by rw[Ck,C6];omega) hs⟩;simp only[Ac.esz] at hv;simp[execOp,ho,hv,Instr.loadAt,Instr.sureAddr,bU hT hb h3 hs]
def uQ{u:TypeDesc}(P:Program):(∃z:Array Field,u= .struct z/\(z.toList.all λf=>(P.info? f.type).isSome)=true/\
 Fo P u= .struct (z.toList.map λf=>(f.offset,((P.info? f.type).map (·.size)).getD 0)))\/
 (∃z,u= .struct z/\Fo P u= .other)\/(∀z,u≠ .struct z):=by
 cases u<;>try (right;right;intro f hf;cases hf;done)
 rename_i z;cases hh:(z.toList.all λf=>(P.info? f.type).isSome) with
 |true=>left;exact⟨z,rfl,hh,by simp only[Fo,hh,BV]⟩
 |false=>right;left;exact⟨z,rfl,by simp only[Fo,hh,Bs]⟩
def Qut{T:TypeId}{ti:TI}(hT:tI P T=some ti){fs:List (Nat×Nat)}(hf:ti.kind= .struct fs):
 ∃z,P.underlying T=some (.struct z)/\(z.toList.all λf=>(P.info? f.type).isSome)=true/\fs=z.toList.map λf=>(f.offset,((P.info? f.type).map (·.size)).getD 0):=by
 obtain⟨i,u,hi,hu,h1,h2,h3,G,h5⟩:=N8 hT;rw[hf] at G;rcases uQ P (u:=u) with ⟨z,rfl,O,Q⟩|⟨z,rfl,Q⟩|Z
 .rw[Q] at G;exact⟨z,hu,O,by simpa using G⟩
 .rw[Q] at G;cases G
 .cases u<;>simp only[Fo,reduceCtorEq] at G;exact absurd rfl (Z _)
def YQ(u:TypeDesc):TK->Prop
 | .int k=>u= .int k
 | .str=>u= .string
 | .bool=>u= .bool
 | .ptr e=>u= .pointer e
 |_=>True
def Pq(P:Program)(u:TypeDesc):YQ u (Fo P u):=by
 cases u<;>try (simp only[Fo,YQ];done)
 rename_i z;cases hh:(z.toList.all λf=>(P.info? f.type).isSome)<;>simp only[Fo,hh,BV,Bs,YQ]
def wV{T:TypeId}{ti:TI}(G:tI P T=some ti): ∃u,P.underlying T=some u/\YQ u ti.kind:=by
 obtain⟨i,u,hi,O,Q,Z,h3,z,h5⟩:=N8 G;exact⟨u,O,z▸Pq P u⟩
def U1{T:TypeId}{ti:TI}(G:tI P T=some ti){k:IntKind}(hf:ti.kind= .int k):P.underlying T=some (.int k):=by
 obtain⟨u,O,z⟩:=wV G;rw[hf] at z;simp only[YQ] at z;rw[O,z]
def Qh{T:TypeId}{ti:TI}(G:tI P T=some ti)(hf:ti.kind= .str):P.underlying T=some .string:=by
 obtain⟨u,O,z⟩:=wV G;rw[hf] at z;simp only[YQ] at z;rw[O,z]
def Yr{T:TypeId}{ti:TI}(G:tI P T=some ti)(hf:ti.kind= .bool):P.underlying T=some .bool:=by
 obtain⟨u,O,z⟩:=wV G;rw[hf] at z;simp only[YQ] at z;rw[O,z]
def gJ{T e:TypeId}{ti:TI}(G:tI P T=some ti)(hf:ti.kind= .ptr e):P.underlying T=some (.pointer e):=by
 obtain⟨u,O,z⟩:=wV G;rw[hf] at z;simp only[YQ] at z;rw[O,z]
def Qjn{T:TypeId}{ti:TI}(hT:tI P T=some ti){fs:List (Nat×Nat)}(hf:ti.kind= .struct fs){f off sz:Nat}(G:fs[f]? =some (off,sz))(Q:sz≠0)
 (w:World)(b p:Nat):(Instr.fieldAt T (.pointer (some ⟨b,p,none⟩)) f).run P w= .ok (.pointer (some ⟨b,p+off,none⟩)) w:=by
 obtain⟨z,hu,_,rfl⟩:=Qut hT hf;rw[Dt] at G;cases hfe:z.toList[f]? with
 |none=>rw[hfe] at G;simp at G
 |some Z=>
  rw[hfe] at G;simp only[D7,AM,Ea] at G;obtain⟨rfl,rfl⟩:=G;have O:z[f]? =some Z:=by simpa using hfe
  cases hin:P.info? Z.type with
  |none=>rw[hin] at Q;simp at Q
  |some aa=>
   rw[hin] at Q;simp only[D7,AT] at Q;simp[Instr.fieldAt,underlying,hu,O,Instr.sureAddr,fieldPlace,sizeOf,typeInfo,hin,Q,N7]
def Qsq{T:TypeId}{x:Operand}{f:Nat}(Z:o.op= .fieldAddr T x f)(z:Bh (uN h (Ap tm x) f K) (tI P T)):BM P tm h nx o K:=by
 cases hT:tI P T with
 |none=>rw[hT] at z;exact z.elim
 |some ti=>
  rw[hT] at z;simp only[Bh,uN] at z;cases hf:ti.kind<;>rw[hf] at z<;>try exact z.elim
  rename_i fs;simp only[faK] at z;cases hi:fs[f]? with
  |none=>rw[hi] at z;exact z.elim
  |some q=>
   obtain⟨off,sz⟩:=q;rw[hi] at z;simp only[WX] at z;obtain⟨hz,z⟩:=z;cases hx:Ap tm x<;>rw[hx] at z<;>try exact z.elim
   case im d=>
    cases d<;>try exact z.elim
    rename_i cs;simp only[K0] at z;obtain⟨aa,z⟩:=z;refine⟨_,_,B6.pure (u:=[]) ?_,z⟩;intro C S a hW _ G;have O:=G x (by rw[Z];simp[Op.operands]);rw[hx] at O;simp only[Aa,rd] at O;obtain⟨b,p,vs,U,fr,hv,ab,hb,hr⟩:=O;refine⟨_,by simp[execOp,Z,hv,Qjn hT hf hi hz];rfl,?_⟩;simp only[Aa,rd]
    have:=P4 off _ _ hr aa
    rw[DS] at this;exact⟨b,p+off,vs,U,fr,rfl,ab,hb,this⟩
   case ptr n p=>
    simp only[K0] at z;obtain⟨⟨e,he⟩,z⟩:=cH z;refine⟨_,_,B6.pure (u:=[n]) ?_,z⟩;intro C S a hW hu G;have O:=G x (by rw[Z];simp[Op.operands]);rw[hx] at O;simp only[Aa] at O;have hS:S.h n=some e:=(hu n (by simp)).trans he;obtain⟨l,hl,hv⟩:=O.2 e hS;refine⟨_,by simp[execOp,Z,hv,Qjn hT hf hi hz];rfl,?_⟩;simp only[Aa];refine⟨rfl,λe' Q=>⟨l,hl,by rw[FA]⟩⟩
   case eptr n i p=>
    simp only[K0] at z;obtain⟨⟨e,he⟩,z⟩:=cH z;refine⟨_,_,B6.pure (u:=[n]) ?_,z⟩;intro C S a hW hu G;have O:=G x (by rw[Z];simp[Op.operands]);rw[hx] at O;simp only[Aa] at O;have hS:S.h n=some e:=(hu n (by simp)).trans he;obtain⟨l,hl,hv⟩:=O.2 e hS;refine⟨_,by simp[execOp,Z,hv,Qjn hT hf hi hz];rfl,?_⟩;simp only[Aa];refine⟨rfl,λe' Q=>⟨l,hl,?_⟩⟩;rw[hS] at Q;obtain rfl:=AB Q;rw[FA]
def P3{T:TypeId}{ti:TI}(hT:tI P T=some ti){e:TypeId}(hf:ti.kind= .slice e):P.underlying T=some (.slice e):=by
 obtain⟨i,u,hi,hu,h1,h2,h3,G,h5⟩:=N8 hT;rw[hf] at G;rcases uQ P (u:=u) with ⟨z,rfl,Z,O⟩|⟨z,rfl,O⟩|Q
 .rw[O] at G;cases G
 .rw[O] at G;cases G
 cases u<;>simp only[Fo,TK.slice.injEq,reduceCtorEq] at G;rotate_left
 .exact absurd rfl (Q _)
 rw[G];exact hu
def Qs2{T:TypeId}{ti:TI}(hT:tI P T=some ti){n:Nat}{e:TypeId}(hf:ti.kind= .array n e):P.underlying T=some (.array n e):=by
 obtain⟨i,u,hi,hu,h1,h2,h3,G,h5⟩:=N8 hT;rw[hf] at G;rcases uQ P (u:=u) with ⟨z,rfl,Z,O⟩|⟨z,rfl,O⟩|Q
 .rw[O] at G;cases G
 .rw[O] at G;cases G
 cases u<;>simp only[Fo,TK.array.injEq,reduceCtorEq] at G;rotate_left
 .exact absurd rfl (Q _)
 obtain⟨rfl,rfl⟩:=G;exact hu
def iW{T:TypeId}{ti:TI}(hT:tI P T=some ti){n:TypeId}{e:TypeId}(hf:ti.kind= .map n e):P.underlying T=some (.map n e):=by
 obtain⟨i,u,hi,hu,h1,h2,h3,G,h5⟩:=N8 hT;rw[hf] at G;rcases uQ P (u:=u) with ⟨z,rfl,Z,O⟩|⟨z,rfl,O⟩|Q
 .rw[O] at G;cases G
 .rw[O] at G;cases G
 cases u<;>simp only[Fo,TK.map.injEq,reduceCtorEq] at G;rotate_left
 .exact absurd rfl (Q _)
 obtain⟨rfl,rfl⟩:=G;exact hu
def Qsk{T:TypeId}{x i:Operand}(ho:o.op= .indexAddr T x i)(z:Bh (uG P h (Ap tm x) (Ap tm i) K) (tI P T)):BM P tm h nx o K:=by
 cases hT:tI P T with
 |none=>rw[hT] at z;exact z.elim
 |some ti=>
  rw[hT] at z;simp only[Bh,uG] at z;cases hi:Ap tm i<;>rw[hi] at z<;>try exact z.elim
  rename_i d;cases d<;>try exact z.elim
  rename_i ik n;simp only[Qjp] at z;cases hf:ti.kind<;>rw[hf] at z<;>try exact z.elim
  case slice e=>
   have O:=P3 hT hf;simp only[sQ] at z;cases hE:tI P e with
   |none=>rw[hE] at z;exact z.elim
   |some te=>
    rw[hE] at z;simp only[Bh,Sb] at z;cases hx:Ap tm x<;>rw[hx] at z<;>try exact z.elim
    case im d=>
     cases d<;>try exact z.elim
     rename_i nz k rows;obtain⟨ad,h0,hn,z⟩:=z;have ag:n.toNat<rows.length:=by omega
     have z:=z rows[n.toNat] (B2 ag);refine⟨_,_,B6.pure (u:=[]) ?_,z⟩;intro C S a hW _ G;have Q:=G x (by rw[ho];simp[Op.operands]);have Z:=G i (by rw[ho];simp[Op.operands]);rw[hx] at Q;rw[hi] at Z;simp only[Aa,rd] at Q Z;rcases Q with ⟨_,ak⟩|⟨b,p,cap,vs,U,fr,hv,_,_,_,ai,hb,hr⟩
     .rw[ak] at ag;simp at ag
     obtain⟨am,aa⟩:=xX n.toNat rows _ _ hr (B2 ag);rw[DS] at aa;refine⟨.pointer (some ⟨b,p+n.toNat*k,none⟩),?_,?_⟩
     .simp[execOp,ho,Z,hv,Instr.indexAt,asIntOf,underlying,O,h0,hn,I2 hE,N7,ad]
     .simp only[Aa,rd];exact⟨b,_,vs,U,fr,rfl,ai,hb,aa⟩
    case own m=>
     change LK m n K te (h m) at z;cases hm:h m with
     |none=>rw[hm] at z;exact z.elim
     |some q=>
      rw[hm] at z;obtain⟨mu,q⟩:=q;have aj: ∃k len,q.esz=k/\q.len=len/\k=te.size/\0<=n/\n<(len:Int)/\K (.eptr m n.toNat 0) {use:=[m]}:=by
       cases q<;>try exact z.elim
       all_goals exact⟨_,_,rfl,rfl,z⟩
      obtain⟨k,len,ac,af,ad,h0,hn,z⟩:=aj;refine⟨_,_,B6.pure (u:=[m]) ?_,z⟩;intro C S a hW hu G;have Q:=G x (by rw[ho];simp[Op.operands]);have Z:=G i (by rw[ho];simp[Op.operands]);rw[hx] at Q;rw[hi] at Z;have hS:S.h m=some (mu,q):=(hu m (by simp)).trans hm;simp only[Aa,rd] at Q Z;have h3:=Q.2 _ hS;cases hl:S.ρ m with
      |none=>
       exfalso;have ah:=hW.obj _ _ hS;rw[hl] at ah
       have:q.len=0:=by
        cases q<;>simp only[An] at ah<;>simp[Ac.len]<;>(try exact ah.2)
       omega
      |some l=>
       rw[hl] at h3;simp only at h3;refine⟨.pointer (some ⟨l.b,l.p+n.toNat*k,none⟩),?_,?_⟩
       .rw[af] at h3;simp[execOp,ho,Z,h3,Instr.indexAt,asIntOf,underlying,O,h0,hn,I2 hE,N7,ad]
       .simp only[Aa];refine⟨rfl,λe' ab=>⟨l,hl,?_⟩⟩;rw[hS] at ab;obtain rfl:=AB ab;simp[ac]
    case osl m a len=>
     change Sc m a len n K te (h m) at z;cases hm:h m with
     |none=>rw[hm] at z;exact z.elim
     |some q=>
      rw[hm] at z;obtain⟨mu,q⟩:=q;have aj: ∃k,q.esz=k/\k=te.size/\0<=n/\n<(len:Int)/\K (.eptr m (a+n.toNat) 0) {use:=[m]}:=by
       cases q<;>try exact z.elim
       exact⟨_,rfl,z.1,z.2.1,z.2.2.1,z.2.2.2.2⟩
      obtain⟨k,ac,ad,h0,hn,z⟩:=aj;refine⟨_,_,B6.pure (u:=[m]) ?_,z⟩;intro C S _ hW hu G;have Q:=G x (by rw[ho];simp[Op.operands]);have Z:=G i (by rw[ho];simp[Op.operands]);rw[hx] at Q;rw[hi] at Z;have hS:S.h m=some (mu,q):=(hu m (by simp)).trans hm;simp only[Aa,rd] at Q Z;have h3:=Q.2 _ hS;cases hl:S.ρ m with
      |none=>
       rw[hl] at h3
       have:=h3.2
       omega
      |some l=>
       rw[hl] at h3;obtain⟨p,cp,hv,hc,hp,_⟩:=h3;obtain rfl:p=l.p+a*q.esz:=hp (by omega);have e:l.p+a*q.esz+n.toNat*te.size=l.p+(a+n.toNat)*k:=by rw[ac,ad,Du,FA]
       refine⟨.pointer (some ⟨l.b,l.p+(a+n.toNat)*k,none⟩),?_,?_⟩
       .simp[execOp,ho,Z,hv,Instr.indexAt,asIntOf,underlying,O,h0,hn,I2 hE,N7,e]
       .simp only[Aa];refine⟨rfl,λe' ab=>⟨l,hl,?_⟩⟩;rw[hS] at ab;obtain rfl:=AB ab;simp[ac]
  case array m e=>
   have O:=Qs2 hT hf;simp only[sQ] at z;cases hE:tI P e with
   |none=>rw[hE] at z;exact z.elim
   |some te=>
    rw[hE] at z;simp only[Bh,LJ] at z;cases hx:Ap tm x<;>rw[hx] at z<;>try exact z.elim
    case im d=>
     cases d<;>try exact z.elim
     rename_i cs;obtain⟨h0,hn,af,z⟩:=z;refine⟨_,_,B6.pure (u:=[]) ?_,z⟩;intro C S a hW _ G;have Q:=G x (by rw[ho];simp[Op.operands]);have Z:=G i (by rw[ho];simp[Op.operands]);rw[hx] at Q;rw[hi] at Z;simp only[Aa,rd] at Q Z;obtain⟨b,p,vs,U,fr,hv,ai,hb,hr⟩:=Q;have aa:=P4 (n.toNat*te.size) _ _ hr af;rw[DS] at aa;refine⟨.pointer (some ⟨b,p+n.toNat*te.size,none⟩),?_,?_⟩
     .simp[execOp,ho,Z,hv,Instr.indexAt,asIntOf,underlying,O,h0,hn,I2 hE,N7,Instr.sureAddr]
     .simp only[Aa,rd];exact⟨b,_,vs,U,fr,rfl,ai,hb,aa⟩
    case ptr q p=>
     obtain⟨h0,hn,z⟩:=z;obtain⟨⟨e',ab⟩,z⟩:=cH z;refine⟨_,_,B6.pure (u:=[q]) ?_,z⟩;intro C S a hW hu G;have Q:=G x (by rw[ho];simp[Op.operands]);have Z:=G i (by rw[ho];simp[Op.operands]);rw[hx] at Q;rw[hi] at Z;have hS:S.h q=some e':=(hu q (by simp)).trans ab;simp only[Aa,rd] at Q Z;obtain⟨l,hl,hv⟩:=Q.2 _ hS;refine⟨.pointer (some ⟨l.b,l.p+p+n.toNat*te.size,none⟩),?_,?_⟩
     .simp[execOp,ho,Z,hv,Instr.indexAt,asIntOf,underlying,O,h0,hn,I2 hE,N7,Instr.sureAddr]
     .simp only[Aa];exact⟨rfl,λ_ _=>⟨l,hl,by rw[FA]⟩⟩
end
def Ay.ice(S:Ay)(X:Nat->Bool):Ay:=⟨S.ρ,λb=>S.ok b\/ ∃o e l,X o=false/\S.h o=some e/\e.2.isView=false/\S.ρ o=some l/\l.b=b,λo=>(S.h o).map λe=>(e.1 && X o,e.2),S.w⟩
def US{S:Ay}{X:Nat->Bool}{o:Nat}{e':Am}(h:(S.ice X).h o=some e'): ∃e,S.h o=some e/\e'=(e.1 && X o,e.2):=by
 simp only[Ay.ice,Dl] at h;obtain⟨e,z,rfl⟩:=h;exact⟨e,z,rfl⟩
def Hc(S:Ay)(X:Nat->Bool):BE (λ_=>True) S (S.ice X):=by
 refine⟨λb G=>⟨.inl G,rfl⟩,?_⟩;intro o _ e' z;obtain⟨e,O,rfl⟩:=US z;exact⟨e,O,rfl,rfl,rfl⟩
def UZ{C:AZ}{S:Ay}{X:Nat->Bool}(hW:Wf C S):Wf C (S.ice X):=by
 have hp:=Hc S X;refine⟨hW.os,hW.tape,hW.output,hW.dr,hW.size,hW.keep,λb O=> .inl (hW.ok0 b O),?_,?_,?_,?_,?_,hW.gl⟩
 .rintro b (O|⟨o,e,l,_,Q,hv,Z,rfl⟩)
  .exact hW.ok1 b O
  .obtain⟨_,z⟩:=hW.loc o e l Q Z;cases hm:e.1 with
   |false=>rw[hm,hv] at z;exact hW.ok1 _ (by simpa using z)
   |true=>
    rw[hm] at z;simp only[B5] at z;exact .inr z.2
 .rintro b (O|⟨o,e,l,_,Q,_,Z,rfl⟩)
  .exact hW.oks b O
  .exact (hW.loc o e l Q Z).1
 .intro o e' G;obtain⟨e,Q,rfl⟩:=US G;exact Hd hp (λ_ _=>rfl) _ (λ_ _=>trivial) (hW.obj o e Q)
 .intro o e' l G Z;obtain⟨e,Q,rfl⟩:=US G;obtain⟨h1,z⟩:=hW.loc o e l Q Z;refine⟨h1,?_⟩;cases hX:X o with
  |false=>
   simp only[Zn,CQ,CA];cases hv:e.2.isView with
   |true=>exact .inr rfl
   |false=>exact .inl (.inr ⟨o,e,l,hX,Q,hv,Z,rfl⟩)
  |true=>
   cases hm:e.1 with
   |false=>
    rw[hm] at z;simp only[FP,CQ,CA] at z⊢;exact z.imp .inl id
   |true=>
    rw[hm] at z;simp only[dT,B5] at z⊢;refine⟨?_,z.2⟩;rintro (O|⟨o',e',l',ab,G,_,aa,O⟩)
    .exact z.1 O
    .have:=hW.inj o' o e' e l' l G Q aa Z O (by simp[hm])
     subst this;rw[hX] at ab;cases ab
 .intro o o' e1 e2 l l' h1 z Z aa O ac;obtain⟨e,Q,q1⟩:=US h1;obtain⟨e',G,q2⟩:=US z;refine hW.inj o o' e e' l l' Q G Z aa O ?_;subst q1 q2;simp only[H8,AW] at ac⊢;exact ac.imp And.left And.left
def iT{C:AZ}{S:Ay}(hW:Wf C S){X:Nat->Bool}{o:Nat}{e:Am}{l:F2}(Q:X o=false)(Z:(S.ice X).h o=some e)(hv:e.2.isView=false)(hl:(S.ice X).ρ o=some l):(S.ice X).ok l.b:=by
 obtain⟨z,G,O⟩:=US Z;subst O;exact .inr ⟨o,z,l,Q,G,hv,hl,rfl⟩
def Sd{S:Ay}{F:Ao}{u:List Nat}(z: ∀n e,(n,e)∈F-> ∃mu,S.h n=some (mu,e.2)/\e.1=false):
 (S.ice λn=> !(F.map (·.1)).contains n).h=({use:=u,kill:=F.map (·.1),new:=F}:Bv).appf S.h:=by
 funext n;have Q: ∀(G:Ao) (e:Am),hget G n=some e->(n,e)∈G:=by
  intro G;induction G with
  |nil=>intro e h;simp[hget] at h
  |cons p G ih=>
   intro e h;obtain⟨q,y⟩:=p;simp only[hget] at h;cases hq:q==n<;>rw[hq] at h
   .exact BK _ (ih e (by simpa using h))
   .have:q=n:=by simpa using hq
    subst this;simp only[BV,AM] at h;subst h;simp
 have O: ∀(G:Ao),hget G n=none->n∉G.map (·.1):=by
  intro G;induction G with
  |nil=>intro _;simp
  |cons p G ih=>
   intro h;obtain⟨q,y⟩:=p;simp only[hget] at h;cases hq:q==n<;>rw[hq] at h
   .have:q≠n:=by simpa using hq
    simp only[Bb,Bt,not_or];exact⟨λh'=>this h'.symm,ih (by simpa using h)⟩
   .simp at h
 simp only[Bv.appf,Ay.ice];cases hg:hget F n with
 |some e=>
  have Z:=Q F e hg;obtain⟨mu,q1,q2⟩:=z n e Z;rw[q1]
  have:n∈F.map (·.1):=Bn.2 ⟨_,Z,rfl⟩
  rw[IC.2 this];obtain⟨e1,e2⟩:=e;simp only at q2;simp[q2]
 |none=>
  have hc:(F.map (·.1)).contains n=false:=by
   rw[PJ];intro h';exact O F hg (IC.1 h')
  rw[hc];simp only[Bs,W6,Ep];cases S.h n with
  |none=>rfl
  |some e=>rfl
section
variable {P:Program}{tm:List (Nat×AV)}{h:Nat->Option Am}{nx:Nat}{o:Oper}{K:Ah}
def Pe{T:TypeId}{x i:Operand}(ho:o.op= .index T x i)(z:Bh (wJ P (Ap tm x) (Ap tm i) K) (tI P T)):BM P tm h nx o K:=by
 cases hT:tI P T with
 |none=>rw[hT] at z;exact z.elim
 |some ti=>
  rw[hT] at z;simp only[Bh,wJ] at z;cases hi:Ap tm i<;>rw[hi] at z<;>try exact z.elim
  rename_i d;cases d<;>try exact z.elim
  rename_i ik n;simp only[Qxc] at z;cases hx:Ap tm x
  all_goals rw[hx] at z
  case im d=>
   cases d<;>(try (exfalso;generalize ti.kind=kk at z;cases kk<;>exact z))
   case str s=>
    have ac:ti.kind= .str/\0<=n/\n<(s.size:Int)/\ZO s n.toNat (kCh K):=by generalize ti.kind=kk at z;cases kk<;>first|exact z.elim|exact⟨rfl,z⟩
    obtain⟨ad,h0,hn,z⟩:=ac;have Q:n.toNat<s.data.size:=by show n.toNat<s.size;omega
    have O:P.underlying T=some .string:=Qh hT ad;refine⟨_,_,B6.pure (u:=[]) ?_,z s.data[n.toNat] (by simp)⟩;intro C S a hW _ G;have h1:=G x (by rw[ho];simp[Op.operands]);have Z:=G i (by rw[ho];simp[Op.operands]);rw[hx] at h1;rw[hi] at Z;simp only[Aa,rd] at h1 Z;have ab:n.toNat<s.size:=Q;refine⟨.int .u8 (s.data[n.toNat].toNat),?_,by simp only[Aa,rd]⟩;simp[execOp,ho,Z,h1,Instr.index,asIntOf,underlying,O,h0,ab];rfl
   case agg cs=>
    cases hf:ti.kind<;>rw[hf] at z<;>try exact z.elim
    rename_i m e;have O:=Qs2 hT hf;simp only[zS] at z;cases hE:tI P e with
    |none=>rw[hE] at z;exact z.elim
    |some te=>
     rw[hE] at z;simp only[Bh,Sl] at z;obtain⟨hs,h0,hn,af,z⟩:=z;refine⟨_,_,B6.pure (u:=[]) ?_,z⟩;intro C S a hW _ G;have h1:=G x (by rw[ho];simp[Op.operands]);have Z:=G i (by rw[ho];simp[Op.operands]);rw[hx] at h1;rw[hi] at Z;simp only[Aa,rd] at h1 Z;obtain⟨vs,hv,hr⟩:=h1;have h3:=P4 (n.toNat*te.size) _ _ (Wk _ _ hr) (by omega);obtain⟨h4,h5⟩:=UT te.size _ _ h3 (by rw[C6];omega);refine⟨_,?_,by simp only[Aa];exact V3 h5 (by rw[Ck,C6];omega) hs⟩;cases ha:te.agg with
     |true=>
      simp[execOp,ho,Z,hv,Instr.index,asIntOf,underlying,O,h0,hn,I2 hE,part,xN hE,ha];apply Zl;simp[List.take_drop,jG]
     |false=>
      have aa:te.size=1:=by simpa[ha] using hs
      have Q:n.toNat*1<vs.toList.length:=by rw[aa,C6] at h4;omega
      have hget:vs[n.toNat*te.size]? =some (vs.toList[n.toNat*1]):=by
       rw[aa];rw[<-Kk,B2 Q]
      simp only[execOp,ho,Z,hv,Instr.index,asIntOf];simp[underlying,O,h0,hn,I2 hE,part,xN hE,ha,hget];rw[aa];simp at Q;simp[List.head?_take,List.head?_drop,Q]
  all_goals (exfalso;generalize ti.kind=kk at z;cases kk<;>exact z)
def Qwv{O T:TypeId}{x:Operand}(ho:o.op= .convert O T x)(z:pD (PW (tI P T)) (Ap tm x) K (tI P O)):BM P tm h nx o K:=by
 cases hS:tI P O with
 |none=>rw[hS] at z;exact z.elim
 |some si=>
 rw[hS] at z;simp only[pD] at z;have Z:(P.underlying O).isSome:=by
  obtain⟨i,u,hi,hu,_⟩:=N8 hS;rw[hu];rfl
 cases hT:tI P T with
 |none=>rw[hT] at z;exact z.elim
 |some ti=>
  rw[hT] at z;simp only[PW] at z;cases hf:ti.kind<;>rw[hf] at z<;>try exact z.elim
  rename_i k;cases hx:Ap tm x<;>rw[hx] at z<;>try exact z.elim
  rename_i d;cases d<;>try exact z.elim
  rename_i k0 n;simp only[KJ] at z;have hu:=U1 hT hf;obtain⟨u0,aa⟩:=ZeF.1 Z;refine⟨_,_,B6.pure (u:=[]) ?_,z⟩;intro C S a hW _ G;have Q:=G x (by rw[ho];simp[Op.operands]);rw[hx] at Q;simp only[Aa,rd] at Q;refine⟨.int k (k.wrap n),?_,by simp only[Aa,rd]⟩;simp only[execOp,ho,Q];simp only[convert,Sem.run_bind];simp[underlying,aa,hu,Conv.intToInt]
def Qh1{f:FuncId}(O:f<1000000000){first capt:Array Operand}(Q:o.op= .makeFunc (.func f) first capt)(hk:K (.clo f (D8 tm first.toList) (D8 tm capt.toList)) {}):BM P tm h nx o K:=by
 refine⟨_,_,B6.pure (u:=[]) ?_,hk⟩;intro C S a hW _ z;have G: ∀(l:List Operand),(∀x∈l,Aa S (Ap tm x) (a.eval x))->AN S (D8 tm l) (l.map a.eval):=by
  intro l;induction l with
  |nil=>intro _;simp[D8,AN]
  |cons x l ih=>
   intro hl;simp only[D8,AN,Bb];exact⟨_,_,rfl,hl x (by simp),ih (λy hy=>hl y (by simp[hy]))⟩
 refine⟨.func (Xa f) (first.map a.eval) (capt.map a.eval),by rw[cT O];simp[execOp,Q,Instr.makeFunc],?_⟩;simp only[Aa];refine⟨_,_,rfl,?_,?_⟩
 .rw[Vq];exact G _ (λx Z=>z x (by rw[Q];simp[Op.operands];exact .inl (by simpa using Z)))
 .rw[Vq];exact G _ (λx Z=>z x (by rw[Q];simp[Op.operands];exact .inr (by simpa using Z)))
def wN{S:Ay}: ∀(z:List AV) (ds:List D) (vs:List Value),Ds z=some ds->AN S z vs->rdl S.ok S.hp ds vs
 |[],ds,vs,h,G=>by
  simp only[Ds,AM] at h;subst h;simpa only[rdl,AN] using G
 |y::z,ds,vs,h,G=>by
  simp only[Ds] at h;simp only[AN] at G;obtain⟨v,r,rfl,Q,Z⟩:=G;cases hy:y.asD with
  |none=>rw[hy] at h;simp[NB] at h
  |some d=>
   cases hys:Ds z with
   |none=>rw[hy,hys] at h;simp[NB] at h
   |some O=>
    rw[hy,hys] at h;simp only[NB,AM] at h;subst h;cases y<;>simp only[AV.asD,reduceCtorEq] at hy;obtain rfl:=AB hy;simp only[rdl];exact⟨v,r,rfl,by simpa only[Aa] using Q,wN z O r hys Z⟩
def xH{ok:Nat->Prop}{hp:Nat->Option Obj}: ∀(ds:List D) (vs:List Value),rdl ok hp ds vs->rdp ok hp ds vs
 |[],_,_=>by simp only[rdp]
 |d::ds,vs,h=>by
  simp only[rdl,rdp] at h⊢;obtain⟨v,r,rfl,z,G⟩:=h;exact⟨v,r,rfl,z,xH ds r G⟩
def Qrs{C:AZ}{S:Ay}(hW:Wf C S){h:Nat->Option Am}: ∀(xs:List AV) (ds:List D) (E:Ao) (vs:List Value),Oe h xs=some (ds,E)->(∀n∈hnm E,S.h n=h n)->AN S xs vs->
 (∀n e,(n,e)∈E-> ∃Z,S.h n=some (Z,e.2)/\e.1=false)/\ ∀X:Nat->Bool,(∀n∈hnm E,X n=false)->rdl (S.ice X).ok (S.ice X).hp ds vs
 |[],ds,E,vs,G,_,hc=>by
  simp only[Oe,AM,Ea] at G;obtain⟨rfl,rfl⟩:=G;exact⟨(λn e z=>by cases z),(λX _=>by simpa only[rdl,AN] using hc)⟩
 |x::xs,ds,E,vs,G,hu,hc=>by
  simp only[Oe] at G;simp only[AN] at hc;obtain⟨v,r,rfl,hx,af⟩:=hc;cases hd:HJ h x with
  |none=>rw[hd] at G;simp[Ro] at G
  |some dE=>
   obtain⟨d,E1⟩:=dE;cases hl:Oe h xs with
   |none=>rw[hd,hl] at G;simp[Ro] at G
   |some q=>
    obtain⟨ad,E2⟩:=q;rw[hd,hl] at G;simp only[Ro,AM,Ea] at G;obtain⟨rfl,rfl⟩:=G;have Q: ∀(a b:Ao),hnm (a++b)=hnm a++hnm b:=by
     intro a b;induction a with
     |nil=>rfl
     |cons p a ih=>obtain⟨n,e⟩:=p;simp only[BG,hnm,ih]
    rw[Q] at hu;obtain⟨i1,i2⟩:=Qrs hW xs ad E2 r hl (λn hn=>hu n (QG _ hn)) af;have ac:(∀n e,(n,e)∈E1-> ∃Z,S.h n=some (Z,e.2)/\e.1=false)/\ ∀X:Nat->Bool,(∀n∈hnm E1,X n=false)->rd (S.ice X).ok (S.ice X).hp d v:=by
     cases x<;>try (simp[HJ] at hd;done)
     case im d'=>
      simp only[HJ,AM,Ea] at hd;obtain⟨rfl,rfl⟩:=hd;refine⟨(λn e z=>by cases z),(λX _=> ?_)⟩;simp only[Aa] at hx;exact GI (Hc S X).ok _ _ hx
     case ptr o p=>
      cases p with
      |succ p=>simp[HJ] at hd
      |zero=>
       simp only[HJ] at hd;cases ho:h o with
       |none=>rw[ho] at hd;simp[Rp] at hd
       |some e=>
        obtain⟨Z,e⟩:=e;rw[ho] at hd;cases e<;>simp only[Rp,reduceCtorEq] at hd;rename_i T cs;cases ha:Ds cs with
        |none=>rw[ha] at hd;simp[Rq] at hd
        |some es=>
         rw[ha] at hd;simp only[Rq,AM,Ea] at hd;obtain⟨rfl,rfl⟩:=hd;have O:S.h o=some (Z,.cells T cs):=(hu o (by simp[hnm])).trans ho;refine⟨?_,?_⟩
         .intro n e z;simp only[BL,Ea] at z;obtain⟨rfl,rfl⟩:=z;exact⟨Z,O,rfl⟩
         .intro X hX;have ab:=hW.obj o _ O;simp only[An] at ab;obtain⟨lc,vs,g1,g2,g3,g4⟩:=ab;simp only[Aa] at hx;obtain⟨l,aa,hv⟩:=hx.2 _ O;rw[g1] at aa;obtain rfl:=AB aa;simp only[rd];refine⟨lc.b,lc.p+0,vs,_,_,hv,.inr ⟨o,_,lc,hX o (by simp[hnm]),O,rfl,g1,rfl⟩,g3,?_⟩;rw[g2];have g5:=wN (S:=S) cs es vs.toList ha g4;have g6:=KU (Hc S X).ok es _ g5;simpa using xH es _ g6
    refine⟨?_,?_⟩
    .intro n e z;rcases Bz.1 z with z|z
     .exact ac.1 n e z
     .exact i1 n e z
    .intro X hX;rw[Q] at hX;simp only[rdl];exact⟨v,r,rfl,ac.2 X (λn hn=>hX n (Ki _ hn)),i2 X (λn hn=>hX n (QG _ hn))⟩
def LI: ∀{E:Ao} {n:Nat},(hget E n=none->n∉hnm E)/\ ∀e,hget E n=some e->(n,e)∈E
 |[],n=>⟨λ_=>by simp[hnm],λe h=>by simp[hget] at h⟩
 |(q,x)::E,n=>by
  obtain⟨O,Q⟩:= @LI E n;simp only[hget,hnm];cases hq:q==n
  .have z:q≠n:=by simpa using hq
   refine⟨λh=> ?_,λe h=> ?_⟩
   .simp only[Bt,not_or];exact⟨λh'=>z h'.symm,O (by simpa using h)⟩
   .exact BK _ (Q e (by simpa using h))
  .have G:q=n:=by simpa using hq
   refine⟨λh=>by simp at h,λe h=> ?_⟩;simp only[BV,AM] at h;subst h;subst G;simp
def Yc{f:FuncId}(aa:f<1000000000){first capt:Array Operand}(ho:o.op= .makeFunc (.func f) first capt)
 (z:Nr f (D8 tm first.toList) (D8 tm capt.toList) K (Oe h (D8 tm first.toList)) (Oe h (D8 tm capt.toList))):BM P tm h nx o K:=by
 cases h1:Oe h (D8 tm first.toList) with
 |none=>rw[h1] at z;exact Qh1 aa ho z
 |some q1=>
  cases h2:Oe h (D8 tm capt.toList) with
  |none=>rw[h1,h2] at z;exact Qh1 aa ho z
  |some q2=>
   obtain⟨a,E⟩:=q1;obtain⟨b,F⟩:=q2;rw[h1,h2] at z;simp only[Nr] at z;have Z:K (.im (.fn f a b)) {use:=hnm (E++F),kill:=hnm (E++F),new:=E++F}->BM P tm h nx o K:=by
    intro z;refine⟨_,_,?_,z⟩;intro C S ac next Q hW hu an am ab hn
    have ad: ∀(l:List Operand),(∀x∈l,Aa S (Ap tm x) (ac.eval x))->AN S (D8 tm l) (l.map ac.eval):=by
     intro l;induction l with
     |nil=>intro _;simp[D8,AN]
     |cons x l ih=>
      intro hl;simp only[D8,AN,Bb];exact⟨_,_,rfl,hl x (by simp),ih (λy hy=>hl y (by simp[hy]))⟩
    have O: ∀(a b:Ao),hnm (a++b)=hnm a++hnm b:=by
     intro a b;induction a with
     |nil=>rfl
     |cons p a ih=>obtain⟨n,e⟩:=p;simp only[BG,hnm,ih]
    have ai: ∀n∈hnm (E++F),S.h n=h n:=λn hn=>hu n (by simpa using hn)
    have c1:=ad first.toList (λx hx=>ab x (by rw[ho];simp[Op.operands];exact .inl (by simpa using hx)))
    have c2:=ad capt.toList (λx hx=>ab x (by rw[ho];simp[Op.operands];exact .inr (by simpa using hx)));obtain⟨s1,s2⟩:=Qrs hW _ a E _ h1 (λn hn=>ai n (by rw[O];exact Ki _ hn)) c1;obtain⟨t1,t2⟩:=Qrs hW _ b F _ h2 (λn hn=>ai n (by rw[O];exact QG _ hn)) c2
    let X:Nat->Bool:=λn=> !(hnm (E++F)).contains n
    have hX: ∀n∈hnm (E++F),X n=false:=by
     intro n hn;simp only[X,IC.2 hn,jE]
    have af: ∀n e,(n,e)∈E++F-> ∃mu,S.h n=some (mu,e.2)/\e.1=false:=by
     intro n e he;rcases Bz.1 he with he|he
     .exact s1 n e he
     .exact t1 n e he
    have ag:(S.ice X).h=({use:=hnm (E++F),kill:=hnm (E++F),new:=E++F}:Bv).appf S.h:=by
     funext n;simp only[Bv.appf,Ay.ice];obtain⟨g1,g2⟩:= @LI (E++F) n;cases hg:hget (E++F) n with
     |some e=>
      have hm:=g2 e hg;obtain⟨mu,q1,q2⟩:=af n e hm;rw[q1];simp only[D7]
      have:n∈hnm (E++F):=by
       have: ∀(G:Ao),(n,e)∈G->n∈hnm G:=by
        intro G;induction G with
        |nil=>intro h;cases h
        |cons p G ih=>
         intro h;rcases Bt.1 h with h'|h'
         .subst h';simp[hnm]
         .obtain⟨q,y⟩:=p;simp only[hnm,Bt];exact .inr (ih h')
       exact this _ hm
      rw[hX n this];obtain⟨e1,e2⟩:=e;simp only at q2;simp[q2]
     |none=>
      have ak:=g1 hg;have hc:(hnm (E++F)).contains n=false:=by
       rw[PJ];intro h';exact ak (IC.1 h')
      rw[hc];simp only[Bs];have aj:X n=true:=by simp only[X,hc,W6]
      cases S.h n with
      |none=>rfl
      |some e=>simp[aj]
    unfold Oper.wp;have ah:(execOp ac.eval o).run P S.w= .ok (.value (.func (Xa f) (first.map ac.eval) (capt.map ac.eval))) S.w:=by rw[cT aa];simp[execOp,ho,Instr.makeFunc]
    rw[ah,Oper.upon_value];refine hn _ (S.ice X) (UZ hW) ag ?_ ?_
    .have:=Hc S X
     exact⟨this.ok,λo _=>this.nm o trivial⟩
    .simp only[Aa,rd];refine⟨_,_,rfl,?_,?_⟩
     .rw[Vq];exact s2 X (λn hn=>hX n (by rw[O];exact Ki _ hn))
     .rw[Vq];exact t2 X (λn hn=>hX n (by rw[O];exact QG _ hn))
   cases hEF:E++F with
   |nil=>
    rw[hEF] at z Z;exact Z z
   |cons e r=>
    rw[hEF] at z Z;simp only[yE] at z;rcases z with z|z
    .exact Z z
    .exact Qh1 aa ho z
def Qj2(op:BinOp)(t:TypeId)(x y:Operand)(k k':IntKind)(a b:Int)(w:World):(eqGuard op t x y (.int k a) (.int k' b)).run P w= .ok () w:=by
 cases op<;>simp[eqGuard]
def Qn0(op:BinOp)(t:TypeId)(x y:Operand)(a b:ByteArray)(w:World):(eqGuard op t x y (.string a) (.string b)).run P w= .ok () w:=by
 cases op<;>simp[eqGuard]
def Qwl(op:BinOp)(t:TypeId)(x y:Operand)(a b:Bool)(w:World):(eqGuard op t x y (.bool a) (.bool b)).run P w= .ok () w:=by
 cases op<;>simp[eqGuard]
def sB(a b:Int):(a==b)=decide (a=b):=by
 by_cases h:a=b<;>simp[h]
def Ye{op:BinOp}{T U:TypeId}{x y:Operand}{k:IntKind}{a b:Int}(ho:o.op= .binOp op T x y U)(hx:Ap tm x= .im (.int k a))(hy:Ap tm y= .im (.int k b))
 (z:I5 op k a b K):BM P tm h nx o K:=by
 have Q: ∀n,(∀w,(binOp op T (.int k a) (.int k b)).run P w= .ok (.int k n) w)->K (.im (.int k n)) {}->BM P tm h nx o K:=by
  intro n Z z;refine⟨_,_,B6.pure (u:=[]) ?_,z⟩;intro C S ac hW _ G;have h1:=G x (by rw[ho];simp[Op.operands]);have h2:=G y (by rw[ho];simp[Op.operands]);rw[hx] at h1;rw[hy] at h2;simp only[Aa,rd] at h1 h2;refine⟨.int k n,?_,by simp only[Aa,rd]⟩;simp[execOp,ho,h1,h2,Qj2,Z]
 have O: ∀n,(∀w,(binOp op T (.int k a) (.int k b)).run P w= .ok (.bool n) w)->K (.im (.bool n)) {}->BM P tm h nx o K:=by
  intro n Z z;refine⟨_,_,B6.pure (u:=[]) ?_,z⟩;intro C S ac hW _ G;have h1:=G x (by rw[ho];simp[Op.operands]);have h2:=G y (by rw[ho];simp[Op.operands]);rw[hx] at h1;rw[hy] at h2;simp only[Aa,rd] at h1 h2;refine⟨.bool n,?_,by simp only[Aa,rd]⟩;simp[execOp,ho,h1,h2,Qj2,Z]
 cases op<;>simp only[I5] at z<;>try exact z.elim
 case quo=>exact Q _ (λw=>by simp[binOp,Op.intDiv,z.1]) z.2
 case rem=>exact Q _ (λw=>by simp[binOp,Op.intDiv,z.1]) z.2
 case eql=>exact O _ (λw=>by simp[binOp,Op.intCmp,sB]) z
 case neq=>exact O _ (λw=>by simp[binOp,Op.intCmp,bne,sB]) z
 case lss=>exact O _ (λw=>by simp[binOp,Op.intCmp]) z
 case leq=>exact O _ (λw=>by simp[binOp,Op.intCmp]) z
 case gtr=>exact O _ (λw=>by simp[binOp,Op.intCmp]) z
 case geq=>exact O _ (λw=>by simp[binOp,Op.intCmp]) z
 case and=>exact Q _ (λw=>by simp[binOp,Op.intBits,W9]) z
 case or=>exact Q _ (λw=>by simp[binOp,Op.intBits,orI]) z
 case xor=>exact Q _ (λw=>by simp[binOp,Op.intBits,tW]) z
 all_goals exact Q _ (λw=>by simp[binOp,Op.intArith]) z
def Uk{op:BinOp}{T U:TypeId}{x y:Operand}{k k':IntKind}{a b:Int}(Z:o.op= .binOp op T x y U)(hx:Ap tm x= .im (.int k a))(hy:Ap tm y= .im (.int k' b))
 (z:YP op k a k' b K (GF op)):BM P tm h nx o K:=by
 have O: ∀n,(∀w,(binOp op T (.int k a) (.int k' b)).run P w= .ok (.int k n) w)->K (.im (.int k n)) {}->BM P tm h nx o K:=by
  intro n Q z;refine⟨_,_,B6.pure (u:=[]) ?_,z⟩;intro C S ac hW _ G;have h1:=G x (by rw[Z];simp[Op.operands]);have h2:=G y (by rw[Z];simp[Op.operands]);rw[hx] at h1;rw[hy] at h2;simp only[Aa,rd] at h1 h2;refine⟨.int k n,?_,by simp only[Aa,rd]⟩;simp[execOp,Z,h1,h2,Qj2,Q]
 cases op
 case shr=>
  simp only[GF,YP] at z;exact O _ (λw=>by simp[binOp,Op.shift,Int.not_lt.2 z.1]) z.2
 case shl=>
  simp only[GF,YP] at z;exact O _ (λw=>by simp[binOp,Op.shift,Int.not_lt.2 z.1]) z.2
 all_goals
  simp only[GF,YP] at z;obtain⟨rfl,z⟩:=z;exact Ye Z hx hy z
def Qmj(s:ByteArray):s.toList=s.data.toList:=by
 have G: ∀(n i:Nat) (r:List UInt8),s.size - i=n->ByteArray.toList.loop s i r=r.reverse++s.data.toList.drop i:=by
  intro n;induction n with
  |zero=>
   intro i r h;unfold ByteArray.toList.loop;rw[Af (by omega),DB (by show s.data.toList.length<=i;simp;show s.size<=i;omega)];simp
  |succ n ih=>
   intro i r h;unfold ByteArray.toList.loop;rw[Ai (by omega),ih (i+1) _ (by omega)];have z:i<s.data.toList.length:=by simp;show i<s.size;omega
   rw[Vh z];simp[ByteArray.get!]
   have:i<s.data.size:=by simpa using z
   exact getElem!_pos s.data i this
 have:=G _ 0 [] rfl
 simpa[ByteArray.toList] using this
def Qry(a b:ByteArray):(a.toList==b.toList)=decide (a=b):=by
 rw[Qmj,Qmj];by_cases h:a=b
 .subst h;simp
 .have:a.data≠b.data:=by
   intro h';apply h;cases a;cases b;simp at h';rw[h']
  simp[h,this]
def Yi{op:BinOp}{T U:TypeId}{x y:Operand}{a b:ByteArray}(ho:o.op= .binOp op T x y U)(hx:Ap tm x= .im (.str a))(hy:Ap tm y= .im (.str b))
 (Q:Nu op a b K):BM P tm h nx o K:=by
 have aa: ∀n,(∀w,(binOp op T (.string a) (.string b)).run P w= .ok (.bool n) w)->K (.im (.bool n)) {}->BM P tm h nx o K:=by
  intro n G Q;refine⟨_,_,B6.pure (u:=[]) ?_,Q⟩;intro C S ac hW _ z;have Z:=z x (by rw[ho];simp[Op.operands]);have O:=z y (by rw[ho];simp[Op.operands]);rw[hx] at Z;rw[hy] at O;simp only[Aa,rd] at Z O;refine⟨.bool n,?_,by simp only[Aa,rd]⟩;simp[execOp,ho,Z,O,Qn0,G]
 cases op<;>simp only[Nu] at Q<;>try exact Q.elim
 case eql=>exact aa _ (λw=>by simp[binOp,Op.stringOp,Qry]) Q
 case neq=>exact aa _ (λw=>by simp[binOp,Op.stringOp,Qry]) Q
 case add=>
  refine⟨_,_,B6.pure (u:=[]) ?_,Q.2⟩;intro C S ac hW _ z;have Z:=z x (by rw[ho];simp[Op.operands]);have O:=z y (by rw[ho];simp[Op.operands]);rw[hx] at Z;rw[hy] at O;simp only[Aa,rd] at Z O;refine⟨.string (a++b),?_,by simp only[Aa,rd]⟩;have ab: ¬(((a.size+b.size:Nat):Int)>IntKind.i64.max):=by
   have:=Q.1
   have O:IntKind.i64.max=9223372036854775807:=by decide
   rw[O];omega
  have G: ∀w,(binOp .add T (.string a) (.string b)).run P w= .ok (.string (a++b)) w:=by
   intro w;simp only[binOp,Op.stringOp];rw[Sem.run_ite,Af ab,Sem.run_pure]
  simp[execOp,ho,Z,O,Qn0,G]
def Qmu{T:TypeId}(z:P.underlying T=some .bool)(d:Nat)(a b:Bool)(w:World):(Op.equalIn (d+1) T (.bool a) (.bool b)).run P w= .ok (a==b) w:=by
 simp[Op.equalIn,underlying,z]
def Ya{op:BinOp}{T U:TypeId}{x y:Operand}{a b:Bool}(ho:o.op= .binOp op T x y U)(hT:P.underlying T=some .bool)(hx:Ap tm x= .im (.bool a))(hy:Ap tm y= .im (.bool b))
 (G:Jj op a b K):BM P tm h nx o K:=by
 have O: ∀n,(∀w,(binOp op T (.bool a) (.bool b)).run P w= .ok (.bool n) w)->K (.im (.bool n)) {}->BM P tm h nx o K:=by
  intro n Q G;refine⟨_,_,B6.pure (u:=[]) ?_,G⟩;intro C S ac hW _ z;have Z:=z x (by rw[ho];simp[Op.operands]);have h2:=z y (by rw[ho];simp[Op.operands]);rw[hx] at Z;rw[hy] at h2;simp only[Aa,rd] at Z h2;refine⟨.bool n,?_,by simp only[Aa,rd]⟩;simp[execOp,ho,Z,h2,Qwl,Q]
 cases op<;>simp only[Jj] at G<;>try exact G.elim
 case eql=>exact O _ (λw=>by simp[binOp,Op.equal,Op.maxDepth,Qmu hT 9999]) G
 case neq=>exact O _ (λw=>by simp[binOp,Op.equal,Op.maxDepth,Qmu hT 9999,bne]) G
end
def Ay.one(S:Ay)(m:Nat)(e:Ac)(l:Option F2)(ks:List Nat)(w':World):Ay:=
 ⟨λn=>if n=m then l else S.ρ n,S.ok,λn=>if n=m then some (true,e) else if n∈ks then none else S.h n,w'⟩
structure Kb(S:Ay)(m:Nat)(e:Ac)(l:Option F2)(ks:List Nat)(w':World):Prop where
 os:w'.os=S.w.os
 tape:w'.tape=S.w.tape
 output:w'.output=S.w.output
 dr:S.w.drawn<=w'.drawn
 size:S.w.heap.size<=w'.heap.size
 keep: ∀b,b<S.w.heap.size->(∀n f lo,n∈ks->S.h n=some (true,f)->S.ρ n=some lo->lo.b≠b)->w'.heap[b]? =S.w.heap[b]?
 name:m∈ks\/S.h m=none
 loc: ∀lo,l=some lo->lo.b<w'.heap.size/\(S.w.heap.size<=lo.b\/ ∃n f lo',n∈ks/\S.h n=some (true,f)/\S.ρ n=some lo'/\lo'.b=lo.b)
 shape: ∀f,S.h m=some f->l=S.ρ m/\e.esz=f.2.esz/\e.len=f.2.len
 nms: ∀n f,S.h n=some f->S.h m=none->m∉f.2.nms
def gW{C:AZ}{S:Ay}{m:Nat}{e:Ac}{l:Option F2}{ks:List Nat}{w':World}(hW:Wf C S)(h:Kb S m e l ks w'):
 BE (λn=>S.h m≠none\/n≠m) S (S.one m e l ks w'):=by
 refine⟨λb O=>⟨O,?_⟩,?_⟩
 .refine h.keep b (hW.oks b O) ?_;intro n f lo _ hn hl Q
  have:=(hW.loc n _ lo hn hl).2
  simp only[B5] at this;exact this.1 (Q▸O)
 .intro n hX e' z;simp only[Ay.one] at z⊢;by_cases hnm:n=m
  .subst hnm;rw[Ai rfl] at z⊢;obtain rfl:=AB z;have Z:S.h n≠none:=by rcases hX with G|G;exact G;exact absurd rfl G
   obtain⟨f,hf⟩:=Option.ne_none_iff_exists'.1 Z;obtain⟨G,h2,h3⟩:=h.shape f hf;exact⟨f,hf,G,h2,h3⟩
  .rw[Af hnm] at z⊢;split at z
   .cases z
   .exact⟨e',z,rfl,rfl,rfl⟩
def pU{C:AZ}{S:Ay}{m:Nat}{e:Ac}{l:Option F2}{ks:List Nat}{w':World}(hW:Wf C S)(h:Kb S m e l ks w')
 (ak:An (S.one m e l ks w') l e):Wf C (S.one m e l ks w'):=by
 have hp:=gW hW h;have ah: ∀n f lo Q,n≠m->n∉ks->S.h n=some f->S.ρ n=some lo->l=some Q->Q.b≠lo.b:=by
  intro n f lo Q hnm Z hn hl G hb;rcases (h.loc Q G).2 with h1|⟨n2,f2,ad,ag,ac,aa,af⟩
  .have:=(hW.loc n f lo hn hl).1;omega
  .have:=hW.inj n2 n _ _ ad lo ac hn aa hl (by omega) (by simp)
   subst this;exact Z ag
 refine⟨h.os.trans hW.os,h.tape.trans hW.tape,h.output.trans hW.output,CD hW.dr h.dr,CD hW.size h.size,?_,hW.ok0,hW.ok1,λb hb=>Fx (hW.oks b hb) h.size,?_,?_,?_,hW.gl⟩
 .intro b hb hM;refine (h.keep b (Fx hb hW.size) ?_).trans (hW.keep b hb hM);intro n f lo _ hn hl am
  have:=(hW.loc n _ lo hn hl).2
  simp only[B5] at this;rcases this.2 with h1|h1
  .omega
  .exact hM (am▸h1)
 .intro n f hf;simp only[Ay.one] at hf;by_cases hnm:n=m
  .subst hnm;rw[Ai rfl] at hf;obtain rfl:=AB hf;simpa[Ay.one] using ak
  .rw[Af hnm] at hf;split at hf
   .cases hf
   .rename_i Z;have ho:=hW.obj n f hf;have hr:(S.one m e l ks w').ρ n=S.ρ n:=by simp[Ay.one,hnm]
    rw[hr];refine Hd hp ?_ _ ?_ ho
    .intro lc ai;refine h.keep lc.b (hW.loc n f lc hf ai).1 ?_;intro n2 f2 ad ag ac aa af
     have:=hW.inj n2 n _ _ ad lc ac hf aa ai af (by simp)
     subst this;exact Z ag
    .intro x hx;by_cases aj:S.h m=none
     .right;intro aq;subst aq;exact h.nms n f hf aj hx
     .exact .inl aj
 .intro n f lo hf ab;simp only[Ay.one] at hf ab⊢;by_cases hnm:n=m
  .subst hnm;rw[Ai rfl] at hf ab;obtain rfl:=AB hf;obtain⟨h1,h2⟩:=h.loc lo ab;refine⟨h1,?_⟩;simp only[B5];rcases h2 with h2|⟨n2,f2,ad,ag,ac,aa,af⟩
   .exact⟨λao=>by have:=hW.oks _ ao;omega,.inl (CD hW.size h2)⟩
   .have:=(hW.loc n2 _ ad ac aa).2
    simp only[B5] at this;rw[af] at this;exact this
  .rw[Af hnm] at hf ab;split at hf
   .cases hf
   .have:=hW.loc n f lo hf ab
    exact⟨Fx this.1 h.size,this.2⟩
 .intro n n' f f' lo Q hf z hl G hb an;simp only[Ay.one] at hf z hl G;by_cases hnm:n=m<;>by_cases O:n'=m
  .rw[hnm,O]
  .rw[Ai hnm] at hf hl;rw[Af O] at z G;split at z
   .cases z
   .rename_i Z;exact absurd hb (ah n' f' Q lo O Z z G hl)
  .rw[Af hnm] at hf hl;rw[Ai O] at z G;split at hf
   .cases hf
   .rename_i Z;exact absurd hb.symm (ah n f lo Q hnm Z hf hl G)
  .rw[Af hnm] at hf hl;rw[Af O] at z G;split at hf
   .cases hf
   .split at z
    .cases z
    .exact hW.inj n n' f f' lo Q hf z hl G hb an
section
variable {P:Program}{tm:List (Nat×AV)}{h:Nat->Option Am}{nx:Nat}{o:Oper}{r:AV}
def B6.one{u ks:List Nat}{m cnt:Nat}{e:Ac}(hm:(cnt=1/\m=nx)\/(cnt=0/\m∈ks/\h m≠none))
 (hr: ∀(C:AZ) (S:Ay) (a:Act),Wf C S->(∀n∈u++ks,S.h n=h n)->(cnt=1->S.h nx=none)->(∀n f,S.h n=some f->cnt=1->nx∉f.2.nms)->
  (∀x∈o.op.operands,Aa S (Ap tm x) (a.eval x))->
  ∃v w' l,((execOp a.eval o).run P S.w= .ok (.value v) w'\/((execOp a.eval o).run P S.w= .ok .skip w'/\v=undef))/\Kb S m e l ks w'/\
   (BE (λn=>S.h m≠none\/n≠m) S (S.one m e l ks w')->An (S.one m e l ks w') l e/\Aa (S.one m e l ks w') r v)):
 B6 P tm h nx o r {use:=u,kill:=ks,new:=[(m,(true,e))],cnt:=cnt}:=by
 intro C S a next Q hW hu ad hnm ab hn
 obtain⟨v,w',l,z,G,ac⟩:=hr C S a hW hu (λO=>ad nx ⟨AP _,by rw[O];exact Nat.lt_succ_self nx⟩)
  (λn f hf O af=>hnm n f hf nx af ⟨AP _,by rw[O];exact Nat.lt_succ_self nx⟩) ab
 have hp:=gW hW G;obtain⟨aa,O⟩:=ac hp;have Z:=pU hW G aa;have hh:(S.one m e l ks w').h=({use:=u,kill:=ks,new:=[(m,(true,e))],cnt:=cnt}:Bv).appf S.h:=by
  funext n;simp only[Ay.one,Bv.appf,hget];by_cases hnm:n=m
  .subst hnm;simp
  .have:(m==n)=false:=by
    rw[HE];exact λh=>hnm h.symm
   simp[this,hnm]
 have hp':BE (λn=> ¬Fr nx cnt n) S (S.one m e l ks w'):=by
  refine⟨hp.ok,λn hX=>hp.nm n ?_⟩;rcases hm with ⟨aj,ak⟩|⟨ai,ah,ag⟩
  .right;intro hnm;exact hX ⟨by omega,by omega⟩
  .left;rw[hu m (by simp[ah])];exact ag
 unfold Oper.wp;rcases z with z|⟨z,rfl⟩
 .rw[z,Oper.upon_value];exact hn v _ Z hh hp' O
 .rw[z,Oper.upon_skip];exact hn undef _ Z hh hp' O
end
def UY{S:Ay}{nx:Nat}{e:Ac}{cap:Nat}{w':World}{ob:Obj}(z:w'.heap=S.w.heap.push ob)
 (ab:w'.os=S.w.os)(G:w'.tape=S.w.tape)(Q:w'.output=S.w.output){ks:List Nat}(hS:S.h nx=none)
 (O: ∀n f,S.h n=some f->nx∉f.2.nms)(Z:S.w.drawn<=w'.drawn:=by first|exact AP _|exact jP _|assumption):Kb S nx e (some ⟨S.w.heap.size,0,cap⟩) ks w':=by
 refine⟨ab,G,Q,Z,by rw[z];simp,?_,.inr hS,?_,?_,λn f hf _=>O n f hf⟩
 .intro b hb _;rw[z,Array.getElem?_push,Af (by omega)]
 .intro lo aa;obtain rfl:=AB aa;refine⟨by rw[z];simp,.inl (AP _)⟩
 .intro f hf;rw[hS] at hf;cases hf
def Ql6{S:Ay}{nx:Nat}{e:Ac}{ks:List Nat}(O:S.h nx=none)
 (z: ∀n f,S.h n=some f->nx∉f.2.nms):Kb S nx e none ks S.w:=by
 refine⟨rfl,rfl,rfl,AP _,AP _,λ_ _ _=>rfl,.inr O,?_,?_,λn f hf _=>z n f hf⟩
 .intro lo G;cases G
 .intro f hf;rw[O] at hf;cases hf
def cN{C:AZ}{S:Ay}(hW:Wf C S){m:Nat}{f e:Ac}{l:F2}{w':World}{ob:Obj}(hm:S.h m=some (true,f))(hl:S.ρ m=some l)
 (z:w'.heap=S.w.heap.setIfInBounds l.b ob)(af:w'.os=S.w.os)(O:w'.tape=S.w.tape)(aa:w'.output=S.w.output)
 (Q:e.esz=f.esz)(Z:e.len=f.len)(ab:S.w.drawn<=w'.drawn:=by first|exact AP _|exact jP _|assumption):Kb S m e (some l) [m] w':=by
 refine⟨af,O,aa,ab,by rw[z];simp,?_,.inl (by simp),?_,?_,?_⟩
 .intro b hb ad
  have:=ad m f l (by simp) hm hl
  rw[z,dO];rw[Af this]
 .intro lo ac;obtain rfl:=AB ac;exact⟨by rw[z];simpa using (hW.loc m _ _ hm hl).1,.inr ⟨m,f,l,by simp,hm,hl,rfl⟩⟩
 .intro g hg;rw[hm] at hg;obtain rfl:=AB hg;exact⟨hl.symm,Q,Z⟩
 .intro n g _ G;rw[hm] at G;cases G
def YU{S:Ay}{nx:Nat}{e:Ac}{l:Option F2}{ks:List Nat}{w':World}{ob:Obj}(z:w'.heap=S.w.heap.push ob):
 (S.one nx e l ks w').hp S.w.heap.size=some ob:=by
 simp[Ay.hp,Ay.one,z]
section
variable {P:Program}{tm:List (Nat×AV)}{h:Nat->Option Am}{nx:Nat}{o:Oper}{K:Ah}
def Qqf{T:TypeId}{cs:List AV}(G:(C:AZ)->(S:Ay)->(a:Act)->Wf C S->(∀x∈o.op.operands,Aa S (Ap tm x) (a.eval x))->
 ∃z:Array Value,(execOp a.eval o).run P S.w= .ok (.value (.pointer (some ⟨S.w.heap.size,0,none⟩))) (S.w.alloc (.cells z T))/\AN S cs z.toList)
 (hb: ∀m∈Aw cs,m≠nx):B6 P tm h nx o (.ptr nx 0) {new:=[(nx,(true,.cells T cs))],cnt:=1}:=by
 refine B6.one (u:=[]) (ks:=[]) (.inl ⟨rfl,rfl⟩) ?_;intro C S a hW _ Z hnm aa;obtain⟨z,O,Q⟩:=G C S a hW aa;refine⟨_,_,some ⟨S.w.heap.size,0,0⟩,.inl O,UY (w':=S.w.alloc (.cells z T)) (ob:= .cells z T) rfl rfl rfl rfl (Z rfl) (λn f hf=>hnm n f hf rfl),?_⟩;intro hp;constructor
 .simp only[An];refine⟨_,z,rfl,rfl,YU rfl,UP hp cs _ (λm hm=> .inr (hb m hm)) Q⟩
 .simp only[Aa];refine⟨rfl,λe he=>⟨⟨S.w.heap.size,0,0⟩,by simp[Ay.one],rfl⟩⟩
def Yb{T:TypeId}{x:Operand}(Q:o.op= .box T x)(G:Ur nx T K (Ap tm x).cells)(hb: ∀m∈Aw (Ap tm x).cells,m≠nx):BM P tm h nx o K:=by
 obtain⟨O,G⟩:=G;refine⟨_,_,Qqf ?_ hb,G⟩;intro C S a hW z;have Z:=z x (by rw[Q];simp[Op.operands]);refine⟨(a.eval x).cells,?_,nM (λh=>O (by rw[h];rfl)) Z⟩;simp[execOp,Q,Instr.box,newVar,newRow]
def OX{T:TypeId}(ho:o.op= .alloc T)(G:Bh (xO nx T K) (tI P T)):BM P tm h nx o K:=by
 cases hT:tI P T with
 |none=>rw[hT] at G;exact G.elim
 |some ti=>
  rw[hT] at G;simp only[Bh,xO] at G;obtain⟨hl,hz,G⟩:=G;obtain⟨z,Q,ab,O⟩:=bR hT hl hz;refine⟨_,_,Qqf ?_ ?_,G⟩
  .intro C S a hW aa;refine⟨z.cells,?_,(Ir _ _).2 (O _ _)⟩;simp[execOp,ho,Instr.alloc,Q,newVar,newRow]
  .intro m Z
   have: ∀(l:List D),Aw (l.map AV.im)=[]:=by
    intro l;induction l with
    |nil=>rfl
    |cons x l ih=>simp[Aw,AV.nms,ih]
   rw[this] at Z;cases Z
def Qw0(l:List D):Aw (l.map AV.im)=[]:=by
 induction l with
 |nil=>rfl
 |cons x l ih=>simp[Aw,AV.nms,ih]
def Qyk{T:TypeId}(O:o.op= .makeMap T none)(z:Bh (vJ P nx K) (tI P T)):BM P tm h nx o K:=by
 cases hT:tI P T with
 |none=>rw[hT] at z;exact z.elim
 |some ti=>
 rw[hT] at z;simp only[Bh,vJ] at z;cases hf:ti.kind<;>rw[hf] at z<;>try exact z.elim
 rename_i Z e;simp only[S9] at z;cases hkt:BI P Z with
 |none=>rw[hkt] at z;exact z.elim
 |some kt=>
 rw[hkt] at z;simp only[X2] at z;refine⟨_,_,B6.one (u:=[]) (ks:=[]) (.inl ⟨rfl,rfl⟩) ?_,z⟩;intro C S a hW _ G hnm Q;refine⟨.map (some S.w.heap.size),S.w.alloc (.map #[] 0),some ⟨S.w.heap.size,0,0⟩,.inl ?_,UY (w':=S.w.alloc (.map #[] 0)) (ob:= .map #[] 0) rfl rfl rfl rfl (G rfl) (λn f hf=>hnm n f hf rfl),?_⟩
 .simp[execOp,O,Instr.makeMap]
 intro hp;constructor
 .simp only[An];refine⟨_,#[],0,rfl,by simp,YU rfl,by simp[Cw],by simp,by simp⟩
 .simp only[Aa];exact⟨rfl,λe he=>⟨⟨S.w.heap.size,0,0⟩,by simp[Ay.one],rfl⟩⟩
def Pg{e k:Nat}(z: ∀(S:Ay) (a:Act),(execOp a.eval o).run P S.w= .ok (.value (.slice none 0 0)) S.w)(O:K (.own nx) {new:=[(nx,(true,.arr e k []))],cnt:=1}):BM P tm h nx o K:=by
 refine⟨_,_,B6.one (u:=[]) (ks:=[]) (.inl ⟨rfl,rfl⟩) ?_,O⟩;intro C S a hW _ G hnm Q;refine⟨_,_,none,.inl (z S a),Ql6 (G rfl) (λn f hf=>hnm n f hf rfl),?_⟩;intro hp;constructor
 .simp[An]
 .simp only[Aa];exact⟨rfl,λe Z=>by simp[Ay.one]⟩
def Qabd{x:Operand}(G:o.op= .assign x)(z:vW P tm nx o.type K x):BM P tm h nx o K:=by
 simp only[vW] at z;cases hn':(Wh x && !(o.type==223)) with
 |false=>rw[hn'] at z;exact lL (.inr G) z
 |true=>
  rw[hn'] at z;have hn:Wh x=true:=by
   cases h:Wh x
   .rw[h] at hn';cases hn'
   .rfl
  simp only[vE] at z;have O:x= .const (.slice none 0 0):=by
   cases x<;>simp only[Wh,reduceCtorEq] at hn;rename_i v;unfold Qu at hn;split at hn
   .rfl
   .cases hn
  cases ht:PW (tI P o.type) with
  |none=>rw[ht] at z;exact z.elim
  |some Q=>
   rw[ht] at z;cases Q<;>try exact z.elim
   rename_i e;simp only[Qg6] at z;cases hE:tI P e with
   |none=>rw[hE] at z;exact z.elim
   |some Z=>
    rw[hE] at z;simp only[Bh,Qjk] at z;exact Pg (λS a=>by simp[execOp,G,O,Act.eval]) z
def Qod{α:Type}(l:List α)(off:Nat)(v:α)(xs:List α)(h:off<l.length):BW (l.set off v) (off+1) xs=BW l off (v::xs):=by
 have z:(l.set off v).take (off+1)=l.take off++[v]:=by
  rw[List.take_set,List.set_eq_take_append_cons_drop];rw[Ai (by rw[Ck];omega),List.take_take,rH (by omega),Zff];simp
 have G:(l.set off v).drop (off+1+xs.length)=l.drop (off+1+xs.length):=List.drop_set_of_lt (by omega);simp only[BW,z,G,Dd];rw[show off+1+xs.length=off+(xs.length+1) from by omega];simp
def Qf9{w:World}{b p:Nat}{T:TypeId}: ∀(xs:List Value) (i:Nat) (vs:Array Value),(∀v∈xs,v.oneCell'=true)->p+i+xs.length<=vs.size->
 w.heap[b]? =some (.cells vs T (0,0))-> ∃w',(storeCells ⟨b,p,none⟩ xs i).run P w= .ok () w'/\w'.heap=w.heap.setIfInBounds b (.cells (BW vs.toList (p+i) xs).toArray T (0,0))/\
  w'.os=w.os/\w'.tape=w.tape/\w'.output=w.output/\w.drawn<=w'.drawn:=by
 intro xs;induction xs generalizing w with
 |nil=>
  intro i vs _ _ z;refine⟨w,by simp[storeCells],?_,rfl,rfl,rfl,AP _⟩
  have:(BW vs.toList (p+i) ([]:List Value)).toArray=vs:=by simp[BW]
  rw[this];apply Zev;intro k;rw[dO];split
  .rename_i ad;subst ad;split
   .exact z
   .rename_i ag
    have:b<w.heap.size:=by
     rcases FB b w.heap.size with h|h
     .exact h
     .rw[W7 h] at z;cases z
    exact absurd this ag
  .rfl
 |cons v xs ih=>
  intro i vs O aa z;have G:b<w.heap.size:=by
   rcases FB b w.heap.size with h|h
   .exact h
   .rw[W7 h] at z;cases z
  simp only[Dd] at aa;have Z:w.cell? ⟨b,p+i,none⟩=some (vs[p+i]'(by omega)):=by rw[Qyp z];simp
  have af:w.frozen? ⟨b,p+i,none⟩=false:=by simp[World.frozen?,z]
  have Q:(w.setCell ⟨b,p+i,none⟩ v).heap=w.heap.setIfInBounds b (.cells (vs.setIfInBounds (p+i) v) T (0,0)):=by
   apply Zev;intro k;simp only[World.setCell,ZeO,dO];by_cases hk:b=k
   .subst hk;have ac:w.heap[b]= .cells vs T (0,0):=by simpa[PH G] using z
    simp[G,ac]
   .simp[hk]
  have ab:(w.setCell ⟨b,p+i,none⟩ v).heap[b]? =some (.cells (vs.setIfInBounds (p+i) v) T (0,0)):=by
   rw[Q,dO];simp[G]
  obtain⟨w',h1,h2,h3,h4,h5⟩:=ih (w:=w.setCell ⟨b,p+i,none⟩ v) (i+1) _ (λu hu=>O u (by simp[hu])) (by simp;omega) ab;refine⟨w',?_,?_,h3,h4,h5⟩
  .simp only[storeCells,Sem.run_bind,N7,run_store P w _ v .plain (O v (by simp)),Z,af];simpa using h1
  .rw[h2,Q];apply Zev;intro k;simp only[dO,ZdG];by_cases hk:b=k
   .subst hk;simp only[B5,G];congr 3;rw[Zdv,<-FA];exact Qod _ _ _ _ (by simp;omega)
   .simp[hk]
def gO{S:Ay}: ∀(cs:List AV) (vs:List Value),Q7 cs=true->AN S cs vs-> ∀v∈vs,v.oneCell'=true
 |[],vs,_,h=>by simp only[AN] at h;simp[h]
 |x::cs,vs,G,h=>by
  simp only[Q7,AW] at G;simp only[AN] at h;obtain⟨v,r,rfl,z,Z⟩:=h;intro u O;rcases Bt.1 O with rfl|O
  .cases x<;>simp only[AV.one,CQ,false_and] at G<;>simp only[Aa] at z
   case im d=>
    cases d<;>simp only[D.one,CQ,false_and] at G<;>simp only[rd] at z
    case sl nz k rows=>
     rcases z with ⟨rfl|⟨_,a,rfl⟩,_⟩|⟨b,p,cap,vs,T,Q,rfl,_⟩<;>rfl
    case ref cs=>obtain⟨b,p,vs,T,Q,rfl,_⟩:=z;rfl
    case mp kt es=>obtain⟨b,p,vs,rfl,_⟩:=z;rfl
    case fn f a c=>obtain⟨b,p,rfl,_⟩:=z;rfl
    case ifc t d=>obtain⟨b,rfl,_⟩:=z;rfl
    case tok g=>obtain⟨_,⟨t,x,rfl⟩,_⟩:=z;rfl
    all_goals subst z;rfl
   case clo=>obtain⟨b,p,rfl,_⟩:=z;rfl
   all_goals exact z.1
  .exact gO cs r G.2 Z u O
def Qab4{ok:Nat->Prop}{hp:Nat->Option Obj}: ∀(off:Nat) (ds xs:List D) (vs us:List Value),rdp ok hp ds vs->rdl ok hp xs us->off+xs.length<=ds.length->
 rdp ok hp (BW ds off xs) (BW vs off us):=by
 intro off;induction off with
 |zero=>
  intro ds xs vs us O G z;have hl:=cM _ _ G;simp only[BW,Eo,Dj,FC] at*;rw[hl];have hd:=P4 xs.length ds vs O z;clear z O hl;generalize ds.drop xs.length=ds' at*;generalize vs.drop xs.length=vs' at*;induction xs generalizing us with
  |nil=>simp only[rdl] at G;subst G;simpa using hd
  |cons x xs ih=>
   simp only[rdl] at G;obtain⟨v,r,rfl,Q,Z⟩:=G;simp only[BG,rdp];exact⟨v,_,rfl,Q,ih r Z⟩
 |succ off ih=>
  intro ds xs vs us O G z;cases ds with
  |nil=>simp at z
  |cons d ds=>
   simp only[rdp] at O;obtain⟨v,r,rfl,Q,Z⟩:=O
   have:=ih ds xs r us Z G (by simp only[Dd] at z;omega)
   simp only[BW,EG,BG,Nat.succ_add,Lg,rdp] at this⊢;exact⟨v,_,rfl,Q,this⟩
def Qmv{S:Ay}: ∀(off:Nat) (ds xs:List AV) (vs us:List Value),Cm S ds vs->AN S xs us->off+xs.length<=ds.length->
 Cm S (BW ds off xs) (BW vs off us):=by
 intro off;induction off with
 |zero=>
  intro ds xs vs us O G z;have hl:=I0 _ _ G;simp only[BW,Eo,Dj,FC] at*;rw[hl];have hd:=gT xs.length ds vs O z;clear z O hl;generalize ds.drop xs.length=ds' at*;generalize vs.drop xs.length=vs' at*;induction xs generalizing us with
  |nil=>simp only[AN] at G;subst G;simpa using hd
  |cons x xs ih=>
   simp only[AN] at G;obtain⟨v,r,rfl,Q,Z⟩:=G;simp only[BG,Cm];exact⟨v,_,rfl,Q,ih r Z⟩
 |succ off ih=>
  intro ds xs vs us O G z;cases ds with
  |nil=>simp at z
  |cons d ds=>
   simp only[Cm] at O;obtain⟨v,r,rfl,Q,Z⟩:=O
   have:=ih ds xs r us Z G (by simp only[Dd] at z;omega)
   simp only[BW,EG,BG,Nat.succ_add,Lg,Cm] at this⊢;exact⟨v,_,rfl,Q,this⟩
def Qml{S:Ay}{off:Nat}{ds xs:List AV}{vs us:List Value}(Q:AN S ds vs)(Z:AN S xs us)(z:off+xs.length<=ds.length):
 AN S (BW ds off xs) (BW vs off us):=by
 have G:=I0 _ _ Q;have O:=I0 _ _ Z;have h3:=Qmv off ds xs vs us (VW _ _ Q) Z z;have h4:=(VV (BW ds off xs).length _ _ h3 (AP _)).2;rw[IB] at h4
 have:(BW ds off xs).length=(BW vs off us).length:=by
  simp[BW,Ck,C6,G,O]
 rwa [this,IB] at h4
def M3{ok:Nat->Prop}{hp:Nat->Option Obj}{k:Nat}: ∀(i:Nat) (rows:List (List D)) (vs us:List Value) (row xs:List D) (off:Nat),rdr ok hp k rows vs->rows[i]? =some row->
 rdl ok hp xs us->off+xs.length<=k->i*k+k<=vs.length->rdr ok hp k (rows.set i (BW row off xs)) (BW vs (i*k+off) us)
 |_,[],_,_,_,_,_,_,G,_,_,_=>by simp at G
 |0,r::rs,vs,us,row,xs,off,h,G,Z,ho,hv=>by
  simp at G;subst G;simp only[rdr] at h;have hl:=cM _ _ Z;simp only[dL,rdr,J5,FC] at hv⊢;refine⟨?_,Qab4 _ _ _ _ _ h.2.1 Z (by omega),?_⟩
  .simp[BW,Ck,C6];omega
  .have:(BW vs off us).drop k=vs.drop k:=by
    simp only[BW];rw[Vr,Vr];rw[DB (by simp only[Ck];omega),DB (by simp only[Ck];omega),DS];simp only[Dj,DZ,Ck];congr 1;omega
   rw[this];exact h.2.2
 |i+1,r::rs,vs,us,row,xs,off,h,G,Z,ho,hv=>by
  simp only[rdr] at h;simp only[jH,rdr];have e1:(i+1)*k=i*k+k:=by rw[Du,EH]
  rw[e1] at hv⊢;have ih:=M3 i rs (vs.drop k) us row xs off h.2.2 (by simpa using G) Z ho (by rw[C6];omega);have Q:BW vs (i*k+k+off) us=vs.take k++BW (vs.drop k) (i*k+off) us:=by
   have e2:vs.take (i*k+k+off)=vs.take k++(vs.drop k).take (i*k+off):=by
    rw[<-dU];congr 1;omega
   simp only[BW,e2,DS,J0];rw[show i*k+k+off+us.length=k+(i*k+off+us.length) from by omega]
  rw[Q];have O:(vs.take k).length=k:=by rw[Ck];omega
  refine⟨h.1,?_,?_⟩
  .obtain⟨_,h5⟩:=UT k r vs h.2.1 (by omega);have h6:=Wk _ _ h5;rw[F9 (by omega)] at h6;clear ih Q h5 O;generalize vs.take k=q at*;have ab: ∀(r:List D) (q t:List Value),rdp ok hp r q->rdp ok hp r (q++t):=by
    intro r;induction r with
    |nil=>intro q t _;simp only[rdp]
    |cons d r aa=>
     intro q t h;simp only[rdp] at h⊢;obtain⟨v,z,rfl,h7,h8⟩:=h;exact⟨v,z++t,rfl,h7,aa z t h8⟩
   exact ab r q _ h6
  .rw[Vr,DB (by omega),O,J4];simpa using ih
end
def iB{S:Ay}: ∀(r:List AV) (q t:List Value),Cm S r q->Cm S r (q++t)
 |[],_,_,_=>by simp only[Cm]
 |d::r,q,t,h=>by
  simp only[Cm] at h⊢;obtain⟨v,z,rfl,G,O⟩:=h;exact⟨v,z++t,rfl,G,iB r z t O⟩
def pI{ok:Nat->Prop}{hp:Nat->Option Obj}: ∀(r:List D) (q t:List Value),rdp ok hp r q->rdp ok hp r (q++t)
 |[],_,_,_=>by simp only[rdp]
 |d::r,q,t,h=>by
  simp only[rdp] at h⊢;obtain⟨v,z,rfl,G,O⟩:=h;exact⟨v,z++t,rfl,G,pI r z t O⟩
def Qu1{S:Ay}{k:Nat}: ∀(i:Nat) (rows:List (List AV)) (vs us:List Value) (row xs:List AV) (off:Nat),B7 S k rows vs->rows[i]? =some row->
 AN S xs us->off+xs.length<=k->i*k+k<=vs.length->B7 S k (rows.set i (BW row off xs)) (BW vs (i*k+off) us)
 |_,[],_,_,_,_,_,_,z,_,_,_=>by simp at z
 |0,r::rs,vs,us,row,xs,off,h,z,G,ho,Z=>by
  simp at z;subst z;simp only[B7] at h;have hl:=I0 _ _ G;simp only[dL,B7,J5,FC] at Z⊢;refine⟨?_,Qmv _ _ _ _ _ h.2.1 G (by omega),?_⟩
  .simp[BW,Ck,C6];omega
  .have:(BW vs off us).drop k=vs.drop k:=by
    simp only[BW];rw[Vr,Vr];rw[DB (by simp only[Ck];omega),DB (by simp only[Ck];omega),DS];simp only[Dj,DZ,Ck];congr 1;omega
   rw[this];exact h.2.2
 |i+1,r::rs,vs,us,row,xs,off,h,z,G,ho,Z=>by
  simp only[B7] at h;simp only[jH,B7];have e1:(i+1)*k=i*k+k:=by rw[Du,EH]
  rw[e1] at Z⊢;have ih:=Qu1 i rs (vs.drop k) us row xs off h.2.2 (by simpa using z) G ho (by rw[C6];omega);have Q:BW vs (i*k+k+off) us=vs.take k++BW (vs.drop k) (i*k+off) us:=by
   have e2:vs.take (i*k+k+off)=vs.take k++(vs.drop k).take (i*k+off):=by
    rw[<-dU];congr 1;omega
   simp only[BW,e2,DS,J0];rw[show i*k+k+off+us.length=k+(i*k+off+us.length) from by omega]
  rw[Q];have O:(vs.take k).length=k:=by rw[Ck];omega
  refine⟨h.1,?_,?_⟩
  .obtain⟨_,h5⟩:=VV k r vs h.2.1 (by omega);have h6:=VW _ _ h5;rw[F9 (by omega)] at h6;exact iB r _ _ h6
  .rw[Vr,DB (by omega),O,J4];simpa using ih
def uK{α:Type}(l:List α)(p off:Nat)(xs:List α)(h:p<=l.length):(BW l (p+off) xs).drop p=BW (l.drop p) off xs:=by
 have G:l.take (p+off)=l.take p++(l.drop p).take off:=by rw[<-dU]
 have z:(l.take p).length=p:=by rw[Ck];omega
 simp only[BW,G,J0];rw[Vr,DB (by omega),z,J4];simp[FA]
section
variable {P:Program}{tm:List (Nat×AV)}{h:Nat->Option Am}{nx:Nat}{o:Oper}{K:Ah}
def Qiq{T:TypeId}{ti:TI}(hT:tI P T=some ti){w:World}{b p:Nat}{U:TypeId}{vs:Array Value}{v:Value}(G:v.cells.size=ti.size)(z: ∀u∈v.cells.toList,u.oneCell'=true)
 (O:p+ti.size<=vs.size)(hb:w.heap[b]? =some (.cells vs U (0,0))):
 ∃w',(Instr.storeAt T (.pointer (some ⟨b,p,none⟩)) v).run P w= .ok () w'/\w'.heap=w.heap.setIfInBounds b (.cells (BW vs.toList p v.cells.toList).toArray U (0,0))/\
  w'.os=w.os/\w'.tape=w.tape/\w'.output=w.output/\w.drawn<=w'.drawn:=by
 obtain⟨w',Q,Z⟩:=Qf9 (P:=P) (w:=w) (b:=b) (p:=p) (T:=U) v.cells.toList 0 vs z (by simp;omega) hb;refine⟨w',?_,by simpa using Z⟩;simp[Instr.storeAt,Instr.sureAddr,storeVar,I2 hT,G,Q]
def cV{S:Ay}{m:Nat}{e:Ac}{l:Option F2}{ks:List Nat}{w':World}{b:Nat}{ob:Obj}(G:b<S.w.heap.size)(z:w'.heap=S.w.heap.setIfInBounds b ob):
 (S.one m e l ks w').hp b=some ob:=by
 simp[Ay.hp,Ay.one,z,G]
def Pj{T:TypeId}{x y:Operand}(ho:o.op= .store T x y)(z:Bh (wW h (Ap tm x) (Ap tm y) K) (tI P T)):BM P tm h nx o K:=by
 cases hT:tI P T with
 |none=>rw[hT] at z;exact z.elim
 |some ti=>
 rw[hT] at z;simp only[Bh,wW] at z;obtain⟨hz,hcl,af,z⟩:=z;have ac:Ap tm y≠ .any:=by intro hh;rw[hh] at hcl;simp only[AV.cells,H9] at hcl;exact hz hcl.symm
 cases hx:Ap tm x<;>rw[hx] at z<;>try exact z.elim
 case ptr n p=>
  simp only[nU] at z;cases hn:h n with
  |none=>rw[hn] at z;exact z.elim
  |some e=>
  rw[hn] at z;obtain⟨mu,e⟩:=e;cases mu<;>cases e<;>try exact z.elim
  rename_i U cs;simp only[TZ] at z;obtain⟨ai,z⟩:=z;refine⟨_,_,B6.one (u:=[n]) (ks:=[n]) (m:=n) (cnt:=0) (.inr ⟨rfl,by simp,by rw[hn];simp⟩) ?_,z⟩;intro C S a hW hu _ _ O;have h1:=O x (by rw[ho];simp[Op.operands]);have h2:=O y (by rw[ho];simp[Op.operands]);have hS:S.h n=some (true,.cells U cs):=(hu n (by simp)).trans hn;rw[hx] at h1;simp only[Aa] at h1;obtain⟨l,hl,hv⟩:=h1.2 _ hS;have Z:=hW.obj _ _ hS;simp only[An] at Z;obtain⟨lc,vs,an,ao,hb,am⟩:=Z;rw[hl] at an;obtain rfl:=AB an;have h3:=nM ac h2;have h4:=I0 _ _ h3;have h5:=I0 _ _ am;rw[ao,FC] at hv;obtain⟨w',aa,G,ag,ah,Q⟩:=Qiq hT (w:=S.w) (b:=l.b) (p:=p) (U:=U) (vs:=vs) (v:=a.eval y) (by simpa[hcl] using h4) (gO _ _ af h3)
   (by have:vs.size=cs.length:=by simpa using h5
       omega) hb
  refine⟨undef,w',some l,.inr ⟨by simp[execOp,ho,hv,aa],rfl⟩,cN hW hS hl G ag ah Q.1 rfl rfl Q.2,?_⟩;intro hp;refine⟨?_,by simp only[Aa]⟩;simp only[An];have hX: ∀q:Nat,S.h n≠none\/q≠n:=λq=> .inl (by rw[hS];simp)
  refine⟨l,_,rfl,ao,cV (hW.loc n _ l hS hl).1 G,?_⟩;exact Qml (UP hp _ _ (λq _=>hX q) am) (UP hp _ _ (λq _=>hX q) h3) (by omega)
 case eptr n i p=>
  simp only[nU] at z;cases hn:h n with
  |none=>rw[hn] at z;exact z.elim
  |some e=>
  rw[hn] at z;obtain⟨mu,e⟩:=e;cases mu<;>cases e<;>try exact z.elim
  case true.arr U k rows=>
   simp only[Jg,Jx,Qxz] at z;obtain⟨hi,z⟩:=z;have z:=z rows[i] (B2 hi);cases hai:Ds (Ap tm y).cells with
   |none=>rw[hai] at z;exact z.elim
   |some ds=>
   rw[hai] at z;simp only[Xs] at z;obtain⟨ai,z⟩:=z;refine⟨_,_,B6.one (u:=[n]) (ks:=[n]) (m:=n) (cnt:=0) (.inr ⟨rfl,by simp,by rw[hn];simp⟩) ?_,z⟩;intro C S a hW hu _ _ O;have h1:=O x (by rw[ho];simp[Op.operands]);have h2:=O y (by rw[ho];simp[Op.operands]);have hS:S.h n=some (true,.arr U k rows):=(hu n (by simp)).trans hn;rw[hx] at h1;simp only[Aa] at h1;obtain⟨l,hl,hv⟩:=h1.2 _ hS;have Z:=hW.obj _ _ hS;rw[hl] at Z;simp only[An] at Z;obtain⟨ab,ad,vs,hb,av,hr⟩:=Z;have h3:=nM ac h2;have h4:=I0 _ _ h3;obtain⟨au,_⟩:=xX i rows _ _ hr (B2 hi);simp only[Ac.esz] at hv;have aq:i*k+k<=l.cap*k:=by
    have:(i+1)*k<=l.cap*k:=HC k (by omega)
    rwa [Du,EH] at this
   obtain⟨w',aa,G,ag,ah,Q⟩:=Qiq hT (w:=S.w) (b:=l.b) (p:=l.p+i*k+p) (U:=U) (vs:=vs) (v:=a.eval y) (by simpa[hcl] using h4) (gO _ _ af h3)
    (by omega) hb
   refine⟨undef,w',some l,.inr ⟨by simp[execOp,ho,hv,aa],rfl⟩,cN hW hS hl G ag ah Q.1 rfl (by simp[Ac.len]) Q.2,?_⟩;intro hp;refine⟨?_,by simp only[Aa]⟩;simp only[An];have ak:=YD hp.ok k rows _ hr;rw[hZ hai] at h3;have aj:=KU hp.ok _ _ ((Ir _ _).1 h3);have aw:ds.length=ti.size:=by rw[hZ hai] at hcl;simpa using hcl
   refine⟨by simpa using ab,by simpa using ad,_,cV (hW.loc n _ l hS hl).1 G,?_,?_⟩
   .simp[BW,Ck,C6] at h4⊢;omega
   .have:=M3 i rows _ (a.eval y).cells.toList rows[i] ds p ak (B2 hi) aj (by omega) (by simp;omega)
    rw[Zeo,FA,uK _ _ _ _ (by simp;omega)];exact this
  case true.arrA U k rows=>
   simp only[Jg,Jx,Qyo] at z;obtain⟨hi,z⟩:=z;obtain⟨ai,z⟩:=z rows[i] (B2 hi);refine⟨_,_,B6.one (u:=[n]) (ks:=[n]) (m:=n) (cnt:=0) (.inr ⟨rfl,by simp,by rw[hn];simp⟩) ?_,z⟩;intro C S a hW hu _ _ O;have h1:=O x (by rw[ho];simp[Op.operands]);have h2:=O y (by rw[ho];simp[Op.operands]);have hS:S.h n=some (true,.arrA U k rows):=(hu n (by simp)).trans hn;rw[hx] at h1;simp only[Aa] at h1;obtain⟨l,hl,hv⟩:=h1.2 _ hS;have Z:=hW.obj _ _ hS;rw[hl] at Z;simp only[An] at Z;obtain⟨ab,ad,vs,hb,av,hr⟩:=Z;have h3:=nM ac h2;have h4:=I0 _ _ h3;obtain⟨au,_⟩:=Qw7 i rows _ _ hr (B2 hi);simp only[Ac.esz] at hv;have aq:i*k+k<=l.cap*k:=by
    have:(i+1)*k<=l.cap*k:=HC k (by omega)
    rwa [Du,EH] at this
   obtain⟨w',aa,G,ag,ah,Q⟩:=Qiq hT (w:=S.w) (b:=l.b) (p:=l.p+i*k+p) (U:=U) (vs:=vs) (v:=a.eval y) (by simpa[hcl] using h4) (gO _ _ af h3)
    (by omega) hb
   refine⟨undef,w',some l,.inr ⟨by simp[execOp,ho,hv,aa],rfl⟩,cN hW hS hl G ag ah Q.1 rfl (by simp[Ac.len]) Q.2,?_⟩;intro hp;refine⟨?_,by simp only[Aa]⟩;simp only[An];have hX: ∀q:Nat,S.h n≠none\/q≠n:=λq=> .inl (by rw[hS];simp)
   have ak:=nQ hp k rows _ (λq _=>hX q) hr;have aj:=UP hp _ _ (λq _=>hX q) h3;refine⟨by simpa using ab,by simpa using ad,_,cV (hW.loc n _ l hS hl).1 G,?_,?_⟩
   .simp[BW,Ck,C6] at h4⊢;omega
   .have:=Qu1 i rows _ (a.eval y).cells.toList rows[i] (Ap tm y).cells p ak (B2 hi) aj (by omega) (by simp;omega)
    rw[Zeo,FA,uK _ _ _ _ (by simp;omega)];exact this
end
def Quk(n:Nat): ∀(xs:List Value) (off:Nat) (cs:Array Value),off+xs.length<=cs.size->
 ((xs.zipIdx n).foldl (λ(cs:Array Value) (q:Value×Nat)=>cs.setIfInBounds (off - n+q.2) q.1) cs)=(BW cs.toList (off) xs).toArray\/off<n
 |xs,off,cs,h=>by
  by_cases hn:off<n
  .exact .inr hn
  left;induction xs generalizing n off cs with
  |nil=>simp[BW]
  |cons x xs ih=>
   simp only[Dd] at h;simp only[List.zipIdx_cons,Zi];rw[show off - n+n=off from by omega];have z:=ih (n+1) (off+1) (cs.setIfInBounds off x) (by simp;omega) (by omega);rw[show off+1 - (n+1)=off - n from by omega] at z;rw[z];congr 1;rw[Zdv];exact Qod _ _ _ _ (by simp;omega)
def RC{place:Nat->Option (Nat×Nat)}{cs:Array Value}{i off size:Nat}{v:Value}{rest:List (Nat×Value)}(hp:place i=some (off,size))(hs:v.cells.size=size)
 (z:off+size<=cs.size):Instr.fill place cs ((i,v)::rest)=Instr.fill place (BW cs.toList off v.cells.toList).toArray rest:=by
 simp only[Instr.fill,hp];rw[Af (by simp[hs];omega)];congr 1
 have:=Quk 0 v.cells.toList off cs (by simp;omega)
 rcases this with h|h
 .rw[<-h];rw[<-Array.foldl_toList];simp
 .omega
def Qsp{α:Type}(l:List α)(off:Nat)(xs:List α)(h:off+xs.length<=l.length):(BW l off xs).length=l.length:=by
 simp[BW,Ck,C6];omega
section
variable {P:Program}{tm:List (Nat×AV)}{h:Nat->Option Am}{nx:Nat}{o:Oper}{K:Ah}
def Qjy(z:Nat->Option (Nat×Nat)): ∀(ps:List (Nat×AV)) {r:List AV},Hy z ps none=some r->False
 |[],_,h=>by simp[Hy] at h
 |_::_,_,h=>by simp[Hy] at h
def uW{S:Ay}{a:Act}{pl place:Nat->Option (Nat×Nat)}(Z: ∀i q,pl i=some q->place i=some q): ∀(ps:List (Nat×Operand)) (cs r:List AV) (G:Array Value),
 Hy pl (J9 tm ps) (some cs)=some r->AN S cs G.toList->(∀p∈ps,Aa S (Ap tm p.2) (a.eval p.2))->
 ∃us,Instr.fill place G (ps.map λp=>(p.1,a.eval p.2))=some us/\AN S r us.toList/\r.length=cs.length
 |[],cs,r,G,hf,hc,_=>by
  simp only[J9,Hy,AM] at hf;subst hf;exact⟨G,rfl,hc,rfl⟩
 |(i,x)::ps,cs,r,G,hf,hc,z=>by
  simp only[J9,Hy] at hf;cases hp:pl i with
  |none=>rw[hp] at hf;simp only[YW] at hf;exact (Qjy _ _ hf).elim
  |some q=>
   obtain⟨off,size⟩:=q;rw[hp] at hf;simp only[YW] at hf;cases hcond:((Ap tm x).cells.length==size && (Nat.blt 0 size && Nat.ble (off+size) cs.length)) with
   |false=>rw[hcond] at hf;simp only[Bs] at hf;exact (Qjy _ _ hf).elim
   |true=>
    rw[hcond] at hf;simp only[BV] at hf;simp only[AW,PO] at hcond;obtain⟨hl,hz,Q⟩:=hcond;have hz:0<size:=jC hz;have Q:off+size<=cs.length:=jC Q;have hx:=z (i,x) (by simp);have O:Ap tm x≠ .any:=by intro hh;rw[hh] at hl;simp only[AV.cells,H9] at hl;omega
    have h3:=nM O hx;have h4:=I0 _ _ h3;have h5:=I0 _ _ hc;have h6:=Qml hc h3 (by omega:off+(Ap tm x).cells.length<=cs.length);have ab:(BW cs off (Ap tm x).cells).length=cs.length:=Qsp _ _ _ (by omega);obtain⟨us,aa,hr,ac⟩:=uW Z ps _ r (BW G.toList off (a.eval x).cells.toList).toArray hf (by simpa using h6) (λp hp=>z p (by simp[hp]));refine⟨us,?_,hr,by omega⟩;rw[Bb,RC (Z i _ hp) (by show (a.eval x).cells.size=size;simp only[EE] at h4;omega) (by simp only[EE] at h5;omega)];exact aa
def Qnx(w:World): ∀(G:List Field),(G.all λf=>(P.info? f.type).isSome)=true->
 (G.mapM (m:=Sem) λf=>do pure (f.offset,<-sizeOf f.type)).run P w= .ok (G.map λf=>(f.offset,((P.info? f.type).map (·.size)).getD 0)) w
 |[],_=>by simp
 |f::G,z=>by
  simp only[ET,AW] at z;obtain⟨i,O⟩:=ZeF.1 z.1;have ih:=Qnx w G z.2;have Q:(sizeOf f.type).run P w= .ok i.size w:=by simp[sizeOf,typeInfo,O]
  simp only[List.mapM_cons,Sem.run_bind,Q,Result.andThen_ok,Sem.run_pure,ih,Bb,O,D7,AT]
def OY{T:TypeId}{ps:Array (Nat×Operand)}(ho:o.op= .build T ps)(G:Bh (xP P (J9 tm ps.toList) K) (tI P T)):BM P tm h nx o K:=by
 cases hT:tI P T with
 |none=>rw[hT] at G;exact G.elim
 |some ti=>
 rw[hT] at G;simp only[Bh,xP] at G;obtain⟨hl,hz,G⟩:=G;obtain⟨z,af,aj,ad⟩:=bR hT hl hz;have Z: ∀{S:Ay} {a:Act},(∀x∈o.op.operands,Aa S (Ap tm x) (a.eval x))-> ∀p∈ps.toList,Aa S (Ap tm p.2) (a.eval p.2):=by
  intro S a O p hp;refine O p.2 ?_;rw[ho];simp only[Op.operands];simp;exact⟨p.1,by simpa using hp⟩
 have aa: ∀(a:Act),(ps.map λ(i,x)=>(i,a.eval x)).toList=ps.toList.map λp=>(p.1,a.eval p.2):=by intro a;simp
 cases hf:ti.kind<;>rw[hf] at G<;>try exact G.elim
 case struct fs=>
  obtain⟨Q,hu,ac,ag⟩:=Qut hT hf;simp only[rZ] at G;cases hfl:Hy (Mv fs) (J9 tm ps.toList) (some (ti.zero.map .im)) with
  |none=>rw[hfl] at G;exact G.elim
  |some cs=>
   rw[hfl] at G;simp only[Nn] at G;refine⟨_,_,B6.pure (u:=[]) ?_,G⟩;intro C S a hW _ O;have ah: ∀(w:World),(Q.mapM (m:=Sem) λf=>do pure (f.offset,<-sizeOf f.type)).run P w= .ok (fs.toArray) w:=by
    intro w;rw[ZeB,Sem.run_map,Qnx w _ ac,ag];rfl
   obtain⟨us,ab,hr,ai⟩:=uW (S:=S) (a:=a) (place:=λi=>fs.toArray[i]?) (λi q hq=>by simpa[Mv] using hq) ps.toList _ cs z.cells hfl ((Ir _ _).2 (ad _ _)) (Z O);refine⟨.agg us,?_,by have:=oH (ti:={ti with agg:=true,size:=cs.length}) hr rfl (.inl rfl);simpa using this⟩;simp only[execOp,ho,Instr.build,Sem.run_bind,af,Result.andThen_ok];rw[show (underlying T).run P S.w= .ok (.struct Q) S.w from by simp[underlying,hu]];simp only[Result.andThen_ok,Sem.run_bind,ah];rw[aa,ab];rfl
 case array m e=>
  have hu:=Qs2 hT hf;simp only[rZ] at G;cases hE:tI P e with
  |none=>rw[hE] at G;exact G.elim
  |some te=>
  rw[hE] at G;simp only[Bh,QV] at G;cases hfl:Hy (Jc te.size) (J9 tm ps.toList) (some (ti.zero.map .im)) with
  |none=>rw[hfl] at G;exact G.elim
  |some cs=>
   rw[hfl] at G;simp only[Nn] at G;refine⟨_,_,B6.pure (u:=[]) ?_,G⟩;intro C S a hW _ O;obtain⟨us,ab,hr,ai⟩:=uW (S:=S) (a:=a) (place:=λi=>some (i*te.size,te.size)) (λi q hq=>hq) ps.toList _ cs z.cells hfl ((Ir _ _).2 (ad _ _)) (Z O);refine⟨.agg us,?_,by have:=oH (ti:={ti with agg:=true,size:=cs.length}) hr rfl (.inl rfl);simpa using this⟩;simp only[execOp,ho,Instr.build,Sem.run_bind,af,Result.andThen_ok];rw[show (underlying T).run P S.w= .ok (.array m e) S.w from by simp[underlying,hu]];simp only[Result.andThen_ok,Sem.run_bind,I2 hE];rw[aa,ab];rfl
end
end Go.Ae
