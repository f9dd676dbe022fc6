/- Lemmas. Conditions: none. -/
import Derived.Test.YtogafbdeamcpnaaGreatDoorP00
import Derived.Laws.Cells
set_option linter.all false
set_option maxHeartbeats 8000000
set_option maxRecDepth 100000
namespace Go.Ae
def Pv{P:Program}{t:TypeId}{ti:TI}(h:tI P t=some ti):
 ∃i u,P.info? t=some i/\P.underlying t=some u/\ti.size=i.size/\ti.bytes=i.bytes/\
  ti.agg=W0 u/\ti.kind=Fa P u/\ti.zero=zOf ti.agg i.zero:=by
 unfold tI at h;split at h
 .rename_i i u z G;simp only[AI] at h;subst h;exact⟨i,u,z,G,rfl,rfl,rfl,rfl,rfl⟩
 .cases h
section
variable {P:Program}{t:TypeId}{ti:TI}(h:tI P t=some ti)(w:World)
include h
def IV:(sizeOf t).run P w= .ok ti.size w:=by
 obtain⟨i,u,G,hu,z,O,Q,Z,h5⟩:=Pv h;simp[sizeOf,typeInfo,G,z]
def xO:(isAgg t).run P w= .ok ti.agg w:=by
 obtain⟨i,u,hi,G,Q,Z,z,h4,h5⟩:=Pv h;have O:(underlying t).run P w= .ok u w:=by simp[underlying,G]
 rw[z];cases u<;>simp[isAgg,O,W0]
end
def Qyp{w:World}{b p:Nat}{vs:Array Value}{T:TypeId}{z:Nat×Nat}(h:w.heap[b]? =some (.cells vs T z)):w.cell? ⟨b,p,none⟩=vs[p]? :=by
 simp[World.cell?,h]
def Ps(b p n:Nat):(⟨b,p,none⟩:Addr).add n=⟨b,p+n,none⟩:=by
 unfold Addr.add;split
 .rename_i h;subst h;rfl
 .rfl
def UE{ok:Nat->Prop}{hp:Nat->Option Obj}: ∀(n:Nat) (ds:List D) (vs:List Value),rdp ok hp ds vs->n<=ds.length->
 n<=vs.length/\rdl ok hp (ds.take n) (vs.take n)
 |0,ds,vs,_,_=>by simp[rdl]
 |n+1,[],vs,_,h=>by simp at h
 |n+1,d::ds,vs,h,hn=>by
  simp only[rdp] at h;obtain⟨v,r,rfl,z,G⟩:=h;obtain⟨O,Q⟩:=UE n ds r G (by simpa using hn);refine⟨by simpa using O,?_⟩;simp only[P9,rdl];exact⟨v,_,rfl,z,Q⟩
def UB{ok:Nat->Prop}{hp:Nat->Option Obj}: ∀(n:Nat) (ds:List D) (vs:List Value),rdp ok hp ds vs->n<=ds.length->rdp ok hp (ds.drop n) (vs.drop n)
 |0,ds,vs,h,_=>by simpa using h
 |n+1,[],vs,_,h=>by simp at h
 |n+1,d::ds,vs,h,hn=>by
  simp only[rdp] at h;obtain⟨v,r,rfl,G,z⟩:=h;simpa using UB n ds r z (by simpa using hn)
def VY{ok:Nat->Prop}{hp:Nat->Option Obj}: ∀(ds:List D) (vs:List Value),rdl ok hp ds vs->rdp ok hp ds vs
 |[],_,_=>by simp only[rdp]
 |d::ds,vs,h=>by
  simp only[rdl,rdp] at h⊢;obtain⟨v,r,rfl,z,G⟩:=h;exact⟨v,r,rfl,z,VY ds r G⟩
def cC{ok:Nat->Prop}{hp:Nat->Option Obj}: ∀(ds:List D) (vs:List Value),rdl ok hp ds vs->vs.length=ds.length
 |[],_,h=>by simp only[rdl] at h;simp[h]
 |d::ds,vs,h=>by
  simp only[rdl] at h;obtain⟨v,r,rfl,G,z⟩:=h;simp[cC ds r z]
def Ii{S:Ay}: ∀(xs:List AV) (vs:List Value),AM S xs vs->vs.length=xs.length
 |[],_,h=>by simp only[AM] at h;simp[h]
 |d::ds,vs,h=>by
  simp only[AM] at h;obtain⟨v,r,rfl,G,z⟩:=h;simp[Ii ds r z]
def VM{S:Ay}: ∀(xs:List AV) (vs:List Value),AM S xs vs->Cn S xs vs
 |[],_,_=>by simp only[Cn]
 |d::ds,vs,h=>by
  simp only[AM,Cn] at h⊢;obtain⟨v,r,rfl,z,G⟩:=h;exact⟨v,r,rfl,z,VM ds r G⟩
def VL{S:Ay}: ∀(n:Nat) (ds:List AV) (vs:List Value),Cn S ds vs->n<=ds.length->n<=vs.length/\AM S (ds.take n) (vs.take n)
 |0,ds,vs,_,_=>by simp[AM]
 |n+1,[],vs,_,h=>by simp at h
 |n+1,d::ds,vs,h,hn=>by
  simp only[Cn] at h;obtain⟨v,r,rfl,z,G⟩:=h;obtain⟨O,Q⟩:=VL n ds r G (by simpa using hn);refine⟨by simpa using O,?_⟩;simp only[P9,AM];exact⟨v,_,rfl,z,Q⟩
def gM{S:Ay}: ∀(n:Nat) (ds:List AV) (vs:List Value),Cn S ds vs->n<=ds.length->Cn S (ds.drop n) (vs.drop n)
 |0,ds,vs,h,_=>by simpa using h
 |n+1,[],vs,_,h=>by simp at h
 |n+1,d::ds,vs,h,hn=>by
  simp only[Cn] at h;obtain⟨v,r,rfl,G,z⟩:=h;simpa using gM n ds r z (by simpa using hn)
def Ia{S:Ay}: ∀(ds:List D) (vs:List Value),AM S (ds.map .im) vs↔rdl S.ok S.hp ds vs
 |[],vs=>by simp[AM,rdl]
 |d::ds,vs=>by
  simp only[Bd,AM,rdl,Aa];constructor
  .rintro⟨v,r,rfl,z,G⟩;exact⟨v,r,rfl,z,(Ia ds r).1 G⟩
  .rintro⟨v,r,rfl,z,G⟩;exact⟨v,r,rfl,z,(Ia ds r).2 G⟩
def uM{S:Ay}: ∀(ds:List D) (vs:List Value),Cn S (ds.map .im) vs↔rdp S.ok S.hp ds vs
 |[],vs=>by simp[Cn,rdp]
 |d::ds,vs=>by
  simp only[Bd,Cn,rdp,Aa];constructor
  .rintro⟨v,r,rfl,z,G⟩;exact⟨v,r,rfl,z,(uM ds r).1 G⟩
  .rintro⟨v,r,rfl,z,G⟩;exact⟨v,r,rfl,z,(uM ds r).2 G⟩
def gV: ∀{cs:List AV} {ds:List D},D8 cs=some ds->cs=ds.map .im
 |[],ds,h=>by simp only[D8,AI] at h;subst h;rfl
 |x::r,ds,h=>by
  simp only[D8] at h;cases hx:x.asD with
  |none=>rw[hx] at h;simp only[Nq] at h;cases h
  |some d=>
   rw[hx] at h;cases hr:D8 r with
   |none=>rw[hr] at h;simp only[Nq] at h;cases h
   |some z=>
    rw[hr] at h;simp only[Nq,AI] at h;subst h
    have:x= .im d:=by cases x<;>simp[AV.asD] at hx;subst hx;rfl
    rw[this,gV hr];rfl
def O3{ok:Nat->Prop}{hp:Nat->Option Obj}{d:D}{v:Value}(h:rd ok hp d v):rdl ok hp d.cells v.cells.toList:=by
 cases d<;>simp only[rd] at h<;>simp only[D.cells]
 case agg cs=>obtain⟨G,rfl,z⟩:=h;exact z
 case sl nz k rows=>
  rcases h with ⟨h0,z⟩|⟨b,p,cap,G,T,O,rfl,z⟩
  .obtain⟨ao,Z⟩:=pT h0;subst Z;simp only[rdl];exact⟨_,[],rfl,by simp only[rd];exact .inl ⟨h0,z⟩,rfl⟩
  .simp only[rdl];exact⟨_,[],rfl,by simp only[rd];exact .inr ⟨b,p,cap,G,T,O,rfl,z⟩,rfl⟩
 case tup cs=>obtain⟨G,rfl,z⟩:=h;simp only[rdl];exact⟨_,[],rfl,by simp only[rd];exact⟨G,rfl,z⟩,rfl⟩
 case ref cs=>obtain⟨b,p,G,T,O,rfl,z⟩:=h;simp only[rdl];exact⟨_,[],rfl,by simp only[rd];exact⟨b,p,G,T,O,rfl,z⟩,rfl⟩
 case mp es=>obtain⟨b,p,G,rfl,z⟩:=h;simp only[rdl];exact⟨_,[],rfl,by simp only[rd];exact⟨b,p,G,rfl,z⟩,rfl⟩
 case fn f a c=>obtain⟨b,p,rfl,z⟩:=h;simp only[rdl];exact⟨_,[],rfl,by simp only[rd];exact⟨b,p,rfl,z⟩,rfl⟩
 case ifc t d=>obtain⟨b,rfl,z⟩:=h;simp only[rdl];exact⟨_,[],rfl,by simp only[rd];exact⟨b,rfl,z⟩,rfl⟩
 case tok g=>obtain⟨z,⟨t,x,rfl⟩,Q⟩:=h;simp only[rdl];exact⟨_,[],rfl,by simp only[rd];exact⟨z,⟨t,x,rfl⟩,Q⟩,rfl⟩
 all_goals (subst h;simp only[rdl];exact⟨_,[],rfl,by simp only[rd],rfl⟩)
def Qsn(v:Value)(h: ∀z,v≠ .agg z):v.cells= #[v]:=by
 cases v<;>first|rfl|exact absurd rfl (h _)
def NI{v:Value}(h:v.oneCell'=true):v.cells= #[v]:=by
 cases v<;>first|rfl|cases h
def nX{S:Ay}{x:AV}{v:Value}(O:x≠ .any)(h:Aa S x v):AM S x.cells v.cells.toList:=by
 cases x<;>simp only[AV.cells]
 case any=>exact absurd rfl O
 case im d=>simp only[Aa] at h;exact (Ia _ _).2 (O3 h)
 case agg cs=>simp only[Aa] at h;obtain⟨G,rfl,z⟩:=h;exact z
 case tup cs=>
  have h':=h;simp only[Aa] at h;obtain⟨G,rfl,z⟩:=h;simp only[AM];exact⟨_,[],rfl,h',rfl⟩
 case clo f a c=>
  have h':=h;simp only[Aa] at h;obtain⟨G,c',rfl,z⟩:=h;simp only[AM];exact⟨_,[],rfl,h',rfl⟩
 all_goals
  have h':=h;simp only[Aa] at h;rw[NI h.1];simp only[AM];exact⟨_,[],rfl,h',rfl⟩
def ZK{ok:Nat->Prop}{hp:Nat->Option Obj}(v:Value)(h:ZL v=true):rd ok hp (zD v) v:=by
 unfold ZL at h;split at h<;>first|(simp only[zD,rd];done)|cases h|skip
 simp only[zD,rd];exact .inl ⟨.inl rfl,trivial⟩
def U9{ok:Nat->Prop}{hp:Nat->Option Obj}: ∀(vs:List Value),vs.all ZL=true->rdl ok hp (vs.map zD) vs
 |[],_=>by simp[rdl]
 |v::vs,h=>by
  simp only[Je,AS] at h;simp only[Bd,rdl];exact⟨v,vs,rfl,ZK v h.1,U9 vs h.2⟩
def Qrg{P:Program}{t:TypeId}{ti:TI}(h:tI P t=some ti)(Z:ti.zero.length=ti.size)(hz:ti.size≠0):
 ∃z,(∀w,(zeroValue t).run P w= .ok z w)/\z.cells.size=ti.size/\(∀ok hp,rdl ok hp ti.zero z.cells.toList)/\ ∀ok hp,rd ok hp (bif ti.agg then .agg ti.zero else eJ ti.zero) z:=by
 obtain⟨i,u,hi,hu,h1,h2,h3,h4,O⟩:=Pv h;have Q:ti.zero≠[]:=by intro h;rw[h] at Z;exact hz Z.symm
 have G: ∀z,i.zero=some z-> ∀w,(zeroValue t).run P w= .ok z w:=λz hz w=>by simp[zeroValue,typeInfo,hi,hz]
 revert O Z Q G;generalize ti.agg=ag;generalize ti.zero=zs;generalize i.zero=iz;intro Z O Q G;unfold zOf at O;split at O
 .rename_i vs;cases ha:vs.toList.all ZL<;>rw[ha] at O
  .exact absurd O Q
  .simp only[Ca] at O;subst O;have hr: ∀ok hp,rdl ok hp (vs.toList.map zD) vs.toList:=λok hp=>U9 _ ha
   exact⟨_,G _ rfl,by simpa[Value.cells] using Z,λok hp=>by simpa[Value.cells] using hr ok hp,λok hp=>by simp only[Ca,rd];exact⟨_,rfl,hr ok hp⟩⟩
 .rename_i v;cases ha:ZL v<;>rw[ha] at O
  .exact absurd O Q
  .simp only[Ca] at O;subst O;have hr: ∀ok hp,rd ok hp (zD v) v:=λok hp=>ZK v ha
   have hc:v.cells= #[v]:=Qsn v (by intro cs hh;rw[hh] at ha;simp[ZL] at ha);exact⟨_,G _ rfl,by rw[hc];simpa using Z,λok hp=>by rw[hc];simp only[rdl];exact⟨v,[],rfl,hr ok hp,rfl⟩,λok hp=>by simpa[eJ] using hr ok hp⟩
 .exact absurd O Q
def bG{P:Program}{t:TypeId}{ti:TI}(h:tI P t=some ti)(Z:ti.zero.length=ti.size)(hz:ti.size≠0):
 ∃z,(∀w,(zeroValue t).run P w= .ok z w)/\z.cells.size=ti.size/\ ∀ok hp,rdl ok hp ti.zero z.cells.toList:=by
 obtain⟨z,G,O,Q,_⟩:=Qrg h Z hz;exact⟨z,G,O,Q⟩
def Bk.appf(E:Bk)(h:Nat->Option Aq)(n:Nat):Option Aq:=
 match hget E.new n with
 |some e=>some e
 |none=>bif E.kill.contains n then none else h n
def Fr(nx cnt n:Nat):Prop:=nx<=n/\n<nx+cnt
def B5(P:Program)(tm:List (Nat×AV))(h:Nat->Option Aq)(nx:Nat)(o:Oper)(r:AV)(E:Bk):Prop:=
 ∀(C:AX) (S:Ay) (a:Act) (next:Act->World->Prop) (Q:Exit->Act->World->Prop),
  Wf C S->(∀n∈E.use++E.kill,S.h n=h n)->(∀n,Fr nx E.cnt n->S.h n=none)->
  (∀n e,S.h n=some e-> ∀m∈e.2.nms,¬Fr nx E.cnt m)->
  (∀x∈o.op.operands,Aa S (Aw tm x) (a.eval x))->
  (∀v S',Wf C S'->S'.h=E.appf S.h->Bx (λm=> ¬Fr nx E.cnt m) S S'->Aa S' r v->next (a.put o.dst v) S'.w)->
  o.wp P a S.w next Q
def aT(S:Ay)(v:Value):Aa S (kD v) v:=by
 unfold kD
 split<;>simp only[Aa,rd]
 exact .inl ⟨.inl rfl,trivial⟩
def wG(u:List Nat)(h:Nat->Option Aq):({use:=u}:Bk).appf h=h:=by
 funext n;simp[Bk.appf,hget]
section
variable {P:Program}{tm:List (Nat×AV)}{h:Nat->Option Aq}{nx:Nat}{o:Oper}{r:AV}
def B5.pure{u:List Nat}(G: ∀(C:AX) (S:Ay) (a:Act),Wf C S->(∀n∈u,S.h n=h n)->(∀x∈o.op.operands,Aa S (Aw tm x) (a.eval x))->
 ∃v,(execOp a.eval o).run P S.w= .ok (.value v) S.w/\Aa S r v):B5 P tm h nx o r {use:=u}:=by
 intro C S a next Q hW O _ _ z hn
 obtain⟨v,Z,hc⟩:=G C S a hW (by simpa using O) z;unfold Oper.wp;rw[Z,Oper.upon_value];exact hn v S hW (wG u S.h).symm (Bx.refl _ _) hc
end
abbrev BJ(P:Program)(tm:List (Nat×AV))(h:Nat->Option Aq)(nx:Nat)(o:Oper)(K:Ai):Prop:= ∃r E,B5 P tm h nx o r E/\K r E
section
variable {P:Program}{tm:List (Nat×AV)}{h:Nat->Option Aq}{nx:Nat}{o:Oper}{K:Ai}
def lA{x:Operand}(z:o.op= .move x\/o.op= .assign x)(O:K (Aw tm x) {}):BJ P tm h nx o K:=by
 refine⟨_,_,B5.pure (u:=[]) ?_,O⟩;intro C S a hW _ G;have hc:=G x (by rcases z with z|z<;>rw[z]<;>simp[Op.operands]);refine⟨a.eval x,?_,hc⟩;rcases z with z|z<;>simp[execOp,z]
def TX{c x y:Operand}(O:o.op= .pick c x y)(G:yL (Aw tm x) (Aw tm y) K (Aw tm c)):BJ P tm h nx o K:=by
 cases hc:Aw tm c<;>rw[hc] at G<;>try exact G.elim
 rename_i d;cases d<;>try exact G.elim
 rename_i b;simp only[yL,LV] at G;have Z:K (if b then Aw tm x else Aw tm y) {}:=by
  cases b
  .simpa using G.2 rfl
  .simpa using G.1 rfl
 refine⟨_,_,B5.pure (u:=[]) ?_,Z⟩;intro C S a hW _ z;have Q:=z c (by rw[O];simp[Op.operands]);have h2:=z x (by rw[O];simp[Op.operands]);have h3:=z y (by rw[O];simp[Op.operands]);rw[hc] at Q;simp only[Aa,rd] at Q;refine⟨if b then a.eval x else a.eval y,?_,?_⟩
 .simp[execOp,O,Q,asBool]
 .cases b<;>simp_all
def bX{n:Nat}{x:AV}{e:Option Aq}(z:Q9 n x K e):(∃e',e=some e')/\K x {use:=[n]}:=by
 cases e with
 |none=>exact z.elim
 |some e=>exact⟨⟨e,rfl⟩,z⟩
def Qvi{x:Operand}(Q:o.op= .nilCheck x)(O:gR h K (Aw tm x)):BJ P tm h nx o K:=by
 cases hx:Aw tm x<;>rw[hx] at O<;>try exact O.elim
 case im d=>
  cases d<;>try exact O.elim
  all_goals
   refine⟨_,_,B5.pure (u:=[]) ?_,O⟩;intro C S a hW _ G;have z:=G x (by rw[Q];simp[Op.operands]);rw[hx] at z;refine⟨_,?_,z⟩;simp only[Aa,rd] at z
   first
    |(obtain⟨b,p,vs,T,fr,z,_⟩:=z;simp[execOp,Q,z];done)
    |(obtain⟨v,z,_⟩:=z;simp[execOp,Q,z])
 case ptr n p=>
  obtain⟨⟨e,Z⟩,O⟩:=bX O;refine⟨_,_,B5.pure (u:=[n]) ?_,O⟩;intro C S a hW hu G;have z:=G x (by rw[Q];simp[Op.operands]);rw[hx] at z;refine⟨_,?_,z⟩;simp only[Aa] at z;obtain⟨l,hl,hv⟩:=z.2 e (by rw[hu n (by simp),Z]);simp[execOp,Q,hv]
 case eptr n i p=>
  obtain⟨⟨e,Z⟩,O⟩:=bX O;refine⟨_,_,B5.pure (u:=[n]) ?_,O⟩;intro C S a hW hu G;have z:=G x (by rw[Q];simp[Op.operands]);rw[hx] at z;refine⟨_,?_,z⟩;simp only[Aa] at z;obtain⟨l,hl,hv⟩:=z.2 e (by rw[hu n (by simp),Z]);simp[execOp,Q,hv]
def TY{op:UnOp}{T:TypeId}{x:Operand}(Q:o.op= .unOp op T x)(G:Yf K op (Aw tm x)):BJ P tm h nx o K:=by
 cases hx:Aw tm x<;>rw[hx] at G<;>cases op<;>try exact G.elim
 all_goals
  rename_i d;cases d<;>try exact G.elim
 all_goals
  refine⟨_,_,B5.pure (u:=[]) ?_,G⟩;intro C S a hW _ z;have O:=z x (by rw[Q];simp[Op.operands]);rw[hx] at O;simp only[Aa,rd] at O;refine⟨_,by simp[execOp,Q,O,Op.unary,Op.intArith];rfl,by simp only[Aa,rd]⟩
def Qyh{x:Operand}{i:Nat}(ho:o.op= .extract x i)(O:gQ i K (Aw tm x)):BJ P tm h nx o K:=by
 cases hx:Aw tm x<;>rw[hx] at O<;>try exact O.elim
 case im d=>
  cases d<;>try exact O.elim
  rename_i cs;simp only[gQ] at O;cases z:cs[i]? with
  |none=>rw[z] at O;exact O.elim
  |some d=>
   rw[z] at O;refine⟨_,_,B5.pure (u:=[]) ?_,O⟩;intro C S a hW _ Q;have G:=Q x (by rw[ho];simp[Op.operands]);rw[hx] at G;simp only[Aa,rd] at G;obtain⟨vs,G,Z⟩:=G;have aa: ∀(i:Nat) (cs:List D) (vs:List Value),rdl S.ok S.hp cs vs->cs[i]? =some d-> ∃v,vs[i]? =some v/\rd S.ok S.hp d v:=by
    intro i;induction i with
    |zero=>
     intro cs vs h z;cases cs with
     |nil=>simp at z
     |cons c cs=>simp at z;subst z;simp only[rdl] at h;obtain⟨v,r,rfl,G,_⟩:=h;exact⟨v,by simp,G⟩
    |succ i ih=>
     intro cs vs h z;cases cs with
     |nil=>simp at z
     |cons c cs=>simp at z;simp only[rdl] at h;obtain⟨v,r,rfl,_,Z⟩:=h;simpa using ih cs r Z z
   obtain⟨v,hv,hd⟩:=aa i cs vs.toList Z z;refine⟨v,?_,by simpa only[Aa] using hd⟩;simp at hv;simp[execOp,ho,G,Instr.extract,hv]
 case tup cs=>
  simp only[gQ] at O;cases z:cs[i]? with
  |none=>rw[z] at O;exact O.elim
  |some d=>
   rw[z] at O;refine⟨_,_,B5.pure (u:=[]) ?_,O⟩;intro C S a hW _ Q;have G:=Q x (by rw[ho];simp[Op.operands]);rw[hx] at G;simp only[Aa] at G;obtain⟨vs,G,Z⟩:=G;have aa: ∀(i:Nat) (cs:List AV) (vs:List Value),AM S cs vs->cs[i]? =some d-> ∃v,vs[i]? =some v/\Aa S d v:=by
    intro i;induction i with
    |zero=>
     intro cs vs h z;cases cs with
     |nil=>simp at z
     |cons c cs=>simp at z;subst z;simp only[AM] at h;obtain⟨v,r,rfl,G,_⟩:=h;exact⟨v,by simp,G⟩
    |succ i ih=>
     intro cs vs h z;cases cs with
     |nil=>simp at z
     |cons c cs=>simp at z;simp only[AM] at h;obtain⟨v,r,rfl,_,Z⟩:=h;simpa using ih cs r Z z
   obtain⟨v,hv,hd⟩:=aa i cs vs.toList Z z;refine⟨v,?_,hd⟩;simp at hv;simp[execOp,ho,G,Instr.extract,hv]
end
section
variable {P:Program}{tm:List (Nat×AV)}{h:Nat->Option Aq}{nx:Nat}{o:Oper}{K:Ai}
def bK{T:TypeId}{ti:TI}(Q:tI P T=some ti){w:World}{b p:Nat}{vs:Array Value}{U:TypeId}{fr:Nat×Nat}
 (hb:w.heap[b]? =some (.cells vs U fr))(hn:ti.size<=(vs.toList.drop p).length)(hs:ti.agg=true\/ti.size=1):
 (loadVar T ⟨b,p,none⟩).run P w= .ok (if ti.agg then .agg ((vs.toList.drop p).take ti.size).toArray else ((vs.toList.drop p).take ti.size).headD undef) w:=by
 have G: ∀j v,((vs.toList.drop p).take ti.size)[j]? =some v->w.cell? ((⟨b,p,none⟩:Addr).add j)=some v:=by
  intro j v O;rw[Ps,Qyp hb];rw[YZ] at O;split at O
  .rw[HN] at O;simpa using O
  .cases O
 have Z:((vs.toList.drop p).take ti.size).length=ti.size:=by rw[Ci];omega
 have z:=run_loadCells_list (P:=P) w ⟨b,p,none⟩ _ G;rw[Z] at z;unfold loadVar;cases ha:ti.agg with
 |true=>simp[xO Q,ha,IV Q,z]
 |false=>
  have h1:ti.size=1:=by simpa[ha] using hs
  obtain⟨v,hv⟩: ∃v,(vs.toList.drop p).take ti.size=[v]:=by
   rw[h1] at Z⊢;exact ZdQ.1 Z
  have:=G 0 v (by rw[hv];rfl)
  rw[Ps] at this;rw[hv];simp[xO Q,ha,run_load];simp at this;rw[this]
def Vk{ok:Nat->Prop}{hp:Nat->Option Obj}{ti:TI}{ds:List D}{vs:List Value}(z:rdl ok hp ds vs)(G:ds.length=ti.size)(hs:ti.agg=true\/ti.size=1):
 rd ok hp (Z5 ti.agg ds) (if ti.agg then .agg vs.toArray else vs.headD undef):=by
 cases ha:ti.agg with
 |true=>simp only[Z5,Ca,BI,rd];exact⟨_,rfl,z⟩
 |false=>
  have O:ti.size=1:=by simpa[ha] using hs
  rw[O] at G;obtain⟨d,rfl⟩:=ZdQ.1 G;simp only[rdl] at z;obtain⟨v,r,rfl,Q,Z⟩:=z;simpa[Z5,eJ] using Q
def oS{S:Ay}{ti:TI}{ds:List AV}{vs:List Value}(z:AM S ds vs)(G:ds.length=ti.size)(hs:ti.agg=true\/ti.size=1):
 Aa S (eU ti.agg ds) (if ti.agg then .agg vs.toArray else vs.headD undef):=by
 cases ha:ti.agg with
 |true=>
  simp only[eU,Ca,BI];cases hi:D8 ds with
  |none=>simp only[Xv,Aa];exact⟨_,rfl,z⟩
  |some Z=>
   simp only[Xv,Aa,rd];rw[gV hi] at z;exact⟨_,rfl,(Ia _ _).1 z⟩
 |false=>
  have O:ti.size=1:=by simpa[ha] using hs
  rw[O] at G;obtain⟨d,rfl⟩:=ZdQ.1 G;simp only[AM] at z;obtain⟨v,r,rfl,Q,h5⟩:=z;simpa[eU,zM] using Q
def yD{ok:Nat->Prop}{hp:Nat->Option Obj}{k:Nat}: ∀(i:Nat) (rows:List (List D)) (vs:List Value) (row:List D),rdr ok hp k rows vs->rows[i]? =some row->
 row.length=k/\rdp ok hp row (vs.drop (i*k))
 |_,[],_,_,_,z=>by simp at z
 |0,r::G,vs,row,h,z=>by
  simp at z;subst z;simp only[rdr] at h;simpa using ⟨h.1,h.2.1⟩
 |i+1,r::G,vs,row,h,z=>by
  simp only[rdr] at h
  have:=yD i G (vs.drop k) row h.2.2 (by simpa using z)
  rw[Ey] at this;rwa [Fi,Iq,rV]
def Qw7{S:Ay}{k:Nat}: ∀(i:Nat) (rows:List (List AV)) (vs:List Value) (row:List AV),BB S k rows vs->rows[i]? =some row->
 row.length=k/\Cn S row (vs.drop (i*k))
 |_,[],_,_,_,z=>by simp at z
 |0,r::G,vs,row,h,z=>by
  simp at z;subst z;simp only[BB] at h;simpa using ⟨h.1,h.2.1⟩
 |i+1,r::G,vs,row,h,z=>by
  simp only[BB] at h
  have:=Qw7 i G (vs.drop k) row h.2.2 (by simpa using z)
  rw[Ey] at this;rwa [Fi,Iq,rV]
def TV{T:TypeId}{x:Operand}(ho:o.op= .load T x)(z:Bc (xA h (Aw tm x) K) (tI P T)):BJ P tm h nx o K:=by
 cases hT:tI P T with
 |none=>rw[hT] at z;exact z.elim
 |some ti=>
  rw[hT] at z;simp only[Bc,xA] at z;cases hx:Aw tm x<;>rw[hx] at z<;>try exact z.elim
  case im d=>
   cases d<;>try exact z.elim
   case ref cs=>
    simp only[Wn,cH,GN,Fh] at z;obtain⟨hs,aa,z⟩:=z;refine⟨_,_,B5.pure (u:=[]) ?_,z⟩;intro C S a hW _ G;have Q:=G x (by rw[ho];simp[Op.operands]);rw[hx] at Q;simp only[Aa,rd] at Q;obtain⟨b,p,vs,U,fr,hv,ag,hb,hr⟩:=Q;obtain⟨h2,h3⟩:=UE ti.size cs _ hr aa;refine⟨_,?_,by simp only[Aa];exact Vk h3 (by rw[Ci];omega) hs⟩;simp[execOp,ho,hv,Instr.loadAt,Instr.sureAddr,bK hT hb h2 hs]
   case gp g=>
    simp only[Wn] at z;obtain⟨hg,hz,ha,z⟩:=z;refine⟨_,_,B5.pure (u:=[]) ?_,z⟩;intro C S a hW _ G;have Q:=G x (by rw[ho];simp[Op.operands]);rw[hx] at Q;simp only[Aa,rd] at Q;obtain⟨ag,t2,x2,T2,fr,hb⟩:=hW.gp.at hg;refine⟨.iface t2 x2,?_,by simp only[Aa,rd];exact⟨ag,⟨t2,x2,rfl⟩,T2,fr,hb⟩⟩;have hl:=bK hT (w:=S.w) (p:=0) hb (by simp[hz]) (.inr hz);simp[execOp,ho,Q,Instr.loadAt,Instr.sureAddr,hl,ha,hz]
  case ptr n p=>
   simp only[Wn] at z;cases hn:h n with
   |none=>rw[hn] at z;exact z.elim
   |some e=>
    rw[hn] at z;obtain⟨m,e⟩:=e;cases e<;>try exact z.elim
    case cells U cs=>
     simp only[IA,rE] at z;obtain⟨hs,aa,z⟩:=z;refine⟨_,_,B5.pure (u:=[n]) ?_,z⟩;intro C S a hW hu G;have Q:=G x (by rw[ho];simp[Op.operands]);have Z:S.h n=some (m,.cells U cs):=(hu n (by simp)).trans hn;rw[hx] at Q;simp only[Aa] at Q;obtain⟨l,hl,hv⟩:=Q.2 _ Z;have O:=hW.obj _ _ Z;simp only[Au] at O;obtain⟨lc,vs,ab,ah,hb,ad⟩:=O;rw[hl] at ab;obtain rfl:=AE ab;have h2:=gM p cs _ (VM _ _ ad) (by omega);obtain⟨h3,h4⟩:=VL ti.size _ _ h2 (by rw[Cx];omega);refine⟨_,?_,oS h4 (by rw[Ci,Cx];omega) hs⟩;simp[execOp,ho,hv,ah,Instr.loadAt,Instr.sureAddr,bK hT hb h3 hs]
    case view cs=>
     simp only[IA,cH] at z;obtain⟨hs,aa,z⟩:=z;refine⟨_,_,B5.pure (u:=[n]) ?_,z⟩;intro C S a hW hu G;have Q:=G x (by rw[ho];simp[Op.operands]);have Z:S.h n=some (m,.view cs):=(hu n (by simp)).trans hn;rw[hx] at Q;simp only[Aa] at Q;obtain⟨l,hl,hv⟩:=Q.2 _ Z;have O:=hW.obj _ _ Z;simp only[Au] at O;obtain⟨lc,vs,U,fr,ab,hb,ad⟩:=O;rw[hl] at ab;obtain rfl:=AE ab;have h2:=UB p _ _ ad (by omega);obtain⟨h3,h4⟩:=UE ti.size _ _ h2 (by rw[Cx];omega);rw[Ey] at h3 h4;refine⟨_,?_,by simp only[Aa];exact Vk h4 (by rw[Ci,Cx];omega) hs⟩;simp[execOp,ho,hv,Instr.loadAt,Instr.sureAddr,bK hT hb h3 hs]
  case eptr n i p=>
   simp only[Wn] at z;cases hn:h n with
   |none=>rw[hn] at z;exact z.elim
   |some e=>
    rw[hn] at z;obtain⟨m,e⟩:=e;cases e<;>try exact z.elim
    case arr U k rows=>
     simp only[I9,IX,cH] at z;obtain⟨hi,z⟩:=z;obtain⟨hs,aa,z⟩:=z rows[i] (Bh hi);refine⟨_,_,B5.pure (u:=[n]) ?_,z⟩;intro C S a hW hu G;have Q:=G x (by rw[ho];simp[Op.operands]);have Z:S.h n=some (m,.arr U k rows):=(hu n (by simp)).trans hn;rw[hx] at Q;simp only[Aa] at Q;obtain⟨l,hl,hv⟩:=Q.2 _ Z;have O:=hW.obj _ _ Z;rw[hl] at O;simp only[Au] at O;obtain⟨_,af,vs,hb,aj,hr⟩:=O;obtain⟨ai,ac⟩:=yD i rows _ _ hr (Bh hi);have h2:=UB p _ _ ac (by omega);obtain⟨h3,h4⟩:=UE ti.size _ _ h2 (by rw[Cx];omega);rw[Ey,Ey,<-PA] at h3 h4;refine⟨_,?_,by simp only[Aa];exact Vk h4 (by rw[Ci,Cx];omega) hs⟩;simp only[Ad.esz] at hv;simp[execOp,ho,hv,Instr.loadAt,Instr.sureAddr,bK hT hb h3 hs]
    case arrA U k rows=>
     simp only[I9,IX,rE] at z;obtain⟨hi,z⟩:=z;obtain⟨hs,aa,z⟩:=z rows[i] (Bh hi);refine⟨_,_,B5.pure (u:=[n]) ?_,z⟩;intro C S a hW hu G;have Q:=G x (by rw[ho];simp[Op.operands]);have Z:S.h n=some (m,.arrA U k rows):=(hu n (by simp)).trans hn;rw[hx] at Q;simp only[Aa] at Q;obtain⟨l,hl,hv⟩:=Q.2 _ Z;have O:=hW.obj _ _ Z;rw[hl] at O;simp only[Au] at O;obtain⟨_,af,vs,hb,aj,hr⟩:=O;obtain⟨ai,ac⟩:=Qw7 i rows _ _ hr (Bh hi);have h2:=gM p _ _ ac (by omega);obtain⟨h3,h4⟩:=VL ti.size _ _ h2 (by rw[Cx];omega);rw[Ey,Ey,<-PA] at h3 h4;refine⟨_,?_,oS h4 (by rw[Ci,Cx];omega) hs⟩;simp only[Ad.esz] at hv;simp[execOp,ho,hv,Instr.loadAt,Instr.sureAddr,bK hT hb h3 hs]
def vA{u:TypeDesc}(P:Program):(∃z:Array Field,u= .struct z/\(z.toList.all λf=>(P.info? f.type).isSome)=true/\
 Fa P u= .struct (z.toList.map λf=>(f.offset,((P.info? f.type).map (·.size)).getD 0)))\/
 (∃z,u= .struct z/\Fa P u= .other)\/(∀z,u≠ .struct z):=by
 cases u<;>try (right;right;intro f hf;cases hf;done)
 rename_i z;cases hh:(z.toList.all λf=>(P.info? f.type).isSome) with
 |true=>left;exact⟨z,rfl,hh,by simp only[Fa,hh,Ca]⟩
 |false=>right;left;exact⟨z,rfl,by simp only[Fa,hh,B8]⟩
def Qut{T:TypeId}{ti:TI}(hT:tI P T=some ti){fs:List (Nat×Nat)}(hf:ti.kind= .struct fs):
 ∃z,P.underlying T=some (.struct z)/\(z.toList.all λf=>(P.info? f.type).isSome)=true/\fs=z.toList.map λf=>(f.offset,((P.info? f.type).map (·.size)).getD 0):=by
 obtain⟨i,u,hi,hu,h1,h2,h3,G,h5⟩:=Pv hT;rw[hf] at G;rcases vA P (u:=u) with ⟨z,rfl,O,Q⟩|⟨z,rfl,Q⟩|Z
 .rw[Q] at G;exact⟨z,hu,O,by simpa using G⟩
 .rw[Q] at G;cases G
 .cases u<;>simp only[Fa,reduceCtorEq] at G;exact absurd rfl (Z _)
def YK(u:TypeDesc):TK->Prop
 | .int k=>u= .int k
 | .str=>u= .string
 | .bool=>u= .bool
 | .ptr e=>u= .pointer e
 |_=>True
def Pb(P:Program)(u:TypeDesc):YK u (Fa P u):=by
 cases u<;>try (simp only[Fa,YK];done)
 rename_i z;cases hh:(z.toList.all λf=>(P.info? f.type).isSome)<;>simp only[Fa,hh,Ca,B8,YK]
def wY{T:TypeId}{ti:TI}(G:tI P T=some ti): ∃u,P.underlying T=some u/\YK u ti.kind:=by
 obtain⟨i,u,hi,O,Q,Z,h3,z,h5⟩:=Pv G;exact⟨u,O,z▸Pb P u⟩
def Uo{T:TypeId}{ti:TI}(z:tI P T=some ti){k:IntKind}(hf:ti.kind= .int k):P.underlying T=some (.int k):=by
 obtain⟨u,G,hb⟩:=wY z;rw[hf] at hb;simp only[YK] at hb;rw[G,hb]
def V0{T:TypeId}{ti:TI}(z:tI P T=some ti)(hf:ti.kind= .str):P.underlying T=some .string:=by
 obtain⟨u,G,hb⟩:=wY z;rw[hf] at hb;simp only[YK] at hb;rw[G,hb]
def Ym{T:TypeId}{ti:TI}(z:tI P T=some ti)(hf:ti.kind= .bool):P.underlying T=some .bool:=by
 obtain⟨u,G,hb⟩:=wY z;rw[hf] at hb;simp only[YK] at hb;rw[G,hb]
def gD{T e:TypeId}{ti:TI}(z:tI P T=some ti)(hf:ti.kind= .ptr e):P.underlying T=some (.pointer e):=by
 obtain⟨u,G,hb⟩:=wY z;rw[hf] at hb;simp only[YK] at hb;rw[G,hb]
def Qjn{T:TypeId}{ti:TI}(hT:tI P T=some ti){fs:List (Nat×Nat)}(hf:ti.kind= .struct fs){f off sz:Nat}(G:fs[f]? =some (off,sz))(Q:sz≠0)
 (w:World)(b p:Nat):(Instr.fieldAt T (.pointer (some ⟨b,p,none⟩)) f).run P w= .ok (.pointer (some ⟨b,p+off,none⟩)) w:=by
 obtain⟨z,hu,_,rfl⟩:=Qut hT hf;rw[D9] at G;cases hfe:z.toList[f]? with
 |none=>rw[hfe] at G;simp at G
 |some Z=>
  rw[hfe] at G;simp only[Ds,AI,Ej] at G;obtain⟨rfl,rfl⟩:=G;have O:z[f]? =some Z:=by simpa using hfe
  cases hin:P.info? Z.type with
  |none=>rw[hin] at Q;simp at Q
  |some aa=>
   rw[hin] at Q;simp only[Ds,AQ] at Q;simp[Instr.fieldAt,underlying,hu,O,Instr.sureAddr,fieldPlace,sizeOf,typeInfo,hin,Q,Ps]
def Qsq{T:TypeId}{x:Operand}{f:Nat}(Z:o.op= .fieldAddr T x f)(z:Bc (uY h (Aw tm x) f K) (tI P T)):BJ P tm h nx o K:=by
 cases hT:tI P T with
 |none=>rw[hT] at z;exact z.elim
 |some ti=>
  rw[hT] at z;simp only[Bc,uY] at z;cases hf:ti.kind<;>rw[hf] at z<;>try exact z.elim
  rename_i fs;simp only[faK] at z;cases hi:fs[f]? with
  |none=>rw[hi] at z;exact z.elim
  |some q=>
   obtain⟨off,sz⟩:=q;rw[hi] at z;simp only[WW] at z;obtain⟨hz,z⟩:=z;cases hx:Aw tm x<;>rw[hx] at z<;>try exact z.elim
   case im d=>
    cases d<;>try exact z.elim
    rename_i cs;simp only[JQ] at z;obtain⟨aa,z⟩:=z;refine⟨_,_,B5.pure (u:=[]) ?_,z⟩;intro C S a hW _ G;have O:=G x (by rw[Z];simp[Op.operands]);rw[hx] at O;simp only[Aa,rd] at O;obtain⟨b,p,vs,U,fr,hv,ab,hb,hr⟩:=O;refine⟨_,by simp[execOp,Z,hv,Qjn hT hf hi hz];rfl,?_⟩;simp only[Aa,rd]
    have:=UB off _ _ hr aa
    rw[Ey] at this;exact⟨b,p+off,vs,U,fr,rfl,ab,hb,this⟩
   case ptr n p=>
    simp only[JQ] at z;obtain⟨⟨e,he⟩,z⟩:=bX z;refine⟨_,_,B5.pure (u:=[n]) ?_,z⟩;intro C S a hW hu G;have O:=G x (by rw[Z];simp[Op.operands]);rw[hx] at O;simp only[Aa] at O;have hS:S.h n=some e:=(hu n (by simp)).trans he;obtain⟨l,hl,hv⟩:=O.2 e hS;refine⟨_,by simp[execOp,Z,hv,Qjn hT hf hi hz];rfl,?_⟩;simp only[Aa];refine⟨rfl,λe' Q=>⟨l,hl,by rw[PA]⟩⟩
   case eptr n i p=>
    simp only[JQ] at z;obtain⟨⟨e,he⟩,z⟩:=bX z;refine⟨_,_,B5.pure (u:=[n]) ?_,z⟩;intro C S a hW hu G;have O:=G x (by rw[Z];simp[Op.operands]);rw[hx] at O;simp only[Aa] at O;have hS:S.h n=some e:=(hu n (by simp)).trans he;obtain⟨l,hl,hv⟩:=O.2 e hS;refine⟨_,by simp[execOp,Z,hv,Qjn hT hf hi hz];rfl,?_⟩;simp only[Aa];refine⟨rfl,λe' Q=>⟨l,hl,?_⟩⟩;rw[hS] at Q;obtain rfl:=AE Q;rw[PA]
def Pt{T:TypeId}{ti:TI}(hT:tI P T=some ti){e:TypeId}(hf:ti.kind= .slice e):P.underlying T=some (.slice e):=by
 obtain⟨i,u,hi,hu,h1,h2,h3,G,h5⟩:=Pv hT;rw[hf] at G;rcases vA P (u:=u) with ⟨z,rfl,Z,O⟩|⟨z,rfl,O⟩|Q
 .rw[O] at G;cases G
 .rw[O] at G;cases G
 cases u<;>simp only[Fa,TK.slice.injEq,reduceCtorEq] at G;rotate_left
 .exact absurd rfl (Q _)
 rw[G];exact hu
def Qs2{T:TypeId}{ti:TI}(hT:tI P T=some ti){n:Nat}{e:TypeId}(hf:ti.kind= .array n e):P.underlying T=some (.array n e):=by
 obtain⟨i,u,hi,hu,h1,h2,h3,G,h5⟩:=Pv hT;rw[hf] at G;rcases vA P (u:=u) with ⟨z,rfl,Z,O⟩|⟨z,rfl,O⟩|Q
 .rw[O] at G;cases G
 .rw[O] at G;cases G
 cases u<;>simp only[Fa,TK.array.injEq,reduceCtorEq] at G;rotate_left
 .exact absurd rfl (Q _)
 obtain⟨rfl,rfl⟩:=G;exact hu
def iR{T:TypeId}{ti:TI}(hT:tI P T=some ti){n:TypeId}{e:TypeId}(hf:ti.kind= .map n e):P.underlying T=some (.map n e):=by
 obtain⟨i,u,hi,hu,h1,h2,h3,G,h5⟩:=Pv hT;rw[hf] at G;rcases vA P (u:=u) with ⟨z,rfl,Z,O⟩|⟨z,rfl,O⟩|Q
 .rw[O] at G;cases G
 .rw[O] at G;cases G
 cases u<;>simp only[Fa,TK.map.injEq,reduceCtorEq] at G;rotate_left
 .exact absurd rfl (Q _)
 obtain⟨rfl,rfl⟩:=G;exact hu
def Qsk{T:TypeId}{x i:Operand}(ho:o.op= .indexAddr T x i)(z:Bc (uP P h (Aw tm x) (Aw tm i) K) (tI P T)):BJ P tm h nx o K:=by
 cases hT:tI P T with
 |none=>rw[hT] at z;exact z.elim
 |some ti=>
  rw[hT] at z;simp only[Bc,uP] at z;cases hi:Aw tm i<;>rw[hi] at z<;>try exact z.elim
  rename_i d;cases d<;>try exact z.elim
  rename_i ik n;simp only[Qjp] at z;cases hf:ti.kind<;>rw[hf] at z<;>try exact z.elim
  case slice e=>
   have Q:=Pt hT hf;simp only[sN] at z;cases hE:tI P e with
   |none=>rw[hE] at z;exact z.elim
   |some te=>
    rw[hE] at z;simp only[Bc,Xh] at z;cases hx:Aw tm x<;>rw[hx] at z<;>try exact z.elim
    case im d=>
     cases d<;>try exact z.elim
     rename_i nz k rows;obtain⟨ad,h0,hn,z⟩:=z;have ac:n.toNat<rows.length:=by omega
     have z:=z rows[n.toNat] (Bh ac);refine⟨_,_,B5.pure (u:=[]) ?_,z⟩;intro C S a hW _ G;have Z:=G x (by rw[ho];simp[Op.operands]);have h2:=G i (by rw[ho];simp[Op.operands]);rw[hx] at Z;rw[hi] at h2;simp only[Aa,rd] at Z h2;rcases Z with ⟨_,ai⟩|⟨b,p,cap,vs,U,fr,hv,_,_,_,ag,hb,hr⟩
     .rw[ai] at ac;simp at ac
     obtain⟨ak,O⟩:=yD n.toNat rows _ _ hr (Bh ac);rw[Ey] at O;refine⟨.pointer (some ⟨b,p+n.toNat*k,none⟩),?_,?_⟩
     .simp[execOp,ho,h2,hv,Instr.indexAt,asIntOf,underlying,Q,h0,hn,IV hE,Ps,ad]
     .simp only[Aa,rd];exact⟨b,_,vs,U,fr,rfl,ag,hb,O⟩
    case own m=>
     change L2 m n K te (h m) at z;cases hm:h m with
     |none=>rw[hm] at z;exact z.elim
     |some q=>
      rw[hm] at z;obtain⟨mu,q⟩:=q;have aj: ∃k len,q.esz=k/\q.len=len/\k=te.size/\0<=n/\n<(len:Int)/\K (.eptr m n.toNat 0) {use:=[m]}:=by
       cases q<;>try exact z.elim
       all_goals exact⟨_,_,rfl,rfl,z⟩
      obtain⟨k,len,ah,aa,ad,h0,hn,z⟩:=aj;refine⟨_,_,B5.pure (u:=[m]) ?_,z⟩;intro C S a hW hu G;have Z:=G x (by rw[ho];simp[Op.operands]);have h2:=G i (by rw[ho];simp[Op.operands]);rw[hx] at Z;rw[hi] at h2;have hS:S.h m=some (mu,q):=(hu m (by simp)).trans hm;simp only[Aa,rd] at Z h2;have h3:=Z.2 _ hS;cases hl:S.ρ m with
      |none=>
       exfalso;have af:=hW.obj _ _ hS;rw[hl] at af
       have:q.len=0:=by
        cases q<;>simp only[Au] at af<;>simp[Ad.len]<;>(try exact af.2)
       omega
      |some l=>
       rw[hl] at h3;simp only at h3;refine⟨.pointer (some ⟨l.b,l.p+n.toNat*k,none⟩),?_,?_⟩
       .rw[aa] at h3;simp[execOp,ho,h2,h3,Instr.indexAt,asIntOf,underlying,Q,h0,hn,IV hE,Ps,ad]
       .simp only[Aa];refine⟨rfl,λe' ab=>⟨l,hl,?_⟩⟩;rw[hS] at ab;obtain rfl:=AE ab;simp[ah]
  case array m e=>
   have Q:=Qs2 hT hf;simp only[sN] at z;cases hE:tI P e with
   |none=>rw[hE] at z;exact z.elim
   |some te=>
    rw[hE] at z;simp only[Bc,L0] at z;cases hx:Aw tm x<;>rw[hx] at z<;>try exact z.elim
    case im d=>
     cases d<;>try exact z.elim
     rename_i cs;obtain⟨h0,hn,aa,z⟩:=z;refine⟨_,_,B5.pure (u:=[]) ?_,z⟩;intro C S a hW _ G;have Z:=G x (by rw[ho];simp[Op.operands]);have h2:=G i (by rw[ho];simp[Op.operands]);rw[hx] at Z;rw[hi] at h2;simp only[Aa,rd] at Z h2;obtain⟨b,p,vs,U,fr,hv,ag,hb,hr⟩:=Z;have O:=UB (n.toNat*te.size) _ _ hr aa;rw[Ey] at O;refine⟨.pointer (some ⟨b,p+n.toNat*te.size,none⟩),?_,?_⟩
     .simp[execOp,ho,h2,hv,Instr.indexAt,asIntOf,underlying,Q,h0,hn,IV hE,Ps,Instr.sureAddr]
     .simp only[Aa,rd];exact⟨b,_,vs,U,fr,rfl,ag,hb,O⟩
    case ptr q p=>
     obtain⟨h0,hn,z⟩:=z;obtain⟨⟨e',ab⟩,z⟩:=bX z;refine⟨_,_,B5.pure (u:=[q]) ?_,z⟩;intro C S a hW hu G;have Z:=G x (by rw[ho];simp[Op.operands]);have h2:=G i (by rw[ho];simp[Op.operands]);rw[hx] at Z;rw[hi] at h2;have hS:S.h q=some e':=(hu q (by simp)).trans ab;simp only[Aa,rd] at Z h2;obtain⟨l,hl,hv⟩:=Z.2 _ hS;refine⟨.pointer (some ⟨l.b,l.p+p+n.toNat*te.size,none⟩),?_,?_⟩
     .simp[execOp,ho,h2,hv,Instr.indexAt,asIntOf,underlying,Q,h0,hn,IV hE,Ps,Instr.sureAddr]
     .simp only[Aa];exact⟨rfl,λ_ _=>⟨l,hl,by rw[PA]⟩⟩
end
def Ay.ice(S:Ay)(X:Nat->Bool):Ay:=⟨S.ρ,λb=>S.ok b\/ ∃o e l,X o=false/\S.h o=some e/\e.2.isView=false/\S.ρ o=some l/\l.b=b,λo=>(S.h o).map λe=>(e.1 && X o,e.2),S.w⟩
def UD{S:Ay}{X:Nat->Bool}{o:Nat}{e':Aq}(h:(S.ice X).h o=some e'): ∃e,S.h o=some e/\e'=(e.1 && X o,e.2):=by
 simp only[Ay.ice,Df] at h;obtain⟨e,z,rfl⟩:=h;exact⟨e,z,rfl⟩
def He(S:Ay)(X:Nat->Bool):Bx (λ_=>True) S (S.ice X):=by
 refine⟨λb hb=>⟨.inl hb,rfl⟩,?_⟩;intro o _ e' z;obtain⟨e,G,rfl⟩:=UD z;exact⟨e,G,rfl,rfl,rfl⟩
def UI{C:AX}{S:Ay}{X:Nat->Bool}(hW:Wf C S):Wf C (S.ice X):=by
 have hp:=He S X;refine⟨hW.os,hW.tape,hW.output,hW.size,hW.keep,λb hb=> .inl (hW.ok0 b hb),?_,?_,?_,?_,?_,hW.gl⟩
 .rintro b (hb|⟨o,e,l,_,O,hv,Q,rfl⟩)
  .exact hW.ok1 b hb
  .obtain⟨_,z⟩:=hW.loc o e l O Q;cases hm:e.1 with
   |false=>rw[hm,hv] at z;exact hW.ok1 _ (by simpa using z)
   |true=>
    rw[hm] at z;simp only[BI] at z;exact .inr z.2
 .rintro b (hb|⟨o,e,l,_,O,_,Q,rfl⟩)
  .exact hW.oks b hb
  .exact (hW.loc o e l O Q).1
 .intro o e' G;obtain⟨e,O,rfl⟩:=UD G;exact H8 hp (λ_ _=>rfl) _ (λ_ _=>trivial) (hW.obj o e O)
 .intro o e' l G Q;obtain⟨e,O,rfl⟩:=UD G;obtain⟨h1,z⟩:=hW.loc o e l O Q;refine⟨h1,?_⟩;cases hX:X o with
  |false=>
   simp only[Zg,CE,Cy];cases hv:e.2.isView with
   |true=>exact .inr rfl
   |false=>exact .inl (.inr ⟨o,e,l,hX,O,hv,Q,rfl⟩)
  |true=>
   cases hm:e.1 with
   |false=>
    rw[hm] at z;simp only[Ei,CE,Cy] at z⊢;exact z.imp .inl id
   |true=>
    rw[hm] at z;simp only[Zi,BI] at z⊢;refine⟨?_,z.2⟩;rintro (hb|⟨o',e',l',aa,G,_,Z,hb⟩)
    .exact z.1 hb
    .have:=hW.inj o' o e' e l' l G O Z Q hb (by simp[hm])
     subst this;rw[hX] at aa;cases aa
 .intro o o' e1 e2 l l' h1 z Q Z hb ab;obtain⟨e,O,q1⟩:=UD h1;obtain⟨e',G,q2⟩:=UD z;refine hW.inj o o' e e' l l' O G Q Z hb ?_;subst q1 q2;simp only[Hp,AS] at ab⊢;exact ab.imp And.left And.left
def iN{C:AX}{S:Ay}(hW:Wf C S){X:Nat->Bool}{o:Nat}{e:Aq}{l:Fj}(Q:X o=false)(Z:(S.ice X).h o=some e)(hv:e.2.isView=false)(hl:(S.ice X).ρ o=some l):(S.ice X).ok l.b:=by
 obtain⟨z,G,O⟩:=UD Z;subst O;exact .inr ⟨o,z,l,Q,G,hv,hl,rfl⟩
def RN{S:Ay}{F:Ap}{u:List Nat}(z: ∀n e,(n,e)∈F-> ∃mu,S.h n=some (mu,e.2)/\e.1=false):
 (S.ice λn=> !(F.map (·.1)).contains n).h=({use:=u,kill:=F.map (·.1),new:=F}:Bk).appf S.h:=by
 funext n;have Q: ∀(G:Ap) (e:Aq),hget G n=some e->(n,e)∈G:=by
  intro G;induction G with
  |nil=>intro e h;simp[hget] at h
  |cons p G ih=>
   intro e h;obtain⟨q,y⟩:=p;simp only[hget] at h;cases hq:q==n<;>rw[hq] at h
   .exact BR _ (ih e (by simpa using h))
   .have:q=n:=by simpa using hq
    subst this;simp only[Ca,AI] at h;subst h;simp
 have O: ∀(G:Ap),hget G n=none->n∉G.map (·.1):=by
  intro G;induction G with
  |nil=>intro _;simp
  |cons p G ih=>
   intro h;obtain⟨q,y⟩:=p;simp only[hget] at h;cases hq:q==n<;>rw[hq] at h
   .have:q≠n:=by simpa using hq
    simp only[Bd,Bi,Zl];exact⟨λh'=>this h'.symm,ih (by simpa using h)⟩
   .simp at h
 simp only[Bk.appf,Ay.ice];cases hg:hget F n with
 |some e=>
  have Z:=Q F e hg;obtain⟨mu,q1,q2⟩:=z n e Z;rw[q1]
  have:n∈F.map (·.1):=Bm.2 ⟨_,Z,rfl⟩
  rw[Gi.2 this];obtain⟨e1,e2⟩:=e;simp only at q2;simp[q2]
 |none=>
  have hc:(F.map (·.1)).contains n=false:=by
   rw[Ny];intro h';exact O F hg (Gi.1 h')
  rw[hc];simp only[B8,Q6,ET];cases S.h n with
  |none=>rfl
  |some e=>rfl
section
variable {P:Program}{tm:List (Nat×AV)}{h:Nat->Option Aq}{nx:Nat}{o:Oper}{K:Ai}
def ON{T:TypeId}{x i:Operand}(ho:o.op= .index T x i)(z:Bc (wO P (Aw tm x) (Aw tm i) K) (tI P T)):BJ P tm h nx o K:=by
 cases hT:tI P T with
 |none=>rw[hT] at z;exact z.elim
 |some ti=>
  rw[hT] at z;simp only[Bc,wO] at z;cases hi:Aw tm i<;>rw[hi] at z<;>try exact z.elim
  rename_i d;cases d<;>try exact z.elim
  rename_i ik n;simp only[Qxc] at z;cases hx:Aw tm x
  all_goals rw[hx] at z
  case im d=>
   cases d<;>(try (exfalso;generalize ti.kind=kk at z;cases kk<;>exact z))
   case str s=>
    have ac:ti.kind= .str/\0<=n/\n<(s.size:Int)/\ZM s n.toNat (kCh K):=by generalize ti.kind=kk at z;cases kk<;>first|exact z.elim|exact⟨rfl,z⟩
    obtain⟨ad,h0,hn,z⟩:=ac;have Q:n.toNat<s.data.size:=by show n.toNat<s.size;omega
    have O:P.underlying T=some .string:=V0 hT ad;refine⟨_,_,B5.pure (u:=[]) ?_,z s.data[n.toNat] (by simp)⟩;intro C S a hW _ G;have h1:=G x (by rw[ho];simp[Op.operands]);have Z:=G i (by rw[ho];simp[Op.operands]);rw[hx] at h1;rw[hi] at Z;simp only[Aa,rd] at h1 Z;have ab:n.toNat<s.size:=Q;refine⟨.int .u8 (s.data[n.toNat].toNat),?_,by simp only[Aa,rd]⟩;simp[execOp,ho,Z,h1,Instr.index,asIntOf,underlying,O,h0,ab];rfl
   case agg cs=>
    cases hf:ti.kind<;>rw[hf] at z<;>try exact z.elim
    rename_i m e;have O:=Qs2 hT hf;simp only[zO] at z;cases hE:tI P e with
    |none=>rw[hE] at z;exact z.elim
    |some te=>
     rw[hE] at z;simp only[Bc,RW] at z;obtain⟨hs,h0,hn,af,z⟩:=z;refine⟨_,_,B5.pure (u:=[]) ?_,z⟩;intro C S a hW _ G;have h1:=G x (by rw[ho];simp[Op.operands]);have Z:=G i (by rw[ho];simp[Op.operands]);rw[hx] at h1;rw[hi] at Z;simp only[Aa,rd] at h1 Z;obtain⟨vs,hv,hr⟩:=h1;have h3:=UB (n.toNat*te.size) _ _ (VY _ _ hr) (by omega);obtain⟨h4,h5⟩:=UE te.size _ _ h3 (by rw[Cx];omega);refine⟨_,?_,by simp only[Aa];exact Vk h5 (by rw[Ci,Cx];omega) hs⟩;cases ha:te.agg with
     |true=>
      simp[execOp,ho,Z,hv,Instr.index,asIntOf,underlying,O,h0,hn,IV hE,part,xO hE,ha];apply N4;simp[List.take_drop,rV]
     |false=>
      have aa:te.size=1:=by simpa[ha] using hs
      have Q:n.toNat*1<vs.toList.length:=by rw[aa,Cx] at h4;omega
      have hget:vs[n.toNat*te.size]? =some (vs.toList[n.toNat*1]):=by
       rw[aa];rw[<-G4,Bh Q]
      simp only[execOp,ho,Z,hv,Instr.index,asIntOf];simp[underlying,O,h0,hn,IV hE,part,xO hE,ha,hget];rw[aa];simp at Q;simp[List.head?_take,List.head?_drop,Q]
  all_goals (exfalso;generalize ti.kind=kk at z;cases kk<;>exact z)
def Qwv{O T:TypeId}{x:Operand}(ho:o.op= .convert O T x)(z:pP (PJ (tI P T)) (Aw tm x) K (tI P O)):BJ P tm h nx o K:=by
 cases hS:tI P O with
 |none=>rw[hS] at z;exact z.elim
 |some si=>
 rw[hS] at z;simp only[pP] at z;have Z:(P.underlying O).isSome:=by
  obtain⟨i,u,hi,hu,_⟩:=Pv hS;rw[hu];rfl
 cases hT:tI P T with
 |none=>rw[hT] at z;exact z.elim
 |some ti=>
  rw[hT] at z;simp only[PJ] at z;cases hf:ti.kind<;>rw[hf] at z<;>try exact z.elim
  rename_i k;cases hx:Aw tm x<;>rw[hx] at z<;>try exact z.elim
  rename_i d;cases d<;>try exact z.elim
  rename_i k0 n;simp only[Kk] at z;have hu:=Uo hT hf;obtain⟨u0,aa⟩:=ZeB.1 Z;refine⟨_,_,B5.pure (u:=[]) ?_,z⟩;intro C S a hW _ G;have Q:=G x (by rw[ho];simp[Op.operands]);rw[hx] at Q;simp only[Aa,rd] at Q;refine⟨.int k (k.wrap n),?_,by simp only[Aa,rd]⟩;simp only[execOp,ho,Q];simp only[convert,Sem.run_bind];simp[underlying,aa,hu,Conv.intToInt]
def Qh1{f:FuncId}(O:f<1000000000){first capt:Array Operand}(Q:o.op= .makeFunc (.func f) first capt)(hk:K (.clo f (Du tm first.toList) (Du tm capt.toList)) {}):BJ P tm h nx o K:=by
 refine⟨_,_,B5.pure (u:=[]) ?_,hk⟩;intro C S a hW _ z;have G: ∀(l:List Operand),(∀x∈l,Aa S (Aw tm x) (a.eval x))->AM S (Du tm l) (l.map a.eval):=by
  intro l;induction l with
  |nil=>intro _;simp[Du,AM]
  |cons x l ih=>
   intro hl;simp only[Du,AM,Bd];exact⟨_,_,rfl,hl x (by simp),ih (λy hy=>hl y (by simp[hy]))⟩
 refine⟨.func (UV f) (first.map a.eval) (capt.map a.eval),by rw[Wm O];simp[execOp,Q,Instr.makeFunc],?_⟩;simp only[Aa];refine⟨_,_,rfl,?_,?_⟩
 .rw[UT];exact G _ (λx Z=>z x (by rw[Q];simp[Op.operands];exact .inl (by simpa using Z)))
 .rw[UT];exact G _ (λx Z=>z x (by rw[Q];simp[Op.operands];exact .inr (by simpa using Z)))
def Qov{S:Ay}: ∀(z:List AV) (ds:List D) (vs:List Value),D8 z=some ds->AM S z vs->rdl S.ok S.hp ds vs
 |[],ds,vs,h,hc=>by
  simp only[D8,AI] at h;subst h;simpa only[rdl,AM] using hc
 |y::z,ds,vs,h,hc=>by
  simp only[D8] at h;simp only[AM] at hc;obtain⟨v,r,rfl,O,Q⟩:=hc;cases hy:y.asD with
  |none=>rw[hy] at h;simp[Nq] at h
  |some d=>
   cases hys:D8 z with
   |none=>rw[hy,hys] at h;simp[Nq] at h
   |some G=>
    rw[hy,hys] at h;simp only[Nq,AI] at h;subst h;cases y<;>simp only[AV.asD,reduceCtorEq] at hy;obtain rfl:=AE hy;simp only[rdl];exact⟨v,r,rfl,by simpa only[Aa] using O,Qov z G r hys Q⟩
def Qse{ok:Nat->Prop}{hp:Nat->Option Obj}: ∀(ds:List D) (vs:List Value),rdl ok hp ds vs->rdp ok hp ds vs
 |[],_,_=>by simp only[rdp]
 |d::ds,vs,h=>by
  simp only[rdl,rdp] at h⊢;obtain⟨v,r,rfl,z,G⟩:=h;exact⟨v,r,rfl,z,Qse ds r G⟩
def Qrs{C:AX}{S:Ay}(hW:Wf C S){h:Nat->Option Aq}: ∀(xs:List AV) (ds:List D) (E:Ap) (vs:List Value),NJ h xs=some (ds,E)->(∀n∈hnm E,S.h n=h n)->AM S xs vs->
 (∀n e,(n,e)∈E-> ∃Z,S.h n=some (Z,e.2)/\e.1=false)/\ ∀X:Nat->Bool,(∀n∈hnm E,X n=false)->rdl (S.ice X).ok (S.ice X).hp ds vs
 |[],ds,E,vs,G,_,hc=>by
  simp only[NJ,AI,Ej] at G;obtain⟨rfl,rfl⟩:=G;exact⟨(λn e z=>by cases z),(λX _=>by simpa only[rdl,AM] using hc)⟩
 |x::xs,ds,E,vs,G,hu,hc=>by
  simp only[NJ] at G;simp only[AM] at hc;obtain⟨v,r,rfl,hx,af⟩:=hc;cases hd:Ht h x with
  |none=>rw[hd] at G;simp[QW] at G
  |some dE=>
   obtain⟨d,E1⟩:=dE;cases hl:NJ h xs with
   |none=>rw[hd,hl] at G;simp[QW] at G
   |some q=>
    obtain⟨ad,E2⟩:=q;rw[hd,hl] at G;simp only[QW,AI,Ej] at G;obtain⟨rfl,rfl⟩:=G;have Q: ∀(a b:Ap),hnm (a++b)=hnm a++hnm b:=by
     intro a b;induction a with
     |nil=>rfl
     |cons p a ih=>obtain⟨n,e⟩:=p;simp only[CX,hnm,ih]
    rw[Q] at hu;obtain⟨i1,i2⟩:=Qrs hW xs ad E2 r hl (λn hn=>hu n (Qw _ hn)) af;have ac:(∀n e,(n,e)∈E1-> ∃Z,S.h n=some (Z,e.2)/\e.1=false)/\ ∀X:Nat->Bool,(∀n∈hnm E1,X n=false)->rd (S.ice X).ok (S.ice X).hp d v:=by
     cases x<;>try (simp[Ht] at hd;done)
     case im d'=>
      simp only[Ht,AI,Ej] at hd;obtain⟨rfl,rfl⟩:=hd;refine⟨(λn e z=>by cases z),(λX _=> ?_)⟩;simp only[Aa] at hx;exact Gs (He S X).ok _ _ hx
     case ptr o p=>
      cases p with
      |succ p=>simp[Ht] at hd
      |zero=>
       simp only[Ht] at hd;cases ho:h o with
       |none=>rw[ho] at hd;simp[QX] at hd
       |some e=>
        obtain⟨Z,e⟩:=e;rw[ho] at hd;cases e<;>simp only[QX,reduceCtorEq] at hd;rename_i T cs;cases ha:D8 cs with
        |none=>rw[ha] at hd;simp[QY] at hd
        |some es=>
         rw[ha] at hd;simp only[QY,AI,Ej] at hd;obtain⟨rfl,rfl⟩:=hd;have O:S.h o=some (Z,.cells T cs):=(hu o (by simp[hnm])).trans ho;refine⟨?_,?_⟩
         .intro n e z;simp only[BE,Ej] at z;obtain⟨rfl,rfl⟩:=z;exact⟨Z,O,rfl⟩
         .intro X hX;have ab:=hW.obj o _ O;simp only[Au] at ab;obtain⟨lc,vs,g1,g2,g3,g4⟩:=ab;simp only[Aa] at hx;obtain⟨l,aa,hv⟩:=hx.2 _ O;rw[g1] at aa;obtain rfl:=AE aa;simp only[rd];refine⟨lc.b,lc.p+0,vs,_,_,hv,.inr ⟨o,_,lc,hX o (by simp[hnm]),O,rfl,g1,rfl⟩,g3,?_⟩;rw[g2];have g5:=Qov (S:=S) cs es vs.toList ha g4;have g6:=Ky (He S X).ok es _ g5;simpa using Qse es _ g6
    refine⟨?_,?_⟩
    .intro n e z;rcases Br.1 z with z|z
     .exact ac.1 n e z
     .exact i1 n e z
    .intro X hX;rw[Q] at hX;simp only[rdl];exact⟨v,r,rfl,ac.2 X (λn hn=>hX n (JF _ hn)),i2 X (λn hn=>hX n (Qw _ hn))⟩
def Lz: ∀{E:Ap} {n:Nat},(hget E n=none->n∉hnm E)/\ ∀e,hget E n=some e->(n,e)∈E
 |[],n=>⟨λ_=>by simp[hnm],λe h=>by simp[hget] at h⟩
 |(q,x)::E,n=>by
  obtain⟨O,Q⟩:= @Lz E n;simp only[hget,hnm];cases hq:q==n
  .have z:q≠n:=by simpa using hq
   refine⟨λh=> ?_,λe h=> ?_⟩
   .simp only[Bi,Zl];exact⟨λh'=>z h'.symm,O (by simpa using h)⟩
   .exact BR _ (Q e (by simpa using h))
  .have G:q=n:=by simpa using hq
   refine⟨λh=>by simp at h,λe h=> ?_⟩;simp only[Ca,AI] at h;subst h;subst G;simp
def XX{f:FuncId}(aa:f<1000000000){first capt:Array Operand}(ho:o.op= .makeFunc (.func f) first capt)
 (z:MW f (Du tm first.toList) (Du tm capt.toList) K (NJ h (Du tm first.toList)) (NJ h (Du tm capt.toList))):BJ P tm h nx o K:=by
 cases h1:NJ h (Du tm first.toList) with
 |none=>rw[h1] at z;exact Qh1 aa ho z
 |some q1=>
  cases h2:NJ h (Du tm capt.toList) with
  |none=>rw[h1,h2] at z;exact Qh1 aa ho z
  |some q2=>
   obtain⟨a,E⟩:=q1;obtain⟨b,F⟩:=q2;rw[h1,h2] at z;simp only[MW] at z;have Z:K (.im (.fn f a b)) {use:=hnm (E++F),kill:=hnm (E++F),new:=E++F}->BJ P tm h nx o K:=by
    intro z;refine⟨_,_,?_,z⟩;intro C S ac next Q hW hu an am ab hn
    have ad: ∀(l:List Operand),(∀x∈l,Aa S (Aw tm x) (ac.eval x))->AM S (Du tm l) (l.map ac.eval):=by
     intro l;induction l with
     |nil=>intro _;simp[Du,AM]
     |cons x l ih=>
      intro hl;simp only[Du,AM,Bd];exact⟨_,_,rfl,hl x (by simp),ih (λy hy=>hl y (by simp[hy]))⟩
    have O: ∀(a b:Ap),hnm (a++b)=hnm a++hnm b:=by
     intro a b;induction a with
     |nil=>rfl
     |cons p a ih=>obtain⟨n,e⟩:=p;simp only[CX,hnm,ih]
    have ai: ∀n∈hnm (E++F),S.h n=h n:=λn hn=>hu n (by simpa using hn)
    have c1:=ad first.toList (λx hx=>ab x (by rw[ho];simp[Op.operands];exact .inl (by simpa using hx)))
    have c2:=ad capt.toList (λx hx=>ab x (by rw[ho];simp[Op.operands];exact .inr (by simpa using hx)));obtain⟨s1,s2⟩:=Qrs hW _ a E _ h1 (λn hn=>ai n (by rw[O];exact JF _ hn)) c1;obtain⟨t1,t2⟩:=Qrs hW _ b F _ h2 (λn hn=>ai n (by rw[O];exact Qw _ hn)) c2
    let X:Nat->Bool:=λn=> !(hnm (E++F)).contains n
    have hX: ∀n∈hnm (E++F),X n=false:=by
     intro n hn;simp only[X,Gi.2 hn,Zj]
    have af: ∀n e,(n,e)∈E++F-> ∃mu,S.h n=some (mu,e.2)/\e.1=false:=by
     intro n e he;rcases Br.1 he with he|he
     .exact s1 n e he
     .exact t1 n e he
    have ag:(S.ice X).h=({use:=hnm (E++F),kill:=hnm (E++F),new:=E++F}:Bk).appf S.h:=by
     funext n;simp only[Bk.appf,Ay.ice];obtain⟨g1,g2⟩:= @Lz (E++F) n;cases hg:hget (E++F) n with
     |some e=>
      have hm:=g2 e hg;obtain⟨mu,q1,q2⟩:=af n e hm;rw[q1];simp only[Ds]
      have:n∈hnm (E++F):=by
       have: ∀(G:Ap),(n,e)∈G->n∈hnm G:=by
        intro G;induction G with
        |nil=>intro h;cases h
        |cons p G ih=>
         intro h;rcases Bi.1 h with h'|h'
         .subst h';simp[hnm]
         .obtain⟨q,y⟩:=p;simp only[hnm,Bi];exact .inr (ih h')
       exact this _ hm
      rw[hX n this];obtain⟨e1,e2⟩:=e;simp only at q2;simp[q2]
     |none=>
      have ak:=g1 hg;have hc:(hnm (E++F)).contains n=false:=by
       rw[Ny];intro h';exact ak (Gi.1 h')
      rw[hc];simp only[B8];have aj:X n=true:=by simp only[X,hc,Q6]
      cases S.h n with
      |none=>rfl
      |some e=>simp[aj]
    unfold Oper.wp;have ah:(execOp ac.eval o).run P S.w= .ok (.value (.func (UV f) (first.map ac.eval) (capt.map ac.eval))) S.w:=by rw[Wm aa];simp[execOp,ho,Instr.makeFunc]
    rw[ah,Oper.upon_value];refine hn _ (S.ice X) (UI hW) ag ?_ ?_
    .have:=He S X
     exact⟨this.ok,λo _=>this.nm o trivial⟩
    .simp only[Aa,rd];refine⟨_,_,rfl,?_,?_⟩
     .rw[UT];exact s2 X (λn hn=>hX n (by rw[O];exact JF _ hn))
     .rw[UT];exact t2 X (λn hn=>hX n (by rw[O];exact Qw _ hn))
   cases hEF:E++F with
   |nil=>
    rw[hEF] at z Z;exact Z z
   |cons e r=>
    rw[hEF] at z Z;simp only[yI] at z;rcases z with z|z
    .exact Z z
    .exact Qh1 aa ho z
def Qj2(op:BinOp)(t:TypeId)(x y:Operand)(k k':IntKind)(a b:Int)(w:World):(eqGuard op t x y (.int k a) (.int k' b)).run P w= .ok () w:=by
 cases op<;>simp[eqGuard]
def Qn0(op:BinOp)(t:TypeId)(x y:Operand)(a b:ByteArray)(w:World):(eqGuard op t x y (.string a) (.string b)).run P w= .ok () w:=by
 cases op<;>simp[eqGuard]
def Qwl(op:BinOp)(t:TypeId)(x y:Operand)(a b:Bool)(w:World):(eqGuard op t x y (.bool a) (.bool b)).run P w= .ok () w:=by
 cases op<;>simp[eqGuard]
def sG(a b:Int):(a==b)=decide (a=b):=by
 by_cases h:a=b<;>simp[h]
def XZ{op:BinOp}{T U:TypeId}{x y:Operand}{k:IntKind}{a b:Int}(ho:o.op= .binOp op T x y U)(hx:Aw tm x= .im (.int k a))(hy:Aw tm y= .im (.int k b))
 (z:Il op k a b K):BJ P tm h nx o K:=by
 have Q: ∀n,(∀w,(binOp op T (.int k a) (.int k b)).run P w= .ok (.int k n) w)->K (.im (.int k n)) {}->BJ P tm h nx o K:=by
  intro n Z z;refine⟨_,_,B5.pure (u:=[]) ?_,z⟩;intro C S ac hW _ G;have h1:=G x (by rw[ho];simp[Op.operands]);have h2:=G y (by rw[ho];simp[Op.operands]);rw[hx] at h1;rw[hy] at h2;simp only[Aa,rd] at h1 h2;refine⟨.int k n,?_,by simp only[Aa,rd]⟩;simp[execOp,ho,h1,h2,Qj2,Z]
 have O: ∀n,(∀w,(binOp op T (.int k a) (.int k b)).run P w= .ok (.bool n) w)->K (.im (.bool n)) {}->BJ P tm h nx o K:=by
  intro n Z z;refine⟨_,_,B5.pure (u:=[]) ?_,z⟩;intro C S ac hW _ G;have h1:=G x (by rw[ho];simp[Op.operands]);have h2:=G y (by rw[ho];simp[Op.operands]);rw[hx] at h1;rw[hy] at h2;simp only[Aa,rd] at h1 h2;refine⟨.bool n,?_,by simp only[Aa,rd]⟩;simp[execOp,ho,h1,h2,Qj2,Z]
 cases op<;>simp only[Il] at z<;>try exact z.elim
 case quo=>exact Q _ (λw=>by simp[binOp,Op.intDiv,z.1]) z.2
 case rem=>exact Q _ (λw=>by simp[binOp,Op.intDiv,z.1]) z.2
 case eql=>exact O _ (λw=>by simp[binOp,Op.intCmp,sG]) z
 case neq=>exact O _ (λw=>by simp[binOp,Op.intCmp,bne,sG]) z
 case lss=>exact O _ (λw=>by simp[binOp,Op.intCmp]) z
 case leq=>exact O _ (λw=>by simp[binOp,Op.intCmp]) z
 case gtr=>exact O _ (λw=>by simp[binOp,Op.intCmp]) z
 case geq=>exact O _ (λw=>by simp[binOp,Op.intCmp]) z
 case and=>exact Q _ (λw=>by simp[binOp,Op.intBits,W1]) z
 case or=>exact Q _ (λw=>by simp[binOp,Op.intBits,orI]) z
 case xor=>exact Q _ (λw=>by simp[binOp,Op.intBits,uI]) z
 all_goals exact Q _ (λw=>by simp[binOp,Op.intArith]) z
def TU{op:BinOp}{T U:TypeId}{x y:Operand}{k k':IntKind}{a b:Int}(Z:o.op= .binOp op T x y U)(hx:Aw tm x= .im (.int k a))(hy:Aw tm y= .im (.int k' b))
 (z:YJ op k a k' b K (Gm op)):BJ P tm h nx o K:=by
 have O: ∀n,(∀w,(binOp op T (.int k a) (.int k' b)).run P w= .ok (.int k n) w)->K (.im (.int k n)) {}->BJ P tm h nx o K:=by
  intro n Q z;refine⟨_,_,B5.pure (u:=[]) ?_,z⟩;intro C S ac hW _ G;have h1:=G x (by rw[Z];simp[Op.operands]);have h2:=G y (by rw[Z];simp[Op.operands]);rw[hx] at h1;rw[hy] at h2;simp only[Aa,rd] at h1 h2;refine⟨.int k n,?_,by simp only[Aa,rd]⟩;simp[execOp,Z,h1,h2,Qj2,Q]
 cases op
 case shr=>
  simp only[Gm,YJ] at z;exact O _ (λw=>by simp[binOp,Op.shift,Int.not_lt.2 z.1]) z.2
 case shl=>
  simp only[Gm,YJ] at z;exact O _ (λw=>by simp[binOp,Op.shift,Int.not_lt.2 z.1]) z.2
 all_goals
  simp only[Gm,YJ] at z;obtain⟨rfl,z⟩:=z;exact XZ Z hx hy z
def Qmj(s:ByteArray):s.toList=s.data.toList:=by
 have G: ∀(n i:Nat) (r:List UInt8),s.size - i=n->ByteArray.toList.loop s i r=r.reverse++s.data.toList.drop i:=by
  intro n;induction n with
  |zero=>
   intro i r h;unfold ByteArray.toList.loop;rw[Ag (by omega),CZ (by show s.data.toList.length<=i;simp;show s.size<=i;omega)];simp
  |succ n ih=>
   intro i r h;unfold ByteArray.toList.loop;rw[Ao (by omega),ih (i+1) _ (by omega)];have z:i<s.data.toList.length:=by simp;show i<s.size;omega
   rw[UP z];simp[ByteArray.get!]
   have:i<s.data.size:=by simpa using z
   exact getElem!_pos s.data i this
 have:=G _ 0 [] rfl
 simpa[ByteArray.toList] using this
def Qry(a b:ByteArray):(a.toList==b.toList)=decide (a=b):=by
 rw[Qmj,Qmj];by_cases h:a=b
 .subst h;simp
 .have:a.data≠b.data:=by
   intro h';apply h;cases a;cases b;simp at h';rw[h']
  simp[h,this]
def Yc{op:BinOp}{T U:TypeId}{x y:Operand}{a b:ByteArray}(ho:o.op= .binOp op T x y U)(hx:Aw tm x= .im (.str a))(hy:Aw tm y= .im (.str b))
 (Q:MY op a b K):BJ P tm h nx o K:=by
 have aa: ∀n,(∀w,(binOp op T (.string a) (.string b)).run P w= .ok (.bool n) w)->K (.im (.bool n)) {}->BJ P tm h nx o K:=by
  intro n G Q;refine⟨_,_,B5.pure (u:=[]) ?_,Q⟩;intro C S ac hW _ z;have Z:=z x (by rw[ho];simp[Op.operands]);have O:=z y (by rw[ho];simp[Op.operands]);rw[hx] at Z;rw[hy] at O;simp only[Aa,rd] at Z O;refine⟨.bool n,?_,by simp only[Aa,rd]⟩;simp[execOp,ho,Z,O,Qn0,G]
 cases op<;>simp only[MY] at Q<;>try exact Q.elim
 case eql=>exact aa _ (λw=>by simp[binOp,Op.stringOp,Qry]) Q
 case neq=>exact aa _ (λw=>by simp[binOp,Op.stringOp,Qry]) Q
 case add=>
  refine⟨_,_,B5.pure (u:=[]) ?_,Q.2⟩;intro C S ac hW _ z;have Z:=z x (by rw[ho];simp[Op.operands]);have O:=z y (by rw[ho];simp[Op.operands]);rw[hx] at Z;rw[hy] at O;simp only[Aa,rd] at Z O;refine⟨.string (a++b),?_,by simp only[Aa,rd]⟩;have ab: ¬(((a.size+b.size:Nat):Int)>IntKind.i64.max):=by
   have:=Q.1
   have O:IntKind.i64.max=9223372036854775807:=by decide
   rw[O];omega
  have G: ∀w,(binOp .add T (.string a) (.string b)).run P w= .ok (.string (a++b)) w:=by
   intro w;simp only[binOp,Op.stringOp];rw[Sem.run_ite,Ag ab,Sem.run_pure]
  simp[execOp,ho,Z,O,Qn0,G]
def Qmu{T:TypeId}(z:P.underlying T=some .bool)(d:Nat)(a b:Bool)(w:World):(Op.equalIn (d+1) T (.bool a) (.bool b)).run P w= .ok (a==b) w:=by
 simp[Op.equalIn,underlying,z]
def XV{op:BinOp}{T U:TypeId}{x y:Operand}{a b:Bool}(ho:o.op= .binOp op T x y U)(hT:P.underlying T=some .bool)(hx:Aw tm x= .im (.bool a))(hy:Aw tm y= .im (.bool b))
 (G:IQ op a b K):BJ P tm h nx o K:=by
 have O: ∀n,(∀w,(binOp op T (.bool a) (.bool b)).run P w= .ok (.bool n) w)->K (.im (.bool n)) {}->BJ P tm h nx o K:=by
  intro n Q G;refine⟨_,_,B5.pure (u:=[]) ?_,G⟩;intro C S ac hW _ z;have Z:=z x (by rw[ho];simp[Op.operands]);have h2:=z y (by rw[ho];simp[Op.operands]);rw[hx] at Z;rw[hy] at h2;simp only[Aa,rd] at Z h2;refine⟨.bool n,?_,by simp only[Aa,rd]⟩;simp[execOp,ho,Z,h2,Qwl,Q]
 cases op<;>simp only[IQ] at G<;>try exact G.elim
 case eql=>exact O _ (λw=>by simp[binOp,Op.equal,Op.maxDepth,Qmu hT 9999]) G
 case neq=>exact O _ (λw=>by simp[binOp,Op.equal,Op.maxDepth,Qmu hT 9999,bne]) G
end
def Ay.one(S:Ay)(m:Nat)(e:Ad)(l:Option Fj)(ks:List Nat)(w':World):Ay:=
 ⟨λn=>if n=m then l else S.ρ n,S.ok,λn=>if n=m then some (true,e) else if n∈ks then none else S.h n,w'⟩
structure IZ(S:Ay)(m:Nat)(e:Ad)(l:Option Fj)(ks:List Nat)(w':World):Prop where
 os:w'.os=S.w.os
 tape:w'.tape=S.w.tape
 output:w'.output=S.w.output
 size:S.w.heap.size<=w'.heap.size
 keep: ∀b,b<S.w.heap.size->(∀n f lo,n∈ks->S.h n=some (true,f)->S.ρ n=some lo->lo.b≠b)->w'.heap[b]? =S.w.heap[b]?
 name:m∈ks\/S.h m=none
 loc: ∀lo,l=some lo->lo.b<w'.heap.size/\(S.w.heap.size<=lo.b\/ ∃n f lo',n∈ks/\S.h n=some (true,f)/\S.ρ n=some lo'/\lo'.b=lo.b)
 shape: ∀f,S.h m=some f->l=S.ρ m/\e.esz=f.2.esz/\e.len=f.2.len
 nms: ∀n f,S.h n=some f->S.h m=none->m∉f.2.nms
def bQ{C:AX}{S:Ay}{m:Nat}{e:Ad}{l:Option Fj}{ks:List Nat}{w':World}(hW:Wf C S)(h:IZ S m e l ks w'):
 Bx (λn=>S.h m≠none\/n≠m) S (S.one m e l ks w'):=by
 refine⟨λb hb=>⟨hb,?_⟩,?_⟩
 .refine h.keep b (hW.oks b hb) ?_;intro n f lo _ hn hl O
  have:=(hW.loc n _ lo hn hl).2
  simp only[BI] at this;exact this.1 (O▸hb)
 .intro n hX e' z;simp only[Ay.one] at z⊢;by_cases hnm:n=m
  .subst hnm;rw[Ao rfl] at z⊢;obtain rfl:=AE z;have Q:S.h n≠none:=by rcases hX with G|G;exact G;exact absurd rfl G
   obtain⟨f,hf⟩:=Option.ne_none_iff_exists'.1 Q;obtain⟨G,Z,h3⟩:=h.shape f hf;exact⟨f,hf,G,Z,h3⟩
  .rw[Ag hnm] at z⊢;split at z
   .cases z
   .exact⟨e',z,rfl,rfl,rfl⟩
def iQ{C:AX}{S:Ay}{m:Nat}{e:Ad}{l:Option Fj}{ks:List Nat}{w':World}(hW:Wf C S)(h:IZ S m e l ks w')
 (ak:Au (S.one m e l ks w') l e):Wf C (S.one m e l ks w'):=by
 have hp:=bQ hW h;have ah: ∀n f lo Q,n≠m->n∉ks->S.h n=some f->S.ρ n=some lo->l=some Q->Q.b≠lo.b:=by
  intro n f lo Q hnm Z hn hl G hb;rcases (h.loc Q G).2 with h1|⟨n2,f2,ad,ag,ac,aa,af⟩
  .have:=(hW.loc n f lo hn hl).1;omega
  .have:=hW.inj n2 n _ _ ad lo ac hn aa hl (by omega) (by simp)
   subst this;exact Z ag
 refine⟨h.os.trans hW.os,h.tape.trans hW.tape,h.output.trans hW.output,Dt hW.size h.size,?_,hW.ok0,hW.ok1,λb hb=>FL (hW.oks b hb) h.size,?_,?_,?_,hW.gl⟩
 .intro b hb hM;refine (h.keep b (FL hb hW.size) ?_).trans (hW.keep b hb hM);intro n f lo _ hn hl am
  have:=(hW.loc n _ lo hn hl).2
  simp only[BI] at this;rcases this.2 with h1|h1
  .omega
  .exact hM (am▸h1)
 .intro n f hf;simp only[Ay.one] at hf;by_cases hnm:n=m
  .subst hnm;rw[Ao rfl] at hf;obtain rfl:=AE hf;simpa[Ay.one] using ak
  .rw[Ag hnm] at hf;split at hf
   .cases hf
   .rename_i Z;have ho:=hW.obj n f hf;have hr:(S.one m e l ks w').ρ n=S.ρ n:=by simp[Ay.one,hnm]
    rw[hr];refine H8 hp ?_ _ ?_ ho
    .intro lc ai;refine h.keep lc.b (hW.loc n f lc hf ai).1 ?_;intro n2 f2 ad ag ac aa af
     have:=hW.inj n2 n _ _ ad lc ac hf aa ai af (by simp)
     subst this;exact Z ag
    .intro x hx;by_cases aj:S.h m=none
     .right;intro aq;subst aq;exact h.nms n f hf aj hx
     .exact .inl aj
 .intro n f lo hf ab;simp only[Ay.one] at hf ab⊢;by_cases hnm:n=m
  .subst hnm;rw[Ao rfl] at hf ab;obtain rfl:=AE hf;obtain⟨h1,h2⟩:=h.loc lo ab;refine⟨h1,?_⟩;simp only[BI];rcases h2 with h2|⟨n2,f2,ad,ag,ac,aa,af⟩
   .exact⟨λao=>by have:=hW.oks _ ao;omega,.inl (Dt hW.size h2)⟩
   .have:=(hW.loc n2 _ ad ac aa).2
    simp only[BI] at this;rw[af] at this;exact this
  .rw[Ag hnm] at hf ab;split at hf
   .cases hf
   .have:=hW.loc n f lo hf ab
    exact⟨FL this.1 h.size,this.2⟩
 .intro n n' f f' lo Q hf z hl G hb an;simp only[Ay.one] at hf z hl G;by_cases hnm:n=m<;>by_cases O:n'=m
  .rw[hnm,O]
  .rw[Ao hnm] at hf hl;rw[Ag O] at z G;split at z
   .cases z
   .rename_i Z;exact absurd hb (ah n' f' Q lo O Z z G hl)
  .rw[Ag hnm] at hf hl;rw[Ao O] at z G;split at hf
   .cases hf
   .rename_i Z;exact absurd hb.symm (ah n f lo Q hnm Z hf hl G)
  .rw[Ag hnm] at hf hl;rw[Ag O] at z G;split at hf
   .cases hf
   .split at z
    .cases z
    .exact hW.inj n n' f f' lo Q hf z hl G hb an
section
variable {P:Program}{tm:List (Nat×AV)}{h:Nat->Option Aq}{nx:Nat}{o:Oper}{r:AV}
def B5.one{u ks:List Nat}{m cnt:Nat}{e:Ad}(hm:(cnt=1/\m=nx)\/(cnt=0/\m∈ks/\h m≠none))
 (hr: ∀(C:AX) (S:Ay) (a:Act),Wf C S->(∀n∈u++ks,S.h n=h n)->(cnt=1->S.h nx=none)->(∀n f,S.h n=some f->cnt=1->nx∉f.2.nms)->
  (∀x∈o.op.operands,Aa S (Aw tm x) (a.eval x))->
  ∃v w' l,((execOp a.eval o).run P S.w= .ok (.value v) w'\/((execOp a.eval o).run P S.w= .ok .skip w'/\v=undef))/\IZ S m e l ks w'/\
   (Bx (λn=>S.h m≠none\/n≠m) S (S.one m e l ks w')->Au (S.one m e l ks w') l e/\Aa (S.one m e l ks w') r v)):
 B5 P tm h nx o r {use:=u,kill:=ks,new:=[(m,(true,e))],cnt:=cnt}:=by
 intro C S a next Q hW hu ac hnm aa hn
 obtain⟨v,w',l,z,G,ab⟩:=hr C S a hW hu (λhc=>ac nx ⟨AN _,by rw[hc];exact Nat.lt_succ_self nx⟩)
  (λn f hf hc ad=>hnm n f hf nx ad ⟨AN _,by rw[hc];exact Nat.lt_succ_self nx⟩) aa
 have hp:=bQ hW G;obtain⟨Z,hc⟩:=ab hp;have O:=iQ hW G Z;have hh:(S.one m e l ks w').h=({use:=u,kill:=ks,new:=[(m,(true,e))],cnt:=cnt}:Bk).appf S.h:=by
  funext n;simp only[Ay.one,Bk.appf,hget];by_cases hnm:n=m
  .subst hnm;simp
  .have:(m==n)=false:=by
    rw[HL];exact λh=>hnm h.symm
   simp[this,hnm]
 have hp':Bx (λn=> ¬Fr nx cnt n) S (S.one m e l ks w'):=by
  refine⟨hp.ok,λn hX=>hp.nm n ?_⟩;rcases hm with ⟨ai,aj⟩|⟨ah,ag,af⟩
  .right;intro hnm;exact hX ⟨by omega,by omega⟩
  .left;rw[hu m (by simp[ag])];exact af
 unfold Oper.wp;rcases z with z|⟨z,rfl⟩
 .rw[z,Oper.upon_value];exact hn v _ O hh hp' hc
 .rw[z,Oper.upon_skip];exact hn undef _ O hh hp' hc
end
def UH{S:Ay}{nx:Nat}{e:Ad}{cap:Nat}{w':World}{ob:Obj}(z:w'.heap=S.w.heap.push ob)
 (aa:w'.os=S.w.os)(G:w'.tape=S.w.tape)(Q:w'.output=S.w.output){ks:List Nat}(hS:S.h nx=none)
 (O: ∀n f,S.h n=some f->nx∉f.2.nms):IZ S nx e (some ⟨S.w.heap.size,0,cap⟩) ks w':=by
 refine⟨aa,G,Q,by rw[z];simp,?_,.inr hS,?_,?_,λn f hf _=>O n f hf⟩
 .intro b hb _;rw[z,Array.getElem?_push,Ag (by omega)]
 .intro lo Z;obtain rfl:=AE Z;refine⟨by rw[z];simp,.inl (AN _)⟩
 .intro f hf;rw[hS] at hf;cases hf
def Ql6{S:Ay}{nx:Nat}{e:Ad}{ks:List Nat}(O:S.h nx=none)
 (z: ∀n f,S.h n=some f->nx∉f.2.nms):IZ S nx e none ks S.w:=by
 refine⟨rfl,rfl,rfl,AN _,λ_ _ _=>rfl,.inr O,?_,?_,λn f hf _=>z n f hf⟩
 .intro lo G;cases G
 .intro f hf;rw[O] at hf;cases hf
def cD{C:AX}{S:Ay}(hW:Wf C S){m:Nat}{f e:Ad}{l:Fj}{w':World}{ob:Obj}(hm:S.h m=some (true,f))(hl:S.ρ m=some l)
 (z:w'.heap=S.w.heap.setIfInBounds l.b ob)(ad:w'.os=S.w.os)(O:w'.tape=S.w.tape)(aa:w'.output=S.w.output)
 (Q:e.esz=f.esz)(Z:e.len=f.len):IZ S m e (some l) [m] w':=by
 refine⟨ad,O,aa,by rw[z];simp,?_,.inl (by simp),?_,?_,?_⟩
 .intro b hb ac
  have:=ac m f l (by simp) hm hl
  rw[z,dB];rw[Ag this]
 .intro lo ab;obtain rfl:=AE ab;exact⟨by rw[z];simpa using (hW.loc m _ _ hm hl).1,.inr ⟨m,f,l,by simp,hm,hl,rfl⟩⟩
 .intro g hg;rw[hm] at hg;obtain rfl:=AE hg;exact⟨hl.symm,Q,Z⟩
 .intro n g _ G;rw[hm] at G;cases G
def YO{S:Ay}{nx:Nat}{e:Ad}{l:Option Fj}{ks:List Nat}{w':World}{ob:Obj}(z:w'.heap=S.w.heap.push ob):
 (S.one nx e l ks w').hp S.w.heap.size=some ob:=by
 simp[Ay.hp,Ay.one,z]
section
variable {P:Program}{tm:List (Nat×AV)}{h:Nat->Option Aq}{nx:Nat}{o:Oper}{K:Ai}
def Qqf{T:TypeId}{cs:List AV}(G:(C:AX)->(S:Ay)->(a:Act)->Wf C S->(∀x∈o.op.operands,Aa S (Aw tm x) (a.eval x))->
 ∃z:Array Value,(execOp a.eval o).run P S.w= .ok (.value (.pointer (some ⟨S.w.heap.size,0,none⟩))) (S.w.alloc (.cells z T))/\AM S cs z.toList)
 (hb: ∀m∈AC cs,m≠nx):B5 P tm h nx o (.ptr nx 0) {new:=[(nx,(true,.cells T cs))],cnt:=1}:=by
 refine B5.one (u:=[]) (ks:=[]) (.inl ⟨rfl,rfl⟩) ?_;intro C S a hW _ Z hnm aa;obtain⟨z,O,Q⟩:=G C S a hW aa;refine⟨_,_,some ⟨S.w.heap.size,0,0⟩,.inl O,UH (w':=S.w.alloc (.cells z T)) (ob:= .cells z T) rfl rfl rfl rfl (Z rfl) (λn f hf=>hnm n f hf rfl),?_⟩;intro hp;constructor
 .simp only[Au];refine⟨_,z,rfl,rfl,YO rfl,UA hp cs _ (λm hm=> .inr (hb m hm)) Q⟩
 .simp only[Aa];refine⟨rfl,λe he=>⟨⟨S.w.heap.size,0,0⟩,by simp[Ay.one],rfl⟩⟩
def XW{T:TypeId}{x:Operand}(Q:o.op= .box T x)(G:Ue nx T K (Aw tm x).cells)(hb: ∀m∈AC (Aw tm x).cells,m≠nx):BJ P tm h nx o K:=by
 obtain⟨O,G⟩:=G;refine⟨_,_,Qqf ?_ hb,G⟩;intro C S a hW z;have Z:=z x (by rw[Q];simp[Op.operands]);refine⟨(a.eval x).cells,?_,nX (λh=>O (by rw[h];rfl)) Z⟩;simp[execOp,Q,Instr.box,newVar,newRow]
def OH{T:TypeId}(ho:o.op= .alloc T)(G:Bc (xP nx T K) (tI P T)):BJ P tm h nx o K:=by
 cases hT:tI P T with
 |none=>rw[hT] at G;exact G.elim
 |some ti=>
  rw[hT] at G;simp only[Bc,xP] at G;obtain⟨hl,hz,G⟩:=G;obtain⟨z,Q,ab,O⟩:=bG hT hl hz;refine⟨_,_,Qqf ?_ ?_,G⟩
  .intro C S a hW aa;refine⟨z.cells,?_,(Ia _ _).2 (O _ _)⟩;simp[execOp,ho,Instr.alloc,Q,newVar,newRow]
  .intro m Z
   have: ∀(l:List D),AC (l.map AV.im)=[]:=by
    intro l;induction l with
    |nil=>rfl
    |cons x l ih=>simp[AC,AV.nms,ih]
   rw[this] at Z;cases Z
def Qw0(l:List D):AC (l.map AV.im)=[]:=by
 induction l with
 |nil=>rfl
 |cons x l ih=>simp[AC,AV.nms,ih]
def Qyk{T:TypeId}(O:o.op= .makeMap T none)(z:Bc (vT P nx K) (tI P T)):BJ P tm h nx o K:=by
 cases hT:tI P T with
 |none=>rw[hT] at z;exact z.elim
 |some ti=>
 rw[hT] at z;simp only[Bc,vT] at z;cases hf:ti.kind<;>rw[hf] at z<;>try exact z.elim
 rename_i Z e;simp only[Sv] at z;cases hkt:Bp P Z with
 |none=>rw[hkt] at z;exact z.elim
 |some kt=>
 rw[hkt] at z;simp only[Xw] at z;refine⟨_,_,B5.one (u:=[]) (ks:=[]) (.inl ⟨rfl,rfl⟩) ?_,z⟩;intro C S a hW _ G hnm Q;refine⟨.map (some S.w.heap.size),S.w.alloc (.map #[] 0),some ⟨S.w.heap.size,0,0⟩,.inl ?_,UH (w':=S.w.alloc (.map #[] 0)) (ob:= .map #[] 0) rfl rfl rfl rfl (G rfl) (λn f hf=>hnm n f hf rfl),?_⟩
 .simp[execOp,O,Instr.makeMap]
 intro hp;constructor
 .simp only[Au];refine⟨_,#[],0,rfl,by simp,YO rfl,by simp[rde],by simp,by simp⟩
 .simp only[Aa];exact⟨rfl,λe he=>⟨⟨S.w.heap.size,0,0⟩,by simp[Ay.one],rfl⟩⟩
def OP{e k:Nat}(z: ∀(S:Ay) (a:Act),(execOp a.eval o).run P S.w= .ok (.value (.slice none 0 0)) S.w)(O:K (.own nx) {new:=[(nx,(true,.arr e k []))],cnt:=1}):BJ P tm h nx o K:=by
 refine⟨_,_,B5.one (u:=[]) (ks:=[]) (.inl ⟨rfl,rfl⟩) ?_,O⟩;intro C S a hW _ G hnm Q;refine⟨_,_,none,.inl (z S a),Ql6 (G rfl) (λn f hf=>hnm n f hf rfl),?_⟩;intro hp;constructor
 .simp[Au]
 .simp only[Aa];exact⟨rfl,λe Z=>by simp[Ay.one]⟩
def Qabd{x:Operand}(G:o.op= .assign x)(z:wD P tm nx o.type K x):BJ P tm h nx o K:=by
 simp only[wD] at z;cases hn':(VV x && !(o.type==315)) with
 |false=>rw[hn'] at z;exact lA (.inr G) z
 |true=>
  rw[hn'] at z;have hn:VV x=true:=by
   cases h:VV x
   .rw[h] at hn';cases hn'
   .rfl
  simp only[vQ] at z;have O:x= .const (.slice none 0 0):=by
   cases x<;>simp only[VV,reduceCtorEq] at hn;rename_i v;unfold Qd at hn;split at hn
   .rfl
   .cases hn
  cases ht:PJ (tI P o.type) with
  |none=>rw[ht] at z;exact z.elim
  |some Q=>
   rw[ht] at z;cases Q<;>try exact z.elim
   rename_i e;simp only[Qg6] at z;cases hE:tI P e with
   |none=>rw[hE] at z;exact z.elim
   |some Z=>
    rw[hE] at z;simp only[Bc,Qjk] at z;exact OP (λS a=>by simp[execOp,G,O,Act.eval]) z
def Qod{α:Type}(l:List α)(off:Nat)(v:α)(xs:List α)(h:off<l.length):BP (l.set off v) (off+1) xs=BP l off (v::xs):=by
 have z:(l.set off v).take (off+1)=l.take off++[v]:=by
  rw[List.take_set,List.set_eq_take_append_cons_drop];rw[Ao (by rw[Ci];omega),List.take_take,ZeS (by omega),Zfa];simp
 have G:(l.set off v).drop (off+1+xs.length)=l.drop (off+1+xs.length):=List.drop_set_of_lt (by omega);simp only[BP,z,G,CY];rw[show off+1+xs.length=off+(xs.length+1) from by omega];simp
def Qf9{w:World}{b p:Nat}{T:TypeId}: ∀(xs:List Value) (i:Nat) (vs:Array Value),(∀v∈xs,v.oneCell'=true)->p+i+xs.length<=vs.size->
 w.heap[b]? =some (.cells vs T (0,0))-> ∃w',(storeCells ⟨b,p,none⟩ xs i).run P w= .ok () w'/\w'.heap=w.heap.setIfInBounds b (.cells (BP vs.toList (p+i) xs).toArray T (0,0))/\
  w'.os=w.os/\w'.tape=w.tape/\w'.output=w.output:=by
 intro xs;induction xs generalizing w with
 |nil=>
  intro i vs _ _ hb;refine⟨w,by simp[storeCells],?_,rfl,rfl,rfl⟩
  have:(BP vs.toList (p+i) ([]:List Value)).toArray=vs:=by simp[BP]
  rw[this];apply Zeo;intro k;rw[dB];split
  .rename_i ad;subst ad;split
   .exact hb
   .rename_i ag
    have:b<w.heap.size:=by
     rcases EO b w.heap.size with h|h
     .exact h
     .rw[Wy h] at hb;cases hb
    exact absurd this ag
  .rfl
 |cons v xs ih=>
  intro i vs G aa hb;have z:b<w.heap.size:=by
   rcases EO b w.heap.size with h|h
   .exact h
   .rw[Wy h] at hb;cases hb
  simp only[CY] at aa;have Q:w.cell? ⟨b,p+i,none⟩=some (vs[p+i]'(by omega)):=by rw[Qyp hb];simp
  have af:w.frozen? ⟨b,p+i,none⟩=false:=by simp[World.frozen?,hb]
  have O:(w.setCell ⟨b,p+i,none⟩ v).heap=w.heap.setIfInBounds b (.cells (vs.setIfInBounds (p+i) v) T (0,0)):=by
   apply Zeo;intro k;simp only[World.setCell,ZdU,dB];by_cases Z:b=k
   .subst Z;have ac:w.heap[b]= .cells vs T (0,0):=by simpa[Jc z] using hb
    simp[z,ac]
   .simp[Z]
  have ab:(w.setCell ⟨b,p+i,none⟩ v).heap[b]? =some (.cells (vs.setIfInBounds (p+i) v) T (0,0)):=by
   rw[O,dB];simp[z]
  obtain⟨w',h1,h2,h3,h4,h5⟩:=ih (w:=w.setCell ⟨b,p+i,none⟩ v) (i+1) _ (λu hu=>G u (by simp[hu])) (by simp;omega) ab;refine⟨w',?_,?_,h3,h4,h5⟩
  .simp only[storeCells,Sem.run_bind,Ps,run_store P w _ v .plain (G v (by simp)),Q,af];simpa using h1
  .rw[h2,O];apply Zeo;intro k;simp only[dB,ZdJ];by_cases Z:b=k
   .subst Z;simp only[BI,z];congr 3;rw[ZdD,<-PA];exact Qod _ _ _ _ (by simp;omega)
   .simp[Z]
def gJ{S:Ay}: ∀(cs:List AV) (vs:List Value),Qj cs=true->AM S cs vs-> ∀v∈vs,v.oneCell'=true
 |[],vs,_,h=>by simp only[AM] at h;simp[h]
 |x::cs,vs,G,h=>by
  simp only[Qj,AS] at G;simp only[AM] at h;obtain⟨v,r,rfl,z,Z⟩:=h;intro u O;rcases Bi.1 O with rfl|O
  .cases x<;>simp only[AV.one,CE,false_and] at G<;>simp only[Aa] at z
   case im d=>
    cases d<;>simp only[D.one,CE,false_and] at G<;>simp only[rd] at z
    case sl nz k rows=>
     rcases z with ⟨rfl|⟨_,a,rfl⟩,_⟩|⟨b,p,cap,vs,T,Q,rfl,_⟩<;>rfl
    case ref cs=>obtain⟨b,p,vs,T,Q,rfl,_⟩:=z;rfl
    case mp kt es=>obtain⟨b,p,vs,rfl,_⟩:=z;rfl
    case fn f a c=>obtain⟨b,p,rfl,_⟩:=z;rfl
    case ifc t d=>obtain⟨b,rfl,_⟩:=z;rfl
    case tok g=>obtain⟨_,⟨t,x,rfl⟩,_⟩:=z;rfl
    all_goals subst z;rfl
   case clo=>obtain⟨b,p,rfl,_⟩:=z;rfl
   all_goals exact z.1
  .exact gJ cs r G.2 Z u O
def Qab4{ok:Nat->Prop}{hp:Nat->Option Obj}: ∀(off:Nat) (ds xs:List D) (vs us:List Value),rdp ok hp ds vs->rdl ok hp xs us->off+xs.length<=ds.length->
 rdp ok hp (BP ds off xs) (BP vs off us):=by
 intro off;induction off with
 |zero=>
  intro ds xs vs us O G z;have hl:=cC _ _ G;simp only[BP,UQ,GM,Fh] at*;rw[hl];have hd:=UB xs.length ds vs O z;clear z O hl;generalize ds.drop xs.length=ds' at*;generalize vs.drop xs.length=vs' at*;induction xs generalizing us with
  |nil=>simp only[rdl] at G;subst G;simpa using hd
  |cons x xs ih=>
   simp only[rdl] at G;obtain⟨v,r,rfl,Q,Z⟩:=G;simp only[CX,rdp];exact⟨v,_,rfl,Q,ih r Z⟩
 |succ off ih=>
  intro ds xs vs us O G z;cases ds with
  |nil=>simp at z
  |cons d ds=>
   simp only[rdp] at O;obtain⟨v,r,rfl,Q,Z⟩:=O
   have:=ih ds xs r us Z G (by simp only[CY] at z;omega)
   simp only[BP,P9,CX,Nat.succ_add,P8,rdp] at this⊢;exact⟨v,_,rfl,Q,this⟩
def Qmv{S:Ay}: ∀(off:Nat) (ds xs:List AV) (vs us:List Value),Cn S ds vs->AM S xs us->off+xs.length<=ds.length->
 Cn S (BP ds off xs) (BP vs off us):=by
 intro off;induction off with
 |zero=>
  intro ds xs vs us O G z;have hl:=Ii _ _ G;simp only[BP,UQ,GM,Fh] at*;rw[hl];have hd:=gM xs.length ds vs O z;clear z O hl;generalize ds.drop xs.length=ds' at*;generalize vs.drop xs.length=vs' at*;induction xs generalizing us with
  |nil=>simp only[AM] at G;subst G;simpa using hd
  |cons x xs ih=>
   simp only[AM] at G;obtain⟨v,r,rfl,Q,Z⟩:=G;simp only[CX,Cn];exact⟨v,_,rfl,Q,ih r Z⟩
 |succ off ih=>
  intro ds xs vs us O G z;cases ds with
  |nil=>simp at z
  |cons d ds=>
   simp only[Cn] at O;obtain⟨v,r,rfl,Q,Z⟩:=O
   have:=ih ds xs r us Z G (by simp only[CY] at z;omega)
   simp only[BP,P9,CX,Nat.succ_add,P8,Cn] at this⊢;exact⟨v,_,rfl,Q,this⟩
def Qml{S:Ay}{off:Nat}{ds xs:List AV}{vs us:List Value}(Q:AM S ds vs)(Z:AM S xs us)(z:off+xs.length<=ds.length):
 AM S (BP ds off xs) (BP vs off us):=by
 have G:=Ii _ _ Q;have O:=Ii _ _ Z;have h3:=Qmv off ds xs vs us (VM _ _ Q) Z z;have h4:=(VL (BP ds off xs).length _ _ h3 (AN _)).2;rw[HJ] at h4
 have:(BP ds off xs).length=(BP vs off us).length:=by
  simp[BP,Ci,Cx,G,O]
 rwa [this,HJ] at h4
def Mg{ok:Nat->Prop}{hp:Nat->Option Obj}{k:Nat}: ∀(i:Nat) (rows:List (List D)) (vs us:List Value) (row xs:List D) (off:Nat),rdr ok hp k rows vs->rows[i]? =some row->
 rdl ok hp xs us->off+xs.length<=k->i*k+k<=vs.length->rdr ok hp k (rows.set i (BP row off xs)) (BP vs (i*k+off) us)
 |_,[],_,_,_,_,_,_,G,_,_,_=>by simp at G
 |0,r::rs,vs,us,row,xs,off,h,G,Z,ho,hv=>by
  simp at G;subst G;simp only[rdr] at h;have hl:=cC _ _ Z;simp only[Za,rdr,dK,Fh] at hv⊢;refine⟨?_,Qab4 _ _ _ _ _ h.2.1 Z (by omega),?_⟩
  .simp[BP,Ci,Cx];omega
  .have:(BP vs off us).drop k=vs.drop k:=by
    simp only[BP];rw[UU,UU];rw[CZ (by simp only[Ci];omega),CZ (by simp only[Ci];omega),Ey];simp only[GM,Dn,Ci];congr 1;omega
   rw[this];exact h.2.2
 |i+1,r::rs,vs,us,row,xs,off,h,G,Z,ho,hv=>by
  simp only[rdr] at h;simp only[jC,rdr];have e1:(i+1)*k=i*k+k:=by rw[Fi,Iq]
  rw[e1] at hv⊢;have ih:=Mg i rs (vs.drop k) us row xs off h.2.2 (by simpa using G) Z ho (by rw[Cx];omega);have Q:BP vs (i*k+k+off) us=vs.take k++BP (vs.drop k) (i*k+off) us:=by
   have e2:vs.take (i*k+k+off)=vs.take k++(vs.drop k).take (i*k+off):=by
    rw[<-dH];congr 1;omega
   simp only[BP,e2,Ey,HP];rw[show i*k+k+off+us.length=k+(i*k+off+us.length) from by omega]
  rw[Q];have O:(vs.take k).length=k:=by rw[Ci];omega
  refine⟨h.1,?_,?_⟩
  .obtain⟨_,h5⟩:=UE k r vs h.2.1 (by omega);have h6:=VY _ _ h5;rw[DB (by omega)] at h6;clear ih Q h5 O;generalize vs.take k=q at*;have ab: ∀(r:List D) (q t:List Value),rdp ok hp r q->rdp ok hp r (q++t):=by
    intro r;induction r with
    |nil=>intro q t _;simp only[rdp]
    |cons d r aa=>
     intro q t h;simp only[rdp] at h⊢;obtain⟨v,z,rfl,h7,h8⟩:=h;exact⟨v,z++t,rfl,h7,aa z t h8⟩
   exact ab r q _ h6
  .rw[UU,CZ (by omega),O,GS];simpa using ih
end
def gX{S:Ay}: ∀(r:List AV) (q t:List Value),Cn S r q->Cn S r (q++t)
 |[],_,_,_=>by simp only[Cn]
 |d::r,q,t,h=>by
  simp only[Cn] at h⊢;obtain⟨v,z,rfl,G,O⟩:=h;exact⟨v,z++t,rfl,G,gX r z t O⟩
def pU{ok:Nat->Prop}{hp:Nat->Option Obj}: ∀(r:List D) (q t:List Value),rdp ok hp r q->rdp ok hp r (q++t)
 |[],_,_,_=>by simp only[rdp]
 |d::r,q,t,h=>by
  simp only[rdp] at h⊢;obtain⟨v,z,rfl,G,O⟩:=h;exact⟨v,z++t,rfl,G,pU r z t O⟩
def Qu1{S:Ay}{k:Nat}: ∀(i:Nat) (rows:List (List AV)) (vs us:List Value) (row xs:List AV) (off:Nat),BB S k rows vs->rows[i]? =some row->
 AM S xs us->off+xs.length<=k->i*k+k<=vs.length->BB S k (rows.set i (BP row off xs)) (BP vs (i*k+off) us)
 |_,[],_,_,_,_,_,_,z,_,_,_=>by simp at z
 |0,r::rs,vs,us,row,xs,off,h,z,G,ho,Z=>by
  simp at z;subst z;simp only[BB] at h;have hl:=Ii _ _ G;simp only[Za,BB,dK,Fh] at Z⊢;refine⟨?_,Qmv _ _ _ _ _ h.2.1 G (by omega),?_⟩
  .simp[BP,Ci,Cx];omega
  .have:(BP vs off us).drop k=vs.drop k:=by
    simp only[BP];rw[UU,UU];rw[CZ (by simp only[Ci];omega),CZ (by simp only[Ci];omega),Ey];simp only[GM,Dn,Ci];congr 1;omega
   rw[this];exact h.2.2
 |i+1,r::rs,vs,us,row,xs,off,h,z,G,ho,Z=>by
  simp only[BB] at h;simp only[jC,BB];have e1:(i+1)*k=i*k+k:=by rw[Fi,Iq]
  rw[e1] at Z⊢;have ih:=Qu1 i rs (vs.drop k) us row xs off h.2.2 (by simpa using z) G ho (by rw[Cx];omega);have Q:BP vs (i*k+k+off) us=vs.take k++BP (vs.drop k) (i*k+off) us:=by
   have e2:vs.take (i*k+k+off)=vs.take k++(vs.drop k).take (i*k+off):=by
    rw[<-dH];congr 1;omega
   simp only[BP,e2,Ey,HP];rw[show i*k+k+off+us.length=k+(i*k+off+us.length) from by omega]
  rw[Q];have O:(vs.take k).length=k:=by rw[Ci];omega
  refine⟨h.1,?_,?_⟩
  .obtain⟨_,h5⟩:=VL k r vs h.2.1 (by omega);have h6:=VM _ _ h5;rw[DB (by omega)] at h6;exact gX r _ _ h6
  .rw[UU,CZ (by omega),O,GS];simpa using ih
def uU{α:Type}(l:List α)(p off:Nat)(xs:List α)(h:p<=l.length):(BP l (p+off) xs).drop p=BP (l.drop p) off xs:=by
 have G:l.take (p+off)=l.take p++(l.drop p).take off:=by rw[<-dH]
 have z:(l.take p).length=p:=by rw[Ci];omega
 simp only[BP,G,HP];rw[UU,CZ (by omega),z,GS];simp[PA]
section
variable {P:Program}{tm:List (Nat×AV)}{h:Nat->Option Aq}{nx:Nat}{o:Oper}{K:Ai}
def Qiq{T:TypeId}{ti:TI}(hT:tI P T=some ti){w:World}{b p:Nat}{U:TypeId}{vs:Array Value}{v:Value}(G:v.cells.size=ti.size)(z: ∀u∈v.cells.toList,u.oneCell'=true)
 (O:p+ti.size<=vs.size)(hb:w.heap[b]? =some (.cells vs U (0,0))):
 ∃w',(Instr.storeAt T (.pointer (some ⟨b,p,none⟩)) v).run P w= .ok () w'/\w'.heap=w.heap.setIfInBounds b (.cells (BP vs.toList p v.cells.toList).toArray U (0,0))/\
  w'.os=w.os/\w'.tape=w.tape/\w'.output=w.output:=by
 obtain⟨w',Q,Z⟩:=Qf9 (P:=P) (w:=w) (b:=b) (p:=p) (T:=U) v.cells.toList 0 vs z (by simp;omega) hb;refine⟨w',?_,by simpa using Z⟩;simp[Instr.storeAt,Instr.sureAddr,storeVar,IV hT,G,Q]
def cL{S:Ay}{m:Nat}{e:Ad}{l:Option Fj}{ks:List Nat}{w':World}{b:Nat}{ob:Obj}(hb:b<S.w.heap.size)(z:w'.heap=S.w.heap.setIfInBounds b ob):
 (S.one m e l ks w').hp b=some ob:=by
 simp[Ay.hp,Ay.one,z,hb]
def OS{T:TypeId}{x y:Operand}(ho:o.op= .store T x y)(z:Bc (wZ h (Aw tm x) (Aw tm y) K) (tI P T)):BJ P tm h nx o K:=by
 cases hT:tI P T with
 |none=>rw[hT] at z;exact z.elim
 |some ti=>
 rw[hT] at z;simp only[Bc,wZ] at z;obtain⟨hz,hcl,af,z⟩:=z;have ac:Aw tm y≠ .any:=by intro hh;rw[hh] at hcl;simp only[AV.cells,G5] at hcl;exact hz hcl.symm
 cases hx:Aw tm x<;>rw[hx] at z<;>try exact z.elim
 case ptr n p=>
  simp only[oE] at z;cases hn:h n with
  |none=>rw[hn] at z;exact z.elim
  |some e=>
  rw[hn] at z;obtain⟨mu,e⟩:=e;cases mu<;>cases e<;>try exact z.elim
  rename_i U cs;simp only[TJ] at z;obtain⟨ai,z⟩:=z;refine⟨_,_,B5.one (u:=[n]) (ks:=[n]) (m:=n) (cnt:=0) (.inr ⟨rfl,by simp,by rw[hn];simp⟩) ?_,z⟩;intro C S a hW hu _ _ O;have h1:=O x (by rw[ho];simp[Op.operands]);have h2:=O y (by rw[ho];simp[Op.operands]);have hS:S.h n=some (true,.cells U cs):=(hu n (by simp)).trans hn;rw[hx] at h1;simp only[Aa] at h1;obtain⟨l,hl,hv⟩:=h1.2 _ hS;have Q:=hW.obj _ _ hS;simp only[Au] at Q;obtain⟨lc,vs,an,ao,hb,am⟩:=Q;rw[hl] at an;obtain rfl:=AE an;have h3:=nX ac h2;have h4:=Ii _ _ h3;have h5:=Ii _ _ am;rw[ao,Fh] at hv;obtain⟨w',aa,G,ag,ah,Z⟩:=Qiq hT (w:=S.w) (b:=l.b) (p:=p) (U:=U) (vs:=vs) (v:=a.eval y) (by simpa[hcl] using h4) (gJ _ _ af h3)
   (by have:vs.size=cs.length:=by simpa using h5
       omega) hb
  refine⟨undef,w',some l,.inr ⟨by simp[execOp,ho,hv,aa],rfl⟩,cD hW hS hl G ag ah Z rfl rfl,?_⟩;intro hp;refine⟨?_,by simp only[Aa]⟩;simp only[Au];have hX: ∀q:Nat,S.h n≠none\/q≠n:=λq=> .inl (by rw[hS];simp)
  refine⟨l,_,rfl,ao,cL (hW.loc n _ l hS hl).1 G,?_⟩;exact Qml (UA hp _ _ (λq _=>hX q) am) (UA hp _ _ (λq _=>hX q) h3) (by omega)
 case eptr n i p=>
  simp only[oE] at z;cases hn:h n with
  |none=>rw[hn] at z;exact z.elim
  |some e=>
  rw[hn] at z;obtain⟨mu,e⟩:=e;cases mu<;>cases e<;>try exact z.elim
  case true.arr U k rows=>
   simp only[IM,IX,Qxz] at z;obtain⟨hi,z⟩:=z;have z:=z rows[i] (Bh hi);cases hai:D8 (Aw tm y).cells with
   |none=>rw[hai] at z;exact z.elim
   |some ds=>
   rw[hai] at z;simp only[Xn] at z;obtain⟨ai,z⟩:=z;refine⟨_,_,B5.one (u:=[n]) (ks:=[n]) (m:=n) (cnt:=0) (.inr ⟨rfl,by simp,by rw[hn];simp⟩) ?_,z⟩;intro C S a hW hu _ _ O;have h1:=O x (by rw[ho];simp[Op.operands]);have h2:=O y (by rw[ho];simp[Op.operands]);have hS:S.h n=some (true,.arr U k rows):=(hu n (by simp)).trans hn;rw[hx] at h1;simp only[Aa] at h1;obtain⟨l,hl,hv⟩:=h1.2 _ hS;have Q:=hW.obj _ _ hS;rw[hl] at Q;simp only[Au] at Q;obtain⟨ab,ad,vs,hb,av,hr⟩:=Q;have h3:=nX ac h2;have h4:=Ii _ _ h3;obtain⟨au,_⟩:=yD i rows _ _ hr (Bh hi);simp only[Ad.esz] at hv;have aq:i*k+k<=l.cap*k:=by
    have:(i+1)*k<=l.cap*k:=Hq k (by omega)
    rwa [Fi,Iq] at this
   obtain⟨w',aa,G,ag,ah,Z⟩:=Qiq hT (w:=S.w) (b:=l.b) (p:=l.p+i*k+p) (U:=U) (vs:=vs) (v:=a.eval y) (by simpa[hcl] using h4) (gJ _ _ af h3)
    (by omega) hb
   refine⟨undef,w',some l,.inr ⟨by simp[execOp,ho,hv,aa],rfl⟩,cD hW hS hl G ag ah Z rfl (by simp[Ad.len]),?_⟩;intro hp;refine⟨?_,by simp only[Aa]⟩;simp only[Au];have ak:=YC hp.ok k rows _ hr;rw[gV hai] at h3;have aj:=Ky hp.ok _ _ ((Ia _ _).1 h3);have aw:ds.length=ti.size:=by rw[gV hai] at hcl;simpa using hcl
   refine⟨by simpa using ab,by simpa using ad,_,cL (hW.loc n _ l hS hl).1 G,?_,?_⟩
   .simp[BP,Ci,Cx] at h4⊢;omega
   .have:=Mg i rows _ (a.eval y).cells.toList rows[i] ds p ak (Bh hi) aj (by omega) (by simp;omega)
    rw[Zeh,PA,uU _ _ _ _ (by simp;omega)];exact this
  case true.arrA U k rows=>
   simp only[IM,IX,Qyo] at z;obtain⟨hi,z⟩:=z;obtain⟨ai,z⟩:=z rows[i] (Bh hi);refine⟨_,_,B5.one (u:=[n]) (ks:=[n]) (m:=n) (cnt:=0) (.inr ⟨rfl,by simp,by rw[hn];simp⟩) ?_,z⟩;intro C S a hW hu _ _ O;have h1:=O x (by rw[ho];simp[Op.operands]);have h2:=O y (by rw[ho];simp[Op.operands]);have hS:S.h n=some (true,.arrA U k rows):=(hu n (by simp)).trans hn;rw[hx] at h1;simp only[Aa] at h1;obtain⟨l,hl,hv⟩:=h1.2 _ hS;have Q:=hW.obj _ _ hS;rw[hl] at Q;simp only[Au] at Q;obtain⟨ab,ad,vs,hb,av,hr⟩:=Q;have h3:=nX ac h2;have h4:=Ii _ _ h3;obtain⟨au,_⟩:=Qw7 i rows _ _ hr (Bh hi);simp only[Ad.esz] at hv;have aq:i*k+k<=l.cap*k:=by
    have:(i+1)*k<=l.cap*k:=Hq k (by omega)
    rwa [Fi,Iq] at this
   obtain⟨w',aa,G,ag,ah,Z⟩:=Qiq hT (w:=S.w) (b:=l.b) (p:=l.p+i*k+p) (U:=U) (vs:=vs) (v:=a.eval y) (by simpa[hcl] using h4) (gJ _ _ af h3)
    (by omega) hb
   refine⟨undef,w',some l,.inr ⟨by simp[execOp,ho,hv,aa],rfl⟩,cD hW hS hl G ag ah Z rfl (by simp[Ad.len]),?_⟩;intro hp;refine⟨?_,by simp only[Aa]⟩;simp only[Au];have hX: ∀q:Nat,S.h n≠none\/q≠n:=λq=> .inl (by rw[hS];simp)
   have ak:=oB hp k rows _ (λq _=>hX q) hr;have aj:=UA hp _ _ (λq _=>hX q) h3;refine⟨by simpa using ab,by simpa using ad,_,cL (hW.loc n _ l hS hl).1 G,?_,?_⟩
   .simp[BP,Ci,Cx] at h4⊢;omega
   .have:=Qu1 i rows _ (a.eval y).cells.toList rows[i] (Aw tm y).cells p ak (Bh hi) aj (by omega) (by simp;omega)
    rw[Zeh,PA,uU _ _ _ _ (by simp;omega)];exact this
end
def Quk(n:Nat): ∀(xs:List Value) (off:Nat) (cs:Array Value),off+xs.length<=cs.size->
 ((xs.zipIdx n).foldl (λ(cs:Array Value) (q:Value×Nat)=>cs.setIfInBounds (off - n+q.2) q.1) cs)=(BP cs.toList (off) xs).toArray\/off<n
 |xs,off,cs,h=>by
  by_cases hn:off<n
  .exact .inr hn
  left;induction xs generalizing n off cs with
  |nil=>simp[BP]
  |cons x xs ih=>
   simp only[CY] at h;simp only[List.zipIdx_cons,jG];rw[show off - n+n=off from by omega];have z:=ih (n+1) (off+1) (cs.setIfInBounds off x) (by simp;omega) (by omega);rw[show off+1 - (n+1)=off - n from by omega] at z;rw[z];congr 1;rw[ZdD];exact Qod _ _ _ _ (by simp;omega)
def Rx{place:Nat->Option (Nat×Nat)}{cs:Array Value}{i off size:Nat}{v:Value}{rest:List (Nat×Value)}(hp:place i=some (off,size))(hs:v.cells.size=size)
 (z:off+size<=cs.size):Instr.fill place cs ((i,v)::rest)=Instr.fill place (BP cs.toList off v.cells.toList).toArray rest:=by
 simp only[Instr.fill,hp];rw[Ag (by simp[hs];omega)];congr 1
 have:=Quk 0 v.cells.toList off cs (by simp;omega)
 rcases this with h|h
 .rw[<-h];rw[<-Array.foldl_toList];simp
 .omega
def Qsp{α:Type}(l:List α)(off:Nat)(xs:List α)(h:off+xs.length<=l.length):(BP l off xs).length=l.length:=by
 simp[BP,Ci,Cx];omega
section
variable {P:Program}{tm:List (Nat×AV)}{h:Nat->Option Aq}{nx:Nat}{o:Oper}{K:Ai}
def Qjy(z:Nat->Option (Nat×Nat)): ∀(ps:List (Nat×AV)) {r:List AV},Hi z ps none=some r->False
 |[],_,h=>by simp[Hi] at h
 |_::_,_,h=>by simp[Hi] at h
def vG{S:Ay}{a:Act}{pl place:Nat->Option (Nat×Nat)}(Z: ∀i q,pl i=some q->place i=some q): ∀(ps:List (Nat×Operand)) (cs r:List AV) (G:Array Value),
 Hi pl (Jg tm ps) (some cs)=some r->AM S cs G.toList->(∀p∈ps,Aa S (Aw tm p.2) (a.eval p.2))->
 ∃us,Instr.fill place G (ps.map λp=>(p.1,a.eval p.2))=some us/\AM S r us.toList/\r.length=cs.length
 |[],cs,r,G,hf,hc,_=>by
  simp only[Jg,Hi,AI] at hf;subst hf;exact⟨G,rfl,hc,rfl⟩
 |(i,x)::ps,cs,r,G,hf,hc,z=>by
  simp only[Jg,Hi] at hf;cases hp:pl i with
  |none=>rw[hp] at hf;simp only[YP] at hf;exact (Qjy _ _ hf).elim
  |some q=>
   obtain⟨off,size⟩:=q;rw[hp] at hf;simp only[YP] at hf;cases hcond:((Aw tm x).cells.length==size && (Nat.blt 0 size && Nat.ble (off+size) cs.length)) with
   |false=>rw[hcond] at hf;simp only[B8] at hf;exact (Qjy _ _ hf).elim
   |true=>
    rw[hcond] at hf;simp only[Ca] at hf;simp only[AS,N5] at hcond;obtain⟨hl,hz,Q⟩:=hcond;have hz:0<size:=iW hz;have Q:off+size<=cs.length:=iW Q;have hx:=z (i,x) (by simp);have O:Aw tm x≠ .any:=by intro hh;rw[hh] at hl;simp only[AV.cells,G5] at hl;omega
    have h3:=nX O hx;have h4:=Ii _ _ h3;have h5:=Ii _ _ hc;have h6:=Qml hc h3 (by omega:off+(Aw tm x).cells.length<=cs.length);have ab:(BP cs off (Aw tm x).cells).length=cs.length:=Qsp _ _ _ (by omega);obtain⟨us,aa,hr,ac⟩:=vG Z ps _ r (BP G.toList off (a.eval x).cells.toList).toArray hf (by simpa using h6) (λp hp=>z p (by simp[hp]));refine⟨us,?_,hr,by omega⟩;rw[Bd,Rx (Z i _ hp) (by show (a.eval x).cells.size=size;simp only[E8] at h4;omega) (by simp only[E8] at h5;omega)];exact aa
def Qnx(w:World): ∀(G:List Field),(G.all λf=>(P.info? f.type).isSome)=true->
 (G.mapM (m:=Sem) λf=>do pure (f.offset,<-sizeOf f.type)).run P w= .ok (G.map λf=>(f.offset,((P.info? f.type).map (·.size)).getD 0)) w
 |[],_=>by simp
 |f::G,z=>by
  simp only[Je,AS] at z;obtain⟨i,O⟩:=ZeB.1 z.1;have ih:=Qnx w G z.2;have Q:(sizeOf f.type).run P w= .ok i.size w:=by simp[sizeOf,typeInfo,O]
  simp only[List.mapM_cons,Sem.run_bind,Q,Result.andThen_ok,Sem.run_pure,ih,Bd,O,Ds,AQ]
def OI{T:TypeId}{ps:Array (Nat×Operand)}(ho:o.op= .build T ps)(G:Bc (xQ P (Jg tm ps.toList) K) (tI P T)):BJ P tm h nx o K:=by
 cases hT:tI P T with
 |none=>rw[hT] at G;exact G.elim
 |some ti=>
 rw[hT] at G;simp only[Bc,xQ] at G;obtain⟨hl,hz,G⟩:=G;obtain⟨z,af,aj,ad⟩:=bG hT hl hz;have Z: ∀{S:Ay} {a:Act},(∀x∈o.op.operands,Aa S (Aw tm x) (a.eval x))-> ∀p∈ps.toList,Aa S (Aw tm p.2) (a.eval p.2):=by
  intro S a O p hp;refine O p.2 ?_;rw[ho];simp only[Op.operands];simp;exact⟨p.1,by simpa using hp⟩
 have aa: ∀(a:Act),(ps.map λ(i,x)=>(i,a.eval x)).toList=ps.toList.map λp=>(p.1,a.eval p.2):=by intro a;simp
 cases hf:ti.kind<;>rw[hf] at G<;>try exact G.elim
 case struct fs=>
  obtain⟨Q,hu,ac,ag⟩:=Qut hT hf;simp only[sE] at G;cases hfl:Hi (LX fs) (Jg tm ps.toList) (some (ti.zero.map .im)) with
  |none=>rw[hfl] at G;exact G.elim
  |some cs=>
   rw[hfl] at G;simp only[MT] at G;refine⟨_,_,B5.pure (u:=[]) ?_,G⟩;intro C S a hW _ O;have ah: ∀(w:World),(Q.mapM (m:=Sem) λf=>do pure (f.offset,<-sizeOf f.type)).run P w= .ok (fs.toArray) w:=by
    intro w;rw[Zes,Sem.run_map,Qnx w _ ac,ag];rfl
   obtain⟨us,ab,hr,ai⟩:=vG (S:=S) (a:=a) (place:=λi=>fs.toArray[i]?) (λi q hq=>by simpa[LX] using hq) ps.toList _ cs z.cells hfl ((Ia _ _).2 (ad _ _)) (Z O);refine⟨.agg us,?_,by have:=oS (ti:={ti with agg:=true,size:=cs.length}) hr rfl (.inl rfl);simpa using this⟩;simp only[execOp,ho,Instr.build,Sem.run_bind,af,Result.andThen_ok];rw[show (underlying T).run P S.w= .ok (.struct Q) S.w from by simp[underlying,hu]];simp only[Result.andThen_ok,Sem.run_bind,ah];rw[aa,ab];rfl
 case array m e=>
  have hu:=Qs2 hT hf;simp only[sE] at G;cases hE:tI P e with
  |none=>rw[hE] at G;exact G.elim
  |some te=>
  rw[hE] at G;simp only[Bc,QF] at G;cases hfl:Hi (II te.size) (Jg tm ps.toList) (some (ti.zero.map .im)) with
  |none=>rw[hfl] at G;exact G.elim
  |some cs=>
   rw[hfl] at G;simp only[MT] at G;refine⟨_,_,B5.pure (u:=[]) ?_,G⟩;intro C S a hW _ O;obtain⟨us,ab,hr,ai⟩:=vG (S:=S) (a:=a) (place:=λi=>some (i*te.size,te.size)) (λi q hq=>hq) ps.toList _ cs z.cells hfl ((Ia _ _).2 (ad _ _)) (Z O);refine⟨.agg us,?_,by have:=oS (ti:={ti with agg:=true,size:=cs.length}) hr rfl (.inl rfl);simpa using this⟩;simp only[execOp,ho,Instr.build,Sem.run_bind,af,Result.andThen_ok];rw[show (underlying T).run P S.w= .ok (.array m e) S.w from by simp[underlying,hu]];simp only[Result.andThen_ok,Sem.run_bind,IV hE];rw[aa,ab];rfl
end
end Go.Ae
