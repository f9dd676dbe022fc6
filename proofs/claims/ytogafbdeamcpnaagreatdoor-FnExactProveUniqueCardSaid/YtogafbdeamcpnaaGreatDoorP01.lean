/- Lemmas. Conditions: none. -/
import Derived.Test.YtogafbdeamcpnaaGreatDoorP00
import Derived.Laws.Cells
set_option linter.all false
set_option maxHeartbeats 8000000
set_option maxRecDepth 100000
namespace Go.Ae
def Qd{P:Program}{t:TypeId}{ti:TI}(h:tI P t=some ti):
 ∃i u,P.info? t=some i/\P.underlying t=some u/\ti.size=i.size/\ti.bytes=i.bytes/\
  ti.agg=Xq u/\ti.kind=Fw P u/\ti.zero=zOf ti.agg i.zero:=by
 unfold tI at h;split at h
 .rename_i i u z G;simp only[AJ] at h;subst h;exact⟨i,u,z,G,rfl,rfl,rfl,rfl,rfl⟩
 .cases h
section
variable {P:Program}{t:TypeId}{ti:TI}(h:tI P t=some ti)(w:World)
include h
def Jz:(sizeOf t).run P w= .ok ti.size w:=by
 obtain⟨i,u,G,hu,z,O,Q,Z,h5⟩:=Qd h;simp[sizeOf,typeInfo,G,z]
def Qsu:(isAgg t).run P w= .ok ti.agg w:=by
 obtain⟨i,u,hi,G,Q,Z,z,h4,h5⟩:=Qd h;have O:(underlying t).run P w= .ok u w:=by simp[underlying,G]
 rw[z];cases u<;>simp[isAgg,O,Xq]
end
def Qyp{w:World}{b p:Nat}{vs:Array Value}{T:TypeId}{z:Nat×Nat}(h:w.heap[b]? =some (.cells vs T z)):w.cell? ⟨b,p,none⟩=vs[p]? :=by
 simp[World.cell?,h]
def Qa(b p n:Nat):(⟨b,p,none⟩:Addr).add n=⟨b,p+n,none⟩:=by
 unfold Addr.add;split
 .rename_i h;subst h;rfl
 .rfl
def V9{ok:Nat->Prop}{hp:Nat->Option Obj}: ∀(n:Nat) (ds:List D) (vs:List Value),rdp ok hp ds vs->n<=ds.length->
 n<=vs.length/\rdl ok hp (ds.take n) (vs.take n)
 |0,ds,vs,_,_=>by simp[rdl]
 |n+1,[],vs,_,h=>by simp at h
 |n+1,d::ds,vs,h,hn=>by
  simp only[rdp] at h;obtain⟨v,r,rfl,z,G⟩:=h;obtain⟨O,Q⟩:=V9 n ds r G (by simpa using hn);refine⟨by simpa using O,?_⟩;simp only[Lr,rdl];exact⟨v,_,rfl,z,Q⟩
def V6{ok:Nat->Prop}{hp:Nat->Option Obj}: ∀(n:Nat) (ds:List D) (vs:List Value),rdp ok hp ds vs->n<=ds.length->rdp ok hp (ds.drop n) (vs.drop n)
 |0,ds,vs,h,_=>by simpa using h
 |n+1,[],vs,_,h=>by simp at h
 |n+1,d::ds,vs,h,hn=>by
  simp only[rdp] at h;obtain⟨v,r,rfl,G,z⟩:=h;simpa using V6 n ds r z (by simpa using hn)
def WT{ok:Nat->Prop}{hp:Nat->Option Obj}: ∀(ds:List D) (vs:List Value),rdl ok hp ds vs->rdp ok hp ds vs
 |[],_,_=>by simp only[rdp]
 |d::ds,vs,h=>by
  simp only[rdl,rdp] at h⊢;obtain⟨v,r,rfl,z,G⟩:=h;exact⟨v,r,rfl,z,WT ds r G⟩
def eX{ok:Nat->Prop}{hp:Nat->Option Obj}: ∀(ds:List D) (vs:List Value),rdl ok hp ds vs->vs.length=ds.length
 |[],_,h=>by simp only[rdl] at h;simp[h]
 |d::ds,vs,h=>by
  simp only[rdl] at h;obtain⟨v,r,rfl,G,z⟩:=h;simp[eX ds r z]
def IB{S:A9}: ∀(xs:List AV) (vs:List Value),AN S xs vs->vs.length=xs.length
 |[],_,h=>by simp only[AN] at h;simp[h]
 |d::ds,vs,h=>by
  simp only[AN] at h;obtain⟨v,r,rfl,G,z⟩:=h;simp[IB ds r z]
def WI{S:A9}: ∀(xs:List AV) (vs:List Value),AN S xs vs->Cy S xs vs
 |[],_,_=>by simp only[Cy]
 |d::ds,vs,h=>by
  simp only[AN,Cy] at h⊢;obtain⟨v,r,rfl,z,G⟩:=h;exact⟨v,r,rfl,z,WI ds r G⟩
def WH{S:A9}: ∀(n:Nat) (ds:List AV) (vs:List Value),Cy S ds vs->n<=ds.length->n<=vs.length/\AN S (ds.take n) (vs.take n)
 |0,ds,vs,_,_=>by simp[AN]
 |n+1,[],vs,_,h=>by simp at h
 |n+1,d::ds,vs,h,hn=>by
  simp only[Cy] at h;obtain⟨v,r,rfl,z,G⟩:=h;obtain⟨O,Q⟩:=WH n ds r G (by simpa using hn);refine⟨by simpa using O,?_⟩;simp only[Lr,AN];exact⟨v,_,rfl,z,Q⟩
def kZ{S:A9}: ∀(n:Nat) (ds:List AV) (vs:List Value),Cy S ds vs->n<=ds.length->Cy S (ds.drop n) (vs.drop n)
 |0,ds,vs,h,_=>by simpa using h
 |n+1,[],vs,_,h=>by simp at h
 |n+1,d::ds,vs,h,hn=>by
  simp only[Cy] at h;obtain⟨v,r,rfl,G,z⟩:=h;simpa using kZ n ds r z (by simpa using hn)
def I2{S:A9}: ∀(ds:List D) (vs:List Value),AN S (ds.map .im) vs↔rdl S.ok S.hp ds vs
 |[],vs=>by simp[AN,rdl]
 |d::ds,vs=>by
  simp only[Bd,AN,rdl,Aa];constructor
  .rintro⟨v,r,rfl,z,G⟩;exact⟨v,r,rfl,z,(I2 ds r).1 G⟩
  .rintro⟨v,r,rfl,z,G⟩;exact⟨v,r,rfl,z,(I2 ds r).2 G⟩
def yL{S:A9}: ∀(ds:List D) (vs:List Value),Cy S (ds.map .im) vs↔rdp S.ok S.hp ds vs
 |[],vs=>by simp[Cy,rdp]
 |d::ds,vs=>by
  simp only[Bd,Cy,rdp,Aa];constructor
  .rintro⟨v,r,rfl,z,G⟩;exact⟨v,r,rfl,z,(yL ds r).1 G⟩
  .rintro⟨v,r,rfl,z,G⟩;exact⟨v,r,rfl,z,(yL ds r).2 G⟩
def lH: ∀{cs:List AV} {ds:List D},DO cs=some ds->cs=ds.map .im
 |[],ds,h=>by simp only[DO,AJ] at h;subst h;rfl
 |x::r,ds,h=>by
  simp only[DO] at h;cases hx:x.asD with
  |none=>rw[hx] at h;simp only[Oc] at h;cases h
  |some d=>
   rw[hx] at h;cases hr:DO r with
   |none=>rw[hr] at h;simp only[Oc] at h;cases h
   |some z=>
    rw[hr] at h;simp only[Oc,AJ] at h;subst h
    have:x= .im d:=by cases x<;>simp[AV.asD] at hx;subst hx;rfl
    rw[this,lH hr];rfl
def Pl{ok:Nat->Prop}{hp:Nat->Option Obj}{d:D}{v:Value}(h:rd ok hp d v):rdl ok hp d.cells v.cells.toList:=by
 cases d<;>simp only[rd] at h<;>simp only[D.cells]
 case agg cs=>obtain⟨G,rfl,z⟩:=h;exact z
 case sl nz k rows=>
  rcases h with ⟨h0,z⟩|⟨b,p,cap,G,T,O,rfl,z⟩
  .obtain⟨ao,Z⟩:=tY h0;subst Z;simp only[rdl];exact⟨_,[],rfl,by simp only[rd];exact .inl ⟨h0,z⟩,rfl⟩
  .simp only[rdl];exact⟨_,[],rfl,by simp only[rd];exact .inr ⟨b,p,cap,G,T,O,rfl,z⟩,rfl⟩
 case tup cs=>obtain⟨G,rfl,z⟩:=h;simp only[rdl];exact⟨_,[],rfl,by simp only[rd];exact⟨G,rfl,z⟩,rfl⟩
 case ref cs=>obtain⟨b,p,G,T,O,rfl,z⟩:=h;simp only[rdl];exact⟨_,[],rfl,by simp only[rd];exact⟨b,p,G,T,O,rfl,z⟩,rfl⟩
 case mp es=>obtain⟨b,p,G,rfl,z⟩:=h;simp only[rdl];exact⟨_,[],rfl,by simp only[rd];exact⟨b,p,G,rfl,z⟩,rfl⟩
 case fn f a c=>obtain⟨b,p,rfl,z⟩:=h;simp only[rdl];exact⟨_,[],rfl,by simp only[rd];exact⟨b,p,rfl,z⟩,rfl⟩
 case ifc t d=>obtain⟨b,rfl,z⟩:=h;simp only[rdl];exact⟨_,[],rfl,by simp only[rd];exact⟨b,rfl,z⟩,rfl⟩
 case tok g=>obtain⟨z,⟨t,x,rfl⟩,Q⟩:=h;simp only[rdl];exact⟨_,[],rfl,by simp only[rd];exact⟨z,⟨t,x,rfl⟩,Q⟩,rfl⟩
 all_goals (subst h;simp only[rdl];exact⟨_,[],rfl,by simp only[rd],rfl⟩)
def Qsn(v:Value)(h: ∀z,v≠ .agg z):v.cells= #[v]:=by
 cases v<;>first|rfl|exact absurd rfl (h _)
def O3{v:Value}(h:v.oneCell'=true):v.cells= #[v]:=by
 cases v<;>first|rfl|cases h
def sC{S:A9}{x:AV}{v:Value}(O:x≠ .any)(h:Aa S x v):AN S x.cells v.cells.toList:=by
 cases x<;>simp only[AV.cells]
 case any=>exact absurd rfl O
 case im d=>simp only[Aa] at h;exact (I2 _ _).2 (Pl h)
 case agg cs=>simp only[Aa] at h;obtain⟨G,rfl,z⟩:=h;exact z
 case tup cs=>
  have h':=h;simp only[Aa] at h;obtain⟨G,rfl,z⟩:=h;simp only[AN];exact⟨_,[],rfl,h',rfl⟩
 case clo f a c=>
  have h':=h;simp only[Aa] at h;obtain⟨G,c',rfl,z⟩:=h;simp only[AN];exact⟨_,[],rfl,h',rfl⟩
 all_goals
  have h':=h;simp only[Aa] at h;rw[O3 h.1];simp only[AN];exact⟨_,[],rfl,h',rfl⟩
def bR{ok:Nat->Prop}{hp:Nat->Option Obj}(v:Value)(h:bS v=true):rd ok hp (zD v) v:=by
 unfold bS at h;split at h<;>first|(simp only[zD,rd];done)|cases h|skip
 simp only[zD,rd];exact .inl ⟨.inl rfl,trivial⟩
def V2{ok:Nat->Prop}{hp:Nat->Option Obj}: ∀(vs:List Value),vs.all bS=true->rdl ok hp (vs.map zD) vs
 |[],_=>by simp[rdl]
 |v::vs,h=>by
  simp only[Lw,AS] at h;simp only[Bd,rdl];exact⟨v,vs,rfl,bR v h.1,V2 vs h.2⟩
def Qrg{P:Program}{t:TypeId}{ti:TI}(h:tI P t=some ti)(Z:ti.zero.length=ti.size)(hz:ti.size≠0):
 ∃z,(∀w,(zeroValue t).run P w= .ok z w)/\z.cells.size=ti.size/\(∀ok hp,rdl ok hp ti.zero z.cells.toList)/\ ∀ok hp,rd ok hp (bif ti.agg then .agg ti.zero else iO ti.zero) z:=by
 obtain⟨i,u,hi,hu,h1,h2,h3,h4,O⟩:=Qd h;have Q:ti.zero≠[]:=by intro h;rw[h] at Z;exact hz Z.symm
 have G: ∀z,i.zero=some z-> ∀w,(zeroValue t).run P w= .ok z w:=λz hz w=>by simp[zeroValue,typeInfo,hi,hz]
 revert O Z Q G;generalize ti.agg=ag;generalize ti.zero=zs;generalize i.zero=iz;intro Z O Q G;unfold zOf at O;split at O
 .rename_i vs;cases ha:vs.toList.all bS<;>rw[ha] at O
  .exact absurd O Q
  .simp only[Ck] at O;subst O;have hr: ∀ok hp,rdl ok hp (vs.toList.map zD) vs.toList:=λok hp=>V2 _ ha
   exact⟨_,G _ rfl,by simpa[Value.cells] using Z,λok hp=>by simpa[Value.cells] using hr ok hp,λok hp=>by simp only[Ck,rd];exact⟨_,rfl,hr ok hp⟩⟩
 .rename_i v;cases ha:bS v<;>rw[ha] at O
  .exact absurd O Q
  .simp only[Ck] at O;subst O;have hr: ∀ok hp,rd ok hp (zD v) v:=λok hp=>bR v ha
   have hc:v.cells= #[v]:=Qsn v (by intro cs hh;rw[hh] at ha;simp[bS] at ha);exact⟨_,G _ rfl,by rw[hc];simpa using Z,λok hp=>by rw[hc];simp only[rdl];exact⟨v,[],rfl,hr ok hp,rfl⟩,λok hp=>by simpa[iO] using hr ok hp⟩
 .exact absurd O Q
def dZ{P:Program}{t:TypeId}{ti:TI}(h:tI P t=some ti)(Z:ti.zero.length=ti.size)(hz:ti.size≠0):
 ∃z,(∀w,(zeroValue t).run P w= .ok z w)/\z.cells.size=ti.size/\ ∀ok hp,rdl ok hp ti.zero z.cells.toList:=by
 obtain⟨z,G,O,Q,_⟩:=Qrg h Z hz;exact⟨z,G,O,Q⟩
def Br.appf(E:Br)(h:Nat->Option Au)(n:Nat):Option Au:=
 match hget E.new n with
 |some e=>some e
 |none=>bif E.kill.contains n then none else h n
def Fr(nx cnt n:Nat):Prop:=nx<=n/\n<nx+cnt
def BA(P:Program)(tm:List (Nat×AV))(h:Nat->Option Au)(nx:Nat)(o:Oper)(r:AV)(E:Br):Prop:=
 ∀(C:AW) (S:A9) (a:Act) (next:Act->World->Prop) (Q:Exit->Act->World->Prop),
  Wf C S->(∀n∈E.use++E.kill,S.h n=h n)->(∀n,Fr nx E.cnt n->S.h n=none)->
  (∀n e,S.h n=some e-> ∀m∈e.2.nms,¬Fr nx E.cnt m)->
  (∀x∈o.op.operands,Aa S (Az tm x) (a.eval x))->
  (∀v S',Wf C S'->S'.h=E.appf S.h->B3 (λm=> ¬Fr nx E.cnt m) S S'->Aa S' r v->next (a.put o.dst v) S'.w)->
  o.wp P a S.w next Q
def dM(S:A9)(v:Value):Aa S (kD v) v:=by
 unfold kD
 split<;>simp only[Aa,rd]
 exact .inl ⟨.inl rfl,trivial⟩
def Qnd(u:List Nat)(h:Nat->Option Au):({use:=u}:Br).appf h=h:=by
 funext n;simp[Br.appf,hget]
section
variable {P:Program}{tm:List (Nat×AV)}{h:Nat->Option Au}{nx:Nat}{o:Oper}{r:AV}
def BA.pure{u:List Nat}(G: ∀(C:AW) (S:A9) (a:Act),Wf C S->(∀n∈u,S.h n=h n)->(∀x∈o.op.operands,Aa S (Az tm x) (a.eval x))->
 ∃v,(execOp a.eval o).run P S.w= .ok (.value v) S.w/\Aa S r v):BA P tm h nx o r {use:=u}:=by
 intro C S a next Q hW O _ _ z hn
 obtain⟨v,Z,hc⟩:=G C S a hW (by simpa using O) z;unfold Oper.wp;rw[Z,Oper.upon_value];exact hn v S hW (Qnd u S.h).symm (B3.refl _ _) hc
end
abbrev BS(P:Program)(tm:List (Nat×AV))(h:Nat->Option Au)(nx:Nat)(o:Oper)(K:Ah):Prop:= ∃r E,BA P tm h nx o r E/\K r E
section
variable {P:Program}{tm:List (Nat×AV)}{h:Nat->Option Au}{nx:Nat}{o:Oper}{K:Ah}
def oN{x:Operand}(z:o.op= .move x\/o.op= .assign x)(O:K (Az tm x) {}):BS P tm h nx o K:=by
 refine⟨_,_,BA.pure (u:=[]) ?_,O⟩;intro C S a hW _ G;have hc:=G x (by rcases z with z|z<;>rw[z]<;>simp[Op.operands]);refine⟨a.eval x,?_,hc⟩;rcases z with z|z<;>simp[execOp,z]
def UW{c x y:Operand}(O:o.op= .pick c x y)(G:Qzp (Az tm x) (Az tm y) K (Az tm c)):BS P tm h nx o K:=by
 cases hc:Az tm c<;>rw[hc] at G<;>try exact G.elim
 rename_i d;cases d<;>try exact G.elim
 rename_i b;simp only[Qzp,M9] at G;have Z:K (if b then Az tm x else Az tm y) {}:=by
  cases b
  .simpa using G.2 rfl
  .simpa using G.1 rfl
 refine⟨_,_,BA.pure (u:=[]) ?_,Z⟩;intro C S a hW _ z;have Q:=z c (by rw[O];simp[Op.operands]);have h2:=z x (by rw[O];simp[Op.operands]);have h3:=z y (by rw[O];simp[Op.operands]);rw[hc] at Q;simp only[Aa,rd] at Q;refine⟨if b then a.eval x else a.eval y,?_,?_⟩
 .simp[execOp,O,Q,asBool]
 .cases b<;>simp_all
def eQ{n:Nat}{x:AV}{e:Option Au}(z:Ru n x K e):(∃e',e=some e')/\K x {use:=[n]}:=by
 cases e with
 |none=>exact z.elim
 |some e=>exact⟨⟨e,rfl⟩,z⟩
def Qvi{x:Operand}(Q:o.op= .nilCheck x)(O:lE h K (Az tm x)):BS P tm h nx o K:=by
 cases hx:Az tm x<;>rw[hx] at O<;>try exact O.elim
 case im d=>
  cases d<;>try exact O.elim
  all_goals
   refine⟨_,_,BA.pure (u:=[]) ?_,O⟩;intro C S a hW _ G;have z:=G x (by rw[Q];simp[Op.operands]);rw[hx] at z;refine⟨_,?_,z⟩;simp only[Aa,rd] at z
   first
    |(obtain⟨b,p,vs,T,fr,z,_⟩:=z;simp[execOp,Q,z];done)
    |(obtain⟨v,z,_⟩:=z;simp[execOp,Q,z])
 case ptr n p=>
  obtain⟨⟨e,Z⟩,O⟩:=eQ O;refine⟨_,_,BA.pure (u:=[n]) ?_,O⟩;intro C S a hW hu G;have z:=G x (by rw[Q];simp[Op.operands]);rw[hx] at z;refine⟨_,?_,z⟩;simp only[Aa] at z;obtain⟨l,hl,hv⟩:=z.2 e (by rw[hu n (by simp),Z]);simp[execOp,Q,hv]
 case eptr n i p=>
  obtain⟨⟨e,Z⟩,O⟩:=eQ O;refine⟨_,_,BA.pure (u:=[n]) ?_,O⟩;intro C S a hW hu G;have z:=G x (by rw[Q];simp[Op.operands]);rw[hx] at z;refine⟨_,?_,z⟩;simp only[Aa] at z;obtain⟨l,hl,hv⟩:=z.2 e (by rw[hu n (by simp),Z]);simp[execOp,Q,hv]
def UX{op:UnOp}{T:TypeId}{x:Operand}(Q:o.op= .unOp op T x)(G:Zg K op (Az tm x)):BS P tm h nx o K:=by
 cases hx:Az tm x<;>rw[hx] at G<;>cases op<;>try exact G.elim
 all_goals
  rename_i d;cases d<;>try exact G.elim
 all_goals
  refine⟨_,_,BA.pure (u:=[]) ?_,G⟩;intro C S a hW _ z;have O:=z x (by rw[Q];simp[Op.operands]);rw[hx] at O;simp only[Aa,rd] at O;refine⟨_,by simp[execOp,Q,O,Op.unary,Op.intArith];rfl,by simp only[Aa,rd]⟩
def Qyh{x:Operand}{i:Nat}(ho:o.op= .extract x i)(O:lD i K (Az tm x)):BS P tm h nx o K:=by
 cases hx:Az tm x<;>rw[hx] at O<;>try exact O.elim
 case im d=>
  cases d<;>try exact O.elim
  rename_i cs;simp only[lD] at O;cases z:cs[i]? with
  |none=>rw[z] at O;exact O.elim
  |some d=>
   rw[z] at O;refine⟨_,_,BA.pure (u:=[]) ?_,O⟩;intro C S a hW _ Q;have G:=Q x (by rw[ho];simp[Op.operands]);rw[hx] at G;simp only[Aa,rd] at G;obtain⟨vs,G,Z⟩:=G;have aa: ∀(i:Nat) (cs:List D) (vs:List Value),rdl S.ok S.hp cs vs->cs[i]? =some d-> ∃v,vs[i]? =some v/\rd S.ok S.hp d v:=by
    intro i;induction i with
    |zero=>
     intro cs vs h z;cases cs with
     |nil=>simp at z
     |cons c cs=>simp at z;subst z;simp only[rdl] at h;obtain⟨v,r,rfl,G,_⟩:=h;exact⟨v,by simp,G⟩
    |succ i ih=>
     intro cs vs h z;cases cs with
     |nil=>simp at z
     |cons c cs=>simp at z;simp only[rdl] at h;obtain⟨v,r,rfl,_,Z⟩:=h;simpa using ih cs r Z z
   obtain⟨v,hv,hd⟩:=aa i cs vs.toList Z z;refine⟨v,?_,by simpa only[Aa] using hd⟩;simp at hv;simp[execOp,ho,G,Instr.extract,hv]
 case tup cs=>
  simp only[lD] at O;cases z:cs[i]? with
  |none=>rw[z] at O;exact O.elim
  |some d=>
   rw[z] at O;refine⟨_,_,BA.pure (u:=[]) ?_,O⟩;intro C S a hW _ Q;have G:=Q x (by rw[ho];simp[Op.operands]);rw[hx] at G;simp only[Aa] at G;obtain⟨vs,G,Z⟩:=G;have aa: ∀(i:Nat) (cs:List AV) (vs:List Value),AN S cs vs->cs[i]? =some d-> ∃v,vs[i]? =some v/\Aa S d v:=by
    intro i;induction i with
    |zero=>
     intro cs vs h z;cases cs with
     |nil=>simp at z
     |cons c cs=>simp at z;subst z;simp only[AN] at h;obtain⟨v,r,rfl,G,_⟩:=h;exact⟨v,by simp,G⟩
    |succ i ih=>
     intro cs vs h z;cases cs with
     |nil=>simp at z
     |cons c cs=>simp at z;simp only[AN] at h;obtain⟨v,r,rfl,_,Z⟩:=h;simpa using ih cs r Z z
   obtain⟨v,hv,hd⟩:=aa i cs vs.toList Z z;refine⟨v,?_,hd⟩;simp at hv;simp[execOp,ho,G,Instr.extract,hv]
end
section
variable {P:Program}{tm:List (Nat×AV)}{h:Nat->Option Au}{nx:Nat}{o:Oper}{K:Ah}
def eD{T:TypeId}{ti:TI}(Q:tI P T=some ti){w:World}{b p:Nat}{vs:Array Value}{U:TypeId}{fr:Nat×Nat}
 (hb:w.heap[b]? =some (.cells vs U fr))(hn:ti.size<=(vs.toList.drop p).length)(hs:ti.agg=true\/ti.size=1):
 (loadVar T ⟨b,p,none⟩).run P w= .ok (if ti.agg then .agg ((vs.toList.drop p).take ti.size).toArray else ((vs.toList.drop p).take ti.size).headD undef) w:=by
 have G: ∀j v,((vs.toList.drop p).take ti.size)[j]? =some v->w.cell? ((⟨b,p,none⟩:Addr).add j)=some v:=by
  intro j v O;rw[Qa,Qyp hb];rw[aC] at O;split at O
  .rw[Iv] at O;simpa using O
  .cases O
 have Z:((vs.toList.drop p).take ti.size).length=ti.size:=by rw[Cf];omega
 have z:=run_loadCells_list (P:=P) w ⟨b,p,none⟩ _ G;rw[Z] at z;unfold loadVar;cases ha:ti.agg with
 |true=>simp[Qsu Q,ha,Jz Q,z]
 |false=>
  have h1:ti.size=1:=by simpa[ha] using hs
  obtain⟨v,hv⟩: ∃v,(vs.toList.drop p).take ti.size=[v]:=by
   rw[h1] at Z⊢;exact Zdt.1 Z
  have:=G 0 v (by rw[hv];rfl)
  rw[Qa] at this;rw[hv];simp[Qsu Q,ha,run_load];simp at this;rw[this]
def Wc{ok:Nat->Prop}{hp:Nat->Option Obj}{ti:TI}{ds:List D}{vs:List Value}(z:rdl ok hp ds vs)(G:ds.length=ti.size)(hs:ti.agg=true\/ti.size=1):
 rd ok hp (bE ti.agg ds) (if ti.agg then .agg vs.toArray else vs.headD undef):=by
 cases ha:ti.agg with
 |true=>simp only[bE,Ck,BM,rd];exact⟨_,rfl,z⟩
 |false=>
  have O:ti.size=1:=by simpa[ha] using hs
  rw[O] at G;obtain⟨d,rfl⟩:=Zdt.1 G;simp only[rdl] at z;obtain⟨v,r,rfl,Q,Z⟩:=z;simpa[bE,iO] using Q
def sW{S:A9}{ti:TI}{ds:List AV}{vs:List Value}(z:AN S ds vs)(G:ds.length=ti.size)(hs:ti.agg=true\/ti.size=1):
 Aa S (iV ti.agg ds) (if ti.agg then .agg vs.toArray else vs.headD undef):=by
 cases ha:ti.agg with
 |true=>
  simp only[iV,Ck,BM];cases hi:DO ds with
  |none=>simp only[Ys,Aa];exact⟨_,rfl,z⟩
  |some Z=>
   simp only[Ys,Aa,rd];rw[lH hi] at z;exact⟨_,rfl,(I2 _ _).1 z⟩
 |false=>
  have O:ti.size=1:=by simpa[ha] using hs
  rw[O] at G;obtain⟨d,rfl⟩:=Zdt.1 G;simp only[AN] at z;obtain⟨v,r,rfl,Q,h5⟩:=z;simpa[iV,hdV] using Q
def Qy5{ok:Nat->Prop}{hp:Nat->Option Obj}{k:Nat}: ∀(i:Nat) (rows:List (List D)) (vs:List Value) (row:List D),rdr ok hp k rows vs->rows[i]? =some row->
 row.length=k/\rdp ok hp row (vs.drop (i*k))
 |_,[],_,_,_,z=>by simp at z
 |0,r::G,vs,row,h,z=>by
  simp at z;subst z;simp only[rdr] at h;simpa using ⟨h.1,h.2.1⟩
 |i+1,r::G,vs,row,h,z=>by
  simp only[rdr] at h
  have:=Qy5 i G (vs.drop k) row h.2.2 (by simpa using z)
  rw[EF] at this;rwa [F5,IH,vY]
def Qw7{S:A9}{k:Nat}: ∀(i:Nat) (rows:List (List AV)) (vs:List Value) (row:List AV),BH S k rows vs->rows[i]? =some row->
 row.length=k/\Cy S row (vs.drop (i*k))
 |_,[],_,_,_,z=>by simp at z
 |0,r::G,vs,row,h,z=>by
  simp at z;subst z;simp only[BH] at h;simpa using ⟨h.1,h.2.1⟩
 |i+1,r::G,vs,row,h,z=>by
  simp only[BH] at h
  have:=Qw7 i G (vs.drop k) row h.2.2 (by simpa using z)
  rw[EF] at this;rwa [F5,IH,vY]
def UU{T:TypeId}{x:Operand}(ho:o.op= .load T x)(z:Bg (Qrk h (Az tm x) K) (tI P T)):BS P tm h nx o K:=by
 cases hT:tI P T with
 |none=>rw[hT] at z;exact z.elim
 |some ti=>
  rw[hT] at z;simp only[Bg,Qrk] at z;cases hx:Az tm x<;>rw[hx] at z<;>try exact z.elim
  case im d=>
   cases d<;>try exact z.elim
   case ref cs=>
    simp only[Xd,fG,Hh,FV] at z;obtain⟨hs,aa,z⟩:=z;refine⟨_,_,BA.pure (u:=[]) ?_,z⟩;intro C S a hW _ G;have Q:=G x (by rw[ho];simp[Op.operands]);rw[hx] at Q;simp only[Aa,rd] at Q;obtain⟨b,p,vs,U,fr,hv,ag,hb,hr⟩:=Q;obtain⟨h2,h3⟩:=V9 ti.size cs _ hr aa;refine⟨_,?_,by simp only[Aa];exact Wc h3 (by rw[Cf];omega) hs⟩;simp[execOp,ho,hv,Instr.loadAt,Instr.sureAddr,eD hT hb h2 hs]
   case gp g=>
    simp only[Xd] at z;obtain⟨hg,hz,ha,z⟩:=z;refine⟨_,_,BA.pure (u:=[]) ?_,z⟩;intro C S a hW _ G;have Q:=G x (by rw[ho];simp[Op.operands]);rw[hx] at Q;simp only[Aa,rd] at Q;obtain⟨ag,t2,x2,T2,fr,hb⟩:=hW.gp.at hg;refine⟨.iface t2 x2,?_,by simp only[Aa,rd];exact⟨ag,⟨t2,x2,rfl⟩,T2,fr,hb⟩⟩;have hl:=eD hT (w:=S.w) (p:=0) hb (by simp[hz]) (.inr hz);simp[execOp,ho,Q,Instr.loadAt,Instr.sureAddr,hl,ha,hz]
  case ptr n p=>
   simp only[Xd] at z;cases hn:h n with
   |none=>rw[hn] at z;exact z.elim
   |some e=>
    rw[hn] at z;obtain⟨m,e⟩:=e;cases e<;>try exact z.elim
    case cells U cs=>
     simp only[Jb,vB] at z;obtain⟨hs,aa,z⟩:=z;refine⟨_,_,BA.pure (u:=[n]) ?_,z⟩;intro C S a hW hu G;have Q:=G x (by rw[ho];simp[Op.operands]);have Z:S.h n=some (m,.cells U cs):=(hu n (by simp)).trans hn;rw[hx] at Q;simp only[Aa] at Q;obtain⟨l,hl,hv⟩:=Q.2 _ Z;have O:=hW.obj _ _ Z;simp only[Aw] at O;obtain⟨lc,vs,ab,ah,hb,ad⟩:=O;rw[hl] at ab;obtain rfl:=AD ab;have h2:=kZ p cs _ (WI _ _ ad) (by omega);obtain⟨h3,h4⟩:=WH ti.size _ _ h2 (by rw[CG];omega);refine⟨_,?_,sW h4 (by rw[Cf,CG];omega) hs⟩;simp[execOp,ho,hv,ah,Instr.loadAt,Instr.sureAddr,eD hT hb h3 hs]
    case view cs=>
     simp only[Jb,fG] at z;obtain⟨hs,aa,z⟩:=z;refine⟨_,_,BA.pure (u:=[n]) ?_,z⟩;intro C S a hW hu G;have Q:=G x (by rw[ho];simp[Op.operands]);have Z:S.h n=some (m,.view cs):=(hu n (by simp)).trans hn;rw[hx] at Q;simp only[Aa] at Q;obtain⟨l,hl,hv⟩:=Q.2 _ Z;have O:=hW.obj _ _ Z;simp only[Aw] at O;obtain⟨lc,vs,U,fr,ab,hb,ad⟩:=O;rw[hl] at ab;obtain rfl:=AD ab;have h2:=V6 p _ _ ad (by omega);obtain⟨h3,h4⟩:=V9 ti.size _ _ h2 (by rw[CG];omega);rw[EF] at h3 h4;refine⟨_,?_,by simp only[Aa];exact Wc h4 (by rw[Cf,CG];omega) hs⟩;simp[execOp,ho,hv,Instr.loadAt,Instr.sureAddr,eD hT hb h3 hs]
  case eptr n i p=>
   simp only[Xd] at z;cases hn:h n with
   |none=>rw[hn] at z;exact z.elim
   |some e=>
    rw[hn] at z;obtain⟨m,e⟩:=e;cases e<;>try exact z.elim
    case arr U k rows=>
     simp only[Ja,J1,fG] at z;obtain⟨hi,z⟩:=z;obtain⟨hs,aa,z⟩:=z rows[i] (Bk hi);refine⟨_,_,BA.pure (u:=[n]) ?_,z⟩;intro C S a hW hu G;have Q:=G x (by rw[ho];simp[Op.operands]);have Z:S.h n=some (m,.arr U k rows):=(hu n (by simp)).trans hn;rw[hx] at Q;simp only[Aa] at Q;obtain⟨l,hl,hv⟩:=Q.2 _ Z;have O:=hW.obj _ _ Z;rw[hl] at O;simp only[Aw] at O;obtain⟨_,af,vs,hb,aj,hr⟩:=O;obtain⟨ai,ac⟩:=Qy5 i rows _ _ hr (Bk hi);have h2:=V6 p _ _ ac (by omega);obtain⟨h3,h4⟩:=V9 ti.size _ _ h2 (by rw[CG];omega);rw[EF,EF,<-Qq] at h3 h4;refine⟨_,?_,by simp only[Aa];exact Wc h4 (by rw[Cf,CG];omega) hs⟩;simp only[Ad.esz] at hv;simp[execOp,ho,hv,Instr.loadAt,Instr.sureAddr,eD hT hb h3 hs]
    case arrA U k rows=>
     simp only[Ja,J1,vB] at z;obtain⟨hi,z⟩:=z;obtain⟨hs,aa,z⟩:=z rows[i] (Bk hi);refine⟨_,_,BA.pure (u:=[n]) ?_,z⟩;intro C S a hW hu G;have Q:=G x (by rw[ho];simp[Op.operands]);have Z:S.h n=some (m,.arrA U k rows):=(hu n (by simp)).trans hn;rw[hx] at Q;simp only[Aa] at Q;obtain⟨l,hl,hv⟩:=Q.2 _ Z;have O:=hW.obj _ _ Z;rw[hl] at O;simp only[Aw] at O;obtain⟨_,af,vs,hb,aj,hr⟩:=O;obtain⟨ai,ac⟩:=Qw7 i rows _ _ hr (Bk hi);have h2:=kZ p _ _ ac (by omega);obtain⟨h3,h4⟩:=WH ti.size _ _ h2 (by rw[CG];omega);rw[EF,EF,<-Qq] at h3 h4;refine⟨_,?_,sW h4 (by rw[Cf,CG];omega) hs⟩;simp only[Ad.esz] at hv;simp[execOp,ho,hv,Instr.loadAt,Instr.sureAddr,eD hT hb h3 hs]
def yX{u:TypeDesc}(P:Program):(∃z:Array Field,u= .struct z/\(z.toList.all λf=>(P.info? f.type).isSome)=true/\
 Fw P u= .struct (z.toList.map λf=>(f.offset,((P.info? f.type).map (·.size)).getD 0)))\/
 (∃z,u= .struct z/\Fw P u= .other)\/(∀z,u≠ .struct z):=by
 cases u<;>try (right;right;intro f hf;cases hf;done)
 rename_i z;cases hh:(z.toList.all λf=>(P.info? f.type).isSome) with
 |true=>left;exact⟨z,rfl,hh,by simp only[Fw,hh,Ck]⟩
 |false=>right;left;exact⟨z,rfl,by simp only[Fw,hh,BC]⟩
def Qut{T:TypeId}{ti:TI}(hT:tI P T=some ti){fs:List (Nat×Nat)}(hf:ti.kind= .struct fs):
 ∃z,P.underlying T=some (.struct z)/\(z.toList.all λf=>(P.info? f.type).isSome)=true/\fs=z.toList.map λf=>(f.offset,((P.info? f.type).map (·.size)).getD 0):=by
 obtain⟨i,u,hi,hu,h1,h2,h3,G,h5⟩:=Qd hT;rw[hf] at G;rcases yX P (u:=u) with ⟨z,rfl,O,Q⟩|⟨z,rfl,Q⟩|Z
 .rw[Q] at G;exact⟨z,hu,O,by simpa using G⟩
 .rw[Q] at G;cases G
 .cases u<;>simp only[Fw,reduceCtorEq] at G;exact absurd rfl (Z _)
def ZL(u:TypeDesc):TK->Prop
 | .int k=>u= .int k
 | .str=>u= .string
 | .bool=>u= .bool
 | .ptr e=>u= .pointer e
 |_=>True
def PL(P:Program)(u:TypeDesc):ZL u (Fw P u):=by
 cases u<;>try (simp only[Fw,ZL];done)
 rename_i z;cases hh:(z.toList.all λf=>(P.info? f.type).isSome)<;>simp only[Fw,hh,Ck,BC,ZL]
def Qr8{T:TypeId}{ti:TI}(G:tI P T=some ti): ∃u,P.underlying T=some u/\ZL u ti.kind:=by
 obtain⟨i,u,hi,O,Q,Z,h3,z,h5⟩:=Qd G;exact⟨u,O,z▸PL P u⟩
def Vk{T:TypeId}{ti:TI}(z:tI P T=some ti){k:IntKind}(hf:ti.kind= .int k):P.underlying T=some (.int k):=by
 obtain⟨u,G,hb⟩:=Qr8 z;rw[hf] at hb;simp only[ZL] at hb;rw[G,hb]
def Wu{T:TypeId}{ti:TI}(z:tI P T=some ti)(hf:ti.kind= .str):P.underlying T=some .string:=by
 obtain⟨u,G,hb⟩:=Qr8 z;rw[hf] at hb;simp only[ZL] at hb;rw[G,hb]
def Zm{T:TypeId}{ti:TI}(z:tI P T=some ti)(hf:ti.kind= .bool):P.underlying T=some .bool:=by
 obtain⟨u,G,hb⟩:=Qr8 z;rw[hf] at hb;simp only[ZL] at hb;rw[G,hb]
def kJ{T e:TypeId}{ti:TI}(z:tI P T=some ti)(hf:ti.kind= .ptr e):P.underlying T=some (.pointer e):=by
 obtain⟨u,G,hb⟩:=Qr8 z;rw[hf] at hb;simp only[ZL] at hb;rw[G,hb]
def Qjn{T:TypeId}{ti:TI}(hT:tI P T=some ti){fs:List (Nat×Nat)}(hf:ti.kind= .struct fs){f off sz:Nat}(G:fs[f]? =some (off,sz))(Q:sz≠0)
 (w:World)(b p:Nat):(Instr.fieldAt T (.pointer (some ⟨b,p,none⟩)) f).run P w= .ok (.pointer (some ⟨b,p+off,none⟩)) w:=by
 obtain⟨z,hu,_,rfl⟩:=Qut hT hf;rw[D2] at G;cases hfe:z.toList[f]? with
 |none=>rw[hfe] at G;simp at G
 |some Z=>
  rw[hfe] at G;simp only[CQ,AJ,E0] at G;obtain⟨rfl,rfl⟩:=G;have O:z[f]? =some Z:=by simpa using hfe
  cases hin:P.info? Z.type with
  |none=>rw[hin] at Q;simp at Q
  |some aa=>
   rw[hin] at Q;simp only[CQ,AM] at Q;simp[Instr.fieldAt,underlying,hu,O,Instr.sureAddr,fieldPlace,sizeOf,typeInfo,hin,Q,Qa]
def Qsq{T:TypeId}{x:Operand}{f:Nat}(Z:o.op= .fieldAddr T x f)(z:Bg (yV h (Az tm x) f K) (tI P T)):BS P tm h nx o K:=by
 cases hT:tI P T with
 |none=>rw[hT] at z;exact z.elim
 |some ti=>
  rw[hT] at z;simp only[Bg,yV] at z;cases hf:ti.kind<;>rw[hf] at z<;>try exact z.elim
  rename_i fs;simp only[faK] at z;cases hi:fs[f]? with
  |none=>rw[hi] at z;exact z.elim
  |some q=>
   obtain⟨off,sz⟩:=q;rw[hi] at z;simp only[XM] at z;obtain⟨hz,z⟩:=z;cases hx:Az tm x<;>rw[hx] at z<;>try exact z.elim
   case im d=>
    cases d<;>try exact z.elim
    rename_i cs;simp only[K5] at z;obtain⟨aa,z⟩:=z;refine⟨_,_,BA.pure (u:=[]) ?_,z⟩;intro C S a hW _ G;have O:=G x (by rw[Z];simp[Op.operands]);rw[hx] at O;simp only[Aa,rd] at O;obtain⟨b,p,vs,U,fr,hv,ab,hb,hr⟩:=O;refine⟨_,by simp[execOp,Z,hv,Qjn hT hf hi hz];rfl,?_⟩;simp only[Aa,rd]
    have:=V6 off _ _ hr aa
    rw[EF] at this;exact⟨b,p+off,vs,U,fr,rfl,ab,hb,this⟩
   case ptr n p=>
    simp only[K5] at z;obtain⟨⟨e,he⟩,z⟩:=eQ z;refine⟨_,_,BA.pure (u:=[n]) ?_,z⟩;intro C S a hW hu G;have O:=G x (by rw[Z];simp[Op.operands]);rw[hx] at O;simp only[Aa] at O;have hS:S.h n=some e:=(hu n (by simp)).trans he;obtain⟨l,hl,hv⟩:=O.2 e hS;refine⟨_,by simp[execOp,Z,hv,Qjn hT hf hi hz];rfl,?_⟩;simp only[Aa];refine⟨rfl,λe' Q=>⟨l,hl,by rw[Qq]⟩⟩
   case eptr n i p=>
    simp only[K5] at z;obtain⟨⟨e,he⟩,z⟩:=eQ z;refine⟨_,_,BA.pure (u:=[n]) ?_,z⟩;intro C S a hW hu G;have O:=G x (by rw[Z];simp[Op.operands]);rw[hx] at O;simp only[Aa] at O;have hS:S.h n=some e:=(hu n (by simp)).trans he;obtain⟨l,hl,hv⟩:=O.2 e hS;refine⟨_,by simp[execOp,Z,hv,Qjn hT hf hi hz];rfl,?_⟩;simp only[Aa];refine⟨rfl,λe' Q=>⟨l,hl,?_⟩⟩;rw[hS] at Q;obtain rfl:=AD Q;rw[Qq]
def Qb{T:TypeId}{ti:TI}(hT:tI P T=some ti){e:TypeId}(hf:ti.kind= .slice e):P.underlying T=some (.slice e):=by
 obtain⟨i,u,hi,hu,h1,h2,h3,G,h5⟩:=Qd hT;rw[hf] at G;rcases yX P (u:=u) with ⟨z,rfl,Z,O⟩|⟨z,rfl,O⟩|Q
 .rw[O] at G;cases G
 .rw[O] at G;cases G
 cases u<;>simp only[Fw,TK.slice.injEq,reduceCtorEq] at G;rotate_left
 .exact absurd rfl (Q _)
 rw[G];exact hu
def Qs2{T:TypeId}{ti:TI}(hT:tI P T=some ti){n:Nat}{e:TypeId}(hf:ti.kind= .array n e):P.underlying T=some (.array n e):=by
 obtain⟨i,u,hi,hu,h1,h2,h3,G,h5⟩:=Qd hT;rw[hf] at G;rcases yX P (u:=u) with ⟨z,rfl,Z,O⟩|⟨z,rfl,O⟩|Q
 .rw[O] at G;cases G
 .rw[O] at G;cases G
 cases u<;>simp only[Fw,TK.array.injEq,reduceCtorEq] at G;rotate_left
 .exact absurd rfl (Q _)
 obtain⟨rfl,rfl⟩:=G;exact hu
def mF{T:TypeId}{ti:TI}(hT:tI P T=some ti){n:TypeId}{e:TypeId}(hf:ti.kind= .map n e):P.underlying T=some (.map n e):=by
 obtain⟨i,u,hi,hu,h1,h2,h3,G,h5⟩:=Qd hT;rw[hf] at G;rcases yX P (u:=u) with ⟨z,rfl,Z,O⟩|⟨z,rfl,O⟩|Q
 .rw[O] at G;cases G
 .rw[O] at G;cases G
 cases u<;>simp only[Fw,TK.map.injEq,reduceCtorEq] at G;rotate_left
 .exact absurd rfl (Q _)
 obtain⟨rfl,rfl⟩:=G;exact hu
def Qsk{T:TypeId}{x i:Operand}(ho:o.op= .indexAddr T x i)(z:Bg (yO P h (Az tm x) (Az tm i) K) (tI P T)):BS P tm h nx o K:=by
 cases hT:tI P T with
 |none=>rw[hT] at z;exact z.elim
 |some ti=>
  rw[hT] at z;simp only[Bg,yO] at z;cases hi:Az tm i<;>rw[hi] at z<;>try exact z.elim
  rename_i d;cases d<;>try exact z.elim
  rename_i ik n;simp only[Qjp] at z;cases hf:ti.kind<;>rw[hf] at z<;>try exact z.elim
  case slice e=>
   have Q:=Qb hT hf;simp only[wQ] at z;cases hE:tI P e with
   |none=>rw[hE] at z;exact z.elim
   |some te=>
    rw[hE] at z;simp only[Bg,Yd] at z;cases hx:Az tm x<;>rw[hx] at z<;>try exact z.elim
    case im d=>
     cases d<;>try exact z.elim
     rename_i nz k rows;obtain⟨ad,h0,hn,z⟩:=z;have ac:n.toNat<rows.length:=by omega
     have z:=z rows[n.toNat] (Bk ac);refine⟨_,_,BA.pure (u:=[]) ?_,z⟩;intro C S a hW _ G;have Z:=G x (by rw[ho];simp[Op.operands]);have h2:=G i (by rw[ho];simp[Op.operands]);rw[hx] at Z;rw[hi] at h2;simp only[Aa,rd] at Z h2;rcases Z with ⟨_,ai⟩|⟨b,p,cap,vs,U,fr,hv,_,_,_,ag,hb,hr⟩
     .rw[ai] at ac;simp at ac
     obtain⟨ak,O⟩:=Qy5 n.toNat rows _ _ hr (Bk ac);rw[EF] at O;refine⟨.pointer (some ⟨b,p+n.toNat*k,none⟩),?_,?_⟩
     .simp[execOp,ho,h2,hv,Instr.indexAt,asIntOf,underlying,Q,h0,hn,Jz hE,Qa,ad]
     .simp only[Aa,rd];exact⟨b,_,vs,U,fr,rfl,ag,hb,O⟩
    case own m=>
     change Me m n K te (h m) at z;cases hm:h m with
     |none=>rw[hm] at z;exact z.elim
     |some q=>
      rw[hm] at z;obtain⟨mu,q⟩:=q;have aj: ∃k len,q.esz=k/\q.len=len/\k=te.size/\0<=n/\n<(len:Int)/\K (.eptr m n.toNat 0) {use:=[m]}:=by
       cases q<;>try exact z.elim
       all_goals exact⟨_,_,rfl,rfl,z⟩
      obtain⟨k,len,ah,aa,ad,h0,hn,z⟩:=aj;refine⟨_,_,BA.pure (u:=[m]) ?_,z⟩;intro C S a hW hu G;have Z:=G x (by rw[ho];simp[Op.operands]);have h2:=G i (by rw[ho];simp[Op.operands]);rw[hx] at Z;rw[hi] at h2;have hS:S.h m=some (mu,q):=(hu m (by simp)).trans hm;simp only[Aa,rd] at Z h2;have h3:=Z.2 _ hS;cases hl:S.ρ m with
      |none=>
       exfalso;have af:=hW.obj _ _ hS;rw[hl] at af
       have:q.len=0:=by
        cases q<;>simp only[Aw] at af<;>simp[Ad.len]<;>(try exact af.2)
       omega
      |some l=>
       rw[hl] at h3;simp only at h3;refine⟨.pointer (some ⟨l.b,l.p+n.toNat*k,none⟩),?_,?_⟩
       .rw[aa] at h3;simp[execOp,ho,h2,h3,Instr.indexAt,asIntOf,underlying,Q,h0,hn,Jz hE,Qa,ad]
       .simp only[Aa];refine⟨rfl,λe' ab=>⟨l,hl,?_⟩⟩;rw[hS] at ab;obtain rfl:=AD ab;simp[ah]
  case array m e=>
   have Q:=Qs2 hT hf;simp only[wQ] at z;cases hE:tI P e with
   |none=>rw[hE] at z;exact z.elim
   |some te=>
    rw[hE] at z;simp only[Bg,Md] at z;cases hx:Az tm x<;>rw[hx] at z<;>try exact z.elim
    case im d=>
     cases d<;>try exact z.elim
     rename_i cs;obtain⟨h0,hn,aa,z⟩:=z;refine⟨_,_,BA.pure (u:=[]) ?_,z⟩;intro C S a hW _ G;have Z:=G x (by rw[ho];simp[Op.operands]);have h2:=G i (by rw[ho];simp[Op.operands]);rw[hx] at Z;rw[hi] at h2;simp only[Aa,rd] at Z h2;obtain⟨b,p,vs,U,fr,hv,ag,hb,hr⟩:=Z;have O:=V6 (n.toNat*te.size) _ _ hr aa;rw[EF] at O;refine⟨.pointer (some ⟨b,p+n.toNat*te.size,none⟩),?_,?_⟩
     .simp[execOp,ho,h2,hv,Instr.indexAt,asIntOf,underlying,Q,h0,hn,Jz hE,Qa,Instr.sureAddr]
     .simp only[Aa,rd];exact⟨b,_,vs,U,fr,rfl,ag,hb,O⟩
    case ptr q p=>
     obtain⟨h0,hn,z⟩:=z;obtain⟨⟨e',ab⟩,z⟩:=eQ z;refine⟨_,_,BA.pure (u:=[q]) ?_,z⟩;intro C S a hW hu G;have Z:=G x (by rw[ho];simp[Op.operands]);have h2:=G i (by rw[ho];simp[Op.operands]);rw[hx] at Z;rw[hi] at h2;have hS:S.h q=some e':=(hu q (by simp)).trans ab;simp only[Aa,rd] at Z h2;obtain⟨l,hl,hv⟩:=Z.2 _ hS;refine⟨.pointer (some ⟨l.b,l.p+p+n.toNat*te.size,none⟩),?_,?_⟩
     .simp[execOp,ho,h2,hv,Instr.indexAt,asIntOf,underlying,Q,h0,hn,Jz hE,Qa,Instr.sureAddr]
     .simp only[Aa];exact⟨rfl,λ_ _=>⟨l,hl,by rw[Qq]⟩⟩
end
def A9.ice(S:A9)(X:Nat->Bool):A9:=⟨S.ρ,λb=>S.ok b\/ ∃o e l,X o=false/\S.h o=some e/\e.2.isView=false/\S.ρ o=some l/\l.b=b,λo=>(S.h o).map λe=>(e.1 && X o,e.2),S.w⟩
def V8{S:A9}{X:Nat->Bool}{o:Nat}{e':Au}(h:(S.ice X).h o=some e'): ∃e,S.h o=some e/\e'=(e.1 && X o,e.2):=by
 simp only[A9.ice,D4] at h;obtain⟨e,z,rfl⟩:=h;exact⟨e,z,rfl⟩
def HA(S:A9)(X:Nat->Bool):B3 (λ_=>True) S (S.ice X):=by
 refine⟨λb hb=>⟨.inl hb,rfl⟩,?_⟩;intro o _ e' z;obtain⟨e,G,rfl⟩:=V8 z;exact⟨e,G,rfl,rfl,rfl⟩
def VC{C:AW}{S:A9}{X:Nat->Bool}(hW:Wf C S):Wf C (S.ice X):=by
 have hp:=HA S X;refine⟨hW.os,hW.tape,hW.output,hW.size,hW.keep,λb hb=> .inl (hW.ok0 b hb),?_,?_,?_,?_,?_,hW.gl⟩
 .rintro b (hb|⟨o,e,l,_,O,hv,Q,rfl⟩)
  .exact hW.ok1 b hb
  .obtain⟨_,z⟩:=hW.loc o e l O Q;cases hm:e.1 with
   |false=>rw[hm,hv] at z;exact hW.ok1 _ (by simpa using z)
   |true=>
    rw[hm] at z;simp only[BM] at z;exact .inr z.2
 .rintro b (hb|⟨o,e,l,_,O,_,Q,rfl⟩)
  .exact hW.oks b hb
  .exact (hW.loc o e l O Q).1
 .intro o e' G;obtain⟨e,O,rfl⟩:=V8 G;exact Ih hp (λ_ _=>rfl) _ (λ_ _=>trivial) (hW.obj o e O)
 .intro o e' l G Q;obtain⟨e,O,rfl⟩:=V8 G;obtain⟨h1,z⟩:=hW.loc o e l O Q;refine⟨h1,?_⟩;cases hX:X o with
  |false=>
   simp only[gK,Df,CK];cases hv:e.2.isView with
   |true=>exact .inr rfl
   |false=>exact .inl (.inr ⟨o,e,l,hX,O,hv,Q,rfl⟩)
  |true=>
   cases hm:e.1 with
   |false=>
    rw[hm] at z;simp only[F6,Df,CK] at z⊢;exact z.imp .inl id
   |true=>
    rw[hm] at z;simp only[gB,BM] at z⊢;refine⟨?_,z.2⟩;rintro (hb|⟨o',e',l',aa,G,_,Z,hb⟩)
    .exact z.1 hb
    .have:=hW.inj o' o e' e l' l G O Z Q hb (by simp[hm])
     subst this;rw[hX] at aa;cases aa
 .intro o o' e1 e2 l l' h1 z Q Z hb ab;obtain⟨e,O,q1⟩:=V8 h1;obtain⟨e',G,q2⟩:=V8 z;refine hW.inj o o' e e' l l' O G Q Z hb ?_;subst q1 q2;simp only[Hd,AS] at ab⊢;exact ab.imp And.left And.left
def mB{C:AW}{S:A9}(hW:Wf C S){X:Nat->Bool}{o:Nat}{e:Au}{l:F8}(Q:X o=false)(Z:(S.ice X).h o=some e)(hv:e.2.isView=false)(hl:(S.ice X).ρ o=some l):(S.ice X).ok l.b:=by
 obtain⟨z,G,O⟩:=V8 Z;subst O;exact .inr ⟨o,z,l,Q,G,hv,hl,rfl⟩
def SL{S:A9}{F:Av}{u:List Nat}(z: ∀n e,(n,e)∈F-> ∃mu,S.h n=some (mu,e.2)/\e.1=false):
 (S.ice λn=> !(F.map (·.1)).contains n).h=({use:=u,kill:=F.map (·.1),new:=F}:Br).appf S.h:=by
 funext n;have Q: ∀(G:Av) (e:Au),hget G n=some e->(n,e)∈G:=by
  intro G;induction G with
  |nil=>intro e h;simp[hget] at h
  |cons p G ih=>
   intro e h;obtain⟨q,y⟩:=p;simp only[hget] at h;cases hq:q==n<;>rw[hq] at h
   .exact BX _ (ih e (by simpa using h))
   .have:q=n:=by simpa using hq
    subst this;simp only[Ck,AJ] at h;subst h;simp
 have O: ∀(G:Av),hget G n=none->n∉G.map (·.1):=by
  intro G;induction G with
  |nil=>intro _;simp
  |cons p G ih=>
   intro h;obtain⟨q,y⟩:=p;simp only[hget] at h;cases hq:q==n<;>rw[hq] at h
   .have:q≠n:=by simpa using hq
    simp only[Bd,Bm,aN];exact⟨λh'=>this h'.symm,ih (by simpa using h)⟩
   .simp at h
 simp only[Br.appf,A9.ice];cases hg:hget F n with
 |some e=>
  have Z:=Q F e hg;obtain⟨mu,q1,q2⟩:=z n e Z;rw[q1]
  have:n∈F.map (·.1):=Bv.2 ⟨_,Z,rfl⟩
  rw[HK.2 this];obtain⟨e1,e2⟩:=e;simp only at q2;simp[q2]
 |none=>
  have hc:(F.map (·.1)).contains n=false:=by
   rw[Qs];intro h';exact O F hg (HK.1 h')
  rw[hc];simp only[BC,Xo,F7];cases S.h n with
  |none=>rfl
  |some e=>rfl
section
variable {P:Program}{tm:List (Nat×AV)}{h:Nat->Option Au}{nx:Nat}{o:Oper}{K:Ah}
def P6{T:TypeId}{x i:Operand}(ho:o.op= .index T x i)(z:Bg (Qno P (Az tm x) (Az tm i) K) (tI P T)):BS P tm h nx o K:=by
 cases hT:tI P T with
 |none=>rw[hT] at z;exact z.elim
 |some ti=>
  rw[hT] at z;simp only[Bg,Qno] at z;cases hi:Az tm i<;>rw[hi] at z<;>try exact z.elim
  rename_i d;cases d<;>try exact z.elim
  rename_i ik n;simp only[Qxc] at z;cases hx:Az tm x
  all_goals rw[hx] at z
  case im d=>
   cases d<;>(try (exfalso;generalize ti.kind=kk at z;cases kk<;>exact z))
   case str s=>
    have ac:ti.kind= .str/\0<=n/\n<(s.size:Int)/\bT s n.toNat (kCh K):=by generalize ti.kind=kk at z;cases kk<;>first|exact z.elim|exact⟨rfl,z⟩
    obtain⟨ad,h0,hn,z⟩:=ac;have Q:n.toNat<s.data.size:=by show n.toNat<s.size;omega
    have O:P.underlying T=some .string:=Wu hT ad;refine⟨_,_,BA.pure (u:=[]) ?_,z s.data[n.toNat] (by simp)⟩;intro C S a hW _ G;have h1:=G x (by rw[ho];simp[Op.operands]);have Z:=G i (by rw[ho];simp[Op.operands]);rw[hx] at h1;rw[hi] at Z;simp only[Aa,rd] at h1 Z;have ab:n.toNat<s.size:=Q;refine⟨.int .u8 (s.data[n.toNat].toNat),?_,by simp only[Aa,rd]⟩;simp[execOp,ho,Z,h1,Instr.index,asIntOf,underlying,O,h0,ab];rfl
   case agg cs=>
    cases hf:ti.kind<;>rw[hf] at z<;>try exact z.elim
    rename_i m e;have O:=Qs2 hT hf;simp only[ixK] at z;cases hE:tI P e with
    |none=>rw[hE] at z;exact z.elim
    |some te=>
     rw[hE] at z;simp only[Bg,SU] at z;obtain⟨hs,h0,hn,af,z⟩:=z;refine⟨_,_,BA.pure (u:=[]) ?_,z⟩;intro C S a hW _ G;have h1:=G x (by rw[ho];simp[Op.operands]);have Z:=G i (by rw[ho];simp[Op.operands]);rw[hx] at h1;rw[hi] at Z;simp only[Aa,rd] at h1 Z;obtain⟨vs,hv,hr⟩:=h1;have h3:=V6 (n.toNat*te.size) _ _ (WT _ _ hr) (by omega);obtain⟨h4,h5⟩:=V9 te.size _ _ h3 (by rw[CG];omega);refine⟨_,?_,by simp only[Aa];exact Wc h5 (by rw[Cf,CG];omega) hs⟩;cases ha:te.agg with
     |true=>
      simp[execOp,ho,Z,hv,Instr.index,asIntOf,underlying,O,h0,hn,Jz hE,part,Qsu hE,ha];apply Oo;simp[List.take_drop,vY]
     |false=>
      have aa:te.size=1:=by simpa[ha] using hs
      have Q:n.toNat*1<vs.toList.length:=by rw[aa,CG] at h4;omega
      have hget:vs[n.toNat*te.size]? =some (vs.toList[n.toNat*1]):=by
       rw[aa];rw[<-Hc,Bk Q]
      simp only[execOp,ho,Z,hv,Instr.index,asIntOf];simp[underlying,O,h0,hn,Jz hE,part,Qsu hE,ha,hget];rw[aa];simp at Q;simp[List.head?_take,List.head?_drop,Q]
  all_goals (exfalso;generalize ti.kind=kk at z;cases kk<;>exact z)
def Qwv{O T:TypeId}{x:Operand}(ho:o.op= .convert O T x)(z:tU (Q5 (tI P T)) (Az tm x) K (tI P O)):BS P tm h nx o K:=by
 cases hS:tI P O with
 |none=>rw[hS] at z;exact z.elim
 |some si=>
 rw[hS] at z;simp only[tU] at z;have Z:(P.underlying O).isSome:=by
  obtain⟨i,u,hi,hu,_⟩:=Qd hS;rw[hu];rfl
 cases hT:tI P T with
 |none=>rw[hT] at z;exact z.elim
 |some ti=>
  rw[hT] at z;simp only[Q5] at z;cases hf:ti.kind<;>rw[hf] at z<;>try exact z.elim
  rename_i k;cases hx:Az tm x<;>rw[hx] at z<;>try exact z.elim
  rename_i d;cases d<;>try exact z.elim
  rename_i k0 n;simp only[KV] at z;have hu:=Vk hT hf;obtain⟨u0,aa⟩:=ZeG.1 Z;refine⟨_,_,BA.pure (u:=[]) ?_,z⟩;intro C S a hW _ G;have Q:=G x (by rw[ho];simp[Op.operands]);rw[hx] at Q;simp only[Aa,rd] at Q;refine⟨.int k (k.wrap n),?_,by simp only[Aa,rd]⟩;simp only[execOp,ho,Q];simp only[convert,Sem.run_bind];simp[underlying,aa,hu,Conv.intToInt]
def Qh1{f:FuncId}(O:f<1000000000){first capt:Array Operand}(Q:o.op= .makeFunc (.func f) first capt)(hk:K (.clo f (DB tm first.toList) (DB tm capt.toList)) {}):BS P tm h nx o K:=by
 refine⟨_,_,BA.pure (u:=[]) ?_,hk⟩;intro C S a hW _ z;have G: ∀(l:List Operand),(∀x∈l,Aa S (Az tm x) (a.eval x))->AN S (DB tm l) (l.map a.eval):=by
  intro l;induction l with
  |nil=>intro _;simp[DB,AN]
  |cons x l ih=>
   intro hl;simp only[DB,AN,Bd];exact⟨_,_,rfl,hl x (by simp),ih (λy hy=>hl y (by simp[hy]))⟩
 refine⟨.func (VR f) (first.map a.eval) (capt.map a.eval),by rw[Xc O];simp[execOp,Q,Instr.makeFunc],?_⟩;simp only[Aa];refine⟨_,_,rfl,?_,?_⟩
 .rw[VO];exact G _ (λx Z=>z x (by rw[Q];simp[Op.operands];exact .inl (by simpa using Z)))
 .rw[VO];exact G _ (λx Z=>z x (by rw[Q];simp[Op.operands];exact .inr (by simpa using Z)))
def Qov{S:A9}: ∀(z:List AV) (ds:List D) (vs:List Value),DO z=some ds->AN S z vs->rdl S.ok S.hp ds vs
 |[],ds,vs,h,hc=>by
  simp only[DO,AJ] at h;subst h;simpa only[rdl,AN] using hc
 |y::z,ds,vs,h,hc=>by
  simp only[DO] at h;simp only[AN] at hc;obtain⟨v,r,rfl,O,Q⟩:=hc;cases hy:y.asD with
  |none=>rw[hy] at h;simp[Oc] at h
  |some d=>
   cases hys:DO z with
   |none=>rw[hy,hys] at h;simp[Oc] at h
   |some G=>
    rw[hy,hys] at h;simp only[Oc,AJ] at h;subst h;cases y<;>simp only[AV.asD,reduceCtorEq] at hy;obtain rfl:=AD hy;simp only[rdl];exact⟨v,r,rfl,by simpa only[Aa] using O,Qov z G r hys Q⟩
def Qse{ok:Nat->Prop}{hp:Nat->Option Obj}: ∀(ds:List D) (vs:List Value),rdl ok hp ds vs->rdp ok hp ds vs
 |[],_,_=>by simp only[rdp]
 |d::ds,vs,h=>by
  simp only[rdl,rdp] at h⊢;obtain⟨v,r,rfl,z,G⟩:=h;exact⟨v,r,rfl,z,Qse ds r G⟩
def Qrs{C:AW}{S:A9}(hW:Wf C S){h:Nat->Option Au}: ∀(xs:List AV) (ds:List D) (E:Av) (vs:List Value),O4 h xs=some (ds,E)->(∀n∈hnm E,S.h n=h n)->AN S xs vs->
 (∀n e,(n,e)∈E-> ∃Z,S.h n=some (Z,e.2)/\e.1=false)/\ ∀X:Nat->Bool,(∀n∈hnm E,X n=false)->rdl (S.ice X).ok (S.ice X).hp ds vs
 |[],ds,E,vs,G,_,hc=>by
  simp only[O4,AJ,E0] at G;obtain⟨rfl,rfl⟩:=G;exact⟨(λn e z=>by cases z),(λX _=>by simpa only[rdl,AN] using hc)⟩
 |x::xs,ds,E,vs,G,hu,hc=>by
  simp only[O4] at G;simp only[AN] at hc;obtain⟨v,r,rfl,hx,af⟩:=hc;cases hd:HP h x with
  |none=>rw[hd] at G;simp[RI] at G
  |some dE=>
   obtain⟨d,E1⟩:=dE;cases hl:O4 h xs with
   |none=>rw[hd,hl] at G;simp[RI] at G
   |some q=>
    obtain⟨ad,E2⟩:=q;rw[hd,hl] at G;simp only[RI,AJ,E0] at G;obtain⟨rfl,rfl⟩:=G;have Q: ∀(a b:Av),hnm (a++b)=hnm a++hnm b:=by
     intro a b;induction a with
     |nil=>rfl
     |cons p a ih=>obtain⟨n,e⟩:=p;simp only[CT,hnm,ih]
    rw[Q] at hu;obtain⟨i1,i2⟩:=Qrs hW xs ad E2 r hl (λn hn=>hu n (Rl _ hn)) af;have ac:(∀n e,(n,e)∈E1-> ∃Z,S.h n=some (Z,e.2)/\e.1=false)/\ ∀X:Nat->Bool,(∀n∈hnm E1,X n=false)->rd (S.ice X).ok (S.ice X).hp d v:=by
     cases x<;>try (simp[HP] at hd;done)
     case im d'=>
      simp only[HP,AJ,E0] at hd;obtain⟨rfl,rfl⟩:=hd;refine⟨(λn e z=>by cases z),(λX _=> ?_)⟩;simp only[Aa] at hx;exact GS (HA S X).ok _ _ hx
     case ptr o p=>
      cases p with
      |succ p=>simp[HP] at hd
      |zero=>
       simp only[HP] at hd;cases ho:h o with
       |none=>rw[ho] at hd;simp[RJ] at hd
       |some e=>
        obtain⟨Z,e⟩:=e;rw[ho] at hd;cases e<;>simp only[RJ,reduceCtorEq] at hd;rename_i T cs;cases ha:DO cs with
        |none=>rw[ha] at hd;simp[RL] at hd
        |some es=>
         rw[ha] at hd;simp only[RL,AJ,E0] at hd;obtain⟨rfl,rfl⟩:=hd;have O:S.h o=some (Z,.cells T cs):=(hu o (by simp[hnm])).trans ho;refine⟨?_,?_⟩
         .intro n e z;simp only[BK,E0] at z;obtain⟨rfl,rfl⟩:=z;exact⟨Z,O,rfl⟩
         .intro X hX;have ab:=hW.obj o _ O;simp only[Aw] at ab;obtain⟨lc,vs,g1,g2,g3,g4⟩:=ab;simp only[Aa] at hx;obtain⟨l,aa,hv⟩:=hx.2 _ O;rw[g1] at aa;obtain rfl:=AD aa;simp only[rd];refine⟨lc.b,lc.p+0,vs,_,_,hv,.inr ⟨o,_,lc,hX o (by simp[hnm]),O,rfl,g1,rfl⟩,g3,?_⟩;rw[g2];have g5:=Qov (S:=S) cs es vs.toList ha g4;have g6:=Li (HA S X).ok es _ g5;simpa using Qse es _ g6
    refine⟨?_,?_⟩
    .intro n e z;rcases Bx.1 z with z|z
     .exact ac.1 n e z
     .exact i1 n e z
    .intro X hX;rw[Q] at hX;simp only[rdl];exact⟨v,r,rfl,ac.2 X (λn hn=>hX n (Kv _ hn)),i2 X (λn hn=>hX n (Rl _ hn))⟩
def Mc: ∀{E:Av} {n:Nat},(hget E n=none->n∉hnm E)/\ ∀e,hget E n=some e->(n,e)∈E
 |[],n=>⟨λ_=>by simp[hnm],λe h=>by simp[hget] at h⟩
 |(q,x)::E,n=>by
  obtain⟨O,Q⟩:= @Mc E n;simp only[hget,hnm];cases hq:q==n
  .have z:q≠n:=by simpa using hq
   refine⟨λh=> ?_,λe h=> ?_⟩
   .simp only[Bm,aN];exact⟨λh'=>z h'.symm,O (by simpa using h)⟩
   .exact BX _ (Q e (by simpa using h))
  .have G:q=n:=by simpa using hq
   refine⟨λh=>by simp at h,λe h=> ?_⟩;simp only[Ck,AJ] at h;subst h;subst G;simp
def YY{f:FuncId}(aa:f<1000000000){first capt:Array Operand}(ho:o.op= .makeFunc (.func f) first capt)
 (z:NE f (DB tm first.toList) (DB tm capt.toList) K (O4 h (DB tm first.toList)) (O4 h (DB tm capt.toList))):BS P tm h nx o K:=by
 cases h1:O4 h (DB tm first.toList) with
 |none=>rw[h1] at z;exact Qh1 aa ho z
 |some q1=>
  cases h2:O4 h (DB tm capt.toList) with
  |none=>rw[h1,h2] at z;exact Qh1 aa ho z
  |some q2=>
   obtain⟨a,E⟩:=q1;obtain⟨b,F⟩:=q2;rw[h1,h2] at z;simp only[NE] at z;have Z:K (.im (.fn f a b)) {use:=hnm (E++F),kill:=hnm (E++F),new:=E++F}->BS P tm h nx o K:=by
    intro z;refine⟨_,_,?_,z⟩;intro C S ac next Q hW hu an am ab hn
    have ad: ∀(l:List Operand),(∀x∈l,Aa S (Az tm x) (ac.eval x))->AN S (DB tm l) (l.map ac.eval):=by
     intro l;induction l with
     |nil=>intro _;simp[DB,AN]
     |cons x l ih=>
      intro hl;simp only[DB,AN,Bd];exact⟨_,_,rfl,hl x (by simp),ih (λy hy=>hl y (by simp[hy]))⟩
    have O: ∀(a b:Av),hnm (a++b)=hnm a++hnm b:=by
     intro a b;induction a with
     |nil=>rfl
     |cons p a ih=>obtain⟨n,e⟩:=p;simp only[CT,hnm,ih]
    have ai: ∀n∈hnm (E++F),S.h n=h n:=λn hn=>hu n (by simpa using hn)
    have c1:=ad first.toList (λx hx=>ab x (by rw[ho];simp[Op.operands];exact .inl (by simpa using hx)))
    have c2:=ad capt.toList (λx hx=>ab x (by rw[ho];simp[Op.operands];exact .inr (by simpa using hx)));obtain⟨s1,s2⟩:=Qrs hW _ a E _ h1 (λn hn=>ai n (by rw[O];exact Kv _ hn)) c1;obtain⟨t1,t2⟩:=Qrs hW _ b F _ h2 (λn hn=>ai n (by rw[O];exact Rl _ hn)) c2
    let X:Nat->Bool:=λn=> !(hnm (E++F)).contains n
    have hX: ∀n∈hnm (E++F),X n=false:=by
     intro n hn;simp only[X,HK.2 hn,mQ]
    have af: ∀n e,(n,e)∈E++F-> ∃mu,S.h n=some (mu,e.2)/\e.1=false:=by
     intro n e he;rcases Bx.1 he with he|he
     .exact s1 n e he
     .exact t1 n e he
    have ag:(S.ice X).h=({use:=hnm (E++F),kill:=hnm (E++F),new:=E++F}:Br).appf S.h:=by
     funext n;simp only[Br.appf,A9.ice];obtain⟨g1,g2⟩:= @Mc (E++F) n;cases hg:hget (E++F) n with
     |some e=>
      have hm:=g2 e hg;obtain⟨mu,q1,q2⟩:=af n e hm;rw[q1];simp only[CQ]
      have:n∈hnm (E++F):=by
       have: ∀(G:Av),(n,e)∈G->n∈hnm G:=by
        intro G;induction G with
        |nil=>intro h;cases h
        |cons p G ih=>
         intro h;rcases Bm.1 h with h'|h'
         .subst h';simp[hnm]
         .obtain⟨q,y⟩:=p;simp only[hnm,Bm];exact .inr (ih h')
       exact this _ hm
      rw[hX n this];obtain⟨e1,e2⟩:=e;simp only at q2;simp[q2]
     |none=>
      have ak:=g1 hg;have hc:(hnm (E++F)).contains n=false:=by
       rw[Qs];intro h';exact ak (HK.1 h')
      rw[hc];simp only[BC];have aj:X n=true:=by simp only[X,hc,Xo]
      cases S.h n with
      |none=>rfl
      |some e=>simp[aj]
    unfold Oper.wp;have ah:(execOp ac.eval o).run P S.w= .ok (.value (.func (VR f) (first.map ac.eval) (capt.map ac.eval))) S.w:=by rw[Xc aa];simp[execOp,ho,Instr.makeFunc]
    rw[ah,Oper.upon_value];refine hn _ (S.ice X) (VC hW) ag ?_ ?_
    .have:=HA S X
     exact⟨this.ok,λo _=>this.nm o trivial⟩
    .simp only[Aa,rd];refine⟨_,_,rfl,?_,?_⟩
     .rw[VO];exact s2 X (λn hn=>hX n (by rw[O];exact Kv _ hn))
     .rw[VO];exact t2 X (λn hn=>hX n (by rw[O];exact Rl _ hn))
   cases hEF:E++F with
   |nil=>
    rw[hEF] at z Z;exact Z z
   |cons e r=>
    rw[hEF] at z Z;simp only[Qz3] at z;rcases z with z|z
    .exact Z z
    .exact Qh1 aa ho z
def Qj2(op:BinOp)(t:TypeId)(x y:Operand)(k k':IntKind)(a b:Int)(w:World):(eqGuard op t x y (.int k a) (.int k' b)).run P w= .ok () w:=by
 cases op<;>simp[eqGuard]
def Qn0(op:BinOp)(t:TypeId)(x y:Operand)(a b:ByteArray)(w:World):(eqGuard op t x y (.string a) (.string b)).run P w= .ok () w:=by
 cases op<;>simp[eqGuard]
def Qwl(op:BinOp)(t:TypeId)(x y:Operand)(a b:Bool)(w:World):(eqGuard op t x y (.bool a) (.bool b)).run P w= .ok () w:=by
 cases op<;>simp[eqGuard]
def wJ(a b:Int):(a==b)=decide (a=b):=by
 by_cases h:a=b<;>simp[h]
def Za{op:BinOp}{T U:TypeId}{x y:Operand}{k:IntKind}{a b:Int}(ho:o.op= .binOp op T x y U)(hx:Az tm x= .im (.int k a))(hy:Az tm y= .im (.int k b))
 (z:IE op k a b K):BS P tm h nx o K:=by
 have Q: ∀n,(∀w,(binOp op T (.int k a) (.int k b)).run P w= .ok (.int k n) w)->K (.im (.int k n)) {}->BS P tm h nx o K:=by
  intro n Z z;refine⟨_,_,BA.pure (u:=[]) ?_,z⟩;intro C S ac hW _ G;have h1:=G x (by rw[ho];simp[Op.operands]);have h2:=G y (by rw[ho];simp[Op.operands]);rw[hx] at h1;rw[hy] at h2;simp only[Aa,rd] at h1 h2;refine⟨.int k n,?_,by simp only[Aa,rd]⟩;simp[execOp,ho,h1,h2,Qj2,Z]
 have O: ∀n,(∀w,(binOp op T (.int k a) (.int k b)).run P w= .ok (.bool n) w)->K (.im (.bool n)) {}->BS P tm h nx o K:=by
  intro n Z z;refine⟨_,_,BA.pure (u:=[]) ?_,z⟩;intro C S ac hW _ G;have h1:=G x (by rw[ho];simp[Op.operands]);have h2:=G y (by rw[ho];simp[Op.operands]);rw[hx] at h1;rw[hy] at h2;simp only[Aa,rd] at h1 h2;refine⟨.bool n,?_,by simp only[Aa,rd]⟩;simp[execOp,ho,h1,h2,Qj2,Z]
 cases op<;>simp only[IE] at z<;>try exact z.elim
 case quo=>exact Q _ (λw=>by simp[binOp,Op.intDiv,z.1]) z.2
 case rem=>exact Q _ (λw=>by simp[binOp,Op.intDiv,z.1]) z.2
 case eql=>exact O _ (λw=>by simp[binOp,Op.intCmp,wJ]) z
 case neq=>exact O _ (λw=>by simp[binOp,Op.intCmp,bne,wJ]) z
 case lss=>exact O _ (λw=>by simp[binOp,Op.intCmp]) z
 case leq=>exact O _ (λw=>by simp[binOp,Op.intCmp]) z
 case gtr=>exact O _ (λw=>by simp[binOp,Op.intCmp]) z
 case geq=>exact O _ (λw=>by simp[binOp,Op.intCmp]) z
 case and=>exact Q _ (λw=>by simp[binOp,Op.intBits,Ot]) z
 case or=>exact Q _ (λw=>by simp[binOp,Op.intBits,orI]) z
 case xor=>exact Q _ (λw=>by simp[binOp,Op.intBits,yH]) z
 all_goals exact Q _ (λw=>by simp[binOp,Op.intArith]) z
def UT{op:BinOp}{T U:TypeId}{x y:Operand}{k k':IntKind}{a b:Int}(Z:o.op= .binOp op T x y U)(hx:Az tm x= .im (.int k a))(hy:Az tm y= .im (.int k' b))
 (z:ZK op k a k' b K (GL op)):BS P tm h nx o K:=by
 have O: ∀n,(∀w,(binOp op T (.int k a) (.int k' b)).run P w= .ok (.int k n) w)->K (.im (.int k n)) {}->BS P tm h nx o K:=by
  intro n Q z;refine⟨_,_,BA.pure (u:=[]) ?_,z⟩;intro C S ac hW _ G;have h1:=G x (by rw[Z];simp[Op.operands]);have h2:=G y (by rw[Z];simp[Op.operands]);rw[hx] at h1;rw[hy] at h2;simp only[Aa,rd] at h1 h2;refine⟨.int k n,?_,by simp only[Aa,rd]⟩;simp[execOp,Z,h1,h2,Qj2,Q]
 cases op
 case shr=>
  simp only[GL,ZK] at z;exact O _ (λw=>by simp[binOp,Op.shift,Int.not_lt.2 z.1]) z.2
 case shl=>
  simp only[GL,ZK] at z;exact O _ (λw=>by simp[binOp,Op.shift,Int.not_lt.2 z.1]) z.2
 all_goals
  simp only[GL,ZK] at z;obtain⟨rfl,z⟩:=z;exact Za Z hx hy z
def Qmj(s:ByteArray):s.toList=s.data.toList:=by
 have G: ∀(n i:Nat) (r:List UInt8),s.size - i=n->ByteArray.toList.loop s i r=r.reverse++s.data.toList.drop i:=by
  intro n;induction n with
  |zero=>
   intro i r h;unfold ByteArray.toList.loop;rw[Af (by omega),Dr (by show s.data.toList.length<=i;simp;show s.size<=i;omega)];simp
  |succ n ih=>
   intro i r h;unfold ByteArray.toList.loop;rw[An (by omega),ih (i+1) _ (by omega)];have z:i<s.data.toList.length:=by simp;show i<s.size;omega
   rw[VK z];simp[ByteArray.get!]
   have:i<s.data.size:=by simpa using z
   exact getElem!_pos s.data i this
 have:=G _ 0 [] rfl
 simpa[ByteArray.toList] using this
def Qry(a b:ByteArray):(a.toList==b.toList)=decide (a=b):=by
 rw[Qmj,Qmj];by_cases h:a=b
 .subst h;simp
 .have:a.data≠b.data:=by
   intro h';apply h;cases a;cases b;simp at h';rw[h']
  simp[h,this]
def Zd{op:BinOp}{T U:TypeId}{x y:Operand}{a b:ByteArray}(ho:o.op= .binOp op T x y U)(hx:Az tm x= .im (.str a))(hy:Az tm y= .im (.str b))
 (Q:NG op a b K):BS P tm h nx o K:=by
 have aa: ∀n,(∀w,(binOp op T (.string a) (.string b)).run P w= .ok (.bool n) w)->K (.im (.bool n)) {}->BS P tm h nx o K:=by
  intro n G Q;refine⟨_,_,BA.pure (u:=[]) ?_,Q⟩;intro C S ac hW _ z;have Z:=z x (by rw[ho];simp[Op.operands]);have O:=z y (by rw[ho];simp[Op.operands]);rw[hx] at Z;rw[hy] at O;simp only[Aa,rd] at Z O;refine⟨.bool n,?_,by simp only[Aa,rd]⟩;simp[execOp,ho,Z,O,Qn0,G]
 cases op<;>simp only[NG] at Q<;>try exact Q.elim
 case eql=>exact aa _ (λw=>by simp[binOp,Op.stringOp,Qry]) Q
 case neq=>exact aa _ (λw=>by simp[binOp,Op.stringOp,Qry]) Q
 case add=>
  refine⟨_,_,BA.pure (u:=[]) ?_,Q.2⟩;intro C S ac hW _ z;have Z:=z x (by rw[ho];simp[Op.operands]);have O:=z y (by rw[ho];simp[Op.operands]);rw[hx] at Z;rw[hy] at O;simp only[Aa,rd] at Z O;refine⟨.string (a++b),?_,by simp only[Aa,rd]⟩;have ab: ¬(((a.size+b.size:Nat):Int)>IntKind.i64.max):=by
   have:=Q.1
   have O:IntKind.i64.max=9223372036854775807:=by decide
   rw[O];omega
  have G: ∀w,(binOp .add T (.string a) (.string b)).run P w= .ok (.string (a++b)) w:=by
   intro w;simp only[binOp,Op.stringOp];rw[Sem.run_ite,Af ab,Sem.run_pure]
  simp[execOp,ho,Z,O,Qn0,G]
def Qmu{T:TypeId}(z:P.underlying T=some .bool)(d:Nat)(a b:Bool)(w:World):(Op.equalIn (d+1) T (.bool a) (.bool b)).run P w= .ok (a==b) w:=by
 simp[Op.equalIn,underlying,z]
def YW{op:BinOp}{T U:TypeId}{x y:Operand}{a b:Bool}(ho:o.op= .binOp op T x y U)(hT:P.underlying T=some .bool)(hx:Az tm x= .im (.bool a))(hy:Az tm y= .im (.bool b))
 (G:Ju op a b K):BS P tm h nx o K:=by
 have O: ∀n,(∀w,(binOp op T (.bool a) (.bool b)).run P w= .ok (.bool n) w)->K (.im (.bool n)) {}->BS P tm h nx o K:=by
  intro n Q G;refine⟨_,_,BA.pure (u:=[]) ?_,G⟩;intro C S ac hW _ z;have Z:=z x (by rw[ho];simp[Op.operands]);have h2:=z y (by rw[ho];simp[Op.operands]);rw[hx] at Z;rw[hy] at h2;simp only[Aa,rd] at Z h2;refine⟨.bool n,?_,by simp only[Aa,rd]⟩;simp[execOp,ho,Z,h2,Qwl,Q]
 cases op<;>simp only[Ju] at G<;>try exact G.elim
 case eql=>exact O _ (λw=>by simp[binOp,Op.equal,Op.maxDepth,Qmu hT 9999]) G
 case neq=>exact O _ (λw=>by simp[binOp,Op.equal,Op.maxDepth,Qmu hT 9999,bne]) G
end
def A9.one(S:A9)(m:Nat)(e:Ad)(l:Option F8)(ks:List Nat)(w':World):A9:=
 ⟨λn=>if n=m then l else S.ρ n,S.ok,λn=>if n=m then some (true,e) else if n∈ks then none else S.h n,w'⟩
structure J3(S:A9)(m:Nat)(e:Ad)(l:Option F8)(ks:List Nat)(w':World):Prop where
 os:w'.os=S.w.os
 tape:w'.tape=S.w.tape
 output:w'.output=S.w.output
 size:S.w.heap.size<=w'.heap.size
 keep: ∀b,b<S.w.heap.size->(∀n f lo,n∈ks->S.h n=some (true,f)->S.ρ n=some lo->lo.b≠b)->w'.heap[b]? =S.w.heap[b]?
 name:m∈ks\/S.h m=none
 loc: ∀lo,l=some lo->lo.b<w'.heap.size/\(S.w.heap.size<=lo.b\/ ∃n f lo',n∈ks/\S.h n=some (true,f)/\S.ρ n=some lo'/\lo'.b=lo.b)
 shape: ∀f,S.h m=some f->l=S.ρ m/\e.esz=f.2.esz/\e.len=f.2.len
 nms: ∀n f,S.h n=some f->S.h m=none->m∉f.2.nms
def eI{C:AW}{S:A9}{m:Nat}{e:Ad}{l:Option F8}{ks:List Nat}{w':World}(hW:Wf C S)(h:J3 S m e l ks w'):
 B3 (λn=>S.h m≠none\/n≠m) S (S.one m e l ks w'):=by
 refine⟨λb hb=>⟨hb,?_⟩,?_⟩
 .refine h.keep b (hW.oks b hb) ?_;intro n f lo _ hn hl O
  have:=(hW.loc n _ lo hn hl).2
  simp only[BM] at this;exact this.1 (O▸hb)
 .intro n hX e' z;simp only[A9.one] at z⊢;by_cases hnm:n=m
  .subst hnm;rw[An rfl] at z⊢;obtain rfl:=AD z;have Q:S.h n≠none:=by rcases hX with G|G;exact G;exact absurd rfl G
   obtain⟨f,hf⟩:=Option.ne_none_iff_exists'.1 Q;obtain⟨G,Z,h3⟩:=h.shape f hf;exact⟨f,hf,G,Z,h3⟩
  .rw[Af hnm] at z⊢;split at z
   .cases z
   .exact⟨e',z,rfl,rfl,rfl⟩
def mE{C:AW}{S:A9}{m:Nat}{e:Ad}{l:Option F8}{ks:List Nat}{w':World}(hW:Wf C S)(h:J3 S m e l ks w')
 (ak:Aw (S.one m e l ks w') l e):Wf C (S.one m e l ks w'):=by
 have hp:=eI hW h;have ah: ∀n f lo Q,n≠m->n∉ks->S.h n=some f->S.ρ n=some lo->l=some Q->Q.b≠lo.b:=by
  intro n f lo Q hnm Z hn hl G hb;rcases (h.loc Q G).2 with h1|⟨n2,f2,ad,ag,ac,aa,af⟩
  .have:=(hW.loc n f lo hn hl).1;omega
  .have:=hW.inj n2 n _ _ ad lo ac hn aa hl (by omega) (by simp)
   subst this;exact Z ag
 refine⟨h.os.trans hW.os,h.tape.trans hW.tape,h.output.trans hW.output,D9 hW.size h.size,?_,hW.ok0,hW.ok1,λb hb=>Gr (hW.oks b hb) h.size,?_,?_,?_,hW.gl⟩
 .intro b hb hM;refine (h.keep b (Gr hb hW.size) ?_).trans (hW.keep b hb hM);intro n f lo _ hn hl am
  have:=(hW.loc n _ lo hn hl).2
  simp only[BM] at this;rcases this.2 with h1|h1
  .omega
  .exact hM (am▸h1)
 .intro n f hf;simp only[A9.one] at hf;by_cases hnm:n=m
  .subst hnm;rw[An rfl] at hf;obtain rfl:=AD hf;simpa[A9.one] using ak
  .rw[Af hnm] at hf;split at hf
   .cases hf
   .rename_i Z;have ho:=hW.obj n f hf;have hr:(S.one m e l ks w').ρ n=S.ρ n:=by simp[A9.one,hnm]
    rw[hr];refine Ih hp ?_ _ ?_ ho
    .intro lc ai;refine h.keep lc.b (hW.loc n f lc hf ai).1 ?_;intro n2 f2 ad ag ac aa af
     have:=hW.inj n2 n _ _ ad lc ac hf aa ai af (by simp)
     subst this;exact Z ag
    .intro x hx;by_cases aj:S.h m=none
     .right;intro aq;subst aq;exact h.nms n f hf aj hx
     .exact .inl aj
 .intro n f lo hf ab;simp only[A9.one] at hf ab⊢;by_cases hnm:n=m
  .subst hnm;rw[An rfl] at hf ab;obtain rfl:=AD hf;obtain⟨h1,h2⟩:=h.loc lo ab;refine⟨h1,?_⟩;simp only[BM];rcases h2 with h2|⟨n2,f2,ad,ag,ac,aa,af⟩
   .exact⟨λao=>by have:=hW.oks _ ao;omega,.inl (D9 hW.size h2)⟩
   .have:=(hW.loc n2 _ ad ac aa).2
    simp only[BM] at this;rw[af] at this;exact this
  .rw[Af hnm] at hf ab;split at hf
   .cases hf
   .have:=hW.loc n f lo hf ab
    exact⟨Gr this.1 h.size,this.2⟩
 .intro n n' f f' lo Q hf z hl G hb an;simp only[A9.one] at hf z hl G;by_cases hnm:n=m<;>by_cases O:n'=m
  .rw[hnm,O]
  .rw[An hnm] at hf hl;rw[Af O] at z G;split at z
   .cases z
   .rename_i Z;exact absurd hb (ah n' f' Q lo O Z z G hl)
  .rw[Af hnm] at hf hl;rw[An O] at z G;split at hf
   .cases hf
   .rename_i Z;exact absurd hb.symm (ah n f lo Q hnm Z hf hl G)
  .rw[Af hnm] at hf hl;rw[Af O] at z G;split at hf
   .cases hf
   .split at z
    .cases z
    .exact hW.inj n n' f f' lo Q hf z hl G hb an
section
variable {P:Program}{tm:List (Nat×AV)}{h:Nat->Option Au}{nx:Nat}{o:Oper}{r:AV}
def BA.one{u ks:List Nat}{m cnt:Nat}{e:Ad}(hm:(cnt=1/\m=nx)\/(cnt=0/\m∈ks/\h m≠none))
 (hr: ∀(C:AW) (S:A9) (a:Act),Wf C S->(∀n∈u++ks,S.h n=h n)->(cnt=1->S.h nx=none)->(∀n f,S.h n=some f->cnt=1->nx∉f.2.nms)->
  (∀x∈o.op.operands,Aa S (Az tm x) (a.eval x))->
  ∃v w' l,((execOp a.eval o).run P S.w= .ok (.value v) w'\/((execOp a.eval o).run P S.w= .ok .skip w'/\v=undef))/\J3 S m e l ks w'/\
   (B3 (λn=>S.h m≠none\/n≠m) S (S.one m e l ks w')->Aw (S.one m e l ks w') l e/\Aa (S.one m e l ks w') r v)):
 BA P tm h nx o r {use:=u,kill:=ks,new:=[(m,(true,e))],cnt:=cnt}:=by
 intro C S a next Q hW hu ac hnm aa hn
 obtain⟨v,w',l,z,G,ab⟩:=hr C S a hW hu (λhc=>ac nx ⟨AQ _,by rw[hc];exact Nat.lt_succ_self nx⟩)
  (λn f hf hc ad=>hnm n f hf nx ad ⟨AQ _,by rw[hc];exact Nat.lt_succ_self nx⟩) aa
 have hp:=eI hW G;obtain⟨Z,hc⟩:=ab hp;have O:=mE hW G Z;have hh:(S.one m e l ks w').h=({use:=u,kill:=ks,new:=[(m,(true,e))],cnt:=cnt}:Br).appf S.h:=by
  funext n;simp only[A9.one,Br.appf,hget];by_cases hnm:n=m
  .subst hnm;simp
  .have:(m==n)=false:=by
    rw[Iu];exact λh=>hnm h.symm
   simp[this,hnm]
 have hp':B3 (λn=> ¬Fr nx cnt n) S (S.one m e l ks w'):=by
  refine⟨hp.ok,λn hX=>hp.nm n ?_⟩;rcases hm with ⟨ai,aj⟩|⟨ah,ag,af⟩
  .right;intro hnm;exact hX ⟨by omega,by omega⟩
  .left;rw[hu m (by simp[ag])];exact af
 unfold Oper.wp;rcases z with z|⟨z,rfl⟩
 .rw[z,Oper.upon_value];exact hn v _ O hh hp' hc
 .rw[z,Oper.upon_skip];exact hn undef _ O hh hp' hc
end
def VB{S:A9}{nx:Nat}{e:Ad}{cap:Nat}{w':World}{ob:Obj}(z:w'.heap=S.w.heap.push ob)
 (aa:w'.os=S.w.os)(G:w'.tape=S.w.tape)(Q:w'.output=S.w.output){ks:List Nat}(hS:S.h nx=none)
 (O: ∀n f,S.h n=some f->nx∉f.2.nms):J3 S nx e (some ⟨S.w.heap.size,0,cap⟩) ks w':=by
 refine⟨aa,G,Q,by rw[z];simp,?_,.inr hS,?_,?_,λn f hf _=>O n f hf⟩
 .intro b hb _;rw[z,Array.getElem?_push,Af (by omega)]
 .intro lo Z;obtain rfl:=AD Z;refine⟨by rw[z];simp,.inl (AQ _)⟩
 .intro f hf;rw[hS] at hf;cases hf
def Ql6{S:A9}{nx:Nat}{e:Ad}{ks:List Nat}(O:S.h nx=none)
 (z: ∀n f,S.h n=some f->nx∉f.2.nms):J3 S nx e none ks S.w:=by
 refine⟨rfl,rfl,rfl,AQ _,λ_ _ _=>rfl,.inr O,?_,?_,λn f hf _=>z n f hf⟩
 .intro lo G;cases G
 .intro f hf;rw[O] at hf;cases hf
def eY{C:AW}{S:A9}(hW:Wf C S){m:Nat}{f e:Ad}{l:F8}{w':World}{ob:Obj}(hm:S.h m=some (true,f))(hl:S.ρ m=some l)
 (z:w'.heap=S.w.heap.setIfInBounds l.b ob)(ad:w'.os=S.w.os)(O:w'.tape=S.w.tape)(aa:w'.output=S.w.output)
 (Q:e.esz=f.esz)(Z:e.len=f.len):J3 S m e (some l) [m] w':=by
 refine⟨ad,O,aa,by rw[z];simp,?_,.inl (by simp),?_,?_,?_⟩
 .intro b hb ac
  have:=ac m f l (by simp) hm hl
  rw[z,fW];rw[Af this]
 .intro lo ab;obtain rfl:=AD ab;exact⟨by rw[z];simpa using (hW.loc m _ _ hm hl).1,.inr ⟨m,f,l,by simp,hm,hl,rfl⟩⟩
 .intro g hg;rw[hm] at hg;obtain rfl:=AD hg;exact⟨hl.symm,Q,Z⟩
 .intro n g _ G;rw[hm] at G;cases G
def ZQ{S:A9}{nx:Nat}{e:Ad}{l:Option F8}{ks:List Nat}{w':World}{ob:Obj}(z:w'.heap=S.w.heap.push ob):
 (S.one nx e l ks w').hp S.w.heap.size=some ob:=by
 simp[A9.hp,A9.one,z]
section
variable {P:Program}{tm:List (Nat×AV)}{h:Nat->Option Au}{nx:Nat}{o:Oper}{K:Ah}
def Qqf{T:TypeId}{cs:List AV}(G:(C:AW)->(S:A9)->(a:Act)->Wf C S->(∀x∈o.op.operands,Aa S (Az tm x) (a.eval x))->
 ∃z:Array Value,(execOp a.eval o).run P S.w= .ok (.value (.pointer (some ⟨S.w.heap.size,0,none⟩))) (S.w.alloc (.cells z T))/\AN S cs z.toList)
 (hb: ∀m∈AH cs,m≠nx):BA P tm h nx o (.ptr nx 0) {new:=[(nx,(true,.cells T cs))],cnt:=1}:=by
 refine BA.one (u:=[]) (ks:=[]) (.inl ⟨rfl,rfl⟩) ?_;intro C S a hW _ Z hnm aa;obtain⟨z,O,Q⟩:=G C S a hW aa;refine⟨_,_,some ⟨S.w.heap.size,0,0⟩,.inl O,VB (w':=S.w.alloc (.cells z T)) (ob:= .cells z T) rfl rfl rfl rfl (Z rfl) (λn f hf=>hnm n f hf rfl),?_⟩;intro hp;constructor
 .simp only[Aw];refine⟨_,z,rfl,rfl,ZQ rfl,V5 hp cs _ (λm hm=> .inr (hb m hm)) Q⟩
 .simp only[Aa];refine⟨rfl,λe he=>⟨⟨S.w.heap.size,0,0⟩,by simp[A9.one],rfl⟩⟩
def YX{T:TypeId}{x:Operand}(Q:o.op= .box T x)(G:Vb nx T K (Az tm x).cells)(hb: ∀m∈AH (Az tm x).cells,m≠nx):BS P tm h nx o K:=by
 obtain⟨O,G⟩:=G;refine⟨_,_,Qqf ?_ hb,G⟩;intro C S a hW z;have Z:=z x (by rw[Q];simp[Op.operands]);refine⟨(a.eval x).cells,?_,sC (λh=>O (by rw[h];rfl)) Z⟩;simp[execOp,Q,Instr.box,newVar,newRow]
def P0{T:TypeId}(ho:o.op= .alloc T)(G:Bg (Qsv nx T K) (tI P T)):BS P tm h nx o K:=by
 cases hT:tI P T with
 |none=>rw[hT] at G;exact G.elim
 |some ti=>
  rw[hT] at G;simp only[Bg,Qsv] at G;obtain⟨hl,hz,G⟩:=G;obtain⟨z,Q,ab,O⟩:=dZ hT hl hz;refine⟨_,_,Qqf ?_ ?_,G⟩
  .intro C S a hW aa;refine⟨z.cells,?_,(I2 _ _).2 (O _ _)⟩;simp[execOp,ho,Instr.alloc,Q,newVar,newRow]
  .intro m Z
   have: ∀(l:List D),AH (l.map AV.im)=[]:=by
    intro l;induction l with
    |nil=>rfl
    |cons x l ih=>simp[AH,AV.nms,ih]
   rw[this] at Z;cases Z
def Qw0(l:List D):AH (l.map AV.im)=[]:=by
 induction l with
 |nil=>rfl
 |cons x l ih=>simp[AH,AV.nms,ih]
def Qyk{T:TypeId}(O:o.op= .makeMap T none)(z:Bg (zO P nx K) (tI P T)):BS P tm h nx o K:=by
 cases hT:tI P T with
 |none=>rw[hT] at z;exact z.elim
 |some ti=>
 rw[hT] at z;simp only[Bg,zO] at z;cases hf:ti.kind<;>rw[hf] at z<;>try exact z.elim
 rename_i Z e;simp only[Tw] at z;cases hkt:Bw P Z with
 |none=>rw[hkt] at z;exact z.elim
 |some kt=>
 rw[hkt] at z;simp only[Yt] at z;refine⟨_,_,BA.one (u:=[]) (ks:=[]) (.inl ⟨rfl,rfl⟩) ?_,z⟩;intro C S a hW _ G hnm Q;refine⟨.map (some S.w.heap.size),S.w.alloc (.map #[] 0),some ⟨S.w.heap.size,0,0⟩,.inl ?_,VB (w':=S.w.alloc (.map #[] 0)) (ob:= .map #[] 0) rfl rfl rfl rfl (G rfl) (λn f hf=>hnm n f hf rfl),?_⟩
 .simp[execOp,O,Instr.makeMap]
 intro hp;constructor
 .simp only[Aw];refine⟨_,#[],0,rfl,by simp,ZQ rfl,by simp[rde],by simp,by simp⟩
 .simp only[Aa];exact⟨rfl,λe he=>⟨⟨S.w.heap.size,0,0⟩,by simp[A9.one],rfl⟩⟩
def P8{e k:Nat}(z: ∀(S:A9) (a:Act),(execOp a.eval o).run P S.w= .ok (.value (.slice none 0 0)) S.w)(O:K (.own nx) {new:=[(nx,(true,.arr e k []))],cnt:=1}):BS P tm h nx o K:=by
 refine⟨_,_,BA.one (u:=[]) (ks:=[]) (.inl ⟨rfl,rfl⟩) ?_,O⟩;intro C S a hW _ G hnm Q;refine⟨_,_,none,.inl (z S a),Ql6 (G rfl) (λn f hf=>hnm n f hf rfl),?_⟩;intro hp;constructor
 .simp[Aw]
 .simp only[Aa];exact⟨rfl,λe Z=>by simp[A9.one]⟩
def Qabd{x:Operand}(G:o.op= .assign x)(z:zY P tm nx o.type K x):BS P tm h nx o K:=by
 simp only[zY] at z;cases hn':(WQ x && !(o.type==315)) with
 |false=>rw[hn'] at z;exact oN (.inr G) z
 |true=>
  rw[hn'] at z;have hn:WQ x=true:=by
   cases h:WQ x
   .rw[h] at hn';cases hn'
   .rfl
  simp only[zK] at z;have O:x= .const (.slice none 0 0):=by
   cases x<;>simp only[WQ,reduceCtorEq] at hn;rename_i v;unfold QT at hn;split at hn
   .rfl
   .cases hn
  cases ht:Q5 (tI P o.type) with
  |none=>rw[ht] at z;exact z.elim
  |some Q=>
   rw[ht] at z;cases Q<;>try exact z.elim
   rename_i e;simp only[Qg6] at z;cases hE:tI P e with
   |none=>rw[hE] at z;exact z.elim
   |some Z=>
    rw[hE] at z;simp only[Bg,Qjk] at z;exact P8 (λS a=>by simp[execOp,G,O,Act.eval]) z
def Qod{α:Type}(l:List α)(off:Nat)(v:α)(xs:List α)(h:off<l.length):BY (l.set off v) (off+1) xs=BY l off (v::xs):=by
 have z:(l.set off v).take (off+1)=l.take off++[v]:=by
  rw[List.take_set,List.set_eq_take_append_cons_drop];rw[An (by rw[Cf];omega),List.take_take,ZeW (by omega),Zfd];simp
 have G:(l.set off v).drop (off+1+xs.length)=l.drop (off+1+xs.length):=List.drop_set_of_lt (by omega);simp only[BY,z,G,CP];rw[show off+1+xs.length=off+(xs.length+1) from by omega];simp
def Qf9{w:World}{b p:Nat}{T:TypeId}: ∀(xs:List Value) (i:Nat) (vs:Array Value),(∀v∈xs,v.oneCell'=true)->p+i+xs.length<=vs.size->
 w.heap[b]? =some (.cells vs T (0,0))-> ∃w',(storeCells ⟨b,p,none⟩ xs i).run P w= .ok () w'/\w'.heap=w.heap.setIfInBounds b (.cells (BY vs.toList (p+i) xs).toArray T (0,0))/\
  w'.os=w.os/\w'.tape=w.tape/\w'.output=w.output:=by
 intro xs;induction xs generalizing w with
 |nil=>
  intro i vs _ _ hb;refine⟨w,by simp[storeCells],?_,rfl,rfl,rfl⟩
  have:(BY vs.toList (p+i) ([]:List Value)).toArray=vs:=by simp[BY]
  rw[this];apply Zet;intro k;rw[fW];split
  .rename_i ad;subst ad;split
   .exact hb
   .rename_i ag
    have:b<w.heap.size:=by
     rcases Fj b w.heap.size with h|h
     .exact h
     .rw[Xp h] at hb;cases hb
    exact absurd this ag
  .rfl
 |cons v xs ih=>
  intro i vs G aa hb;have z:b<w.heap.size:=by
   rcases Fj b w.heap.size with h|h
   .exact h
   .rw[Xp h] at hb;cases hb
  simp only[CP] at aa;have Q:w.cell? ⟨b,p+i,none⟩=some (vs[p+i]'(by omega)):=by rw[Qyp hb];simp
  have af:w.frozen? ⟨b,p+i,none⟩=false:=by simp[World.frozen?,hb]
  have O:(w.setCell ⟨b,p+i,none⟩ v).heap=w.heap.setIfInBounds b (.cells (vs.setIfInBounds (p+i) v) T (0,0)):=by
   apply Zet;intro k;simp only[World.setCell,ZdZ,fW];by_cases Z:b=k
   .subst Z;have ac:w.heap[b]= .cells vs T (0,0):=by simpa[J8 z] using hb
    simp[z,ac]
   .simp[Z]
  have ab:(w.setCell ⟨b,p+i,none⟩ v).heap[b]? =some (.cells (vs.setIfInBounds (p+i) v) T (0,0)):=by
   rw[O,fW];simp[z]
  obtain⟨w',h1,h2,h3,h4,h5⟩:=ih (w:=w.setCell ⟨b,p+i,none⟩ v) (i+1) _ (λu hu=>G u (by simp[hu])) (by simp;omega) ab;refine⟨w',?_,?_,h3,h4,h5⟩
  .simp only[storeCells,Sem.run_bind,Qa,run_store P w _ v .plain (G v (by simp)),Q,af];simpa using h1
  .rw[h2,O];apply Zet;intro k;simp only[fW,ZdN];by_cases Z:b=k
   .subst Z;simp only[BM,z];congr 3;rw[ZdH,<-Qq];exact Qod _ _ _ _ (by simp;omega)
   .simp[Z]
def kO{S:A9}: ∀(cs:List AV) (vs:List Value),Ra cs=true->AN S cs vs-> ∀v∈vs,v.oneCell'=true
 |[],vs,_,h=>by simp only[AN] at h;simp[h]
 |x::cs,vs,G,h=>by
  simp only[Ra,AS] at G;simp only[AN] at h;obtain⟨v,r,rfl,z,Z⟩:=h;intro u O;rcases Bm.1 O with rfl|O
  .cases x<;>simp only[AV.one,Df,false_and] at G<;>simp only[Aa] at z
   case im d=>
    cases d<;>simp only[D.one,Df,false_and] at G<;>simp only[rd] at z
    case sl nz k rows=>
     rcases z with ⟨rfl|⟨_,a,rfl⟩,_⟩|⟨b,p,cap,vs,T,Q,rfl,_⟩<;>rfl
    case ref cs=>obtain⟨b,p,vs,T,Q,rfl,_⟩:=z;rfl
    case mp kt es=>obtain⟨b,p,vs,rfl,_⟩:=z;rfl
    case fn f a c=>obtain⟨b,p,rfl,_⟩:=z;rfl
    case ifc t d=>obtain⟨b,rfl,_⟩:=z;rfl
    case tok g=>obtain⟨_,⟨t,x,rfl⟩,_⟩:=z;rfl
    all_goals subst z;rfl
   case clo=>obtain⟨b,p,rfl,_⟩:=z;rfl
   all_goals exact z.1
  .exact kO cs r G.2 Z u O
def Qab4{ok:Nat->Prop}{hp:Nat->Option Obj}: ∀(off:Nat) (ds xs:List D) (vs us:List Value),rdp ok hp ds vs->rdl ok hp xs us->off+xs.length<=ds.length->
 rdp ok hp (BY ds off xs) (BY vs off us):=by
 intro off;induction off with
 |zero=>
  intro ds xs vs us O G z;have hl:=eX _ _ G;simp only[BY,Rq,Hg,FV] at*;rw[hl];have hd:=V6 xs.length ds vs O z;clear z O hl;generalize ds.drop xs.length=ds' at*;generalize vs.drop xs.length=vs' at*;induction xs generalizing us with
  |nil=>simp only[rdl] at G;subst G;simpa using hd
  |cons x xs ih=>
   simp only[rdl] at G;obtain⟨v,r,rfl,Q,Z⟩:=G;simp only[CT,rdp];exact⟨v,_,rfl,Q,ih r Z⟩
 |succ off ih=>
  intro ds xs vs us O G z;cases ds with
  |nil=>simp at z
  |cons d ds=>
   simp only[rdp] at O;obtain⟨v,r,rfl,Q,Z⟩:=O
   have:=ih ds xs r us Z G (by simp only[CP] at z;omega)
   simp only[BY,Lr,CT,Nat.succ_add,Qp,rdp] at this⊢;exact⟨v,_,rfl,Q,this⟩
def Qmv{S:A9}: ∀(off:Nat) (ds xs:List AV) (vs us:List Value),Cy S ds vs->AN S xs us->off+xs.length<=ds.length->
 Cy S (BY ds off xs) (BY vs off us):=by
 intro off;induction off with
 |zero=>
  intro ds xs vs us O G z;have hl:=IB _ _ G;simp only[BY,Rq,Hg,FV] at*;rw[hl];have hd:=kZ xs.length ds vs O z;clear z O hl;generalize ds.drop xs.length=ds' at*;generalize vs.drop xs.length=vs' at*;induction xs generalizing us with
  |nil=>simp only[AN] at G;subst G;simpa using hd
  |cons x xs ih=>
   simp only[AN] at G;obtain⟨v,r,rfl,Q,Z⟩:=G;simp only[CT,Cy];exact⟨v,_,rfl,Q,ih r Z⟩
 |succ off ih=>
  intro ds xs vs us O G z;cases ds with
  |nil=>simp at z
  |cons d ds=>
   simp only[Cy] at O;obtain⟨v,r,rfl,Q,Z⟩:=O
   have:=ih ds xs r us Z G (by simp only[CP] at z;omega)
   simp only[BY,Lr,CT,Nat.succ_add,Qp,Cy] at this⊢;exact⟨v,_,rfl,Q,this⟩
def Qml{S:A9}{off:Nat}{ds xs:List AV}{vs us:List Value}(Q:AN S ds vs)(Z:AN S xs us)(z:off+xs.length<=ds.length):
 AN S (BY ds off xs) (BY vs off us):=by
 have G:=IB _ _ Q;have O:=IB _ _ Z;have h3:=Qmv off ds xs vs us (WI _ _ Q) Z z;have h4:=(WH (BY ds off xs).length _ _ h3 (AQ _)).2;rw[Gs] at h4
 have:(BY ds off xs).length=(BY vs off us).length:=by
  simp[BY,Cf,CG,G,O]
 rwa [this,Gs] at h4
def ML{ok:Nat->Prop}{hp:Nat->Option Obj}{k:Nat}: ∀(i:Nat) (rows:List (List D)) (vs us:List Value) (row xs:List D) (off:Nat),rdr ok hp k rows vs->rows[i]? =some row->
 rdl ok hp xs us->off+xs.length<=k->i*k+k<=vs.length->rdr ok hp k (rows.set i (BY row off xs)) (BY vs (i*k+off) us)
 |_,[],_,_,_,_,_,_,G,_,_,_=>by simp at G
 |0,r::rs,vs,us,row,xs,off,h,G,Z,ho,hv=>by
  simp at G;subst G;simp only[rdr] at h;have hl:=eX _ _ Z;simp only[aD,rdr,gE,FV] at hv⊢;refine⟨?_,Qab4 _ _ _ _ _ h.2.1 Z (by omega),?_⟩
  .simp[BY,Cf,CG];omega
  .have:(BY vs off us).drop k=vs.drop k:=by
    simp only[BY];rw[VP,VP];rw[Dr (by simp only[Cf];omega),Dr (by simp only[Cf];omega),EF];simp only[Hg,Dq,Cf];congr 1;omega
   rw[this];exact h.2.2
 |i+1,r::rs,vs,us,row,xs,off,h,G,Z,ho,hv=>by
  simp only[rdr] at h;simp only[mS,rdr];have e1:(i+1)*k=i*k+k:=by rw[F5,IH]
  rw[e1] at hv⊢;have ih:=ML i rs (vs.drop k) us row xs off h.2.2 (by simpa using G) Z ho (by rw[CG];omega);have Q:BY vs (i*k+k+off) us=vs.take k++BY (vs.drop k) (i*k+off) us:=by
   have e2:vs.take (i*k+k+off)=vs.take k++(vs.drop k).take (i*k+off):=by
    rw[<-gC];congr 1;omega
   simp only[BY,e2,EF,Hw];rw[show i*k+k+off+us.length=k+(i*k+off+us.length) from by omega]
  rw[Q];have O:(vs.take k).length=k:=by rw[Cf];omega
  refine⟨h.1,?_,?_⟩
  .obtain⟨_,h5⟩:=V9 k r vs h.2.1 (by omega);have h6:=WT _ _ h5;rw[DQ (by omega)] at h6;clear ih Q h5 O;generalize vs.take k=q at*;have ab: ∀(r:List D) (q t:List Value),rdp ok hp r q->rdp ok hp r (q++t):=by
    intro r;induction r with
    |nil=>intro q t _;simp only[rdp]
    |cons d r aa=>
     intro q t h;simp only[rdp] at h⊢;obtain⟨v,z,rfl,h7,h8⟩:=h;exact⟨v,z++t,rfl,h7,aa z t h8⟩
   exact ab r q _ h6
  .rw[VP,Dr (by omega),O,Hi];simpa using ih
end
def lJ{S:A9}: ∀(r:List AV) (q t:List Value),Cy S r q->Cy S r (q++t)
 |[],_,_,_=>by simp only[Cy]
 |d::r,q,t,h=>by
  simp only[Cy] at h⊢;obtain⟨v,z,rfl,G,O⟩:=h;exact⟨v,z++t,rfl,G,lJ r z t O⟩
def tZ{ok:Nat->Prop}{hp:Nat->Option Obj}: ∀(r:List D) (q t:List Value),rdp ok hp r q->rdp ok hp r (q++t)
 |[],_,_,_=>by simp only[rdp]
 |d::r,q,t,h=>by
  simp only[rdp] at h⊢;obtain⟨v,z,rfl,G,O⟩:=h;exact⟨v,z++t,rfl,G,tZ r z t O⟩
def Qu1{S:A9}{k:Nat}: ∀(i:Nat) (rows:List (List AV)) (vs us:List Value) (row xs:List AV) (off:Nat),BH S k rows vs->rows[i]? =some row->
 AN S xs us->off+xs.length<=k->i*k+k<=vs.length->BH S k (rows.set i (BY row off xs)) (BY vs (i*k+off) us)
 |_,[],_,_,_,_,_,_,z,_,_,_=>by simp at z
 |0,r::rs,vs,us,row,xs,off,h,z,G,ho,Z=>by
  simp at z;subst z;simp only[BH] at h;have hl:=IB _ _ G;simp only[aD,BH,gE,FV] at Z⊢;refine⟨?_,Qmv _ _ _ _ _ h.2.1 G (by omega),?_⟩
  .simp[BY,Cf,CG];omega
  .have:(BY vs off us).drop k=vs.drop k:=by
    simp only[BY];rw[VP,VP];rw[Dr (by simp only[Cf];omega),Dr (by simp only[Cf];omega),EF];simp only[Hg,Dq,Cf];congr 1;omega
   rw[this];exact h.2.2
 |i+1,r::rs,vs,us,row,xs,off,h,z,G,ho,Z=>by
  simp only[BH] at h;simp only[mS,BH];have e1:(i+1)*k=i*k+k:=by rw[F5,IH]
  rw[e1] at Z⊢;have ih:=Qu1 i rs (vs.drop k) us row xs off h.2.2 (by simpa using z) G ho (by rw[CG];omega);have Q:BY vs (i*k+k+off) us=vs.take k++BY (vs.drop k) (i*k+off) us:=by
   have e2:vs.take (i*k+k+off)=vs.take k++(vs.drop k).take (i*k+off):=by
    rw[<-gC];congr 1;omega
   simp only[BY,e2,EF,Hw];rw[show i*k+k+off+us.length=k+(i*k+off+us.length) from by omega]
  rw[Q];have O:(vs.take k).length=k:=by rw[Cf];omega
  refine⟨h.1,?_,?_⟩
  .obtain⟨_,h5⟩:=WH k r vs h.2.1 (by omega);have h6:=WI _ _ h5;rw[DQ (by omega)] at h6;exact lJ r _ _ h6
  .rw[VP,Dr (by omega),O,Hi];simpa using ih
def yS{α:Type}(l:List α)(p off:Nat)(xs:List α)(h:p<=l.length):(BY l (p+off) xs).drop p=BY (l.drop p) off xs:=by
 have G:l.take (p+off)=l.take p++(l.drop p).take off:=by rw[<-gC]
 have z:(l.take p).length=p:=by rw[Cf];omega
 simp only[BY,G,Hw];rw[VP,Dr (by omega),z,Hi];simp[Qq]
section
variable {P:Program}{tm:List (Nat×AV)}{h:Nat->Option Au}{nx:Nat}{o:Oper}{K:Ah}
def Qiq{T:TypeId}{ti:TI}(hT:tI P T=some ti){w:World}{b p:Nat}{U:TypeId}{vs:Array Value}{v:Value}(G:v.cells.size=ti.size)(z: ∀u∈v.cells.toList,u.oneCell'=true)
 (O:p+ti.size<=vs.size)(hb:w.heap[b]? =some (.cells vs U (0,0))):
 ∃w',(Instr.storeAt T (.pointer (some ⟨b,p,none⟩)) v).run P w= .ok () w'/\w'.heap=w.heap.setIfInBounds b (.cells (BY vs.toList p v.cells.toList).toArray U (0,0))/\
  w'.os=w.os/\w'.tape=w.tape/\w'.output=w.output:=by
 obtain⟨w',Q,Z⟩:=Qf9 (P:=P) (w:=w) (b:=b) (p:=p) (T:=U) v.cells.toList 0 vs z (by simp;omega) hb;refine⟨w',?_,by simpa using Z⟩;simp[Instr.storeAt,Instr.sureAddr,storeVar,Jz hT,G,Q]
def fK{S:A9}{m:Nat}{e:Ad}{l:Option F8}{ks:List Nat}{w':World}{b:Nat}{ob:Obj}(hb:b<S.w.heap.size)(z:w'.heap=S.w.heap.setIfInBounds b ob):
 (S.one m e l ks w').hp b=some ob:=by
 simp[A9.hp,A9.one,z,hb]
def PB{T:TypeId}{x y:Operand}(ho:o.op= .store T x y)(z:Bg (Qri h (Az tm x) (Az tm y) K) (tI P T)):BS P tm h nx o K:=by
 cases hT:tI P T with
 |none=>rw[hT] at z;exact z.elim
 |some ti=>
 rw[hT] at z;simp only[Bg,Qri] at z;obtain⟨hz,hcl,af,z⟩:=z;have ac:Az tm y≠ .any:=by intro hh;rw[hh] at hcl;simp only[AV.cells,Hf] at hcl;exact hz hcl.symm
 cases hx:Az tm x<;>rw[hx] at z<;>try exact z.elim
 case ptr n p=>
  simp only[sK] at z;cases hn:h n with
  |none=>rw[hn] at z;exact z.elim
  |some e=>
  rw[hn] at z;obtain⟨mu,e⟩:=e;cases mu<;>cases e<;>try exact z.elim
  rename_i U cs;simp only[UJ] at z;obtain⟨ai,z⟩:=z;refine⟨_,_,BA.one (u:=[n]) (ks:=[n]) (m:=n) (cnt:=0) (.inr ⟨rfl,by simp,by rw[hn];simp⟩) ?_,z⟩;intro C S a hW hu _ _ O;have h1:=O x (by rw[ho];simp[Op.operands]);have h2:=O y (by rw[ho];simp[Op.operands]);have hS:S.h n=some (true,.cells U cs):=(hu n (by simp)).trans hn;rw[hx] at h1;simp only[Aa] at h1;obtain⟨l,hl,hv⟩:=h1.2 _ hS;have Q:=hW.obj _ _ hS;simp only[Aw] at Q;obtain⟨lc,vs,an,ao,hb,am⟩:=Q;rw[hl] at an;obtain rfl:=AD an;have h3:=sC ac h2;have h4:=IB _ _ h3;have h5:=IB _ _ am;rw[ao,FV] at hv;obtain⟨w',aa,G,ag,ah,Z⟩:=Qiq hT (w:=S.w) (b:=l.b) (p:=p) (U:=U) (vs:=vs) (v:=a.eval y) (by simpa[hcl] using h4) (kO _ _ af h3)
   (by have:vs.size=cs.length:=by simpa using h5
       omega) hb
  refine⟨undef,w',some l,.inr ⟨by simp[execOp,ho,hv,aa],rfl⟩,eY hW hS hl G ag ah Z rfl rfl,?_⟩;intro hp;refine⟨?_,by simp only[Aa]⟩;simp only[Aw];have hX: ∀q:Nat,S.h n≠none\/q≠n:=λq=> .inl (by rw[hS];simp)
  refine⟨l,_,rfl,ao,fK (hW.loc n _ l hS hl).1 G,?_⟩;exact Qml (V5 hp _ _ (λq _=>hX q) am) (V5 hp _ _ (λq _=>hX q) h3) (by omega)
 case eptr n i p=>
  simp only[sK] at z;cases hn:h n with
  |none=>rw[hn] at z;exact z.elim
  |some e=>
  rw[hn] at z;obtain⟨mu,e⟩:=e;cases mu<;>cases e<;>try exact z.elim
  case true.arr U k rows=>
   simp only[Jq,J1,Qxz] at z;obtain⟨hi,z⟩:=z;have z:=z rows[i] (Bk hi);cases hai:DO (Az tm y).cells with
   |none=>rw[hai] at z;exact z.elim
   |some ds=>
   rw[hai] at z;simp only[Yj] at z;obtain⟨ai,z⟩:=z;refine⟨_,_,BA.one (u:=[n]) (ks:=[n]) (m:=n) (cnt:=0) (.inr ⟨rfl,by simp,by rw[hn];simp⟩) ?_,z⟩;intro C S a hW hu _ _ O;have h1:=O x (by rw[ho];simp[Op.operands]);have h2:=O y (by rw[ho];simp[Op.operands]);have hS:S.h n=some (true,.arr U k rows):=(hu n (by simp)).trans hn;rw[hx] at h1;simp only[Aa] at h1;obtain⟨l,hl,hv⟩:=h1.2 _ hS;have Q:=hW.obj _ _ hS;rw[hl] at Q;simp only[Aw] at Q;obtain⟨ab,ad,vs,hb,av,hr⟩:=Q;have h3:=sC ac h2;have h4:=IB _ _ h3;obtain⟨au,_⟩:=Qy5 i rows _ _ hr (Bk hi);simp only[Ad.esz] at hv;have aq:i*k+k<=l.cap*k:=by
    have:(i+1)*k<=l.cap*k:=HL k (by omega)
    rwa [F5,IH] at this
   obtain⟨w',aa,G,ag,ah,Z⟩:=Qiq hT (w:=S.w) (b:=l.b) (p:=l.p+i*k+p) (U:=U) (vs:=vs) (v:=a.eval y) (by simpa[hcl] using h4) (kO _ _ af h3)
    (by omega) hb
   refine⟨undef,w',some l,.inr ⟨by simp[execOp,ho,hv,aa],rfl⟩,eY hW hS hl G ag ah Z rfl (by simp[Ad.len]),?_⟩;intro hp;refine⟨?_,by simp only[Aa]⟩;simp only[Aw];have ak:=ZC hp.ok k rows _ hr;rw[lH hai] at h3;have aj:=Li hp.ok _ _ ((I2 _ _).1 h3);have aw:ds.length=ti.size:=by rw[lH hai] at hcl;simpa using hcl
   refine⟨by simpa using ab,by simpa using ad,_,fK (hW.loc n _ l hS hl).1 G,?_,?_⟩
   .simp[BY,Cf,CG] at h4⊢;omega
   .have:=ML i rows _ (a.eval y).cells.toList rows[i] ds p ak (Bk hi) aj (by omega) (by simp;omega)
    rw[Zen,Qq,yS _ _ _ _ (by simp;omega)];exact this
  case true.arrA U k rows=>
   simp only[Jq,J1,Qyo] at z;obtain⟨hi,z⟩:=z;obtain⟨ai,z⟩:=z rows[i] (Bk hi);refine⟨_,_,BA.one (u:=[n]) (ks:=[n]) (m:=n) (cnt:=0) (.inr ⟨rfl,by simp,by rw[hn];simp⟩) ?_,z⟩;intro C S a hW hu _ _ O;have h1:=O x (by rw[ho];simp[Op.operands]);have h2:=O y (by rw[ho];simp[Op.operands]);have hS:S.h n=some (true,.arrA U k rows):=(hu n (by simp)).trans hn;rw[hx] at h1;simp only[Aa] at h1;obtain⟨l,hl,hv⟩:=h1.2 _ hS;have Q:=hW.obj _ _ hS;rw[hl] at Q;simp only[Aw] at Q;obtain⟨ab,ad,vs,hb,av,hr⟩:=Q;have h3:=sC ac h2;have h4:=IB _ _ h3;obtain⟨au,_⟩:=Qw7 i rows _ _ hr (Bk hi);simp only[Ad.esz] at hv;have aq:i*k+k<=l.cap*k:=by
    have:(i+1)*k<=l.cap*k:=HL k (by omega)
    rwa [F5,IH] at this
   obtain⟨w',aa,G,ag,ah,Z⟩:=Qiq hT (w:=S.w) (b:=l.b) (p:=l.p+i*k+p) (U:=U) (vs:=vs) (v:=a.eval y) (by simpa[hcl] using h4) (kO _ _ af h3)
    (by omega) hb
   refine⟨undef,w',some l,.inr ⟨by simp[execOp,ho,hv,aa],rfl⟩,eY hW hS hl G ag ah Z rfl (by simp[Ad.len]),?_⟩;intro hp;refine⟨?_,by simp only[Aa]⟩;simp only[Aw];have hX: ∀q:Nat,S.h n≠none\/q≠n:=λq=> .inl (by rw[hS];simp)
   have ak:=sG hp k rows _ (λq _=>hX q) hr;have aj:=V5 hp _ _ (λq _=>hX q) h3;refine⟨by simpa using ab,by simpa using ad,_,fK (hW.loc n _ l hS hl).1 G,?_,?_⟩
   .simp[BY,Cf,CG] at h4⊢;omega
   .have:=Qu1 i rows _ (a.eval y).cells.toList rows[i] (Az tm y).cells p ak (Bk hi) aj (by omega) (by simp;omega)
    rw[Zen,Qq,yS _ _ _ _ (by simp;omega)];exact this
end
def Quk(n:Nat): ∀(xs:List Value) (off:Nat) (cs:Array Value),off+xs.length<=cs.size->
 ((xs.zipIdx n).foldl (λ(cs:Array Value) (q:Value×Nat)=>cs.setIfInBounds (off - n+q.2) q.1) cs)=(BY cs.toList (off) xs).toArray\/off<n
 |xs,off,cs,h=>by
  by_cases hn:off<n
  .exact .inr hn
  left;induction xs generalizing n off cs with
  |nil=>simp[BY]
  |cons x xs ih=>
   simp only[CP] at h;simp only[List.zipIdx_cons,gJ];rw[show off - n+n=off from by omega];have z:=ih (n+1) (off+1) (cs.setIfInBounds off x) (by simp;omega) (by omega);rw[show off+1 - (n+1)=off - n from by omega] at z;rw[z];congr 1;rw[ZdH];exact Qod _ _ _ _ (by simp;omega)
def Sl{place:Nat->Option (Nat×Nat)}{cs:Array Value}{i off size:Nat}{v:Value}{rest:List (Nat×Value)}(hp:place i=some (off,size))(hs:v.cells.size=size)
 (z:off+size<=cs.size):Instr.fill place cs ((i,v)::rest)=Instr.fill place (BY cs.toList off v.cells.toList).toArray rest:=by
 simp only[Instr.fill,hp];rw[Af (by simp[hs];omega)];congr 1
 have:=Quk 0 v.cells.toList off cs (by simp;omega)
 rcases this with h|h
 .rw[<-h];rw[<-Array.foldl_toList];simp
 .omega
def Qsp{α:Type}(l:List α)(off:Nat)(xs:List α)(h:off+xs.length<=l.length):(BY l off xs).length=l.length:=by
 simp[BY,Cf,CG];omega
section
variable {P:Program}{tm:List (Nat×AV)}{h:Nat->Option Au}{nx:Nat}{o:Oper}{K:Ah}
def Qjy(z:Nat->Option (Nat×Nat)): ∀(ps:List (Nat×AV)) {r:List AV},HF z ps none=some r->False
 |[],_,h=>by simp[HF] at h
 |_::_,_,h=>by simp[HF] at h
def zB{S:A9}{a:Act}{pl place:Nat->Option (Nat×Nat)}(Z: ∀i q,pl i=some q->place i=some q): ∀(ps:List (Nat×Operand)) (cs r:List AV) (G:Array Value),
 HF pl (JA tm ps) (some cs)=some r->AN S cs G.toList->(∀p∈ps,Aa S (Az tm p.2) (a.eval p.2))->
 ∃us,Instr.fill place G (ps.map λp=>(p.1,a.eval p.2))=some us/\AN S r us.toList/\r.length=cs.length
 |[],cs,r,G,hf,hc,_=>by
  simp only[JA,HF,AJ] at hf;subst hf;exact⟨G,rfl,hc,rfl⟩
 |(i,x)::ps,cs,r,G,hf,hc,z=>by
  simp only[JA,HF] at hf;cases hp:pl i with
  |none=>rw[hp] at hf;simp only[ZR] at hf;exact (Qjy _ _ hf).elim
  |some q=>
   obtain⟨off,size⟩:=q;rw[hp] at hf;simp only[ZR] at hf;cases hcond:((Az tm x).cells.length==size && (Nat.blt 0 size && Nat.ble (off+size) cs.length)) with
   |false=>rw[hcond] at hf;simp only[BC] at hf;exact (Qjy _ _ hf).elim
   |true=>
    rw[hcond] at hf;simp only[Ck] at hf;simp only[AS,Qu] at hcond;obtain⟨hl,hz,Q⟩:=hcond;have hz:0<size:=mK hz;have Q:off+size<=cs.length:=mK Q;have hx:=z (i,x) (by simp);have O:Az tm x≠ .any:=by intro hh;rw[hh] at hl;simp only[AV.cells,Hf] at hl;omega
    have h3:=sC O hx;have h4:=IB _ _ h3;have h5:=IB _ _ hc;have h6:=Qml hc h3 (by omega:off+(Az tm x).cells.length<=cs.length);have ab:(BY cs off (Az tm x).cells).length=cs.length:=Qsp _ _ _ (by omega);obtain⟨us,aa,hr,ac⟩:=zB Z ps _ r (BY G.toList off (a.eval x).cells.toList).toArray hf (by simpa using h6) (λp hp=>z p (by simp[hp]));refine⟨us,?_,hr,by omega⟩;rw[Bd,Sl (Z i _ hp) (by show (a.eval x).cells.size=size;simp only[EJ] at h4;omega) (by simp only[EJ] at h5;omega)];exact aa
def Qnx(w:World): ∀(G:List Field),(G.all λf=>(P.info? f.type).isSome)=true->
 (G.mapM (m:=Sem) λf=>do pure (f.offset,<-sizeOf f.type)).run P w= .ok (G.map λf=>(f.offset,((P.info? f.type).map (·.size)).getD 0)) w
 |[],_=>by simp
 |f::G,z=>by
  simp only[Lw,AS] at z;obtain⟨i,O⟩:=ZeG.1 z.1;have ih:=Qnx w G z.2;have Q:(sizeOf f.type).run P w= .ok i.size w:=by simp[sizeOf,typeInfo,O]
  simp only[List.mapM_cons,Sem.run_bind,Q,Result.andThen_ok,Sem.run_pure,ih,Bd,O,CQ,AM]
def P1{T:TypeId}{ps:Array (Nat×Operand)}(ho:o.op= .build T ps)(G:Bg (Qsy P (JA tm ps.toList) K) (tI P T)):BS P tm h nx o K:=by
 cases hT:tI P T with
 |none=>rw[hT] at G;exact G.elim
 |some ti=>
 rw[hT] at G;simp only[Bg,Qsy] at G;obtain⟨hl,hz,G⟩:=G;obtain⟨z,af,aj,ad⟩:=dZ hT hl hz;have Z: ∀{S:A9} {a:Act},(∀x∈o.op.operands,Aa S (Az tm x) (a.eval x))-> ∀p∈ps.toList,Aa S (Az tm p.2) (a.eval p.2):=by
  intro S a O p hp;refine O p.2 ?_;rw[ho];simp only[Op.operands];simp;exact⟨p.1,by simpa using hp⟩
 have aa: ∀(a:Act),(ps.map λ(i,x)=>(i,a.eval x)).toList=ps.toList.map λp=>(p.1,a.eval p.2):=by intro a;simp
 cases hf:ti.kind<;>rw[hf] at G<;>try exact G.elim
 case struct fs=>
  obtain⟨Q,hu,ac,ag⟩:=Qut hT hf;simp only[wH] at G;cases hfl:HF (MA fs) (JA tm ps.toList) (some (ti.zero.map .im)) with
  |none=>rw[hfl] at G;exact G.elim
  |some cs=>
   rw[hfl] at G;simp only[NB] at G;refine⟨_,_,BA.pure (u:=[]) ?_,G⟩;intro C S a hW _ O;have ah: ∀(w:World),(Q.mapM (m:=Sem) λf=>do pure (f.offset,<-sizeOf f.type)).run P w= .ok (fs.toArray) w:=by
    intro w;rw[Zey,Sem.run_map,Qnx w _ ac,ag];rfl
   obtain⟨us,ab,hr,ai⟩:=zB (S:=S) (a:=a) (place:=λi=>fs.toArray[i]?) (λi q hq=>by simpa[MA] using hq) ps.toList _ cs z.cells hfl ((I2 _ _).2 (ad _ _)) (Z O);refine⟨.agg us,?_,by have:=sW (ti:={ti with agg:=true,size:=cs.length}) hr rfl (.inl rfl);simpa using this⟩;simp only[execOp,ho,Instr.build,Sem.run_bind,af,Result.andThen_ok];rw[show (underlying T).run P S.w= .ok (.struct Q) S.w from by simp[underlying,hu]];simp only[Result.andThen_ok,Sem.run_bind,ah];rw[aa,ab];rfl
 case array m e=>
  have hu:=Qs2 hT hf;simp only[wH] at G;cases hE:tI P e with
  |none=>rw[hE] at G;exact G.elim
  |some te=>
  rw[hE] at G;simp only[Bg,R1] at G;cases hfl:HF (Jl te.size) (JA tm ps.toList) (some (ti.zero.map .im)) with
  |none=>rw[hfl] at G;exact G.elim
  |some cs=>
   rw[hfl] at G;simp only[NB] at G;refine⟨_,_,BA.pure (u:=[]) ?_,G⟩;intro C S a hW _ O;obtain⟨us,ab,hr,ai⟩:=zB (S:=S) (a:=a) (place:=λi=>some (i*te.size,te.size)) (λi q hq=>hq) ps.toList _ cs z.cells hfl ((I2 _ _).2 (ad _ _)) (Z O);refine⟨.agg us,?_,by have:=sW (ti:={ti with agg:=true,size:=cs.length}) hr rfl (.inl rfl);simpa using this⟩;simp only[execOp,ho,Instr.build,Sem.run_bind,af,Result.andThen_ok];rw[show (underlying T).run P S.w= .ok (.array m e) S.w from by simp[underlying,hu]];simp only[Result.andThen_ok,Sem.run_bind,Jz hE];rw[aa,ab];rfl
end
end Go.Ae
