/- Lemmas. Conditions: none. -/
import Derived.Test.YtldneeclgjaehabGreatDoorP00
import Derived.Laws.Cells
set_option linter.all false
set_option maxHeartbeats 8000000
set_option maxRecDepth 100000
namespace Go.Ae
def OY{P:Program}{t:TypeId}{ti:TI}(h:tI P t=some ti):
 ∃i u,P.info? t=some i/\P.underlying t=some u/\ti.size=i.size/\ti.bytes=i.bytes/\
  ti.agg=Pm u/\ti.kind=G1 P u/\ti.zero=zOf ti.agg i.zero:=by
 unfold tI at h;split at h
 .rename_i i u z O;simp only[AS] at h;subst h;exact⟨i,u,z,O,rfl,rfl,rfl,rfl,rfl⟩
 .cases h
section
variable {P:Program}{t:TypeId}{ti:TI}(h:tI P t=some ti)(w:World)
include h
def J1:(sizeOf t).run P w= .ok ti.size w:=by
 obtain⟨i,u,O,hu,z,Q,Z,h4,h5⟩:=OY h;simp[sizeOf,typeInfo,O,z]
def Qsu:(isAgg t).run P w= .ok ti.agg w:=by
 obtain⟨i,u,hi,O,Z,h2,z,h4,h5⟩:=OY h;have Q:(underlying t).run P w= .ok u w:=by simp[underlying,O]
 rw[z];cases u<;>simp[isAgg,Q,Pm]
end
def Qyp{w:World}{b p:Nat}{vs:Array Value}{T:TypeId}{z:Nat×Nat}(h:w.heap[b]? =some (.cells vs T z)):w.cell? ⟨b,p,none⟩=vs[p]? :=by
 simp[World.cell?,h]
def OX(b p n:Nat):(⟨b,p,none⟩:Addr).add n=⟨b,p+n,none⟩:=by
 unfold Addr.add;split
 .rename_i h;subst h;rfl
 .rfl
def WN{ok:Nat->Prop}{hp:Nat->Option Obj}: ∀(n:Nat) (ds:List D) (vs:LVa),rdp ok hp ds vs->n<=ds.length->
 n<=vs.length/\rdl ok hp (ds.take n) (vs.take n)
 |0,ds,vs,_,_=>by simp[rdl]
 |n+1,[],vs,_,h=>by simp at h
 |n+1,d::ds,vs,h,hn=>by
  simp only[rdp] at h;obtain⟨v,r,rfl,z,O⟩:=h;obtain⟨Q,Z⟩:=WN n ds r O (by simpa using hn);refine⟨by simpa using Q,?_⟩;simp only[Mx,rdl];exact⟨v,_,rfl,z,Z⟩
def QY{ok:Nat->Prop}{hp:Nat->Option Obj}: ∀(n:Nat) (ds:List D) (vs:LVa),rdp ok hp ds vs->n<=ds.length->rdp ok hp (ds.drop n) (vs.drop n)
 |0,ds,vs,h,_=>by simpa using h
 |n+1,[],vs,_,h=>by simp at h
 |n+1,d::ds,vs,h,hn=>by
  simp only[rdp] at h;obtain⟨v,r,rfl,O,z⟩:=h;simpa using QY n ds r z (by simpa using hn)
def Yv{ok:Nat->Prop}{hp:Nat->Option Obj}: ∀(ds:List D) (vs:LVa),rdl ok hp ds vs->rdp ok hp ds vs
 |[],_,_=>by simp only[rdp]
 |d::ds,vs,h=>by
  simp only[rdl,rdp] at h⊢;obtain⟨v,r,rfl,z,O⟩:=h;exact⟨v,r,rfl,z,Yv ds r O⟩
def jT{ok:Nat->Prop}{hp:Nat->Option Obj}: ∀(ds:List D) (vs:LVa),rdl ok hp ds vs->vs.length=ds.length
 |[],_,h=>by simp only[rdl] at h;simp[h]
 |d::ds,vs,h=>by
  simp only[rdl] at h;obtain⟨v,r,rfl,O,z⟩:=h;simp[jT ds r z]
def Jz{S:AD}: ∀(xs:List AV) (vs:LVa),AX S xs vs->vs.length=xs.length
 |[],_,h=>by simp only[AX] at h;simp[h]
 |d::ds,vs,h=>by
  simp only[AX] at h;obtain⟨v,r,rfl,O,z⟩:=h;simp[Jz ds r z]
def Yk{S:AD}: ∀(xs:List AV) (vs:LVa),AX S xs vs->CO S xs vs
 |[],_,_=>by simp only[CO]
 |d::ds,vs,h=>by
  simp only[AX,CO] at h⊢;obtain⟨v,r,rfl,z,O⟩:=h;exact⟨v,r,rfl,z,Yk ds r O⟩
def Yj{S:AD}: ∀(n:Nat) (ds:List AV) (vs:LVa),CO S ds vs->n<=ds.length->n<=vs.length/\AX S (ds.take n) (vs.take n)
 |0,ds,vs,_,_=>by simp[AX]
 |n+1,[],vs,_,h=>by simp at h
 |n+1,d::ds,vs,h,hn=>by
  simp only[CO] at h;obtain⟨v,r,rfl,z,O⟩:=h;obtain⟨Q,Z⟩:=Yj n ds r O (by simpa using hn);refine⟨by simpa using Q,?_⟩;simp only[Mx,AX];exact⟨v,_,rfl,z,Z⟩
def pG{S:AD}: ∀(n:Nat) (ds:List AV) (vs:LVa),CO S ds vs->n<=ds.length->CO S (ds.drop n) (vs.drop n)
 |0,ds,vs,h,_=>by simpa using h
 |n+1,[],vs,_,h=>by simp at h
 |n+1,d::ds,vs,h,hn=>by
  simp only[CO] at h;obtain⟨v,r,rfl,O,z⟩:=h;simpa using pG n ds r z (by simpa using hn)
def Js{S:AD}: ∀(ds:List D) (vs:LVa),AX S (ds.map .im) vs↔rdl S.ok S.hp ds vs
 |[],vs=>by simp[AX,rdl]
 |d::ds,vs=>by
  simp only[Br,AX,rdl,Ab];constructor
  .rintro⟨v,r,rfl,z,O⟩;exact⟨v,r,rfl,z,(Js ds r).1 O⟩
  .rintro⟨v,r,rfl,z,O⟩;exact⟨v,r,rfl,z,(Js ds r).2 O⟩
def wE{S:AD}: ∀(ds:List D) (vs:LVa),CO S (ds.map .im) vs↔rdp S.ok S.hp ds vs
 |[],vs=>by simp[CO,rdp]
 |d::ds,vs=>by
  simp only[Br,CO,rdp,Ab];constructor
  .rintro⟨v,r,rfl,z,O⟩;exact⟨v,r,rfl,z,(wE ds r).1 O⟩
  .rintro⟨v,r,rfl,z,O⟩;exact⟨v,r,rfl,z,(wE ds r).2 O⟩
def pO: ∀{cs:List AV} {ds:List D},Ea cs=some ds->cs=ds.map .im
 |[],ds,h=>by simp only[Ea,AS] at h;subst h;rfl
 |x::r,ds,h=>by
  simp only[Ea] at h;cases hx:x.asD with
  |none=>rw[hx] at h;simp only[Pb] at h;cases h
  |some d=>
   rw[hx] at h;cases hr:Ea r with
   |none=>rw[hr] at h;simp only[Pb] at h;cases h
   |some z=>
    rw[hr] at h;simp only[Pb,AS] at h;subst h
    have:x= .im d:=by cases x<;>simp[AV.asD] at hx;subst hx;rfl
    rw[this,pO hr];rfl
def Qg{ok:Nat->Prop}{hp:Nat->Option Obj}{d:D}{v:Value}(h:rd ok hp d v):rdl ok hp d.cells v.cells.toList:=by
 cases d<;>simp only[rd] at h<;>simp only[D.cells]
 case agg cs=>obtain⟨O,rfl,z⟩:=h;exact z
 case sl nz k rows=>
  rcases h with ⟨h0,z⟩|⟨b,p,cap,O,T,Q,rfl,z⟩
  .obtain⟨ao,hv⟩:=xV h0;subst hv;simp only[rdl];exact⟨_,[],rfl,by simp only[rd];exact .inl ⟨h0,z⟩,rfl⟩
  .simp only[rdl];exact⟨_,[],rfl,by simp only[rd];exact .inr ⟨b,p,cap,O,T,Q,rfl,z⟩,rfl⟩
 case tup cs=>obtain⟨O,rfl,z⟩:=h;simp only[rdl];exact⟨_,[],rfl,by simp only[rd];exact⟨O,rfl,z⟩,rfl⟩
 case ref cs=>obtain⟨b,p,O,T,Q,rfl,z⟩:=h;simp only[rdl];exact⟨_,[],rfl,by simp only[rd];exact⟨b,p,O,T,Q,rfl,z⟩,rfl⟩
 case mp es=>obtain⟨b,p,O,rfl,z⟩:=h;simp only[rdl];exact⟨_,[],rfl,by simp only[rd];exact⟨b,p,O,rfl,z⟩,rfl⟩
 case fn f a c=>obtain⟨b,p,rfl,z⟩:=h;simp only[rdl];exact⟨_,[],rfl,by simp only[rd];exact⟨b,p,rfl,z⟩,rfl⟩
 case ifc t d=>obtain⟨b,rfl,z⟩:=h;simp only[rdl];exact⟨_,[],rfl,by simp only[rd];exact⟨b,rfl,z⟩,rfl⟩
 case tok g=>obtain⟨z,⟨t,x,rfl⟩,Z⟩:=h;simp only[rdl];exact⟨_,[],rfl,by simp only[rd];exact⟨z,⟨t,x,rfl⟩,Z⟩,rfl⟩
 all_goals (subst h;simp only[rdl];exact⟨_,[],rfl,by simp only[rd],rfl⟩)
def Qsn(v:Value)(h: ∀z,v≠ .agg z):v.cells= #[v]:=by
 cases v<;>first|rfl|exact absurd rfl (h _)
def P2{v:Value}(h:v.oneCell'=true):v.cells= #[v]:=by
 cases v<;>first|rfl|cases h
def wH{S:AD}{x:AV}{v:Value}(Q:x≠ .any)(h:Ab S x v):AX S x.cells v.cells.toList:=by
 cases x<;>simp only[AV.cells]
 case any=>exact absurd rfl Q
 case im d=>simp only[Ab] at h;exact (Js _ _).2 (Qg h)
 case agg cs=>simp only[Ab] at h;obtain⟨O,rfl,z⟩:=h;exact z
 case tup cs=>
  have h':=h;simp only[Ab] at h;obtain⟨O,rfl,z⟩:=h;simp only[AX];exact⟨_,[],rfl,h',rfl⟩
 case clo f a c=>
  have h':=h;simp only[Ab] at h;obtain⟨O,c',rfl,z⟩:=h;simp only[AX];exact⟨_,[],rfl,h',rfl⟩
 all_goals
  have h':=h;simp only[Ab] at h;rw[P2 h.1];simp only[AX];exact⟨_,[],rfl,h',rfl⟩
def fX{ok:Nat->Prop}{hp:Nat->Option Obj}(v:Value)(h:fY v=true):rd ok hp (zD v) v:=by
 unfold fY at h;split at h<;>first|(simp only[zD,rd];done)|cases h|skip
 simp only[zD,rd];exact .inl ⟨.inl rfl,trivial⟩
def WE{ok:Nat->Prop}{hp:Nat->Option Obj}: ∀(vs:LVa),vs.all fY=true->rdl ok hp (vs.map zD) vs
 |[],_=>by simp[rdl]
 |v::vs,h=>by
  simp only[E6,B1] at h;simp only[Br,rdl];exact⟨v,vs,rfl,fX v h.1,WE vs h.2⟩
def Qrg{P:Program}{t:TypeId}{ti:TI}(h:tI P t=some ti)(hl:ti.zero.length=ti.size)(hz:ti.size≠0):
 ∃z,(∀w,(zeroValue t).run P w= .ok z w)/\z.cells.size=ti.size/\(∀ok hp,rdl ok hp ti.zero z.cells.toList)/\ ∀ok hp,rd ok hp (bif ti.agg then .agg ti.zero else rZ ti.zero) z:=by
 obtain⟨i,u,hi,hu,h1,h2,h3,h4,Q⟩:=OY h;have Z:ti.zero≠[]:=by intro h;rw[h] at hl;exact hz hl.symm
 have O: ∀z,i.zero=some z-> ∀w,(zeroValue t).run P w= .ok z w:=λz hz w=>by simp[zeroValue,typeInfo,hi,hz]
 revert Q hl Z O;generalize ti.agg=ag;generalize ti.zero=zs;generalize i.zero=iz;intro hl Q Z O;unfold zOf at Q;split at Q
 .rename_i vs;cases ha:vs.toList.all fY<;>rw[ha] at Q
  .exact absurd Q Z
  .simp only[IJ] at Q;subst Q;have hr: ∀ok hp,rdl ok hp (vs.toList.map zD) vs.toList:=λok hp=>WE _ ha
   exact⟨_,O _ rfl,by simpa[Value.cells] using hl,λok hp=>by simpa[Value.cells] using hr ok hp,λok hp=>by simp only[IJ,rd];exact⟨_,rfl,hr ok hp⟩⟩
 .rename_i v;cases ha:fY v<;>rw[ha] at Q
  .exact absurd Q Z
  .simp only[IJ] at Q;subst Q;have hr: ∀ok hp,rd ok hp (zD v) v:=λok hp=>fX v ha
   have hc:v.cells= #[v]:=Qsn v (by intro cs hh;rw[hh] at ha;simp[fY] at ha);exact⟨_,O _ rfl,by rw[hc];simpa using hl,λok hp=>by rw[hc];simp only[rdl];exact⟨v,[],rfl,hr ok hp,rfl⟩,λok hp=>by simpa[rZ] using hr ok hp⟩
 .exact absurd Q Z
def jA{P:Program}{t:TypeId}{ti:TI}(h:tI P t=some ti)(hl:ti.zero.length=ti.size)(hz:ti.size≠0):
 ∃z,(∀w,(zeroValue t).run P w= .ok z w)/\z.cells.size=ti.size/\ ∀ok hp,rdl ok hp ti.zero z.cells.toList:=by
 obtain⟨z,O,Q,Z,_⟩:=Qrg h hl hz;exact⟨z,O,Q,Z⟩
def BA.appf(E:BA)(h:HpT)(n:Nat):Option Ap:=
 match hget E.new n with
 |some e=>some e
 |none=>bif E.kill.contains n then none else h n
def Fr(nx cnt n:Nat):Prop:=nx<=n/\n<nx+cnt
def BP(P:Program)(tm:TmT)(h:HpT)(nx:Nat)(o:Oper)(r:AV)(E:BA):Prop:=
 ∀(C:Bn) (S:AD) (a:Act) (next:Act->World->Prop) (Q:Exit->Act->World->Prop),
  Wf C S->(∀n∈E.use++E.kill,S.h n=h n)->(∀n,Fr nx E.cnt n->S.h n=none)->
  (∀n e,S.h n=some e-> ∀m∈e.2.nms,¬Fr nx E.cnt m)->
  (∀x∈o.op.operands,Ab S (Ay tm x) (a.eval x))->
  (∀v S',Wf C S'->S'.h=E.appf S.h->Ck (λm=> ¬Fr nx E.cnt m) S S'->Ab S' r v->next (a.put o.dst v) S'.w)->
  o.wp P a S.w next Q
def Nj(S:AD)(v:Value):Ab S (kD v) v:=by
 unfold kD
 split<;>simp only[Ab,rd]
 exact .inl ⟨.inl rfl,trivial⟩
def Qnd(u:List Nat)(h:HpT):({use:=u}:BA).appf h=h:=by
 funext n;simp[BA.appf,hget]
section
variable {P:Program}{tm:TmT}{h:HpT}{nx:Nat}{o:Oper}{r:AV}
def BP.pure{u:List Nat}(Z: ∀(C:Bn) (S:AD) (a:Act),Wf C S->(∀n∈u,S.h n=h n)->(∀x∈o.op.operands,Ab S (Ay tm x) (a.eval x))->
 ∃v,(execOp a.eval o).run P S.w= .ok (.value v) S.w/\Ab S r v):BP P tm h nx o r {use:=u}:=by
 intro C S a next Q hW hu _ _ z hn
 obtain⟨v,hv,O⟩:=Z C S a hW (by simpa using hu) z;unfold Oper.wp;rw[hv,Oper.upon_value];exact hn v S hW (Qnd u S.h).symm (Ck.refl _ _) O
end
abbrev Cr(P:Program)(tm:TmT)(h:HpT)(nx:Nat)(o:Oper)(K:Al):Prop:= ∃r E,BP P tm h nx o r E/\K r E
section
variable {P:Program}{tm:TmT}{h:HpT}{nx:Nat}{o:Oper}{K:Al}
def tR{x:Operand}(z:o.op= .move x\/o.op= .assign x)(Z:K (Ay tm x) {}):Cr P tm h nx o K:=by
 refine⟨_,_,BP.pure (u:=[]) ?_,Z⟩;intro C S a hW _ O;have Q:=O x (by rcases z with z|z<;>rw[z]<;>simp[Op.operands]);refine⟨a.eval x,?_,Q⟩;rcases z with z|z<;>simp[execOp,z]
def Wb{c x y:Operand}(Q:o.op= .pick c x y)(O:Qzp (Ay tm x) (Ay tm y) K (Ay tm c)):Cr P tm h nx o K:=by
 cases hc:Ay tm c<;>rw[hc] at O<;>try exact O.elim
 rename_i d;cases d<;>try exact O.elim
 rename_i b;simp only[Qzp,NC] at O;have aa:K (if b then Ay tm x else Ay tm y) {}:=by
  cases b
  .simpa using O.2 rfl
  .simpa using O.1 rfl
 refine⟨_,_,BP.pure (u:=[]) ?_,aa⟩;intro C S a hW _ z;have Z:=z c (by rw[Q];simp[Op.operands]);have h2:=z x (by rw[Q];simp[Op.operands]);have h3:=z y (by rw[Q];simp[Op.operands]);rw[hc] at Z;simp only[Ab,rd] at Z;refine⟨if b then a.eval x else a.eval y,?_,?_⟩
 .simp[execOp,Q,Z,asBool]
 .cases b<;>simp_all
def jP{n:Nat}{x:AV}{e:Option Ap}(z:S7 n x K e):(∃e',e=some e')/\K x {use:=[n]}:=by
 cases e with
 |none=>exact z.elim
 |some e=>exact⟨⟨e,rfl⟩,z⟩
def Qvi{x:Operand}(Z:o.op= .nilCheck x)(Q:pK h K (Ay tm x)):Cr P tm h nx o K:=by
 cases hx:Ay tm x<;>rw[hx] at Q<;>try exact Q.elim
 case im d=>
  cases d<;>try exact Q.elim
  all_goals
   refine⟨_,_,BP.pure (u:=[]) ?_,Q⟩;intro C S a hW _ O;have z:=O x (by rw[Z];simp[Op.operands]);rw[hx] at z;refine⟨_,?_,z⟩;simp only[Ab,rd] at z
   first
    |(obtain⟨b,p,vs,T,fr,z,_⟩:=z;simp[execOp,Z,z];done)
    |(obtain⟨v,z,_⟩:=z;simp[execOp,Z,z])
 case ptr n p=>
  obtain⟨⟨e,he⟩,Q⟩:=jP Q;refine⟨_,_,BP.pure (u:=[n]) ?_,Q⟩;intro C S a hW hu O;have z:=O x (by rw[Z];simp[Op.operands]);rw[hx] at z;refine⟨_,?_,z⟩;simp only[Ab] at z;obtain⟨l,hl,hv⟩:=z.2 e (by rw[hu n auSi,he]);simp[execOp,Z,hv]
 case eptr n i p=>
  obtain⟨⟨e,he⟩,Q⟩:=jP Q;refine⟨_,_,BP.pure (u:=[n]) ?_,Q⟩;intro C S a hW hu O;have z:=O x (by rw[Z];simp[Op.operands]);rw[hx] at z;refine⟨_,?_,z⟩;simp only[Ab] at z;obtain⟨l,hl,hv⟩:=z.2 e (by rw[hu n auSi,he]);simp[execOp,Z,hv]
def Wc{op:UnOp}{T:TypeId}{x:Operand}(Z:o.op= .unOp op T x)(O:bT K op (Ay tm x)):Cr P tm h nx o K:=by
 cases hx:Ay tm x<;>rw[hx] at O<;>cases op<;>try exact O.elim
 all_goals
  rename_i d;cases d<;>try exact O.elim
 all_goals
  refine⟨_,_,BP.pure (u:=[]) ?_,O⟩;intro C S a hW _ z;have Q:=z x (by rw[Z];simp[Op.operands]);rw[hx] at Q;simp only[Ab,rd] at Q;refine⟨_,by simp[execOp,Z,Q,Op.unary,Op.intArith];rfl,by simp only[Ab,rd]⟩
def Qyh{x:Operand}{i:Nat}(ho:o.op= .extract x i)(Q:pJ i K (Ay tm x)):Cr P tm h nx o K:=by
 cases hx:Ay tm x<;>rw[hx] at Q<;>try exact Q.elim
 case im d=>
  cases d<;>try exact Q.elim
  rename_i cs;simp only[pJ] at Q;cases z:cs[i]? with
  |none=>rw[z] at Q;exact Q.elim
  |some d=>
   rw[z] at Q;refine⟨_,_,BP.pure (u:=[]) ?_,Q⟩;intro C S a hW _ Z;have O:=Z x (by rw[ho];simp[Op.operands]);rw[hx] at O;simp only[Ab,rd] at O;obtain⟨vs,O,h2⟩:=O;have aa: ∀(i:Nat) (cs:List D) (vs:LVa),rdl S.ok S.hp cs vs->cs[i]? =some d-> ∃v,vs[i]? =some v/\rd S.ok S.hp d v:=by
    intro i;induction i with
    |zero=>
     intro cs vs h z;cases cs with
     |nil=>simp at z
     |cons c cs=>simp at z;subst z;simp only[rdl] at h;obtain⟨v,r,rfl,O,_⟩:=h;exact⟨v,auSi,O⟩
    |succ i ih=>
     intro cs vs h z;cases cs with
     |nil=>simp at z
     |cons c cs=>simp at z;simp only[rdl] at h;obtain⟨v,r,rfl,_,h2⟩:=h;simpa using ih cs r h2 z
   obtain⟨v,hv,hd⟩:=aa i cs vs.toList h2 z;refine⟨v,?_,by simpa only[Ab] using hd⟩;simp at hv;simp[execOp,ho,O,Instr.extract,hv]
 case tup cs=>
  simp only[pJ] at Q;cases z:cs[i]? with
  |none=>rw[z] at Q;exact Q.elim
  |some d=>
   rw[z] at Q;refine⟨_,_,BP.pure (u:=[]) ?_,Q⟩;intro C S a hW _ Z;have O:=Z x (by rw[ho];simp[Op.operands]);rw[hx] at O;simp only[Ab] at O;obtain⟨vs,O,h2⟩:=O;have aa: ∀(i:Nat) (cs:List AV) (vs:LVa),AX S cs vs->cs[i]? =some d-> ∃v,vs[i]? =some v/\Ab S d v:=by
    intro i;induction i with
    |zero=>
     intro cs vs h z;cases cs with
     |nil=>simp at z
     |cons c cs=>simp at z;subst z;simp only[AX] at h;obtain⟨v,r,rfl,O,_⟩:=h;exact⟨v,auSi,O⟩
    |succ i ih=>
     intro cs vs h z;cases cs with
     |nil=>simp at z
     |cons c cs=>simp at z;simp only[AX] at h;obtain⟨v,r,rfl,_,h2⟩:=h;simpa using ih cs r h2 z
   obtain⟨v,hv,hd⟩:=aa i cs vs.toList h2 z;refine⟨v,?_,hd⟩;simp at hv;simp[execOp,ho,O,Instr.extract,hv]
def gX{ok:Nat->Prop}{hp:Nat->Option Obj}: ∀(off n:Nat) (ds:List D) (vs:LVa),rdl ok hp ds vs->rdl ok hp ((ds.drop off).take n) ((vs.drop off).take n)
 |0,0,ds,vs,_=>by simp[rdl]
 |0,n+1,[],vs,h=>by
  simp only[rdl] at h;subst h;simp[rdl]
 |0,n+1,d::ds,vs,h=>by
  simp only[rdl] at h;obtain⟨v,r,rfl,O,z⟩:=h
  have:=gX 0 n ds r z
  simp only[Mv] at this⊢;rw[Mx,Mx];simp only[rdl];exact⟨v,_,rfl,O,this⟩
 |off+1,n,[],vs,h=>by
  simp only[rdl] at h;subst h;simp[rdl]
 |off+1,n,d::ds,vs,h=>by
  simp only[rdl] at h;obtain⟨v,r,rfl,_,z⟩:=h;rw[Sv,Sv];exact gX off n ds r z
def aO{ok:Nat->Prop}{hp:Nat->Option Obj}{d:D}: ∀(i:Nat) (cs:List D) (vs:LVa),rdl ok hp cs vs->cs[i]? =some d-> ∃v,vs[i]? =some v/\rd ok hp d v:=by
 intro i;induction i with
 |zero=>
  intro cs vs h z;cases cs with
  |nil=>simp at z
  |cons c cs=>simp at z;subst z;simp only[rdl] at h;obtain⟨v,r,rfl,O,_⟩:=h;exact⟨v,auSi,O⟩
 |succ i ih=>
  intro cs vs h z;cases cs with
  |nil=>simp at z
  |cons c cs=>simp at z;simp only[rdl] at h;obtain⟨v,r,rfl,_,Q⟩:=h;simpa using ih cs r Q z
def Q5{U:TypeId}{x:Operand}{f:Nat}(ho:o.op= .field U x f)(z:RG P (Ay tm x) K (Zu P U f)):Cr P tm h nx o K:=by
 cases hF:Zu P U f with
 |none=>rw[hF] at z;exact z.elim
 |some q=>
  obtain⟨t,off⟩:=q;rw[hF] at z;simp only[RG] at z;cases hT:tI P t with
  |none=>rw[hT] at z;exact z.elim
  |some ti=>
   rw[hT] at z;simp only[Bz] at z;cases hx:Ay tm x<;>rw[hx] at z<;>try exact z.elim
   rename_i d;cases d<;>try exact z.elim
   rename_i cs;simp only[gW] at z;obtain⟨af,z⟩:=z;have ac: ∃fs Z,P.underlying U=some (.struct fs)/\fs[f]? =some Z/\Z.type=t/\Z.offset=off:=by
    unfold Zu at hF;split at hF
    .rename_i fs hu;cases hq:fs[f]? with
     |none=>rw[hq] at hF;cases hF
     |some Z=>
      rw[hq] at hF;simp only[CT,AS,B6] at hF;exact⟨fs,Z,hu,hq,hF.1,hF.2⟩
    .cases hF
   obtain⟨fs,Z,hu,aa,h4,h5⟩:=ac;obtain⟨ag,u,hi,ab,h1,h2,h3,_,_⟩:=OY hT;cases ha:ti.agg with
   |true=>
    rw[ha] at z;simp only[RH,RF] at z;refine⟨_,_,BP.pure (u:=[]) ?_,z⟩;intro C S a hW _ Q;have O:=Q x (by rw[ho];simp[Op.operands]);rw[hx] at O;simp only[Ab,rd] at O;obtain⟨vs,O,h7⟩:=O;refine⟨.agg (vs.extract off (off+ti.size)),?_,?_⟩
    .simp[execOp,ho,O,Instr.field,underlying,hu,aa,asAgg,part,isAgg,h4,ab,h5,sizeOf,typeInfo,hi];rw[ha] at h3;cases u<;>first|(simp[Pm] at h3;done)|simp[h1]
    .simp only[Ab,rd];refine⟨_,rfl,?_⟩
     have:=gX off ti.size cs vs.toList h7
     simpa using this
   |false=>
    rw[ha] at z;simp only[RH] at z;cases hc:cs[off]? with
    |none=>rw[hc] at z;exact z.elim
    |some d=>
     rw[hc] at z;simp only[RF] at z;refine⟨_,_,BP.pure (u:=[]) ?_,z⟩;intro C S a hW _ Q;have O:=Q x (by rw[ho];simp[Op.operands]);rw[hx] at O;simp only[Ab,rd] at O;obtain⟨vs,O,h7⟩:=O;obtain⟨v,hv,hd⟩:=aO off cs vs.toList h7 hc;refine⟨v,?_,by simpa only[Ab] using hd⟩;simp[execOp,ho,O,Instr.field,underlying,hu,aa,asAgg,part,isAgg,h4,ab,h5];have ad:vs[off]? =some v:=by simpa using hv
     rw[ha] at h3;cases u<;>first|(simp[Pm] at h3;done)|simp[ad]
end
section
variable {P:Program}{tm:TmT}{h:HpT}{nx:Nat}{o:Oper}{K:Al}
def jC{T:TypeId}{ti:TI}(Z:tI P T=some ti){w:World}{b p:Nat}{vs:Array Value}{U:TypeId}{fr:Nat×Nat}
 (hb:w.heap[b]? =some (.cells vs U fr))(hn:ti.size<=(vs.toList.drop p).length)(hs:ti.agg=true\/ti.size=1):
 (loadVar T ⟨b,p,none⟩).run P w= .ok (if ti.agg then .agg ((vs.toList.drop p).take ti.size).toArray else ((vs.toList.drop p).take ti.size).headD undef) w:=by
 have O: ∀j v,((vs.toList.drop p).take ti.size)[j]? =some v->w.cell? ((⟨b,p,none⟩:Addr).add j)=some v:=by
  intro j v Q;rw[OX,Qyp hb];rw[Zep] at Q;split at Q
  .rw[lF] at Q;simpa using Q
  .cases Q
 have hl:((vs.toList.drop p).take ti.size).length=ti.size:=by rw[Eb];omega
 have z:=run_loadCells_list (P:=P) w ⟨b,p,none⟩ _ O;rw[hl] at z;unfold loadVar;cases ha:ti.agg with
 |true=>simp[Qsu Z,ha,J1 Z,z]
 |false=>
  have h1:ti.size=1:=by simpa[ha] using hs
  obtain⟨v,hv⟩: ∃v,(vs.toList.drop p).take ti.size=[v]:=by
   rw[h1] at hl⊢;exact ZdQ.1 hl
  have:=O 0 v (by rw[hv];rfl)
  rw[OX] at this;rw[hv];simp[Qsu Z,ha,run_load];simp at this;rw[this]
def Xz{ok:Nat->Prop}{hp:Nat->Option Obj}{ti:TI}{ds:List D}{vs:LVa}(z:rdl ok hp ds vs)(O:ds.length=ti.size)(hs:ti.agg=true\/ti.size=1):
 rd ok hp (fK ti.agg ds) (if ti.agg then .agg vs.toArray else vs.headD undef):=by
 cases ha:ti.agg with
 |true=>simp only[fK,IJ,Ff,rd];exact⟨_,rfl,z⟩
 |false=>
  have Q:ti.size=1:=by simpa[ha] using hs
  rw[Q] at O;obtain⟨d,rfl⟩:=ZdQ.1 O;simp only[rdl] at z;obtain⟨v,r,rfl,Z,h5⟩:=z;simpa[fK,rZ] using Z
def wZ{S:AD}{ti:TI}{ds:List AV}{vs:LVa}(z:AX S ds vs)(O:ds.length=ti.size)(hs:ti.agg=true\/ti.size=1):
 Ab S (mN ti.agg ds) (if ti.agg then .agg vs.toArray else vs.headD undef):=by
 cases ha:ti.agg with
 |true=>
  simp only[mN,IJ,Ff];cases hi:Ea ds with
  |none=>simp only[ZO,Ab];exact⟨_,rfl,z⟩
  |some es=>
   simp only[ZO,Ab,rd];rw[pO hi] at z;exact⟨_,rfl,(Js _ _).1 z⟩
 |false=>
  have Q:ti.size=1:=by simpa[ha] using hs
  rw[Q] at O;obtain⟨d,rfl⟩:=ZdQ.1 O;simp only[AX] at z;obtain⟨v,r,rfl,Z,h5⟩:=z;simpa[mN,hdV] using Z
def Qy5{ok:Nat->Prop}{hp:Nat->Option Obj}{k:Nat}: ∀(i:Nat) (rows:List (List D)) (vs:LVa) (row:List D),rdr ok hp k rows vs->rows[i]? =some row->
 row.length=k/\rdp ok hp row (vs.drop (i*k))
 |_,[],_,_,_,z=>by simp at z
 |0,r::O,vs,row,h,z=>by
  simp at z;subst z;simp only[rdr] at h;simpa using ⟨h.1,h.2.1⟩
 |i+1,r::O,vs,row,h,z=>by
  simp only[rdr] at h
  have:=Qy5 i O (vs.drop k) row h.2.2 (by simpa using z)
  rw[FW] at this;rwa [HQ,Pl,YD]
def Qw7{S:AD}{k:Nat}: ∀(i:Nat) (rows:List (List AV)) (vs:LVa) (row:List AV),BQ S k rows vs->rows[i]? =some row->
 row.length=k/\CO S row (vs.drop (i*k))
 |_,[],_,_,_,z=>by simp at z
 |0,r::O,vs,row,h,z=>by
  simp at z;subst z;simp only[BQ] at h;simpa using ⟨h.1,h.2.1⟩
 |i+1,r::O,vs,row,h,z=>by
  simp only[BQ] at h
  have:=Qw7 i O (vs.drop k) row h.2.2 (by simpa using z)
  rw[FW] at this;rwa [HQ,Pl,YD]
def VZ{T:TypeId}{x:Operand}(ho:o.op= .load T x)(z:Bz (Qrk h (Ay tm x) K) (tI P T)):Cr P tm h nx o K:=by
 cases hT:tI P T with
 |none=>rw[hT] at z;exact z.elim
 |some ti=>
  rw[hT] at z;simp only[Bz,Qrk] at z;cases hx:Ay tm x<;>rw[hx] at z<;>try exact z.elim
  case im d=>
   cases d<;>try exact z.elim
   case ref cs=>
    simp only[Y3,jX,Mv,Je] at z;obtain⟨hs,ab,z⟩:=z;refine⟨_,_,BP.pure (u:=[]) ?_,z⟩;intro C S a hW _ O;have Z:=O x (by rw[ho];simp[Op.operands]);rw[hx] at Z;simp only[Ab,rd] at Z;obtain⟨b,p,vs,U,fr,hv,ah,hb,hr⟩:=Z;obtain⟨h2,h3⟩:=WN ti.size cs _ hr ab;refine⟨_,?_,by simp only[Ab];exact Xz h3 (by rw[Eb];omega) hs⟩;simp[execOp,ho,hv,Instr.loadAt,Instr.sureAddr,jC hT hb h2 hs]
   case gp g=>
    simp only[Y3] at z;obtain⟨hg,hz,ha,z⟩:=z;refine⟨_,_,BP.pure (u:=[]) ?_,z⟩;intro C S a hW _ O;have Z:=O x (by rw[ho];simp[Op.operands]);rw[hx] at Z;simp only[Ab,rd] at Z;obtain⟨ah,t2,x2,T2,fr,hb⟩:=hW.gp.at hg;refine⟨.iface t2 x2,?_,by simp only[Ab,rd];exact⟨ah,⟨t2,x2,rfl⟩,T2,fr,hb⟩⟩;have hl:=jC hT (w:=S.w) (p:=0) hb (by simp[hz]) (.inr hz);simp[execOp,ho,Z,Instr.loadAt,Instr.sureAddr,hl,ha,hz]
  case ptr n p=>
   simp only[Y3] at z;cases hn:h n with
   |none=>rw[hn] at z;exact z.elim
   |some e=>
    rw[hn] at z;obtain⟨m,e⟩:=e;cases e<;>try exact z.elim
    case cells U cs=>
     simp only[JU,yW] at z;obtain⟨hs,ab,z⟩:=z;refine⟨_,_,BP.pure (u:=[n]) ?_,z⟩;intro C S a hW hu O;have Z:=O x (by rw[ho];simp[Op.operands]);have aa:S.h n=some (m,.cells U cs):=(hu n auSi).trans hn;rw[hx] at Z;simp only[Ab] at Z;obtain⟨l,hl,hv⟩:=Z.2 _ aa;have Q:=hW.obj _ _ aa;simp only[Au] at Q;obtain⟨lc,vs,ac,ai,hb,af⟩:=Q;rw[hl] at ac;obtain rfl:=AJ ac;have h2:=pG p cs _ (Yk _ _ af) auOm;obtain⟨h3,h4⟩:=Yj ti.size _ _ h2 (by rw[CM];omega);refine⟨_,?_,wZ h4 (by rw[Eb,CM];omega) hs⟩;simp[execOp,ho,hv,ai,Instr.loadAt,Instr.sureAddr,jC hT hb h3 hs]
    case view cs=>
     simp only[JU,jX] at z;obtain⟨hs,ab,z⟩:=z;refine⟨_,_,BP.pure (u:=[n]) ?_,z⟩;intro C S a hW hu O;have Z:=O x (by rw[ho];simp[Op.operands]);have aa:S.h n=some (m,.view cs):=(hu n auSi).trans hn;rw[hx] at Z;simp only[Ab] at Z;obtain⟨l,hl,hv⟩:=Z.2 _ aa;have Q:=hW.obj _ _ aa;simp only[Au] at Q;obtain⟨lc,vs,U,fr,ac,hb,af⟩:=Q;rw[hl] at ac;obtain rfl:=AJ ac;have h2:=QY p _ _ af auOm;obtain⟨h3,h4⟩:=WN ti.size _ _ h2 (by rw[CM];omega);rw[FW] at h3 h4;refine⟨_,?_,by simp only[Ab];exact Xz h4 (by rw[Eb,CM];omega) hs⟩;simp[execOp,ho,hv,Instr.loadAt,Instr.sureAddr,jC hT hb h3 hs]
  case eptr n i p=>
   simp only[Y3] at z;cases hn:h n with
   |none=>rw[hn] at z;exact z.elim
   |some e=>
    rw[hn] at z;obtain⟨m,e⟩:=e;cases e<;>try exact z.elim
    case arr U k rows=>
     simp only[JT,K4,jX] at z;obtain⟨hi,z⟩:=z;obtain⟨hs,ab,z⟩:=z rows[i] (Bk hi);refine⟨_,_,BP.pure (u:=[n]) ?_,z⟩;intro C S a hW hu O;have Z:=O x (by rw[ho];simp[Op.operands]);have aa:S.h n=some (m,.arr U k rows):=(hu n auSi).trans hn;rw[hx] at Z;simp only[Ab] at Z;obtain⟨l,hl,hv⟩:=Z.2 _ aa;have Q:=hW.obj _ _ aa;rw[hl] at Q;simp only[Au] at Q;obtain⟨_,ag,vs,hb,ak,hr⟩:=Q;obtain⟨aj,ad⟩:=Qy5 i rows _ _ hr (Bk hi);have h2:=QY p _ _ ad auOm;obtain⟨h3,h4⟩:=WN ti.size _ _ h2 (by rw[CM];omega);rw[FW,FW,<-Rj] at h3 h4;refine⟨_,?_,by simp only[Ab];exact Xz h4 (by rw[Eb,CM];omega) hs⟩;simp only[Ad.esz] at hv;simp[execOp,ho,hv,Instr.loadAt,Instr.sureAddr,jC hT hb h3 hs]
    case arrA U k rows=>
     simp only[JT,K4,yW] at z;obtain⟨hi,z⟩:=z;obtain⟨hs,ab,z⟩:=z rows[i] (Bk hi);refine⟨_,_,BP.pure (u:=[n]) ?_,z⟩;intro C S a hW hu O;have Z:=O x (by rw[ho];simp[Op.operands]);have aa:S.h n=some (m,.arrA U k rows):=(hu n auSi).trans hn;rw[hx] at Z;simp only[Ab] at Z;obtain⟨l,hl,hv⟩:=Z.2 _ aa;have Q:=hW.obj _ _ aa;rw[hl] at Q;simp only[Au] at Q;obtain⟨_,ag,vs,hb,ak,hr⟩:=Q;obtain⟨aj,ad⟩:=Qw7 i rows _ _ hr (Bk hi);have h2:=pG p _ _ ad auOm;obtain⟨h3,h4⟩:=Yj ti.size _ _ h2 (by rw[CM];omega);rw[FW,FW,<-Rj] at h3 h4;refine⟨_,?_,wZ h4 (by rw[Eb,CM];omega) hs⟩;simp only[Ad.esz] at hv;simp[execOp,ho,hv,Instr.loadAt,Instr.sureAddr,jC hT hb h3 hs]
def Qi5{u:TypeDesc}(P:Program):(∃z:Array Field,u= .struct z/\(z.toList.all λf=>(P.info? f.type).isSome)=true/\
 G1 P u= .struct (z.toList.map λf=>(f.offset,((P.info? f.type).map (·.size)).getD 0)))\/
 (∃z,u= .struct z/\G1 P u= .other)\/(∀z,u≠ .struct z):=by
 cases u<;>try (right;right;intro f hf;cases hf;done)
 rename_i z;cases hh:(z.toList.all λf=>(P.info? f.type).isSome) with
 |true=>left;exact⟨z,rfl,hh,by simp only[G1,hh,IJ]⟩
 |false=>right;left;exact⟨z,rfl,by simp only[G1,hh,Dw]⟩
def Qut{T:TypeId}{ti:TI}(hT:tI P T=some ti){fs:List (Nat×Nat)}(hf:ti.kind= .struct fs):
 ∃z,P.underlying T=some (.struct z)/\(z.toList.all λf=>(P.info? f.type).isSome)=true/\fs=z.toList.map λf=>(f.offset,((P.info? f.type).map (·.size)).getD 0):=by
 obtain⟨i,u,hi,hu,h1,h2,h3,O,h5⟩:=OY hT;rw[hf] at O;rcases Qi5 P (u:=u) with ⟨z,rfl,Q,Z⟩|⟨z,rfl,Z⟩|aa
 .rw[Z] at O;exact⟨z,hu,Q,by simpa using O⟩
 .rw[Z] at O;cases O
 .cases u<;>simp only[G1,reduceCtorEq] at O;exact absurd rfl (aa _)
def dO(u:TypeDesc):TK->Prop
 | .int k=>u= .int k
 | .str=>u= .string
 | .bool=>u= .bool
 | .ptr e=>u= .pointer e
 |_=>True
def QI(P:Program)(u:TypeDesc):dO u (G1 P u):=by
 cases u<;>try (simp only[G1,dO];done)
 rename_i z;cases hh:(z.toList.all λf=>(P.info? f.type).isSome)<;>simp only[G1,hh,IJ,Dw,dO]
def Qr8{T:TypeId}{ti:TI}(O:tI P T=some ti): ∃u,P.underlying T=some u/\dO u ti.kind:=by
 obtain⟨i,u,hi,Q,Z,h2,h3,z,h5⟩:=OY O;exact⟨u,Q,z▸QI P u⟩
def Wo{T:TypeId}{ti:TI}(O:tI P T=some ti){k:IntKind}(hf:ti.kind= .int k):P.underlying T=some (.int k):=by
 obtain⟨u,Q,z⟩:=Qr8 O;rw[hf] at z;simp only[dO] at z;rw[Q,z]
def RC{T:TypeId}{ti:TI}(O:tI P T=some ti)(hf:ti.kind= .str):P.underlying T=some .string:=by
 obtain⟨u,Q,z⟩:=Qr8 O;rw[hf] at z;simp only[dO] at z;rw[Q,z]
def cC{T:TypeId}{ti:TI}(O:tI P T=some ti)(hf:ti.kind= .bool):P.underlying T=some .bool:=by
 obtain⟨u,Q,z⟩:=Qr8 O;rw[hf] at z;simp only[dO] at z;rw[Q,z]
def oT{T e:TypeId}{ti:TI}(O:tI P T=some ti)(hf:ti.kind= .ptr e):P.underlying T=some (.pointer e):=by
 obtain⟨u,Q,z⟩:=Qr8 O;rw[hf] at z;simp only[dO] at z;rw[Q,z]
def Qjn{T:TypeId}{ti:TI}(hT:tI P T=some ti){fs:List (Nat×Nat)}(hf:ti.kind= .struct fs){f off sz:Nat}(O:fs[f]? =some (off,sz))(Z:sz≠0)
 (w:World)(b p:Nat):(Instr.fieldAt T (.pointer (some ⟨b,p,none⟩)) f).run P w= .ok (.pointer (some ⟨b,p+off,none⟩)) w:=by
 obtain⟨z,hu,_,rfl⟩:=Qut hT hf;rw[Dp] at O;cases hfe:z.toList[f]? with
 |none=>rw[hfe] at O;simp at O
 |some fd=>
  rw[hfe] at O;simp only[CT,AS,B6] at O;obtain⟨rfl,rfl⟩:=O;have Q:z[f]? =some fd:=by simpa using hfe
  cases hin:P.info? fd.type with
  |none=>rw[hin] at Z;simp at Z
  |some aa=>
   rw[hin] at Z;simp only[CT,BG] at Z;simp[Instr.fieldAt,underlying,hu,Q,Instr.sureAddr,fieldPlace,sizeOf,typeInfo,hin,Z,OX]
def Qsq{T:TypeId}{x:Operand}{f:Nat}(ho:o.op= .fieldAddr T x f)(z:Bz (Qhg h (Ay tm x) f K) (tI P T)):Cr P tm h nx o K:=by
 cases hT:tI P T with
 |none=>rw[hT] at z;exact z.elim
 |some ti=>
  rw[hT] at z;simp only[Bz,Qhg] at z;cases hf:ti.kind<;>rw[hf] at z<;>try exact z.elim
  rename_i fs;simp only[faK] at z;cases hi:fs[f]? with
  |none=>rw[hi] at z;exact z.elim
  |some q=>
   obtain⟨off,sz⟩:=q;rw[hi] at z;simp only[Zr] at z;obtain⟨hz,z⟩:=z;cases hx:Ay tm x<;>rw[hx] at z<;>try exact z.elim
   case im d=>
    cases d<;>try exact z.elim
    rename_i cs;simp only[LD] at z;obtain⟨aa,z⟩:=z;refine⟨_,_,BP.pure (u:=[]) ?_,z⟩;intro C S a hW _ O;have Q:=O x (by rw[ho];simp[Op.operands]);rw[hx] at Q;simp only[Ab,rd] at Q;obtain⟨b,p,vs,U,fr,hv,ab,hb,hr⟩:=Q;refine⟨_,by simp[execOp,ho,hv,Qjn hT hf hi hz];rfl,?_⟩;simp only[Ab,rd]
    have:=QY off _ _ hr aa
    rw[FW] at this;exact⟨b,p+off,vs,U,fr,rfl,ab,hb,this⟩
   case ptr n p=>
    simp only[LD] at z;obtain⟨⟨e,he⟩,z⟩:=jP z;refine⟨_,_,BP.pure (u:=[n]) ?_,z⟩;intro C S a hW hu O;have Q:=O x (by rw[ho];simp[Op.operands]);rw[hx] at Q;simp only[Ab] at Q;have hS:S.h n=some e:=(hu n auSi).trans he;obtain⟨l,hl,hv⟩:=Q.2 e hS;refine⟨_,by simp[execOp,ho,hv,Qjn hT hf hi hz];rfl,?_⟩;simp only[Ab];refine⟨rfl,λe' Z=>⟨l,hl,by rw[Rj]⟩⟩
   case eptr n i p=>
    simp only[LD] at z;obtain⟨⟨e,he⟩,z⟩:=jP z;refine⟨_,_,BP.pure (u:=[n]) ?_,z⟩;intro C S a hW hu O;have Q:=O x (by rw[ho];simp[Op.operands]);rw[hx] at Q;simp only[Ab] at Q;have hS:S.h n=some e:=(hu n auSi).trans he;obtain⟨l,hl,hv⟩:=Q.2 e hS;refine⟨_,by simp[execOp,ho,hv,Qjn hT hf hi hz];rfl,?_⟩;simp only[Ab];refine⟨rfl,λe' Z=>⟨l,hl,?_⟩⟩;rw[hS] at Z;obtain rfl:=AJ Z;rw[Rj]
def QX{T:TypeId}{ti:TI}(hT:tI P T=some ti){e:TypeId}(hf:ti.kind= .slice e):P.underlying T=some (.slice e):=by
 obtain⟨i,u,hi,hu,h1,h2,h3,O,h5⟩:=OY hT;rw[hf] at O;rcases Qi5 P (u:=u) with ⟨z,rfl,aa,Q⟩|⟨z,rfl,Q⟩|Z
 .rw[Q] at O;cases O
 .rw[Q] at O;cases O
 cases u<;>simp only[G1,TK.slice.injEq,reduceCtorEq] at O;rotate_left
 .exact absurd rfl (Z _)
 rw[O];exact hu
def Qs2{T:TypeId}{ti:TI}(hT:tI P T=some ti){n:Nat}{e:TypeId}(hf:ti.kind= .array n e):P.underlying T=some (.array n e):=by
 obtain⟨i,u,hi,hu,h1,h2,h3,O,h5⟩:=OY hT;rw[hf] at O;rcases Qi5 P (u:=u) with ⟨z,rfl,aa,Q⟩|⟨z,rfl,Q⟩|Z
 .rw[Q] at O;cases O
 .rw[Q] at O;cases O
 cases u<;>simp only[G1,TK.array.injEq,reduceCtorEq] at O;rotate_left
 .exact absurd rfl (Z _)
 obtain⟨rfl,rfl⟩:=O;exact hu
def qO{T:TypeId}{ti:TI}(hT:tI P T=some ti){n:TypeId}{e:TypeId}(hf:ti.kind= .map n e):P.underlying T=some (.map n e):=by
 obtain⟨i,u,hi,hu,h1,h2,h3,O,h5⟩:=OY hT;rw[hf] at O;rcases Qi5 P (u:=u) with ⟨z,rfl,aa,Q⟩|⟨z,rfl,Q⟩|Z
 .rw[Q] at O;cases O
 .rw[Q] at O;cases O
 cases u<;>simp only[G1,TK.map.injEq,reduceCtorEq] at O;rotate_left
 .exact absurd rfl (Z _)
 obtain⟨rfl,rfl⟩:=O;exact hu
def Qsk{T:TypeId}{x i:Operand}(ho:o.op= .indexAddr T x i)(z:Bz (Qfq P h (Ay tm x) (Ay tm i) K) (tI P T)):Cr P tm h nx o K:=by
 cases hT:tI P T with
 |none=>rw[hT] at z;exact z.elim
 |some ti=>
  rw[hT] at z;simp only[Bz,Qfq] at z;cases hi:Ay tm i<;>rw[hi] at z<;>try exact z.elim
  rename_i d;cases d<;>try exact z.elim
  rename_i ik n;simp only[Qjp] at z;cases hf:ti.kind<;>rw[hf] at z<;>try exact z.elim
  case slice e=>
   have Q:=QX hT hf;simp only[iaK] at z;cases hE:tI P e with
   |none=>rw[hE] at z;exact z.elim
   |some te=>
    rw[hE] at z;simp only[Bz,TV] at z;cases hx:Ay tm x<;>rw[hx] at z<;>try exact z.elim
    case im d=>
     cases d<;>try exact z.elim
     rename_i nz k rows;obtain⟨ad,h0,hn,z⟩:=z;have ag:n.toNat<rows.length:=auOm;have z:=z rows[n.toNat] (Bk ag);refine⟨_,_,BP.pure (u:=[]) ?_,z⟩;intro C S a hW _ O;have Z:=O x (by rw[ho];simp[Op.operands]);have h2:=O i (by rw[ho];simp[Op.operands]);rw[hx] at Z;rw[hi] at h2;simp only[Ab,rd] at Z h2;rcases Z with ⟨_,ak⟩|⟨b,p,cap,vs,U,fr,hv,_,_,_,ai,hb,hr⟩
     .rw[ak] at ag;simp at ag
     obtain⟨am,aa⟩:=Qy5 n.toNat rows _ _ hr (Bk ag);rw[FW] at aa;refine⟨.pointer (some ⟨b,p+n.toNat*k,none⟩),?_,?_⟩
     .simp[execOp,ho,h2,hv,Instr.indexAt,asIntOf,underlying,Q,h0,hn,J1 hE,OX,ad]
     .simp only[Ab,rd];exact⟨b,_,vs,U,fr,rfl,ai,hb,aa⟩
    case own m=>
     change Nc m n K te (h m) at z;cases hm:h m with
     |none=>rw[hm] at z;exact z.elim
     |some q=>
      rw[hm] at z;obtain⟨mu,q⟩:=q;have aj: ∃k len,q.esz=k/\q.len=len/\k=te.size/\0<=n/\n<(len:Int)/\K (.eptr m n.toNat 0) {use:=[m]}:=by
       cases q<;>try exact z.elim
       all_goals exact⟨_,_,rfl,rfl,z⟩
      obtain⟨k,len,ac,af,ad,h0,hn,z⟩:=aj;refine⟨_,_,BP.pure (u:=[m]) ?_,z⟩;intro C S a hW hu O;have Z:=O x (by rw[ho];simp[Op.operands]);have h2:=O i (by rw[ho];simp[Op.operands]);rw[hx] at Z;rw[hi] at h2;have hS:S.h m=some (mu,q):=(hu m auSi).trans hm;simp only[Ab,rd] at Z h2;have h3:=Z.2 _ hS;cases hl:S.ρ m with
      |none=>
       exfalso;have ah:=hW.obj _ _ hS;rw[hl] at ah
       have:q.len=0:=by
        cases q<;>simp only[Au] at ah<;>simp[Ad.len]<;>(try exact ah.2)
       omega
      |some l=>
       rw[hl] at h3;simp only at h3;refine⟨.pointer (some ⟨l.b,l.p+n.toNat*k,none⟩),?_,?_⟩
       .rw[af] at h3;simp[execOp,ho,h2,h3,Instr.indexAt,asIntOf,underlying,Q,h0,hn,J1 hE,OX,ad]
       .simp only[Ab];refine⟨rfl,λe' ab=>⟨l,hl,?_⟩⟩;rw[hS] at ab;obtain rfl:=AJ ab;simp[ac]
    case osl m a len=>
     change TW m a len n K te (h m) at z;cases hm:h m with
     |none=>rw[hm] at z;exact z.elim
     |some q=>
      rw[hm] at z;obtain⟨mu,q⟩:=q;have aj: ∃k,q.esz=k/\k=te.size/\0<=n/\n<(len:Int)/\K (.eptr m (a+n.toNat) 0) {use:=[m]}:=by
       cases q<;>try exact z.elim
       exact⟨_,rfl,z.1,z.2.1,z.2.2.1,z.2.2.2.2⟩
      obtain⟨k,ac,ad,h0,hn,z⟩:=aj;refine⟨_,_,BP.pure (u:=[m]) ?_,z⟩;intro C S _ hW hu O;have Z:=O x (by rw[ho];simp[Op.operands]);have h2:=O i (by rw[ho];simp[Op.operands]);rw[hx] at Z;rw[hi] at h2;have hS:S.h m=some (mu,q):=(hu m auSi).trans hm;simp only[Ab,rd] at Z h2;have h3:=Z.2 _ hS;cases hl:S.ρ m with
      |none=>
       rw[hl] at h3
       have:=h3.2
       omega
      |some l=>
       rw[hl] at h3;obtain⟨p,cp,hv,hc,hp,_⟩:=h3;obtain rfl:p=l.p+a*q.esz:=hp auOm;have e:l.p+a*q.esz+n.toNat*te.size=l.p+(a+n.toNat)*k:=by rw[ac,ad,HQ,Rj]
       refine⟨.pointer (some ⟨l.b,l.p+(a+n.toNat)*k,none⟩),?_,?_⟩
       .simp[execOp,ho,h2,hv,Instr.indexAt,asIntOf,underlying,Q,h0,hn,J1 hE,OX,e]
       .simp only[Ab];refine⟨rfl,λe' ab=>⟨l,hl,?_⟩⟩;rw[hS] at ab;obtain rfl:=AJ ab;simp[ac]
  case array m e=>
   have Q:=Qs2 hT hf;simp only[iaK] at z;cases hE:tI P e with
   |none=>rw[hE] at z;exact z.elim
   |some te=>
    rw[hE] at z;simp only[Bz,Nb] at z;cases hx:Ay tm x<;>rw[hx] at z<;>try exact z.elim
    case im d=>
     cases d<;>try exact z.elim
     rename_i cs;obtain⟨h0,hn,af,z⟩:=z;refine⟨_,_,BP.pure (u:=[]) ?_,z⟩;intro C S a hW _ O;have Z:=O x (by rw[ho];simp[Op.operands]);have h2:=O i (by rw[ho];simp[Op.operands]);rw[hx] at Z;rw[hi] at h2;simp only[Ab,rd] at Z h2;obtain⟨b,p,vs,U,fr,hv,ai,hb,hr⟩:=Z;have aa:=QY (n.toNat*te.size) _ _ hr af;rw[FW] at aa;refine⟨.pointer (some ⟨b,p+n.toNat*te.size,none⟩),?_,?_⟩
     .simp[execOp,ho,h2,hv,Instr.indexAt,asIntOf,underlying,Q,h0,hn,J1 hE,OX,Instr.sureAddr]
     .simp only[Ab,rd];exact⟨b,_,vs,U,fr,rfl,ai,hb,aa⟩
    case ptr q p=>
     obtain⟨h0,hn,z⟩:=z;obtain⟨⟨e',ab⟩,z⟩:=jP z;refine⟨_,_,BP.pure (u:=[q]) ?_,z⟩;intro C S a hW hu O;have Z:=O x (by rw[ho];simp[Op.operands]);have h2:=O i (by rw[ho];simp[Op.operands]);rw[hx] at Z;rw[hi] at h2;have hS:S.h q=some e':=(hu q auSi).trans ab;simp only[Ab,rd] at Z h2;obtain⟨l,hl,hv⟩:=Z.2 _ hS;refine⟨.pointer (some ⟨l.b,l.p+p+n.toNat*te.size,none⟩),?_,?_⟩
     .simp[execOp,ho,h2,hv,Instr.indexAt,asIntOf,underlying,Q,h0,hn,J1 hE,OX,Instr.sureAddr]
     .simp only[Ab];exact⟨rfl,λ_ _=>⟨l,hl,by rw[Rj]⟩⟩
end
def AD.ice(S:AD)(X:Nat->Bool):AD:=⟨S.ρ,λb=>S.ok b\/ ∃o e l,X o=false/\S.h o=some e/\e.2.isView=false/\S.ρ o=some l/\l.b=b,λo=>(S.h o).map λe=>(e.1 && X o,e.2),S.w⟩
def WM{S:AD}{X:Nat->Bool}{o:Nat}{e':Ap}(h:(S.ice X).h o=some e'): ∃e,S.h o=some e/\e'=(e.1 && X o,e.2):=by
 simp only[AD.ice,Dx] at h;obtain⟨e,z,rfl⟩:=h;exact⟨e,z,rfl⟩
def Ik(S:AD)(X:Nat->Bool):Ck (λ_=>True) S (S.ice X):=by
 refine⟨λb O=>⟨.inl O,rfl⟩,?_⟩;intro o _ e' z;obtain⟨e,Q,rfl⟩:=WM z;exact⟨e,Q,rfl,rfl,rfl⟩
def WV{C:Bn}{S:AD}{X:Nat->Bool}(hW:Wf C S):Wf C (S.ice X):=by
 have hp:=Ik S X;refine⟨hW.os,hW.tape,hW.output,hW.dr,hW.size,hW.keep,λb Q=> .inl (hW.ok0 b Q),?_,?_,?_,?_,?_,hW.gl⟩
 .rintro b (Q|⟨o,e,l,_,Z,hv,hl,rfl⟩)
  .exact hW.ok1 b Q
  .obtain⟨_,z⟩:=hW.loc o e l Z hl;cases hm:e.1 with
   |false=>rw[hm,hv] at z;exact hW.ok1 _ (by simpa using z)
   |true=>
    rw[hm] at z;simp only[Ff] at z;exact .inr z.2
 .rintro b (Q|⟨o,e,l,_,Z,_,hl,rfl⟩)
  .exact hW.oks b Q
  .exact (hW.loc o e l Z hl).1
 .intro o e' O;obtain⟨e,Z,rfl⟩:=WM O;exact Im hp (λ_ _=>rfl) _ (λ_ _=>trivial) (hW.obj o e Z)
 .intro o e' l O hl;obtain⟨e,Z,rfl⟩:=WM O;obtain⟨h1,z⟩:=hW.loc o e l Z hl;refine⟨h1,?_⟩;cases hX:X o with
  |false=>
   simp only[zR,BL,HS];cases hv:e.2.isView with
   |true=>exact .inr rfl
   |false=>exact .inl (.inr ⟨o,e,l,hX,Z,hv,hl,rfl⟩)
  |true=>
   cases hm:e.1 with
   |false=>
    rw[hm] at z;simp only[Da,BL,HS] at z⊢;exact z.imp .inl id
   |true=>
    rw[hm] at z;simp only[Pg,Ff] at z⊢;refine⟨?_,z.2⟩;rintro (Q|⟨o',e',l',ab,O,_,aa,Q⟩)
    .exact z.1 Q
    .have:=hW.inj o' o e' e l' l O Z aa hl Q (by simp[hm])
     subst this;rw[hX] at ab;cases ab
 .intro o o' e1 e2 l l' h1 z hl aa Q ac;obtain⟨e,Z,q1⟩:=WM h1;obtain⟨e',O,q2⟩:=WM z;refine hW.inj o o' e e' l l' Z O hl aa Q ?_;subst q1 q2;simp only[IK,B1] at ac⊢;exact ac.imp And.left And.left
def qJ{C:Bn}{S:AD}(hW:Wf C S){X:Nat->Bool}{o:Nat}{e:Ap}{l:GI}(Z:X o=false)(he:(S.ice X).h o=some e)(hv:e.2.isView=false)(hl:(S.ice X).ρ o=some l):(S.ice X).ok l.b:=by
 obtain⟨z,O,Q⟩:=WM he;subst Q;exact .inr ⟨o,z,l,Z,O,hv,hl,rfl⟩
def TX{S:AD}{F:An}{u:List Nat}(z: ∀n e,(n,e)∈F-> ∃Z,S.h n=some (Z,e.2)/\e.1=false):
 (S.ice λn=> !(F.map (·.1)).contains n).h=({use:=u,kill:=F.map (·.1),new:=F}:BA).appf S.h:=by
 funext n;have Q: ∀(G:An) (e:Ap),hget G n=some e->(n,e)∈G:=by
  intro G;induction G with
  |nil=>intro e h;simp[hget] at h
  |cons p G ih=>
   intro e h;obtain⟨q,y⟩:=p;simp only[hget] at h;cases hq:q==n<;>rw[hq] at h
   .exact Ah _ (ih e (by simpa using h))
   .have:q=n:=by simpa using hq
    subst this;simp only[IJ,AS] at h;subst h;simp
 have O: ∀(G:An),hget G n=none->n∉G.map (·.1):=by
  intro G;induction G with
  |nil=>intro _;simp
  |cons p G ih=>
   intro h;obtain⟨q,y⟩:=p;simp only[hget] at h;cases hq:q==n<;>rw[hq] at h
   .have:q≠n:=by simpa using hq
    simp only[Br,B0,Rh];exact⟨λh'=>this h'.symm,ih (by simpa using h)⟩
   .simp at h
 simp only[BA.appf,AD.ice];cases hg:hget F n with
 |some e=>
  have hm:=Q F e hg;obtain⟨Z,q1,q2⟩:=z n e hm;rw[q1]
  have:n∈F.map (·.1):=BY.2 ⟨_,hm,rfl⟩
  rw[GF.2 this];obtain⟨e1,e2⟩:=e;simp only at q2;simp[q2]
 |none=>
  have hc:(F.map (·.1)).contains n=false:=by
   rw[Hk];intro h';exact O F hg (GF.1 h')
  rw[hc];simp only[Dw,Xm,Jg];cases S.h n with
  |none=>rfl
  |some e=>rfl
section
variable {P:Program}{tm:TmT}{h:HpT}{nx:Nat}{o:Oper}{K:Al}
def Q6{T:TypeId}{x i:Operand}(ho:o.op= .index T x i)(z:Bz (Qno P (Ay tm x) (Ay tm i) K) (tI P T)):Cr P tm h nx o K:=by
 cases hT:tI P T with
 |none=>rw[hT] at z;exact z.elim
 |some ti=>
  rw[hT] at z;simp only[Bz,Qno] at z;cases hi:Ay tm i<;>rw[hi] at z<;>try exact z.elim
  rename_i d;cases d<;>try exact z.elim
  rename_i ik n;simp only[Qxc] at z;cases hx:Ay tm x
  all_goals rw[hx] at z
  case im d=>
   cases d<;>(try (exfalso;generalize ti.kind=kk at z;cases kk<;>exact z))
   case str s=>
    have ac:ti.kind= .str/\0<=n/\n<(s.size:Int)/\fZ s n.toNat (kCh K):=by generalize ti.kind=kk at z;cases kk<;>first|exact z.elim|exact⟨rfl,z⟩
    obtain⟨ad,h0,hn,z⟩:=ac;have Z:n.toNat<s.data.size:=by show n.toNat<s.size;omega
    have Q:P.underlying T=some .string:=RC hT ad;refine⟨_,_,BP.pure (u:=[]) ?_,z s.data[n.toNat] auSi⟩;intro C S a hW _ O;have h1:=O x (by rw[ho];simp[Op.operands]);have h2:=O i (by rw[ho];simp[Op.operands]);rw[hx] at h1;rw[hi] at h2;simp only[Ab,rd] at h1 h2;have ab:n.toNat<s.size:=Z;refine⟨.int .u8 (s.data[n.toNat].toNat),?_,by simp only[Ab,rd]⟩;simp[execOp,ho,h2,h1,Instr.index,asIntOf,underlying,Q,h0,ab];rfl
   case agg cs=>
    cases hf:ti.kind<;>rw[hf] at z<;>try exact z.elim
    rename_i m e;have Q:=Qs2 hT hf;simp only[ixK] at z;cases hE:tI P e with
    |none=>rw[hE] at z;exact z.elim
    |some te=>
     rw[hE] at z;simp only[Bz,Uf] at z;obtain⟨hs,h0,hn,af,z⟩:=z;refine⟨_,_,BP.pure (u:=[]) ?_,z⟩;intro C S a hW _ O;have h1:=O x (by rw[ho];simp[Op.operands]);have h2:=O i (by rw[ho];simp[Op.operands]);rw[hx] at h1;rw[hi] at h2;simp only[Ab,rd] at h1 h2;obtain⟨vs,hv,hr⟩:=h1;have h3:=QY (n.toNat*te.size) _ _ (Yv _ _ hr) auOm;obtain⟨h4,h5⟩:=WN te.size _ _ h3 (by rw[CM];omega);refine⟨_,?_,by simp only[Ab];exact Xz h5 (by rw[Eb,CM];omega) hs⟩;cases ha:te.agg with
     |true=>
      simp[execOp,ho,h2,hv,Instr.index,asIntOf,underlying,Q,h0,hn,J1 hE,part,Qsu hE,ha];apply Zfc;simp[List.take_drop,YD]
     |false=>
      have aa:te.size=1:=by simpa[ha] using hs
      have Z:n.toNat*1<vs.toList.length:=by rw[aa,CM] at h4;omega
      have hget:vs[n.toNat*te.size]? =some (vs.toList[n.toNat*1]):=by
       rw[aa];rw[<-YK,Bk Z]
      simp only[execOp,ho,h2,hv,Instr.index,asIntOf];simp[underlying,Q,h0,hn,J1 hE,part,Qsu hE,ha,hget];rw[aa];simp at Z;simp[List.head?_take,List.head?_drop,Z]
  all_goals (exfalso;generalize ti.kind=kk at z;cases kk<;>exact z)
def Qwv{Q T:TypeId}{x:Operand}(ho:o.op= .convert Q T x)(z:xS (Rx (tI P T)) (Ay tm x) K (tI P Q)):Cr P tm h nx o K:=by
 cases hS:tI P Q with
 |none=>rw[hS] at z;exact z.elim
 |some si=>
 rw[hS] at z;simp only[xS] at z;have aa:(P.underlying Q).isSome:=by
  obtain⟨i,u,hi,hu,_⟩:=OY hS;rw[hu];rfl
 cases hT:tI P T with
 |none=>rw[hT] at z;exact z.elim
 |some ti=>
  rw[hT] at z;simp only[Rx] at z;cases hf:ti.kind<;>rw[hf] at z<;>try exact z.elim
  rename_i k;cases hx:Ay tm x<;>rw[hx] at z<;>try exact z.elim
  rename_i d;cases d<;>try exact z.elim
  rename_i k0 n;simp only[LZ] at z;have hu:=Wo hT hf;obtain⟨u0,ab⟩:=Zex.1 aa;refine⟨_,_,BP.pure (u:=[]) ?_,z⟩;intro C S a hW _ O;have Z:=O x (by rw[ho];simp[Op.operands]);rw[hx] at Z;simp only[Ab,rd] at Z;refine⟨.int k (k.wrap n),?_,by simp only[Ab,rd]⟩;simp only[execOp,ho,Z];simp only[convert,Sem.run_bind];simp[underlying,ab,hu,Conv.intToInt]
def Qh1{f:FuncId}(Q:f<1000000000){first capt:Array Operand}(Z:o.op= .makeFunc (.func f) first capt)(hk:K (.clo f (Ey tm first.toList) (Ey tm capt.toList)) {}):Cr P tm h nx o K:=by
 refine⟨_,_,BP.pure (u:=[]) ?_,hk⟩;intro C S a hW _ z;have O: ∀(l:List Operand),(∀x∈l,Ab S (Ay tm x) (a.eval x))->AX S (Ey tm l) (l.map a.eval):=by
  intro l;induction l with
  |nil=>intro _;simp[Ey,AX]
  |cons x l ih=>
   intro hl;simp only[Ey,AX,Br];exact⟨_,_,rfl,hl x auSi,ih (λy hy=>hl y (by simp[hy]))⟩
 refine⟨.func (eV f) (first.map a.eval) (capt.map a.eval),by rw[xX Q];simp[execOp,Z,Instr.makeFunc],?_⟩;simp only[Ab];refine⟨_,_,rfl,?_,?_⟩
 .rw[Xj];exact O _ (λx hx=>z x (by rw[Z];simp[Op.operands];exact .inl (by simpa using hx)))
 .rw[Xj];exact O _ (λx hx=>z x (by rw[Z];simp[Op.operands];exact .inr (by simpa using hx)))
def Qov{S:AD}: ∀(z:List AV) (ds:List D) (vs:LVa),Ea z=some ds->AX S z vs->rdl S.ok S.hp ds vs
 |[],ds,vs,h,O=>by
  simp only[Ea,AS] at h;subst h;simpa only[rdl,AX] using O
 |y::z,ds,vs,h,O=>by
  simp only[Ea] at h;simp only[AX] at O;obtain⟨v,r,rfl,Z,h2⟩:=O;cases hy:y.asD with
  |none=>rw[hy] at h;simp[Pb] at h
  |some d=>
   cases hys:Ea z with
   |none=>rw[hy,hys] at h;simp[Pb] at h
   |some Q=>
    rw[hy,hys] at h;simp only[Pb,AS] at h;subst h;cases y<;>simp only[AV.asD,reduceCtorEq] at hy;obtain rfl:=AJ hy;simp only[rdl];exact⟨v,r,rfl,by simpa only[Ab] using Z,Qov z Q r hys h2⟩
def Qse{ok:Nat->Prop}{hp:Nat->Option Obj}: ∀(ds:List D) (vs:LVa),rdl ok hp ds vs->rdp ok hp ds vs
 |[],_,_=>by simp only[rdp]
 |d::ds,vs,h=>by
  simp only[rdl,rdp] at h⊢;obtain⟨v,r,rfl,z,O⟩:=h;exact⟨v,r,rfl,z,Qse ds r O⟩
def Qrs{C:Bn}{S:AD}(hW:Wf C S){h:HpT}: ∀(xs:List AV) (ds:List D) (E:An) (vs:LVa),P3 h xs=some (ds,E)->(∀n∈hnm E,S.h n=h n)->AX S xs vs->
 (∀n e,(n,e)∈E-> ∃mu,S.h n=some (mu,e.2)/\e.1=false)/\ ∀X:Nat->Bool,(∀n∈hnm E,X n=false)->rdl (S.ice X).ok (S.ice X).hp ds vs
 |[],ds,E,vs,O,_,hc=>by
  simp only[P3,AS,B6] at O;obtain⟨rfl,rfl⟩:=O;exact⟨(λn e z=>by cases z),(λX _=>by simpa only[rdl,AX] using hc)⟩
 |x::xs,ds,E,vs,O,hu,hc=>by
  simp only[P3] at O;simp only[AX] at hc;obtain⟨v,r,rfl,hx,af⟩:=hc;cases hd:IP h x with
  |none=>rw[hd] at O;simp[SV] at O
  |some dE=>
   obtain⟨d,E1⟩:=dE;cases hl:P3 h xs with
   |none=>rw[hd,hl] at O;simp[SV] at O
   |some q=>
    obtain⟨ad,E2⟩:=q;rw[hd,hl] at O;simp only[SV,AS,B6] at O;obtain⟨rfl,rfl⟩:=O;have Z: ∀(a b:An),hnm (a++b)=hnm a++hnm b:=by
     intro a b;induction a with
     |nil=>rfl
     |cons p a ih=>obtain⟨n,e⟩:=p;simp only[BZ,hnm,ih]
    rw[Z] at hu;obtain⟨i1,i2⟩:=Qrs hW xs ad E2 r hl (λn hn=>hu n (Xh _ hn)) af;have ac:(∀n e,(n,e)∈E1-> ∃mu,S.h n=some (mu,e.2)/\e.1=false)/\ ∀X:Nat->Bool,(∀n∈hnm E1,X n=false)->rd (S.ice X).ok (S.ice X).hp d v:=by
     cases x<;>try (simp[IP] at hd;done)
     case im d'=>
      simp only[IP,AS,B6] at hd;obtain⟨rfl,rfl⟩:=hd;refine⟨(λn e z=>by cases z),(λX _=> ?_)⟩;simp only[Ab] at hx;exact HK (Ik S X).ok _ _ hx
     case ptr o p=>
      cases p with
      |succ p=>simp[IP] at hd
      |zero=>
       simp only[IP] at hd;cases ho:h o with
       |none=>rw[ho] at hd;simp[SX] at hd
       |some e=>
        obtain⟨mu,e⟩:=e;rw[ho] at hd;cases e<;>simp only[SX,reduceCtorEq] at hd;rename_i T cs;cases ha:Ea cs with
        |none=>rw[ha] at hd;simp[SY] at hd
        |some es=>
         rw[ha] at hd;simp only[SY,AS,B6] at hd;obtain⟨rfl,rfl⟩:=hd;have Q:S.h o=some (mu,.cells T cs):=(hu o (by simp[hnm])).trans ho;refine⟨?_,?_⟩
         .intro n e z;simp only[Am,B6] at z;obtain⟨rfl,rfl⟩:=z;exact⟨mu,Q,rfl⟩
         .intro X hX;have ab:=hW.obj o _ Q;simp only[Au] at ab;obtain⟨lc,vs,g1,g2,g3,g4⟩:=ab;simp only[Ab] at hx;obtain⟨l,aa,hv⟩:=hx.2 _ Q;rw[g1] at aa;obtain rfl:=AJ aa;simp only[rd];refine⟨lc.b,lc.p+0,vs,_,_,hv,.inr ⟨o,_,lc,hX o (by simp[hnm]),Q,rfl,g1,rfl⟩,g3,?_⟩;rw[g2];have g5:=Qov (S:=S) cs es vs.toList ha g4;have g6:=Ml (Ik S X).ok es _ g5;simpa using Qse es _ g6
    refine⟨?_,?_⟩
    .intro n e z;rcases BO.1 z with z|z
     .exact ac.1 n e z
     .exact i1 n e z
    .intro X hX;rw[Z] at hX;simp only[rdl];exact⟨v,r,rfl,ac.2 X (λn hn=>hX n (HR _ hn)),i2 X (λn hn=>hX n (Xh _ hn))⟩
def Na: ∀{E:An} {n:Nat},(hget E n=none->n∉hnm E)/\ ∀e,hget E n=some e->(n,e)∈E
 |[],n=>⟨λ_=>by simp[hnm],λe h=>by simp[hget] at h⟩
 |(q,x)::E,n=>by
  obtain⟨Q,Z⟩:= @Na E n;simp only[hget,hnm];cases hq:q==n
  .have z:q≠n:=by simpa using hq
   refine⟨λh=> ?_,λe h=> ?_⟩
   .simp only[B0,Rh];exact⟨λh'=>z h'.symm,Q (by simpa using h)⟩
   .exact Ah _ (Z e (by simpa using h))
  .have O:q=n:=by simpa using hq
   refine⟨λh=>by simp at h,λe h=> ?_⟩;simp only[IJ,AS] at h;subst h;subst O;simp
def bJ{f:FuncId}(aa:f<1000000000){first capt:Array Operand}(ho:o.op= .makeFunc (.func f) first capt)
 (z:OB f (Ey tm first.toList) (Ey tm capt.toList) K (P3 h (Ey tm first.toList)) (P3 h (Ey tm capt.toList))):Cr P tm h nx o K:=by
 cases h1:P3 h (Ey tm first.toList) with
 |none=>rw[h1] at z;exact Qh1 aa ho z
 |some q1=>
  cases h2:P3 h (Ey tm capt.toList) with
  |none=>rw[h1,h2] at z;exact Qh1 aa ho z
  |some q2=>
   obtain⟨a,E⟩:=q1;obtain⟨b,F⟩:=q2;rw[h1,h2] at z;simp only[OB] at z;have Z:K (.im (.fn f a b)) {use:=hnm (E++F),kill:=hnm (E++F),new:=E++F}->Cr P tm h nx o K:=by
    intro z;refine⟨_,_,?_,z⟩;intro C S ac next Q hW hu an am ab hn
    have ad: ∀(l:List Operand),(∀x∈l,Ab S (Ay tm x) (ac.eval x))->AX S (Ey tm l) (l.map ac.eval):=by
     intro l;induction l with
     |nil=>intro _;simp[Ey,AX]
     |cons x l ih=>
      intro hl;simp only[Ey,AX,Br];exact⟨_,_,rfl,hl x auSi,ih (λy hy=>hl y (by simp[hy]))⟩
    have O: ∀(a b:An),hnm (a++b)=hnm a++hnm b:=by
     intro a b;induction a with
     |nil=>rfl
     |cons p a ih=>obtain⟨n,e⟩:=p;simp only[BZ,hnm,ih]
    have ai: ∀n∈hnm (E++F),S.h n=h n:=λn hn=>hu n (by simpa using hn)
    have c1:=ad first.toList (λx hx=>ab x (by rw[ho];simp[Op.operands];exact .inl (by simpa using hx)))
    have c2:=ad capt.toList (λx hx=>ab x (by rw[ho];simp[Op.operands];exact .inr (by simpa using hx)));obtain⟨s1,s2⟩:=Qrs hW _ a E _ h1 (λn hn=>ai n (by rw[O];exact HR _ hn)) c1;obtain⟨t1,t2⟩:=Qrs hW _ b F _ h2 (λn hn=>ai n (by rw[O];exact Xh _ hn)) c2
    let X:Nat->Bool:=λn=> !(hnm (E++F)).contains n
    have hX: ∀n∈hnm (E++F),X n=false:=by
     intro n hn;simp only[X,GF.2 hn,YB]
    have af: ∀n e,(n,e)∈E++F-> ∃mu,S.h n=some (mu,e.2)/\e.1=false:=by
     intro n e he;rcases BO.1 he with he|he
     .exact s1 n e he
     .exact t1 n e he
    have ag:(S.ice X).h=({use:=hnm (E++F),kill:=hnm (E++F),new:=E++F}:BA).appf S.h:=by
     funext n;simp only[BA.appf,AD.ice];obtain⟨g1,g2⟩:= @Na (E++F) n;cases hg:hget (E++F) n with
     |some e=>
      have hm:=g2 e hg;obtain⟨mu,q1,q2⟩:=af n e hm;rw[q1];simp only[CT]
      have:n∈hnm (E++F):=by
       have: ∀(G:An),(n,e)∈G->n∈hnm G:=by
        intro G;induction G with
        |nil=>intro h;cases h
        |cons p G ih=>
         intro h;rcases B0.1 h with h'|h'
         .subst h';simp[hnm]
         .obtain⟨q,y⟩:=p;simp only[hnm,B0];exact .inr (ih h')
       exact this _ hm
      rw[hX n this];obtain⟨e1,e2⟩:=e;simp only at q2;simp[q2]
     |none=>
      have ak:=g1 hg;have hc:(hnm (E++F)).contains n=false:=by
       rw[Hk];intro h';exact ak (GF.1 h')
      rw[hc];simp only[Dw];have aj:X n=true:=by simp only[X,hc,Xm]
      cases S.h n with
      |none=>rfl
      |some e=>simp[aj]
    unfold Oper.wp;have ah:(execOp ac.eval o).run P S.w= .ok (.value (.func (eV f) (first.map ac.eval) (capt.map ac.eval))) S.w:=by rw[xX aa];simp[execOp,ho,Instr.makeFunc]
    rw[ah,Oper.upon_value];refine hn _ (S.ice X) (WV hW) ag ?_ ?_
    .have:=Ik S X
     exact⟨this.ok,λo _=>this.nm o trivial⟩
    .simp only[Ab,rd];refine⟨_,_,rfl,?_,?_⟩
     .rw[Xj];exact s2 X (λn hn=>hX n (by rw[O];exact HR _ hn))
     .rw[Xj];exact t2 X (λn hn=>hX n (by rw[O];exact Xh _ hn))
   cases hEF:E++F with
   |nil=>
    rw[hEF] at z Z;exact Z z
   |cons e r=>
    rw[hEF] at z Z;simp only[Qz3] at z;rcases z with z|z
    .exact Z z
    .exact Qh1 aa ho z
def Qj2(op:BinOp)(t:TypeId)(x y:Operand)(k k':IntKind)(a b:Int)(w:World):(eqGuard op t x y (.int k a) (.int k' b)).run P w= .ok () w:=by
 cases op<;>simp[eqGuard]
def Qn0(op:BinOp)(t:TypeId)(x y:Operand)(a b:MM)(w:World):(eqGuard op t x y (.string a) (.string b)).run P w= .ok () w:=by
 cases op<;>simp[eqGuard]
def Qwl(op:BinOp)(t:TypeId)(x y:Operand)(a b:Bool)(w:World):(eqGuard op t x y (.bool a) (.bool b)).run P w= .ok () w:=by
 cases op<;>simp[eqGuard]
def zH(a b:Int):(a==b)=decide (a=b):=by
 by_cases h:a=b<;>simp[h]
def bL{op:BinOp}{T U:TypeId}{x y:Operand}{k:IntKind}{a b:Int}(ho:o.op= .binOp op T x y U)(hx:Ay tm x= .im (.int k a))(hy:Ay tm y= .im (.int k b))
 (z:J4 op k a b K):Cr P tm h nx o K:=by
 have Z: ∀n,(∀w,(binOp op T (.int k a) (.int k b)).run P w= .ok (.int k n) w)->K (.im (.int k n)) {}->Cr P tm h nx o K:=by
  intro n aa z;refine⟨_,_,BP.pure (u:=[]) ?_,z⟩;intro C S ac hW _ O;have h1:=O x (by rw[ho];simp[Op.operands]);have h2:=O y (by rw[ho];simp[Op.operands]);rw[hx] at h1;rw[hy] at h2;simp only[Ab,rd] at h1 h2;refine⟨.int k n,?_,by simp only[Ab,rd]⟩;simp[execOp,ho,h1,h2,Qj2,aa]
 have Q: ∀n,(∀w,(binOp op T (.int k a) (.int k b)).run P w= .ok (.bool n) w)->K (.im (.bool n)) {}->Cr P tm h nx o K:=by
  intro n aa z;refine⟨_,_,BP.pure (u:=[]) ?_,z⟩;intro C S ac hW _ O;have h1:=O x (by rw[ho];simp[Op.operands]);have h2:=O y (by rw[ho];simp[Op.operands]);rw[hx] at h1;rw[hy] at h2;simp only[Ab,rd] at h1 h2;refine⟨.bool n,?_,by simp only[Ab,rd]⟩;simp[execOp,ho,h1,h2,Qj2,aa]
 cases op<;>simp only[J4] at z<;>try exact z.elim
 case quo=>exact Z _ (λw=>by simp[binOp,Op.intDiv,z.1]) z.2
 case rem=>exact Z _ (λw=>by simp[binOp,Op.intDiv,z.1]) z.2
 case eql=>exact Q _ (λw=>by simp[binOp,Op.intCmp,zH]) z
 case neq=>exact Q _ (λw=>by simp[binOp,Op.intCmp,bne,zH]) z
 case lss=>exact Q _ (λw=>by simp[binOp,Op.intCmp]) z
 case leq=>exact Q _ (λw=>by simp[binOp,Op.intCmp]) z
 case gtr=>exact Q _ (λw=>by simp[binOp,Op.intCmp]) z
 case geq=>exact Q _ (λw=>by simp[binOp,Op.intCmp]) z
 case and=>exact Z _ (λw=>by simp[binOp,Op.intBits,Dz]) z
 case or=>exact Z _ (λw=>by simp[binOp,Op.intBits,orI]) z
 case xor=>exact Z _ (λw=>by simp[binOp,Op.intBits,xorI]) z
 all_goals exact Z _ (λw=>by simp[binOp,Op.intArith]) z
def VY{op:BinOp}{T U:TypeId}{x y:Operand}{k k':IntKind}{a b:Int}(ho:o.op= .binOp op T x y U)(hx:Ay tm x= .im (.int k a))(hy:Ay tm y= .im (.int k' b))
 (z:dN op k a k' b K (HC op)):Cr P tm h nx o K:=by
 have Q: ∀n,(∀w,(binOp op T (.int k a) (.int k' b)).run P w= .ok (.int k n) w)->K (.im (.int k n)) {}->Cr P tm h nx o K:=by
  intro n Z z;refine⟨_,_,BP.pure (u:=[]) ?_,z⟩;intro C S ac hW _ O;have h1:=O x (by rw[ho];simp[Op.operands]);have h2:=O y (by rw[ho];simp[Op.operands]);rw[hx] at h1;rw[hy] at h2;simp only[Ab,rd] at h1 h2;refine⟨.int k n,?_,by simp only[Ab,rd]⟩;simp[execOp,ho,h1,h2,Qj2,Z]
 cases op
 case shr=>
  simp only[HC,dN] at z;exact Q _ (λw=>by simp[binOp,Op.shift,Int.not_lt.2 z.1]) z.2
 case shl=>
  simp only[HC,dN] at z;exact Q _ (λw=>by simp[binOp,Op.shift,Int.not_lt.2 z.1]) z.2
 all_goals
  simp only[HC,dN] at z;obtain⟨rfl,z⟩:=z;exact bL ho hx hy z
def Qmj(s:MM):s.toList=s.data.toList:=by
 have O: ∀(n i:Nat) (r:List UInt8),s.size - i=n->ByteArray.toList.loop s i r=r.reverse++s.data.toList.drop i:=by
  intro n;induction n with
  |zero=>
   intro i r h;unfold ByteArray.toList.loop;rw[Be auOm,Bm (by show s.data.toList.length<=i;simp;show s.size<=i;omega)];simp
  |succ n ih=>
   intro i r h;unfold ByteArray.toList.loop;rw[Bt auOm,ih (i+1) _ auOm];have z:i<s.data.toList.length:=by simp;show i<s.size;omega
   rw[D1 z];simp[ByteArray.get!]
   have:i<s.data.size:=by simpa using z
   exact getElem!_pos s.data i this
 have:=O _ 0 [] rfl
 simpa[ByteArray.toList] using this
def Qry(a b:MM):(a.toList==b.toList)=decide (a=b):=by
 rw[Qmj,Qmj];by_cases h:a=b
 .subst h;simp
 .have:a.data≠b.data:=by
   intro h';apply h;cases a;cases b;simp at h';rw[h']
  simp[h,this]
def bQ{op:BinOp}{T U:TypeId}{x y:Operand}{a b:MM}(ho:o.op= .binOp op T x y U)(hx:Ay tm x= .im (.str a))(hy:Ay tm y= .im (.str b))
 (Z:OD op a b K):Cr P tm h nx o K:=by
 have aa: ∀n,(∀w,(binOp op T (.string a) (.string b)).run P w= .ok (.bool n) w)->K (.im (.bool n)) {}->Cr P tm h nx o K:=by
  intro n O Z;refine⟨_,_,BP.pure (u:=[]) ?_,Z⟩;intro C S ac hW _ z;have h1:=z x (by rw[ho];simp[Op.operands]);have Q:=z y (by rw[ho];simp[Op.operands]);rw[hx] at h1;rw[hy] at Q;simp only[Ab,rd] at h1 Q;refine⟨.bool n,?_,by simp only[Ab,rd]⟩;simp[execOp,ho,h1,Q,Qn0,O]
 cases op<;>simp only[OD] at Z<;>try exact Z.elim
 case eql=>exact aa _ (λw=>by simp[binOp,Op.stringOp,Qry]) Z
 case neq=>exact aa _ (λw=>by simp[binOp,Op.stringOp,Qry]) Z
 case add=>
  refine⟨_,_,BP.pure (u:=[]) ?_,Z.2⟩;intro C S ac hW _ z;have h1:=z x (by rw[ho];simp[Op.operands]);have Q:=z y (by rw[ho];simp[Op.operands]);rw[hx] at h1;rw[hy] at Q;simp only[Ab,rd] at h1 Q;refine⟨.string (a++b),?_,by simp only[Ab,rd]⟩;have ab: ¬(((a.size+b.size:Nat):Int)>IntKind.i64.max):=by
   have:=Z.1
   have Q:IntKind.i64.max=9223372036854775807:=auDe;rw[Q];omega
  have O: ∀w,(binOp .add T (.string a) (.string b)).run P w= .ok (.string (a++b)) w:=by
   intro w;simp only[binOp,Op.stringOp];rw[Sem.run_ite,Be ab,Sem.run_pure]
  simp[execOp,ho,h1,Q,Qn0,O]
def Qmu{T:TypeId}(z:P.underlying T=some .bool)(d:Nat)(a b:Bool)(w:World):(Op.equalIn (d+1) T (.bool a) (.bool b)).run P w= .ok (a==b) w:=by
 simp[Op.equalIn,underlying,z]
def bH{op:BinOp}{T U:TypeId}{x y:Operand}{a b:Bool}(ho:o.op= .binOp op T x y U)(hT:P.underlying T=some .bool)(hx:Ay tm x= .im (.bool a))(hy:Ay tm y= .im (.bool b))
 (O:Km op a b K):Cr P tm h nx o K:=by
 have Q: ∀n,(∀w,(binOp op T (.bool a) (.bool b)).run P w= .ok (.bool n) w)->K (.im (.bool n)) {}->Cr P tm h nx o K:=by
  intro n Z O;refine⟨_,_,BP.pure (u:=[]) ?_,O⟩;intro C S ac hW _ z;have h1:=z x (by rw[ho];simp[Op.operands]);have h2:=z y (by rw[ho];simp[Op.operands]);rw[hx] at h1;rw[hy] at h2;simp only[Ab,rd] at h1 h2;refine⟨.bool n,?_,by simp only[Ab,rd]⟩;simp[execOp,ho,h1,h2,Qwl,Z]
 cases op<;>simp only[Km] at O<;>try exact O.elim
 case eql=>exact Q _ (λw=>by simp[binOp,Op.equal,Op.maxDepth,Qmu hT 9999]) O
 case neq=>exact Q _ (λw=>by simp[binOp,Op.equal,Op.maxDepth,Qmu hT 9999,bne]) O
end
def AD.one(S:AD)(m:Nat)(e:Ad)(l:Option GI)(ks:List Nat)(w':World):AD:=
 ⟨λn=>if n=m then l else S.ρ n,S.ok,λn=>if n=m then some (true,e) else if n∈ks then none else S.h n,w'⟩
structure Mq(S:AD)(m:Nat)(e:Ad)(l:Option GI)(ks:List Nat)(w':World):Prop where
 os:w'.os=S.w.os
 tape:w'.tape=S.w.tape
 output:w'.output=S.w.output
 dr:S.w.drawn<=w'.drawn
 size:S.w.heap.size<=w'.heap.size
 keep: ∀b,b<S.w.heap.size->(∀n f lo,n∈ks->S.h n=some (true,f)->S.ρ n=some lo->lo.b≠b)->w'.heap[b]? =S.w.heap[b]?
 name:m∈ks\/S.h m=none
 loc: ∀lo,l=some lo->lo.b<w'.heap.size/\(S.w.heap.size<=lo.b\/ ∃n f lo',n∈ks/\S.h n=some (true,f)/\S.ρ n=some lo'/\lo'.b=lo.b)
 shape: ∀f,S.h m=some f->l=S.ρ m/\e.esz=f.2.esz/\e.len=f.2.len
 nms: ∀n f,S.h n=some f->S.h m=none->m∉f.2.nms
def wF{C:Bn}{S:AD}{m:Nat}{e:Ad}{l:Option GI}{ks:List Nat}{w':World}(hW:Wf C S)(h:Mq S m e l ks w'):
 Ck (λn=>S.h m≠none\/n≠m) S (S.one m e l ks w'):=by
 refine⟨λb Q=>⟨Q,?_⟩,?_⟩
 .refine h.keep b (hW.oks b Q) ?_;intro n f lo _ hn hl Z
  have:=(hW.loc n _ lo hn hl).2
  simp only[Ff] at this;exact this.1 (Z▸Q)
 .intro n hX e' z;simp only[AD.one] at z⊢;by_cases hnm:n=m
  .subst hnm;rw[Bt rfl] at z⊢;obtain rfl:=AJ z;have aa:S.h n≠none:=by rcases hX with O|O;exact O;exact absurd rfl O
   obtain⟨f,hf⟩:=Option.ne_none_iff_exists'.1 aa;obtain⟨O,h2,h3⟩:=h.shape f hf;exact⟨f,hf,O,h2,h3⟩
  .rw[Be hnm] at z⊢;split at z
   .cases z
   .exact⟨e',z,rfl,rfl,rfl⟩
def Qqp{C:Bn}{S:AD}{m:Nat}{e:Ad}{l:Option GI}{ks:List Nat}{w':World}(hW:Wf C S)(h:Mq S m e l ks w')
 (am:Au (S.one m e l ks w') l e):Wf C (S.one m e l ks w'):=by
 have hp:=wF hW h;have ai: ∀n f lo Z,n≠m->n∉ks->S.h n=some f->S.ρ n=some lo->l=some Z->Z.b≠lo.b:=by
  intro n f lo Z hnm aa hn hl O hb;rcases (h.loc Z O).2 with h1|⟨n2,f2,af,ah,ad,ab,ag⟩
  .have:=(hW.loc n f lo hn hl).1;omega
  .have:=hW.inj n2 n _ _ af lo ad hn ab hl auOm auSi
   subst this;exact aa ah
 refine⟨h.os.trans hW.os,h.tape.trans hW.tape,h.output.trans hW.output,Gu hW.dr h.dr,Gu hW.size h.size,?_,hW.ok0,hW.ok1,λb hb=>ET (hW.oks b hb) h.size,?_,?_,?_,hW.gl⟩
 .intro b hb hM;refine (h.keep b (ET hb hW.size) ?_).trans (hW.keep b hb hM);intro n f lo _ hn hl an
  have:=(hW.loc n _ lo hn hl).2
  simp only[Ff] at this;rcases this.2 with h1|h1
  .omega
  .exact hM (an▸h1)
 .intro n f hf;simp only[AD.one] at hf;by_cases hnm:n=m
  .subst hnm;rw[Bt rfl] at hf;obtain rfl:=AJ hf;simpa[AD.one] using am
  .rw[Be hnm] at hf;split at hf
   .cases hf
   .rename_i aa;have ho:=hW.obj n f hf;have hr:(S.one m e l ks w').ρ n=S.ρ n:=by simp[AD.one,hnm]
    rw[hr];refine Im hp ?_ _ ?_ ho
    .intro lc aj;refine h.keep lc.b (hW.loc n f lc hf aj).1 ?_;intro n2 f2 af ah ad ab ag
     have:=hW.inj n2 n _ _ af lc ad hf ab aj ag auSi
     subst this;exact aa ah
    .intro x hx;by_cases ak:S.h m=none
     .right;intro au;subst au;exact h.nms n f hf ak hx
     .exact .inl ak
 .intro n f lo hf ac;simp only[AD.one] at hf ac⊢;by_cases hnm:n=m
  .subst hnm;rw[Bt rfl] at hf ac;obtain rfl:=AJ hf;obtain⟨h1,h2⟩:=h.loc lo ac;refine⟨h1,?_⟩;simp only[Ff];rcases h2 with h2|⟨n2,f2,af,ah,ad,ab,ag⟩
   .exact⟨λaq=>by have:=hW.oks _ aq;omega,.inl (Gu hW.size h2)⟩
   .have:=(hW.loc n2 _ af ad ab).2
    simp only[Ff] at this;rw[ag] at this;exact this
  .rw[Be hnm] at hf ac;split at hf
   .cases hf
   .have:=hW.loc n f lo hf ac
    exact⟨ET this.1 h.size,this.2⟩
 .intro n n' f f' lo Z hf z hl O hb ao;simp only[AD.one] at hf z hl O;by_cases hnm:n=m<;>by_cases Q:n'=m
  .rw[hnm,Q]
  .rw[Bt hnm] at hf hl;rw[Be Q] at z O;split at z
   .cases z
   .rename_i aa;exact absurd hb (ai n' f' Z lo Q aa z O hl)
  .rw[Be hnm] at hf hl;rw[Bt Q] at z O;split at hf
   .cases hf
   .rename_i aa;exact absurd hb.symm (ai n f lo Z hnm aa hf hl O)
  .rw[Be hnm] at hf hl;rw[Be Q] at z O;split at hf
   .cases hf
   .split at z
    .cases z
    .exact hW.inj n n' f f' lo Z hf z hl O hb ao
section
variable {P:Program}{tm:TmT}{h:HpT}{nx:Nat}{o:Oper}{r:AV}
def BP.one{u ks:List Nat}{m cnt:Nat}{e:Ad}(hm:(cnt=1/\m=nx)\/(cnt=0/\m∈ks/\h m≠none))
 (hr: ∀(C:Bn) (S:AD) (a:Act),Wf C S->(∀n∈u++ks,S.h n=h n)->(cnt=1->S.h nx=none)->(∀n f,S.h n=some f->cnt=1->nx∉f.2.nms)->
  (∀x∈o.op.operands,Ab S (Ay tm x) (a.eval x))->
  ∃v w' l,((execOp a.eval o).run P S.w= .ok (.value v) w'\/((execOp a.eval o).run P S.w= .ok .skip w'/\v=undef))/\Mq S m e l ks w'/\
   (Ck (λn=>S.h m≠none\/n≠m) S (S.one m e l ks w')->Au (S.one m e l ks w') l e/\Ab (S.one m e l ks w') r v)):
 BP P tm h nx o r {use:=u,kill:=ks,new:=[(m,(true,e))],cnt:=cnt}:=by
 intro C S a next Q hW hu af hnm ac hn
 obtain⟨v,w',l,z,O,ad⟩:=hr C S a hW hu (λZ=>af nx ⟨BN _,by rw[Z];exact Nat.lt_succ_self nx⟩)
  (λn f hf Z ag=>hnm n f hf nx ag ⟨BN _,by rw[Z];exact Nat.lt_succ_self nx⟩) ac
 have hp:=wF hW O;obtain⟨ab,Z⟩:=ad hp;have aa:=Qqp hW O ab;have hh:(S.one m e l ks w').h=({use:=u,kill:=ks,new:=[(m,(true,e))],cnt:=cnt}:BA).appf S.h:=by
  funext n;simp only[AD.one,BA.appf,hget];by_cases hnm:n=m
  .subst hnm;simp
  .have:(m==n)=false:=by
    rw[FX];exact λh=>hnm h.symm
   simp[this,hnm]
 have hp':Ck (λn=> ¬Fr nx cnt n) S (S.one m e l ks w'):=by
  refine⟨hp.ok,λn hX=>hp.nm n ?_⟩;rcases hm with ⟨ak,am⟩|⟨aj,ai,ah⟩
  .right;intro hnm;exact hX ⟨auOm,auOm⟩
  .left;rw[hu m (by simp[ai])];exact ah
 unfold Oper.wp;rcases z with z|⟨z,rfl⟩
 .rw[z,Oper.upon_value];exact hn v _ aa hh hp' Z
 .rw[z,Oper.upon_skip];exact hn undef _ aa hh hp' Z
end
def WS{S:AD}{nx:Nat}{e:Ad}{cap:Nat}{w':World}{ob:Obj}(z:w'.heap=S.w.heap.push ob)
 (ac:w'.os=S.w.os)(O:w'.tape=S.w.tape)(Z:w'.output=S.w.output){ks:List Nat}(hS:S.h nx=none)
 (Q: ∀n f,S.h n=some f->nx∉f.2.nms)(aa:S.w.drawn<=w'.drawn:=by first|exact BN _|exact kO _|assumption):Mq S nx e (some ⟨S.w.heap.size,0,cap⟩) ks w':=by
 refine⟨ac,O,Z,aa,by rw[z];simp,?_,.inr hS,?_,?_,λn f hf _=>Q n f hf⟩
 .intro b hb _;rw[z,Array.getElem?_push,Be auOm]
 .intro lo ab;obtain rfl:=AJ ab;refine⟨by rw[z];simp,.inl (BN _)⟩
 .intro f hf;rw[hS] at hf;cases hf
def Ql6{S:AD}{nx:Nat}{e:Ad}{ks:List Nat}(Q:S.h nx=none)
 (z: ∀n f,S.h n=some f->nx∉f.2.nms):Mq S nx e none ks S.w:=by
 refine⟨rfl,rfl,rfl,BN _,BN _,λ_ _ _=>rfl,.inr Q,?_,?_,λn f hf _=>z n f hf⟩
 .intro lo O;cases O
 .intro f hf;rw[Q] at hf;cases hf
def jU{C:Bn}{S:AD}(hW:Wf C S){m:Nat}{f e:Ad}{l:GI}{w':World}{ob:Obj}(hm:S.h m=some (true,f))(hl:S.ρ m=some l)
 (z:w'.heap=S.w.heap.setIfInBounds l.b ob)(ag:w'.os=S.w.os)(Q:w'.tape=S.w.tape)(ab:w'.output=S.w.output)
 (Z:e.esz=f.esz)(aa:e.len=f.len)(ac:S.w.drawn<=w'.drawn:=by first|exact BN _|exact kO _|assumption):Mq S m e (some l) [m] w':=by
 refine⟨ag,Q,ab,ac,by rw[z];simp,?_,.inl auSi,?_,?_,?_⟩
 .intro b hb af
  have:=af m f l auSi hm hl
  rw[z,YJ];rw[Be this]
 .intro lo ad;obtain rfl:=AJ ad;exact⟨by rw[z];simpa using (hW.loc m _ _ hm hl).1,.inr ⟨m,f,l,auSi,hm,hl,rfl⟩⟩
 .intro g hg;rw[hm] at hg;obtain rfl:=AJ hg;exact⟨hl.symm,Z,aa⟩
 .intro n g _ O;rw[hm] at O;cases O
def dS{S:AD}{nx:Nat}{e:Ad}{l:Option GI}{ks:List Nat}{w':World}{ob:Obj}(z:w'.heap=S.w.heap.push ob):
 (S.one nx e l ks w').hp S.w.heap.size=some ob:=by
 simp[AD.hp,AD.one,z]
section
variable {P:Program}{tm:TmT}{h:HpT}{nx:Nat}{o:Oper}{K:Al}
def Qqf{T:TypeId}{cs:List AV}(O:(C:Bn)->(S:AD)->(a:Act)->Wf C S->(∀x∈o.op.operands,Ab S (Ay tm x) (a.eval x))->
 ∃z:Array Value,(execOp a.eval o).run P S.w= .ok (.value (.pointer (some ⟨S.w.heap.size,0,none⟩))) (S.w.alloc (.cells z T))/\AX S cs z.toList)
 (hb: ∀m∈Av cs,m≠nx):BP P tm h nx o (.ptr nx 0) {new:=[(nx,(true,.cells T cs))],cnt:=1}:=by
 refine BP.one (u:=[]) (ks:=[]) (.inl ⟨rfl,rfl⟩) ?_;intro C S a hW _ aa hnm ab;obtain⟨z,Q,Z⟩:=O C S a hW ab;refine⟨_,_,some ⟨S.w.heap.size,0,0⟩,.inl Q,WS (w':=S.w.alloc (.cells z T)) (ob:= .cells z T) rfl rfl rfl rfl (aa rfl) (λn f hf=>hnm n f hf rfl),?_⟩;intro hp;constructor
 .simp only[Au];refine⟨_,z,rfl,rfl,dS rfl,WJ hp cs _ (λm hm=> .inr (hb m hm)) Z⟩
 .simp only[Ab];refine⟨rfl,λe he=>⟨⟨S.w.heap.size,0,0⟩,by simp[AD.one],rfl⟩⟩
def bI{T:TypeId}{x:Operand}(Z:o.op= .box T x)(O:Wg nx T K (Ay tm x).cells)(hb: ∀m∈Av (Ay tm x).cells,m≠nx):Cr P tm h nx o K:=by
 obtain⟨Q,O⟩:=O;refine⟨_,_,Qqf ?_ hb,O⟩;intro C S a hW z;have h1:=z x (by rw[Z];simp[Op.operands]);refine⟨(a.eval x).cells,?_,wH (λh=>Q (by rw[h];rfl)) h1⟩;simp[execOp,Z,Instr.box,newVar,newRow]
def Qv{T:TypeId}(ho:o.op= .alloc T)(O:Bz (Qsv nx T K) (tI P T)):Cr P tm h nx o K:=by
 cases hT:tI P T with
 |none=>rw[hT] at O;exact O.elim
 |some ti=>
  rw[hT] at O;simp only[Bz,Qsv] at O;obtain⟨hl,hz,O⟩:=O;obtain⟨z,Z,ab,Q⟩:=jA hT hl hz;refine⟨_,_,Qqf ?_ ?_,O⟩
  .intro C S a hW aa;refine⟨z.cells,?_,(Js _ _).2 (Q _ _)⟩;simp[execOp,ho,Instr.alloc,Z,newVar,newRow]
  .intro m hm
   have: ∀(l:List D),Av (l.map AV.im)=[]:=by
    intro l;induction l with
    |nil=>rfl
    |cons x l ih=>simp[Av,AV.nms,ih]
   rw[this] at hm;cases hm
def Qw0(l:List D):Av (l.map AV.im)=[]:=by
 induction l with
 |nil=>rfl
 |cons x l ih=>simp[Av,AV.nms,ih]
def Qyk{T:TypeId}(Q:o.op= .makeMap T none)(z:Bz (Qko P nx K) (tI P T)):Cr P tm h nx o K:=by
 cases hT:tI P T with
 |none=>rw[hT] at z;exact z.elim
 |some ti=>
 rw[hT] at z;simp only[Bz,Qko] at z;cases hf:ti.kind<;>rw[hf] at z<;>try exact z.elim
 rename_i kk e;simp only[Uz] at z;cases hkt:Cn P kk with
 |none=>rw[hkt] at z;exact z.elim
 |some kt=>
 rw[hkt] at z;simp only[ZP] at z;refine⟨_,_,BP.one (u:=[]) (ks:=[]) (.inl ⟨rfl,rfl⟩) ?_,z⟩;intro C S a hW _ O hnm Z;refine⟨.map (some S.w.heap.size),S.w.alloc (.map #[] 0),some ⟨S.w.heap.size,0,0⟩,.inl ?_,WS (w':=S.w.alloc (.map #[] 0)) (ob:= .map #[] 0) rfl rfl rfl rfl (O rfl) (λn f hf=>hnm n f hf rfl),?_⟩
 .simp[execOp,Q,Instr.makeMap]
 intro hp;constructor
 .simp only[Au];refine⟨_,#[],0,rfl,auSi,dS rfl,by simp[Dh],auSi,auSi⟩
 .simp only[Ab];exact⟨rfl,λe he=>⟨⟨S.w.heap.size,0,0⟩,by simp[AD.one],rfl⟩⟩
def Q8{e k:Nat}(z: ∀(S:AD) (a:Act),(execOp a.eval o).run P S.w= .ok (.value (.slice none 0 0)) S.w)(Q:K (.own nx) {new:=[(nx,(true,.arr e k []))],cnt:=1}):Cr P tm h nx o K:=by
 refine⟨_,_,BP.one (u:=[]) (ks:=[]) (.inl ⟨rfl,rfl⟩) ?_,Q⟩;intro C S a hW _ O hnm Z;refine⟨_,_,none,.inl (z S a),Ql6 (O rfl) (λn f hf=>hnm n f hf rfl),?_⟩;intro hp;constructor
 .simp[Au]
 .simp only[Ab];exact⟨rfl,λe he=>by simp[AD.one]⟩
def Qabd{x:Operand}(O:o.op= .assign x)(z:Qm9 P tm nx o.type K x):Cr P tm h nx o K:=by
 simp only[Qm9] at z;cases hn':(Yr x && !(o.type==244)) with
 |false=>rw[hn'] at z;exact tR (.inr O) z
 |true=>
  rw[hn'] at z;have hn:Yr x=true:=by
   cases h:Yr x
   .rw[h] at hn';cases hn'
   .rfl
  simp only[Qk7] at z;have Q:x= .const (.slice none 0 0):=by
   cases x<;>simp only[Yr,reduceCtorEq] at hn;rename_i v;unfold RY at hn;split at hn
   .rfl
   .cases hn
  cases ht:Rx (tI P o.type) with
  |none=>rw[ht] at z;exact z.elim
  |some Z=>
   rw[ht] at z;cases Z<;>try exact z.elim
   rename_i e;simp only[Qg6] at z;cases hE:tI P e with
   |none=>rw[hE] at z;exact z.elim
   |some te=>
    rw[hE] at z;simp only[Bz,Qjk] at z;exact Q8 (λS a=>by simp[execOp,O,Q,Act.eval]) z
def Qod{α:Type}(l:List α)(off:Nat)(v:α)(xs:List α)(h:off<l.length):C6 (l.set off v) (off+1) xs=C6 l off (v::xs):=by
 have z:(l.set off v).take (off+1)=l.take off++[v]:=by
  rw[List.take_set,List.set_eq_take_append_cons_drop];rw[Bt (by rw[Eb];omega),List.take_take,ZeQ auOm,ZeX];simp
 have O:(l.set off v).drop (off+1+xs.length)=l.drop (off+1+xs.length):=List.drop_set_of_lt auOm;simp only[C6,z,O,Em];rw[show off+1+xs.length=off+(xs.length+1) from by omega];simp
def Qf9{w:World}{b p:Nat}{T:TypeId}: ∀(xs:LVa) (i:Nat) (vs:Array Value),(∀v∈xs,v.oneCell'=true)->p+i+xs.length<=vs.size->
 w.heap[b]? =some (.cells vs T (0,0))-> ∃w',(storeCells ⟨b,p,none⟩ xs i).run P w= .ok () w'/\w'.heap=w.heap.setIfInBounds b (.cells (C6 vs.toList (p+i) xs).toArray T (0,0))/\
  w'.os=w.os/\w'.tape=w.tape/\w'.output=w.output/\w.drawn<=w'.drawn:=by
 intro xs;induction xs generalizing w with
 |nil=>
  intro i vs _ _ z;refine⟨w,by simp[storeCells],?_,rfl,rfl,rfl,BN _⟩
  have:(C6 vs.toList (p+i) ([]:LVa)).toArray=vs:=by simp[C6]
  rw[this];apply Zen;intro k;rw[YJ];split
  .rename_i af;subst af;split
   .exact z
   .rename_i ah
    have:b<w.heap.size:=by
     rcases Pi b w.heap.size with h|h
     .exact h
     .rw[eH h] at z;cases z
    exact absurd this ah
  .rfl
 |cons v xs ih=>
  intro i vs Q ab z;have O:b<w.heap.size:=by
   rcases Pi b w.heap.size with h|h
   .exact h
   .rw[eH h] at z;cases z
  simp only[Em] at ab;have aa:w.cell? ⟨b,p+i,none⟩=some (vs[p+i]'auOm):=by rw[Qyp z];simp
  have ag:w.frozen? ⟨b,p+i,none⟩=false:=by simp[World.frozen?,z]
  have Z:(w.setCell ⟨b,p+i,none⟩ v).heap=w.heap.setIfInBounds b (.cells (vs.setIfInBounds (p+i) v) T (0,0)):=by
   apply Zen;intro k;simp only[World.setCell,Array.getElem?_modify,YJ];by_cases hk:b=k
   .subst hk;have ad:w.heap[b]= .cells vs T (0,0):=by simpa[E8 O] using z
    simp[O,ad]
   .simp[hk]
  have ac:(w.setCell ⟨b,p+i,none⟩ v).heap[b]? =some (.cells (vs.setIfInBounds (p+i) v) T (0,0)):=by
   rw[Z,YJ];simp[O]
  obtain⟨w',h1,h2,h3,h4,h5⟩:=ih (w:=w.setCell ⟨b,p+i,none⟩ v) (i+1) _ (λu hu=>Q u (by simp[hu])) (by simp;omega) ac;refine⟨w',?_,?_,h3,h4,h5⟩
  .simp only[storeCells,Sem.run_bind,OX,run_store P w _ v .plain (Q v auSi),aa,ag];simpa using h1
  .rw[h2,Z];apply Zen;intro k;simp only[YJ,zL];by_cases hk:b=k
   .subst hk;simp only[Ff,O];congr 3;rw[zS,<-Rj];exact Qod _ _ _ _ (by simp;omega)
   .simp[hk]
def pA{S:AD}: ∀(cs:List AV) (vs:LVa),Si cs=true->AX S cs vs-> ∀v∈vs,v.oneCell'=true
 |[],vs,_,h=>by simp only[AX] at h;simp[h]
 |x::cs,vs,O,h=>by
  simp only[Si,B1] at O;simp only[AX] at h;obtain⟨v,r,rfl,z,h2⟩:=h;intro u Q;rcases B0.1 Q with rfl|Q
  .cases x<;>simp only[AV.one,BL,false_and] at O<;>simp only[Ab] at z
   case im d=>
    cases d<;>simp only[D.one,BL,false_and] at O<;>simp only[rd] at z
    case sl nz k rows=>
     rcases z with ⟨rfl|⟨_,a,rfl⟩,_⟩|⟨b,p,cap,vs,T,Z,rfl,_⟩<;>rfl
    case ref cs=>obtain⟨b,p,vs,T,Z,rfl,_⟩:=z;rfl
    case mp kt es=>obtain⟨b,p,vs,rfl,_⟩:=z;rfl
    case fn f a c=>obtain⟨b,p,rfl,_⟩:=z;rfl
    case ifc t d=>obtain⟨b,rfl,_⟩:=z;rfl
    case tok g=>obtain⟨_,⟨t,x,rfl⟩,_⟩:=z;rfl
    all_goals subst z;rfl
   case clo=>obtain⟨b,p,rfl,_⟩:=z;rfl
   all_goals exact z.1
  .exact pA cs r O.2 h2 u Q
def Qab4{ok:Nat->Prop}{hp:Nat->Option Obj}: ∀(off:Nat) (ds xs:List D) (vs us:LVa),rdp ok hp ds vs->rdl ok hp xs us->off+xs.length<=ds.length->
 rdp ok hp (C6 ds off xs) (C6 vs off us):=by
 intro off;induction off with
 |zero=>
  intro ds xs vs us Q O z;have hl:=jT _ _ O;simp only[C6,eF,E5,Je] at*;rw[hl];have hd:=QY xs.length ds vs Q z;clear z Q hl;generalize ds.drop xs.length=ds' at*;generalize vs.drop xs.length=vs' at*;induction xs generalizing us with
  |nil=>simp only[rdl] at O;subst O;simpa using hd
  |cons x xs ih=>
   simp only[rdl] at O;obtain⟨v,r,rfl,Z,h4⟩:=O;simp only[BZ,rdp];exact⟨v,_,rfl,Z,ih r h4⟩
 |succ off ih=>
  intro ds xs vs us Q O z;cases ds with
  |nil=>simp at z
  |cons d ds=>
   simp only[rdp] at Q;obtain⟨v,r,rfl,Z,h4⟩:=Q
   have:=ih ds xs r us h4 O (by simp only[Em] at z;omega)
   simp only[C6,Mx,BZ,Nat.succ_add,Sv,rdp] at this⊢;exact⟨v,_,rfl,Z,this⟩
def Qmv{S:AD}: ∀(off:Nat) (ds xs:List AV) (vs us:LVa),CO S ds vs->AX S xs us->off+xs.length<=ds.length->
 CO S (C6 ds off xs) (C6 vs off us):=by
 intro off;induction off with
 |zero=>
  intro ds xs vs us Q O z;have hl:=Jz _ _ O;simp only[C6,eF,E5,Je] at*;rw[hl];have hd:=pG xs.length ds vs Q z;clear z Q hl;generalize ds.drop xs.length=ds' at*;generalize vs.drop xs.length=vs' at*;induction xs generalizing us with
  |nil=>simp only[AX] at O;subst O;simpa using hd
  |cons x xs ih=>
   simp only[AX] at O;obtain⟨v,r,rfl,Z,h4⟩:=O;simp only[BZ,CO];exact⟨v,_,rfl,Z,ih r h4⟩
 |succ off ih=>
  intro ds xs vs us Q O z;cases ds with
  |nil=>simp at z
  |cons d ds=>
   simp only[CO] at Q;obtain⟨v,r,rfl,Z,h4⟩:=Q
   have:=ih ds xs r us h4 O (by simp only[Em] at z;omega)
   simp only[C6,Mx,BZ,Nat.succ_add,Sv,CO] at this⊢;exact⟨v,_,rfl,Z,this⟩
def Qml{S:AD}{off:Nat}{ds xs:List AV}{vs us:LVa}(Z:AX S ds vs)(h2:AX S xs us)(z:off+xs.length<=ds.length):
 AX S (C6 ds off xs) (C6 vs off us):=by
 have O:=Jz _ _ Z;have Q:=Jz _ _ h2;have h3:=Qmv off ds xs vs us (Yk _ _ Z) h2 z;have h4:=(Yj (C6 ds off xs).length _ _ h3 (BN _)).2;rw[Pj] at h4
 have:(C6 ds off xs).length=(C6 vs off us).length:=by
  simp[C6,Eb,CM,O,Q]
 rwa [this,Pj] at h4
def NO{ok:Nat->Prop}{hp:Nat->Option Obj}{k:Nat}: ∀(i:Nat) (rows:List (List D)) (vs us:LVa) (row xs:List D) (off:Nat),rdr ok hp k rows vs->rows[i]? =some row->
 rdl ok hp xs us->off+xs.length<=k->i*k+k<=vs.length->rdr ok hp k (rows.set i (C6 row off xs)) (C6 vs (i*k+off) us)
 |_,[],_,_,_,_,_,_,O,_,_,_=>by simp at O
 |0,r::rs,vs,us,row,xs,off,h,O,hx,ho,hv=>by
  simp at O;subst O;simp only[rdr] at h;have hl:=jT _ _ hx;simp only[YH,rdr,Mu,Je] at hv⊢;refine⟨?_,Qab4 _ _ _ _ _ h.2.1 hx auOm,?_⟩
  .simp[C6,Eb,CM];omega
  .have:(C6 vs off us).drop k=vs.drop k:=by
    simp only[C6];rw[kQ,kQ];rw[Bm (by simp only[Eb];omega),Bm (by simp only[Eb];omega),FW];simp only[E5,BR,Eb];congr 1;omega
   rw[this];exact h.2.2
 |i+1,r::rs,vs,us,row,xs,off,h,O,hx,ho,hv=>by
  simp only[rdr] at h;simp only[YN,rdr];have e1:(i+1)*k=i*k+k:=by rw[HQ,Pl]
  rw[e1] at hv⊢;have ih:=NO i rs (vs.drop k) us row xs off h.2.2 (by simpa using O) hx ho (by rw[CM];omega);have Z:C6 vs (i*k+k+off) us=vs.take k++C6 (vs.drop k) (i*k+off) us:=by
   have e2:vs.take (i*k+k+off)=vs.take k++(vs.drop k).take (i*k+off):=by
    rw[<-Ph];congr 1;omega
   simp only[C6,e2,FW,Gk];rw[show i*k+k+off+us.length=k+(i*k+off+us.length) from by omega]
  rw[Z];have Q:(vs.take k).length=k:=by rw[Eb];omega
  refine⟨h.1,?_,?_⟩
  .obtain⟨_,h5⟩:=WN k r vs h.2.1 auOm;have h6:=Yv _ _ h5;rw[BE auOm] at h6;clear ih Z h5 Q;generalize vs.take k=q at*;have ab: ∀(r:List D) (q t:LVa),rdp ok hp r q->rdp ok hp r (q++t):=by
    intro r;induction r with
    |nil=>intro q t _;simp only[rdp]
    |cons d r aa=>
     intro q t h;simp only[rdp] at h⊢;obtain⟨v,z,rfl,h7,h8⟩:=h;exact⟨v,z++t,rfl,h7,aa z t h8⟩
   exact ab r q _ h6
  .rw[kQ,Bm auOm,Q,YL];simpa using ih
end
def pQ{S:AD}: ∀(r:List AV) (q t:LVa),CO S r q->CO S r (q++t)
 |[],_,_,_=>by simp only[CO]
 |d::r,q,t,h=>by
  simp only[CO] at h⊢;obtain⟨v,z,rfl,O,Q⟩:=h;exact⟨v,z++t,rfl,O,pQ r z t Q⟩
def xW{ok:Nat->Prop}{hp:Nat->Option Obj}: ∀(r:List D) (q t:LVa),rdp ok hp r q->rdp ok hp r (q++t)
 |[],_,_,_=>by simp only[rdp]
 |d::r,q,t,h=>by
  simp only[rdp] at h⊢;obtain⟨v,z,rfl,O,Q⟩:=h;exact⟨v,z++t,rfl,O,xW r z t Q⟩
def Qu1{S:AD}{k:Nat}: ∀(i:Nat) (rows:List (List AV)) (vs us:LVa) (row xs:List AV) (off:Nat),BQ S k rows vs->rows[i]? =some row->
 AX S xs us->off+xs.length<=k->i*k+k<=vs.length->BQ S k (rows.set i (C6 row off xs)) (C6 vs (i*k+off) us)
 |_,[],_,_,_,_,_,_,z,_,_,_=>by simp at z
 |0,r::rs,vs,us,row,xs,off,h,z,O,ho,hv=>by
  simp at z;subst z;simp only[BQ] at h;have hl:=Jz _ _ O;simp only[YH,BQ,Mu,Je] at hv⊢;refine⟨?_,Qmv _ _ _ _ _ h.2.1 O auOm,?_⟩
  .simp[C6,Eb,CM];omega
  .have:(C6 vs off us).drop k=vs.drop k:=by
    simp only[C6];rw[kQ,kQ];rw[Bm (by simp only[Eb];omega),Bm (by simp only[Eb];omega),FW];simp only[E5,BR,Eb];congr 1;omega
   rw[this];exact h.2.2
 |i+1,r::rs,vs,us,row,xs,off,h,z,O,ho,hv=>by
  simp only[BQ] at h;simp only[YN,BQ];have e1:(i+1)*k=i*k+k:=by rw[HQ,Pl]
  rw[e1] at hv⊢;have ih:=Qu1 i rs (vs.drop k) us row xs off h.2.2 (by simpa using z) O ho (by rw[CM];omega);have Z:C6 vs (i*k+k+off) us=vs.take k++C6 (vs.drop k) (i*k+off) us:=by
   have e2:vs.take (i*k+k+off)=vs.take k++(vs.drop k).take (i*k+off):=by
    rw[<-Ph];congr 1;omega
   simp only[C6,e2,FW,Gk];rw[show i*k+k+off+us.length=k+(i*k+off+us.length) from by omega]
  rw[Z];have Q:(vs.take k).length=k:=by rw[Eb];omega
  refine⟨h.1,?_,?_⟩
  .obtain⟨_,h5⟩:=Yj k r vs h.2.1 auOm;have h6:=Yk _ _ h5;rw[BE auOm] at h6;exact pQ r _ _ h6
  .rw[kQ,Bm auOm,Q,YL];simpa using ih
def Qg9{α:Type}(l:List α)(p off:Nat)(xs:List α)(h:p<=l.length):(C6 l (p+off) xs).drop p=C6 (l.drop p) off xs:=by
 have O:l.take (p+off)=l.take p++(l.drop p).take off:=by rw[<-Ph]
 have z:(l.take p).length=p:=by rw[Eb];omega
 simp only[C6,O,Gk];rw[kQ,Bm auOm,z,YL];simp[Rj]
section
variable {P:Program}{tm:TmT}{h:HpT}{nx:Nat}{o:Oper}{K:Al}
def Qiq{T:TypeId}{ti:TI}(hT:tI P T=some ti){w:World}{b p:Nat}{U:TypeId}{vs:Array Value}{v:Value}(O:v.cells.size=ti.size)(z: ∀u∈v.cells.toList,u.oneCell'=true)
 (Q:p+ti.size<=vs.size)(hb:w.heap[b]? =some (.cells vs U (0,0))):
 ∃w',(Instr.storeAt T (.pointer (some ⟨b,p,none⟩)) v).run P w= .ok () w'/\w'.heap=w.heap.setIfInBounds b (.cells (C6 vs.toList p v.cells.toList).toArray U (0,0))/\
  w'.os=w.os/\w'.tape=w.tape/\w'.output=w.output/\w.drawn<=w'.drawn:=by
 obtain⟨w',Z,h2⟩:=Qf9 (P:=P) (w:=w) (b:=b) (p:=p) (T:=U) v.cells.toList 0 vs z (by simp;omega) hb;refine⟨w',?_,by simpa using h2⟩;simp[Instr.storeAt,Instr.sureAddr,storeVar,J1 hT,O,Z]
def jZ{S:AD}{m:Nat}{e:Ad}{l:Option GI}{ks:List Nat}{w':World}{b:Nat}{ob:Obj}(O:b<S.w.heap.size)(z:w'.heap=S.w.heap.setIfInBounds b ob):
 (S.one m e l ks w').hp b=some ob:=by
 simp[AD.hp,AD.one,z,O]
def QB{T:TypeId}{x y:Operand}(ho:o.op= .store T x y)(z:Bz (Qri h (Ay tm x) (Ay tm y) K) (tI P T)):Cr P tm h nx o K:=by
 cases hT:tI P T with
 |none=>rw[hT] at z;exact z.elim
 |some ti=>
 rw[hT] at z;simp only[Bz,Qri] at z;obtain⟨hz,hcl,ag,z⟩:=z;have ad:Ay tm y≠ .any:=by intro hh;rw[hh] at hcl;simp only[AV.cells,Ed] at hcl;exact hz hcl.symm
 cases hx:Ay tm x<;>rw[hx] at z<;>try exact z.elim
 case ptr n p=>
  simp only[wP] at z;cases hn:h n with
  |none=>rw[hn] at z;exact z.elim
  |some e=>
  rw[hn] at z;obtain⟨mu,e⟩:=e;cases mu<;>cases e<;>try exact z.elim
  rename_i U cs;simp only[VO] at z;obtain⟨aj,z⟩:=z;refine⟨_,_,BP.one (u:=[n]) (ks:=[n]) (m:=n) (cnt:=0) (.inr ⟨rfl,auSi,by rw[hn];simp⟩) ?_,z⟩;intro C S a hW hu _ _ Q;have h1:=Q x (by rw[ho];simp[Op.operands]);have h2:=Q y (by rw[ho];simp[Op.operands]);have hS:S.h n=some (true,.cells U cs):=(hu n auSi).trans hn;rw[hx] at h1;simp only[Ab] at h1;obtain⟨l,hl,hv⟩:=h1.2 _ hS;have aa:=hW.obj _ _ hS;simp only[Au] at aa;obtain⟨lc,vs,ao,aq,hb,an⟩:=aa;rw[hl] at ao;obtain rfl:=AJ ao;have h3:=wH ad h2;have h4:=Jz _ _ h3;have h5:=Jz _ _ an;rw[aq,Je] at hv;obtain⟨w',ab,O,ah,ai,Z⟩:=Qiq hT (w:=S.w) (b:=l.b) (p:=p) (U:=U) (vs:=vs) (v:=a.eval y) (by simpa[hcl] using h4) (pA _ _ ag h3)
   (by have:vs.size=cs.length:=by simpa using h5
       omega) hb
  refine⟨undef,w',some l,.inr ⟨by simp[execOp,ho,hv,ab],rfl⟩,jU hW hS hl O ah ai Z.1 rfl rfl Z.2,?_⟩;intro hp;refine⟨?_,by simp only[Ab]⟩;simp only[Au];have hX: ∀q:Nat,S.h n≠none\/q≠n:=λq=> .inl (by rw[hS];simp)
  refine⟨l,_,rfl,aq,jZ (hW.loc n _ l hS hl).1 O,?_⟩;exact Qml (WJ hp _ _ (λq _=>hX q) an) (WJ hp _ _ (λq _=>hX q) h3) auOm
 case eptr n i p=>
  simp only[wP] at z;cases hn:h n with
  |none=>rw[hn] at z;exact z.elim
  |some e=>
  rw[hn] at z;obtain⟨mu,e⟩:=e;cases mu<;>cases e<;>try exact z.elim
  case true.arr U k rows=>
   simp only[Kj,K4,Qxz] at z;obtain⟨hi,z⟩:=z;have z:=z rows[i] (Bk hi);cases hai:Ea (Ay tm y).cells with
   |none=>rw[hai] at z;exact z.elim
   |some ds=>
   rw[hai] at z;simp only[ZD] at z;obtain⟨aj,z⟩:=z;refine⟨_,_,BP.one (u:=[n]) (ks:=[n]) (m:=n) (cnt:=0) (.inr ⟨rfl,auSi,by rw[hn];simp⟩) ?_,z⟩;intro C S a hW hu _ _ Q;have h1:=Q x (by rw[ho];simp[Op.operands]);have h2:=Q y (by rw[ho];simp[Op.operands]);have hS:S.h n=some (true,.arr U k rows):=(hu n auSi).trans hn;rw[hx] at h1;simp only[Ab] at h1;obtain⟨l,hl,hv⟩:=h1.2 _ hS;have aa:=hW.obj _ _ hS;rw[hl] at aa;simp only[Au] at aa;obtain⟨ac,af,vs,hb,aw,hr⟩:=aa;have h3:=wH ad h2;have h4:=Jz _ _ h3;obtain⟨av,_⟩:=Qy5 i rows _ _ hr (Bk hi);simp only[Ad.esz] at hv;have au:i*k+k<=l.cap*k:=by
    have:(i+1)*k<=l.cap*k:=Iv k auOm
    rwa [HQ,Pl] at this
   obtain⟨w',ab,O,ah,ai,Z⟩:=Qiq hT (w:=S.w) (b:=l.b) (p:=l.p+i*k+p) (U:=U) (vs:=vs) (v:=a.eval y) (by simpa[hcl] using h4) (pA _ _ ag h3)
    auOm hb
   refine⟨undef,w',some l,.inr ⟨by simp[execOp,ho,hv,ab],rfl⟩,jU hW hS hl O ah ai Z.1 rfl (by simp[Ad.len]) Z.2,?_⟩;intro hp;refine⟨?_,by simp only[Ab]⟩;simp only[Au];have am:=dD hp.ok k rows _ hr;rw[pO hai] at h3;have ak:=Ml hp.ok _ _ ((Js _ _).1 h3);have ax:ds.length=ti.size:=by rw[pO hai] at hcl;simpa using hcl
   refine⟨by simpa using ac,by simpa using af,_,jZ (hW.loc n _ l hS hl).1 O,?_,?_⟩
   .simp[C6,Eb,CM] at h4⊢;omega
   .have:=NO i rows _ (a.eval y).cells.toList rows[i] ds p am (Bk hi) ak auOm (by simp;omega)
    rw[Zef,Rj,Qg9 _ _ _ _ (by simp;omega)];exact this
  case true.arrA U k rows=>
   simp only[Kj,K4,Qyo] at z;obtain⟨hi,z⟩:=z;obtain⟨aj,z⟩:=z rows[i] (Bk hi);refine⟨_,_,BP.one (u:=[n]) (ks:=[n]) (m:=n) (cnt:=0) (.inr ⟨rfl,auSi,by rw[hn];simp⟩) ?_,z⟩;intro C S a hW hu _ _ Q;have h1:=Q x (by rw[ho];simp[Op.operands]);have h2:=Q y (by rw[ho];simp[Op.operands]);have hS:S.h n=some (true,.arrA U k rows):=(hu n auSi).trans hn;rw[hx] at h1;simp only[Ab] at h1;obtain⟨l,hl,hv⟩:=h1.2 _ hS;have aa:=hW.obj _ _ hS;rw[hl] at aa;simp only[Au] at aa;obtain⟨ac,af,vs,hb,aw,hr⟩:=aa;have h3:=wH ad h2;have h4:=Jz _ _ h3;obtain⟨av,_⟩:=Qw7 i rows _ _ hr (Bk hi);simp only[Ad.esz] at hv;have au:i*k+k<=l.cap*k:=by
    have:(i+1)*k<=l.cap*k:=Iv k auOm
    rwa [HQ,Pl] at this
   obtain⟨w',ab,O,ah,ai,Z⟩:=Qiq hT (w:=S.w) (b:=l.b) (p:=l.p+i*k+p) (U:=U) (vs:=vs) (v:=a.eval y) (by simpa[hcl] using h4) (pA _ _ ag h3)
    auOm hb
   refine⟨undef,w',some l,.inr ⟨by simp[execOp,ho,hv,ab],rfl⟩,jU hW hS hl O ah ai Z.1 rfl (by simp[Ad.len]) Z.2,?_⟩;intro hp;refine⟨?_,by simp only[Ab]⟩;simp only[Au];have hX: ∀q:Nat,S.h n≠none\/q≠n:=λq=> .inl (by rw[hS];simp)
   have am:=wL hp k rows _ (λq _=>hX q) hr;have ak:=WJ hp _ _ (λq _=>hX q) h3;refine⟨by simpa using ac,by simpa using af,_,jZ (hW.loc n _ l hS hl).1 O,?_,?_⟩
   .simp[C6,Eb,CM] at h4⊢;omega
   .have:=Qu1 i rows _ (a.eval y).cells.toList rows[i] (Ay tm y).cells p am (Bk hi) ak auOm (by simp;omega)
    rw[Zef,Rj,Qg9 _ _ _ _ (by simp;omega)];exact this
end
def Quk(n:Nat): ∀(xs:LVa) (off:Nat) (cs:Array Value),off+xs.length<=cs.size->
 ((xs.zipIdx n).foldl (λ(cs:Array Value) (q:Value×Nat)=>cs.setIfInBounds (off - n+q.2) q.1) cs)=(C6 cs.toList (off) xs).toArray\/off<n
 |xs,off,cs,h=>by
  by_cases hn:off<n
  .exact .inr hn
  left;induction xs generalizing n off cs with
  |nil=>simp[C6]
  |cons x xs ih=>
   simp only[Em] at h;simp only[List.zipIdx_cons,Fu];rw[show off - n+n=off from by omega];have z:=ih (n+1) (off+1) (cs.setIfInBounds off x) (by simp;omega) auOm;rw[show off+1 - (n+1)=off - n from by omega] at z;rw[z];congr 1;rw[zS];exact Qod _ _ _ _ (by simp;omega)
def Ty{place:Nat->Option (Nat×Nat)}{cs:Array Value}{i off size:Nat}{v:Value}{rest:List (Nat×Value)}(hp:place i=some (off,size))(hs:v.cells.size=size)
 (z:off+size<=cs.size):Instr.fill place cs ((i,v)::rest)=Instr.fill place (C6 cs.toList off v.cells.toList).toArray rest:=by
 simp only[Instr.fill,hp];rw[Be (by simp[hs];omega)];congr 1
 have:=Quk 0 v.cells.toList off cs (by simp;omega)
 rcases this with h|h
 .rw[<-h];rw[<-Array.foldl_toList];simp
 .omega
def Qsp{α:Type}(l:List α)(off:Nat)(xs:List α)(h:off+xs.length<=l.length):(C6 l off xs).length=l.length:=by
 simp[C6,Eb,CM];omega
section
variable {P:Program}{tm:TmT}{h:HpT}{nx:Nat}{o:Oper}{K:Al}
def Qjy(z:Nat->Option (Nat×Nat)): ∀(ps:TmT) {r:List AV},IF z ps none=some r->False
 |[],_,h=>by simp[IF] at h
 |_::_,_,h=>by simp[IF] at h
def Qiw{S:AD}{a:Act}{pl place:Nat->Option (Nat×Nat)}(aa: ∀i q,pl i=some q->place i=some q): ∀(ps:List (Nat×Operand)) (cs r:List AV) (O:Array Value),
 IF pl (KA tm ps) (some cs)=some r->AX S cs O.toList->(∀p∈ps,Ab S (Ay tm p.2) (a.eval p.2))->
 ∃us,Instr.fill place O (ps.map λp=>(p.1,a.eval p.2))=some us/\AX S r us.toList/\r.length=cs.length
 |[],cs,r,O,hf,hc,_=>by
  simp only[KA,IF,AS] at hf;subst hf;exact⟨O,rfl,hc,rfl⟩
 |(i,x)::ps,cs,r,O,hf,hc,z=>by
  simp only[KA,IF] at hf;cases hp:pl i with
  |none=>rw[hp] at hf;simp only[dU] at hf;exact (Qjy _ _ hf).elim
  |some q=>
   obtain⟨off,size⟩:=q;rw[hp] at hf;simp only[dU] at hf;cases hcond:((Ay tm x).cells.length==size && (Nat.blt 0 size && Nat.ble (off+size) cs.length)) with
   |false=>rw[hcond] at hf;simp only[Dw] at hf;exact (Qjy _ _ hf).elim
   |true=>
    rw[hcond] at hf;simp only[IJ] at hf;simp only[B1,YI] at hcond;obtain⟨hl,hz,Z⟩:=hcond;have hz:0<size:=kX hz;have Z:off+size<=cs.length:=kX Z;have hx:=z (i,x) auSi;have Q:Ay tm x≠ .any:=by intro hh;rw[hh] at hl;simp only[AV.cells,Ed] at hl;omega
    have h3:=wH Q hx;have h4:=Jz _ _ h3;have h5:=Jz _ _ hc;have h6:=Qml hc h3 (by omega:off+(Ay tm x).cells.length<=cs.length);have ac:(C6 cs off (Ay tm x).cells).length=cs.length:=Qsp _ _ _ auOm;obtain⟨us,ab,hr,ad⟩:=Qiw aa ps _ r (C6 O.toList off (a.eval x).cells.toList).toArray hf (by simpa using h6) (λp hp=>z p (by simp[hp]));refine⟨us,?_,hr,auOm⟩;rw[Br,Ty (aa i _ hp) (by show (a.eval x).cells.size=size;simp only[HA] at h4;omega) (by simp only[HA] at h5;omega)];exact ab
def Qnx(w:World): ∀(O:List Field),(O.all λf=>(P.info? f.type).isSome)=true->
 (O.mapM (m:=Sem) λf=>do pure (f.offset,<-sizeOf f.type)).run P w= .ok (O.map λf=>(f.offset,((P.info? f.type).map (·.size)).getD 0)) w
 |[],_=>by simp
 |f::O,z=>by
  simp only[E6,B1] at z;obtain⟨i,Q⟩:=Zex.1 z.1;have ih:=Qnx w O z.2;have Z:(sizeOf f.type).run P w= .ok i.size w:=by simp[sizeOf,typeInfo,Q]
  simp only[List.mapM_cons,Sem.run_bind,Z,Result.andThen_ok,Sem.run_pure,ih,Br,Q,CT,BG]
def Qw{T:TypeId}{ps:Array (Nat×Operand)}(ho:o.op= .build T ps)(O:Bz (Qsy P (KA tm ps.toList) K) (tI P T)):Cr P tm h nx o K:=by
 cases hT:tI P T with
 |none=>rw[hT] at O;exact O.elim
 |some ti=>
 rw[hT] at O;simp only[Bz,Qsy] at O;obtain⟨hl,hz,O⟩:=O;obtain⟨z,ag,ak,af⟩:=jA hT hl hz;have aa: ∀{S:AD} {a:Act},(∀x∈o.op.operands,Ab S (Ay tm x) (a.eval x))-> ∀p∈ps.toList,Ab S (Ay tm p.2) (a.eval p.2):=by
  intro S a Q p hp;refine Q p.2 ?_;rw[ho];simp only[Op.operands];simp;exact⟨p.1,by simpa using hp⟩
 have ab: ∀(a:Act),(ps.map λ(i,x)=>(i,a.eval x)).toList=ps.toList.map λp=>(p.1,a.eval p.2):=by intro a;simp
 cases hf:ti.kind<;>rw[hf] at O<;>try exact O.elim
 case struct fs=>
  obtain⟨Z,hu,ad,ah⟩:=Qut hT hf;simp only[zF] at O;cases hfl:IF (NE fs) (KA tm ps.toList) (some (ti.zero.map .im)) with
  |none=>rw[hfl] at O;exact O.elim
  |some cs=>
   rw[hfl] at O;simp only[O8] at O;refine⟨_,_,BP.pure (u:=[]) ?_,O⟩;intro C S a hW _ Q;have ai: ∀(w:World),(Z.mapM (m:=Sem) λf=>do pure (f.offset,<-sizeOf f.type)).run P w= .ok (fs.toArray) w:=by
    intro w;rw[Zes,Sem.run_map,Qnx w _ ad,ah];rfl
   obtain⟨us,ac,hr,aj⟩:=Qiw (S:=S) (a:=a) (place:=λi=>fs.toArray[i]?) (λi q hq=>by simpa[NE] using hq) ps.toList _ cs z.cells hfl ((Js _ _).2 (af _ _)) (aa Q);refine⟨.agg us,?_,by have:=wZ (ti:={ti with agg:=true,size:=cs.length}) hr rfl (.inl rfl);simpa using this⟩;simp only[execOp,ho,Instr.build,Sem.run_bind,ag,Result.andThen_ok];rw[show (underlying T).run P S.w= .ok (.struct Z) S.w from by simp[underlying,hu]];simp only[Result.andThen_ok,Sem.run_bind,ai];rw[ab,ac];rfl
 case array m e=>
  have hu:=Qs2 hT hf;simp only[zF] at O;cases hE:tI P e with
  |none=>rw[hE] at O;exact O.elim
  |some te=>
  rw[hE] at O;simp only[Bz,SG] at O;cases hfl:IF (Kc te.size) (KA tm ps.toList) (some (ti.zero.map .im)) with
  |none=>rw[hfl] at O;exact O.elim
  |some cs=>
   rw[hfl] at O;simp only[O8] at O;refine⟨_,_,BP.pure (u:=[]) ?_,O⟩;intro C S a hW _ Q;obtain⟨us,ac,hr,aj⟩:=Qiw (S:=S) (a:=a) (place:=λi=>some (i*te.size,te.size)) (λi q hq=>hq) ps.toList _ cs z.cells hfl ((Js _ _).2 (af _ _)) (aa Q);refine⟨.agg us,?_,by have:=wZ (ti:={ti with agg:=true,size:=cs.length}) hr rfl (.inl rfl);simpa using this⟩;simp only[execOp,ho,Instr.build,Sem.run_bind,ag,Result.andThen_ok];rw[show (underlying T).run P S.w= .ok (.array m e) S.w from by simp[underlying,hu]];simp only[Result.andThen_ok,Sem.run_bind,J1 hE];rw[ab,ac];rfl
end
end Go.Ae
