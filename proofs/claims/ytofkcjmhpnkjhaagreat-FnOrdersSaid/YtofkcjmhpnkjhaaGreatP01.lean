/- Lemmas. Conditions: none. -/
import Derived.Test.YtofkcjmhpnkjhaaGreatP00
import Derived.Laws.Cells
set_option linter.all false
set_option maxHeartbeats 8000000
set_option maxRecDepth 100000
namespace Go.Ae
theorem Qej{P:Program}{t:TypeId}{ti:TI}(h:tI P t=some ti):
 ∃i u,P.info? t=some i/\P.underlying t=some u/\ti.size=i.size/\ti.bytes=i.bytes/\
  ti.agg=aggU u/\ti.kind=tkOf P u/\ti.zero=zOf ti.agg i.zero:=by
 unfold tI at h;split at h
 .rename_i i u hi hu;simp only[Zae] at h;subst h;exact⟨i,u,hi,hu,rfl,rfl,rfl,rfl,rfl⟩
 .cases h
section
variable {P:Program}{t:TypeId}{ti:TI}(h:tI P t=some ti)(w:World)
include h
theorem Qca:(sizeOf t).run P w= .ok ti.size w:=by
 obtain⟨i,u,hi,hu,h1,h2,h3,h4,h5⟩:=Qej h;simp[sizeOf,typeInfo,hi,h1]
theorem Qsu:(isAgg t).run P w= .ok ti.agg w:=by
 obtain⟨i,u,hi,hu,h1,h2,h3,h4,h5⟩:=Qej h;have hx:(underlying t).run P w= .ok u w:=by simp[underlying,hu]
 rw[h3];cases u<;>simp[isAgg,hx,aggU]
end
theorem Qyp{w:World}{b p:Nat}{vs:Array Value}{T:TypeId}{fr:Nat×Nat}(h:w.heap[b]? =some (.cells vs T fr)):w.cell? ⟨b,p,none⟩=vs[p]? :=by
 simp[World.cell?,h]
theorem Qdh(b p n:Nat):(⟨b,p,none⟩:Addr).add n=⟨b,p+n,none⟩:=by
 unfold Addr.add;split
 .rename_i h;subst h;rfl
 .rfl
theorem Qed{ok:Nat->Prop}{hp:Nat->Option Obj}: ∀(n:Nat) (ds:List D) (vs:List Value),rdp ok hp ds vs->n<=ds.length->
 n<=vs.length/\rdl ok hp (ds.take n) (vs.take n)
 |0,ds,vs,_,_=>by simp[rdl]
 |n+1,[],vs,_,h=>by simp at h
 |n+1,d::ds,vs,h,hn=>by
  simp only[rdp] at h;obtain⟨v,r,rfl,h1,h2⟩:=h;obtain⟨h3,h4⟩:=Qed n ds r h2 (by simpa using hn);refine⟨by simpa using h3,?_⟩;simp only[ZbI,rdl];exact⟨v,_,rfl,h1,h4⟩
theorem Qea{ok:Nat->Prop}{hp:Nat->Option Obj}: ∀(n:Nat) (ds:List D) (vs:List Value),rdp ok hp ds vs->n<=ds.length->rdp ok hp (ds.drop n) (vs.drop n)
 |0,ds,vs,h,_=>by simpa using h
 |n+1,[],vs,_,h=>by simp at h
 |n+1,d::ds,vs,h,hn=>by
  simp only[rdp] at h;obtain⟨v,r,rfl,h1,h2⟩:=h;simpa using Qea n ds r h2 (by simpa using hn)
theorem Qhe{ok:Nat->Prop}{hp:Nat->Option Obj}: ∀(ds:List D) (vs:List Value),rdl ok hp ds vs->rdp ok hp ds vs
 |[],_,_=>by simp only[rdp]
 |d::ds,vs,h=>by
  simp only[rdl,rdp] at h⊢;obtain⟨v,r,rfl,h1,h2⟩:=h;exact⟨v,r,rfl,h1,Qhe ds r h2⟩
theorem Qjo{ok:Nat->Prop}{hp:Nat->Option Obj}: ∀(ds:List D) (vs:List Value),rdl ok hp ds vs->vs.length=ds.length
 |[],_,h=>by simp only[rdl] at h;simp[h]
 |d::ds,vs,h=>by
  simp only[rdl] at h;obtain⟨v,r,rfl,h1,h2⟩:=h;simp[Qjo ds r h2]
theorem Qbs{S:Env}: ∀(xs:List AV) (vs:List Value),Qa0 S xs vs->vs.length=xs.length
 |[],_,h=>by simp only[Qa0] at h;simp[h]
 |d::ds,vs,h=>by
  simp only[Qa0] at h;obtain⟨v,r,rfl,h1,h2⟩:=h;simp[Qbs ds r h2]
theorem Qci{S:Env}: ∀(xs:List AV) (vs:List Value),Qa0 S xs vs->Qbv S xs vs
 |[],_,_=>by simp only[Qbv]
 |d::ds,vs,h=>by
  simp only[Qa0,Qbv] at h⊢;obtain⟨v,r,rfl,h1,h2⟩:=h;exact⟨v,r,rfl,h1,Qci ds r h2⟩
theorem Qc8{S:Env}: ∀(n:Nat) (ds:List AV) (vs:List Value),Qbv S ds vs->n<=ds.length->n<=vs.length/\Qa0 S (ds.take n) (vs.take n)
 |0,ds,vs,_,_=>by simp[Qa0]
 |n+1,[],vs,_,h=>by simp at h
 |n+1,d::ds,vs,h,hn=>by
  simp only[Qbv] at h;obtain⟨v,r,rfl,h1,h2⟩:=h;obtain⟨h3,h4⟩:=Qc8 n ds r h2 (by simpa using hn);refine⟨by simpa using h3,?_⟩;simp only[ZbI,Qa0];exact⟨v,_,rfl,h1,h4⟩
theorem Qex{S:Env}: ∀(n:Nat) (ds:List AV) (vs:List Value),Qbv S ds vs->n<=ds.length->Qbv S (ds.drop n) (vs.drop n)
 |0,ds,vs,h,_=>by simpa using h
 |n+1,[],vs,_,h=>by simp at h
 |n+1,d::ds,vs,h,hn=>by
  simp only[Qbv] at h;obtain⟨v,r,rfl,h1,h2⟩:=h;simpa using Qex n ds r h2 (by simpa using hn)
theorem Qa6{S:Env}: ∀(ds:List D) (vs:List Value),Qa0 S (ds.map .im) vs↔rdl S.ok S.hp ds vs
 |[],vs=>by simp[Qa0,rdl]
 |d::ds,vs=>by
  simp only[Zaq,Qa0,rdl,conc];constructor
  .rintro⟨v,r,rfl,h1,h2⟩;exact⟨v,r,rfl,h1,(Qa6 ds r).1 h2⟩
  .rintro⟨v,r,rfl,h1,h2⟩;exact⟨v,r,rfl,h1,(Qa6 ds r).2 h2⟩
theorem Qfl{S:Env}: ∀(ds:List D) (vs:List Value),Qbv S (ds.map .im) vs↔rdp S.ok S.hp ds vs
 |[],vs=>by simp[Qbv,rdp]
 |d::ds,vs=>by
  simp only[Zaq,Qbv,rdp,conc];constructor
  .rintro⟨v,r,rfl,h1,h2⟩;exact⟨v,r,rfl,h1,(Qfl ds r).1 h2⟩
  .rintro⟨v,r,rfl,h1,h2⟩;exact⟨v,r,rfl,h1,(Qfl ds r).2 h2⟩
theorem Qgl: ∀{cs:List AV} {ds:List D},Qcr cs=some ds->cs=ds.map .im
 |[],ds,h=>by simp only[Qcr,Zae] at h;subst h;rfl
 |x::r,ds,h=>by
  simp only[Qcr] at h;cases hx:x.asD with
  |none=>rw[hx] at h;simp only[Qlx] at h;cases h
  |some d=>
   rw[hx] at h;cases hr:Qcr r with
   |none=>rw[hr] at h;simp only[Qlx] at h;cases h
   |some es=>
    rw[hr] at h;simp only[Qlx,Zae] at h;subst h
    have:x= .im d:=by cases x<;>simp[AV.asD] at hx;subst hx;rfl
    rw[this,Qgl hr];rfl
theorem rd_cells1{ok:Nat->Prop}{hp:Nat->Option Obj}{d:D}{v:Value}(h:rd ok hp d v):rdl ok hp d.cells v.cells.toList:=by
 cases d<;>simp only[rd] at h<;>simp only[D.cells]
 case agg cs=>obtain⟨vs,rfl,h1⟩:=h;exact h1
 case sl nz k rows=>
  rcases h with ⟨h0,h1⟩|⟨b,p,cap,vs,T,fr,rfl,h1⟩
  .obtain⟨ao,hv⟩:=Qoc h0;subst hv;simp only[rdl];exact⟨_,[],rfl,by simp only[rd];exact .inl ⟨h0,h1⟩,rfl⟩
  .simp only[rdl];exact⟨_,[],rfl,by simp only[rd];exact .inr ⟨b,p,cap,vs,T,fr,rfl,h1⟩,rfl⟩
 case tup cs=>obtain⟨vs,rfl,h1⟩:=h;simp only[rdl];exact⟨_,[],rfl,by simp only[rd];exact⟨vs,rfl,h1⟩,rfl⟩
 case ref cs=>obtain⟨b,p,vs,T,fr,rfl,h1⟩:=h;simp only[rdl];exact⟨_,[],rfl,by simp only[rd];exact⟨b,p,vs,T,fr,rfl,h1⟩,rfl⟩
 case mp es=>obtain⟨b,p,vs,rfl,h1⟩:=h;simp only[rdl];exact⟨_,[],rfl,by simp only[rd];exact⟨b,p,vs,rfl,h1⟩,rfl⟩
 case fn f a c=>obtain⟨b,p,rfl,h1⟩:=h;simp only[rdl];exact⟨_,[],rfl,by simp only[rd];exact⟨b,p,rfl,h1⟩,rfl⟩
 case ifc t d=>obtain⟨b,rfl,h1⟩:=h;simp only[rdl];exact⟨_,[],rfl,by simp only[rd];exact⟨b,rfl,h1⟩,rfl⟩
 case tok g=>obtain⟨h1,⟨t,x,rfl⟩,h2⟩:=h;simp only[rdl];exact⟨_,[],rfl,by simp only[rd];exact⟨h1,⟨t,x,rfl⟩,h2⟩,rfl⟩
 all_goals (subst h;simp only[rdl];exact⟨_,[],rfl,by simp only[rd],rfl⟩)
theorem Qsn(v:Value)(h: ∀cs,v≠ .agg cs):v.cells= #[v]:=by
 cases v<;>first|rfl|exact absurd rfl (h _)
theorem cells_one{v:Value}(h:v.oneCell'=true):v.cells= #[v]:=by
 cases v<;>first|rfl|cases h
theorem Qgi{S:Env}{x:AV}{v:Value}(hx:x≠ .any)(h:conc S x v):Qa0 S x.cells v.cells.toList:=by
 cases x<;>simp only[AV.cells]
 case any=>exact absurd rfl hx
 case im d=>simp only[conc] at h;exact (Qa6 _ _).2 (rd_cells1 h)
 case agg cs=>simp only[conc] at h;obtain⟨vs,rfl,h1⟩:=h;exact h1
 case tup cs=>
  have h':=h;simp only[conc] at h;obtain⟨vs,rfl,h1⟩:=h;simp only[Qa0];exact⟨_,[],rfl,h',rfl⟩
 case clo f a c=>
  have h':=h;simp only[conc] at h;obtain⟨vs,c',rfl,h1⟩:=h;simp only[Qa0];exact⟨_,[],rfl,h',rfl⟩
 all_goals
  have h':=h;simp only[conc] at h;rw[cells_one h.1];simp only[Qa0];exact⟨_,[],rfl,h',rfl⟩
theorem zD_rd{ok:Nat->Prop}{hp:Nat->Option Obj}(v:Value)(h:zOk v=true):rd ok hp (zD v) v:=by
 unfold zOk at h;split at h<;>first|(simp only[zD,rd];done)|cases h|skip
 simp only[zD,rd];exact .inl ⟨.inl rfl,trivial⟩
theorem zDs_rd{ok:Nat->Prop}{hp:Nat->Option Obj}: ∀(vs:List Value),vs.all zOk=true->rdl ok hp (vs.map zD) vs
 |[],_=>by simp[rdl]
 |v::vs,h=>by
  simp only[ZcA,Zah] at h;simp only[Zaq,rdl];exact⟨v,vs,rfl,zD_rd v h.1,zDs_rd vs h.2⟩
theorem Qrg{P:Program}{t:TypeId}{ti:TI}(h:tI P t=some ti)(hl:ti.zero.length=ti.size)(hz:ti.size≠0):
 ∃z,(∀w,(zeroValue t).run P w= .ok z w)/\z.cells.size=ti.size/\(∀ok hp,rdl ok hp ti.zero z.cells.toList)/\ ∀ok hp,rd ok hp (bif ti.agg then .agg ti.zero else hdD ti.zero) z:=by
 obtain⟨i,u,hi,hu,h1,h2,h3,h4,h5⟩:=Qej h;have hne:ti.zero≠[]:=by intro h;rw[h] at hl;exact hz hl.symm
 have hrun: ∀z,i.zero=some z-> ∀w,(zeroValue t).run P w= .ok z w:=fun z hz w=>by simp[zeroValue,typeInfo,hi,hz]
 revert h5 hl hne hrun;generalize ti.agg=ag;generalize ti.zero=zs;generalize i.zero=iz;intro hl h5 hne hrun;unfold zOf at h5;split at h5
 .rename_i vs;cases ha:vs.toList.all zOk<;>rw[ha] at h5
  .exact absurd h5 hne
  .simp only[Zbf] at h5;subst h5;have hr: ∀ok hp,rdl ok hp (vs.toList.map zD) vs.toList:=fun ok hp=>zDs_rd _ ha
   exact⟨_,hrun _ rfl,by simpa[Value.cells] using hl,fun ok hp=>by simpa[Value.cells] using hr ok hp,fun ok hp=>by simp only[Zbf,rd];exact⟨_,rfl,hr ok hp⟩⟩
 .rename_i v;cases ha:zOk v<;>rw[ha] at h5
  .exact absurd h5 hne
  .simp only[Zbf] at h5;subst h5;have hr: ∀ok hp,rd ok hp (zD v) v:=fun ok hp=>zD_rd v ha
   have hc:v.cells= #[v]:=Qsn v (by intro cs hh;rw[hh] at ha;simp[zOk] at ha);exact⟨_,hrun _ rfl,by rw[hc];simpa using hl,fun ok hp=>by rw[hc];simp only[rdl];exact⟨v,[],rfl,hr ok hp,rfl⟩,fun ok hp=>by simpa[hdD] using hr ok hp⟩
 .exact absurd h5 hne
theorem Qe5{P:Program}{t:TypeId}{ti:TI}(h:tI P t=some ti)(hl:ti.zero.length=ti.size)(hz:ti.size≠0):
 ∃z,(∀w,(zeroValue t).run P w= .ok z w)/\z.cells.size=ti.size/\ ∀ok hp,rdl ok hp ti.zero z.cells.toList:=by
 obtain⟨z,h1,h2,h3,_⟩:=Qrg h hl hz;exact⟨z,h1,h2,h3⟩
def Eff.appf(E:Eff)(h:Nat->Option Ent)(n:Nat):Option Ent:=
 match hget E.new n with
 |some e=>some e
 |none=>bif E.kill.contains n then none else h n
def Fr(nx cnt n:Nat):Prop:=nx<=n/\n<nx+cnt
def OpT(P:Program)(tm:List (Nat×AV))(h:Nat->Option Ent)(nx:Nat)(o:Oper)(r:AV)(E:Eff):Prop:=
 ∀(C:Ctx) (S:Env) (a:Act) (next:Act->World->Prop) (Q:Exit->Act->World->Prop),
  Wf C S->(∀n∈E.use++E.kill,S.h n=h n)->(∀n,Fr nx E.cnt n->S.h n=none)->
  (∀n e,S.h n=some e-> ∀m∈e.2.nms,¬Fr nx E.cnt m)->
  (∀x∈o.op.operands,conc S (evO tm x) (a.eval x))->
  (∀v S',Wf C S'->S'.h=E.appf S.h->Pres (fun m=> ¬Fr nx E.cnt m) S S'->conc S' r v->next (a.put o.dst v) S'.w)->
  o.wp P a S.w next Q
theorem kD_conc(S:Env)(v:Value):conc S (kD v) v:=by
 unfold kD
 split<;>simp only[conc,rd]
 exact .inl ⟨.inl rfl,trivial⟩
theorem Qnd(u:List Nat)(h:Nat->Option Ent):({use:=u}:Eff).appf h=h:=by
 funext n;simp[Eff.appf,hget]
section
variable {P:Program}{tm:List (Nat×AV)}{h:Nat->Option Ent}{nx:Nat}{o:Oper}{r:AV}
theorem OpT.pure{u:List Nat}(hr: ∀(C:Ctx) (S:Env) (a:Act),Wf C S->(∀n∈u,S.h n=h n)->(∀x∈o.op.operands,conc S (evO tm x) (a.eval x))->
 ∃v,(execOp a.eval o).run P S.w= .ok (.value v) S.w/\conc S r v):OpT P tm h nx o r {use:=u}:=by
 intro C S a next Q hW hu _ _ hops hn
 obtain⟨v,hv,hc⟩:=hr C S a hW (by simpa using hu) hops;unfold Oper.wp;rw[hv,Oper.upon_value];exact hn v S hW (Qnd u S.h).symm (Pres.refl _ _) hc
end
abbrev Qbp(P:Program)(tm:List (Nat×AV))(h:Nat->Option Ent)(nx:Nat)(o:Oper)(K:Kont):Prop:= ∃r E,OpT P tm h nx o r E/\K r E
section
variable {P:Program}{tm:List (Nat×AV)}{h:Nat->Option Ent}{nx:Nat}{o:Oper}{K:Kont}
theorem Qaav{x:Operand}(ho:o.op= .move x\/o.op= .assign x)(hk:K (evO tm x) {}):Qbp P tm h nx o K:=by
 refine⟨_,_,OpT.pure (u:=[]) ?_,hk⟩;intro C S a hW _ hops;have hc:=hops x (by rcases ho with ho|ho<;>rw[ho]<;>simp[Op.operands]);refine⟨a.eval x,?_,hc⟩;rcases ho with ho|ho<;>simp[execOp,ho]
theorem snd_pick{c x y:Operand}(ho:o.op= .pick c x y)(hk:Qzp (evO tm x) (evO tm y) K (evO tm c)):Qbp P tm h nx o K:=by
 cases hc:evO tm c<;>rw[hc] at hk<;>try exact hk.elim
 rename_i d;cases d<;>try exact hk.elim
 rename_i b;simp only[Qzp,pickV] at hk;have key:K (if b then evO tm x else evO tm y) {}:=by
  cases b
  .simpa using hk.2 rfl
  .simpa using hk.1 rfl
 refine⟨_,_,OpT.pure (u:=[]) ?_,key⟩;intro C S a hW _ hops;have h1:=hops c (by rw[ho];simp[Op.operands]);have h2:=hops x (by rw[ho];simp[Op.operands]);have h3:=hops y (by rw[ho];simp[Op.operands]);rw[hc] at h1;simp only[conc,rd] at h1;refine⟨if b then a.eval x else a.eval y,?_,?_⟩
 .simp[execOp,ho,h1,asBool]
 .cases b<;>simp_all
theorem Qhj{n:Nat}{x:AV}{e:Option Ent}(hk:alv n x K e):(∃e',e=some e')/\K x {use:=[n]}:=by
 cases e with
 |none=>exact hk.elim
 |some e=>exact⟨⟨e,rfl⟩,hk⟩
theorem Qvi{x:Operand}(ho:o.op= .nilCheck x)(hk:Qgg h K (evO tm x)):Qbp P tm h nx o K:=by
 cases hx:evO tm x<;>rw[hx] at hk<;>try exact hk.elim
 case im d=>
  cases d<;>try exact hk.elim
  all_goals
   refine⟨_,_,OpT.pure (u:=[]) ?_,hk⟩;intro C S a hW _ hops;have h1:=hops x (by rw[ho];simp[Op.operands]);rw[hx] at h1;refine⟨_,?_,h1⟩;simp only[conc,rd] at h1
   first
    |(obtain⟨b,p,vs,T,fr,h1,_⟩:=h1;simp[execOp,ho,h1];done)
    |(obtain⟨v,h1,_⟩:=h1;simp[execOp,ho,h1])
 case ptr n p=>
  obtain⟨⟨e,he⟩,hk⟩:=Qhj hk;refine⟨_,_,OpT.pure (u:=[n]) ?_,hk⟩;intro C S a hW hu hops;have h1:=hops x (by rw[ho];simp[Op.operands]);rw[hx] at h1;refine⟨_,?_,h1⟩;simp only[conc] at h1;obtain⟨l,hl,hv⟩:=h1.2 e (by rw[hu n (by simp),he]);simp[execOp,ho,hv]
 case eptr n i p=>
  obtain⟨⟨e,he⟩,hk⟩:=Qhj hk;refine⟨_,_,OpT.pure (u:=[n]) ?_,hk⟩;intro C S a hW hu hops;have h1:=hops x (by rw[ho];simp[Op.operands]);rw[hx] at h1;refine⟨_,?_,h1⟩;simp only[conc] at h1;obtain⟨l,hl,hv⟩:=h1.2 e (by rw[hu n (by simp),he]);simp[execOp,ho,hv]
theorem snd_unOp{op:UnOp}{T:TypeId}{x:Operand}(ho:o.op= .unOp op T x)(hk:stUn K op (evO tm x)):Qbp P tm h nx o K:=by
 cases hx:evO tm x<;>rw[hx] at hk<;>cases op<;>try exact hk.elim
 all_goals
  rename_i d;cases d<;>try exact hk.elim
 all_goals
  refine⟨_,_,OpT.pure (u:=[]) ?_,hk⟩;intro C S a hW _ hops;have h1:=hops x (by rw[ho];simp[Op.operands]);rw[hx] at h1;simp only[conc,rd] at h1;refine⟨_,by simp[execOp,ho,h1,Op.unary,Op.intArith];rfl,by simp only[conc,rd]⟩
theorem Qyh{x:Operand}{i:Nat}(ho:o.op= .extract x i)(hk:Qgf i K (evO tm x)):Qbp P tm h nx o K:=by
 cases hx:evO tm x<;>rw[hx] at hk<;>try exact hk.elim
 case im d=>
  cases d<;>try exact hk.elim
  rename_i cs;simp only[Qgf] at hk;cases hi:cs[i]? with
  |none=>rw[hi] at hk;exact hk.elim
  |some d=>
   rw[hi] at hk;refine⟨_,_,OpT.pure (u:=[]) ?_,hk⟩;intro C S a hW _ hops;have h1:=hops x (by rw[ho];simp[Op.operands]);rw[hx] at h1;simp only[conc,rd] at h1;obtain⟨vs,h1,h2⟩:=h1;have key: ∀(i:Nat) (cs:List D) (vs:List Value),rdl S.ok S.hp cs vs->cs[i]? =some d-> ∃v,vs[i]? =some v/\rd S.ok S.hp d v:=by
    intro i;induction i with
    |zero=>
     intro cs vs h hi;cases cs with
     |nil=>simp at hi
     |cons c cs=>simp at hi;subst hi;simp only[rdl] at h;obtain⟨v,r,rfl,h1,_⟩:=h;exact⟨v,by simp,h1⟩
    |succ i ih=>
     intro cs vs h hi;cases cs with
     |nil=>simp at hi
     |cons c cs=>simp at hi;simp only[rdl] at h;obtain⟨v,r,rfl,_,h2⟩:=h;simpa using ih cs r h2 hi
   obtain⟨v,hv,hd⟩:=key i cs vs.toList h2 hi;refine⟨v,?_,by simpa only[conc] using hd⟩;simp at hv;simp[execOp,ho,h1,Instr.extract,hv]
 case tup cs=>
  simp only[Qgf] at hk;cases hi:cs[i]? with
  |none=>rw[hi] at hk;exact hk.elim
  |some d=>
   rw[hi] at hk;refine⟨_,_,OpT.pure (u:=[]) ?_,hk⟩;intro C S a hW _ hops;have h1:=hops x (by rw[ho];simp[Op.operands]);rw[hx] at h1;simp only[conc] at h1;obtain⟨vs,h1,h2⟩:=h1;have key: ∀(i:Nat) (cs:List AV) (vs:List Value),Qa0 S cs vs->cs[i]? =some d-> ∃v,vs[i]? =some v/\conc S d v:=by
    intro i;induction i with
    |zero=>
     intro cs vs h hi;cases cs with
     |nil=>simp at hi
     |cons c cs=>simp at hi;subst hi;simp only[Qa0] at h;obtain⟨v,r,rfl,h1,_⟩:=h;exact⟨v,by simp,h1⟩
    |succ i ih=>
     intro cs vs h hi;cases cs with
     |nil=>simp at hi
     |cons c cs=>simp at hi;simp only[Qa0] at h;obtain⟨v,r,rfl,_,h2⟩:=h;simpa using ih cs r h2 hi
   obtain⟨v,hv,hd⟩:=key i cs vs.toList h2 hi;refine⟨v,?_,hd⟩;simp at hv;simp[execOp,ho,h1,Instr.extract,hv]
end
section
variable {P:Program}{tm:List (Nat×AV)}{h:Nat->Option Ent}{nx:Nat}{o:Oper}{K:Kont}
theorem Qey{T:TypeId}{ti:TI}(hT:tI P T=some ti){w:World}{b p:Nat}{vs:Array Value}{U:TypeId}{fr:Nat×Nat}
 (hb:w.heap[b]? =some (.cells vs U fr))(hn:ti.size<=(vs.toList.drop p).length)(hs:ti.agg=true\/ti.size=1):
 (loadVar T ⟨b,p,none⟩).run P w= .ok (if ti.agg then .agg ((vs.toList.drop p).take ti.size).toArray else ((vs.toList.drop p).take ti.size).headD undef) w:=by
 have hcs: ∀j v,((vs.toList.drop p).take ti.size)[j]? =some v->w.cell? ((⟨b,p,none⟩:Addr).add j)=some v:=by
  intro j v hj;rw[Qdh,Qyp hb];rw[ZcB] at hj;split at hj
  .rw[Zbz] at hj;simpa using hj
  .cases hj
 have hl:((vs.toList.drop p).take ti.size).length=ti.size:=by rw[Zau];omega
 have hrun:=run_loadCells_list (P:=P) w ⟨b,p,none⟩ _ hcs;rw[hl] at hrun;unfold loadVar;cases ha:ti.agg with
 |true=>simp[Qsu hT,ha,Qca hT,hrun]
 |false=>
  have h1:ti.size=1:=by simpa[ha] using hs
  obtain⟨v,hv⟩: ∃v,(vs.toList.drop p).take ti.size=[v]:=by
   rw[h1] at hl⊢;exact ZdR.1 hl
  have:=hcs 0 v (by rw[hv];rfl)
  rw[Qdh] at this;rw[hv];simp[Qsu hT,ha,run_load];simp at this;rw[this]
theorem Qaaa{ok:Nat->Prop}{hp:Nat->Option Obj}{ti:TI}{ds:List D}{vs:List Value}(h1:rdl ok hp ds vs)(h2:ds.length=ti.size)(hs:ti.agg=true\/ti.size=1):
 rd ok hp (mkD ti.agg ds) (if ti.agg then .agg vs.toArray else vs.headD undef):=by
 cases ha:ti.agg with
 |true=>simp only[mkD,Zbf,ZaQ,rd];exact⟨_,rfl,h1⟩
 |false=>
  have h3:ti.size=1:=by simpa[ha] using hs
  rw[h3] at h2;obtain⟨d,rfl⟩:=ZdR.1 h2;simp only[rdl] at h1;obtain⟨v,r,rfl,h4,h5⟩:=h1;simpa[mkD,hdD] using h4
theorem Qj6{S:Env}{ti:TI}{ds:List AV}{vs:List Value}(h1:Qa0 S ds vs)(h2:ds.length=ti.size)(hs:ti.agg=true\/ti.size=1):
 conc S (mkV ti.agg ds) (if ti.agg then .agg vs.toArray else vs.headD undef):=by
 cases ha:ti.agg with
 |true=>
  simp only[mkV,Zbf,ZaQ];cases hi:Qcr ds with
  |none=>simp only[mkO,conc];exact⟨_,rfl,h1⟩
  |some es=>
   simp only[mkO,conc,rd];rw[Qgl hi] at h1;exact⟨_,rfl,(Qa6 _ _).1 h1⟩
 |false=>
  have h3:ti.size=1:=by simpa[ha] using hs
  rw[h3] at h2;obtain⟨d,rfl⟩:=ZdR.1 h2;simp only[Qa0] at h1;obtain⟨v,r,rfl,h4,h5⟩:=h1;simpa[mkV,hdV] using h4
theorem Qy5{ok:Nat->Prop}{hp:Nat->Option Obj}{k:Nat}: ∀(i:Nat) (rows:List (List D)) (vs:List Value) (row:List D),rdr ok hp k rows vs->rows[i]? =some row->
 row.length=k/\rdp ok hp row (vs.drop (i*k))
 |_,[],_,_,_,hi=>by simp at hi
 |0,r::rs,vs,row,h,hi=>by
  simp at hi;subst hi;simp only[rdr] at h;simpa using ⟨h.1,h.2.1⟩
 |i+1,r::rs,vs,row,h,hi=>by
  simp only[rdr] at h
  have:=Qy5 i rs (vs.drop k) row h.2.2 (by simpa using hi)
  rw[Zbh] at this;rwa [ZbQ,Zct,ZeB]
theorem Qw7{S:Env}{k:Nat}: ∀(i:Nat) (rows:List (List AV)) (vs:List Value) (row:List AV),Qbb S k rows vs->rows[i]? =some row->
 row.length=k/\Qbv S row (vs.drop (i*k))
 |_,[],_,_,_,hi=>by simp at hi
 |0,r::rs,vs,row,h,hi=>by
  simp at hi;subst hi;simp only[Qbb] at h;simpa using ⟨h.1,h.2.1⟩
 |i+1,r::rs,vs,row,h,hi=>by
  simp only[Qbb] at h
  have:=Qw7 i rs (vs.drop k) row h.2.2 (by simpa using hi)
  rw[Zbh] at this;rwa [ZbQ,Zct,ZeB]
theorem snd_load{T:TypeId}{x:Operand}(ho:o.op= .load T x)(hk:Qax (Qrk h (evO tm x) K) (tI P T)):Qbp P tm h nx o K:=by
 cases hT:tI P T with
 |none=>rw[hT] at hk;exact hk.elim
 |some ti=>
  rw[hT] at hk;simp only[Qax,Qrk] at hk;cases hx:evO tm x<;>rw[hx] at hk<;>try exact hk.elim
  case im d=>
   cases d<;>try exact hk.elim
   case ref cs=>
    simp only[Qou,Qnv,Zci,ZbR] at hk;obtain⟨hs,hlen,hk⟩:=hk;refine⟨_,_,OpT.pure (u:=[]) ?_,hk⟩;intro C S a hW _ hops;have h1:=hops x (by rw[ho];simp[Op.operands]);rw[hx] at h1;simp only[conc,rd] at h1;obtain⟨b,p,vs,U,fr,hv,hok,hb,hr⟩:=h1;obtain⟨h2,h3⟩:=Qed ti.size cs _ hr hlen;refine⟨_,?_,by simp only[conc];exact Qaaa h3 (by rw[Zau];omega) hs⟩;simp[execOp,ho,hv,Instr.loadAt,Instr.sureAddr,Qey hT hb h2 hs]
   case gp g=>
    simp only[Qou] at hk;obtain⟨hg,hz,ha,hk⟩:=hk;refine⟨_,_,OpT.pure (u:=[]) ?_,hk⟩;intro C S a hW _ hops;have h1:=hops x (by rw[ho];simp[Op.operands]);rw[hx] at h1;simp only[conc,rd] at h1;obtain⟨hok,t2,x2,T2,fr,hb⟩:=hW.gp.at hg;refine⟨.iface t2 x2,?_,by simp only[conc,rd];exact⟨hok,⟨t2,x2,rfl⟩,T2,fr,hb⟩⟩;have hl:=Qey hT (w:=S.w) (p:=0) hb (by simp[hz]) (.inr hz);simp[execOp,ho,h1,Instr.loadAt,Instr.sureAddr,hl,ha,hz]
  case ptr n p=>
   simp only[Qou] at hk;cases hn:h n with
   |none=>rw[hn] at hk;exact hk.elim
   |some e=>
    rw[hn] at hk;obtain⟨m,e⟩:=e;cases e<;>try exact hk.elim
    case cells U cs=>
     simp only[ldPtr,Qwr] at hk;obtain⟨hs,hlen,hk⟩:=hk;refine⟨_,_,OpT.pure (u:=[n]) ?_,hk⟩;intro C S a hW hu hops;have h1:=hops x (by rw[ho];simp[Op.operands]);have hSn:S.h n=some (m,.cells U cs):=(hu n (by simp)).trans hn;rw[hx] at h1;simp only[conc] at h1;obtain⟨l,hl,hv⟩:=h1.2 _ hSn;have ho1:=hW.obj _ _ hSn;simp only[objc] at ho1;obtain⟨lc,vs,hlc,hp0,hb,hcs⟩:=ho1;rw[hl] at hlc;obtain rfl:=Zac hlc;have h2:=Qex p cs _ (Qci _ _ hcs) (by omega);obtain⟨h3,h4⟩:=Qc8 ti.size _ _ h2 (by rw[ZaH];omega);refine⟨_,?_,Qj6 h4 (by rw[Zau,ZaH];omega) hs⟩;simp[execOp,ho,hv,hp0,Instr.loadAt,Instr.sureAddr,Qey hT hb h3 hs]
    case view cs=>
     simp only[ldPtr,Qnv] at hk;obtain⟨hs,hlen,hk⟩:=hk;refine⟨_,_,OpT.pure (u:=[n]) ?_,hk⟩;intro C S a hW hu hops;have h1:=hops x (by rw[ho];simp[Op.operands]);have hSn:S.h n=some (m,.view cs):=(hu n (by simp)).trans hn;rw[hx] at h1;simp only[conc] at h1;obtain⟨l,hl,hv⟩:=h1.2 _ hSn;have ho1:=hW.obj _ _ hSn;simp only[objc] at ho1;obtain⟨lc,vs,U,fr,hlc,hb,hcs⟩:=ho1;rw[hl] at hlc;obtain rfl:=Zac hlc;have h2:=Qea p _ _ hcs (by omega);obtain⟨h3,h4⟩:=Qed ti.size _ _ h2 (by rw[ZaH];omega);rw[Zbh] at h3 h4;refine⟨_,?_,by simp only[conc];exact Qaaa h4 (by rw[Zau,ZaH];omega) hs⟩;simp[execOp,ho,hv,Instr.loadAt,Instr.sureAddr,Qey hT hb h3 hs]
  case eptr n i p=>
   simp only[Qou] at hk;cases hn:h n with
   |none=>rw[hn] at hk;exact hk.elim
   |some e=>
    rw[hn] at hk;obtain⟨m,e⟩:=e;cases e<;>try exact hk.elim
    case arr U k rows=>
     simp only[ldElt,Qi9,Qnv] at hk;obtain⟨hi,hk⟩:=hk;obtain⟨hs,hlen,hk⟩:=hk rows[i] (Zad hi);refine⟨_,_,OpT.pure (u:=[n]) ?_,hk⟩;intro C S a hW hu hops;have h1:=hops x (by rw[ho];simp[Op.operands]);have hSn:S.h n=some (m,.arr U k rows):=(hu n (by simp)).trans hn;rw[hx] at h1;simp only[conc] at h1;obtain⟨l,hl,hv⟩:=h1.2 _ hSn;have ho1:=hW.obj _ _ hSn;rw[hl] at ho1;simp only[objc] at ho1;obtain⟨_,hcap,vs,hb,hsz,hr⟩:=ho1;obtain⟨hrl,hrow⟩:=Qy5 i rows _ _ hr (Zad hi);have h2:=Qea p _ _ hrow (by omega);obtain⟨h3,h4⟩:=Qed ti.size _ _ h2 (by rw[ZaH];omega);rw[Zbh,Zbh,<-ZcC] at h3 h4;refine⟨_,?_,by simp only[conc];exact Qaaa h4 (by rw[Zau,ZaH];omega) hs⟩;simp only[AObj.esz] at hv;simp[execOp,ho,hv,Instr.loadAt,Instr.sureAddr,Qey hT hb h3 hs]
    case arrA U k rows=>
     simp only[ldElt,Qi9,Qwr] at hk;obtain⟨hi,hk⟩:=hk;obtain⟨hs,hlen,hk⟩:=hk rows[i] (Zad hi);refine⟨_,_,OpT.pure (u:=[n]) ?_,hk⟩;intro C S a hW hu hops;have h1:=hops x (by rw[ho];simp[Op.operands]);have hSn:S.h n=some (m,.arrA U k rows):=(hu n (by simp)).trans hn;rw[hx] at h1;simp only[conc] at h1;obtain⟨l,hl,hv⟩:=h1.2 _ hSn;have ho1:=hW.obj _ _ hSn;rw[hl] at ho1;simp only[objc] at ho1;obtain⟨_,hcap,vs,hb,hsz,hr⟩:=ho1;obtain⟨hrl,hrow⟩:=Qw7 i rows _ _ hr (Zad hi);have h2:=Qex p _ _ hrow (by omega);obtain⟨h3,h4⟩:=Qc8 ti.size _ _ h2 (by rw[ZaH];omega);rw[Zbh,Zbh,<-ZcC] at h3 h4;refine⟨_,?_,Qj6 h4 (by rw[Zau,ZaH];omega) hs⟩;simp only[AObj.esz] at hv;simp[execOp,ho,hv,Instr.loadAt,Instr.sureAddr,Qey hT hb h3 hs]
theorem Qi5{u:TypeDesc}(P:Program):(∃fields:Array Field,u= .struct fields/\(fields.toList.all fun f=>(P.info? f.type).isSome)=true/\
 tkOf P u= .struct (fields.toList.map fun f=>(f.offset,((P.info? f.type).map (·.size)).getD 0)))\/
 (∃fields,u= .struct fields/\tkOf P u= .other)\/(∀fields,u≠ .struct fields):=by
 cases u<;>try (right;right;intro f hf;cases hf;done)
 rename_i fields;cases hh:(fields.toList.all fun f=>(P.info? f.type).isSome) with
 |true=>left;exact⟨fields,rfl,hh,by simp only[tkOf,hh,Zbf]⟩
 |false=>right;left;exact⟨fields,rfl,by simp only[tkOf,hh,ZaS]⟩
theorem Qut{T:TypeId}{ti:TI}(hT:tI P T=some ti){fs:List (Nat×Nat)}(hf:ti.kind= .struct fs):
 ∃fields,P.underlying T=some (.struct fields)/\(fields.toList.all fun f=>(P.info? f.type).isSome)=true/\fs=fields.toList.map fun f=>(f.offset,((P.info? f.type).map (·.size)).getD 0):=by
 obtain⟨i,u,hi,hu,h1,h2,h3,h4,h5⟩:=Qej hT;rw[hf] at h4;rcases Qi5 P (u:=u) with ⟨fields,rfl,hall,he⟩|⟨fields,rfl,he⟩|hne
 .rw[he] at h4;exact⟨fields,hu,hall,by simpa using h4⟩
 .rw[he] at h4;cases h4
 .cases u<;>simp only[tkOf,reduceCtorEq] at h4;exact absurd rfl (hne _)
def Qmg(u:TypeDesc):TK->Prop
 | .int k=>u= .int k
 | .str=>u= .string
 | .bool=>u= .bool
 | .ptr e=>u= .pointer e
 |_=>True
theorem tkOf_back(P:Program)(u:TypeDesc):Qmg u (tkOf P u):=by
 cases u<;>try (simp only[tkOf,Qmg];done)
 rename_i fields;cases hh:(fields.toList.all fun f=>(P.info? f.type).isSome)<;>simp only[tkOf,hh,Zbf,ZaS,Qmg]
theorem Qr8{T:TypeId}{ti:TI}(hT:tI P T=some ti): ∃u,P.underlying T=some u/\Qmg u ti.kind:=by
 obtain⟨i,u,hi,hu,h1,h2,h3,h4,h5⟩:=Qej hT;exact⟨u,hu,h4▸tkOf_back P u⟩
theorem tk_int{T:TypeId}{ti:TI}(hT:tI P T=some ti){k:IntKind}(hf:ti.kind= .int k):P.underlying T=some (.int k):=by
 obtain⟨u,hu,hb⟩:=Qr8 hT;rw[hf] at hb;simp only[Qmg] at hb;rw[hu,hb]
theorem Qafr{T:TypeId}{ti:TI}(hT:tI P T=some ti)(hf:ti.kind= .str):P.underlying T=some .string:=by
 obtain⟨u,hu,hb⟩:=Qr8 hT;rw[hf] at hb;simp only[Qmg] at hb;rw[hu,hb]
theorem tk_bool{T:TypeId}{ti:TI}(hT:tI P T=some ti)(hf:ti.kind= .bool):P.underlying T=some .bool:=by
 obtain⟨u,hu,hb⟩:=Qr8 hT;rw[hf] at hb;simp only[Qmg] at hb;rw[hu,hb]
theorem tk_ptr{T e:TypeId}{ti:TI}(hT:tI P T=some ti)(hf:ti.kind= .ptr e):P.underlying T=some (.pointer e):=by
 obtain⟨u,hu,hb⟩:=Qr8 hT;rw[hf] at hb;simp only[Qmg] at hb;rw[hu,hb]
theorem Qjn{T:TypeId}{ti:TI}(hT:tI P T=some ti){fs:List (Nat×Nat)}(hf:ti.kind= .struct fs){f off sz:Nat}(hi:fs[f]? =some (off,sz))(hz:sz≠0)
 (w:World)(b p:Nat):(Instr.fieldAt T (.pointer (some ⟨b,p,none⟩)) f).run P w= .ok (.pointer (some ⟨b,p+off,none⟩)) w:=by
 obtain⟨fields,hu,_,rfl⟩:=Qut hT hf;rw[ZaN] at hi;cases hfe:fields.toList[f]? with
 |none=>rw[hfe] at hi;simp at hi
 |some fd=>
  rw[hfe] at hi;simp only[ZaO,Zae,Zbg] at hi;obtain⟨rfl,rfl⟩:=hi;have hfe':fields[f]? =some fd:=by simpa using hfe
  cases hin:P.info? fd.type with
  |none=>rw[hin] at hz;simp at hz
  |some inf=>
   rw[hin] at hz;simp only[ZaO,Zag] at hz;simp[Instr.fieldAt,underlying,hu,hfe',Instr.sureAddr,fieldPlace,sizeOf,typeInfo,hin,hz,Qdh]
theorem Qsq{T:TypeId}{x:Operand}{f:Nat}(ho:o.op= .fieldAddr T x f)(hk:Qax (Qhg h (evO tm x) f K) (tI P T)):Qbp P tm h nx o K:=by
 cases hT:tI P T with
 |none=>rw[hT] at hk;exact hk.elim
 |some ti=>
  rw[hT] at hk;simp only[Qax,Qhg] at hk;cases hf:ti.kind<;>rw[hf] at hk<;>try exact hk.elim
  rename_i fs;simp only[faK] at hk;cases hi:fs[f]? with
  |none=>rw[hi] at hk;exact hk.elim
  |some q=>
   obtain⟨off,sz⟩:=q;rw[hi] at hk;simp only[faOf] at hk;obtain⟨hz,hk⟩:=hk;cases hx:evO tm x<;>rw[hx] at hk<;>try exact hk.elim
   case im d=>
    cases d<;>try exact hk.elim
    rename_i cs;simp only[faAt] at hk;obtain⟨hlen,hk⟩:=hk;refine⟨_,_,OpT.pure (u:=[]) ?_,hk⟩;intro C S a hW _ hops;have h1:=hops x (by rw[ho];simp[Op.operands]);rw[hx] at h1;simp only[conc,rd] at h1;obtain⟨b,p,vs,U,fr,hv,hok,hb,hr⟩:=h1;refine⟨_,by simp[execOp,ho,hv,Qjn hT hf hi hz];rfl,?_⟩;simp only[conc,rd]
    have:=Qea off _ _ hr hlen
    rw[Zbh] at this;exact⟨b,p+off,vs,U,fr,rfl,hok,hb,this⟩
   case ptr n p=>
    simp only[faAt] at hk;obtain⟨⟨e,he⟩,hk⟩:=Qhj hk;refine⟨_,_,OpT.pure (u:=[n]) ?_,hk⟩;intro C S a hW hu hops;have h1:=hops x (by rw[ho];simp[Op.operands]);rw[hx] at h1;simp only[conc] at h1;have hS:S.h n=some e:=(hu n (by simp)).trans he;obtain⟨l,hl,hv⟩:=h1.2 e hS;refine⟨_,by simp[execOp,ho,hv,Qjn hT hf hi hz];rfl,?_⟩;simp only[conc];refine⟨rfl,fun e' he'=>⟨l,hl,by rw[ZcC]⟩⟩
   case eptr n i p=>
    simp only[faAt] at hk;obtain⟨⟨e,he⟩,hk⟩:=Qhj hk;refine⟨_,_,OpT.pure (u:=[n]) ?_,hk⟩;intro C S a hW hu hops;have h1:=hops x (by rw[ho];simp[Op.operands]);rw[hx] at h1;simp only[conc] at h1;have hS:S.h n=some e:=(hu n (by simp)).trans he;obtain⟨l,hl,hv⟩:=h1.2 e hS;refine⟨_,by simp[execOp,ho,hv,Qjn hT hf hi hz];rfl,?_⟩;simp only[conc];refine⟨rfl,fun e' he'=>⟨l,hl,?_⟩⟩;rw[hS] at he';obtain rfl:=Zac he';rw[ZcC]
theorem Qdq{T:TypeId}{ti:TI}(hT:tI P T=some ti){e:TypeId}(hf:ti.kind= .slice e):P.underlying T=some (.slice e):=by
 obtain⟨i,u,hi,hu,h1,h2,h3,h4,h5⟩:=Qej hT;rw[hf] at h4;rcases Qi5 P (u:=u) with ⟨fields,rfl,hall,he⟩|⟨fields,rfl,he⟩|hne
 .rw[he] at h4;cases h4
 .rw[he] at h4;cases h4
 cases u<;>simp only[tkOf,TK.slice.injEq,reduceCtorEq] at h4;rotate_left
 .exact absurd rfl (hne _)
 rw[h4];exact hu
theorem Qs2{T:TypeId}{ti:TI}(hT:tI P T=some ti){n:Nat}{e:TypeId}(hf:ti.kind= .array n e):P.underlying T=some (.array n e):=by
 obtain⟨i,u,hi,hu,h1,h2,h3,h4,h5⟩:=Qej hT;rw[hf] at h4;rcases Qi5 P (u:=u) with ⟨fields,rfl,hall,he⟩|⟨fields,rfl,he⟩|hne
 .rw[he] at h4;cases h4
 .rw[he] at h4;cases h4
 cases u<;>simp only[tkOf,TK.array.injEq,reduceCtorEq] at h4;rotate_left
 .exact absurd rfl (hne _)
 obtain⟨rfl,rfl⟩:=h4;exact hu
theorem Qqw{T:TypeId}{ti:TI}(hT:tI P T=some ti){n:TypeId}{e:TypeId}(hf:ti.kind= .map n e):P.underlying T=some (.map n e):=by
 obtain⟨i,u,hi,hu,h1,h2,h3,h4,h5⟩:=Qej hT;rw[hf] at h4;rcases Qi5 P (u:=u) with ⟨fields,rfl,hall,he⟩|⟨fields,rfl,he⟩|hne
 .rw[he] at h4;cases h4
 .rw[he] at h4;cases h4
 cases u<;>simp only[tkOf,TK.map.injEq,reduceCtorEq] at h4;rotate_left
 .exact absurd rfl (hne _)
 obtain⟨rfl,rfl⟩:=h4;exact hu
theorem Qsk{T:TypeId}{x i:Operand}(ho:o.op= .indexAddr T x i)(hk:Qax (Qfq P h (evO tm x) (evO tm i) K) (tI P T)):Qbp P tm h nx o K:=by
 cases hT:tI P T with
 |none=>rw[hT] at hk;exact hk.elim
 |some ti=>
  rw[hT] at hk;simp only[Qax,Qfq] at hk;cases hi:evO tm i<;>rw[hi] at hk<;>try exact hk.elim
  rename_i d;cases d<;>try exact hk.elim
  rename_i ik n;simp only[Qjp] at hk;cases hf:ti.kind<;>rw[hf] at hk<;>try exact hk.elim
  case slice e=>
   have hund:=Qdq hT hf;simp only[iaK] at hk;cases hE:tI P e with
   |none=>rw[hE] at hk;exact hk.elim
   |some te=>
    rw[hE] at hk;simp only[Qax,iaSl] at hk;cases hx:evO tm x<;>rw[hx] at hk<;>try exact hk.elim
    case im d=>
     cases d<;>try exact hk.elim
     rename_i nz k rows;obtain⟨hkz,h0,hn,hk⟩:=hk;have hlt:n.toNat<rows.length:=by omega
     have hk:=hk rows[n.toNat] (Zad hlt);refine⟨_,_,OpT.pure (u:=[]) ?_,hk⟩;intro C S a hW _ hops;have h1:=hops x (by rw[ho];simp[Op.operands]);have h2:=hops i (by rw[ho];simp[Op.operands]);rw[hx] at h1;rw[hi] at h2;simp only[conc,rd] at h1 h2;rcases h1 with ⟨_,hnil⟩|⟨b,p,cap,vs,U,fr,hv,_,_,_,hok,hb,hr⟩
     .rw[hnil] at hlt;simp at hlt
     obtain⟨hrl,hrow⟩:=Qy5 n.toNat rows _ _ hr (Zad hlt);rw[Zbh] at hrow;refine⟨.pointer (some ⟨b,p+n.toNat*k,none⟩),?_,?_⟩
     .simp[execOp,ho,h2,hv,Instr.indexAt,asIntOf,underlying,hund,h0,hn,Qca hE,Qdh,hkz]
     .simp only[conc,rd];exact⟨b,_,vs,U,fr,rfl,hok,hb,hrow⟩
    case own m=>
     change iaObj m n K te (h m) at hk;cases hm:h m with
     |none=>rw[hm] at hk;exact hk.elim
     |some q=>
      rw[hm] at hk;obtain⟨mu,q⟩:=q;have key: ∃k len,q.esz=k/\q.len=len/\k=te.size/\0<=n/\n<(len:Int)/\K (.eptr m n.toNat 0) {use:=[m]}:=by
       cases q<;>try exact hk.elim
       all_goals exact⟨_,_,rfl,rfl,hk⟩
      obtain⟨k,len,hesz,hlen,hkz,h0,hn,hk⟩:=key;refine⟨_,_,OpT.pure (u:=[m]) ?_,hk⟩;intro C S a hW hu hops;have h1:=hops x (by rw[ho];simp[Op.operands]);have h2:=hops i (by rw[ho];simp[Op.operands]);rw[hx] at h1;rw[hi] at h2;have hS:S.h m=some (mu,q):=(hu m (by simp)).trans hm;simp only[conc,rd] at h1 h2;have h3:=h1.2 _ hS;cases hl:S.ρ m with
      |none=>
       exfalso;have ho1:=hW.obj _ _ hS;rw[hl] at ho1
       have:q.len=0:=by
        cases q<;>simp only[objc] at ho1<;>simp[AObj.len]<;>(try exact ho1.2)
       omega
      |some l=>
       rw[hl] at h3;simp only at h3;refine⟨.pointer (some ⟨l.b,l.p+n.toNat*k,none⟩),?_,?_⟩
       .rw[hlen] at h3;simp[execOp,ho,h2,h3,Instr.indexAt,asIntOf,underlying,hund,h0,hn,Qca hE,Qdh,hkz]
       .simp only[conc];refine⟨rfl,fun e' he'=>⟨l,hl,?_⟩⟩;rw[hS] at he';obtain rfl:=Zac he';simp[hesz]
  case array m e=>
   have hund:=Qs2 hT hf;simp only[iaK] at hk;cases hE:tI P e with
   |none=>rw[hE] at hk;exact hk.elim
   |some te=>
    rw[hE] at hk;simp only[Qax,iaArr] at hk;cases hx:evO tm x<;>rw[hx] at hk<;>try exact hk.elim
    case im d=>
     cases d<;>try exact hk.elim
     rename_i cs;obtain⟨h0,hn,hlen,hk⟩:=hk;refine⟨_,_,OpT.pure (u:=[]) ?_,hk⟩;intro C S a hW _ hops;have h1:=hops x (by rw[ho];simp[Op.operands]);have h2:=hops i (by rw[ho];simp[Op.operands]);rw[hx] at h1;rw[hi] at h2;simp only[conc,rd] at h1 h2;obtain⟨b,p,vs,U,fr,hv,hok,hb,hr⟩:=h1;have hrow:=Qea (n.toNat*te.size) _ _ hr hlen;rw[Zbh] at hrow;refine⟨.pointer (some ⟨b,p+n.toNat*te.size,none⟩),?_,?_⟩
     .simp[execOp,ho,h2,hv,Instr.indexAt,asIntOf,underlying,hund,h0,hn,Qca hE,Qdh,Instr.sureAddr]
     .simp only[conc,rd];exact⟨b,_,vs,U,fr,rfl,hok,hb,hrow⟩
    case ptr q p=>
     obtain⟨h0,hn,hk⟩:=hk;obtain⟨⟨e',he'⟩,hk⟩:=Qhj hk;refine⟨_,_,OpT.pure (u:=[q]) ?_,hk⟩;intro C S a hW hu hops;have h1:=hops x (by rw[ho];simp[Op.operands]);have h2:=hops i (by rw[ho];simp[Op.operands]);rw[hx] at h1;rw[hi] at h2;have hS:S.h q=some e':=(hu q (by simp)).trans he';simp only[conc,rd] at h1 h2;obtain⟨l,hl,hv⟩:=h1.2 _ hS;refine⟨.pointer (some ⟨l.b,l.p+p+n.toNat*te.size,none⟩),?_,?_⟩
     .simp[execOp,ho,h2,hv,Instr.indexAt,asIntOf,underlying,hund,h0,hn,Qca hE,Qdh,Instr.sureAddr]
     .simp only[conc];exact⟨rfl,fun _ _=>⟨l,hl,by rw[ZcC]⟩⟩
end
def Env.ice(S:Env)(X:Nat->Bool):Env:=⟨S.ρ,fun b=>S.ok b\/ ∃o e l,X o=false/\S.h o=some e/\e.2.isView=false/\S.ρ o=some l/\l.b=b,fun o=>(S.h o).map fun e=>(e.1 && X o,e.2),S.w⟩
theorem Qec{S:Env}{X:Nat->Bool}{o:Nat}{e':Ent}(h:(S.ice X).h o=some e'): ∃e,S.h o=some e/\e'=(e.1 && X o,e.2):=by
 simp only[Env.ice,Zay] at h;obtain⟨e,he,rfl⟩:=h;exact⟨e,he,rfl⟩
theorem Qb0(S:Env)(X:Nat->Bool):Pres (fun _=>True) S (S.ice X):=by
 refine⟨fun b hb=>⟨.inl hb,rfl⟩,?_⟩;intro o _ e' he';obtain⟨e,he,rfl⟩:=Qec he';exact⟨e,he,rfl,rfl,rfl⟩
theorem Qje{C:Ctx}{S:Env}{X:Nat->Bool}(hW:Wf C S):Wf C (S.ice X):=by
 have hp:=Qb0 S X;refine⟨hW.os,hW.tape,hW.output,hW.size,hW.keep,fun b hb=> .inl (hW.ok0 b hb),?_,?_,?_,?_,?_,hW.gl⟩
 .rintro b (hb|⟨o,e,l,_,he,hv,hl,rfl⟩)
  .exact hW.ok1 b hb
  .obtain⟨_,h2⟩:=hW.loc o e l he hl;cases hm:e.1 with
   |false=>rw[hm,hv] at h2;exact hW.ok1 _ (by simpa using h2)
   |true=>
    rw[hm] at h2;simp only[ZaQ] at h2;exact .inr h2.2
 .rintro b (hb|⟨o,e,l,_,he,_,hl,rfl⟩)
  .exact hW.oks b hb
  .exact (hW.loc o e l he hl).1
 .intro o e' he';obtain⟨e,he,rfl⟩:=Qec he';exact Qbr hp (fun _ _=>rfl) _ (fun _ _=>trivial) (hW.obj o e he)
 .intro o e' l he' hl;obtain⟨e,he,rfl⟩:=Qec he';obtain⟨h1,h2⟩:=hW.loc o e l he hl;refine⟨h1,?_⟩;cases hX:X o with
  |false=>
   simp only[ZdA,ZaB,Zby];cases hv:e.2.isView with
   |true=>exact .inr rfl
   |false=>exact .inl (.inr ⟨o,e,l,hX,he,hv,hl,rfl⟩)
  |true=>
   cases hm:e.1 with
   |false=>
    rw[hm] at h2;simp only[Zbu,ZaB,Zby] at h2⊢;exact h2.imp .inl id
   |true=>
    rw[hm] at h2;simp only[Zee,ZaQ] at h2⊢;refine⟨?_,h2.2⟩;rintro (hb|⟨o',e',l',hX',he',_,hl',hb⟩)
    .exact h2.1 hb
    .have:=hW.inj o' o e' e l' l he' he hl' hl hb (by simp[hm])
     subst this;rw[hX] at hX';cases hX'
 .intro o o' e1 e2 l l' h1 h2 hl hl' hb hfl;obtain⟨e,he,q1⟩:=Qec h1;obtain⟨e',he',q2⟩:=Qec h2;refine hW.inj o o' e e' l l' he he' hl hl' hb ?_;subst q1 q2;simp only[ZbX,Zah] at hfl⊢;exact hfl.imp And.left And.left
theorem Qqe{C:Ctx}{S:Env}(hW:Wf C S){X:Nat->Bool}{o:Nat}{e:Ent}{l:Loc}(hX:X o=false)(he:(S.ice X).h o=some e)(hv:e.2.isView=false)(hl:(S.ice X).ρ o=some l):(S.ice X).ok l.b:=by
 obtain⟨e0,h1,h2⟩:=Qec he;subst h2;exact .inr ⟨o,e0,l,hX,h1,hv,hl,rfl⟩
theorem ice_appf{S:Env}{F:Qan}{u:List Nat}(hent: ∀n e,(n,e)∈F-> ∃mu,S.h n=some (mu,e.2)/\e.1=false):
 (S.ice fun n=> !(F.map (·.1)).contains n).h=({use:=u,kill:=F.map (·.1),new:=F}:Eff).appf S.h:=by
 funext n;have hg2: ∀(G:Qan) (e:Ent),hget G n=some e->(n,e)∈G:=by
  intro G;induction G with
  |nil=>intro e h;simp[hget] at h
  |cons p G ih=>
   intro e h;obtain⟨q,y⟩:=p;simp only[hget] at h;cases hq:q==n<;>rw[hq] at h
   .exact Zas _ (ih e (by simpa using h))
   .have:q=n:=by simpa using hq
    subst this;simp only[Zbf,Zae] at h;subst h;simp
 have hg1: ∀(G:Qan),hget G n=none->n∉G.map (·.1):=by
  intro G;induction G with
  |nil=>intro _;simp
  |cons p G ih=>
   intro h;obtain⟨q,y⟩:=p;simp only[hget] at h;cases hq:q==n<;>rw[hq] at h
   .have:q≠n:=by simpa using hq
    simp only[Zaq,Zaw,not_or];exact⟨fun h'=>this h'.symm,ih (by simpa using h)⟩
   .simp at h
 simp only[Eff.appf,Env.ice];cases hg:hget F n with
 |some e=>
  have hm:=hg2 F e hg;obtain⟨mu,q1,q2⟩:=hent n e hm;rw[q1]
  have:n∈F.map (·.1):=ZaJ.2 ⟨_,hm,rfl⟩
  rw[Zbq.2 this];obtain⟨e1,e2⟩:=e;simp only at q2;simp[q2]
 |none=>
  have hc:(F.map (·.1)).contains n=false:=by
   rw[Zcg];intro h';exact hg1 F hg (Zbq.1 h')
  rw[hc];simp only[ZaS,ZcJ,ZaX];cases S.h n with
  |none=>rfl
  |some e=>rfl
section
variable {P:Program}{tm:List (Nat×AV)}{h:Nat->Option Ent}{nx:Nat}{o:Oper}{K:Kont}
theorem snd_index{T:TypeId}{x i:Operand}(ho:o.op= .index T x i)(hk:Qax (Qno P (evO tm x) (evO tm i) K) (tI P T)):Qbp P tm h nx o K:=by
 cases hT:tI P T with
 |none=>rw[hT] at hk;exact hk.elim
 |some ti=>
  rw[hT] at hk;simp only[Qax,Qno] at hk;cases hi:evO tm i<;>rw[hi] at hk<;>try exact hk.elim
  rename_i d;cases d<;>try exact hk.elim
  rename_i ik n;simp only[Qxc] at hk;cases hx:evO tm x
  all_goals rw[hx] at hk
  case im d=>
   cases d<;>(try (exfalso;generalize ti.kind=kk at hk;cases kk<;>exact hk))
   case str s=>
    have hk':ti.kind= .str/\0<=n/\n<(s.size:Int)/\ChVC s n.toNat (kCh K):=by generalize ti.kind=kk at hk;cases kk<;>first|exact hk.elim|exact⟨rfl,hk⟩
    obtain⟨hkd,h0,hn,hk⟩:=hk';have hlt:n.toNat<s.data.size:=by show n.toNat<s.size;omega
    have hund:P.underlying T=some .string:=Qafr hT hkd;refine⟨_,_,OpT.pure (u:=[]) ?_,hk s.data[n.toNat] (by simp)⟩;intro C S a hW _ hops;have h1:=hops x (by rw[ho];simp[Op.operands]);have h2:=hops i (by rw[ho];simp[Op.operands]);rw[hx] at h1;rw[hi] at h2;simp only[conc,rd] at h1 h2;have hlt':n.toNat<s.size:=hlt;refine⟨.int .u8 (s.data[n.toNat].toNat),?_,by simp only[conc,rd]⟩;simp[execOp,ho,h2,h1,Instr.index,asIntOf,underlying,hund,h0,hlt'];rfl
   case agg cs=>
    cases hf:ti.kind<;>rw[hf] at hk<;>try exact hk.elim
    rename_i m e;have hund:=Qs2 hT hf;simp only[ixK] at hk;cases hE:tI P e with
    |none=>rw[hE] at hk;exact hk.elim
    |some te=>
     rw[hE] at hk;simp only[Qax,ixArr] at hk;obtain⟨hs,h0,hn,hlen,hk⟩:=hk;refine⟨_,_,OpT.pure (u:=[]) ?_,hk⟩;intro C S a hW _ hops;have h1:=hops x (by rw[ho];simp[Op.operands]);have h2:=hops i (by rw[ho];simp[Op.operands]);rw[hx] at h1;rw[hi] at h2;simp only[conc,rd] at h1 h2;obtain⟨vs,hv,hr⟩:=h1;have h3:=Qea (n.toNat*te.size) _ _ (Qhe _ _ hr) (by omega);obtain⟨h4,h5⟩:=Qed te.size _ _ h3 (by rw[ZaH];omega);refine⟨_,?_,by simp only[conc];exact Qaaa h5 (by rw[Zau,ZaH];omega) hs⟩;cases ha:te.agg with
     |true=>
      simp[execOp,ho,h2,hv,Instr.index,asIntOf,underlying,hund,h0,hn,Qca hE,part,Qsu hE,ha];apply Zei;simp[List.take_drop,ZeB]
     |false=>
      have hsz:te.size=1:=by simpa[ha] using hs
      have hlt:n.toNat*1<vs.toList.length:=by rw[hsz,ZaH] at h4;omega
      have hget:vs[n.toNat*te.size]? =some (vs.toList[n.toNat*1]):=by
       rw[hsz];rw[<-Zbe,Zad hlt]
      simp only[execOp,ho,h2,hv,Instr.index,asIntOf];simp[underlying,hund,h0,hn,Qca hE,part,Qsu hE,ha,hget];rw[hsz];simp at hlt;simp[List.head?_take,List.head?_drop,hlt]
  all_goals (exfalso;generalize ti.kind=kk at hk;cases kk<;>exact hk)
theorem Qwv{S0 T:TypeId}{x:Operand}(ho:o.op= .convert S0 T x)(hk:Qo0 (tkO (tI P T)) (evO tm x) K (tI P S0)):Qbp P tm h nx o K:=by
 cases hS:tI P S0 with
 |none=>rw[hS] at hk;exact hk.elim
 |some si=>
 rw[hS] at hk;simp only[Qo0] at hk;have hS0:(P.underlying S0).isSome:=by
  obtain⟨i,u,hi,hu,_⟩:=Qej hS;rw[hu];rfl
 cases hT:tI P T with
 |none=>rw[hT] at hk;exact hk.elim
 |some ti=>
  rw[hT] at hk;simp only[tkO] at hk;cases hf:ti.kind<;>rw[hf] at hk<;>try exact hk.elim
  rename_i k;cases hx:evO tm x<;>rw[hx] at hk<;>try exact hk.elim
  rename_i d;cases d<;>try exact hk.elim
  rename_i k0 n;simp only[stConv] at hk;have hu:=tk_int hT hf;obtain⟨u0,hu0⟩:=ZeH.1 hS0;refine⟨_,_,OpT.pure (u:=[]) ?_,hk⟩;intro C S a hW _ hops;have h1:=hops x (by rw[ho];simp[Op.operands]);rw[hx] at h1;simp only[conc,rd] at h1;refine⟨.int k (k.wrap n),?_,by simp only[conc,rd]⟩;simp only[execOp,ho,h1];simp only[convert,Sem.run_bind];simp[underlying,hu0,hu,Conv.intToInt]
theorem Qh1{f:FuncId}(hlt:f<1000000000){first capt:Array Operand}(ho:o.op= .makeFunc (.func f) first capt)(hk:K (.clo f (evL tm first.toList) (evL tm capt.toList)) {}):Qbp P tm h nx o K:=by
 refine⟨_,_,OpT.pure (u:=[]) ?_,hk⟩;intro C S a hW _ hops;have key: ∀(l:List Operand),(∀x∈l,conc S (evO tm x) (a.eval x))->Qa0 S (evL tm l) (l.map a.eval):=by
  intro l;induction l with
  |nil=>intro _;simp[evL,Qa0]
  |cons x l ih=>
   intro hl;simp only[evL,Qa0,Zaq];exact⟨_,_,rfl,hl x (by simp),ih (fun y hy=>hl y (by simp[hy]))⟩
 refine⟨.func (fnV f) (first.map a.eval) (capt.map a.eval),by rw[Qoi hlt];simp[execOp,ho,Instr.makeFunc],?_⟩;simp only[conc];refine⟨_,_,rfl,?_,?_⟩
 .rw[Zcw];exact key _ (fun x hx=>hops x (by rw[ho];simp[Op.operands];exact .inl (by simpa using hx)))
 .rw[Zcw];exact key _ (fun x hx=>hops x (by rw[ho];simp[Op.operands];exact .inr (by simpa using hx)))
theorem Qov{S:Env}: ∀(ys:List AV) (ds:List D) (vs:List Value),Qcr ys=some ds->Qa0 S ys vs->rdl S.ok S.hp ds vs
 |[],ds,vs,h,hc=>by
  simp only[Qcr,Zae] at h;subst h;simpa only[rdl,Qa0] using hc
 |y::ys,ds,vs,h,hc=>by
  simp only[Qcr] at h;simp only[Qa0] at hc;obtain⟨v,r,rfl,h1,h2⟩:=hc;cases hy:y.asD with
  |none=>rw[hy] at h;simp[Qlx] at h
  |some d=>
   cases hys:Qcr ys with
   |none=>rw[hy,hys] at h;simp[Qlx] at h
   |some es=>
    rw[hy,hys] at h;simp only[Qlx,Zae] at h;subst h;cases y<;>simp only[AV.asD,reduceCtorEq] at hy;obtain rfl:=Zac hy;simp only[rdl];exact⟨v,r,rfl,by simpa only[conc] using h1,Qov ys es r hys h2⟩
theorem Qse{ok:Nat->Prop}{hp:Nat->Option Obj}: ∀(ds:List D) (vs:List Value),rdl ok hp ds vs->rdp ok hp ds vs
 |[],_,_=>by simp only[rdp]
 |d::ds,vs,h=>by
  simp only[rdl,rdp] at h⊢;obtain⟨v,r,rfl,h1,h2⟩:=h;exact⟨v,r,rfl,h1,Qse ds r h2⟩
theorem Qrs{C:Ctx}{S:Env}(hW:Wf C S){h:Nat->Option Ent}: ∀(xs:List AV) (ds:List D) (E:Qan) (vs:List Value),cpL h xs=some (ds,E)->(∀n∈hnm E,S.h n=h n)->Qa0 S xs vs->
 (∀n e,(n,e)∈E-> ∃mu,S.h n=some (mu,e.2)/\e.1=false)/\ ∀X:Nat->Bool,(∀n∈hnm E,X n=false)->rdl (S.ice X).ok (S.ice X).hp ds vs
 |[],ds,E,vs,h1,_,hc=>by
  simp only[cpL,Zae,Zbg] at h1;obtain⟨rfl,rfl⟩:=h1;exact⟨(fun n e he=>by cases he),(fun X _=>by simpa only[rdl,Qa0] using hc)⟩
 |x::xs,ds,E,vs,h1,hu,hc=>by
  simp only[cpL] at h1;simp only[Qa0] at hc;obtain⟨v,r,rfl,hx,hxs⟩:=hc;cases hd:cpD h x with
  |none=>rw[hd] at h1;simp[cpC] at h1
  |some dE=>
   obtain⟨d,E1⟩:=dE;cases hl:cpL h xs with
   |none=>rw[hd,hl] at h1;simp[cpC] at h1
   |some q=>
    obtain⟨ds',E2⟩:=q;rw[hd,hl] at h1;simp only[cpC,Zae,Zbg] at h1;obtain⟨rfl,rfl⟩:=h1;have happ: ∀(a b:Qan),hnm (a++b)=hnm a++hnm b:=by
     intro a b;induction a with
     |nil=>rfl
     |cons p a ih=>obtain⟨n,e⟩:=p;simp only[ZaA,hnm,ih]
    rw[happ] at hu;obtain⟨i1,i2⟩:=Qrs hW xs ds' E2 r hl (fun n hn=>hu n (ZbD _ hn)) hxs;have key:(∀n e,(n,e)∈E1-> ∃mu,S.h n=some (mu,e.2)/\e.1=false)/\ ∀X:Nat->Bool,(∀n∈hnm E1,X n=false)->rd (S.ice X).ok (S.ice X).hp d v:=by
     cases x<;>try (simp[cpD] at hd;done)
     case im d'=>
      simp only[cpD,Zae,Zbg] at hd;obtain⟨rfl,rfl⟩:=hd;refine⟨(fun n e he=>by cases he),(fun X _=> ?_)⟩;simp only[conc] at hx;exact Qb8 (Qb0 S X).ok _ _ hx
     case ptr o p=>
      cases p with
      |succ p=>simp[cpD] at hd
      |zero=>
       simp only[cpD] at hd;cases ho:h o with
       |none=>rw[ho] at hd;simp[cpO] at hd
       |some e=>
        obtain⟨mu,e⟩:=e;rw[ho] at hd;cases e<;>simp only[cpO,reduceCtorEq] at hd;rename_i T cs;cases ha:Qcr cs with
        |none=>rw[ha] at hd;simp[cpO2] at hd
        |some es=>
         rw[ha] at hd;simp only[cpO2,Zae,Zbg] at hd;obtain⟨rfl,rfl⟩:=hd;have hSo:S.h o=some (mu,.cells T cs):=(hu o (by simp[hnm])).trans ho;refine⟨?_,?_⟩
         .intro n e he;simp only[Zal,Zbg] at he;obtain⟨rfl,rfl⟩:=he;exact⟨mu,hSo,rfl⟩
         .intro X hX;have hob:=hW.obj o _ hSo;simp only[objc] at hob;obtain⟨lc,vs,g1,g2,g3,g4⟩:=hob;simp only[conc] at hx;obtain⟨l,hl',hv⟩:=hx.2 _ hSo;rw[g1] at hl';obtain rfl:=Zac hl';simp only[rd];refine⟨lc.b,lc.p+0,vs,_,_,hv,.inr ⟨o,_,lc,hX o (by simp[hnm]),hSo,rfl,g1,rfl⟩,g3,?_⟩;rw[g2];have g5:=Qov (S:=S) cs es vs.toList ha g4;have g6:=Qcu (Qb0 S X).ok es _ g5;simpa using Qse es _ g6
    refine⟨?_,?_⟩
    .intro n e he;rcases Zan.1 he with he|he
     .exact key.1 n e he
     .exact i1 n e he
    .intro X hX;rw[happ] at hX;simp only[rdl];exact⟨v,r,rfl,key.2 X (fun n hn=>hX n (Zbl _ hn)),i2 X (fun n hn=>hX n (ZbD _ hn))⟩
theorem hnm_get: ∀{E:Qan} {n:Nat},(hget E n=none->n∉hnm E)/\ ∀e,hget E n=some e->(n,e)∈E
 |[],n=>⟨fun _=>by simp[hnm],fun e h=>by simp[hget] at h⟩
 |(q,x)::E,n=>by
  obtain⟨i1,i2⟩:= @hnm_get E n;simp only[hget,hnm];cases hq:q==n
  .have hne:q≠n:=by simpa using hq
   refine⟨fun h=> ?_,fun e h=> ?_⟩
   .simp only[Zaw,not_or];exact⟨fun h'=>hne h'.symm,i1 (by simpa using h)⟩
   .exact Zas _ (i2 e (by simpa using h))
  .have hqn:q=n:=by simpa using hq
   refine⟨fun h=>by simp at h,fun e h=> ?_⟩;simp only[Zbf,Zae] at h;subst h;subst hqn;simp
theorem snd_clo{f:FuncId}(hlt:f<1000000000){first capt:Array Operand}(ho:o.op= .makeFunc (.func f) first capt)
 (hk:Qabp f (evL tm first.toList) (evL tm capt.toList) K (cpL h (evL tm first.toList)) (cpL h (evL tm capt.toList))):Qbp P tm h nx o K:=by
 cases h1:cpL h (evL tm first.toList) with
 |none=>rw[h1] at hk;exact Qh1 hlt ho hk
 |some q1=>
  cases h2:cpL h (evL tm capt.toList) with
  |none=>rw[h1,h2] at hk;exact Qh1 hlt ho hk
  |some q2=>
   obtain⟨a,E⟩:=q1;obtain⟨b,F⟩:=q2;rw[h1,h2] at hk;simp only[Qabp] at hk;have main:K (.im (.fn f a b)) {use:=hnm (E++F),kill:=hnm (E++F),new:=E++F}->Qbp P tm h nx o K:=by
    intro hk;refine⟨_,_,?_,hk⟩;intro C S ac next Q hW hu hfr hnm' hops hn
    have keyc: ∀(l:List Operand),(∀x∈l,conc S (evO tm x) (ac.eval x))->Qa0 S (evL tm l) (l.map ac.eval):=by
     intro l;induction l with
     |nil=>intro _;simp[evL,Qa0]
     |cons x l ih=>
      intro hl;simp only[evL,Qa0,Zaq];exact⟨_,_,rfl,hl x (by simp),ih (fun y hy=>hl y (by simp[hy]))⟩
    have happ: ∀(a b:Qan),hnm (a++b)=hnm a++hnm b:=by
     intro a b;induction a with
     |nil=>rfl
     |cons p a ih=>obtain⟨n,e⟩:=p;simp only[ZaA,hnm,ih]
    have hu': ∀n∈hnm (E++F),S.h n=h n:=fun n hn=>hu n (by simpa using hn)
    have c1:=keyc first.toList (fun x hx=>hops x (by rw[ho];simp[Op.operands];exact .inl (by simpa using hx)))
    have c2:=keyc capt.toList (fun x hx=>hops x (by rw[ho];simp[Op.operands];exact .inr (by simpa using hx)));obtain⟨s1,s2⟩:=Qrs hW _ a E _ h1 (fun n hn=>hu' n (by rw[happ];exact Zbl _ hn)) c1;obtain⟨t1,t2⟩:=Qrs hW _ b F _ h2 (fun n hn=>hu' n (by rw[happ];exact ZbD _ hn)) c2
    let X:Nat->Bool:=fun n=> !(hnm (E++F)).contains n
    have hX: ∀n∈hnm (E++F),X n=false:=by
     intro n hn;simp only[X,Zbq.2 hn,ZdM]
    have hent: ∀n e,(n,e)∈E++F-> ∃mu,S.h n=some (mu,e.2)/\e.1=false:=by
     intro n e he;rcases Zan.1 he with he|he
     .exact s1 n e he
     .exact t1 n e he
    have hice:(S.ice X).h=({use:=hnm (E++F),kill:=hnm (E++F),new:=E++F}:Eff).appf S.h:=by
     funext n;simp only[Eff.appf,Env.ice];obtain⟨g1,g2⟩:= @hnm_get (E++F) n;cases hg:hget (E++F) n with
     |some e=>
      have hm:=g2 e hg;obtain⟨mu,q1,q2⟩:=hent n e hm;rw[q1];simp only[ZaO]
      have:n∈hnm (E++F):=by
       have: ∀(G:Qan),(n,e)∈G->n∈hnm G:=by
        intro G;induction G with
        |nil=>intro h;cases h
        |cons p G ih=>
         intro h;rcases Zaw.1 h with h'|h'
         .subst h';simp[hnm]
         .obtain⟨q,y⟩:=p;simp only[hnm,Zaw];exact .inr (ih h')
       exact this _ hm
      rw[hX n this];obtain⟨e1,e2⟩:=e;simp only at q2;simp[q2]
     |none=>
      have hno:=g1 hg;have hc:(hnm (E++F)).contains n=false:=by
       rw[Zcg];intro h';exact hno (Zbq.1 h')
      rw[hc];simp only[ZaS];have hXn:X n=true:=by simp only[X,hc,ZcJ]
      cases S.h n with
      |none=>rfl
      |some e=>simp[hXn]
    unfold Oper.wp;have hrun:(execOp ac.eval o).run P S.w= .ok (.value (.func (fnV f) (first.map ac.eval) (capt.map ac.eval))) S.w:=by rw[Qoi hlt];simp[execOp,ho,Instr.makeFunc]
    rw[hrun,Oper.upon_value];refine hn _ (S.ice X) (Qje hW) hice ?_ ?_
    .have:=Qb0 S X
     exact⟨this.ok,fun o _=>this.nm o trivial⟩
    .simp only[conc,rd];refine⟨_,_,rfl,?_,?_⟩
     .rw[Zcw];exact s2 X (fun n hn=>hX n (by rw[happ];exact Zbl _ hn))
     .rw[Zcw];exact t2 X (fun n hn=>hX n (by rw[happ];exact ZbD _ hn))
   cases hEF:E++F with
   |nil=>
    rw[hEF] at hk main;exact main hk
   |cons e r=>
    rw[hEF] at hk main;simp only[Qz3] at hk;rcases hk with hk|hk
    .exact main hk
    .exact Qh1 hlt ho hk
theorem Qj2(op:BinOp)(t:TypeId)(x y:Operand)(k k':IntKind)(a b:Int)(w:World):(eqGuard op t x y (.int k a) (.int k' b)).run P w= .ok () w:=by
 cases op<;>simp[eqGuard]
theorem Qn0(op:BinOp)(t:TypeId)(x y:Operand)(a b:ByteArray)(w:World):(eqGuard op t x y (.string a) (.string b)).run P w= .ok () w:=by
 cases op<;>simp[eqGuard]
theorem Qwl(op:BinOp)(t:TypeId)(x y:Operand)(a b:Bool)(w:World):(eqGuard op t x y (.bool a) (.bool b)).run P w= .ok () w:=by
 cases op<;>simp[eqGuard]
theorem beqI(a b:Int):(a==b)=decide (a=b):=by
 by_cases h:a=b<;>simp[h]
theorem snd_int{op:BinOp}{T U:TypeId}{x y:Operand}{k:IntKind}{a b:Int}(ho:o.op= .binOp op T x y U)(hx:evO tm x= .im (.int k a))(hy:evO tm y= .im (.int k b))
 (hk:Qh2 op k a b K):Qbp P tm h nx o K:=by
 have goI: ∀n,(∀w,(binOp op T (.int k a) (.int k b)).run P w= .ok (.int k n) w)->K (.im (.int k n)) {}->Qbp P tm h nx o K:=by
  intro n hrun hk;refine⟨_,_,OpT.pure (u:=[]) ?_,hk⟩;intro C S ac hW _ hops;have h1:=hops x (by rw[ho];simp[Op.operands]);have h2:=hops y (by rw[ho];simp[Op.operands]);rw[hx] at h1;rw[hy] at h2;simp only[conc,rd] at h1 h2;refine⟨.int k n,?_,by simp only[conc,rd]⟩;simp[execOp,ho,h1,h2,Qj2,hrun]
 have goB: ∀n,(∀w,(binOp op T (.int k a) (.int k b)).run P w= .ok (.bool n) w)->K (.im (.bool n)) {}->Qbp P tm h nx o K:=by
  intro n hrun hk;refine⟨_,_,OpT.pure (u:=[]) ?_,hk⟩;intro C S ac hW _ hops;have h1:=hops x (by rw[ho];simp[Op.operands]);have h2:=hops y (by rw[ho];simp[Op.operands]);rw[hx] at h1;rw[hy] at h2;simp only[conc,rd] at h1 h2;refine⟨.bool n,?_,by simp only[conc,rd]⟩;simp[execOp,ho,h1,h2,Qj2,hrun]
 cases op<;>simp only[Qh2] at hk<;>try exact hk.elim
 case quo=>exact goI _ (fun w=>by simp[binOp,Op.intDiv,hk.1]) hk.2
 case rem=>exact goI _ (fun w=>by simp[binOp,Op.intDiv,hk.1]) hk.2
 case eql=>exact goB _ (fun w=>by simp[binOp,Op.intCmp,beqI]) hk
 case neq=>exact goB _ (fun w=>by simp[binOp,Op.intCmp,bne,beqI]) hk
 case lss=>exact goB _ (fun w=>by simp[binOp,Op.intCmp]) hk
 case leq=>exact goB _ (fun w=>by simp[binOp,Op.intCmp]) hk
 case gtr=>exact goB _ (fun w=>by simp[binOp,Op.intCmp]) hk
 case geq=>exact goB _ (fun w=>by simp[binOp,Op.intCmp]) hk
 case and=>exact goI _ (fun w=>by simp[binOp,Op.intBits,andI]) hk
 case or=>exact goI _ (fun w=>by simp[binOp,Op.intBits,orI]) hk
 case xor=>exact goI _ (fun w=>by simp[binOp,Op.intBits,xorI]) hk
 all_goals exact goI _ (fun w=>by simp[binOp,Op.intArith]) hk
theorem snd_int2{op:BinOp}{T U:TypeId}{x y:Operand}{k k':IntKind}{a b:Int}(ho:o.op= .binOp op T x y U)(hx:evO tm x= .im (.int k a))(hy:evO tm y= .im (.int k' b))
 (hk:Qmf op k a k' b K (shK op)):Qbp P tm h nx o K:=by
 have goI: ∀n,(∀w,(binOp op T (.int k a) (.int k' b)).run P w= .ok (.int k n) w)->K (.im (.int k n)) {}->Qbp P tm h nx o K:=by
  intro n hrun hk;refine⟨_,_,OpT.pure (u:=[]) ?_,hk⟩;intro C S ac hW _ hops;have h1:=hops x (by rw[ho];simp[Op.operands]);have h2:=hops y (by rw[ho];simp[Op.operands]);rw[hx] at h1;rw[hy] at h2;simp only[conc,rd] at h1 h2;refine⟨.int k n,?_,by simp only[conc,rd]⟩;simp[execOp,ho,h1,h2,Qj2,hrun]
 cases op
 case shr=>
  simp only[shK,Qmf] at hk;exact goI _ (fun w=>by simp[binOp,Op.shift,Int.not_lt.2 hk.1]) hk.2
 case shl=>
  simp only[shK,Qmf] at hk;exact goI _ (fun w=>by simp[binOp,Op.shift,Int.not_lt.2 hk.1]) hk.2
 all_goals
  simp only[shK,Qmf] at hk;obtain⟨rfl,hk⟩:=hk;exact snd_int ho hx hy hk
theorem Qmj(s:ByteArray):s.toList=s.data.toList:=by
 have key: ∀(n i:Nat) (r:List UInt8),s.size - i=n->ByteArray.toList.loop s i r=r.reverse++s.data.toList.drop i:=by
  intro n;induction n with
  |zero=>
   intro i r h;unfold ByteArray.toList.loop;rw[Zaj (by omega),Zax (by show s.data.toList.length<=i;simp;show s.size<=i;omega)];simp
  |succ n ih=>
   intro i r h;unfold ByteArray.toList.loop;rw[Zao (by omega),ih (i+1) _ (by omega)];have hlt:i<s.data.toList.length:=by simp;show i<s.size;omega
   rw[Zcv hlt];simp[ByteArray.get!]
   have:i<s.data.size:=by simpa using hlt
   exact getElem!_pos s.data i this
 have:=key _ 0 [] rfl
 simpa[ByteArray.toList] using this
theorem Qry(a b:ByteArray):(a.toList==b.toList)=decide (a=b):=by
 rw[Qmj,Qmj];by_cases h:a=b
 .subst h;simp
 .have:a.data≠b.data:=by
   intro h';apply h;cases a;cases b;simp at h';rw[h']
  simp[h,this]
theorem snd_str{op:BinOp}{T U:TypeId}{x y:Operand}{a b:ByteArray}(ho:o.op= .binOp op T x y U)(hx:evO tm x= .im (.str a))(hy:evO tm y= .im (.str b))
 (hk:Qabv op a b K):Qbp P tm h nx o K:=by
 have goB: ∀n,(∀w,(binOp op T (.string a) (.string b)).run P w= .ok (.bool n) w)->K (.im (.bool n)) {}->Qbp P tm h nx o K:=by
  intro n hrun hk;refine⟨_,_,OpT.pure (u:=[]) ?_,hk⟩;intro C S ac hW _ hops;have h1:=hops x (by rw[ho];simp[Op.operands]);have h2:=hops y (by rw[ho];simp[Op.operands]);rw[hx] at h1;rw[hy] at h2;simp only[conc,rd] at h1 h2;refine⟨.bool n,?_,by simp only[conc,rd]⟩;simp[execOp,ho,h1,h2,Qn0,hrun]
 cases op<;>simp only[Qabv] at hk<;>try exact hk.elim
 case eql=>exact goB _ (fun w=>by simp[binOp,Op.stringOp,Qry]) hk
 case neq=>exact goB _ (fun w=>by simp[binOp,Op.stringOp,Qry]) hk
 case add=>
  refine⟨_,_,OpT.pure (u:=[]) ?_,hk.2⟩;intro C S ac hW _ hops;have h1:=hops x (by rw[ho];simp[Op.operands]);have h2:=hops y (by rw[ho];simp[Op.operands]);rw[hx] at h1;rw[hy] at h2;simp only[conc,rd] at h1 h2;refine⟨.string (a++b),?_,by simp only[conc,rd]⟩;have hle: ¬(((a.size+b.size:Nat):Int)>IntKind.i64.max):=by
   have:=hk.1
   have h2:IntKind.i64.max=9223372036854775807:=by decide
   rw[h2];omega
  have hrun: ∀w,(binOp .add T (.string a) (.string b)).run P w= .ok (.string (a++b)) w:=by
   intro w;simp only[binOp,Op.stringOp];rw[Sem.run_ite,Zaj hle,Sem.run_pure]
  simp[execOp,ho,h1,h2,Qn0,hrun]
theorem Qmu{T:TypeId}(hT:P.underlying T=some .bool)(d:Nat)(a b:Bool)(w:World):(Op.equalIn (d+1) T (.bool a) (.bool b)).run P w= .ok (a==b) w:=by
 simp[Op.equalIn,underlying,hT]
theorem snd_boo{op:BinOp}{T U:TypeId}{x y:Operand}{a b:Bool}(ho:o.op= .binOp op T x y U)(hT:P.underlying T=some .bool)(hx:evO tm x= .im (.bool a))(hy:evO tm y= .im (.bool b))
 (hk:stBoo op a b K):Qbp P tm h nx o K:=by
 have goB: ∀n,(∀w,(binOp op T (.bool a) (.bool b)).run P w= .ok (.bool n) w)->K (.im (.bool n)) {}->Qbp P tm h nx o K:=by
  intro n hrun hk;refine⟨_,_,OpT.pure (u:=[]) ?_,hk⟩;intro C S ac hW _ hops;have h1:=hops x (by rw[ho];simp[Op.operands]);have h2:=hops y (by rw[ho];simp[Op.operands]);rw[hx] at h1;rw[hy] at h2;simp only[conc,rd] at h1 h2;refine⟨.bool n,?_,by simp only[conc,rd]⟩;simp[execOp,ho,h1,h2,Qwl,hrun]
 cases op<;>simp only[stBoo] at hk<;>try exact hk.elim
 case eql=>exact goB _ (fun w=>by simp[binOp,Op.equal,Op.maxDepth,Qmu hT 9999]) hk
 case neq=>exact goB _ (fun w=>by simp[binOp,Op.equal,Op.maxDepth,Qmu hT 9999,bne]) hk
end
def Env.one(S:Env)(m:Nat)(e:AObj)(l:Option Loc)(ks:List Nat)(w':World):Env:=
 ⟨fun n=>if n=m then l else S.ρ n,S.ok,fun n=>if n=m then some (true,e) else if n∈ks then none else S.h n,w'⟩
structure Qjb(S:Env)(m:Nat)(e:AObj)(l:Option Loc)(ks:List Nat)(w':World):Prop where
 os:w'.os=S.w.os
 tape:w'.tape=S.w.tape
 output:w'.output=S.w.output
 size:S.w.heap.size<=w'.heap.size
 keep: ∀b,b<S.w.heap.size->(∀n f lo,n∈ks->S.h n=some (true,f)->S.ρ n=some lo->lo.b≠b)->w'.heap[b]? =S.w.heap[b]?
 name:m∈ks\/S.h m=none
 loc: ∀lo,l=some lo->lo.b<w'.heap.size/\(S.w.heap.size<=lo.b\/ ∃n f lo',n∈ks/\S.h n=some (true,f)/\S.ρ n=some lo'/\lo'.b=lo.b)
 shape: ∀f,S.h m=some f->l=S.ρ m/\e.esz=f.2.esz/\e.len=f.2.len
 nms: ∀n f,S.h n=some f->S.h m=none->m∉f.2.nms
theorem Qg2{C:Ctx}{S:Env}{m:Nat}{e:AObj}{l:Option Loc}{ks:List Nat}{w':World}(hW:Wf C S)(h:Qjb S m e l ks w'):
 Pres (fun n=>S.h m≠none\/n≠m) S (S.one m e l ks w'):=by
 refine⟨fun b hb=>⟨hb,?_⟩,?_⟩
 .refine h.keep b (hW.oks b hb) ?_;intro n f lo _ hn hl hbb
  have:=(hW.loc n _ lo hn hl).2
  simp only[ZaQ] at this;exact this.1 (hbb▸hb)
 .intro n hX e' he';simp only[Env.one] at he'⊢;by_cases hnm:n=m
  .subst hnm;rw[Zao rfl] at he'⊢;obtain rfl:=Zac he';have hne:S.h n≠none:=by rcases hX with h1|h1;exact h1;exact absurd rfl h1
   obtain⟨f,hf⟩:=Option.ne_none_iff_exists'.1 hne;obtain⟨h1,h2,h3⟩:=h.shape f hf;exact⟨f,hf,h1,h2,h3⟩
  .rw[Zaj hnm] at he'⊢;split at he'
   .cases he'
   .exact⟨e',he',rfl,rfl,rfl⟩
theorem Qqp{C:Ctx}{S:Env}{m:Nat}{e:AObj}{l:Option Loc}{ks:List Nat}{w':World}(hW:Wf C S)(h:Qjb S m e l ks w')
 (hobj:objc (S.one m e l ks w') l e):Wf C (S.one m e l ks w'):=by
 have hp:=Qg2 hW h;have hdis: ∀n f lo lo',n≠m->n∉ks->S.h n=some f->S.ρ n=some lo->l=some lo'->lo'.b≠lo.b:=by
  intro n f lo lo' hnm hnk hn hl hl' hb;rcases (h.loc lo' hl').2 with h1|⟨n2,f2,lo2,hk2,hn2,hl2,hb2⟩
  .have:=(hW.loc n f lo hn hl).1;omega
  .have:=hW.inj n2 n _ _ lo2 lo hn2 hn hl2 hl (by omega) (by simp)
   subst this;exact hnk hk2
 refine⟨h.os.trans hW.os,h.tape.trans hW.tape,h.output.trans hW.output,Zbd hW.size h.size,?_,hW.ok0,hW.ok1,fun b hb=>Zbn (hW.oks b hb) h.size,?_,?_,?_,hW.gl⟩
 .intro b hb hM;refine (h.keep b (Zbn hb hW.size) ?_).trans (hW.keep b hb hM);intro n f lo _ hn hl hbb
  have:=(hW.loc n _ lo hn hl).2
  simp only[ZaQ] at this;rcases this.2 with h1|h1
  .omega
  .exact hM (hbb▸h1)
 .intro n f hf;simp only[Env.one] at hf;by_cases hnm:n=m
  .subst hnm;rw[Zao rfl] at hf;obtain rfl:=Zac hf;simpa[Env.one] using hobj
  .rw[Zaj hnm] at hf;split at hf
   .cases hf
   .rename_i hnk;have ho:=hW.obj n f hf;have hr:(S.one m e l ks w').ρ n=S.ρ n:=by simp[Env.one,hnm]
    rw[hr];refine Qbr hp ?_ _ ?_ ho
    .intro lc hlc;refine h.keep lc.b (hW.loc n f lc hf hlc).1 ?_;intro n2 f2 lo2 hk2 hn2 hl2 hb2
     have:=hW.inj n2 n _ _ lo2 lc hn2 hf hl2 hlc hb2 (by simp)
     subst this;exact hnk hk2
    .intro x hx;by_cases hne:S.h m=none
     .right;intro hxm;subst hxm;exact h.nms n f hf hne hx
     .exact .inl hne
 .intro n f lo hf hlo;simp only[Env.one] at hf hlo⊢;by_cases hnm:n=m
  .subst hnm;rw[Zao rfl] at hf hlo;obtain rfl:=Zac hf;obtain⟨h1,h2⟩:=h.loc lo hlo;refine⟨h1,?_⟩;simp only[ZaQ];rcases h2 with h2|⟨n2,f2,lo2,hk2,hn2,hl2,hb2⟩
   .exact⟨fun hok=>by have:=hW.oks _ hok;omega,.inl (Zbd hW.size h2)⟩
   .have:=(hW.loc n2 _ lo2 hn2 hl2).2
    simp only[ZaQ] at this;rw[hb2] at this;exact this
  .rw[Zaj hnm] at hf hlo;split at hf
   .cases hf
   .have:=hW.loc n f lo hf hlo
    exact⟨Zbn this.1 h.size,this.2⟩
 .intro n n' f f' lo lo' hf hf' hl hl' hb hfl;simp only[Env.one] at hf hf' hl hl';by_cases hnm:n=m<;>by_cases hnm':n'=m
  .rw[hnm,hnm']
  .rw[Zao hnm] at hf hl;rw[Zaj hnm'] at hf' hl';split at hf'
   .cases hf'
   .rename_i hnk;exact absurd hb (hdis n' f' lo' lo hnm' hnk hf' hl' hl)
  .rw[Zaj hnm] at hf hl;rw[Zao hnm'] at hf' hl';split at hf
   .cases hf
   .rename_i hnk;exact absurd hb.symm (hdis n f lo lo' hnm hnk hf hl hl')
  .rw[Zaj hnm] at hf hl;rw[Zaj hnm'] at hf' hl';split at hf
   .cases hf
   .split at hf'
    .cases hf'
    .exact hW.inj n n' f f' lo lo' hf hf' hl hl' hb hfl
section
variable {P:Program}{tm:List (Nat×AV)}{h:Nat->Option Ent}{nx:Nat}{o:Oper}{r:AV}
theorem OpT.one{u ks:List Nat}{m cnt:Nat}{e:AObj}(hm:(cnt=1/\m=nx)\/(cnt=0/\m∈ks/\h m≠none))
 (hr: ∀(C:Ctx) (S:Env) (a:Act),Wf C S->(∀n∈u++ks,S.h n=h n)->(cnt=1->S.h nx=none)->(∀n f,S.h n=some f->cnt=1->nx∉f.2.nms)->
  (∀x∈o.op.operands,conc S (evO tm x) (a.eval x))->
  ∃v w' l,((execOp a.eval o).run P S.w= .ok (.value v) w'\/((execOp a.eval o).run P S.w= .ok .skip w'/\v=undef))/\Qjb S m e l ks w'/\
   (Pres (fun n=>S.h m≠none\/n≠m) S (S.one m e l ks w')->objc (S.one m e l ks w') l e/\conc (S.one m e l ks w') r v)):
 OpT P tm h nx o r {use:=u,kill:=ks,new:=[(m,(true,e))],cnt:=cnt}:=by
 intro C S a next Q hW hu hfr hnm hops hn
 obtain⟨v,w',l,hrun,hone,hres⟩:=hr C S a hW hu (fun hc=>hfr nx ⟨Zap _,by rw[hc];exact Nat.lt_succ_self nx⟩)
  (fun n f hf hc hin=>hnm n f hf nx hin ⟨Zap _,by rw[hc];exact Nat.lt_succ_self nx⟩) hops
 have hp:=Qg2 hW hone;obtain⟨hobj,hc⟩:=hres hp;have hW':=Qqp hW hone hobj;have hh:(S.one m e l ks w').h=({use:=u,kill:=ks,new:=[(m,(true,e))],cnt:=cnt}:Eff).appf S.h:=by
  funext n;simp only[Env.one,Eff.appf,hget];by_cases hnm:n=m
  .subst hnm;simp
  .have:(m==n)=false:=by
    rw[Zbs];exact fun h=>hnm h.symm
   simp[this,hnm]
 have hp':Pres (fun n=> ¬Fr nx cnt n) S (S.one m e l ks w'):=by
  refine⟨hp.ok,fun n hX=>hp.nm n ?_⟩;rcases hm with ⟨hc1,hm1⟩|⟨hc0,hmk,hma⟩
  .right;intro hnm;exact hX ⟨by omega,by omega⟩
  .left;rw[hu m (by simp[hmk])];exact hma
 unfold Oper.wp;rcases hrun with hrun|⟨hrun,rfl⟩
 .rw[hrun,Oper.upon_value];exact hn v _ hW' hh hp' hc
 .rw[hrun,Oper.upon_skip];exact hn undef _ hW' hh hp' hc
end
theorem Qg3{S:Env}{nx:Nat}{e:AObj}{cap:Nat}{w':World}{ob:Obj}(hheap:w'.heap=S.w.heap.push ob)
 (hos:w'.os=S.w.os)(htape:w'.tape=S.w.tape)(hout:w'.output=S.w.output){ks:List Nat}(hS:S.h nx=none)
 (hnms: ∀n f,S.h n=some f->nx∉f.2.nms):Qjb S nx e (some ⟨S.w.heap.size,0,cap⟩) ks w':=by
 refine⟨hos,htape,hout,by rw[hheap];simp,?_,.inr hS,?_,?_,fun n f hf _=>hnms n f hf⟩
 .intro b hb _;rw[hheap,Array.getElem?_push,Zaj (by omega)]
 .intro lo hlo;obtain rfl:=Zac hlo;refine⟨by rw[hheap];simp,.inl (Zap _)⟩
 .intro f hf;rw[hS] at hf;cases hf
theorem Ql6{S:Env}{nx:Nat}{e:AObj}{ks:List Nat}(hS:S.h nx=none)
 (hnms: ∀n f,S.h n=some f->nx∉f.2.nms):Qjb S nx e none ks S.w:=by
 refine⟨rfl,rfl,rfl,Zap _,fun _ _ _=>rfl,.inr hS,?_,?_,fun n f hf _=>hnms n f hf⟩
 .intro lo hlo;cases hlo
 .intro f hf;rw[hS] at hf;cases hf
theorem Qjw{C:Ctx}{S:Env}(hW:Wf C S){m:Nat}{f e:AObj}{l:Loc}{w':World}{ob:Obj}(hm:S.h m=some (true,f))(hl:S.ρ m=some l)
 (hheap:w'.heap=S.w.heap.setIfInBounds l.b ob)(hos:w'.os=S.w.os)(htape:w'.tape=S.w.tape)(hout:w'.output=S.w.output)
 (hesz:e.esz=f.esz)(hlen:e.len=f.len):Qjb S m e (some l) [m] w':=by
 refine⟨hos,htape,hout,by rw[hheap];simp,?_,.inl (by simp),?_,?_,?_⟩
 .intro b hb hne
  have:=hne m f l (by simp) hm hl
  rw[hheap,Zcc];rw[Zaj this]
 .intro lo hlo;obtain rfl:=Zac hlo;exact⟨by rw[hheap];simpa using (hW.loc m _ _ hm hl).1,.inr ⟨m,f,l,by simp,hm,hl,rfl⟩⟩
 .intro g hg;rw[hm] at hg;obtain rfl:=Zac hg;exact⟨hl.symm,hesz,hlen⟩
 .intro n g _ hnone;rw[hm] at hnone;cases hnone
theorem Qny{S:Env}{nx:Nat}{e:AObj}{l:Option Loc}{ks:List Nat}{w':World}{ob:Obj}(hheap:w'.heap=S.w.heap.push ob):
 (S.one nx e l ks w').hp S.w.heap.size=some ob:=by
 simp[Env.hp,Env.one,hheap]
section
variable {P:Program}{tm:List (Nat×AV)}{h:Nat->Option Ent}{nx:Nat}{o:Oper}{K:Kont}
theorem Qqf{T:TypeId}{cs:List AV}(hops:(C:Ctx)->(S:Env)->(a:Act)->Wf C S->(∀x∈o.op.operands,conc S (evO tm x) (a.eval x))->
 ∃vs:Array Value,(execOp a.eval o).run P S.w= .ok (.value (.pointer (some ⟨S.w.heap.size,0,none⟩))) (S.w.alloc (.cells vs T))/\Qa0 S cs vs.toList)
 (hb: ∀m∈nmsL cs,m≠nx):OpT P tm h nx o (.ptr nx 0) {new:=[(nx,(true,.cells T cs))],cnt:=1}:=by
 refine OpT.one (u:=[]) (ks:=[]) (.inl ⟨rfl,rfl⟩) ?_;intro C S a hW _ hfr hnm hop;obtain⟨vs,hrun,hcs⟩:=hops C S a hW hop;refine⟨_,_,some ⟨S.w.heap.size,0,0⟩,.inl hrun,Qg3 (w':=S.w.alloc (.cells vs T)) (ob:= .cells vs T) rfl rfl rfl rfl (hfr rfl) (fun n f hf=>hnm n f hf rfl),?_⟩;intro hp;constructor
 .simp only[objc];refine⟨_,vs,rfl,rfl,Qny rfl,Qcm hp cs _ (fun m hm=> .inr (hb m hm)) hcs⟩
 .simp only[conc];refine⟨rfl,fun e he=>⟨⟨S.w.heap.size,0,0⟩,by simp[Env.one],rfl⟩⟩
theorem snd_box{T:TypeId}{x:Operand}(ho:o.op= .box T x)(hk:stBox nx T K (evO tm x).cells)(hb: ∀m∈nmsL (evO tm x).cells,m≠nx):Qbp P tm h nx o K:=by
 obtain⟨hne,hk⟩:=hk;refine⟨_,_,Qqf ?_ hb,hk⟩;intro C S a hW hops;have h1:=hops x (by rw[ho];simp[Op.operands]);refine⟨(a.eval x).cells,?_,Qgi (fun h=>hne (by rw[h];rfl)) h1⟩;simp[execOp,ho,Instr.box,newVar,newRow]
theorem snd_alloc{T:TypeId}(ho:o.op= .alloc T)(hk:Qax (Qsv nx T K) (tI P T)):Qbp P tm h nx o K:=by
 cases hT:tI P T with
 |none=>rw[hT] at hk;exact hk.elim
 |some ti=>
  rw[hT] at hk;simp only[Qax,Qsv] at hk;obtain⟨hl,hz,hk⟩:=hk;obtain⟨z,hzr,hzs,hzd⟩:=Qe5 hT hl hz;refine⟨_,_,Qqf ?_ ?_,hk⟩
  .intro C S a hW hops;refine⟨z.cells,?_,(Qa6 _ _).2 (hzd _ _)⟩;simp[execOp,ho,Instr.alloc,hzr,newVar,newRow]
  .intro m hm
   have: ∀(l:List D),nmsL (l.map AV.im)=[]:=by
    intro l;induction l with
    |nil=>rfl
    |cons x l ih=>simp[nmsL,AV.nms,ih]
   rw[this] at hm;cases hm
theorem Qw0(l:List D):nmsL (l.map AV.im)=[]:=by
 induction l with
 |nil=>rfl
 |cons x l ih=>simp[nmsL,AV.nms,ih]
theorem Qyk{T:TypeId}(ho:o.op= .makeMap T none)(hk:Qax (Qko P nx K) (tI P T)):Qbp P tm h nx o K:=by
 cases hT:tI P T with
 |none=>rw[hT] at hk;exact hk.elim
 |some ti=>
 rw[hT] at hk;simp only[Qax,Qko] at hk;cases hf:ti.kind<;>rw[hf] at hk<;>try exact hk.elim
 rename_i kk e;simp only[mmK] at hk;cases hkt:keyT P kk with
 |none=>rw[hkt] at hk;exact hk.elim
 |some kt=>
 rw[hkt] at hk;simp only[mmKt] at hk;refine⟨_,_,OpT.one (u:=[]) (ks:=[]) (.inl ⟨rfl,rfl⟩) ?_,hk⟩;intro C S a hW _ hfr hnm hop;refine⟨.map (some S.w.heap.size),S.w.alloc (.map #[] 0),some ⟨S.w.heap.size,0,0⟩,.inl ?_,Qg3 (w':=S.w.alloc (.map #[] 0)) (ob:= .map #[] 0) rfl rfl rfl rfl (hfr rfl) (fun n f hf=>hnm n f hf rfl),?_⟩
 .simp[execOp,ho,Instr.makeMap]
 intro hp;constructor
 .simp only[objc];refine⟨_,#[],0,rfl,by simp,Qny rfl,by simp[rde],by simp,by simp⟩
 .simp only[conc];exact⟨rfl,fun e he=>⟨⟨S.w.heap.size,0,0⟩,by simp[Env.one],rfl⟩⟩
theorem snd_nilSl{e k:Nat}(hrun: ∀(S:Env) (a:Act),(execOp a.eval o).run P S.w= .ok (.value (.slice none 0 0)) S.w)(hk:K (.own nx) {new:=[(nx,(true,.arr e k []))],cnt:=1}):Qbp P tm h nx o K:=by
 refine⟨_,_,OpT.one (u:=[]) (ks:=[]) (.inl ⟨rfl,rfl⟩) ?_,hk⟩;intro C S a hW _ hfr hnm hop;refine⟨_,_,none,.inl (hrun S a),Ql6 (hfr rfl) (fun n f hf=>hnm n f hf rfl),?_⟩;intro hp;constructor
 .simp[objc]
 .simp only[conc];exact⟨rfl,fun e he=>by simp[Env.one]⟩
theorem Qabd{x:Operand}(ho:o.op= .assign x)(hk:Qm9 P tm nx o.type K x):Qbp P tm h nx o K:=by
 simp only[Qm9] at hk;cases hn':(Qg8 x && !(o.type==225)) with
 |false=>rw[hn'] at hk;exact Qaav (.inr ho) hk
 |true=>
  rw[hn'] at hk;have hn:Qg8 x=true:=by
   cases h:Qg8 x
   .rw[h] at hn';cases hn'
   .rfl
  simp only[Qk7] at hk;have hx:x= .const (.slice none 0 0):=by
   cases x<;>simp only[Qg8,reduceCtorEq] at hn;rename_i v;unfold Qdt at hn;split at hn
   .rfl
   .cases hn
  cases ht:tkO (tI P o.type) with
  |none=>rw[ht] at hk;exact hk.elim
  |some tk=>
   rw[ht] at hk;cases tk<;>try exact hk.elim
   rename_i e;simp only[Qg6] at hk;cases hE:tI P e with
   |none=>rw[hE] at hk;exact hk.elim
   |some te=>
    rw[hE] at hk;simp only[Qax,Qjk] at hk;exact snd_nilSl (fun S a=>by simp[execOp,ho,hx,Act.eval]) hk
theorem Qod{α:Type}(l:List α)(off:Nat)(v:α)(xs:List α)(h:off<l.length):Qa5 (l.set off v) (off+1) xs=Qa5 l off (v::xs):=by
 have h1:(l.set off v).take (off+1)=l.take off++[v]:=by
  rw[List.take_set,List.set_eq_take_append_cons_drop];rw[Zao (by rw[Zau];omega),List.take_take,Zeq (by omega),Zfh];simp
 have h2:(l.set off v).drop (off+1+xs.length)=l.drop (off+1+xs.length):=List.drop_set_of_lt (by omega);simp only[Qa5,h1,h2,ZaE];rw[show off+1+xs.length=off+(xs.length+1) from by omega];simp
theorem Qf9{w:World}{b p:Nat}{T:TypeId}: ∀(xs:List Value) (i:Nat) (vs:Array Value),(∀v∈xs,v.oneCell'=true)->p+i+xs.length<=vs.size->
 w.heap[b]? =some (.cells vs T (0,0))-> ∃w',(storeCells ⟨b,p,none⟩ xs i).run P w= .ok () w'/\w'.heap=w.heap.setIfInBounds b (.cells (Qa5 vs.toList (p+i) xs).toArray T (0,0))/\
  w'.os=w.os/\w'.tape=w.tape/\w'.output=w.output:=by
 intro xs;induction xs generalizing w with
 |nil=>
  intro i vs _ _ hb;refine⟨w,by simp[storeCells],?_,rfl,rfl,rfl⟩
  have:(Qa5 vs.toList (p+i) ([]:List Value)).toArray=vs:=by simp[Qa5]
  rw[this];apply Zev;intro k;rw[Zcc];split
  .rename_i hbk;subst hbk;split
   .exact hb
   .rename_i hlt
    have:b<w.heap.size:=by
     rcases Zbp b w.heap.size with h|h
     .exact h
     .rw[Zcd h] at hb;cases hb
    exact absurd this hlt
  .rfl
 |cons v xs ih=>
  intro i vs hone hlen hb;have hbs:b<w.heap.size:=by
   rcases Zbp b w.heap.size with h|h
   .exact h
   .rw[Zcd h] at hb;cases hb
  simp only[ZaE] at hlen;have hcell:w.cell? ⟨b,p+i,none⟩=some (vs[p+i]'(by omega)):=by rw[Qyp hb];simp
  have hfz:w.frozen? ⟨b,p+i,none⟩=false:=by simp[World.frozen?,hb]
  have hset:(w.setCell ⟨b,p+i,none⟩ v).heap=w.heap.setIfInBounds b (.cells (vs.setIfInBounds (p+i) v) T (0,0)):=by
   apply Zev;intro k;simp only[World.setCell,ZdX,Zcc];by_cases hk:b=k
   .subst hk;have hb2:w.heap[b]= .cells vs T (0,0):=by simpa[Zbt hbs] using hb
    simp[hbs,hb2]
   .simp[hk]
  have hb':(w.setCell ⟨b,p+i,none⟩ v).heap[b]? =some (.cells (vs.setIfInBounds (p+i) v) T (0,0)):=by
   rw[hset,Zcc];simp[hbs]
  obtain⟨w',h1,h2,h3,h4,h5⟩:=ih (w:=w.setCell ⟨b,p+i,none⟩ v) (i+1) _ (fun u hu=>hone u (by simp[hu])) (by simp;omega) hb';refine⟨w',?_,?_,h3,h4,h5⟩
  .simp only[storeCells,Sem.run_bind,Qdh,run_store P w _ v .plain (hone v (by simp)),hcell,hfz];simpa using h1
  .rw[h2,hset];apply Zev;intro k;simp only[Zcc,ZdH];by_cases hk:b=k
   .subst hk;simp only[ZaQ,hbs];congr 3;rw[Zdx,<-ZcC];exact Qod _ _ _ _ (by simp;omega)
   .simp[hk]
theorem Qd9{S:Env}: ∀(cs:List AV) (vs:List Value),Qhz cs=true->Qa0 S cs vs-> ∀v∈vs,v.oneCell'=true
 |[],vs,_,h=>by simp only[Qa0] at h;simp[h]
 |x::cs,vs,ha,h=>by
  simp only[Qhz,Zah] at ha;simp only[Qa0] at h;obtain⟨v,r,rfl,h1,h2⟩:=h;intro u hu;rcases Zaw.1 hu with rfl|hu
  .cases x<;>simp only[AV.one,ZaB,false_and] at ha<;>simp only[conc] at h1
   case im d=>
    cases d<;>simp only[D.one,ZaB,false_and] at ha<;>simp only[rd] at h1
    case sl nz k rows=>
     rcases h1 with ⟨rfl|⟨_,a,rfl⟩,_⟩|⟨b,p,cap,vs,T,fr,rfl,_⟩<;>rfl
    case ref cs=>obtain⟨b,p,vs,T,fr,rfl,_⟩:=h1;rfl
    case mp kt es=>obtain⟨b,p,vs,rfl,_⟩:=h1;rfl
    case fn f a c=>obtain⟨b,p,rfl,_⟩:=h1;rfl
    case ifc t d=>obtain⟨b,rfl,_⟩:=h1;rfl
    case tok g=>obtain⟨_,⟨t,x,rfl⟩,_⟩:=h1;rfl
    all_goals subst h1;rfl
   case clo=>obtain⟨b,p,rfl,_⟩:=h1;rfl
   all_goals exact h1.1
  .exact Qd9 cs r ha.2 h2 u hu
theorem Qab4{ok:Nat->Prop}{hp:Nat->Option Obj}: ∀(off:Nat) (ds xs:List D) (vs us:List Value),rdp ok hp ds vs->rdl ok hp xs us->off+xs.length<=ds.length->
 rdp ok hp (Qa5 ds off xs) (Qa5 vs off us):=by
 intro off;induction off with
 |zero=>
  intro ds xs vs us h1 h2 hlen;have hl:=Qjo _ _ h2;simp only[Qa5,Zbk,Zbi,ZbR] at*;rw[hl];have hd:=Qea xs.length ds vs h1 hlen;clear hlen h1 hl;generalize ds.drop xs.length=ds' at*;generalize vs.drop xs.length=vs' at*;induction xs generalizing us with
  |nil=>simp only[rdl] at h2;subst h2;simpa using hd
  |cons x xs ih=>
   simp only[rdl] at h2;obtain⟨v,r,rfl,h3,h4⟩:=h2;simp only[ZaA,rdp];exact⟨v,_,rfl,h3,ih r h4⟩
 |succ off ih=>
  intro ds xs vs us h1 h2 hlen;cases ds with
  |nil=>simp at hlen
  |cons d ds=>
   simp only[rdp] at h1;obtain⟨v,r,rfl,h3,h4⟩:=h1
   have:=ih ds xs r us h4 h2 (by simp only[ZaE] at hlen;omega)
   simp only[Qa5,ZbI,ZaA,Nat.succ_add,Zcb,rdp] at this⊢;exact⟨v,_,rfl,h3,this⟩
theorem Qmv{S:Env}: ∀(off:Nat) (ds xs:List AV) (vs us:List Value),Qbv S ds vs->Qa0 S xs us->off+xs.length<=ds.length->
 Qbv S (Qa5 ds off xs) (Qa5 vs off us):=by
 intro off;induction off with
 |zero=>
  intro ds xs vs us h1 h2 hlen;have hl:=Qbs _ _ h2;simp only[Qa5,Zbk,Zbi,ZbR] at*;rw[hl];have hd:=Qex xs.length ds vs h1 hlen;clear hlen h1 hl;generalize ds.drop xs.length=ds' at*;generalize vs.drop xs.length=vs' at*;induction xs generalizing us with
  |nil=>simp only[Qa0] at h2;subst h2;simpa using hd
  |cons x xs ih=>
   simp only[Qa0] at h2;obtain⟨v,r,rfl,h3,h4⟩:=h2;simp only[ZaA,Qbv];exact⟨v,_,rfl,h3,ih r h4⟩
 |succ off ih=>
  intro ds xs vs us h1 h2 hlen;cases ds with
  |nil=>simp at hlen
  |cons d ds=>
   simp only[Qbv] at h1;obtain⟨v,r,rfl,h3,h4⟩:=h1
   have:=ih ds xs r us h4 h2 (by simp only[ZaE] at hlen;omega)
   simp only[Qa5,ZbI,ZaA,Nat.succ_add,Zcb,Qbv] at this⊢;exact⟨v,_,rfl,h3,this⟩
theorem Qml{S:Env}{off:Nat}{ds xs:List AV}{vs us:List Value}(h1:Qa0 S ds vs)(h2:Qa0 S xs us)(hlen:off+xs.length<=ds.length):
 Qa0 S (Qa5 ds off xs) (Qa5 vs off us):=by
 have hl1:=Qbs _ _ h1;have hl2:=Qbs _ _ h2;have h3:=Qmv off ds xs vs us (Qci _ _ h1) h2 hlen;have h4:=(Qc8 (Qa5 ds off xs).length _ _ h3 (Zap _)).2;rw[ZbP] at h4
 have:(Qa5 ds off xs).length=(Qa5 vs off us).length:=by
  simp[Qa5,Zau,ZaH,hl1,hl2]
 rwa [this,ZbP] at h4
theorem rdr_set{ok:Nat->Prop}{hp:Nat->Option Obj}{k:Nat}: ∀(i:Nat) (rows:List (List D)) (vs us:List Value) (row xs:List D) (off:Nat),rdr ok hp k rows vs->rows[i]? =some row->
 rdl ok hp xs us->off+xs.length<=k->i*k+k<=vs.length->rdr ok hp k (rows.set i (Qa5 row off xs)) (Qa5 vs (i*k+off) us)
 |_,[],_,_,_,_,_,_,hi,_,_,_=>by simp at hi
 |0,r::rs,vs,us,row,xs,off,h,hi,hx,ho,hv=>by
  simp at hi;subst hi;simp only[rdr] at h;have hl:=Qjo _ _ hx;simp only[Zde,rdr,ZdK,ZbR] at hv⊢;refine⟨?_,Qab4 _ _ _ _ _ h.2.1 hx (by omega),?_⟩
  .simp[Qa5,Zau,ZaH];omega
  .have:(Qa5 vs off us).drop k=vs.drop k:=by
    simp only[Qa5];rw[Zcx,Zcx];rw[Zax (by simp only[Zau];omega),Zax (by simp only[Zau];omega),Zbh];simp only[Zbi,Zaz,Zau];congr 1;omega
   rw[this];exact h.2.2
 |i+1,r::rs,vs,us,row,xs,off,h,hi,hx,ho,hv=>by
  simp only[rdr] at h;simp only[Zdd,rdr];have e1:(i+1)*k=i*k+k:=by rw[ZbQ,Zct]
  rw[e1] at hv⊢;have ih:=rdr_set i rs (vs.drop k) us row xs off h.2.2 (by simpa using hi) hx ho (by rw[ZaH];omega);have hsp:Qa5 vs (i*k+k+off) us=vs.take k++Qa5 (vs.drop k) (i*k+off) us:=by
   have e2:vs.take (i*k+k+off)=vs.take k++(vs.drop k).take (i*k+off):=by
    rw[<-Zdt];congr 1;omega
   simp only[Qa5,e2,Zbh,ZbA];rw[show i*k+k+off+us.length=k+(i*k+off+us.length) from by omega]
  rw[hsp];have hlk:(vs.take k).length=k:=by rw[Zau];omega
  refine⟨h.1,?_,?_⟩
  .obtain⟨_,h5⟩:=Qed k r vs h.2.1 (by omega);have h6:=Qhe _ _ h5;rw[ZaL (by omega)] at h6;clear ih hsp h5 hlk;generalize vs.take k=q at*;have key: ∀(r:List D) (q t:List Value),rdp ok hp r q->rdp ok hp r (q++t):=by
    intro r;induction r with
    |nil=>intro q t _;simp only[rdp]
    |cons d r ihr=>
     intro q t h;simp only[rdp] at h⊢;obtain⟨v,z,rfl,h7,h8⟩:=h;exact⟨v,z++t,rfl,h7,ihr z t h8⟩
   exact key r q _ h6
  .rw[Zcx,Zax (by omega),hlk,Zcj];simpa using ih
end
theorem Qgv{S:Env}: ∀(r:List AV) (q t:List Value),Qbv S r q->Qbv S r (q++t)
 |[],_,_,_=>by simp only[Qbv]
 |d::r,q,t,h=>by
  simp only[Qbv] at h⊢;obtain⟨v,z,rfl,h7,h8⟩:=h;exact⟨v,z++t,rfl,h7,Qgv r z t h8⟩
theorem Qoe{ok:Nat->Prop}{hp:Nat->Option Obj}: ∀(r:List D) (q t:List Value),rdp ok hp r q->rdp ok hp r (q++t)
 |[],_,_,_=>by simp only[rdp]
 |d::r,q,t,h=>by
  simp only[rdp] at h⊢;obtain⟨v,z,rfl,h7,h8⟩:=h;exact⟨v,z++t,rfl,h7,Qoe r z t h8⟩
theorem Qu1{S:Env}{k:Nat}: ∀(i:Nat) (rows:List (List AV)) (vs us:List Value) (row xs:List AV) (off:Nat),Qbb S k rows vs->rows[i]? =some row->
 Qa0 S xs us->off+xs.length<=k->i*k+k<=vs.length->Qbb S k (rows.set i (Qa5 row off xs)) (Qa5 vs (i*k+off) us)
 |_,[],_,_,_,_,_,_,hi,_,_,_=>by simp at hi
 |0,r::rs,vs,us,row,xs,off,h,hi,hx,ho,hv=>by
  simp at hi;subst hi;simp only[Qbb] at h;have hl:=Qbs _ _ hx;simp only[Zde,Qbb,ZdK,ZbR] at hv⊢;refine⟨?_,Qmv _ _ _ _ _ h.2.1 hx (by omega),?_⟩
  .simp[Qa5,Zau,ZaH];omega
  .have:(Qa5 vs off us).drop k=vs.drop k:=by
    simp only[Qa5];rw[Zcx,Zcx];rw[Zax (by simp only[Zau];omega),Zax (by simp only[Zau];omega),Zbh];simp only[Zbi,Zaz,Zau];congr 1;omega
   rw[this];exact h.2.2
 |i+1,r::rs,vs,us,row,xs,off,h,hi,hx,ho,hv=>by
  simp only[Qbb] at h;simp only[Zdd,Qbb];have e1:(i+1)*k=i*k+k:=by rw[ZbQ,Zct]
  rw[e1] at hv⊢;have ih:=Qu1 i rs (vs.drop k) us row xs off h.2.2 (by simpa using hi) hx ho (by rw[ZaH];omega);have hsp:Qa5 vs (i*k+k+off) us=vs.take k++Qa5 (vs.drop k) (i*k+off) us:=by
   have e2:vs.take (i*k+k+off)=vs.take k++(vs.drop k).take (i*k+off):=by
    rw[<-Zdt];congr 1;omega
   simp only[Qa5,e2,Zbh,ZbA];rw[show i*k+k+off+us.length=k+(i*k+off+us.length) from by omega]
  rw[hsp];have hlk:(vs.take k).length=k:=by rw[Zau];omega
  refine⟨h.1,?_,?_⟩
  .obtain⟨_,h5⟩:=Qc8 k r vs h.2.1 (by omega);have h6:=Qci _ _ h5;rw[ZaL (by omega)] at h6;exact Qgv r _ _ h6
  .rw[Zcx,Zax (by omega),hlk,Zcj];simpa using ih
theorem Qg9{α:Type}(l:List α)(p off:Nat)(xs:List α)(h:p<=l.length):(Qa5 l (p+off) xs).drop p=Qa5 (l.drop p) off xs:=by
 have e2:l.take (p+off)=l.take p++(l.drop p).take off:=by rw[<-Zdt]
 have hlk:(l.take p).length=p:=by rw[Zau];omega
 simp only[Qa5,e2,ZbA];rw[Zcx,Zax (by omega),hlk,Zcj];simp[ZcC]
section
variable {P:Program}{tm:List (Nat×AV)}{h:Nat->Option Ent}{nx:Nat}{o:Oper}{K:Kont}
theorem Qiq{T:TypeId}{ti:TI}(hT:tI P T=some ti){w:World}{b p:Nat}{U:TypeId}{vs:Array Value}{v:Value}(hsz:v.cells.size=ti.size)(hone: ∀u∈v.cells.toList,u.oneCell'=true)
 (hlen:p+ti.size<=vs.size)(hb:w.heap[b]? =some (.cells vs U (0,0))):
 ∃w',(Instr.storeAt T (.pointer (some ⟨b,p,none⟩)) v).run P w= .ok () w'/\w'.heap=w.heap.setIfInBounds b (.cells (Qa5 vs.toList p v.cells.toList).toArray U (0,0))/\
  w'.os=w.os/\w'.tape=w.tape/\w'.output=w.output:=by
 obtain⟨w',h1,h2⟩:=Qf9 (P:=P) (w:=w) (b:=b) (p:=p) (T:=U) v.cells.toList 0 vs hone (by simp;omega) hb;refine⟨w',?_,by simpa using h2⟩;simp[Instr.storeAt,Instr.sureAddr,storeVar,Qca hT,hsz,h1]
theorem Qpq{S:Env}{m:Nat}{e:AObj}{l:Option Loc}{ks:List Nat}{w':World}{b:Nat}{ob:Obj}(hb:b<S.w.heap.size)(hheap:w'.heap=S.w.heap.setIfInBounds b ob):
 (S.one m e l ks w').hp b=some ob:=by
 simp[Env.hp,Env.one,hheap,hb]
theorem snd_store{T:TypeId}{x y:Operand}(ho:o.op= .store T x y)(hk:Qax (Qri h (evO tm x) (evO tm y) K) (tI P T)):Qbp P tm h nx o K:=by
 cases hT:tI P T with
 |none=>rw[hT] at hk;exact hk.elim
 |some ti=>
 rw[hT] at hk;simp only[Qax,Qri] at hk;obtain⟨hz,hcl,hone,hk⟩:=hk;have hany:evO tm y≠ .any:=by intro hh;rw[hh] at hcl;simp only[AV.cells,ZbB] at hcl;exact hz hcl.symm
 cases hx:evO tm x<;>rw[hx] at hk<;>try exact hk.elim
 case ptr n p=>
  simp only[Qh8] at hk;cases hn:h n with
  |none=>rw[hn] at hk;exact hk.elim
  |some e=>
  rw[hn] at hk;obtain⟨mu,e⟩:=e;cases mu<;>cases e<;>try exact hk.elim
  rename_i U cs;simp only[sdPtr] at hk;obtain⟨hlen,hk⟩:=hk;refine⟨_,_,OpT.one (u:=[n]) (ks:=[n]) (m:=n) (cnt:=0) (.inr ⟨rfl,by simp,by rw[hn];simp⟩) ?_,hk⟩;intro C S a hW hu _ _ hops;have h1:=hops x (by rw[ho];simp[Op.operands]);have h2:=hops y (by rw[ho];simp[Op.operands]);have hS:S.h n=some (true,.cells U cs):=(hu n (by simp)).trans hn;rw[hx] at h1;simp only[conc] at h1;obtain⟨l,hl,hv⟩:=h1.2 _ hS;have ho1:=hW.obj _ _ hS;simp only[objc] at ho1;obtain⟨lc,vs,hlc,hp0,hb,hcs⟩:=ho1;rw[hl] at hlc;obtain rfl:=Zac hlc;have h3:=Qgi hany h2;have h4:=Qbs _ _ h3;have h5:=Qbs _ _ hcs;rw[hp0,ZbR] at hv;obtain⟨w',hrun,hheap,hos,htp,hout⟩:=Qiq hT (w:=S.w) (b:=l.b) (p:=p) (U:=U) (vs:=vs) (v:=a.eval y) (by simpa[hcl] using h4) (Qd9 _ _ hone h3)
   (by have:vs.size=cs.length:=by simpa using h5
       omega) hb
  refine⟨undef,w',some l,.inr ⟨by simp[execOp,ho,hv,hrun],rfl⟩,Qjw hW hS hl hheap hos htp hout rfl rfl,?_⟩;intro hp;refine⟨?_,by simp only[conc]⟩;simp only[objc];have hX: ∀q:Nat,S.h n≠none\/q≠n:=fun q=> .inl (by rw[hS];simp)
  refine⟨l,_,rfl,hp0,Qpq (hW.loc n _ l hS hl).1 hheap,?_⟩;exact Qml (Qcm hp _ _ (fun q _=>hX q) hcs) (Qcm hp _ _ (fun q _=>hX q) h3) (by omega)
 case eptr n i p=>
  simp only[Qh8] at hk;cases hn:h n with
  |none=>rw[hn] at hk;exact hk.elim
  |some e=>
  rw[hn] at hk;obtain⟨mu,e⟩:=e;cases mu<;>cases e<;>try exact hk.elim
  case true.arr U k rows=>
   simp only[sdElt,Qi9,Qxz] at hk;obtain⟨hi,hk⟩:=hk;have hk:=hk rows[i] (Zad hi);cases hai:Qcr (evO tm y).cells with
   |none=>rw[hai] at hk;exact hk.elim
   |some ds=>
   rw[hai] at hk;simp only[kStD] at hk;obtain⟨hlen,hk⟩:=hk;refine⟨_,_,OpT.one (u:=[n]) (ks:=[n]) (m:=n) (cnt:=0) (.inr ⟨rfl,by simp,by rw[hn];simp⟩) ?_,hk⟩;intro C S a hW hu _ _ hops;have h1:=hops x (by rw[ho];simp[Op.operands]);have h2:=hops y (by rw[ho];simp[Op.operands]);have hS:S.h n=some (true,.arr U k rows):=(hu n (by simp)).trans hn;rw[hx] at h1;simp only[conc] at h1;obtain⟨l,hl,hv⟩:=h1.2 _ hS;have ho1:=hW.obj _ _ hS;rw[hl] at ho1;simp only[objc] at ho1;obtain⟨hLIM,hcap,vs,hb,hsz,hr⟩:=ho1;have h3:=Qgi hany h2;have h4:=Qbs _ _ h3;obtain⟨hrl,_⟩:=Qy5 i rows _ _ hr (Zad hi);simp only[AObj.esz] at hv;have hik:i*k+k<=l.cap*k:=by
    have:(i+1)*k<=l.cap*k:=Zbm k (by omega)
    rwa [ZbQ,Zct] at this
   obtain⟨w',hrun,hheap,hos,htp,hout⟩:=Qiq hT (w:=S.w) (b:=l.b) (p:=l.p+i*k+p) (U:=U) (vs:=vs) (v:=a.eval y) (by simpa[hcl] using h4) (Qd9 _ _ hone h3)
    (by omega) hb
   refine⟨undef,w',some l,.inr ⟨by simp[execOp,ho,hv,hrun],rfl⟩,Qjw hW hS hl hheap hos htp hout rfl (by simp[AObj.len]),?_⟩;intro hp;refine⟨?_,by simp only[conc]⟩;simp only[objc];have hr':=Qfu hp.ok k rows _ hr;rw[Qgl hai] at h3;have h3':=Qcu hp.ok _ _ ((Qa6 _ _).1 h3);have hdl:ds.length=ti.size:=by rw[Qgl hai] at hcl;simpa using hcl
   refine⟨by simpa using hLIM,by simpa using hcap,_,Qpq (hW.loc n _ l hS hl).1 hheap,?_,?_⟩
   .simp[Qa5,Zau,ZaH] at h4⊢;omega
   .have:=rdr_set i rows _ (a.eval y).cells.toList rows[i] ds p hr' (Zad hi) h3' (by omega) (by simp;omega)
    rw[Zep,ZcC,Qg9 _ _ _ _ (by simp;omega)];exact this
  case true.arrA U k rows=>
   simp only[sdElt,Qi9,Qyo] at hk;obtain⟨hi,hk⟩:=hk;obtain⟨hlen,hk⟩:=hk rows[i] (Zad hi);refine⟨_,_,OpT.one (u:=[n]) (ks:=[n]) (m:=n) (cnt:=0) (.inr ⟨rfl,by simp,by rw[hn];simp⟩) ?_,hk⟩;intro C S a hW hu _ _ hops;have h1:=hops x (by rw[ho];simp[Op.operands]);have h2:=hops y (by rw[ho];simp[Op.operands]);have hS:S.h n=some (true,.arrA U k rows):=(hu n (by simp)).trans hn;rw[hx] at h1;simp only[conc] at h1;obtain⟨l,hl,hv⟩:=h1.2 _ hS;have ho1:=hW.obj _ _ hS;rw[hl] at ho1;simp only[objc] at ho1;obtain⟨hLIM,hcap,vs,hb,hsz,hr⟩:=ho1;have h3:=Qgi hany h2;have h4:=Qbs _ _ h3;obtain⟨hrl,_⟩:=Qw7 i rows _ _ hr (Zad hi);simp only[AObj.esz] at hv;have hik:i*k+k<=l.cap*k:=by
    have:(i+1)*k<=l.cap*k:=Zbm k (by omega)
    rwa [ZbQ,Zct] at this
   obtain⟨w',hrun,hheap,hos,htp,hout⟩:=Qiq hT (w:=S.w) (b:=l.b) (p:=l.p+i*k+p) (U:=U) (vs:=vs) (v:=a.eval y) (by simpa[hcl] using h4) (Qd9 _ _ hone h3)
    (by omega) hb
   refine⟨undef,w',some l,.inr ⟨by simp[execOp,ho,hv,hrun],rfl⟩,Qjw hW hS hl hheap hos htp hout rfl (by simp[AObj.len]),?_⟩;intro hp;refine⟨?_,by simp only[conc]⟩;simp only[objc];have hX: ∀q:Nat,S.h n≠none\/q≠n:=fun q=> .inl (by rw[hS];simp)
   have hr':=Qgx hp k rows _ (fun q _=>hX q) hr;have h3':=Qcm hp _ _ (fun q _=>hX q) h3;refine⟨by simpa using hLIM,by simpa using hcap,_,Qpq (hW.loc n _ l hS hl).1 hheap,?_,?_⟩
   .simp[Qa5,Zau,ZaH] at h4⊢;omega
   .have:=Qu1 i rows _ (a.eval y).cells.toList rows[i] (evO tm y).cells p hr' (Zad hi) h3' (by omega) (by simp;omega)
    rw[Zep,ZcC,Qg9 _ _ _ _ (by simp;omega)];exact this
end
theorem Quk(n:Nat): ∀(xs:List Value) (off:Nat) (cs:Array Value),off+xs.length<=cs.size->
 ((xs.zipIdx n).foldl (fun (cs:Array Value) (q:Value×Nat)=>cs.setIfInBounds (off - n+q.2) q.1) cs)=(Qa5 cs.toList (off) xs).toArray\/off<n
 |xs,off,cs,h=>by
  by_cases hn:off<n
  .exact .inr hn
  left;induction xs generalizing n off cs with
  |nil=>simp[Qa5]
  |cons x xs ih=>
   simp only[ZaE] at h;simp only[List.zipIdx_cons,Zco];rw[show off - n+n=off from by omega];have h2:=ih (n+1) (off+1) (cs.setIfInBounds off x) (by simp;omega) (by omega);rw[show off+1 - (n+1)=off - n from by omega] at h2;rw[h2];congr 1;rw[Zdx];exact Qod _ _ _ _ (by simp;omega)
theorem fill_one{place:Nat->Option (Nat×Nat)}{cs:Array Value}{i off size:Nat}{v:Value}{rest:List (Nat×Value)}(hp:place i=some (off,size))(hs:v.cells.size=size)
 (hl:off+size<=cs.size):Instr.fill place cs ((i,v)::rest)=Instr.fill place (Qa5 cs.toList off v.cells.toList).toArray rest:=by
 simp only[Instr.fill,hp];rw[Zaj (by simp[hs];omega)];congr 1
 have:=Quk 0 v.cells.toList off cs (by simp;omega)
 rcases this with h|h
 .rw[<-h];rw[<-Array.foldl_toList];simp
 .omega
theorem Qsp{α:Type}(l:List α)(off:Nat)(xs:List α)(h:off+xs.length<=l.length):(Qa5 l off xs).length=l.length:=by
 simp[Qa5,Zau,ZaH];omega
section
variable {P:Program}{tm:List (Nat×AV)}{h:Nat->Option Ent}{nx:Nat}{o:Oper}{K:Kont}
theorem Qjy(pl:Nat->Option (Nat×Nat)): ∀(ps:List (Nat×AV)) {r:List AV},Qdp pl ps none=some r->False
 |[],_,h=>by simp[Qdp] at h
 |_::_,_,h=>by simp[Qdp] at h
theorem Qiw{S:Env}{a:Act}{pl place:Nat->Option (Nat×Nat)}(hpl: ∀i q,pl i=some q->place i=some q): ∀(ps:List (Nat×Operand)) (cs r:List AV) (zs:Array Value),
 Qdp pl (evP tm ps) (some cs)=some r->Qa0 S cs zs.toList->(∀p∈ps,conc S (evO tm p.2) (a.eval p.2))->
 ∃us,Instr.fill place zs (ps.map fun p=>(p.1,a.eval p.2))=some us/\Qa0 S r us.toList/\r.length=cs.length
 |[],cs,r,zs,hf,hc,_=>by
  simp only[evP,Qdp,Zae] at hf;subst hf;exact⟨zs,rfl,hc,rfl⟩
 |(i,x)::ps,cs,r,zs,hf,hc,hops=>by
  simp only[evP,Qdp] at hf;cases hp:pl i with
  |none=>rw[hp] at hf;simp only[Qt6] at hf;exact (Qjy _ _ hf).elim
  |some q=>
   obtain⟨off,size⟩:=q;rw[hp] at hf;simp only[Qt6] at hf;cases hcond:((evO tm x).cells.length==size && (Nat.blt 0 size && Nat.ble (off+size) cs.length)) with
   |false=>rw[hcond] at hf;simp only[ZaS] at hf;exact (Qjy _ _ hf).elim
   |true=>
    rw[hcond] at hf;simp only[Zbf] at hf;simp only[Zah,Zdv] at hcond;obtain⟨hl,hz,hle⟩:=hcond;have hz:0<size:=ZcP hz;have hle:off+size<=cs.length:=ZcP hle;have hx:=hops (i,x) (by simp);have hany:evO tm x≠ .any:=by intro hh;rw[hh] at hl;simp only[AV.cells,ZbB] at hl;omega
    have h3:=Qgi hany hx;have h4:=Qbs _ _ h3;have h5:=Qbs _ _ hc;have h6:=Qml hc h3 (by omega:off+(evO tm x).cells.length<=cs.length);have hlen:(Qa5 cs off (evO tm x).cells).length=cs.length:=Qsp _ _ _ (by omega);obtain⟨us,hus,hr,hrl⟩:=Qiw hpl ps _ r (Qa5 zs.toList off (a.eval x).cells.toList).toArray hf (by simpa using h6) (fun p hp=>hops p (by simp[hp]));refine⟨us,?_,hr,by omega⟩;rw[Zaq,fill_one (hpl i _ hp) (by show (a.eval x).cells.size=size;simp only[ZaW] at h4;omega) (by simp only[ZaW] at h5;omega)];exact hus
theorem Qnx(w:World): ∀(fs:List Field),(fs.all fun f=>(P.info? f.type).isSome)=true->
 (fs.mapM (m:=Sem) fun f=>do pure (f.offset,<-sizeOf f.type)).run P w= .ok (fs.map fun f=>(f.offset,((P.info? f.type).map (·.size)).getD 0)) w
 |[],_=>by simp
 |f::fs,hall=>by
  simp only[ZcA,Zah] at hall;obtain⟨i,hi⟩:=ZeH.1 hall.1;have ih:=Qnx w fs hall.2;have hs:(sizeOf f.type).run P w= .ok i.size w:=by simp[sizeOf,typeInfo,hi]
  simp only[List.mapM_cons,Sem.run_bind,hs,Result.andThen_ok,Sem.run_pure,ih,Zaq,hi,ZaO,Zag]
theorem snd_build{T:TypeId}{ps:Array (Nat×Operand)}(ho:o.op= .build T ps)(hk:Qax (Qsy P (evP tm ps.toList) K) (tI P T)):Qbp P tm h nx o K:=by
 cases hT:tI P T with
 |none=>rw[hT] at hk;exact hk.elim
 |some ti=>
 rw[hT] at hk;simp only[Qax,Qsy] at hk;obtain⟨hl,hz,hk⟩:=hk;obtain⟨z,hzr,hzs,hzd⟩:=Qe5 hT hl hz;have hopsm: ∀{S:Env} {a:Act},(∀x∈o.op.operands,conc S (evO tm x) (a.eval x))-> ∀p∈ps.toList,conc S (evO tm p.2) (a.eval p.2):=by
  intro S a hops p hp;refine hops p.2 ?_;rw[ho];simp only[Op.operands];simp;exact⟨p.1,by simpa using hp⟩
 have hmap: ∀(a:Act),(ps.map fun (i,x)=>(i,a.eval x)).toList=ps.toList.map fun p=>(p.1,a.eval p.2):=by intro a;simp
 cases hf:ti.kind<;>rw[hf] at hk<;>try exact hk.elim
 case struct fs=>
  obtain⟨fields,hu,hall,hfs⟩:=Qut hT hf;simp only[bdK] at hk;cases hfl:Qdp (plStr fs) (evP tm ps.toList) (some (ti.zero.map .im)) with
  |none=>rw[hfl] at hk;exact hk.elim
  |some cs=>
   rw[hfl] at hk;simp only[Qabi] at hk;refine⟨_,_,OpT.pure (u:=[]) ?_,hk⟩;intro C S a hW _ hops;have hpm: ∀(w:World),(fields.mapM (m:=Sem) fun f=>do pure (f.offset,<-sizeOf f.type)).run P w= .ok (fs.toArray) w:=by
    intro w;rw[ZeC,Sem.run_map,Qnx w _ hall,hfs];rfl
   obtain⟨us,hus,hr,hrl⟩:=Qiw (S:=S) (a:=a) (place:=fun i=>fs.toArray[i]?) (fun i q hq=>by simpa[plStr] using hq) ps.toList _ cs z.cells hfl ((Qa6 _ _).2 (hzd _ _)) (hopsm hops);refine⟨.agg us,?_,by have:=Qj6 (ti:={ti with agg:=true,size:=cs.length}) hr rfl (.inl rfl);simpa using this⟩;simp only[execOp,ho,Instr.build,Sem.run_bind,hzr,Result.andThen_ok];rw[show (underlying T).run P S.w= .ok (.struct fields) S.w from by simp[underlying,hu]];simp only[Result.andThen_ok,Sem.run_bind,hpm];rw[hmap,hus];rfl
 case array m e=>
  have hu:=Qs2 hT hf;simp only[bdK] at hk;cases hE:tI P e with
  |none=>rw[hE] at hk;exact hk.elim
  |some te=>
  rw[hE] at hk;simp only[Qax,bdArr] at hk;cases hfl:Qdp (plArr te.size) (evP tm ps.toList) (some (ti.zero.map .im)) with
  |none=>rw[hfl] at hk;exact hk.elim
  |some cs=>
   rw[hfl] at hk;simp only[Qabi] at hk;refine⟨_,_,OpT.pure (u:=[]) ?_,hk⟩;intro C S a hW _ hops;obtain⟨us,hus,hr,hrl⟩:=Qiw (S:=S) (a:=a) (place:=fun i=>some (i*te.size,te.size)) (fun i q hq=>hq) ps.toList _ cs z.cells hfl ((Qa6 _ _).2 (hzd _ _)) (hopsm hops);refine⟨.agg us,?_,by have:=Qj6 (ti:={ti with agg:=true,size:=cs.length}) hr rfl (.inl rfl);simpa using this⟩;simp only[execOp,ho,Instr.build,Sem.run_bind,hzr,Result.andThen_ok];rw[show (underlying T).run P S.w= .ok (.array m e) S.w from by simp[underlying,hu]];simp only[Result.andThen_ok,Sem.run_bind,Qca hE];rw[hmap,hus];rfl
end
end Go.Ae
