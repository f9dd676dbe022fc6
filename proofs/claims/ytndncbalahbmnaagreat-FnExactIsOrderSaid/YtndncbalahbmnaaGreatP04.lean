/- What is proved: the law FnExactIsOrder returns true for every input, and each argument reads afterwards as it read before. Conditions: none. -/
import Derived.Test.YtndncbalahbmnaaGreatP03
set_option linter.all false
set_option maxHeartbeats 8000000
set_option maxRecDepth 100000
namespace Go.Ae
theorem Qti{C:Ctx}{S S':Env}(hW:Wf C S){kx:Nat→Option Nat}{τ:Nat→Nat}(hok: ∀b,S.ok b→S'.ok b∧S'.hp b=S.hp b)(hfr: ∀o e l,kx o=none→S.h o=some e→e.2.isView=false→S.ρ o=some l→S.ok l.b)
 (hren: ∀o j,kx o=some j→ ∀e',S'.h (τ j)=some e'→ ∃e,S.h o=some e∧S'.ρ (τ j)=S.ρ o∧e'.2.esz=e.2.esz∧e'.2.len=e.2.len)
 {n:Nat}{e e':AObj}(h:cvtE (cvt S.h kx n) e=some e'):(e'.esz=e.esz∧e'.len=e.len)∧ ∀l,(∀lc,l=some lc→S'.hp lc.b=S.hp lc.b)→objc S l e→objc S' l (e'.ren τ):=by
 have hm: ∀(cs ys:List AV) (vs:List Value),mapO (cvt S.h kx n) cs=some ys→Qa0 S cs vs→Qa0 S' (renL τ ys) vs:=by
  intro cs;induction cs with
  |nil=>
   intro ys vs h hc;simp only[mapO,Option.some.injEq] at h;subst h;simpa only[renL,Qa0] using hc
  |cons x cs ih2=>
   intro ys vs h hc;simp only[mapO] at h;simp only[Qa0] at hc;obtain⟨v,r,rfl,h1,h2⟩:=hc;split at h
   ·rename_i z zs hz hzs;obtain rfl:=Option.some.inj h;simp only[renL,Qa0];exact⟨v,r,rfl,Qrr hW hok hfr hren n x z v hz h1,ih2 zs r hzs h2⟩
   ·cases h
 have hmp: ∀(cs ys:List AV) (vs:List Value),mapO (cvt S.h kx n) cs=some ys→Qbv S cs vs→Qbv S' (renL τ ys) vs:=by
  intro cs;induction cs with
  |nil=>
   intro ys vs h hc;simp only[mapO,Option.some.injEq] at h;subst h;simp only[renL,Qbv]
  |cons x cs ih2=>
   intro ys vs h hc;simp only[mapO] at h;simp only[Qbv] at hc;obtain⟨v,r,rfl,h1,h2⟩:=hc;split at h
   ·rename_i z zs hz hzs;obtain rfl:=Option.some.inj h;simp only[renL,Qbv];exact⟨v,r,rfl,Qrr hW hok hfr hren n x z v hz h1,ih2 zs r hzs h2⟩
   ·cases h
 have hmr: ∀(k:Nat) (rs ys:List (List AV)) (vs:List Value),mapO (mapO (cvt S.h kx n)) rs=some ys→Qbb S k rs vs→Qbb S' k (ys.map (renL τ)) vs:=by
  intro k rs;induction rs with
  |nil=>
   intro ys vs h hc;simp only[mapO,Option.some.injEq] at h;subst h;simp only[List.map_nil,Qbb]
  |cons x rs ih2=>
   intro ys vs h hc;simp only[mapO] at h;simp only[Qbb] at hc;split at h
   ·rename_i z zs hz hzs;obtain rfl:=Option.some.inj h;simp only[List.map_cons,Qbb,Qsc];exact⟨(Qg7 _ _ hz).trans hc.1,hmp x z _ hz hc.2.1,ih2 zs _ hzs hc.2.2⟩
   ·cases h
 cases e<;>simp only[cvtE] at h
 case view cs=>
  obtain rfl:=Option.some.inj h;refine⟨⟨rfl,rfl⟩,fun l hl h=> ?_⟩;simp only[AObj.ren,objc] at h⊢;obtain⟨lc,vs,T,fr,h1,h2,h3⟩:=h;exact⟨lc,vs,T,fr,h1,(hl lc h1).trans h2,Qfm hok cs _ h3⟩
 case cells T cs=>
  simp only[Option.map_eq_some_iff] at h;obtain⟨ys,h1,rfl⟩:=h;refine⟨⟨rfl,rfl⟩,fun l hl h=> ?_⟩;simp only[AObj.ren,objc] at h⊢;obtain⟨lc,vs,g1,g2,g3,g4⟩:=h;exact⟨lc,vs,g1,g2,(hl lc g1).trans g3,hm cs ys _ h1 g4⟩
 case arr T k rows=>
  obtain rfl:=Option.some.inj h;refine⟨⟨rfl,rfl⟩,fun l hl h=> ?_⟩;simp only[AObj.ren,objc] at h⊢;refine⟨h.1,?_⟩;cases l with
  |none=>exact h.2
  |some lc=>
   obtain⟨h0,h1,vs,h2,h3,h4⟩:=h;exact⟨h1,vs,(hl lc rfl).trans h2,h3,Qfu hok k rows _ h4⟩
 case arrA T k rows=>
  simp only[Option.map_eq_some_iff] at h;obtain⟨ys,h1,rfl⟩:=h;have hlen:=Qg7 _ _ h1;refine⟨⟨rfl,hlen⟩,fun l hl h=> ?_⟩;simp only[AObj.ren,objc,List.length_map,hlen] at h⊢;refine⟨h.1,?_⟩;cases l with
  |none=>
   have:=h.2
   subst this;simp only[mapO,Option.some.injEq] at h1;subst h1;rfl
  |some lc=>
   obtain⟨h0,h2,vs,h3,h4,h5⟩:=h;exact⟨h2,vs,(hl lc rfl).trans h3,h4,hmr k rows ys _ h1 h5⟩
 case map kt es=>
  obtain rfl:=Option.some.inj h;refine⟨⟨rfl,rfl⟩,fun l hl h=> ?_⟩;simp only[AObj.ren,objc] at h⊢;obtain⟨lc,ents,clock,h1,h0,h2,h3,h4⟩:=h;exact⟨lc,ents,clock,h1,h0,(hl lc h1).trans h2,Qc6 hok es _ h3,h4⟩
 case chan q cap=>
  obtain rfl:=Option.some.inj h;refine⟨⟨rfl,rfl⟩,fun l hl h=> ?_⟩;simp only[AObj.ren,objc] at h⊢;obtain⟨lc,buf,sent,rcvd,h1,h2,h3⟩:=h;exact⟨lc,buf,sent,rcvd,h1,(hl lc h1).trans h2,Qcu hok q _ h3⟩
 case iter last left=>
  obtain rfl:=Option.some.inj h;refine⟨⟨rfl,rfl⟩,fun l hl h=> ?_⟩;simp only[AObj.ren,objc] at h⊢;obtain⟨lc,mb,ents,clock,seen,h1,h2,h0,h3,h4,h5,h6,h7⟩:=h;exact⟨lc,mb,ents,clock,seen,h1,(hok mb h2).1,Qly hok last h0,(hok mb h2).2.trans h3,(hl lc h1).trans h4,h5,h6,Qc6 hok left _ h7⟩
theorem cvtE_view{f:AV→Option AV}{e e':AObj}(h:cvtE f e=some e'):e'.isView=e.isView:=by
 cases e<;>simp only[cvtE,Option.map_eq_some_iff,Option.some.injEq] at h
 ·obtain⟨_,_,rfl⟩:=h;rfl
 ·subst h;rfl
 ·obtain⟨_,_,rfl⟩:=h;rfl
 all_goals subst h;rfl
end Go.Ae
namespace Go.Ae
def Le(d d':D):Prop:= ∀ok hp v,rd ok hp d v→rd ok hp d' v
def LeS:List D→List D→Prop
 |[],[]=>True
 |d::r,d'::r'=>Le d d'∧LeS r r'
 |[],_::_=>False
 |_::_,[]=>False
theorem Le.refl(d:D):Le d d:=fun _ _ _ h=>h
theorem LeS.refl: ∀(ds:List D),LeS ds ds
 |[]=>trivial
 |d::ds=>⟨Le.refl d,LeS.refl ds⟩
theorem LeS.len: ∀{a b:List D},LeS a b→a.length=b.length
 |[],[],_=>rfl
 |_::_,_::_,h=>by simp[LeS.len h.2]
theorem LeS.rdl: ∀{a b:List D},LeS a b→ ∀ok hp vs,Ae.rdl ok hp a vs→Ae.rdl ok hp b vs
 |[],[],_,ok,hp,vs,h=>h
 |_::_,_::_,hl,ok,hp,vs,h=>by
  simp only[Ae.rdl] at h⊢;obtain⟨v,r,rfl,h1,h2⟩:=h;exact⟨v,r,rfl,hl.1 _ _ _ h1,LeS.rdl hl.2 _ _ _ h2⟩
def LeP:List D→List D→Prop
 |_,[]=>True
 |d::r,d'::r'=>Le d d'∧LeP r r'
 |[],_::_=>False
theorem LeP.rdp: ∀{a b:List D},LeP a b→ ∀ok hp vs,Ae.rdp ok hp a vs→Ae.rdp ok hp b vs
 |_,[],_,ok,hp,vs,h=>by simp only[Ae.rdp]
 |_::_,_::_,hl,ok,hp,vs,h=>by
  simp only[Ae.rdp] at h⊢;obtain⟨v,r,rfl,h1,h2⟩:=h;exact⟨v,r,rfl,hl.1 _ _ _ h1,LeP.rdp hl.2 _ _ _ h2⟩
 |[],_::_,h,_,_,_,_=>h.elim
theorem LeS.leP: ∀{a b:List D},LeS a b→LeP a b
 |[],[],_=>trivial
 |_::_,_::_,h=>⟨h.1,LeS.leP h.2⟩
theorem LeP.refl(a:List D):LeP a a:=(LeS.refl a).leP
theorem LeP.trans_take: ∀{n:Nat} {a b:List D},LeS (a.take n) b→LeP a b
 |0,a,[],_=>by cases a<;>trivial
 |_+1,[],[],_=>trivial
 |n+1,x::a,y::b,h=>⟨h.1,LeP.trans_take (n:=n) h.2⟩
 |n+1,x::a,[],h=>h.elim
 |n+1,[],y::b,h=>h.elim
 |0,a,y::b,h=>by cases a<;>exact h.elim
theorem Qav{a b:List D}(h:LeS a b):Le (.agg a) (.agg b):=by
 intro ok hp v hv;simp only[Ae.rd] at hv⊢;obtain⟨vs,rfl,h1⟩:=hv;exact⟨vs,rfl,h.rdl _ _ _ h1⟩
theorem le_tup{a b:List D}(h:LeS a b):Le (.tup a) (.tup b):=by
 intro ok hp v hv;simp only[Ae.rd] at hv⊢;obtain⟨vs,rfl,h1⟩:=hv;exact⟨vs,rfl,h.rdl _ _ _ h1⟩
def LeR:List (List D)→List (List D)→Prop
 |[],[]=>True
 |r::rs,r'::rs'=>LeS r r'∧LeR rs rs'
 |[],_::_=>False
 |_::_,[]=>False
theorem LeR.len: ∀{a b:List (List D)},LeR a b→a.length=b.length
 |[],[],_=>rfl
 |_::_,_::_,h=>by simp[LeR.len h.2]
theorem LeR.rdr: ∀{a b:List (List D)} {k k':Nat},LeR a b→(∀r∈b,r.length=k')→ ∀ok hp vs,Ae.rdr ok hp k a vs→Ae.rdr ok hp k' b vs
 |[],[],_,_,_,_,ok,hp,vs,h=>by simp only[Ae.rdr]
 |r::rs,r'::rs',k,k',hl,hk,ok,hp,vs,h=>by
  simp only[Ae.rdr] at h⊢;have h1:=hl.1.len;have h2:=hk r' (by simp)
  have:k=k':=by rw[←h.1,h1,h2]
  subst this;exact⟨h2,hl.1.leP.rdp _ _ _ h.2.1,LeR.rdr hl.2 (fun x hx=>hk x (by simp[hx])) _ _ _ h.2.2⟩
theorem Qbf{nz:Bool}{k k':Nat}{a b:List (List D)}(h:LeR a b)(hk: ∀r∈b,r.length=k'):Le (.sl nz k a) (.sl false k' b):=by
 intro ok hp v hv;simp only[Ae.rd] at hv⊢;rcases hv with ⟨h1,h2⟩|⟨bb,p,cap,vs,T,fr,h1,h2,h3,h4,h5,h6,h7⟩
 ·subst h2;cases b with
  |nil=>exact .inl ⟨slM_false h1,rfl⟩
  |cons _ _=>exact h.elim
 ·exact .inr ⟨bb,p,cap,vs,T,fr,by rw[←h.len];exact h1,by simp,by rw[←h.len];exact h3,by rw[←h.len];exact h4,h5,h6,h.rdr hk _ _ _ h7⟩
theorem Qos{g:FuncId}{a b:List D}(h:LeS a b):Le (.fn g [] a) (.fn g [] b):=by
 intro ok hp v hv;simp only[Ae.rd] at hv⊢;obtain⟨x,y,h1,h2,h3⟩:=hv;exact⟨x,y,h1,h2,h.rdl _ _ _ h3⟩
theorem le_fn1{g:FuncId}{a b:List D}(h:LeS a b):Le (.fn g a []) (.fn g b []):=by
 intro ok hp v hv;simp only[rd] at hv⊢;obtain⟨x,c,rfl,h1,h2⟩:=hv;exact⟨x,c,rfl,h.rdl _ _ _ h1,h2⟩
theorem Qil{a b:List D}(h:LeP a b):Le (.ref a) (.ref b):=by
 intro ok hp v hv;simp only[Ae.rd] at hv⊢;obtain⟨bb,p,vs,T,fr,h1,h2,h3,h4⟩:=hv;exact⟨bb,p,vs,T,fr,h1,h2,h3,h.rdp _ _ _ h4⟩
def decR{A:Type}(f:List D→Option A):List (List D)→Option (List A)
 |[]=>some []
 |r::rs=>match f r,decR f rs with
  |some x,some xs=>some (x::xs)
  |_,_=>none
theorem Qb4{A:Type}{f:List D→Option A}{e:A→List D}(h: ∀x,f (e x)=some x): ∀(l:List A),decR f (l.map e)=some l
 |[]=>rfl
 |x::l=>by simp only[List.map_cons,decR,h x,Qb4 h l]
theorem Qa2{A:Type}{f:List D→Option A}{e:A→List D}(h: ∀ds x,f ds=some x→LeS ds (e x)): ∀(rows:List (List D)) (l:List A),decR f rows=some l→LeR rows (l.map e)
 |[],l,hl=>by simp only[decR,Option.some.injEq] at hl;subst hl;trivial
 |r::rs,l,hl=>by
  simp only[decR] at hl;split at hl
  ·rename_i x xs hx hxs;obtain rfl:=Option.some.inj hl;exact⟨h r x hx,Qa2 h rs xs hxs⟩
  ·cases hl
abbrev Row:=List AV→(Nat→Option Ent)→Nat→Kont→Prop
def tab:List (Nat×Row)→Qbh
 |[],_,_,_,_,_=>False
 |p::r,g,args,h,nx,K=>if p.1=g then p.2 args h nx K else tab r g args h nx K
def Qas(P:Program)(g:Nat)(c:Row):Prop:= ∀args h nx K,c args h nx K→Qkt P g∧ ∃r E,Qaa5 P g args h nx r E∧K r E
theorem Qaaq{P:Program}: ∀(l:List (Nat×Row)),(∀p∈l,Qas P p.1 p.2)→Qkj P (tab l)
 |[],_=>fun _ _ _ _ _ h=>h.elim
 |p::r,hl=>by
  intro g args h nx K hk;simp only[tab] at hk;split at hk
  ·rename_i he;subst he;exact hl p (by simp) args h nx K hk
  ·exact Qaaq r (fun q hq=>hl q (by simp[hq])) g args h nx K hk
def calb(P:Program)(g:Nat):Bool:=match P.funcs[g]? with
 |some fn=>Nat.blt g 1000000000 && (!(fn.name== "runtime.NumGoroutine") && !fn.body.isNone)
 |none=>false
theorem Qh7{P:Program}{g:Nat}(h:calb P g=true):Qkt P g:=by
 unfold calb at h;split at h
 ·rename_i fn hf;simp only[Bool.and_eq_true,Bool.not_eq_true'] at h;exact⟨by simpa using h.1,fn,hf,h.2.1,h.2.2⟩
 ·cases h
inductive PK where
 |val (d:D)
 |ptr (cs:List D)
def Qcq:Nat→List PK→List AV
 |_,[]=>[]
 |j,.val d::r=> .im d::Qcq j r
 |j,.ptr _::r=> .ptr j 0::Qcq (j+1) r
def Qc5:Nat→List PK→Qan
 |_,[]=>[]
 |j,.val _::r=>Qc5 j r
 |j,.ptr cs::r=>(j,(false,.view cs))::Qc5 (j+1) r
def cnum:List PK→Nat
 |[]=>0
 | .val _::r=>cnum r
 | .ptr _::r=>cnum r+1
def PKc(S:Env):PK→Value→Prop
 | .val d,v=>rd S.ok S.hp d v
 | .ptr cs,v=> ∃b p vs T fr,v= .pointer (some ⟨b,p,none⟩)∧b<S.w.heap.size∧S.hp b=some (.cells vs T fr)∧rdp S.ok S.hp cs (vs.toList.drop p)
def PKL(S:Env):List PK→List Value→Prop
 |[],vs=>vs=[]
 |p::ps,vs=> ∃v r,vs=v::r∧PKc S p v∧PKL S ps r
def LeK:PK→PK→Prop
 | .val d,.val d'=>Le d d'
 | .ptr a,.ptr b=>LeP a b
 | .val _,.ptr _=>False
 | .ptr _,.val _=>False
def LeKL:List PK→List PK→Prop
 |[],[]=>True
 |p::r,p'::r'=>LeK p p'∧LeKL r r'
 |[],_::_=>False
 |_::_,[]=>False
theorem LeK.c{S:Env}{p p':PK}{v:Value}(h:LeK p p')(hv:PKc S p v):PKc S p' v:=by
 cases p<;>cases p'<;>simp only[LeK] at h<;>simp only[PKc] at hv⊢
 ·exact h _ _ _ hv
 ·obtain⟨b,p,vs,T,fr,h1,h2,h3,h4⟩:=hv;exact⟨b,p,vs,T,fr,h1,h2,h3,h.rdp _ _ _ h4⟩
theorem LeKL.c{S:Env}: ∀{a b:List PK} {vs:List Value},LeKL a b→PKL S a vs→PKL S b vs
 |[],[],_,_,h=>h
 |_::_,_::_,vs,hl,h=>by
  simp only[PKL] at h⊢;obtain⟨v,r,rfl,h1,h2⟩:=h;exact⟨v,r,rfl,hl.1.c h1,LeKL.c hl.2 h2⟩
theorem LeK.refl(p:PK):LeK p p:=by cases p;exact Le.refl _;exact LeP.refl _
theorem LeKL.refl: ∀(a:List PK),LeKL a a
 |[]=>trivial
 |p::a=>⟨LeK.refl p,LeKL.refl a⟩
theorem PKL.len{S:Env}: ∀{ps:List PK} {vs:List Value},PKL S ps vs→vs.length=ps.length
 |[],vs,h=>by simp only[PKL] at h;simp[h]
 |_::_,vs,h=>by
  simp only[PKL] at h;obtain⟨v,r,rfl,_,h2⟩:=h;simp[PKL.len h2]
theorem Qee: ∀(j:Nat) (ps:List PK),(Qcq j ps).length=ps.length
 |_,[]=>rfl
 |j,.val _::r=>by simp[Qcq,Qee j r]
 |j,.ptr _::r=>by simp[Qcq,Qee (j+1) r]
theorem Qbm: ∀(j:Nat) (ps:List PK) (n:Nat) (e:Ent),hget (Qc5 j ps) n=some e→(j≤n∧n<j+cnum ps)∧ ∃cs,e=(false,.view cs)
 |_,[],n,e,h=>by simp[Qc5,hget] at h
 |j,.val _::r,n,e,h=>by simpa[Qc5,cnum] using Qbm j r n e h
 |j,.ptr cs::r,n,e,h=>by
  simp only[Qc5,hget] at h;simp only[cnum];cases hq:j==n<;>rw[hq] at h
  ·obtain⟨h1,h2⟩:=Qbm (j+1) r n e (by simpa using h);exact⟨by omega,h2⟩
  ·have:j=n:=by simpa using hq
   simp only[cond_true,Option.some.injEq] at h;exact⟨by omega,cs,h.symm⟩
theorem Qic: ∀(j:Nat) (ps:List PK) (n:Nat),j+cnum ps≤n→ ∀m∈nmsL (Qcq j ps),m<n
 |_,[],n,_,m,hm=>by simp[Qcq,nmsL] at hm
 |j,.val _::r,n,h,m,hm=>by
  simp only[Qcq,nmsL,AV.nms,List.nil_append] at hm;exact Qic j r n h m hm
 |j,.ptr _::r,n,h,m,hm=>by
  simp only[Qcq,nmsL,AV.nms,List.mem_append,List.mem_singleton] at hm;simp only[cnum] at h;rcases hm with rfl|hm
  ·omega
  ·exact Qic (j+1) r n (by omega) m hm
theorem Qob{S:Env}: ∀(ps:List PK) (vs:List Value) (j:Nat),PKL S ps vs→ ∃ls:Nat→Option Loc,
 (∀n e,hget (Qc5 j ps) n=some e→ ∃l,ls n=some l∧l.b<S.w.heap.size∧objc S (some l) e.2)∧
 ∀(S0:Env),S0.ok=S.ok→S0.w=S.w→(∀n,(∃e,hget (Qc5 j ps) n=some e)→S0.ρ n=ls n∧S0.h n=hget (Qc5 j ps) n)→Qa0 S0 (Qcq j ps) vs
 |[],vs,j,h=>by
  simp only[PKL] at h;exact⟨fun _=>none,fun n e he=>by simp[Qc5,hget] at he,fun S0 _ _ _=>by simp only[Qcq,Qa0];exact h⟩
 | .val d::ps,vs,j,h=>by
   simp only[PKL] at h;obtain⟨v,r,rfl,h1,h2⟩:=h;obtain⟨ls,h3,h4⟩:=Qob ps r j h2;refine⟨ls,by simpa only[Qc5] using h3,?_⟩;intro S0 hok hw hS;simp only[Qcq,Qa0,conc];refine⟨v,r,rfl,?_,h4 S0 hok hw (by simpa only[Qc5] using hS)⟩
   have:S0.hp=S.hp:=by unfold Env.hp;rw[hw]
   rw[hok,this];exact h1
 | .ptr cs::ps,vs,j,h=>by
   simp only[PKL] at h;obtain⟨v,r,rfl,h1,h2⟩:=h;obtain⟨ls,h3,h4⟩:=Qob ps r (j+1) h2;obtain⟨b,p,cells,T,fr,rfl,hb,hc,hr⟩:=h1;refine⟨fun n=>if n=j then some ⟨b,p,0⟩ else ls n,?_,?_⟩
   ·intro n e he;simp only[Qc5,hget] at he;cases hq:j==n<;>rw[hq] at he
    ·have:n≠j:=fun h'=>by subst h';simp at hq
     simp only[if_neg this];exact h3 n e (by simpa using he)
    ·have:n=j:=(by simpa using hq:j=n).symm
     simp only[cond_true,Option.some.injEq] at he;subst he;simp only[if_pos this];refine⟨_,rfl,hb,?_⟩;simp only[objc];exact⟨_,cells,T,fr,rfl,hc,hr⟩
   ·intro S0 hok hw hS;simp only[Qcq,Qa0,conc];refine⟨_,r,rfl,⟨rfl,?_⟩,h4 S0 hok hw ?_⟩
    ·intro e he;have hj:=hS j ⟨(false,.view cs),by simp only[Qc5,hget,beq_self_eq_true,cond_true]⟩;rw[hj.1];simp
    ·rintro n ⟨e,he⟩;have hn:=(Qbm (j+1) ps n e he).1;have hne:n≠j:=by omega
     have hq:(j==n)=false:=by rw[beq_eq_false_iff_ne];exact fun h=>hne h.symm
     have:=hS n ⟨e,by simp only[Qc5,hget,hq,cond_false];exact he⟩
     simp only[if_neg hne,Qc5,hget,hq,cond_false] at this;exact this
theorem view_run{P:Program}(HM:P.follows .mixedOrders=true){V:Qbh}(hV:Qkj P V){g:FuncId}{fn:Func}{c:Code}(hf:P.funcs[g]? =some fn)(hb:fn.body=some c)(hchk:chk fn.ntmps c=true)
 {ps:List PK}(hlen:ps.length≤fn.ntmps){R:RetR}{r0:D}(hR: ∀r H n,R r H n→ ∃d,r= .im d∧Le d r0)
 (hk:awp P V c (retQ P fn.results.toList (cnum ps) [] exNo (Qc5 0 ps) R) ⟨entry 0 (Qcq 0 ps),Qc5 0 ps,cnum ps⟩)
 {C:Ctx}{S:Env}{vs:Array Value}{RR:Ending→World→Prop}(hW:Wf C S)(hps:PKL S ps vs.toList)
 (hfin: ∀v S',Wf C S'→S'.h=S.h→Pres (fun _=>True) S S'→rd S'.ok S'.hp r0 v→RR (.returned v) S'.w):Calls P g vs S.w RR:=by
 refine calls_of_wp hf hb ?_;have hvs:vs.size=(Qcq 0 ps).length:=by rw[Qee];simpa using hps.len
 obtain⟨ls,hls,hcl⟩:=Qob ps vs.toList 0 hps
 let S0:Env:=⟨ls,S.ok,hget (Qc5 0 ps),S.w⟩
 let C0:Ctx:=⟨S.w,fun _=>False,S.ok,0,fun _=>none,fun _=>none,[]⟩
 have hW0:Wf C0 S0:=by
  refine⟨rfl,rfl,rfl,Nat.le_refl _,fun _ _ _=>rfl,fun _ hb=>hb,fun _ hb=> .inl hb,hW.oks,?_,?_,?_⟩
  ·intro n e he;obtain⟨l,h1,_,h3⟩:=hls n e he;have h4:S0.ρ n=some l:=h1;rw[h4];obtain⟨_,cs,rfl⟩:=Qbm 0 ps n e he;simp only[objc] at h3⊢;exact h3
  ·intro n e l he hl;obtain⟨l',h1,h2,h3⟩:=hls n e he;have h4:S0.ρ n=some l':=h1;rw[h4] at hl;obtain rfl:=Option.some.inj hl;obtain⟨_,cs,rfl⟩:=Qbm 0 ps n e he;exact⟨h2,.inr rfl⟩
  ·intro n n' e e' l l' he he' hl hl' hbb hfl;obtain⟨_,cs,rfl⟩:=Qbm 0 ps n e he;obtain⟨_,cs',rfl⟩:=Qbm 0 ps n' e' he';simp at hfl
 have hc0:Con C0 fn.ntmps ⟨entry 0 (Qcq 0 ps),Qc5 0 ps,cnum ps⟩ {tmps:=vs++Array.replicate (fn.ntmps - vs.size) undef,defers:=[]} S.w:=by
  have hargs0:Qa0 S0 (Qcq 0 ps) vs.toList:=hcl S0 rfl rfl (fun n _=>⟨rfl,rfl⟩);refine⟨S0,rfl,hW0,fun n=>rfl,?_,?_,?_,by simp;rw[Qee] at hvs;omega,rfl,Nat.zero_le _,fun o ho=>absurd ho (Nat.not_lt_zero _)⟩
  ·intro t;have h1:=Qev (S:=S0) (Qcq 0 ps) vs.toList 0 t hargs0;simp only[Nat.zero_le,if_true,Nat.sub_zero] at h1
   have:({tmps:=vs++Array.replicate (fn.ntmps - vs.size) undef,defers:=[]}:Act).eval (.tmp t)=(vs.toList[t]?).getD undef:=by
    simp only[Act.eval,Array.getD_eq_getD_getElem?,Array.getElem?_append,Array.getElem?_replicate];by_cases ht:t<vs.size
    ·simp[ht]
    ·simp only[ht,if_false]
     have:vs[t]? =none:=Array.getElem?_eq_none (by omega)
     simp only[Array.getElem?_toList,this]
     split<;>rfl
   rw[this];exact h1
  ·intro t m hm;exact Qic 0 ps (cnum ps) (by omega) m (Qgh (Qcq 0 ps) 0 t m hm)
  ·intro n e he;obtain⟨h1,cs,rfl⟩:=Qbm 0 ps n e he;exact⟨by show n<cnum ps;omega,by simp[AObj.nms]⟩
 refine wp_mono (Qo4 HM (Qvp hV) c hchk _ _ _ _ hk hc0) ?_;have fin: ∀(s:Qad) (a:Act) (w:World),retO P fn.results.toList (cnum ps) [] exNo (Qc5 0 ps) R s→Con C0 fn.ntmps s a w→a.defers=[]∧ ∃v,(results fn a.tmps).run P w= .ok v w∧RR (.returned v) w:=by
  rintro s a w hr ⟨S1,rfl,hc⟩;unfold retO at hr;cases hxs:mapO (Qj3 P s) fn.results.toList with
  |none=>rw[hxs] at hr;exact hr.elim
  |some xs=>
   rw[hxs] at hr;simp only[retO1] at hr;obtain⟨v,hrun,hconc⟩:=Qe7 hc hxs;refine⟨hc.defers,v,hrun,?_⟩;obtain⟨_,_,hr3⟩:=hr;have hSh:hget s.h=S1.h:=(funext hc.h).symm;rw[hSh] at hr3
   let kx:=kxOf (cnum ps) (exNo s (resV xs))
   have hWi:Wf C0 (S1.ice fun _=>false):=Qje hc.wf;have hfo: ∀(f:AV→Option D) (o:Nat),Qho f ((S1.ice fun _=>false).h o)=Qho f (S1.h o)∧Qsj ((S1.ice fun _=>false).h o)=Qsj (S1.h o)∧Qlb f ((S1.ice fun _=>false).h o)=Qlb f (S1.h o):=by
    intro f o;rw[show (S1.ice fun _=>false).h o=(S1.h o).map fun e=>(e.1 && false,e.2) from rfl];cases S1.h o with
    |none=>exact⟨rfl,rfl,rfl⟩
    |some e=>obtain⟨mu,e⟩:=e;cases e<;>exact⟨rfl,rfl,rfl⟩
   have hcvt: ∀(n:Nat),cvt (S1.ice fun _=>false).h kx n=cvt S1.h kx n:=by
    intro n;induction n with
    |zero=>funext x;simp[cvt]
    |succ n ih=>
     funext x;cases x with
     |own o=>simp only[cvt,ih,(hfo _ o).1]
     |mp o=>simp only[cvt,(hfo (fun _=>none) o).2.1]
     |ptr o p=>cases p<;>simp only[cvt,ih,(hfo _ o).2.2]
     |_=>simp only[cvt,ih]
   cases hcv:cvt S1.h kx 9 (resV xs) with
   |none=>rw[hcv] at hr3;exact hr3.elim
   |some r=>
    rw[hcv] at hr3;have hRr: ∃H n,R r H n:=by
     simp only[exNo,outKl,outEx,appO,retO3] at hr3;exact⟨_,_,hr3⟩
    obtain⟨H,n,hRr⟩:=hRr;obtain⟨d,rfl,hle⟩:=hR _ _ _ hRr;have hrd:=cvt_rd hWi (kx:=kx) (fun o e l _ he hv hl=>Qqe hc.wf rfl he hv hl) 9 (resV xs) d v (by rw[hcvt];exact hcv) (Qbt (Qb0 S1 _) _ _ (fun _ _=>trivial) hconc);have h1:=hWi;have hkeep: ∀b,b<S.w.heap.size→S1.w.heap[b]? =S.w.heap[b]? :=fun b hb=>hc.wf.keep b hb (fun h=>h)
    let S':Env:={S with ok:=(S1.ice fun _=>false).ok,w:=S1.w}
    have hp:Pres (fun _=>True) S S':=⟨fun b hb=>⟨h1.ok0 b hb,hkeep b (hW.oks b hb)⟩,fun o _ e' he'=>⟨e',he',rfl,rfl,rfl⟩⟩;have hW':Wf C S':=by
     refine⟨h1.os.trans hW.os,h1.tape.trans hW.tape,h1.output.trans hW.output,Nat.le_trans hW.size h1.size,?_,fun b hb=>h1.ok0 b (hW.ok0 b hb),?_,h1.oks,?_,?_,hW.inj⟩
     ·intro b hb hM;exact (hkeep b (Nat.lt_of_lt_of_le hb hW.size)).trans (hW.keep b hb hM)
     ·intro b hb;rcases h1.ok1 b hb with h|h|h
      ·exact hW.ok1 b h
      ·exact .inr (.inl (Nat.le_trans hW.size h))
      ·exact h.elim
     ·intro o e he;exact Qbr hp (fun lc hl=>hkeep lc.b (hW.loc o e lc he hl).1) _ (fun _ _=>trivial) (hW.obj o e he)
     ·intro o e l he hl;obtain⟨h2,h3⟩:=hW.loc o e l he hl;refine⟨Nat.lt_of_lt_of_le h2 h1.size,?_⟩;cases hm:e.1 with
      |false=>
       rw[hm] at h3;simp only[Bool.false_eq_true,if_false] at h3⊢;exact h3.imp (h1.ok0 _) id
      |true=>
       rw[hm] at h3;simp only[if_true] at h3⊢;refine⟨fun hok=> ?_,h3.2⟩;rcases h1.ok1 _ hok with h|h|h
       ·exact h3.1 h
       ·have h:S.w.heap.size≤l.b:=h;omega
       ·exact h.elim
    exact hfin v S' hW' rfl hp (hle _ _ _ hrd)
 intro e a w he;cases e<;>simp only[toQ] at he<;>simp only[bodyPost]
 ·obtain⟨s,hs,hc⟩:=he;exact fin s a w hs hc
 ·obtain⟨s,hs,_⟩:=he;exact hs.elim
 ·obtain⟨s,hs,hc⟩:=he;exact fin s a w hs hc
def fzO(o:Nat):Option Ent→Option (D×Qan)
 |some (mu,.arr T k rows)=>some (.sl false k rows,bif mu then [(o,(false,.arr T k rows))] else [])
 |some (_,.cells _ _)=>none
 |some (_,.arrA _ _ _)=>none
 |some (_,.map _ _)=>none
 |some (_,.chan _ _)=>none
 |some (_,.iter _ _)=>none
 |some (_,.view _)=>none
 |none=>none
def fzM(o:Nat):Option Ent→Option (D×Qan)
 |some (mu,.map kt es)=>some (.mp kt es,bif mu then [(o,(false,.map kt es))] else [])
 |some (_,.cells _ _)=>none
 |some (_,.arr _ _ _)=>none
 |some (_,.arrA _ _ _)=>none
 |some (_,.chan _ _)=>none
 |some (_,.iter _ _)=>none
 |some (_,.view _)=>none
 |none=>none
def fzG(f:List D→D):Option (List D×Qan)→Option (D×Qan)
 |some (ds,F)=>some (f ds,F)
 |none=>none
mutual
def fzD(h:Nat→Option Ent):AV→Option (D×Qan)
 | .im d=>some (d,[])
 | .own o=>fzO o (h o)
 | .mp o=>fzM o (h o)
 | .agg cs=>fzG .agg (fzL h cs)
 | .tup cs=>fzG .tup (fzL h cs)
 | .any=>none
 | .ptr _ _=>none
 | .eptr _ _ _=>none
 | .ch _=>none
 | .it _=>none
 | .osl _ _ _=>none
 | .clo _ _ _=>none
def fzL(h:Nat→Option Ent):List AV→Option (List D×Qan)
 |[]=>some ([],[])
 |x::r=>cpC (fzD h x) (fzL h r)
end
def pkD:Option (D×Qan)→Option (PK×Qan)
 |some (d,F)=>some (.val d,F)
 |none=>none
def pkI:D→PK
 | .ref cs=> .ptr cs
 | .int k n=> .val (.int k n)
 | .bool b=> .val (.bool b)
 | .str s=> .val (.str s)
 | .nilp=> .val .nilp
 | .nilf=> .val .nilf
 | .nili=> .val .nili
 | .nilc=> .val .nilc
 | .nilm=> .val .nilm
 | .agg cs=> .val (.agg cs)
 | .tup cs=> .val (.tup cs)
 | .sl nz k rows=> .val (.sl nz k rows)
 | .mp kt es=> .val (.mp kt es)
 | .fn f a b=> .val (.fn f a b)
 | .ifc t d=> .val (.ifc t d)
 | .gp g=> .val (.gp g)
def pkC:Option (List D)→Option (PK×Qan)
 |some ds=>some (.ptr ds,[])
 |none=>none
def pkO(off:Nat):Option Ent→Option (PK×Qan)
 |some (_,.cells _ cs)=>pkC (Qcr (cs.drop off))
 |some (_,.view cs)=>some (.ptr (cs.drop off),[])
 |some (_,.arr _ _ _)=>none
 |some (_,.arrA _ _ _)=>none
 |some (_,.map _ _)=>none
 |some (_,.chan _ _)=>none
 |some (_,.iter _ _)=>none
 |none=>none
def pk1(h:Nat→Option Ent):AV→Option (PK×Qan)
 | .im d=>some (pkI d,[])
 | .ptr o off=>pkO off (h o)
 | .own o=>pkD (fzD h (.own o))
 | .mp o=>pkD (fzD h (.mp o))
 | .agg cs=>pkD (fzD h (.agg cs))
 | .tup cs=>pkD (fzD h (.tup cs))
 | .any=>none
 | .eptr _ _ _=>none
 | .ch _=>none
 | .it _=>none
 | .osl _ _ _=>none
 | .clo _ _ _=>none
def Qo3:Option (PK×Qan)→Option (List PK×Qan)→Option (List PK×Qan)
 |some (p,F),some (ps,G)=>some (p::ps,F++G)
 |some _,none=>none
 |none,_=>none
def pkL(h:Nat→Option Ent):List AV→Option (List PK×Qan)
 |[]=>some ([],[])
 |x::r=>Qo3 (pk1 h x) (pkL h r)
def decK{A:Type}(K:A→Prop):Option A→Prop
 |some a=>K a
 |none=>False
def frE(u:List Nat):Qan→Eff
 |[]=>{use:=u}
 |e::r=>{use:=u,kill:=(e::r).map (·.1),new:=e::r}
def Qa1{A:Type}(ar:List PK→Option A)(pre:A→Prop)(re:A→D)(u:List Nat)(K:Kont):Option (List PK×Qan)→Prop
 |some (ps,F)=>decK (fun a=>pre a∧K (.im (re a)) (frE u F)) (ar ps)
 |none=>False
def vrow{A:Type}(ar:List PK→Option A)(pre:A→Prop)(re:A→D):Row:=fun args h _ K=>Qa1 ar pre re (nmsL args) K (pkL h args)
def FzOk(S:Env)(F:Qan):Prop:= ∀n e,(n,e)∈F→ ∃mu,S.h n=some (mu,e.2)∧e.1=false
theorem FzOk.app{S:Env}{F G:Qan}(h1:FzOk S F)(h2:FzOk S G):FzOk S (F++G):=by
 intro n e he;rcases List.mem_append.1 he with he|he
 ·exact h1 n e he
 ·exact h2 n e he
def XF(F:Qan)(X:Nat→Bool):Prop:= ∀n∈F.map (·.1),X n=false
theorem XF.app{F G:Qan}{X:Nat→Bool}(h:XF (F++G) X):XF F X∧XF G X:=by
 unfold XF at*;simp only[List.map_append,List.mem_append] at h;exact⟨fun n hn=>h n (.inl hn),fun n hn=>h n (.inr hn)⟩
section
variable {C:Ctx}{S:Env}{h:Nat→Option Ent}
theorem fzO_spec(hW:Wf C S){o:Nat}{d:D}{F:Qan}{v:Value}(hh:S.h o=h o)(hd:fzO o (h o)=some (d,F))(hc:conc S (.own o) v):FzOk S F∧ ∀X,XF F X→rd (S.ice X).ok (S.ice X).hp d v:=by
 cases ho:h o with
 |none=>rw[ho] at hd;simp[fzO] at hd
 |some e=>
  obtain⟨mu,e⟩:=e;rw[ho] at hd hh;cases e<;>simp only[fzO,reduceCtorEq] at hd;rename_i T k rows;simp only[Option.some.injEq,Prod.mk.injEq] at hd;obtain⟨rfl,rfl⟩:=hd;refine⟨?_,fun X hX=> ?_⟩
  ·cases mu with
   |false=>intro n e he;cases he
   |true=>
    intro n e he;simp only[cond_true,List.mem_singleton,Prod.mk.injEq] at he;obtain⟨rfl,rfl⟩:=he;exact⟨true,hh,rfl⟩
  ·have hWi:Wf C (S.ice X):=Qje hW;have hc':=Qbt (Qb0 S X) _ _ (fun _ _=>trivial) hc;have he:(S.ice X).h o=some (mu && X o,.arr T k rows):=by
    show (S.h o).map _=_;rw[hh];rfl
   refine frz_own (f:=fun _=>none) hWi (fun x d v hx=>by cases hx) ?_ (by rw[he];rfl) hc';intro e' l he' hv hl;cases mu with
   |true=>exact Qqe hW (hX o (by simp)) he' hv hl
   |false=>
    rw[he] at he';obtain rfl:=Option.some.inj he'
    have:=(hWi.loc o _ l he hl).2
    simp only[Bool.false_and,Bool.false_eq_true,if_false] at this;rcases this with h1|h1
    ·exact h1
    ·cases h1
theorem fzM_spec(hW:Wf C S){o:Nat}{d:D}{F:Qan}{v:Value}(hh:S.h o=h o)(hd:fzM o (h o)=some (d,F))(hc:conc S (.mp o) v):FzOk S F∧ ∀X,XF F X→rd (S.ice X).ok (S.ice X).hp d v:=by
 cases ho:h o with
 |none=>rw[ho] at hd;simp[fzM] at hd
 |some e=>
  obtain⟨mu,e⟩:=e;rw[ho] at hd hh;cases e<;>simp only[fzM,reduceCtorEq] at hd;rename_i kt es;simp only[Option.some.injEq,Prod.mk.injEq] at hd;obtain⟨rfl,rfl⟩:=hd;refine⟨?_,fun X hX=> ?_⟩
  ·cases mu with
   |false=>intro n e he;cases he
   |true=>
    intro n e he;simp only[cond_true,List.mem_singleton,Prod.mk.injEq] at he;obtain⟨rfl,rfl⟩:=he;exact⟨true,hh,rfl⟩
  ·have hWi:Wf C (S.ice X):=Qje hW;have hc':=Qbt (Qb0 S X) _ _ (fun _ _=>trivial) hc;have he:(S.ice X).h o=some (mu && X o,.map kt es):=by
    show (S.h o).map _=_;rw[hh];rfl
   refine frz_mp hWi ?_ (by rw[he];rfl) hc';intro e' l he' hv hl;cases mu with
   |true=>exact Qqe hW (hX o (by simp)) he' hv hl
   |false=>
    rw[he] at he';obtain rfl:=Option.some.inj he'
    have:=(hWi.loc o _ l he hl).2
    simp only[Bool.false_and,Bool.false_eq_true,if_false] at this;rcases this with h1|h1
    ·exact h1
    ·cases h1
mutual
theorem Qaai(hW:Wf C S): ∀(x:AV) (d:D) (F:Qan) (v:Value),(∀n∈x.nms,S.h n=h n)→fzD h x=some (d,F)→conc S x v→FzOk S F∧ ∀X,XF F X→rd (S.ice X).ok (S.ice X).hp d v
 | .im d',d,F,v,_,hd,hc=>by
   simp only[fzD,Option.some.injEq,Prod.mk.injEq] at hd;obtain⟨rfl,rfl⟩:=hd;simp only[conc] at hc;exact⟨(fun n e he=>by cases he),fun X _=>Qb8 (Qb0 S X).ok _ _ hc⟩
 | .own o,d,F,v,hh,hd,hc=>by
   simp only[fzD] at hd;exact fzO_spec hW (hh o (by simp[AV.nms])) hd hc
 | .mp o,d,F,v,hh,hd,hc=>by
   simp only[fzD] at hd;exact fzM_spec hW (hh o (by simp[AV.nms])) hd hc
 | .agg cs,d,F,v,hh,hd,hc=>by
   simp only[fzD] at hd;cases hl:fzL h cs with
   |none=>rw[hl] at hd;cases hd
   |some q=>
    obtain⟨ds,G⟩:=q;rw[hl] at hd;simp only[fzG,Option.some.injEq,Prod.mk.injEq] at hd;obtain⟨rfl,rfl⟩:=hd;simp only[conc] at hc;obtain⟨vs,rfl,h1⟩:=hc;obtain⟨h2,h3⟩:=Qtb hW cs ds G vs.toList (by simpa only[AV.nms] using hh) hl h1;exact⟨h2,fun X hX=>by simp only[rd];exact⟨vs,rfl,h3 X hX⟩⟩
 | .tup cs,d,F,v,hh,hd,hc=>by
   simp only[fzD] at hd;cases hl:fzL h cs with
   |none=>rw[hl] at hd;cases hd
   |some q=>
    obtain⟨ds,G⟩:=q;rw[hl] at hd;simp only[fzG,Option.some.injEq,Prod.mk.injEq] at hd;obtain⟨rfl,rfl⟩:=hd;simp only[conc] at hc;obtain⟨vs,rfl,h1⟩:=hc;obtain⟨h2,h3⟩:=Qtb hW cs ds G vs.toList (by simpa only[AV.nms] using hh) hl h1;exact⟨h2,fun X hX=>by simp only[rd];exact⟨vs,rfl,h3 X hX⟩⟩
 | .any,d,F,v,_,hd,_=>by simp[fzD] at hd
 | .ptr _ _,d,F,v,_,hd,_=>by simp[fzD] at hd
 | .eptr _ _ _,d,F,v,_,hd,_=>by simp[fzD] at hd
 | .ch _,d,F,v,_,hd,_=>by simp[fzD] at hd
 | .it _,d,F,v,_,hd,_=>by simp[fzD] at hd
 | .osl _ _ _,d,F,v,_,hd,_=>by simp[fzD] at hd
 | .clo _ _ _,d,F,v,_,hd,_=>by simp[fzD] at hd
theorem Qtb(hW:Wf C S): ∀(xs:List AV) (ds:List D) (F:Qan) (vs:List Value),(∀n∈nmsL xs,S.h n=h n)→fzL h xs=some (ds,F)→Qa0 S xs vs→FzOk S F∧ ∀X,XF F X→rdl (S.ice X).ok (S.ice X).hp ds vs
 |[],ds,F,vs,_,hd,hc=>by
  simp only[fzL,Option.some.injEq,Prod.mk.injEq] at hd;obtain⟨rfl,rfl⟩:=hd;simp only[Qa0] at hc;exact⟨(fun n e he=>by cases he),fun X _=>by simp only[rdl];exact hc⟩
 |x::xs,ds,F,vs,hh,hd,hc=>by
  simp only[nmsL,List.mem_append] at hh;simp only[fzL] at hd;simp only[Qa0] at hc;obtain⟨v,r,rfl,h1,h2⟩:=hc;cases hx:fzD h x with
  |none=>rw[hx] at hd;simp[cpC] at hd
  |some q=>
   obtain⟨d,E⟩:=q;cases hl:fzL h xs with
   |none=>rw[hx,hl] at hd;simp[cpC] at hd
   |some q2=>
    obtain⟨ds',G⟩:=q2;rw[hx,hl] at hd;simp only[cpC,Option.some.injEq,Prod.mk.injEq] at hd;obtain⟨rfl,rfl⟩:=hd;obtain⟨a1,a2⟩:=Qaai hW x d E v (fun n hn=>hh n (.inl hn)) hx h1;obtain⟨b1,b2⟩:=Qtb hW xs ds' G r (fun n hn=>hh n (.inr hn)) hl h2;refine⟨a1.app b1,fun X hX=> ?_⟩;obtain⟨c1,c2⟩:=hX.app;simp only[rdl];exact⟨v,r,rfl,a2 X c1,b2 X c2⟩
end
theorem Qyv(hW:Wf C S){d:D}{v:Value}(hd:rd S.ok S.hp d v):PKc S (pkI d) v:=by
 cases d<;>try exact hd
 rename_i cs;simp only[rd] at hd;obtain⟨b,p,vs,T,fr,h1,h2,h3,h4⟩:=hd;exact⟨b,p,vs,T,fr,h1,hW.oks b h2,h3,h4⟩
theorem pk1_spec(hW:Wf C S){x:AV}{p:PK}{F:Qan}{v:Value}(hh: ∀n∈x.nms,S.h n=h n)(hp:pk1 h x=some (p,F))(hc:conc S x v):FzOk S F∧ ∀X,XF F X→PKc (S.ice X) p v:=by
 have key:pkD (fzD h x)=some (p,F)→FzOk S F∧ ∀X,XF F X→PKc (S.ice X) p v:=by
  intro hp;cases hx:fzD h x with
  |none=>rw[hx] at hp;cases hp
  |some q=>
   obtain⟨d,G⟩:=q;rw[hx] at hp;simp only[pkD,Option.some.injEq,Prod.mk.injEq] at hp;obtain⟨rfl,rfl⟩:=hp;obtain⟨h1,h2⟩:=Qaai hW x d G v hh hx hc;exact⟨h1,h2⟩
 cases x<;>simp only[pk1,reduceCtorEq] at hp
 case im d=>
  simp only[Option.some.injEq,Prod.mk.injEq] at hp;obtain⟨rfl,rfl⟩:=hp;simp only[conc] at hc;exact⟨(fun n e he=>by cases he),fun X _=>Qyv (Qje hW) (Qb8 (Qb0 S X).ok _ _ hc)⟩
 case ptr o off=>
  have ho:=hh o (by simp[AV.nms]);cases hn:h o with
  |none=>rw[hn] at hp;simp[pkO] at hp
  |some e=>
   obtain⟨mu,e⟩:=e;rw[hn] at hp ho;have hob:=hW.obj o _ ho;simp only[conc] at hc;obtain⟨l,hl,hv⟩:=hc.2 _ ho;have hlt:=(hW.loc o _ l ho hl).1;cases e<;>simp only[pkO,reduceCtorEq] at hp
   case cells T cs=>
    cases ha:Qcr (cs.drop off) with
    |none=>rw[ha] at hp;cases hp
    |some ds=>
     rw[ha] at hp;simp only[pkC,Option.some.injEq,Prod.mk.injEq] at hp;obtain⟨rfl,rfl⟩:=hp;refine⟨(fun n e he=>by cases he),fun X _=> ?_⟩;simp only[objc] at hob;obtain⟨lc,vs,h1,h2,h3,h4⟩:=hob;rw[hl] at h1;obtain rfl:=Option.some.inj h1;simp only[PKc];refine⟨l.b,l.p+off,vs,_,_,hv,hlt,h3,?_⟩;rw[h2,Nat.zero_add];have h5:Qa0 S (cs.drop off) (vs.toList.drop off):=by
      have: ∀(n:Nat) (a:List AV) (b:List Value),Qa0 S a b→Qa0 S (a.drop n) (b.drop n):=by
       intro n;induction n with
       |zero=>intro a b h;simpa using h
       |succ n ih=>
        intro a b h;cases a with
        |nil=>simp only[Qa0] at h;subst h;simp[Qa0]
        |cons x a=>
         simp only[Qa0] at h;obtain⟨v,r,rfl,_,h⟩:=h;simpa using ih a r h
      exact this off cs _ h4
     exact Qse ds _ (Qcu (Qb0 S X).ok _ _ (Qov _ ds _ ha h5))
   case view cs=>
    simp only[Option.some.injEq,Prod.mk.injEq] at hp;obtain⟨rfl,rfl⟩:=hp;refine⟨(fun n e he=>by cases he),fun X _=> ?_⟩;simp only[objc] at hob;obtain⟨lc,vs,T,fr,h1,h2,h3⟩:=hob;rw[hl] at h1;obtain rfl:=Option.some.inj h1;simp only[PKc];refine⟨l.b,l.p+off,vs,T,fr,hv,hlt,h2,?_⟩;rw[←List.drop_drop]
    have: ∀(n:Nat) (a:List D) (b:List Value),rdp S.ok S.hp a b→rdp S.ok S.hp (a.drop n) (b.drop n):=by
     intro n;induction n with
     |zero=>intro a b h;simpa using h
     |succ n ih=>
      intro a b h;cases a with
      |nil=>simp[rdp]
      |cons x a=>
       simp only[rdp] at h;obtain⟨v,r,rfl,_,h⟩:=h;simpa using ih a r h
    exact Qfm (Qb0 S X).ok _ _ (this off cs _ h3)
 all_goals exact key hp
theorem Qaax(hW:Wf C S): ∀(xs:List AV) (ps:List PK) (F:Qan) (vs:List Value),(∀n∈nmsL xs,S.h n=h n)→pkL h xs=some (ps,F)→Qa0 S xs vs→FzOk S F∧ ∀X,XF F X→PKL (S.ice X) ps vs
 |[],ps,F,vs,_,hd,hc=>by
  simp only[pkL,Option.some.injEq,Prod.mk.injEq] at hd;obtain⟨rfl,rfl⟩:=hd;simp only[Qa0] at hc;exact⟨(fun n e he=>by cases he),fun X _=>by simp only[PKL];exact hc⟩
 |x::xs,ps,F,vs,hh,hd,hc=>by
  simp only[nmsL,List.mem_append] at hh;simp only[pkL] at hd;simp only[Qa0] at hc;obtain⟨v,r,rfl,h1,h2⟩:=hc;cases hx:pk1 h x with
  |none=>rw[hx] at hd;simp[Qo3] at hd
  |some q=>
   obtain⟨p,E⟩:=q;cases hl:pkL h xs with
   |none=>rw[hx,hl] at hd;simp[Qo3] at hd
   |some q2=>
    obtain⟨ps',G⟩:=q2;rw[hx,hl] at hd;simp only[Qo3,Option.some.injEq,Prod.mk.injEq] at hd;obtain⟨rfl,rfl⟩:=hd;obtain⟨a1,a2⟩:=pk1_spec hW (fun n hn=>hh n (.inl hn)) hx h1;obtain⟨b1,b2⟩:=Qaax hW xs ps' G r (fun n hn=>hh n (.inr hn)) hl h2;refine⟨a1.app b1,fun X hX=> ?_⟩;obtain⟨c1,c2⟩:=hX.app;simp only[PKL];exact⟨v,r,rfl,a2 X c1,b2 X c2⟩
end
theorem frE_parts(u:List Nat)(F:Qan):(frE u F).use=u∧(frE u F).kill=F.map (·.1)∧(frE u F).new=F∧(frE u F).cnt=0:=by
 cases F<;>exact⟨rfl,rfl,rfl,rfl⟩
def decA{B:Type}(rc:D→Option B)(b:B):AV→Prop
 | .im d=>rc d=some b
 | .any=>False
 | .agg _=>False
 | .tup _=>False
 | .ptr _ _=>False
 | .eptr _ _ _=>False
 | .own _=>False
 | .mp _=>False
 | .ch _=>False
 | .it _=>False
 | .osl _ _ _=>False
 | .clo _ _ _=>False
def pureR{B:Type}(rc:D→Option B)(b:B):RetR:=fun r _ _=>decA rc b r
theorem Qaj{P:Program}(HM:P.follows .mixedOrders=true){V:Qbh}(hV:Qkj P V){g:FuncId}{fn:Func}{c:Code}(hf:P.funcs[g]? =some fn)(hb:fn.body=some c)(hchk:chk fn.ntmps c=true)(hcal:calb P g=true)
 {A B:Type}{ar:List PK→Option A}{ae:A→List PK}(hle: ∀ps a,ar ps=some a→LeKL ps (ae a)){n:Nat}(hn: ∀a,(ae a).length=n)(hnt:n≤fn.ntmps){rc:D→Option B}{re:B→D}(hrc: ∀d b,rc d=some b→Le d (re b))
 {pre:A→Prop}{f:A→B}
 (hk: ∀a,pre a→awp P V c (retQ P fn.results.toList (cnum (ae a)) [] exNo (Qc5 0 (ae a)) (pureR rc (f a))) ⟨entry 0 (Qcq 0 (ae a)),Qc5 0 (ae a),cnum (ae a)⟩):
 Qas P g (vrow ar pre fun a=>re (f a)):=by
 intro args h nx K hrow;unfold vrow at hrow;cases hp:pkL h args with
 |none=>rw[hp] at hrow;exact hrow.elim
 |some q=>
  obtain⟨ps,F⟩:=q;rw[hp] at hrow;simp only[Qa1] at hrow;cases ha:ar ps with
  |none=>rw[ha] at hrow;exact hrow.elim
  |some a=>
   rw[ha] at hrow;simp only[decK] at hrow;obtain⟨hpre,hK⟩:=hrow;refine⟨Qh7 hcal,_,_,?_,hK⟩;obtain⟨e1,e2,e3,e4⟩:=frE_parts (nmsL args) F;intro C S vs RR hW huse hfresh hnames hargs hfin;rw[e1,e2] at huse;obtain⟨h1,h2⟩:=Qaax hW args ps F vs.toList (fun n hn=>huse n (List.mem_append_left _ hn)) hp hargs
   let X:Nat→Bool:=fun n=> !(F.map (·.1)).contains n
   have hX:XF F X:=by
    intro n hn;simp only[X,List.contains_iff_mem.2 hn,Bool.not_true]
   have hWi:Wf C (S.ice X):=Qje hW;have happ:(S.ice X).h=(frE (nmsL args) F).appf S.h:=by
    have:=ice_appf (S:=S) (F:=F) (u:=nmsL args) h1
    rw[show (frE (nmsL args) F).appf S.h=({use:=nmsL args,kill:=F.map (·.1),new:=F}:Eff).appf S.h by
     funext m;simp only[Eff.appf,e2,e3]]
    exact this
   refine view_run HM hV hf hb hchk (S:=S.ice X) (ps:=ae a) (r0:=re (f a)) (by rw[hn];exact hnt) ?_ (hk a hpre) hWi ((hle ps a ha).c (h2 X hX)) ?_
   ·intro r H n hr;unfold pureR at hr;cases r<;>simp only[decA] at hr;exact⟨_,rfl,hrc _ _ hr⟩
   ·intro v S' hW' hh hp' hrd;refine hfin v S' hW' (by rw[hh,happ]) ?_ (by simp only[conc];exact hrd);refine⟨fun b hb=> ?_,fun o _ e' he'=> ?_⟩
    ·obtain⟨q1,q2⟩:=(Qb0 S X).ok b hb;obtain⟨q3,q4⟩:=hp'.ok b q1;exact⟨q3,q4.trans q2⟩
    ·obtain⟨e,q1,q2,q3,q4⟩:=hp'.nm o trivial e' he';obtain⟨e0,q5,q6,q7,q8⟩:=(Qb0 S X).nm o trivial e q1;exact⟨e0,q5,q2.trans q6,q3.trans q7,q4.trans q8⟩
end Go.Ae
namespace Go.Ae
def sgx(σ:Nat→Nat)(k nx j:Nat):Nat:=if j<k then σ j else nx+(j - k)
def domB(H0:Qan)(o:Nat):Bool:=(hget H0 o).isSome
def kxB(H0:Qan)(k cnt:Nat)(exB:Nat→Bool)(o:Nat):Option Nat:=bif domB H0 o||(exB o && (Nat.ble k o && Nat.blt o (k+cnt))) then some o else none
def entOk(f:AV→Option AV)(e:Ent):Option Ent→Prop
 |some (mu,e0)=>mu=e.1∧cvtE f e0=some e.2
 |none=>False
def Qhk(h:Nat→Option Ent)(f:AV→Option AV):Qan→Prop
 |[]=>True
 |(j,e)::r=>entOk f e (h j)∧Qhk h f r
def roB(h:Nat→Option Ent)(klB:Nat→Bool):Qan→Prop
 |[]=>True
 |(j,e)::r=>(bif klB j then True else h j=some e)∧roB h klB r
def retB3(R:AV→Prop):Option AV→Prop
 |some r=>R r
 |none=>False
def retB2(k cnt:Nat)(H0 H1:Qan)(klB exB:Nat→Bool)(R:AV→Prop)(s:Qad)(x:AV):Prop:=
 roB (hget s.h) klB H0∧retB3 R (cvt (hget s.h) (kxB H0 k cnt exB) 9 x)∧Qhk (hget s.h) (cvt (hget s.h) (kxB H0 k cnt exB) 9) H1
def retB1(k cnt:Nat)(H0 H1:Qan)(klB exB:Nat→Bool)(R:AV→Prop)(s:Qad):Option (List AV)→Prop
 |some xs=>retB2 k cnt H0 H1 klB exB R s (resV xs)
 |none=>False
def retB(P:Program)(rs:List ResultVar)(k cnt:Nat)(H0 H1:Qan)(klB exB:Nat→Bool)(R:AV→Prop)(s:Qad):Prop:=retB1 k cnt H0 H1 klB exB R s (mapO (Qj3 P s) rs)
def Qabl(P:Program)(rs:List ResultVar)(k cnt:Nat)(H0 H1:Qan)(klB exB:Nat→Bool)(R:AV→Prop):Qbl
 | .normal,s=>retB P rs k cnt H0 H1 klB exB R s
 | .ret,s=>retB P rs k cnt H0 H1 klB exB R s
 | .exit _,_=>False
def retN(P:Program)(rs:List ResultVar)(k cnt:Nat)(H0 H1:Qan)(klB exB:Nat→Bool)(R:AV→Prop)(s:Qad):Prop:=
 ∃(F:List Nat) (π:List (Nat×Option Nat)) (s':Qad),subP k π (fzAS F s) s'∧s'.good=true∧k≤s'.nx∧retB P rs k cnt H0 H1 klB exB R s'
def Qc7(P:Program)(rs:List ResultVar)(k cnt:Nat)(H0 H1:Qan)(klB exB:Nat→Bool)(R:AV→Prop):Qbl
 | .normal,s=>retN P rs k cnt H0 H1 klB exB R s
 | .ret,s=>retN P rs k cnt H0 H1 klB exB R s
 | .exit _,_=>False
theorem roB_mem{h:Nat→Option Ent}{klB:Nat→Bool}: ∀(H:Qan),roB h klB H→ ∀j e,(j,e)∈H→klB j=false→h j=some e
 |[],_,j,e,hm,_=>by cases hm
 |(i,x)::r,hr,j,e,hm,hj=>by
  simp only[roB] at hr;rcases List.mem_cons.1 hm with hm|hm
  ·cases hm;have h1:=hr.1;rw[hj] at h1;exact h1
  ·exact roB_mem r hr.2 j e hm hj
theorem Qve{h:Nat→Option Ent}{f:AV→Option AV}: ∀(H:Qan),Qhk h f H→ ∀j e,(j,e)∈H→ ∃e0,h j=some e0∧e.1=e0.1∧cvtE f e0.2=some e.2
 |[],_,j,e,hm=>by cases hm
 |(i,x)::r,hr,j,e,hm=>by
  simp only[Qhk] at hr;rcases List.mem_cons.1 hm with hm|hm
  ·cases hm;have h1:=hr.1;cases hq:h i with
   |none=>rw[hq] at h1;exact h1.elim
   |some y=>
    obtain⟨mu,e0⟩:=y;rw[hq] at h1;exact⟨(mu,e0),rfl,h1.1.symm,h1.2⟩
  ·exact Qve r hr.2 j e hm
theorem Qv5{σ:Nat→Nat}{D:Nat→Prop}(hσ: ∀i j,D i→D j→σ i=σ j→i=j): ∀(H:Qan),(∀p∈H,D p.1)→ ∀(j:Nat),D j→hget (renH σ H) (σ j)=(hget H j).map fun e=>(e.1,e.2.ren σ)
 |[],_,j,_=>rfl
 |(i,(mu,e))::r,hH,j,hj=>by
  simp only[renH,hget];by_cases hij:i=j
  ·subst hij;simp
  ·have h1:(i==j)=false:=by simpa using hij
   have h2:(σ i==σ j)=false:=by rw[beq_eq_false_iff_ne];exact fun h=>hij (hσ _ _ (hH _ (List.mem_cons_self ..)) hj h)
   rw[h1,h2];simpa using Qv5 hσ r (fun p hp=>hH p (List.mem_cons_of_mem _ hp)) j hj
theorem Qaa5.congr{P:Program}{g:FuncId}{args:List AV}{h:Nat→Option Ent}{nx:Nat}{r:AV}{E E':Eff}(hu: ∀n∈E.use++E.kill,n∈E'.use++E'.kill)(hc:E'.cnt=E.cnt)(ha: ∀f:Nat→Option Ent,E'.appf f=E.appf f)(hT:Qaa5 P g args h nx r E):Qaa5 P g args h nx r E':=by
 intro C S vs R hW huse hfresh hnames hargs hfin;rw[hc] at hfresh hnames hfin;exact hT C S vs R hW (fun n hn=>huse n (hu n hn)) hfresh hnames hargs (fun v S' h1 h2 h3 h4=>hfin v S' h1 (h2.trans (ha S.h).symm) h3 h4)
theorem objG{P:Program}(HM:P.follows .mixedOrders=true){V:Qbh}(hV:Qkj P V){g:FuncId}{fn:Func}{c:Code}(hf:P.funcs[g]? =some fn)(hb:fn.body=some c)(hchk:chk fn.ntmps c=true)
 {args:List AV}{H0 H1:Qan}{k cnt:Nat}(hlen:args.length≤fn.ntmps)(hbel:belL k args=true)(hbH:belH k H0=true)(hkH:Qam k H0=true)
 (hdomN: ∀j e,hget H0 j=some e→ ∀m∈e.2.nms,domB H0 m=true)
 {klB exB:Nat→Bool}{R:AV→Prop}{r0:AV}
 (hR: ∀r,R r→LeV r r0)
 (hH1: ∀p∈H1,(p.1<k∧klB p.1=true∧domB H0 p.1=true)∨(k≤p.1∧p.1<k+cnt∧exB p.1=true∧p.2.1=true))
 {Q:Qbl}(hQ: ∀(C:Ctx) (N:Nat) (a:Act) (w:World) (s:Qad),C.n0=k→Con C N s a w→Q .normal s∨Q .ret s→ ∃s',Con C N s' a w∧retB P fn.results.toList k cnt H0 H1 klB exB R s')
 (hQe: ∀i s,¬Q (.exit i) s)
 (hk:awp P V c Q ⟨entry 0 args,H0,k⟩)
 {h:Nat→Option Ent}{nx:Nat}{τ:Nat→Nat}(hinj: ∀i j,domB H0 i=true→domB H0 j=true→τ i=τ j→i=j)(hlt: ∀j,domB H0 j=true→τ j<nx)
 (hH: ∀j e,hget H0 j=some e→h (sgx τ k nx j)=some (e.1,e.2.ren (sgx τ k nx)))
 {U KL:List Nat}(hU: ∀j,domB H0 j=true→τ j∈U)(hKL1: ∀n∈KL,∃j,domB H0 j=true∧klB j=true∧n=τ j)(hKL2: ∀j,domB H0 j=true→klB j=true→τ j∈KL):
 Qaa5 P g (renL (sgx τ k nx) args) h nx (r0.ren (sgx τ k nx)) {use:=U,kill:=KL,new:=renH (sgx τ k nx) H1,cnt:=cnt}:=by
 intro C S vs RR hW huse hfresh hnames hargs hfin
 let σ:=sgx τ k nx
 let DD:Nat→Prop:=fun j=>domB H0 j=true∨k≤j
 have hdomO: ∀j e,hget H0 j=some e→domB H0 j=true:=fun j e he=>by unfold domB;rw[he];rfl
 have hdomS: ∀j,domB H0 j=true→ ∃e,hget H0 j=some e:=fun j hj=>by
  unfold domB at hj;cases hq:hget H0 j with
  |none=>rw[hq] at hj;cases hj
  |some e=>exact⟨e,rfl⟩
 have hdk: ∀j,domB H0 j=true→j<k:=fun j hj=>by
  obtain⟨e,he⟩:=hdomS j hj;exact Qhv _ hkH j e he
 have hσlo: ∀j,j<k→σ j=τ j:=fun j hj=>if_pos hj
 have hσge: ∀j,k≤j→σ j=nx+(j - k):=fun j hj=>if_neg (by omega)
 have hσin: ∀j,domB H0 j=true→σ j∈U:=fun j hj=>by rw[hσlo j (hdk j hj)];exact hU j hj
 have hσlt: ∀j,domB H0 j=true→σ j<nx:=fun j hj=>by rw[hσlo j (hdk j hj)];exact hlt j hj
 have hσinj: ∀i j,DD i→DD j→σ i=σ j→i=j:=by
  intro i j hi hj h;rcases hi with hi|hi<;>rcases hj with hj|hj
  ·rw[hσlo i (hdk i hi),hσlo j (hdk j hj)] at h;exact hinj i j hi hj h
  ·have:=hσlt i hi
   rw[h,hσge j hj] at this;omega
  ·have:=hσlt j hj
   rw[←h,hσge i hi] at this;omega
  ·rw[hσge i hi,hσge j hj] at h;omega
 have hS: ∀j e,hget H0 j=some e→S.h (σ j)=some (e.1,e.2.ren σ):=by
  intro j e he;rw[huse (σ j) (List.mem_append_left _ (hσin j (hdomO j e he)))];exact hH j e he
 refine calls_of_wp hf hb ?_;have hvl:=Qbs _ _ hargs;have hvs:vs.size=args.length:=by rw[Qsc] at hvl;simpa using hvl
 let S0:Env:=⟨fun j=>S.ρ (σ j),S.ok,hget H0,S.w⟩
 let M0:Nat→Prop:=fun b=> ∃j e l,hget H0 j=some e∧e.1=true∧S.ρ (σ j)=some l∧l.b=b
 let C0:Ctx:=⟨S.w,M0,S.ok,k,hget H0,fun j=>S.ρ (σ j),[]⟩
 have hren0: ∀n,RenP S S0 σ (fun n=>n) n:=by
  intro n;refine⟨fun e' he'=>⟨_,hS n e' he',rfl,?_,?_⟩⟩
  ·exact (Qr6 σ e'.2).symm
  ·exact (Qs6 σ e'.2).symm
 have hok0: ∀b,S.ok b→S0.ok b∧S0.hp b=S.hp b:=fun b hb=>⟨hb,rfl⟩
 have hW0:Wf C0 S0:=by
  refine⟨rfl,rfl,rfl,Nat.le_refl _,fun _ _ _=>rfl,fun _ hb=>hb,fun _ hb=> .inl hb,hW.oks,?_,?_,?_⟩
  ·intro j e he;have h1:=hW.obj _ _ (hS j e he);have h2:=Qzw (τ:=fun n=>n) hok0 (fun _ _=>rfl) e.2 (fun n _=>hren0 n) h1;rwa [Qwc] at h2
  ·intro j e l he hl;obtain⟨h1,h2⟩:=hW.loc _ _ l (hS j e he) hl;refine⟨h1,?_⟩;cases hm:e.1 with
   |false=>
    rw[hm] at h2;have hv:(e.2.ren σ).isView=e.2.isView:=by cases e.2<;>rfl
    simpa[hv] using h2
   |true=>
    rw[hm] at h2;simp only[if_true] at h2⊢;exact⟨h2.1,.inr ⟨j,e,l,he,hm,hl,rfl⟩⟩
  ·intro i j e e' l l' he he' hl hl' hbb hfl;exact hσinj _ _ (.inl (hdomO _ _ he)) (.inl (hdomO _ _ he')) (hW.inj _ _ _ _ l l' (hS i e he) (hS j e' he') hl hl' hbb hfl)
 have hc0:Con C0 fn.ntmps ⟨entry 0 args,H0,k⟩ {tmps:=vs++Array.replicate (fn.ntmps - vs.size) undef,defers:=[]} S.w:=by
  have hargs0:Qa0 S0 args vs.toList:=by
   have:=Qfd (τ:=fun n=>n) hok0 args vs.toList (fun n _=>hren0 n) hargs
   rwa [Qia] at this
  refine⟨S0,rfl,hW0,fun n=>rfl,?_,?_,fun n e he=>⟨Qhv _ hkH n e he,Qhn _ hbH n e he⟩,by simp;omega,rfl,Nat.le_refl _,fun o _ e' he'=>⟨e',he',rfl,rfl,rfl⟩⟩
  ·intro t;have h1:=Qev (S:=S0) args vs.toList 0 t hargs0;simp only[Nat.zero_le,if_true,Nat.sub_zero] at h1
   have:({tmps:=vs++Array.replicate (fn.ntmps - vs.size) undef,defers:=[]}:Act).eval (.tmp t)=(vs.toList[t]?).getD undef:=by
    simp only[Act.eval,Array.getD_eq_getD_getElem?,Array.getElem?_append,Array.getElem?_replicate];by_cases ht:t<vs.size
    ·simp[ht]
    ·simp only[ht,if_false]
     have:vs[t]? =none:=Array.getElem?_eq_none (by omega)
     simp only[Array.getElem?_toList,this]
     split<;>rfl
   rw[this];exact h1
  ·intro t m hm;exact Qfv args hbel m (Qgh args 0 t m hm)
 refine wp_mono (Qo4 HM (Qvp hV) c hchk _ _ _ _ hk hc0) ?_;have fin: ∀(s:Qad) (a:Act) (w:World),retB P fn.results.toList k cnt H0 H1 klB exB R s→Con C0 fn.ntmps s a w→a.defers=[]∧ ∃v,(results fn a.tmps).run P w= .ok v w∧RR (.returned v) w:=by
  rintro s a w hr ⟨S1,rfl,hc⟩;unfold retB at hr;cases hxs:mapO (Qj3 P s) fn.results.toList with
  |none=>rw[hxs] at hr;exact hr.elim
  |some xs=>
   rw[hxs] at hr;simp only[retB1] at hr;obtain⟨v,hrun,hconc⟩:=Qe7 hc hxs;refine⟨hc.defers,v,hrun,?_⟩;obtain⟨hro,hr3,hout⟩:=hr;have hSh:hget s.h=S1.h:=(funext hc.h).symm;rw[hSh] at hro hr3 hout
   let kx:=kxB H0 k cnt exB
   let X:Nat→Bool:=fun o=>(kx o).isSome
   have hWi:Wf C0 (S1.ice X):=Qje hc.wf;have hih: ∀o,(S1.ice X).h o=(S1.h o).map fun e=>(e.1 && X o,e.2):=fun o=>rfl
   have hfr: ∀o e l,kx o=none→(S1.ice X).h o=some e→e.2.isView=false→(S1.ice X).ρ o=some l→(S1.ice X).ok l.b:=by
    intro o e l ho he hv hl;exact Qqe hc.wf (by simp[X,ho]) he hv hl
   have hfo: ∀(f:AV→Option D) (o:Nat),Qho f ((S1.ice X).h o)=Qho f (S1.h o)∧Qsj ((S1.ice X).h o)=Qsj (S1.h o)∧Qlb f ((S1.ice X).h o)=Qlb f (S1.h o):=by
    intro f o;rw[hih];cases S1.h o with
    |none=>exact⟨rfl,rfl,rfl⟩
    |some e=>obtain⟨mu,e⟩:=e;cases e<;>exact⟨rfl,rfl,rfl⟩
   have hcvt: ∀(n:Nat),cvt (S1.ice X).h kx n=cvt S1.h kx n:=by
    intro n;induction n with
    |zero=>funext x;simp[cvt]
    |succ n ih=>
     funext x;cases x with
     |own o=>simp only[cvt,ih,(hfo _ o).1]
     |mp o=>simp only[cvt,(hfo (fun _=>none) o).2.1]
     |ptr o p=>cases p<;>simp only[cvt,ih,(hfo _ o).2.2]
     |_=>simp only[cvt,ih]
   rw[←hcvt] at hr3;have hout:Qhk S1.h (cvt (S1.ice X).h kx 9) H1:=by rw[hcvt];exact hout
   cases hcv:cvt (S1.ice X).h kx 9 (resV xs) with
   |none=>rw[hcv] at hr3;exact hr3.elim
   |some r=>
    rw[hcv] at hr3;simp only[retB3] at hr3;have hLV:=hR _ hr3;have hkx: ∀o j,kx o=some j→j=o∧(domB H0 o=true∨(k≤o∧o<k+cnt)):=by
     intro o j hj;simp only[kx,kxB] at hj;cases hq:domB H0 o<;>rw[hq] at hj
     ·cases hq2:(exB o && (Nat.ble k o && Nat.blt o (k+cnt)))<;>rw[hq2] at hj
      ·cases hj
      ·simp only[Bool.and_eq_true,Nat.ble_eq,Nat.blt_eq] at hq2;simp only[Bool.or_true,cond_true,Option.some.injEq] at hj;exact⟨hj.symm,.inr hq2.2⟩
     ·simp only[Bool.true_or,cond_true,Option.some.injEq] at hj;exact⟨hj.symm,.inl rfl⟩
    have hkxd: ∀o,domB H0 o=true→kx o=some o:=fun o ho=>by simp only[kx,kxB,ho,Bool.true_or,cond_true]
    have hkxe: ∀o,exB o=true→k≤o→o<k+cnt→kx o=some o:=fun o h1 h2 h3=>by
     have:(exB o && (Nat.ble k o && Nat.blt o (k+cnt)))=true:=by simp[h1,h2,h3]
     simp only[kx,kxB,this,Bool.or_true,cond_true]
    have hent: ∀j e',(j,e')∈H1→DD j∧j<k+cnt∧((j<k∧klB j=true∧domB H0 j=true)∨(k≤j∧e'.1=true))∧kx j=some j∧ ∃e,S1.h j=some e∧e'.1=e.1∧cvtE (cvt (S1.ice X).h kx 9) e.2=some e'.2:=by
     intro j e' hm;obtain⟨e0,g1,g2,g3⟩:=Qve H1 hout j e' hm;rcases hH1 _ hm with ⟨h1,h2,h3⟩|⟨h1,h2,h3,h4⟩
     ·exact⟨.inl h3,by simp only at h1;omega,.inl ⟨h1,h2,h3⟩,hkxd j h3,e0,g1,g2,g3⟩
     ·exact⟨.inr h1,h2,.inr ⟨h1,h4⟩,hkxe j h3 h1 h2,e0,g1,g2,g3⟩
    let E:Eff:={use:=U,kill:=KL,new:=renH σ H1,cnt:=cnt}
    let S':Env:=⟨fun n=>if nx≤n∧n<nx+cnt then S1.ρ (n - nx+k) else S.ρ n,(S1.ice X).ok,E.appf S.h,S1.w⟩
    have hρ: ∀j,DD j→j<k+cnt→(∀e,S1.h j=some e→S'.ρ (σ j)=S1.ρ j):=by
     intro j hd hj e he;simp only[S'];by_cases hjk:j<k
     ·have hdj:domB H0 j=true:=hd.resolve_right (by omega);have h1:=hσlt j hdj;rw[if_neg (by omega)];obtain⟨_,_,h3,_⟩:=hc.pre j hjk e he;exact h3.symm
     ·have h1:=hσge j (by omega);rw[if_pos (by rw[h1];omega),h1];congr 1;omega
    have hcase: ∀n e',S'.h n=some e'→(∃j e,n=σ j∧(j,e)∈H1∧hget H1 j=some e∧e'=(e.1,e.2.ren σ))∨(S.h n=some e'∧ ∀j,domB H0 j=true→klB j=true→n≠σ j):=by
     intro n e' he';have he':E.appf S.h n=some e':=he';simp only[Eff.appf,E] at he';cases hg:hget (renH σ H1) n with
     |some x=>
      rw[hg] at he';obtain rfl:=Option.some.inj he';obtain⟨j,e,h1,h2,h3⟩:=Qzm hg;subst h2;rw[Qv5 hσinj H1 (fun p hp=>(hent p.1 p.2 hp).1) j (hent j e h1).1] at hg;cases hj:hget H1 j with
      |none=>rw[hj] at hg;cases hg
      |some y=>
       rw[hj] at hg;exact .inl ⟨j,y,rfl,Qgz hj,hj,by simpa using hg.symm⟩
     |none=>
      rw[hg] at he';cases hq:KL.contains n<;>rw[hq] at he'
      ·refine .inr ⟨he',?_⟩;rintro j hj hkj rfl
       have:=hKL2 j hj hkj
       rw[←hσlo j (hdk j hj)] at this;rw[List.contains_iff_mem.2 this] at hq;cases hq
      ·cases he'
    have hblk: ∀n e l,S.h n=some e→S.ρ n=some l→(∀j,domB H0 j=true→n≠σ j)→l.b<S.w.heap.size∧ ¬M0 l.b:=by
     intro n e l he hl hn;refine⟨(hW.loc n e l he hl).1,?_⟩;rintro⟨j,e0,l0,h1,h9,h2,h3⟩;exact hn j (hdomO j e0 h1) (hW.inj _ _ _ _ l l0 he (hS j e0 h1) hl h2 h3.symm (by simp[h9]))
    have hkeep: ∀b,b<S.w.heap.size→ ¬M0 b→S1.w.heap[b]? =S.w.heap[b]? :=fun b hb hM=>hc.wf.keep b hb hM
    have hokS: ∀b,S.ok b→S'.ok b∧S'.hp b=S.hp b:=by
     intro b hb;refine⟨hWi.ok0 b hb,hkeep b (hW.oks b hb) ?_⟩;rintro⟨j,e,l,h1,h2,h3,h4⟩
     have:=(hW.loc _ _ l (hS j e h1) h3).2
     rw[show (e.1,e.2.ren σ).1=true from h2] at this;simp only[if_true] at this;exact this.1 (h4▸hb)
    have hsame: ∀j e0,hget H0 j=some e0→klB j=false→S1.h j=some e0:=fun j e0 h1 h2=>roB_mem H0 hro j e0 (Qgz h1) h2
    have hnkl: ∀j,domB H0 j=true→(∀j',domB H0 j'=true→klB j'=true→σ j≠σ j')→klB j=false:=by
     intro j hj h;cases hq:klB j with
     |false=>rfl
     |true=>exact absurd rfl (h j hj hq)
    have hpres: ∀o,¬Fr nx cnt o→ ∀e',S'.h o=some e'→ ∃e,S.h o=some e∧S'.ρ o=S.ρ o∧e'.2.esz=e.2.esz∧e'.2.len=e.2.len:=by
     intro o ho e' he';have hρo:S'.ρ o=S.ρ o:=by
      simp only[S'];rw[if_neg (by intro h;exact ho ⟨h.1,h.2⟩)]
     rcases hcase o e' he' with ⟨j,e,rfl,h1,h2,rfl⟩|⟨h1,_⟩
     ·obtain⟨g0,g1,g2,g3,x,g4,g5,g6⟩:=hent j e h1;have hjk:j<k:=by
       rcases g2 with g2|g2
       ·exact g2.1
       ·have:=hσge j g2.1
        exact absurd (show Fr nx cnt (σ j) from ⟨by omega,by omega⟩) ho
      obtain⟨e0,p1,p2,p3,p4⟩:=hc.pre j hjk x g4;have hob:=(@Qti C0 (S1.ice X) (S1.ice X) hWi kx (fun j=>j) (fun b hb=>⟨hb,rfl⟩) hfr (by
       intro o j hj e' he';obtain⟨q1,_⟩:=hkx o j hj;subst q1;exact⟨e',he',rfl,rfl,rfl⟩) 9 x.2 e.2 g6).1
      refine⟨_,hS j e0 p1,hρo,?_,?_⟩
      ·simp only[Qr6];rw[←p3,←hob.1]
      ·simp only[Qs6];rw[←p4,←hob.2]
     ·exact⟨e',h1,hρo,rfl,rfl⟩
    have hrenO: ∀o j,kx o=some j→ ∀e',S'.h (σ j)=some e'→ ∃e,(S1.ice X).h o=some e∧S'.ρ (σ j)=(S1.ice X).ρ o∧e'.2.esz=e.2.esz∧e'.2.len=e.2.len:=by
     intro o j hj e' he';obtain⟨rfl,q2⟩:=hkx o j hj;have hdo:DD j:=q2.imp id (fun h=>h.1);have hjc:j<k+cnt:=by
      rcases q2 with q2|q2
      ·have:=hdk j q2;omega
      ·exact q2.2
     rcases hcase (σ j) e' he' with ⟨j',e,h0,h1,h2,rfl⟩|⟨h1,h2⟩
     ·obtain⟨g0,g1,g2,g3,x,g4,g5,g6⟩:=hent j' e h1;obtain rfl:=hσinj _ _ hdo g0 h0;have hob:=(@Qti C0 (S1.ice X) (S1.ice X) hWi kx (fun j=>j) (fun b hb=>⟨hb,rfl⟩) hfr (by
       intro o j hj e' he';obtain⟨q1,_⟩:=hkx o j hj;subst q1;exact⟨e',he',rfl,rfl,rfl⟩) 9 x.2 e.2 g6).1
      have hr:=hρ j hdo g1 x g4;refine⟨(x.1 && X j,x.2),by rw[hih,g4];rfl,hr,?_,?_⟩
      ·simp only[Qr6];rw[←hob.1]
      ·simp only[Qs6];rw[←hob.2]
     ·
      have hjd:domB H0 j=true:=by
       rcases q2 with h|h
       ·exact h
       ·have h5:=hfresh (σ j) ⟨by rw[hσge j h.1];omega,by rw[hσge j h.1];show nx+(j - k)<nx+cnt;omega⟩;rw[h5] at h1;cases h1
      have hjn:=hnkl j hjd (fun j' a b=>h2 j' a b);obtain⟨e0,hH0⟩:=hdomS j hjd;have g4:=hsame j e0 hH0 hjn;have hr:=hρ j hdo hjc e0 g4
      have:=hS j e0 hH0
      rw[h1] at this;obtain rfl:=Option.some.inj this;refine⟨(e0.1 && X j,e0.2),by rw[hih,g4];rfl,hr,?_,?_⟩
      ·simp only[Qr6]
      ·simp only[Qs6]
    have hblkE: ∀n e' l,S'.h n=some e'→S'.ρ n=some l→(∃j x,n=σ j∧S1.h j=some x∧e'.1=x.1∧S1.ρ j=some l∧(k≤j→x.1=true)∧DD j∧kx j=some j∧e'.2.isView=x.2.isView)∨(S.h n=some e'∧S.ρ n=some l∧ ∀j,domB H0 j=true→n≠σ j):=by
     intro n e' l he' hl;rcases hcase n e' he' with ⟨j,e,rfl,h1,h2,rfl⟩|⟨h1,h2⟩
     ·obtain⟨g0,g1,g2,g3,x,g4,g5,g6⟩:=hent j e h1;have hr:=hρ j g0 g1 x g4;refine .inl ⟨j,x,rfl,g4,g5,by rw[←hr];exact hl,?_,g0,g3,?_⟩
      ·intro hkj;rcases g2 with g2|g2
       ·omega
       ·rw[←g5];exact g2.2
      ·have hv:(e.2.ren σ).isView=e.2.isView:=by cases e.2<;>rfl
       show (e.2.ren σ).isView=_;rw[hv];exact cvtE_view g6
     ·by_cases hn: ∃j,domB H0 j=true∧n=σ j
      ·obtain⟨j,hjd,rfl⟩:=hn;have hjn:=hnkl j hjd (fun j' a b=>h2 j' a b);obtain⟨e0,hH0⟩:=hdomS j hjd;have g4:=hsame j e0 hH0 hjn;have hjk:=hdk j hjd;have hr:=hρ j (.inl hjd) (by omega) e0 g4
       have:=hS j e0 hH0
       rw[h1] at this;obtain rfl:=Option.some.inj this;exact .inl ⟨j,e0,rfl,g4,rfl,by rw[←hr];exact hl,fun h=>by omega,.inl hjd,hkxd j hjd,by cases e0.2<;>rfl⟩
      ·have hns: ∀j,domB H0 j=true→n≠σ j:=fun j hj h=>hn ⟨j,hj,h⟩
       refine .inr ⟨h1,?_,hns⟩;have hnf: ¬Fr nx cnt n:=by
        intro hfr'
        have:=hfresh n hfr'
        rw[this] at h1;cases h1
       have hρo:S'.ρ n=S.ρ n:=by
        simp only[S'];rw[if_neg (by intro h;exact hnf ⟨h.1,h.2⟩)]
       rw[←hρo];exact hl
    have hW':Wf C S':=by
     refine⟨hc.wf.os.trans hW.os,hc.wf.tape.trans hW.tape,hc.wf.output.trans hW.output,Nat.le_trans hW.size hc.wf.size,?_,fun b hb=>hWi.ok0 b (hW.ok0 b hb),?_,hWi.oks,?_,?_,?_⟩
     ·intro b hb hM;have hnM: ¬M0 b:=by
       rintro⟨j,e,l,h1,h2,h3,h4⟩
       have:=(hW.loc _ _ l (hS j e h1) h3).2
       rw[show (e.1,e.2.ren σ).1=true from h2] at this;simp only[if_true] at this;rcases this.2 with h5|h5
       ·omega
       ·exact hM (h4▸h5)
      exact (hkeep b (Nat.lt_of_lt_of_le hb hW.size) hnM).trans (hW.keep b hb hM)
     ·intro b hb;rcases hWi.ok1 b hb with h|h|h
      ·exact hW.ok1 b h
      ·exact .inr (.inl (Nat.le_trans hW.size h))
      ·obtain⟨j,e,l,h1,h2,h3,h4⟩:=h
       have:=(hW.loc _ _ l (hS j e h1) h3).2
       rw[show (e.1,e.2.ren σ).1=true from h2] at this;simp only[if_true] at this;rw[←h4];exact .inr this.2
     ·intro n e' he';rcases hcase n e' he' with ⟨j,e,rfl,h1,h2,rfl⟩|⟨h1,h2⟩
      ·obtain⟨g0,g1,g2,g3,x,g4,g5,g6⟩:=hent j e h1;have hob:=hWi.obj j (x.1 && X j,x.2) (by rw[hih,g4];rfl);have hr:=hρ j g0 g1 x g4;have h5:=(Qti (S':=S') (τ:=σ) hWi (fun b hb=>⟨hb,rfl⟩) hfr hrenO g6).2 _ (fun _ _=>rfl) hob;rw[hr];exact h5
      ·by_cases hn: ∃j,domB H0 j=true∧n=σ j
       ·obtain⟨j,hjd,rfl⟩:=hn;have hjn:=hnkl j hjd (fun j' a b=>h2 j' a b);obtain⟨e0,hH0⟩:=hdomS j hjd;have g4:=hsame j e0 hH0 hjn;have hjk:=hdk j hjd;have hr:=hρ j (.inl hjd) (by omega) e0 g4
        have:=hS j e0 hH0
        rw[h1] at this;obtain rfl:=Option.some.inj this;rw[hr];have hob:=hc.wf.obj j e0 g4;have h7:=Qzw (S:=S1) (S':=S') (σ:=fun n=>n) (τ:=σ) (l:=S1.ρ j) (fun b hb=>⟨.inl hb,rfl⟩) (fun _ _=>rfl) e0.2 ?_ (by rw[Qwc];exact hob)
        ·exact h7
        ·intro m hm;refine⟨fun e' he'=> ?_⟩;have hmk:m<k:=Qhn _ hbH j e0 hH0 m hm;cases hkm:kx m with
         |some m'=>
          obtain⟨rfl,_⟩:=hkx m m' hkm;obtain⟨x,q1,q2,q3,q4⟩:=hrenO m' m' hkm e' he';obtain⟨y,q5,q6⟩:=Qec q1;exact⟨y,q5,q2,by rw[q3,q6],by rw[q4,q6]⟩
         |none=>
          exfalso;have hmd:domB H0 m≠true:=fun h=>by rw[hkxd m h] at hkm;cases hkm
          exact hmd (hdomN j e0 hH0 m hm)
       ·have hns: ∀j,domB H0 j=true→n≠σ j:=fun j hj h=>hn ⟨j,hj,h⟩
        have hnf: ¬Fr nx cnt n:=by
         intro hfr'
         have:=hfresh n hfr'
         rw[this] at h1;cases h1
        have hρo:S'.ρ n=S.ρ n:=by
         simp only[S'];rw[if_neg (by intro h;exact hnf ⟨h.1,h.2⟩)]
        rw[hρo];refine Qbr (X:=fun m=> ¬Fr nx cnt m) ⟨hokS,fun o ho e' he'=>hpres o ho e' he'⟩ ?_ e'.2 (fun m hm=>hnames n e' h1 m hm) (hW.obj n e' h1);intro lc hlc;obtain⟨p1,p2⟩:=hblk n e' lc h1 hlc hns;exact hkeep lc.b p1 p2
     ·intro n e' l he' hl;rcases hblkE n e' l he' hl with ⟨j,x,rfl,g4,g5,g6,g7,g8,g8',g9⟩|⟨h1,h2,h3⟩
      ·have hcx:X j=true:=by simp only[X,g8'];rfl
       have hl1:=hWi.loc j (x.1 && X j,x.2) l (by rw[hih,g4];rfl) g6;rw[hcx,Bool.and_true] at hl1;refine⟨hl1.1,?_⟩;rw[g5];cases hm:x.1 with
       |false=>
        have h9:=hl1.2;simp only[hm] at h9;simp only[Bool.false_eq_true,if_false] at h9⊢;rcases h9 with h9|h9
        ·exact .inl h9
        ·refine .inr ?_;rw[g9];exact h9
       |true=>
        have h9:=hl1.2;simp only[hm,if_true] at h9⊢;refine⟨h9.1,?_⟩;rcases h9.2 with h10|h10
        ·exact .inl (Nat.le_trans hW.size h10)
        ·obtain⟨j',e0,l0,p1,p2,p3,p4⟩:=h10
         have:=(hW.loc _ _ l0 (hS j' e0 p1) p3).2
         rw[show (e0.1,e0.2.ren σ).1=true from p2] at this;simp only[if_true] at this;rw[←p4];exact this.2
      ·obtain⟨p1,p2⟩:=hW.loc n e' l h1 h2;obtain⟨p3,p4⟩:=hblk n e' l h1 h2 h3;refine⟨Nat.lt_of_lt_of_le p1 hc.wf.size,?_⟩;cases hm:e'.1 with
       |false=>
        rw[hm] at p2;simp only[Bool.false_eq_true,if_false] at p2⊢;exact p2.imp (fun h=>hWi.ok0 _ h) id
       |true=>
        rw[hm] at p2;simp only[if_true] at p2⊢;refine⟨fun hok=> ?_,p2.2⟩;rcases hWi.ok1 _ hok with h|h|h
        ·exact p2.1 h
        ·have h:S.w.heap.size≤l.b:=h;omega
        ·exact p4 h
     ·
      have hmix: ∀j x l n' e2 l',S1.h j=some x→S1.ρ j=some l→(k≤j→x.1=true)→DD j→S.h n'=some e2→S.ρ n'=some l'→(∀i,domB H0 i=true→n'≠σ i)→l.b=l'.b→(x.1||e2.1)=true→False:=by
       intro j x l n' e2 l' g1 g2 g3 g4 p1 p2 p3 hbb hfl;obtain⟨q1,q2⟩:=hblk n' e2 l' p1 p2 p3;by_cases hjk:j<k
       ·have hjd:domB H0 j=true:=g4.resolve_right (by omega);obtain⟨e0,r1,r2,_,_⟩:=hc.pre j hjk x g1;have hρj:S.ρ (σ j)=some l:=by rw[←r2|>fun h=>show S1.ρ j=S.ρ (σ j) from h];exact g2
        have hor:(e0.1||e2.1)=true:=by
         cases he2:e2.1 with
         |true=>simp
         |false=>
          rw[he2,Bool.or_false] at hfl;have hl1:=(hc.wf.loc j x l g1 g2).2;rw[hfl] at hl1;simp only[if_true] at hl1;rcases hl1.2 with h|h
          ·have h:S.w.heap.size≤l.b:=h;omega
          ·exact absurd (hbb▸h) q2
        exact p3 j hjd (hW.inj _ _ _ _ l' l p1 (hS j e0 r1) p2 hρj hbb.symm (by rw[Bool.or_comm];exact hor))
       ·have hl1:=(hc.wf.loc j x l g1 g2).2;rw[g3 (by omega)] at hl1;simp only[if_true] at hl1;rcases hl1.2 with h|h
        ·have h:S.w.heap.size≤l.b:=h;omega
        ·exact q2 (hbb▸h)
      intro n n' e1 e2 l l' he he' hl hl' hbb hfl;rcases hblkE n e1 l he hl with ⟨j,x,rfl,g1,g2,g3,g4,g5,_⟩|⟨g1,g2,g3⟩<;>rcases hblkE n' e2 l' he' hl' with ⟨j',x',rfl,p1,p2,p3,p4,p5,_⟩|⟨p1,p2,p3⟩
      ·have hcc:=hc.wf.inj j j' x x' l l' g1 p1 g3 p3 hbb (by rw[←g2,←p2];exact hfl);rw[hcc]
      ·exact (hmix j x l n' e2 l' g1 g3 g4 g5 p1 p2 p3 hbb (by rw[←g2];exact hfl)).elim
      ·exact (hmix j' x' l' n e1 l p1 p3 p4 p5 g1 g2 g3 hbb.symm (by rw[←p2,Bool.or_comm];exact hfl)).elim
      ·exact hW.inj _ _ _ _ l l' g1 p1 g2 p2 hbb hfl
    have hcr:conc S' (r.ren σ) v:=Qrr (S':=S') (τ:=σ) hWi (fun b hb=>⟨hb,rfl⟩) hfr hrenO 9 (resV xs) r v hcv (Qbt (Qb0 S1 X) _ _ (fun _ _=>trivial) hconc);exact hfin v S' hW' rfl ⟨hokS,fun o ho e' he'=>hpres o ho e' he'⟩ (hLV σ S' v hcr)
 intro e a w he;cases e<;>simp only[toQ] at he<;>simp only[bodyPost]
 ·obtain⟨s,hs,hc⟩:=he;obtain⟨s',hc',hs'⟩:=hQ C0 _ a w s rfl hc (.inl hs);exact fin s' a w hs' hc'
 ·obtain⟨s,hs,_⟩:=he;exact (hQe _ _ hs).elim
 ·obtain⟨s,hs,hc⟩:=he;obtain⟨s',hc',hs'⟩:=hQ C0 _ a w s rfl hc (.inr hs);exact fin s' a w hs' hc'
theorem retBQ_ok{P:Program}{rs:List ResultVar}{k cnt:Nat}{H0 H1:Qan}{klB exB:Nat→Bool}{R:AV→Prop}: ∀(C:Ctx) (N:Nat) (a:Act) (w:World) (s:Qad),C.n0=k→Con C N s a w→
 Qabl P rs k cnt H0 H1 klB exB R .normal s∨Qabl P rs k cnt H0 H1 klB exB R .ret s→ ∃s',Con C N s' a w∧retB P rs k cnt H0 H1 klB exB R s':=by
 rintro C N a w s _ hc (h|h)<;>exact⟨s,hc,h⟩
theorem retNQ_ok{P:Program}{rs:List ResultVar}{k cnt:Nat}{H0 H1:Qan}{klB exB:Nat→Bool}{R:AV→Prop}: ∀(C:Ctx) (N:Nat) (a:Act) (w:World) (s:Qad),C.n0=k→Con C N s a w→
 Qc7 P rs k cnt H0 H1 klB exB R .normal s∨Qc7 P rs k cnt H0 H1 klB exB R .ret s→ ∃s',Con C N s' a w∧retB P rs k cnt H0 H1 klB exB R s':=by
 rintro C N a w s hk hc (h|h)<;>obtain⟨F,π,s',h1,h2,h3,h4⟩:=h<;>exact⟨s',Qdx (Qox F hc) h1 h2 (by omega) (by omega),h4⟩
def Qer(h:Nat→Option Ent)(σ:Nat→Nat):Qan→Prop
 |[]=>True
 |(j,(mu,e))::r=>h (σ j)=some (mu,e.ren σ)∧Qer h σ r
theorem Qpk{h:Nat→Option Ent}{σ:Nat→Nat}: ∀{H:Qan},Qer h σ H→ ∀j e,(j,e)∈H→h (σ j)=some (e.1,e.2.ren σ)
 |[],_,j,e,hm=>by cases hm
 |(i,(mu,x))::r,hH,j,e,hm=>by
  obtain⟨h1,h2⟩:=hH;rcases List.mem_cons.1 hm with hm|hm
  ·cases hm;exact h1
  ·exact Qpk h2 j e hm
structure NmOk(H0:Qan)(klB:Nat→Bool)(τ:Nat→Nat)(nx:Nat)(U KL:List Nat):Prop where
 inj: ∀i j,domB H0 i=true→domB H0 j=true→τ i=τ j→i=j
 lt: ∀j,domB H0 j=true→τ j<nx
 u: ∀j,domB H0 j=true→τ j∈U
 k1: ∀n∈KL,∃j,domB H0 j=true∧klB j=true∧n=τ j
 k2: ∀j,domB H0 j=true→klB j=true→τ j∈KL
def orow{A:Type}(ca:A→List AV)(H0:A→Qan)(k:Nat)(pre:A→Prop)(klB:Nat→Bool)(r0:A→AV)(H1:A→Qan)(cnt:Nat):Row:=fun args h nx K=>
 ∃(a:A) (τ:Nat→Nat) (U KL:List Nat),pre a∧args=renL (sgx τ k nx) (ca a)∧Qer h (sgx τ k nx) (H0 a)∧NmOk (H0 a) klB τ nx U KL∧
  K ((r0 a).ren (sgx τ k nx)) {use:=U,kill:=KL,new:=renH (sgx τ k nx) (H1 a),cnt:=cnt}
def Qc2(H0:Qan):Qan→Prop
 |[]=>True
 |(_,(_,e))::r=>(∀m∈e.nms,domB H0 m=true)∧Qc2 H0 r
theorem Qo2{H0:Qan}: ∀{H:Qan},Qc2 H0 H→ ∀j e,(j,e)∈H→ ∀m∈e.2.nms,domB H0 m=true
 |[],_,j,e,hm=>by cases hm
 |(i,(mu,x))::r,hH,j,e,hm=>by
  obtain⟨h1,h2⟩:=hH;rcases List.mem_cons.1 hm with hm|hm
  ·cases hm;exact h1
  ·exact Qo2 h2 j e hm
theorem Qf1{P:Program}(HM:P.follows .mixedOrders=true){V:Qbh}(hV:Qkj P V){g:FuncId}{fn:Func}{c:Code}(hf:P.funcs[g]? =some fn)(hb:fn.body=some c)(hchk:chk fn.ntmps c=true)(hcal:calb P g=true)
 {A:Type}{ca:A→List AV}{H0 H1:A→Qan}{k cnt n:Nat}{pre:A→Prop}{klB exB:Nat→Bool}{r0:A→AV}{R:A→AV→Prop}
 (hn: ∀a,(ca a).length=n)(hnt:n≤fn.ntmps)(hbel: ∀a,belL k (ca a)=true)(hbH: ∀a,belH k (H0 a)=true)(hkH: ∀a,Qam k (H0 a)=true)(hnm: ∀a,Qc2 (H0 a) (H0 a))
 (hH1: ∀a,∀p∈H1 a,(p.1<k∧klB p.1=true∧domB (H0 a) p.1=true)∨(k≤p.1∧p.1<k+cnt∧exB p.1=true∧p.2.1=true))
 (hR: ∀a r,R a r→LeV r (r0 a))
 (hk: ∀a,pre a→awp P V c (Qabl P fn.results.toList k cnt (H0 a) (H1 a) klB exB (R a)) ⟨entry 0 (ca a),H0 a,k⟩):
 Qas P g (orow ca H0 k pre klB r0 H1 cnt):=by
 rintro args h nx K ⟨a,τ,U,KL,hpre,rfl,hheap,hN,hK⟩;refine⟨Qh7 hcal,_,_,?_,hK⟩;exact objG HM hV hf hb hchk (by rw[hn];exact hnt) (hbel a) (hbH a) (hkH a) (fun j e he=>Qo2 (hnm a) j e (Qgz he)) (hR a) (hH1 a) retBQ_ok (fun _ _ h=>h) (hk a hpre) hN.inj hN.lt
  (fun j e he=>Qpk hheap j e (Qgz he)) hN.u hN.k1 hN.k2
theorem Qnh{P:Program}(HM:P.follows .mixedOrders=true){V:Qbh}(hV:Qkj P V){g:FuncId}{fn:Func}{c:Code}(hf:P.funcs[g]? =some fn)(hb:fn.body=some c)(hchk:chk fn.ntmps c=true)(hcal:calb P g=true)
 {A:Type}{ca:A→List AV}{H0 H1:A→Qan}{k cnt n:Nat}{pre:A→Prop}{klB exB:Nat→Bool}{r0:A→AV}{R:A→AV→Prop}
 (hn: ∀a,(ca a).length=n)(hnt:n≤fn.ntmps)(hbel: ∀a,belL k (ca a)=true)(hbH: ∀a,belH k (H0 a)=true)(hkH: ∀a,Qam k (H0 a)=true)(hnm: ∀a,Qc2 (H0 a) (H0 a))
 (hH1: ∀a,∀p∈H1 a,(p.1<k∧klB p.1=true∧domB (H0 a) p.1=true)∨(k≤p.1∧p.1<k+cnt∧exB p.1=true∧p.2.1=true))
 (hR: ∀a r,R a r→LeV r (r0 a))
 (hk: ∀a,pre a→awp P V c (Qc7 P fn.results.toList k cnt (H0 a) (H1 a) klB exB (R a)) ⟨entry 0 (ca a),H0 a,k⟩):
 Qas P g (orow ca H0 k pre klB r0 H1 cnt):=by
 rintro args h nx K ⟨a,τ,U,KL,hpre,rfl,hheap,hN,hK⟩;refine⟨Qh7 hcal,_,_,?_,hK⟩;exact objG HM hV hf hb hchk (by rw[hn];exact hnt) (hbel a) (hbH a) (hkH a) (fun j e he=>Qo2 (hnm a) j e (Qgz he)) (hR a) (hH1 a) retNQ_ok (fun _ _ h=>h) (hk a hpre) hN.inj hN.lt
  (fun j e he=>Qpk hheap j e (Qgz he)) hN.u hN.k1 hN.k2
def osn(os:List Nat)(j:Nat):Nat:=os.getD j 0
def Qhb:List Nat→Bool
 |[]=>true
 |x::r=> !r.contains x && Qhb r
theorem Qjj: ∀(os:List Nat),Qhb os=true→os.Nodup
 |[],_=>List.nodup_nil
 |x::r,h=>by
  simp only[Qhb,Bool.and_eq_true,Bool.not_eq_true'] at h;refine List.nodup_cons.2 ⟨fun hx=> ?_,Qjj r h.2⟩;rw[List.contains_iff_mem.2 hx] at h;cases h.1
def Qxw(nx:Nat):List Nat→Bool
 |[]=>true
 |x::r=>Nat.blt x nx && Qxw nx r
theorem Qvm{nx:Nat}: ∀(os:List Nat),Qxw nx os=true→ ∀o∈os,o<nx
 |[],_,o,h=>by cases h
 |x::r,h,o,ho=>by
  simp only[Qxw,Bool.and_eq_true,Nat.blt_eq] at h;rcases List.mem_cons.1 ho with rfl|ho
  ·exact h.1
  ·exact Qvm r h.2 o ho
def klO(klB:Nat→Bool):List Nat→Nat→List Nat
 |[],_=>[]
 |x::r,j=>bif klB j then x::klO klB r (j+1) else klO klB r (j+1)
theorem Qx4{klB:Nat→Bool}: ∀(os:List Nat) (j n:Nat),n∈klO klB os j↔ ∃i,i<os.length∧klB (j+i)=true∧os[i]? =some n
 |[],j,n=>by simp[klO]
 |x::r,j,n=>by
  have ih:=Qx4 (klB:=klB) r (j+1) n;simp only[klO];cases hq:klB j
  ·simp only[cond_false];rw[ih];constructor
   ·rintro⟨i,h1,h2,h3⟩;exact⟨i+1,by simp;omega,by rw[show j+(i+1)=j+1+i by omega];exact h2,by simpa using h3⟩
   ·rintro⟨i,h1,h2,h3⟩;cases i with
    |zero=>rw[Nat.add_zero,hq] at h2;cases h2
    |succ i=>exact⟨i,by simp at h1;omega,by rw[show j+1+i=j+(i+1) by omega];exact h2,by simpa using h3⟩
  ·simp only[cond_true,List.mem_cons];rw[ih];constructor
   ·rintro (rfl|⟨i,h1,h2,h3⟩)
    ·exact⟨0,by simp,hq,by simp⟩
    ·exact⟨i+1,by simp;omega,by rw[show j+(i+1)=j+1+i by omega];exact h2,by simpa using h3⟩
   ·rintro⟨i,h1,h2,h3⟩;cases i with
    |zero=>left;simpa using h3.symm
    |succ i=>right;exact⟨i,by simp at h1;omega,by rw[show j+1+i=j+(i+1) by omega];exact h2,by simpa using h3⟩
theorem nmOk_os{H0:Qan}{klB:Nat→Bool}{os:List Nat}{nx:Nat}(hd:Qhb os=true)(hl:Qxw nx os=true)(hH: ∀j,domB H0 j=true↔j<os.length):NmOk H0 klB (osn os) nx os (klO klB os 0):=by
 have hnd:=Qjj os hd;have hg: ∀j,j<os.length→os[j]? =some (osn os j):=by
  intro j hj;simp[osn,hj]
 have hm: ∀j,j<os.length→osn os j∈os:=fun j hj=>List.mem_of_getElem? (hg j hj)
 refine⟨fun i j hi hj h=> ?_,fun j hj=>Qvm os hl _ (hm j ((hH j).1 hj)),fun j hj=>hm j ((hH j).1 hj),fun n hn=> ?_,fun j hj hk=> ?_⟩
 ·have h1:=hg i ((hH i).1 hi);have h2:=hg j ((hH j).1 hj);rw[h] at h1;exact (List.getElem?_inj ((hH i).1 hi) hnd).1 (h1.trans h2.symm)
 ·obtain⟨i,h1,h2,h3⟩:=(Qx4 os 0 n).1 hn;refine⟨i,(hH i).2 h1,by simpa using h2,?_⟩;rw[hg i h1] at h3;exact (Option.some.inj h3).symm
 ·exact (Qx4 os 0 _).2 ⟨j,(hH j).1 hj,by simpa using hk,hg j ((hH j).1 hj)⟩
theorem orow.os{A:Type}{ca:A→List AV}{H0:A→Qan}{k:Nat}{pre:A→Prop}{klB:Nat→Bool}{r0:A→AV}{H1:A→Qan}{cnt:Nat}{args:List AV}{h:Nat→Option Ent}{nx:Nat}{K:Kont}(a:A)(os:List Nat)(hpre:pre a)
 (hH: ∀j,domB (H0 a) j=true↔j<os.length)(hd:Qhb os=true)(hl:Qxw nx os=true)
 (hx:args=renL (sgx (osn os) k nx) (ca a)∧Qer h (sgx (osn os) k nx) (H0 a))
 (hK:K ((r0 a).ren (sgx (osn os) k nx)) {use:=os,kill:=klO klB os 0,new:=renH (sgx (osn os) k nx) (H1 a),cnt:=cnt}):orow ca H0 k pre klB r0 H1 cnt args h nx K:=
 ⟨a,osn os,os,klO klB os 0,hpre,hx.1,hx.2,nmOk_os hd hl hH,hK⟩
def noRow:Row:=fun _ _ _ _=>False
theorem noRow_ok{P:Program}{g:Nat}:Qas P g noRow:=fun _ _ _ _ h=>h.elim
def orR(r1 r2:Row):Row:=fun args h nx K=>r1 args h nx K∨r2 args h nx K
theorem orR_ok{P:Program}{g:Nat}{r1 r2:Row}(h1:Qas P g r1)(h2:Qas P g r2):Qas P g (orR r1 r2):=by
 rintro args h nx K (hk|hk)
 ·exact h1 args h nx K hk
 ·exact h2 args h nx K hk
end Go.Ae
namespace Go.Ae
def scL:List D→Bool
 |[]=>true
 |x::r=>x.sc && scL r
def frO(K:D→Prop):Option Ent→Prop
 |some (true,.arr _ k rows)=>OneR scL rows∧K (.sl false k rows)
 |_=>False
def frA(h:Nat→Option Ent)(K:D→Prop):AV→Prop
 | .im d=>d.scs=true∧K d
 | .own o=>frO K (h o)
 |_=>False
def frAL(h:Nat→Option Ent):List AV→(List D→Prop)→Prop
 |[],K=>K []
 |x::r,K=>frA h (fun d=>frAL h r fun ds=>K (d::ds)) x
def frB(h:Nat→Option Ent)(K:D→Prop):AV→Prop
 | .im d=>d.scs=true∧K d
 | .own o=>frO K (h o)
 | .agg cs=>frAL h cs fun ds=>K (.agg ds)
 |_=>False
def frBL(h:Nat→Option Ent):List AV→(List D→Prop)→Prop
 |[],K=>K []
 |x::r,K=>frB h (fun d=>frBL h r fun ds=>K (d::ds)) x
def frP(h:Nat→Option Ent)(K:D→Prop):AV→Prop
 | .im d=>d.scs=true∧K d
 | .own o=>frO K (h o)
 | .agg cs=>frAL h cs fun ds=>K (.agg ds)
 | .tup cs=>frBL h cs fun ds=>K (.tup ds)
 |_=>False
def retF1(R:D→Prop)(s:Qad):Option (List AV)→Prop
 |some xs=>frP (hget s.h) R (resV xs)
 |none=>False
def retF(P:Program)(rs:List ResultVar)(R:D→Prop)(s:Qad):Prop:=retF1 R s (mapO (Qj3 P s) rs)
def Qxj(P:Program)(rs:List ResultVar)(R:D→Prop):Qbl
 | .normal,s=>retF P rs R s
 | .ret,s=>retF P rs R s
 | .exit _,_=>False
theorem scL_all: ∀(r:List D),scL r=true→r.all D.sc=true
 |[],_=>rfl
 |x::r,h=>by
  simp only[scL,Bool.and_eq_true] at h;simp[h.1,scL_all r h.2]
theorem rdp_sc{ok ok':Nat→Prop}{hp hp':Nat→Option Obj}: ∀(ds:List D) (vs:List Value),ds.all D.sc=true→rdp ok hp ds vs→rdp ok' hp' ds vs
 |[],_,_,_=>by simp only[rdp]
 |d::ds,vs,h,hd=>by
  simp only[rdp,List.all_cons,Bool.and_eq_true] at hd h⊢;obtain⟨v,r,rfl,h1,h2⟩:=hd;exact⟨v,r,rfl,rd_sc h.1 h1,rdp_sc ds r h.2 h2⟩
theorem rdr_sc{ok ok':Nat→Prop}{hp hp':Nat→Option Obj}{k:Nat}: ∀(rs:List (List D)) (vs:List Value),OneR scL rs→rdr ok hp k rs vs→rdr ok' hp' k rs vs
 |[],_,_,_=>by simp only[rdr]
 |r::rs,vs,h,hd=>by
  simp only[rdr] at hd⊢;exact⟨hd.1,rdp_sc r vs (scL_all r (h r (List.mem_cons_self ..))) hd.2.1,rdr_sc rs _ (fun x hx=>h x (List.mem_cons_of_mem _ hx)) hd.2.2⟩
section
variable {C:Ctx}{S:Env}
def okF(C:Ctx)(S:Env)(b:Nat):Prop:=C.w.heap.size≤b∧b<S.w.heap.size∧ ¬S.ok b
theorem Qzs(hM: ∀b,¬C.M b)(hW:Wf C S){K:D→Prop}{o:Nat}{v:Value}(hk:frO K (S.h o))(hc:conc S (.own o) v): ∃d,K d∧rd (okF C S) S.hp d v:=by
 cases he:S.h o with
 |none=>rw[he] at hk;exact hk.elim
 |some e=>
  obtain⟨mu,e⟩:=e;rw[he] at hk;cases mu with
  |false=>cases e<;>exact hk.elim
  |true=>
  cases e with
  |arr T k rows=>
   simp only[frO] at hk;refine⟨_,hk.2,?_⟩;have hob:=hW.obj o _ he;simp only[conc] at hc;obtain⟨_,hc⟩:=hc;have hc:=hc _ he;simp only[objc] at hob;cases hl:S.ρ o with
   |none=>
    rw[hl] at hc hob;simp only[rd];exact .inl ⟨.inl hc,hob.2⟩
   |some l=>
    rw[hl] at hc hob;obtain⟨h0,h1,vs,h2,h3,h4⟩:=hob;obtain⟨q1,q2⟩:=hW.loc o _ l he hl;simp only[if_true] at q2;simp only[rd];refine .inr ⟨l.b,l.p,l.cap,vs,T,(0,0),hc,by simp,h1,h0,⟨?_,q1,q2.1⟩,h2,rdr_sc rows _ hk.1 h4⟩;rcases q2.2 with h|h
    ·exact h
    ·exact absurd h (hM _)
  |_=>exact hk.elim
theorem frA_spec(hM: ∀b,¬C.M b)(hW:Wf C S){K:D→Prop}{x:AV}{v:Value}(hk:frA S.h K x)(hc:conc S x v): ∃d,K d∧rd (okF C S) S.hp d v:=by
 cases x with
 |im d=>
  simp only[frA] at hk;simp only[conc] at hc;exact⟨d,hk.2,rd_scs hk.1 hc⟩
 |own o=>
  simp only[frA] at hk;exact Qzs hM hW hk hc
 |_=>exact hk.elim
theorem Qvx(hM: ∀b,¬C.M b)(hW:Wf C S): ∀(xs:List AV) (K:List D→Prop) (vs:List Value),frAL S.h xs K→Qa0 S xs vs→ ∃ds,K ds∧rdl (okF C S) S.hp ds vs
 |[],K,vs,hk,hc=>by
  simp only[frAL] at hk;simp only[Qa0] at hc;exact⟨[],hk,by simp only[rdl];exact hc⟩
 |x::xs,K,vs,hk,hc=>by
  simp only[frAL] at hk;simp only[Qa0] at hc;obtain⟨v,r,rfl,h1,h2⟩:=hc;obtain⟨d,h3,h4⟩:=frA_spec hM hW hk h1;obtain⟨ds,h5,h6⟩:=Qvx hM hW xs _ r h3 h2;exact⟨d::ds,h5,by simp only[rdl];exact⟨v,r,rfl,h4,h6⟩⟩
theorem Qm1(hM: ∀b,¬C.M b)(hW:Wf C S){K:D→Prop}{x:AV}{v:Value}(hk:frB S.h K x)(hc:conc S x v): ∃d,K d∧rd (okF C S) S.hp d v:=by
 cases x with
 |im d=>
  simp only[frB] at hk;simp only[conc] at hc;exact⟨d,hk.2,rd_scs hk.1 hc⟩
 |own o=>
  simp only[frB] at hk;exact Qzs hM hW hk hc
 |agg cs=>
  simp only[frB] at hk;simp only[conc] at hc;obtain⟨vs,rfl,h1⟩:=hc;obtain⟨ds,h2,h3⟩:=Qvx hM hW cs _ _ hk h1;exact⟨_,h2,by simp only[rd];exact⟨vs,rfl,h3⟩⟩
 |_=>exact hk.elim
theorem Qvn(hM: ∀b,¬C.M b)(hW:Wf C S): ∀(xs:List AV) (K:List D→Prop) (vs:List Value),frBL S.h xs K→Qa0 S xs vs→ ∃ds,K ds∧rdl (okF C S) S.hp ds vs
 |[],K,vs,hk,hc=>by
  simp only[frBL] at hk;simp only[Qa0] at hc;exact⟨[],hk,by simp only[rdl];exact hc⟩
 |x::xs,K,vs,hk,hc=>by
  simp only[frBL] at hk;simp only[Qa0] at hc;obtain⟨v,r,rfl,h1,h2⟩:=hc;obtain⟨d,h3,h4⟩:=Qm1 hM hW hk h1;obtain⟨ds,h5,h6⟩:=Qvn hM hW xs _ r h3 h2;exact⟨d::ds,h5,by simp only[rdl];exact⟨v,r,rfl,h4,h6⟩⟩
theorem Qzf(hM: ∀b,¬C.M b)(hW:Wf C S){K:D→Prop}{x:AV}{v:Value}(hk:frP S.h K x)(hc:conc S x v): ∃d,K d∧rd (okF C S) S.hp d v:=by
 cases x with
 |tup cs=>
  simp only[frP] at hk;simp only[conc] at hc;obtain⟨vs,rfl,h1⟩:=hc;obtain⟨ds,h2,h3⟩:=Qvn hM hW cs _ _ hk h1;exact⟨_,h2,by simp only[rd];exact⟨vs,rfl,h3⟩⟩
 |im d=>exact Qm1 (x:= .im d) hM hW (by simpa only[frP,frB] using hk) hc
 |own o=>exact Qm1 (x:= .own o) hM hW (by simpa only[frP,frB] using hk) hc
 |agg cs=>exact Qm1 (x:= .agg cs) hM hW (by simpa only[frP,frB] using hk) hc
 |_=>exact hk.elim
end
def Qwz(f:AV→Option D):Option Ent→Option D
 |some (_,.arr _ k rows)=>some (.sl false k rows)
 |some (_,.arrA _ k rows)=>(mapO (mapO f) rows).map (.sl false k)
 |_=>none
def bkMap:Option Ent→Option D
 |some (_,.map kt es)=>some (.mp kt es)
 |_=>none
def Qu4(f:AV→Option D)(off:Nat):Option Ent→Option (List D)
 |some (_,.cells _ cs)=>mapO f (cs.drop off)
 |some (_,.view cs)=>some (cs.drop off)
 |_=>none
def bkFn(g:FuncId):Option (List D)→Option (List D)→Option D
 |some a,some c=>some (.fn g a c)
 |some _,none=>none
 |none,_=>none
def bk(h:Nat→Option Ent):Nat→AV→Option D
 |0,_=>none
 |_+1,.im d=>some d
 |n+1,.agg cs=>(mapO (bk h n) cs).map .agg
 |n+1,.tup cs=>(mapO (bk h n) cs).map .tup
 |n+1,.own o=>Qwz (bk h n) (h o)
 |_+1,.mp o=>bkMap (h o)
 |n+1,.ptr o off=>(Qu4 (bk h n) off (h o)).map .ref
 |n+1,.clo f a c=>bkFn f (mapO (bk h n) a) (mapO (bk h n) c)
 |_+1,.any=>none
 |_+1,.eptr _ _ _=>none
 |_+1,.ch _=>none
 |_+1,.it _=>none
 |_+1,.osl _ _ _=>none
def pkFP(ds:Option (List D)):Option PK:=ds.map .ptr
def pkFV(d:Option D):Option PK:=d.map .val
def pkF(h:Nat→Option Ent):AV→Option PK
 | .im d=>some (pkI d)
 | .ptr o off=>pkFP (Qu4 (bk h 8) off (h o))
 | .own o=>pkFV (bk h 9 (.own o))
 | .mp o=>pkFV (bk h 9 (.mp o))
 | .agg cs=>pkFV (bk h 9 (.agg cs))
 | .tup cs=>pkFV (bk h 9 (.tup cs))
 | .clo f a c=>pkFV (bk h 9 (.clo f a c))
 | .any=>none
 | .eptr _ _ _=>none
 | .ch _=>none
 | .it _=>none
 | .osl _ _ _=>none
def Qabo:Option PK→Option (List PK)→Option (List PK)
 |some p,some ps=>some (p::ps)
 |some _,none=>none
 |none,_=>none
def pkFL(h:Nat→Option Ent):List AV→Option (List PK)
 |[]=>some []
 |x::r=>Qabo (pkF h x) (pkFL h r)
def rchE(f:AV→List Nat):Option Ent→List Nat
 |some (_,.cells _ cs)=>cs.flatMap f
 |some (_,.arrA _ _ rows)=>rows.flatMap fun r=>r.flatMap f
 |_=>[]
def rch(h:Nat→Option Ent):Nat→AV→List Nat
 |0,_=>[]
 |n+1,.agg cs=>cs.flatMap (rch h n)
 |n+1,.tup cs=>cs.flatMap (rch h n)
 |n+1,.own o=>o::rchE (rch h n) (h o)
 |_+1,.mp o=>[o]
 |n+1,.ptr o _=>o::rchE (rch h n) (h o)
 |n+1,.clo _ a c=>a.flatMap (rch h n)++c.flatMap (rch h n)
 |_+1,_=>[]
def rchL(h:Nat→Option Ent)(xs:List AV):List Nat:=xs.flatMap (rch h 9)
def Env.froz(S:Env):Env:=⟨S.ρ,fun b=>S.ok b∨ ∃o e l,S.h o=some e∧S.ρ o=some l∧l.b=b,fun o=>(S.h o).map fun e=>(false,e.2),S.w⟩
theorem Qht{S:Env}{o:Nat}{e':Ent}(h:S.froz.h o=some e'): ∃e,S.h o=some e∧e'=(false,e.2):=by
 simp only[Env.froz,Option.map_eq_some_iff] at h;obtain⟨e,h1,rfl⟩:=h;exact⟨e,h1,rfl⟩
theorem Qgw(S:Env):Pres (fun _=>True) S S.froz:=by
 refine⟨fun b hb=>⟨.inl hb,rfl⟩,fun o _ e' he'=> ?_⟩;obtain⟨e,h1,rfl⟩:=Qht he';exact⟨e,h1,rfl,rfl,rfl⟩
def frozC(S:Env):Ctx:=⟨S.w,fun _=>False,S.froz.ok,0,fun _=>none,fun _=>none,[]⟩
theorem Qxy{C:Ctx}{S:Env}(hW:Wf C S):Wf (frozC S) S.froz:=by
 refine⟨rfl,rfl,rfl,Nat.le_refl _,fun _ _ _=>rfl,fun _ hb=>hb,fun _ hb=> .inl hb,?_,?_,?_,?_⟩
 ·rintro b (hb|⟨o,e,l,h1,h2,rfl⟩)
  ·exact hW.oks b hb
  ·exact (hW.loc o e l h1 h2).1
 ·intro o e' he';obtain⟨e,h1,rfl⟩:=Qht he';exact Qbr (Qgw S) (fun _ _=>rfl) _ (fun _ _=>trivial) (hW.obj o e h1)
 ·intro o e' l he' hl;obtain⟨e,h1,rfl⟩:=Qht he';exact⟨(hW.loc o e l h1 hl).1,.inl (.inr ⟨o,e,l,h1,hl,rfl⟩)⟩
 ·intro o o' e e' l l' he he' _ _ _ hf;obtain⟨x,_,rfl⟩:=Qht he;obtain⟨x',_,rfl⟩:=Qht he';simp at hf
section
variable {C:Ctx}{S:Env}{h:Nat→Option Ent}
theorem Qql(hW:Wf C S){f:AV→Option D}{g:AV→List Nat}(hf: ∀x d v,(∀m∈g x,S.h m=h m)→f x=some d→conc S x v→rd S.froz.ok S.froz.hp d v)
 {o off:Nat}{ds:List D}{v:Value}(h1:S.h o=h o)(hg: ∀m∈rchE g (h o),S.h m=h m)(hd:Qu4 f off (h o)=some ds)(hc:conc S (.ptr o off) v):
 ∃b p vs T fr,v= .pointer (some ⟨b,p,none⟩)∧S.froz.ok b∧S.froz.hp b=some (.cells vs T fr)∧rdp S.froz.ok S.froz.hp ds (vs.toList.drop p):=by
 have hL: ∀(cs:List AV) (ds:List D) (vs:List Value),(∀m∈cs.flatMap g,S.h m=h m)→mapO f cs=some ds→Qbv S cs vs→rdp S.froz.ok S.froz.hp ds vs:=by
  intro cs;induction cs with
  |nil=>
   intro ds vs _ hd _;simp only[mapO,Option.some.injEq] at hd;subst hd;simp only[rdp]
  |cons x cs ih=>
   intro ds vs hh hd hc;simp only[mapO] at hd;simp only[Qbv] at hc;obtain⟨v,r,rfl,h1,h2⟩:=hc;split at hd
   ·rename_i y ys hy hys;obtain rfl:=Option.some.inj hd;simp only[rdp];exact⟨v,r,rfl,hf x y v (fun m hm=>hh m (by rw[List.flatMap_cons];exact List.mem_append_left _ hm)) hy h1,ih ys r (fun m hm=>hh m (by rw[List.flatMap_cons];exact List.mem_append_right _ hm)) hys h2⟩
   ·cases hd
 simp only[conc] at hc;obtain⟨_,hc⟩:=hc;rw[←h1] at hd hg;cases he:S.h o with
 |none=>rw[he] at hd;cases hd
 |some e=>
  obtain⟨l,hl,rfl⟩:=hc e he;have hok:S.froz.ok l.b:= .inr ⟨o,e,l,he,hl,rfl⟩;obtain⟨mu,e⟩:=e;rw[he] at hd hg;have hob:=hW.obj o _ he;rw[hl] at hob;cases e with
  |cells T cs=>
   simp only[Qu4] at hd;simp only[objc] at hob;obtain⟨lc,vs,h3,h4,h5,h6⟩:=hob;cases h3;refine⟨l.b,l.p+off,vs,T,(0,0),rfl,hok,h5,?_⟩;rw[h4,Nat.zero_add];simp only[rchE] at hg;rcases Nat.le_total off cs.length with h7|h7
   ·refine hL _ _ _ (fun m hm=>hg m ?_) hd (Qex off cs _ (Qci _ _ h6) h7);obtain⟨x,k1,k2⟩:=List.mem_flatMap.1 hm;exact List.mem_flatMap.2 ⟨x,List.mem_of_mem_drop k1,k2⟩
   ·rw[List.drop_eq_nil_of_le h7] at hd;simp only[mapO,Option.some.injEq] at hd;subst hd;simp only[rdp]
  |view cs=>
   simp only[Qu4,Option.some.injEq] at hd;subst hd;simp only[objc] at hob;obtain⟨lc,vs,T,fr,h3,h5,h6⟩:=hob;cases h3;refine⟨l.b,l.p+off,vs,T,fr,rfl,hok,h5,?_⟩;have h7:=Qfm (Qgw S).ok _ _ h6;rw[←List.drop_drop];rcases Nat.le_total off cs.length with h|h
   ·exact Qea off cs _ h7 h
   ·rw[List.drop_eq_nil_of_le h];simp only[rdp]
  |_=>cases hd
theorem bk_rd(hW:Wf C S): ∀(n:Nat) (x:AV) (d:D) (v:Value),(∀m∈rch h n x,S.h m=h m)→bk h n x=some d→conc S x v→rd S.froz.ok S.froz.hp d v:=by
 intro n;induction n with
 |zero=>intro x d v _ hd;simp[bk] at hd
 |succ n ih=>
  have hl: ∀(cs:List AV) (ds:List D) (vs:List Value),(∀m∈cs.flatMap (rch h n),S.h m=h m)→mapO (bk h n) cs=some ds→Qa0 S cs vs→rdl S.froz.ok S.froz.hp ds vs:=by
   intro cs;induction cs with
   |nil=>
    intro ds vs _ hd hc;simp only[mapO,Option.some.injEq] at hd;subst hd;simpa only[Qa0,rdl] using hc
   |cons x cs ih2=>
    intro ds vs hh hd hc;simp only[mapO] at hd;simp only[Qa0] at hc;obtain⟨v,r,rfl,h1,h2⟩:=hc;split at hd
    ·rename_i y ys hy hys;obtain rfl:=Option.some.inj hd;simp only[rdl];exact⟨v,r,rfl,ih x y v (fun m hm=>hh m (by rw[List.flatMap_cons];exact List.mem_append_left _ hm)) hy h1,ih2 ys r (fun m hm=>hh m (by rw[List.flatMap_cons];exact List.mem_append_right _ hm)) hys h2⟩
    ·cases hd
  have hp: ∀(cs:List AV) (ds:List D) (vs:List Value),(∀m∈cs.flatMap (rch h n),S.h m=h m)→mapO (bk h n) cs=some ds→Qbv S cs vs→rdp S.froz.ok S.froz.hp ds vs:=by
   intro cs;induction cs with
   |nil=>
    intro ds vs _ hd hc;simp only[mapO,Option.some.injEq] at hd;subst hd;simp only[rdp]
   |cons x cs ih2=>
    intro ds vs hh hd hc;simp only[mapO] at hd;simp only[Qbv] at hc;obtain⟨v,r,rfl,h1,h2⟩:=hc;split at hd
    ·rename_i y ys hy hys;obtain rfl:=Option.some.inj hd;simp only[rdp];exact⟨v,r,rfl,ih x y v (fun m hm=>hh m (by rw[List.flatMap_cons];exact List.mem_append_left _ hm)) hy h1,ih2 ys r (fun m hm=>hh m (by rw[List.flatMap_cons];exact List.mem_append_right _ hm)) hys h2⟩
    ·cases hd
  have hr: ∀(k:Nat) (rs:List (List AV)) (ds:List (List D)) (vs:List Value),(∀m∈rs.flatMap (fun r=>r.flatMap (rch h n)),S.h m=h m)→mapO (mapO (bk h n)) rs=some ds→Qbb S k rs vs→rdr S.froz.ok S.froz.hp k ds vs∧ds.length=rs.length:=by
   intro k rs;induction rs with
   |nil=>
    intro ds vs _ hd _;simp only[mapO,Option.some.injEq] at hd;subst hd;exact⟨by simp only[rdr],rfl⟩
   |cons x rs ih2=>
    intro ds vs hh hd hc;simp only[mapO] at hd;simp only[Qbb] at hc;split at hd
    ·rename_i y ys hy hys;obtain rfl:=Option.some.inj hd;obtain⟨k1,k2⟩:=ih2 ys _ (fun m hm=>hh m (by rw[List.flatMap_cons];exact List.mem_append_right _ hm)) hys hc.2.2;refine⟨?_,by simp[k2]⟩;simp only[rdr];exact⟨(Qg7 _ _ hy).trans hc.1,hp x y _ (fun m hm=>hh m (by rw[List.flatMap_cons];exact List.mem_append_left _ hm)) hy hc.2.1,k1⟩
    ·cases hd
  intro x d v hh hd hc;cases x with
  |im d'=>
   simp only[bk,Option.some.injEq] at hd;subst hd;simp only[conc] at hc;exact Qb8 (Qgw S).ok _ _ hc
  |agg cs=>
   simp only[bk,Option.map_eq_some_iff] at hd;obtain⟨ds,h1,rfl⟩:=hd;simp only[conc] at hc;obtain⟨vs,rfl,h2⟩:=hc;simp only[rd];exact⟨vs,rfl,hl cs ds _ hh h1 h2⟩
  |tup cs=>
   simp only[bk,Option.map_eq_some_iff] at hd;obtain⟨ds,h1,rfl⟩:=hd;simp only[conc] at hc;obtain⟨vs,rfl,h2⟩:=hc;simp only[rd];exact⟨vs,rfl,hl cs ds _ hh h1 h2⟩
  |own o=>
   simp only[rch,List.mem_cons] at hh;have h1:=hh o (.inl rfl);simp only[bk] at hd;simp only[conc] at hc;rw[←h1] at hd hh;cases he:S.h o with
   |none=>rw[he] at hd;cases hd
   |some e=>
    have hc:=hc.2 e he;have hob:=hW.obj o _ he;obtain⟨mu,e⟩:=e;rw[he] at hd hh;have hok: ∀l,S.ρ o=some l→S.froz.ok l.b:=fun l hl=> .inr ⟨o,_,l,he,hl,rfl⟩
    have hpm:=Qgw S;cases e with
    |arr T k rows=>
     simp only[Qwz,Option.some.injEq] at hd;subst hd;simp only[objc] at hob;simp only[rd];cases hl:S.ρ o with
     |none=>rw[hl] at hc hob;exact .inl ⟨.inl hc,hob.2⟩
     |some l=>
      rw[hl] at hc hob;obtain⟨h0,h2,vs,h3,h4,h5⟩:=hob;exact .inr ⟨l.b,l.p,l.cap,vs,T,(0,0),hc,by simp,h2,h0,hok l hl,h3,Qfu hpm.ok _ _ _ h5⟩
    |arrA T k rows=>
     simp only[Qwz,Option.map_eq_some_iff] at hd;obtain⟨ds,hd,rfl⟩:=hd;simp only[objc] at hob;simp only[rd];have hlen:=Qg7 _ _ hd;cases hl:S.ρ o with
     |none=>
      rw[hl] at hc hob;obtain⟨_,hob⟩:=hob;subst hob;exact .inl ⟨.inl hc,List.eq_nil_of_length_eq_zero (by simpa using hlen)⟩
     |some l=>
      rw[hl] at hc hob;obtain⟨h0,h2,vs,h3,h4,h5⟩:=hob;obtain⟨k1,k2⟩:=hr k rows ds _ (fun m hm=>hh m (.inr (by simpa only[rchE] using hm))) hd h5;simp only[AObj.len] at hc;exact .inr ⟨l.b,l.p,l.cap,vs,T,(0,0),by rw[hlen];exact hc,by simp,by rw[hlen];exact h2,by rw[hlen];exact h0,hok l hl,h3,k1⟩
    |_=>cases hd
  |mp o=>
   have h1:=hh o (by simp[rch]);simp only[bk] at hd;simp only[conc] at hc;rw[←h1] at hd;cases he:S.h o with
   |none=>rw[he] at hd;cases hd
   |some e=>
    obtain⟨l,hl,rfl⟩:=hc.2 e he;have hob:=hW.obj o _ he;obtain⟨mu,e⟩:=e;rw[he] at hd;cases e with
    |map kt es=>
     simp only[bkMap,Option.some.injEq] at hd;subst hd;rw[hl] at hob;simp only[objc] at hob;obtain⟨lc,ents,clock,h2,h3,h4,h5,h6⟩:=hob;cases h2;simp only[rd];exact⟨l.b,ents,clock,rfl,h3,.inr ⟨o,_,l,he,hl,rfl⟩,h4,Qc6 (Qgw S).ok _ _ h5,h6⟩
    |_=>cases hd
  |ptr o off=>
   simp only[rch,List.mem_cons] at hh;simp only[bk,Option.map_eq_some_iff] at hd;obtain⟨ds,hd,rfl⟩:=hd;simp only[rd];exact Qql hW (g:=rch h n) (fun x d v h1 h2 h3=>ih x d v h1 h2 h3) (hh o (.inl rfl)) (fun m hm=>hh m (.inr hm)) hd hc
  |clo f a c=>
   simp only[rch,List.mem_append] at hh;simp only[bk] at hd;cases ha:mapO (bk h n) a with
   |none=>rw[ha] at hd;cases hd
   |some da=>
    cases hcc:mapO (bk h n) c with
    |none=>rw[ha,hcc] at hd;cases hd
    |some dc=>
     rw[ha,hcc] at hd;simp only[bkFn,Option.some.injEq] at hd;subst hd;simp only[conc] at hc;obtain⟨va,vc,rfl,h3,h4⟩:=hc;simp only[rd];exact⟨va,vc,rfl,hl a da _ (fun m hm=>hh m (.inl hm)) ha h3,hl c dc _ (fun m hm=>hh m (.inr hm)) hcc h4⟩
  |_=>simp[bk] at hd
theorem Qii(hW:Wf C S){x:AV}{p:PK}{v:Value}(hh: ∀m∈rch h 9 x,S.h m=h m)(hp:pkFV (bk h 9 x)=some p)(hc:conc S x v):PKc S.froz p v:=by
 simp only[pkFV,Option.map_eq_some_iff] at hp;obtain⟨d,h1,rfl⟩:=hp;simp only[PKc];exact bk_rd hW 9 x d v hh h1 hc
theorem pkF_spec(hW:Wf C S){x:AV}{p:PK}{v:Value}(hh: ∀m∈rch h 9 x,S.h m=h m)(hp:pkF h x=some p)(hc:conc S x v):PKc S.froz p v:=by
 cases x with
 |im d=>
  simp only[pkF,Option.some.injEq] at hp;subst hp;simp only[conc] at hc;exact Qyv (Qxy hW) (Qb8 (Qgw S).ok d v hc)
 |ptr o off=>
  simp only[rch,List.mem_cons] at hh;simp only[pkF,pkFP,Option.map_eq_some_iff] at hp;obtain⟨ds,h1,rfl⟩:=hp;obtain⟨b,q,vs,T,fr,h2,h3,h4,h5⟩:=Qql hW (g:=rch h 8) (fun x d v h1 h2 h3=>bk_rd hW 8 x d v h1 h2 h3) (hh o (.inl rfl)) (fun m hm=>hh m (.inr hm)) h1 hc;simp only[PKc];exact⟨b,q,vs,T,fr,h2,(Qxy hW).oks b h3,h4,h5⟩
 |own o=>exact Qii hW hh hp hc
 |mp o=>exact Qii hW hh hp hc
 |agg cs=>exact Qii hW hh hp hc
 |tup cs=>exact Qii hW hh hp hc
 |clo f a c=>exact Qii hW hh hp hc
 |_=>cases hp
theorem Qtx(hW:Wf C S): ∀(xs:List AV) (ps:List PK) (vs:List Value),(∀m∈rchL h xs,S.h m=h m)→pkFL h xs=some ps→Qa0 S xs vs→PKL S.froz ps vs
 |[],ps,vs,_,hp,hc=>by
  simp only[pkFL,Option.some.injEq] at hp;subst hp;simp only[Qa0] at hc;simp only[PKL];exact hc
 |x::xs,ps,vs,hh,hp,hc=>by
  simp only[pkFL] at hp;simp only[Qa0] at hc;obtain⟨v,r,rfl,h1,h2⟩:=hc;cases hx:pkF h x with
  |none=>rw[hx] at hp;cases hp
  |some p=>
   cases hr:pkFL h xs with
   |none=>rw[hx,hr] at hp;cases hp
   |some qs=>
    rw[hx,hr] at hp;simp only[Qabo,Option.some.injEq] at hp;subst hp;simp only[PKL];refine⟨v,r,rfl,pkF_spec hW (fun m hm=>hh m ?_) hx h1,Qtx hW xs qs r (fun m hm=>hh m ?_) hr h2⟩
    ·simp only[rchL,List.flatMap_cons];exact List.mem_append_left _ hm
    ·simp only[rchL,List.flatMap_cons];exact List.mem_append_right _ hm
end
theorem view_runF{P:Program}(HM:P.follows .mixedOrders=true){V:Qbh}(hV:Qkj P V){g:FuncId}{fn:Func}{c:Code}(hf:P.funcs[g]? =some fn)(hb:fn.body=some c)(hchk:chk fn.ntmps c=true)
 {ps:List PK}(hlen:ps.length≤fn.ntmps){R:D→Prop}
 (hk:awp P V c (Qxj P fn.results.toList R) ⟨entry 0 (Qcq 0 ps),Qc5 0 ps,cnum ps⟩)
 {C:Ctx}{S:Env}{vs:Array Value}{RR:Ending→World→Prop}(hW:Wf C S)(hps:PKL S ps vs.toList)
 (hfin: ∀(v:Value) (C0:Ctx) (S1:Env) (d:D),C0.w=S.w→C0.ok=S.ok→(∀b,¬C0.M b)→Wf C0 S1→R d→rd (okF C0 S1) S1.hp d v→RR (.returned v) S1.w):Calls P g vs S.w RR:=by
 refine calls_of_wp hf hb ?_;have hvs:vs.size=(Qcq 0 ps).length:=by rw[Qee];simpa using hps.len
 obtain⟨ls,hls,hcl⟩:=Qob ps vs.toList 0 hps
 let S0:Env:=⟨ls,S.ok,hget (Qc5 0 ps),S.w⟩
 let C0:Ctx:=⟨S.w,fun _=>False,S.ok,0,fun _=>none,fun _=>none,[]⟩
 have hW0:Wf C0 S0:=by
  refine⟨rfl,rfl,rfl,Nat.le_refl _,fun _ _ _=>rfl,fun _ hb=>hb,fun _ hb=> .inl hb,hW.oks,?_,?_,?_⟩
  ·intro n e he;obtain⟨l,h1,_,h3⟩:=hls n e he;have h4:S0.ρ n=some l:=h1;rw[h4];obtain⟨_,cs,rfl⟩:=Qbm 0 ps n e he;simp only[objc] at h3⊢;exact h3
  ·intro n e l he hl;obtain⟨l',h1,h2,h3⟩:=hls n e he;have h4:S0.ρ n=some l':=h1;rw[h4] at hl;obtain rfl:=Option.some.inj hl;obtain⟨_,cs,rfl⟩:=Qbm 0 ps n e he;exact⟨h2,.inr rfl⟩
  ·intro n n' e e' l l' he he' hl hl' hbb hfl;obtain⟨_,cs,rfl⟩:=Qbm 0 ps n e he;obtain⟨_,cs',rfl⟩:=Qbm 0 ps n' e' he';simp at hfl
 have hc0:Con C0 fn.ntmps ⟨entry 0 (Qcq 0 ps),Qc5 0 ps,cnum ps⟩ {tmps:=vs++Array.replicate (fn.ntmps - vs.size) undef,defers:=[]} S.w:=by
  have hargs0:Qa0 S0 (Qcq 0 ps) vs.toList:=hcl S0 rfl rfl (fun n _=>⟨rfl,rfl⟩);refine⟨S0,rfl,hW0,fun n=>rfl,?_,?_,?_,by simp;rw[Qee] at hvs;omega,rfl,Nat.zero_le _,fun o ho=>absurd ho (Nat.not_lt_zero _)⟩
  ·intro t;have h1:=Qev (S:=S0) (Qcq 0 ps) vs.toList 0 t hargs0;simp only[Nat.zero_le,if_true,Nat.sub_zero] at h1
   have:({tmps:=vs++Array.replicate (fn.ntmps - vs.size) undef,defers:=[]}:Act).eval (.tmp t)=(vs.toList[t]?).getD undef:=by
    simp only[Act.eval,Array.getD_eq_getD_getElem?,Array.getElem?_append,Array.getElem?_replicate];by_cases ht:t<vs.size
    ·simp[ht]
    ·simp only[ht,if_false]
     have:vs[t]? =none:=Array.getElem?_eq_none (by omega)
     simp only[Array.getElem?_toList,this]
     split<;>rfl
   rw[this];exact h1
  ·intro t m hm;exact Qic 0 ps (cnum ps) (by omega) m (Qgh (Qcq 0 ps) 0 t m hm)
  ·intro n e he;obtain⟨h1,cs,rfl⟩:=Qbm 0 ps n e he;exact⟨by show n<cnum ps;omega,by simp[AObj.nms]⟩
 refine wp_mono (Qo4 HM (Qvp hV) c hchk _ _ _ _ hk hc0) ?_;have fin: ∀(s:Qad) (a:Act) (w:World),retF P fn.results.toList R s→Con C0 fn.ntmps s a w→a.defers=[]∧ ∃v,(results fn a.tmps).run P w= .ok v w∧RR (.returned v) w:=by
  rintro s a w hr ⟨S1,rfl,hc⟩;unfold retF at hr;cases hxs:mapO (Qj3 P s) fn.results.toList with
  |none=>rw[hxs] at hr;exact hr.elim
  |some xs=>
   rw[hxs] at hr;simp only[retF1] at hr;obtain⟨v,hrun,hconc⟩:=Qe7 hc hxs;refine⟨hc.defers,v,hrun,?_⟩;have hSh:hget s.h=S1.h:=(funext hc.h).symm;rw[hSh] at hr;obtain⟨d,h1,h2⟩:=Qzf (fun _ h=>h) hc.wf hr hconc;exact hfin v C0 S1 d rfl rfl (fun _ h=>h) hc.wf h1 h2
 intro e a w he;cases e<;>simp only[toQ] at he<;>simp only[bodyPost]
 ·obtain⟨s,hs,hc⟩:=he;exact fin s a w hs hc
 ·obtain⟨s,hs,_⟩:=he;exact hs.elim
 ·obtain⟨s,hs,hc⟩:=he;exact fin s a w hs hc
def Qct{A:Type}(ar:List PK→Option A)(pre:A→Prop)(re:A→D)(u:List Nat)(K:Kont):Option (List PK)→Prop
 |some ps=>decK (fun a=>pre a∧K (.im (re a)) {use:=u}) (ar ps)
 |none=>False
def Qfi{A:Type}(ar:List PK→Option A)(pre:A→Prop)(re:A→D):Row:=fun args h _ K=>Qct ar pre re (rchL h args) K (pkFL h args)
def decD{B:Type}(rc:D→Option B)(b:B)(d:D):Prop:=rc d=some b
theorem Quy{P:Program}{g:FuncId}(hcal:calb P g=true)
 {A B:Type}{ar:List PK→Option A}{ae:A→List PK}(hle: ∀ps a,ar ps=some a→LeKL ps (ae a)){rc:D→Option B}{re:B→D}(hrc: ∀d b,rc d=some b→Le d (re b))
 {pre:A→Prop}{f:A→B}
 (hrun: ∀a,pre a→ ∀{C:Ctx} {S:Env} {vs:Array Value} {RR:Ending→World→Prop},Wf C S→PKL S (ae a) vs.toList→
  (∀(v:Value) (C0:Ctx) (S1:Env) (d:D),C0.w=S.w→C0.ok=S.ok→(∀b,¬C0.M b)→Wf C0 S1→decD rc (f a) d→rd (okF C0 S1) S1.hp d v→RR (.returned v) S1.w)→Calls P g vs S.w RR):
 Qas P g (Qfi ar pre fun a=>re (f a)):=by
 intro args h nx K hrow;unfold Qfi at hrow;cases hp:pkFL h args with
 |none=>rw[hp] at hrow;exact hrow.elim
 |some ps=>
  rw[hp] at hrow;simp only[Qct] at hrow;cases ha:ar ps with
  |none=>rw[ha] at hrow;exact hrow.elim
  |some a=>
   rw[ha] at hrow;simp only[decK] at hrow;obtain⟨hpre,hK⟩:=hrow;refine⟨Qh7 hcal,_,_,?_,hK⟩;intro C S vs RR hW huse hfresh hnames hargs hfin;have hps:=Qtx hW args ps vs.toList (fun m hm=>huse m (List.mem_append_left _ hm)) hp hargs;have hWa:=Qxy hW;refine hrun a hpre (S:=S.froz) hWa ((hle ps a ha).c hps) ?_;intro v C0 S1 d hCw hCo hCM hW1 hR hrd;have hCw:C0.w=S.w:=hCw;have hCo:C0.ok=S.froz.ok:=hCo;have hkeep: ∀b,b<S.w.heap.size→S1.w.heap[b]? =S.w.heap[b]? :=fun b hb=>by
    have:=hW1.keep b (by rw[hCw];exact hb) (hCM b)
    rw[hCw] at this;exact this
   have hsz:S.w.heap.size≤S1.w.heap.size:=by have:=hW1.size;rw[hCw] at this;exact this
   let S':Env:={S with ok:=fun b=>S.ok b∨okF C0 S1 b,w:=S1.w}
   have hp':Pres (fun _=>True) S S':=⟨fun b hb=>⟨.inl hb,hkeep b (hW.oks b hb)⟩,fun o _ e' he'=>⟨e',he',rfl,rfl,rfl⟩⟩;have hbig: ∀b,okF C0 S1 b→S.w.heap.size≤b:=fun b hb=>by have:=hb.1;rw[hCw] at this;exact this
   have hW':Wf C S':=by
    refine⟨?_,?_,?_,Nat.le_trans hW.size hsz,?_,fun b hb=> .inl (hW.ok0 b hb),?_,?_,?_,?_,hW.inj⟩
    ·exact hW1.os.trans (by rw[hCw];exact hW.os)
    ·exact hW1.tape.trans (by rw[hCw];exact hW.tape)
    ·exact hW1.output.trans (by rw[hCw];exact hW.output)
    ·intro b hb hM;exact (hkeep b (Nat.lt_of_lt_of_le hb hW.size)).trans (hW.keep b hb hM)
    ·rintro b (hb|hb)
     ·exact hW.ok1 b hb
     ·exact .inr (.inl (Nat.le_trans hW.size (hbig b hb)))
    ·rintro b (hb|hb)
     ·exact Nat.lt_of_lt_of_le (hW.oks b hb) hsz
     ·exact hb.2.1
    ·intro o e he;exact Qbr hp' (fun lc hl=>hkeep lc.b (hW.loc o e lc he hl).1) _ (fun _ _=>trivial) (hW.obj o e he)
    ·intro o e l he hl;obtain⟨h2,h3⟩:=hW.loc o e l he hl;refine⟨Nat.lt_of_lt_of_le h2 hsz,?_⟩;cases hm:e.1 with
     |false=>
      rw[hm] at h3;simp only[Bool.false_eq_true,if_false] at h3⊢;exact h3.imp (fun h=> .inl h) id
     |true=>
      rw[hm] at h3;simp only[if_true] at h3⊢;refine⟨?_,h3.2⟩;rintro (h|h)
      ·exact h3.1 h
      ·have:=hbig _ h;omega
   refine hfin v S' hW' ?_ ⟨hp'.ok,fun o _=>hp'.nm o trivial⟩ ?_
   ·show S.h=_;funext m;simp[Eff.appf,hget]
   ·simp only[conc];have h9:=hrc _ _ hR _ _ _ hrd;exact Qb8 (fun b hb=>⟨.inr hb,rfl⟩) _ _ h9
theorem Qbn{P:Program}(HM:P.follows .mixedOrders=true){V:Qbh}(hV:Qkj P V){g:FuncId}{fn:Func}{c:Code}(hf:P.funcs[g]? =some fn)(hb:fn.body=some c)(hchk:chk fn.ntmps c=true)(hcal:calb P g=true)
 {A B:Type}{ar:List PK→Option A}{ae:A→List PK}(hle: ∀ps a,ar ps=some a→LeKL ps (ae a)){n:Nat}(hn: ∀a,(ae a).length=n)(hnt:n≤fn.ntmps){rc:D→Option B}{re:B→D}(hrc: ∀d b,rc d=some b→Le d (re b))
 {pre:A→Prop}{f:A→B}
 (hk: ∀a,pre a→awp P V c (Qxj P fn.results.toList (decD rc (f a))) ⟨entry 0 (Qcq 0 (ae a)),Qc5 0 (ae a),cnum (ae a)⟩):
 Qas P g (Qfi ar pre fun a=>re (f a)):=
 Quy hcal hle hrc (fun a hpre _ _ _ _ hW hps hfin=>view_runF HM hV hf hb hchk (by rw[hn];exact hnt) (hk a hpre) hW hps hfin)
end Go.Ae
namespace Go.Ae
theorem ef_fit1(ks:List KK)(ds:List D):KT.fit ⟨true,ks⟩ (.agg ds)=fitL ks ds:=rfl
theorem ef_fit2(ks:List KK)(k:IntKind)(n:Int):KT.fit ⟨false,ks⟩ (.int k n)=fitL ks [.int k n]:=rfl
theorem ef_fit3(ks:List KK)(s:ByteArray):KT.fit ⟨false,ks⟩ (.str s)=fitL ks [.str s]:=rfl
theorem ef_fit4(ks:List KK)(s:Bool):KT.fit ⟨false,ks⟩ (.bool s)=fitL ks [.bool s]:=rfl
theorem ef_resV0:resV []= .tup []:=rfl
theorem ef_resV2(x y:AV):resV [x,y]= .tup [x,y]:=rfl
theorem ef_resV3(x y z:AV):resV [x,y,z]= .tup [x,y,z]:=rfl
theorem ef_resV4(x y z w:AV):resV [x,y,z,w]= .tup [x,y,z,w]:=rfl
theorem Qabq(t:Option Nat)(want:Bool)(s:Qad)(Kdo Kskip:Qad→Prop)(b:Bool):Qg4 t want s Kdo Kskip (.im (.bool b))=if b=want then Kdo (s.put t (.im (.bool want))) else Kskip (s.put t (.im (.bool (!want)))):=by
 cases b<;>cases want<;>simp[Qg4]
theorem ef_condVC(A B:Qbl→Qad→Prop)(Q:Qbl)(s:Qad)(b:Bool):Quv A B Q s (.im (.bool b))=if b=true then A Q s else B Q s:=by
 cases b<;>simp[Quv]
theorem ef_pickV(c:Bool)(K:Kont)(a b:AV):pickV c K a b=if c=true then K a {} else K b {}:=by
 cases c<;>simp[pickV]
theorem ef_tget(m:Nat)(x:AV)(r:List (Nat×AV))(n:Nat):tget ((m,x)::r) n=if m=n then x else tget r n:=by
 by_cases h:m=n
 ·subst h;simp[tget]
 ·have:(m==n)=false:=by simpa using h
  simp[tget,this,h]
theorem ef_hget(m:Nat)(x:Ent)(r:Qan)(n:Nat):hget ((m,x)::r) n=if m=n then some x else hget r n:=by
 by_cases h:m=n
 ·subst h;simp[hget]
 ·have:(m==n)=false:=by simpa using h
  simp[hget,this,h]
theorem ef_hdel(m:Nat)(x:Ent)(r:Qan)(ks:List Nat):hdel ((m,x)::r) ks=if ks.contains m=true then hdel r ks else (m,x)::hdel r ks:=by
 cases h:ks.contains m<;>simp only[hdel,h]<;>simp
theorem ef_ckP(cl:List (List Nat))(j:Nat)(use touch names:List Nat)(f:Fp):ckP cl j use touch names f=if (Ql9 (use++touch) f.touch && (Ql9 touch f.use && outN f.nx f.cnt names))=true then true else ordB cl f.i j:=by
 unfold ckP;cases (Ql9 (use++touch) f.touch && (Ql9 touch f.use && outN f.nx f.cnt names))<;>rfl
theorem nv_int(k:IntKind)(n:Int):nilV (.int k n)=0:=rfl
theorem nv_bool(b:Bool):nilV (.bool b)=0:=rfl
theorem nv_str(s:ByteArray):nilV (.string s)=0:=rfl
theorem nv_agg(cs:Array Value):nilV (.agg cs)=0:=rfl
theorem ns_int(k:IntKind)(n:Int):Qdt (.int k n)=false:=rfl
theorem ns_bool(b:Bool):Qdt (.bool b)=false:=rfl
theorem ns_str(s:ByteArray):Qdt (.string s)=false:=rfl
theorem ns_agg(cs:Array Value):Qdt (.agg cs)=false:=rfl
theorem ns_ptr(a:Option Addr):Qdt (.pointer a)=false:=rfl
theorem ns_map(a:Option Nat):Qdt (.map a)=false:=rfl
theorem ns_nf:Qdt .nilFunc=false:=rfl
theorem ns_ni:Qdt .nilIface=false:=rfl
section
variable (P:Program)(V:Qbh)(tm:List (Nat×AV))(h:Nat→Option Ent)(nx:Nat)(ty:TypeId)(K:Kont)
theorem sc_move(x:Operand):Qc0 P V tm h nx ty K (.move x)=step P V true tm h nx ty K (.move x):=rfl
theorem sc_assign(x:Operand):Qc0 P V tm h nx ty K (.assign x)=step P V true tm h nx ty K (.assign x):=rfl
theorem sc_pick(c:Operand)(a:Operand)(b:Operand):Qc0 P V tm h nx ty K (.pick c a b)=step P V true tm h nx ty K (.pick c a b):=rfl
theorem sc_alloc(t:TypeId):Qc0 P V tm h nx ty K (.alloc t)=step P V true tm h nx ty K (.alloc t):=rfl
theorem sc_box(t:TypeId)(x:Operand):Qc0 P V tm h nx ty K (.box t x)=step P V true tm h nx ty K (.box t x):=rfl
theorem sc_build(t:TypeId)(ps:Array (Nat×Operand)):Qc0 P V tm h nx ty K (.build t ps)=step P V true tm h nx ty K (.build t ps):=rfl
theorem Qs8(t:TypeId)(n:Nat)(ps:Array (Nat×Operand)):Qc0 P V tm h nx ty K (.buildSlice t n ps)=step P V true tm h nx ty K (.buildSlice t n ps):=rfl
theorem sc_load(t:TypeId)(x:Operand):Qc0 P V tm h nx ty K (.load t x)=step P V true tm h nx ty K (.load t x):=rfl
theorem sc_store(t:TypeId)(x:Operand)(v:Operand):Qc0 P V tm h nx ty K (.store t x v)=step P V true tm h nx ty K (.store t x v):=rfl
theorem Qyd(x:Operand):Qc0 P V tm h nx ty K (.nilCheck x)=step P V true tm h nx ty K (.nilCheck x):=rfl
theorem sc_binOp(op:BinOp)(t:TypeId)(x:Operand)(y:Operand)(u:TypeId):Qc0 P V tm h nx ty K (.binOp op t x y u)=step P V true tm h nx ty K (.binOp op t x y u):=rfl
theorem sc_unOp(op:UnOp)(t:TypeId)(x:Operand):Qc0 P V tm h nx ty K (.unOp op t x)=step P V true tm h nx ty K (.unOp op t x):=rfl
theorem Qaa9(s:TypeId)(t:TypeId)(x:Operand):Qc0 P V tm h nx ty K (.convert s t x)=step P V true tm h nx ty K (.convert s t x):=rfl
theorem Qyi(f:Fn)(a:Array Operand)(c:Array Operand):Qc0 P V tm h nx ty K (.makeFunc f a c)=step P V true tm h nx ty K (.makeFunc f a c):=rfl
theorem Qaa8(t:TypeId)(r:Option Operand):Qc0 P V tm h nx ty K (.makeMap t r)=step P V true tm h nx ty K (.makeMap t r):=rfl
theorem Qvy(t:TypeId)(l:Operand)(c:Operand):Qc0 P V tm h nx ty K (.makeSlice t l c)=step P V true tm h nx ty K (.makeSlice t l c):=rfl
theorem Qv2(t:TypeId)(x:Operand)(f:Nat):Qc0 P V tm h nx ty K (.fieldAddr t x f)=step P V true tm h nx ty K (.fieldAddr t x f):=rfl
theorem Qvr(t:TypeId)(x:Operand)(i:Operand):Qc0 P V tm h nx ty K (.indexAddr t x i)=step P V true tm h nx ty K (.indexAddr t x i):=rfl
theorem sc_index(t:TypeId)(x:Operand)(i:Operand):Qc0 P V tm h nx ty K (.index t x i)=step P V true tm h nx ty K (.index t x i):=rfl
theorem sc_lookup(t:TypeId)(m:Operand)(k:Operand)(ok:Bool):Qc0 P V tm h nx ty K (.lookup t m k ok)=step P V true tm h nx ty K (.lookup t m k ok):=rfl
theorem Qwt(t:TypeId)(m:Operand)(k:Operand)(v:Operand):Qc0 P V tm h nx ty K (.mapUpdate t m k v)=step P V true tm h nx ty K (.mapUpdate t m k v):=rfl
theorem Qabt(x:Operand)(i:Nat):Qc0 P V tm h nx ty K (.extract x i)=step P V true tm h nx ty K (.extract x i):=rfl
theorem sc_call(c:Call):Qc0 P V tm h nx ty K (.call c)=step P V true tm h nx ty K (.call c):=rfl
theorem sc_slice(t:TypeId)(x:Operand)(lo:Option Operand)(hi:Option Operand)(mx:Option Operand):Qc0 P V tm h nx ty K (.slice t x lo hi mx)=step P V true tm h nx ty K (.slice t x lo hi mx):=rfl
theorem sc_range(t:TypeId)(x:Operand):Qc0 P V tm h nx ty K (.range t x)=step P V true tm h nx ty K (.range t x):=rfl
theorem sc_next(x:Operand)(b:Bool):Qc0 P V tm h nx ty K (.next x b)=step P V true tm h nx ty K (.next x b):=rfl
theorem sc_entry(x:Operand):Qc0 P V tm h nx ty K (.entry x)=step P V true tm h nx ty K (.entry x):=rfl
theorem Qyj(t:TypeId)(x:Operand):Qc0 P V tm h nx ty K (.makeChan t x)=step P V true tm h nx ty K (.makeChan t x):=rfl
theorem Qmy(t:TypeId)(x:Operand):Qc0 P V tm h nx ty K (.makeInterface t x)=step P V true tm h nx ty K (.makeInterface t x):=rfl
theorem sc_panic(x:Operand):Qc0 P V tm h nx ty K (.panic x)=step P V true tm h nx ty K (.panic x):=rfl
theorem Qs9(x:Operand)(t:TypeId)(u:TypeId)(ok:Bool):Qc0 P V tm h nx ty K (.typeAssert x t u ok)=step P V true tm h nx ty K (.typeAssert x t u ok):=rfl
end
theorem J{a b:Prop}(x:a)(y:b):a∧b:=⟨x,y⟩
def VC0:=J @tget.eq_1 (J @hget.eq_1 (J @hdel.eq_1 (J @Qad.put.eq_1 (J @Qad.put.eq_2 (J @Qad.app.eq_1 (J @kD.eq_1 (J @kD.eq_2 (J @kD.eq_3 (J @kD.eq_4 (J @kD.eq_5 (J @kD.eq_6 (J @kD.eq_7 (J @kD.eq_8 (J @kD.eq_9 (J @evO.eq_1 (J @evO.eq_2 (J @evO.eq_3 (J @evO.eq_4 (J @D.cells.eq_1 (J @D.cells.eq_2 (J @D.cells.eq_3 (J @D.cells.eq_4 (J @D.cells.eq_5 (J @D.cells.eq_6 (J @D.cells.eq_7 (J @D.cells.eq_8 (J @D.cells.eq_9 (J @D.cells.eq_10 (@D.cells.eq_11)))))))))))))))))))))))))))))
def VC1:=J @D.cells.eq_12 (J @D.cells.eq_13 (J @D.cells.eq_14 (J @D.cells.eq_15 (J @D.cells.eq_16 (J @AV.cells.eq_1 (J @AV.cells.eq_2 (J @AV.cells.eq_3 (J @AV.cells.eq_4 (J @AV.cells.eq_5 (J @AV.cells.eq_6 (J @AV.cells.eq_7 (J @AV.cells.eq_8 (J @AV.cells.eq_9 (J @AV.cells.eq_10 (J @AV.cells.eq_11 (J @AV.cells.eq_12 (J @D.one.eq_1 (J @D.one.eq_2 (J @D.one.eq_3 (J @D.one.eq_4 (J @D.one.eq_5 (J @D.one.eq_6 (J @D.one.eq_7 (J @D.one.eq_8 (J @D.one.eq_9 (J @D.one.eq_10 (J @D.one.eq_11 (J @D.one.eq_12 (@D.one.eq_13)))))))))))))))))))))))))))))
def VC2:=J @D.one.eq_14 (J @D.one.eq_15 (J @D.one.eq_16 (J @AV.one.eq_1 (J @AV.one.eq_2 (J @AV.one.eq_3 (J @AV.one.eq_4 (J @AV.one.eq_5 (J @AV.one.eq_6 (J @AV.one.eq_7 (J @AV.one.eq_8 (J @AV.one.eq_9 (J @AV.one.eq_10 (J @AV.one.eq_11 (J @AV.one.eq_12 (J @Qhz.eq_1 (J @Qhz.eq_2 (J @AV.asD.eq_1 (J @AV.asD.eq_2 (J @AV.asD.eq_3 (J @AV.asD.eq_4 (J @AV.asD.eq_5 (J @AV.asD.eq_6 (J @AV.asD.eq_7 (J @AV.asD.eq_8 (J @AV.asD.eq_9 (J @AV.asD.eq_10 (J @AV.asD.eq_11 (J @AV.asD.eq_12 (@Qlx.eq_1)))))))))))))))))))))))))))))
def VC3:=J @Qlx.eq_2 (J @Qlx.eq_3 (J @Qcr.eq_1 (J @Qcr.eq_2 (J @mkO.eq_1 (J @mkO.eq_2 (J @hdV.eq_1 (J @hdV.eq_2 (J @hdD.eq_1 (J @hdD.eq_2 (J @mkV.eq_1 (J @mkD.eq_1 (J @Qa5.eq_1 (J @D.beq.eq_1 (J @D.beq.eq_2 (J @D.beq.eq_3 (J @D.beq.eq_4 (J @D.beql.eq_1 (J @D.beql.eq_2 (J @lk.eq_1 (J @lk.eq_2 (J @upd.eq_1 (J @upd.eq_2 (J @del.eq_1 (J @del.eq_2 (J @Qnv.eq_1 (J @Qwr.eq_1 (J @ldPtr.eq_1 (J @ldPtr.eq_2 (@ldElt.eq_1)))))))))))))))))))))))))))))
def VC4:=J @ldElt.eq_2 (J @Qou.eq_1 (J @Qou.eq_2 (J @Qou.eq_3 (J @kStD.eq_1 (J @kStD.eq_2 (J @Qxz.eq_1 (J @Qyo.eq_1 (J @sdPtr.eq_1 (J @sdElt.eq_1 (J @sdElt.eq_2 (J @Qh8.eq_1 (J @Qh8.eq_2 (J @Qri.eq_1 (J @alv.eq_1 (J @alv.eq_2 (J @faAt.eq_1 (J @faAt.eq_2 (J @faAt.eq_3 (J @faOf.eq_1 (J @faOf.eq_2 (J @faK.eq_1 (J @Qhg.eq_1 (J @kRef.eq_1 (J @iaObj.eq_1 (J @iaObj.eq_2 (J @iaSl.eq_1 (J @iaSl.eq_2 (J @iaArr.eq_1 (@iaArr.eq_2)))))))))))))))))))))))))))))
def VC5:=J @Qax.eq_1 (J @Qax.eq_2 (J @iaK.eq_1 (J @iaK.eq_2 (J @Qjp.eq_1 (J @ixArr.eq_1 (J @kCh.eq_1 (J @ixK.eq_1 (J @ixK.eq_2 (J @Qxc.eq_1 (J @shK.eq_1 (J @shK.eq_2 (J @shK.eq_3 (J @shK.eq_4 (J @shK.eq_5 (J @shK.eq_6 (J @shK.eq_7 (J @shK.eq_8 (J @shK.eq_9 (J @shK.eq_10 (J @shK.eq_11 (J @shK.eq_12 (J @shK.eq_13 (J @shK.eq_14 (J @shK.eq_15 (J @shK.eq_16 (J @shK.eq_17 (J @Qh2.eq_1 (J @Qh2.eq_2 (@Qh2.eq_3)))))))))))))))))))))))))))))
def VC6:=J @Qh2.eq_4 (J @Qh2.eq_5 (J @Qh2.eq_6 (J @Qh2.eq_7 (J @Qh2.eq_8 (J @Qh2.eq_9 (J @Qh2.eq_10 (J @Qh2.eq_11 (J @Qh2.eq_12 (J @Qh2.eq_13 (J @Qh2.eq_14 (J @eqB.eq_1 (J @eqNilS.eq_1 (J @Qu7.eq_1 (J @Qu7.eq_2 (J @Qu7.eq_3 (J @Qu7.eq_4 (J @Qaal.eq_1 (J @Qaal.eq_2 (J @Qaal.eq_3 (J @Qkv.eq_1 (J @Qkv.eq_2 (J @Qkv.eq_3 (J @Qabv.eq_1 (J @Qabv.eq_2 (J @Qabv.eq_3 (J @stBoo.eq_1 (J @stBoo.eq_2 (J @stBoK.eq_1 (@stBoK.eq_2)))))))))))))))))))))))))))))
def VC7:=J @Qok.eq_1 (J @Qok.eq_2 (J @Qoa.eq_1 (J @Qoa.eq_2 (J @Qmf.eq_1 (J @Qmf.eq_2 (J @Qmf.eq_3 (J @Qw4.eq_1 (J @Qw4.eq_2 (J @Qw4.eq_3 (J @Qw4.eq_4 (J @stUn.eq_1 (J @stUn.eq_2 (J @Qt6.eq_1 (J @Qt6.eq_2 (J @Qdp.eq_1 (J @Qdp.eq_2 (J @Qdp.eq_3 (J @plArr.eq_1 (J @plStr.eq_1 (J @Qabi.eq_1 (J @Qabi.eq_2 (J @bdArr.eq_1 (J @bdK.eq_1 (J @bdK.eq_2 (J @Qsy.eq_1 (J @Qd0.eq_1 (J @Qd0.eq_2 (J @repZ.eq_1 (@repZ.eq_2)))))))))))))))))))))))))))))
def VC8:=J @bsObj.eq_1 (J @bsObj.eq_2 (J @bsEnd.eq_1 (J @bsEnd.eq_2 (J @bsE.eq_1 (J @bsK.eq_1 (J @Qfp.eq_1 (J @msE.eq_1 (J @msK.eq_1 (J @Qhl.eq_1 (J @Qmn.eq_1 (J @Qmn.eq_2 (J @Qco.eq_1 (J @Qco.eq_2 (J @imR.eq_1 (J @allD.eq_1 (J @allD.eq_2 (J @Src.okOne.eq_1 (J @Src.okOne.eq_2 (J @Src.okOne.eq_3 (J @Qaa6.eq_1 (J @Qaa6.eq_2 (J @Qaa6.eq_3 (J @apD.eq_1 (J @apD.eq_2 (J @apD.eq_3 (J @apA.eq_1 (J @apA.eq_2 (J @apA.eq_3 (@apObj.eq_1)))))))))))))))))))))))))))))
def VC9:=J @apObj.eq_2 (J @apTo.eq_1 (J @apTo.eq_2 (J @apE.eq_1 (J @apK.eq_1 (J @Qsl.eq_1 (J @kInt.eq_1 (J @Qxr.eq_1 (J @Qxr.eq_2 (J @lenObjM.eq_1 (J @lenW.eq_1 (J @lenW.eq_2 (J @Qw2.eq_1 (J @Qw2.eq_2 (J @Qw2.eq_3 (J @lenStr.eq_1 (J @Qvs.eq_1 (J @Qvs.eq_2 (J @Qvs.eq_3 (J @lenK.eq_1 (J @lenK.eq_2 (J @lenK.eq_3 (J @lenK.eq_4 (J @lenK.eq_5 (J @lenK.eq_6 (J @lenK.eq_7 (J @lenK.eq_8 (J @lenK.eq_9 (J @Qxt.eq_1 (@Qy3.eq_1)))))))))))))))))))))))))))))
def VC10:=J @kMiss.eq_1 (J @luObj.eq_1 (J @Qyc.eq_1 (J @Qyc.eq_2 (J @Qyc.eq_3 (J @luKt.eq_1 (J @luKt.eq_2 (J @luE.eq_1 (J @luK.eq_1 (J @Qnn.eq_1 (J @muObj.eq_1 (J @muKt.eq_1 (J @muKt.eq_2 (J @muK.eq_1 (J @muK.eq_2 (J @muK.eq_3 (J @muK.eq_4 (J @muK.eq_5 (J @muK.eq_6 (J @muK.eq_7 (J @muK.eq_8 (J @muK.eq_9 (J @muF.eq_1 (J @muOwn.eq_1 (J @Qfc.eq_1 (J @Qfc.eq_2 (J @deObj.eq_1 (J @deKt.eq_1 (J @deKt.eq_2 (@deK.eq_1)))))))))))))))))))))))))))))
def VC11:=J @deK.eq_2 (J @deK.eq_3 (J @deK.eq_4 (J @deK.eq_5 (J @deK.eq_6 (J @deK.eq_7 (J @deK.eq_8 (J @deK.eq_9 (J @Qni.eq_1 (J @exA.eq_1 (J @exA.eq_2 (J @exD.eq_1 (J @exD.eq_2 (J @Qgf.eq_1 (J @Qgf.eq_2 (J @Qgg.eq_1 (J @Qgg.eq_2 (J @Qgg.eq_3 (J @Qaar.eq_1 (J @Qaar.eq_2 (J @tkO.eq_1 (J @tkO.eq_2 (J @Qjk.eq_1 (J @Qg6.eq_1 (J @Qdt.eq_1 (J @Qg8.eq_1 (J @Qg8.eq_2 (J @Qg8.eq_3 (J @Qg8.eq_4 (@Qk7.eq_1)))))))))))))))))))))))))))))
def VC12:=J @Qk7.eq_2 (J @Qm9.eq_1 (J @Qzp.eq_1 (J @Qsv.eq_1 (J @stBox.eq_1 (J @nilV.eq_1 (J @nilV.eq_2 (J @nilV.eq_3 (J @nilC.eq_1 (J @nilC.eq_2 (J @nilC.eq_3 (J @nilC.eq_4 (J @Qm5.eq_1 (J @Qm5.eq_2 (J @Qwb.eq_1 (J @Qwb.eq_2 (J @stConv.eq_1 (J @Qo0.eq_1 (J @Qo0.eq_2 (J @TK.isSl.eq_1 (J @TK.isSl.eq_2 (J @TK.isSl.eq_3 (J @TK.isSl.eq_4 (J @TK.isSl.eq_5 (J @TK.isSl.eq_6 (J @TK.isSl.eq_7 (J @TK.isSl.eq_8 (J @TK.isSl.eq_9 (J @Qlj.eq_1 (@evOo.eq_1)))))))))))))))))))))))))))))
def VC13:=J @evOo.eq_2 (J @bdV.eq_1 (J @bdV.eq_2 (J @slIm.eq_1 (J @slIm.eq_2 (J @slIm.eq_3 (J @slStr.eq_1 (J @slStr.eq_2 (J @slStr.eq_3 (J @Qub.eq_1 (J @Qub.eq_2 (J @slWin.eq_1 (J @slWin.eq_2 (J @slWin.eq_3 (J @slOwn.eq_1 (J @slE.eq_1 (J @slE.eq_2 (J @slKs.eq_1 (J @slK.eq_1 (J @slK.eq_2 (J @slK.eq_3 (J @slK.eq_4 (J @slK.eq_5 (J @slK.eq_6 (J @slK.eq_7 (J @slK.eq_8 (J @slK.eq_9 (J @Qsm.eq_1 (J @cySO.eq_1 (@cySW.eq_1)))))))))))))))))))))))))))))
def VC14:=J @Qx5.eq_1 (J @Qx5.eq_2 (J @Qx5.eq_3 (J @cyDO.eq_1 (J @cyDW.eq_1 (J @Qqa.eq_1 (J @Qqa.eq_2 (J @Qp0.eq_1 (J @cyGo.eq_1 (J @cyGo.eq_2 (J @cyGo.eq_3 (J @cyK.eq_1 (J @cyK.eq_2 (J @cyK.eq_3 (J @cyK.eq_4 (J @cyK.eq_5 (J @cyK.eq_6 (J @cyK.eq_7 (J @cyK.eq_8 (J @cyK.eq_9 (J @Qzd.eq_1 (J @clGo.eq_1 (J @clGo.eq_2 (J @clK.eq_1 (J @clK.eq_2 (J @clK.eq_3 (J @clK.eq_4 (J @clK.eq_5 (J @clK.eq_6 (@clK.eq_7)))))))))))))))))))))))))))))
def VC15:=J @clK.eq_8 (J @clK.eq_9 (J @Qrt.eq_1 (J @rgObj.eq_1 (J @rgM.eq_1 (J @rgK.eq_1 (J @rgK.eq_2 (J @rgK.eq_3 (J @rgK.eq_4 (J @rgK.eq_5 (J @rgK.eq_6 (J @rgK.eq_7 (J @rgK.eq_8 (J @rgK.eq_9 (J @Qsh.eq_1 (J @nxGo.eq_1 (J @nxObj.eq_1 (J @Qaab.eq_1 (J @nxSq.eq_1 (J @nxSq.eq_2 (J @enObj.eq_1 (J @Qsz.eq_1 (J @mcE.eq_1 (J @mcV.eq_1 (J @mcK.eq_1 (J @mcK.eq_2 (J @Qi6.eq_1 (J @lnChO.eq_1 (J @lnCh.eq_1 (@lnCh.eq_2)))))))))))))))))))))))))))))
def VC16:=J @sdGo.eq_1 (J @stSend.eq_1 (J @rvGo.eq_1 (J @rvC.eq_1 (J @rvE.eq_1 (J @rvK.eq_1 (J @rvK.eq_2 (J @stRecv.eq_1 (J @eqUn.eq_1 (J @eqUnO.eq_1 (J @eqUnO.eq_2 (J @Qab2.eq_1 (J @Qab2.eq_2 (J @Qir.eq_1 (J @Qir.eq_2 (J @Qir.eq_3 (J @Qir.eq_4 (J @Qir.eq_5 (J @Qir.eq_6 (J @Qir.eq_7 (J @Qir.eq_8 (J @Qir.eq_9 (J @Qir.eq_10 (J @Qir.eq_11 (J @Qir.eq_12 (J @Qir.eq_13 (J @Qir.eq_14 (J @Qir.eq_15 (J @Qir.eq_16 (@isKn.eq_1)))))))))))))))))))))))))))))
def VC17:=J @isKn.eq_2 (J @isKn.eq_3 (J @isKn.eq_4 (J @isKn.eq_5 (J @isKn.eq_6 (J @isKn.eq_7 (J @isKn.eq_8 (J @isKn.eq_9 (J @isKn.eq_10 (J @isKn.eq_11 (J @isKn.eq_12 (J @unS.eq_1 (J @Qhy.eq_1 (J @Qhy.eq_2 (J @Qhy.eq_4 (J @Qhy.eq_5 (J @Qhy.eq_6 (J @Qhy.eq_7 (J @Qhy.eq_8 (J @Qhy.eq_9 (J @Qhy.eq_10 (J @Qhy.eq_11 (J @Qst.eq_1 (J @stBinS.eq_1 (J @Qfs.eq_1 (J @Qfs.eq_2 (J @Qfs.eq_3 (J @Qfs.eq_4 (J @Qfs.eq_5 (@Qfs.eq_6)))))))))))))))))))))))))))))
def VC18:=J @Qfs.eq_7 (J @Qfs.eq_8 (J @Qfs.eq_9 (J @Qfs.eq_10 (J @Qfs.eq_11 (J @Qfs.eq_12 (J @Qe6.eq_1 (J @Qe6.eq_2 (J @Qe6.eq_3 (J @Qe6.eq_4 (J @Qe6.eq_5 (J @Qle.eq_1 (J @Qle.eq_2 (J @Qle.eq_3 (J @mmKt.eq_1 (J @mmKt.eq_2 (J @mmK.eq_1 (J @mmK.eq_2 (J @mmK.eq_3 (J @mmK.eq_4 (J @mmK.eq_5 (J @mmK.eq_6 (J @mmK.eq_7 (J @mmK.eq_8 (J @mmK.eq_9 (J @Qko.eq_1 (J @evL.eq_1 (J @evL.eq_2 (J @evP.eq_1 (@evP.eq_2)))))))))))))))))))))))))))))
def VC19:=J @Qrk.eq_1 (J @Qfq.eq_1 (J @Qno.eq_1 (J @cpO2.eq_1 (J @cpO2.eq_2 (J @cpO.eq_1 (J @cpO.eq_2 (J @cpO.eq_3 (J @cpO.eq_4 (J @cpO.eq_5 (J @cpO.eq_6 (J @cpO.eq_7 (J @cpO.eq_8 (J @cpD.eq_1 (J @cpD.eq_2 (J @cpD.eq_3 (J @cpD.eq_4 (J @cpD.eq_5 (J @cpD.eq_6 (J @cpD.eq_7 (J @cpD.eq_8 (J @cpD.eq_9 (J @cpD.eq_10 (J @cpD.eq_11 (J @cpD.eq_12 (J @cpD.eq_13 (J @cpC.eq_1 (J @cpC.eq_2 (J @cpC.eq_3 (@cpL.eq_1)))))))))))))))))))))))))))))
def VC20:=J @cpL.eq_2 (J @hnm.eq_1 (J @hnm.eq_2 (J @Qz3.eq_1 (J @Qz3.eq_2 (J @Qabp.eq_1 (J @Qabp.eq_2 (J @Qabp.eq_3 (J @step.eq_1 (J @step.eq_2 (J @step.eq_3 (J @step.eq_4 (J @step.eq_5 (J @step.eq_6 (J @step.eq_7 (J @step.eq_8 (J @step.eq_9 (J @step.eq_10 (J @step.eq_11 (J @step.eq_12 (J @step.eq_13 (J @step.eq_14 (J @step.eq_15 (J @step.eq_16 (J @step.eq_17 (J @step.eq_18 (J @step.eq_19 (J @step.eq_20 (J @step.eq_21 (@step.eq_22)))))))))))))))))))))))))))))
def VC21:=J @step.eq_23 (J @step.eq_24 (J @step.eq_25 (J @step.eq_26 (J @step.eq_27 (J @step.eq_28 (J @Qg4.eq_2 (J @belH.eq_1 (J @belH.eq_2 (J @belH.eq_3 (J @belH.eq_4 (J @belH.eq_5 (J @belH.eq_6 (J @belH.eq_7 (J @belH.eq_8 (J @newIn.eq_1 (J @Qpx.eq_1 (J @Qpx.eq_2 (J @Eff.ok.eq_1 (J @Qx6.eq_1 (J @Qx6.eq_2 (J @Qgy.eq_1 (J @Qgy.eq_2 (J @kont.eq_1 (J @Qc0.eq_1 (J @Qc0.eq_2 (J @stepS.eq_1 (J @skipS.eq_1 (J @grdS.eq_1 (@grdS.eq_2)))))))))))))))))))))))))))))
def VC22:=J @opS.eq_1 (J @opS.eq_2 (J @rgS.eq_1 (J @rgS.eq_2 (J @Qcv.eq_1 (J @Qcv.eq_2 (J @nmsH.eq_1 (J @nmsH.eq_2 (J @Ql9.eq_1 (J @Ql9.eq_2 (J @outN.eq_1 (J @outN.eq_2 (J @bnd.eq_1 (J @bnd.eq_2 (J @bnd.eq_3 (J @bnd.eq_4 (J @bnd.eq_5 (J @bnd.eq_6 (J @nthL.eq_1 (J @nthL.eq_2 (J @nthL.eq_3 (J @ins.eq_1 (J @insL.eq_1 (J @insL.eq_2 (J @cloE.eq_1 (J @cloE.eq_2 (J @Qdr.eq_1 (J @Qdr.eq_2 (J @ordB.eq_1 (@Qabz.eq_1)))))))))))))))))))))))))))))
def VC23:=J @Qabz.eq_2 (J @Eff.touch.eq_1 (J @kontA.eq_1 (J @stepA.eq_1 (J @skipA.eq_1 (J @grdA.eq_1 (J @grdA.eq_2 (J @opA.eq_1 (J @opA.eq_2 (J @rgA.eq_1 (J @rgA.eq_2 (J @thenQ.eq_1 (J @thenQ.eq_2 (J @thenQ.eq_3 (J @exitQ.eq_1 (J @exitQ.eq_2 (J @Qqo.eq_1 (J @Qqo.eq_2 (J @Qqo.eq_3 (J @subT.eq_1 (J @subT.eq_2 (J @subH.eq_1 (J @subH.eq_2 (J @belT.eq_1 (J @belT.eq_2 (J @Qam.eq_1 (J @Qam.eq_2 (J @Qad.good.eq_1 (J @pm.eq_1 (@pm.eq_2)))))))))))))))))))))))))))))
def VC24:=J @nilA.eq_1 (J @ownM.eq_1 (J @ownM.eq_2 (J @Qga.eq_1 (J @Qga.eq_2 (J @mt.eq_1 (J @mt.eq_2 (J @mt.eq_3 (J @mt.eq_4 (J @mt.eq_5 (J @mt.eq_6 (J @mt.eq_7 (J @mt.eq_8 (J @mt.eq_9 (J @mt.eq_10 (J @mt.eq_11 (J @mt.eq_13 (J @mt.eq_14 (J @mtL.eq_1 (J @mtL.eq_2 (J @mtL.eq_3 (J @mtL.eq_4 (J @mtR.eq_1 (J @mtR.eq_2 (J @mtR.eq_3 (J @mtR.eq_4 (J @mtE.eq_1 (J @mtE.eq_3 (J @mtE.eq_4 (@mtE.eq_5)))))))))))))))))))))))))))))
def VC25:=J @mtE.eq_6 (J @mtE.eq_7 (J @mtE.eq_8 (J @mtE.eq_9 (J @mtE.eq_10 (J @mtE.eq_11 (J @mtE.eq_12 (J @mtE.eq_13 (J @mtE.eq_14 (J @entM.eq_1 (J @entM.eq_2 (J @nilE.eq_1 (J @nilE.eq_2 (J @entN.eq_1 (J @entN.eq_2 (J @Qpt.eq_1 (J @Qpt.eq_2 (J @Qgb.eq_1 (J @Qgb.eq_2 (J @geP.eq_1 (J @geP.eq_2 (J @imP.eq_1 (J @imP.eq_2 (J @nodS.eq_1 (J @nodS.eq_2 (J @nodS.eq_3 (J @loopQ.eq_1 (J @loopQ.eq_2 (J @loopQ.eq_3 (@loopP.eq_1)))))))))))))))))))))))))))))
def VC26:=J @loopP.eq_2 (J @loopP.eq_3 (J @frzH.eq_1 (J @frzH.eq_2 (J @frzS.eq_1 (J @objD.eq_1 (J @objD.eq_2 (J @objD.eq_3 (J @objD.eq_4 (J @objD.eq_5 (J @objD.eq_6 (J @objD.eq_7 (J @ownD.eq_1 (J @ownD.eq_2 (J @AV.fzA.eq_1 (J @AV.fzA.eq_2 (J @AV.fzA.eq_3 (J @AV.fzA.eq_4 (J @AV.fzA.eq_5 (J @AV.fzA.eq_6 (J @AV.fzA.eq_7 (J @AV.fzA.eq_8 (J @AV.fzA.eq_9 (J @AV.fzA.eq_10 (J @AV.fzA.eq_11 (J @AV.fzA.eq_12 (J @fzAL.eq_1 (J @fzAL.eq_2 (J @fzAR.eq_1 (@fzAR.eq_2)))))))))))))))))))))))))))))
def VC27:=J @AObj.fzA.eq_1 (J @AObj.fzA.eq_2 (J @AObj.fzA.eq_3 (J @AObj.fzA.eq_4 (J @AObj.fzA.eq_5 (J @AObj.fzA.eq_6 (J @AObj.fzA.eq_7 (J @fzAT.eq_1 (J @fzAT.eq_2 (J @fzAH.eq_1 (J @fzAH.eq_2 (J @fzAS.eq_1 (J @loopF.eq_1 (J @loopF.eq_2 (J @loopF.eq_3 (J @awp.eq_1 (J @awp.eq_2 (J @awp.eq_3 (J @awp.eq_4 (J @awp.eq_5 (J @awp.eq_6 (J @awp.eq_7 (J @awp.eq_8 (J @awp.eq_9 (J @KK.fit.eq_1 (J @KK.fit.eq_2 (J @KK.fit.eq_3 (J @fitL.eq_1 (J @fitL.eq_2 (@AV.bel.eq_1)))))))))))))))))))))))))))))
def VC28:=J @AV.bel.eq_2 (J @AV.bel.eq_3 (J @AV.bel.eq_4 (J @AV.bel.eq_5 (J @AV.bel.eq_6 (J @AV.bel.eq_7 (J @AV.bel.eq_8 (J @AV.bel.eq_9 (J @AV.bel.eq_10 (J @AV.bel.eq_11 (J @AV.bel.eq_12 (J @belL.eq_1 (J @belL.eq_2 (J @AV.nms.eq_1 (J @AV.nms.eq_2 (J @AV.nms.eq_3 (J @AV.nms.eq_4 (J @AV.nms.eq_5 (J @AV.nms.eq_6 (J @AV.nms.eq_7 (J @AV.nms.eq_8 (J @AV.nms.eq_9 (J @AV.nms.eq_10 (J @AV.nms.eq_11 (J @AV.nms.eq_12 (J @nmsL.eq_1 (J @nmsL.eq_2 (J @nmsR.eq_1 (J @nmsR.eq_2 (@AObj.nms.eq_1)))))))))))))))))))))))))))))
def VC29:=J @AObj.nms.eq_2 (J @AObj.nms.eq_3 (J @AObj.nms.eq_4 (J @AObj.nms.eq_5 (J @AObj.nms.eq_6 (J @AObj.nms.eq_7 (J @AV.ren.eq_1 (J @AV.ren.eq_2 (J @AV.ren.eq_3 (J @AV.ren.eq_4 (J @AV.ren.eq_5 (J @AV.ren.eq_6 (J @AV.ren.eq_7 (J @AV.ren.eq_8 (J @AV.ren.eq_9 (J @AV.ren.eq_10 (J @AV.ren.eq_11 (J @AV.ren.eq_12 (J @renL.eq_1 (J @renL.eq_2 (J @AObj.ren.eq_1 (J @AObj.ren.eq_2 (J @AObj.ren.eq_3 (J @AObj.ren.eq_4 (J @AObj.ren.eq_5 (J @AObj.ren.eq_6 (J @AObj.ren.eq_7 (J @mapO.eq_1 (J @mapO.eq_2 (@Qho.eq_1)))))))))))))))))))))))))))))
def VC30:=J @Qho.eq_2 (J @Qsj.eq_1 (J @Qlb.eq_1 (J @mkT.eq_1 (J @mkT.eq_2 (J @mkC.eq_1 (J @mkC.eq_2 (J @mkC.eq_3 (J @mkCO.eq_1 (J @kp.eq_1 (J @kp.eq_2 (J @asDO.eq_1 (J @asDO.eq_2 (J @cvt.eq_1 (J @cvt.eq_2 (J @cvt.eq_3 (J @cvt.eq_4 (J @cvt.eq_5 (J @cvt.eq_6 (J @cvt.eq_7 (J @cvt.eq_8 (J @cvt.eq_9 (J @cvt.eq_10 (J @cvt.eq_11 (J @cvt.eq_12 (J @cvt.eq_13 (J @cvt.eq_14 (J @cellC.eq_1 (J @cellP.eq_1 (@cellP.eq_2)))))))))))))))))))))))))))))
def VC31:=J @Qj3.eq_1 (J @Qj3.eq_2 (J @resV.eq_1 (J @entry.eq_1 (J @entry.eq_2 (J @idxL.eq_1 (J @idxL.eq_2 (J @kxOf.eq_1 (J @cvtE.eq_1 (J @cvtE.eq_2 (J @cvtE.eq_3 (J @cvtE.eq_4 (J @cvtE.eq_5 (J @cvtE.eq_6 (J @cvtE.eq_7 (J @consE.eq_1 (J @consE.eq_2 (J @consE.eq_3 (J @klE.eq_1 (J @klE.eq_2 (J @outKl.eq_1 (J @outKl.eq_2 (J @exE.eq_1 (J @exE.eq_2 (J @exE.eq_3 (J @outEx.eq_1 (J @outEx.eq_2 (J @appO.eq_1 (J @appO.eq_2 (@appO.eq_3)))))))))))))))))))))))))))))
def VC32:=J @roOk.eq_1 (J @roOk.eq_2 (J @exOk.eq_1 (J @exOk.eq_2 (J @retO3.eq_1 (J @retO3.eq_2 (J @retO3.eq_3 (J @retO2.eq_1 (J @retO1.eq_1 (J @retO1.eq_2 (J @retO.eq_1 (J @retQ.eq_1 (J @retQ.eq_2 (J @retQ.eq_3 (J @exNo.eq_1 (J @geK.eq_1 (J @geK.eq_2 (J @exRes.eq_1 (J @sg.eq_1 (J @renH.eq_1 (J @renH.eq_2 (J @tab.eq_1 (J @tab.eq_2 (J @Qcq.eq_1 (J @Qcq.eq_2 (J @Qcq.eq_3 (J @Qc5.eq_1 (J @Qc5.eq_2 (J @Qc5.eq_3 (@cnum.eq_1)))))))))))))))))))))))))))))
def VC33:=J @cnum.eq_2 (J @cnum.eq_3 (J @fzO.eq_1 (J @fzO.eq_2 (J @fzO.eq_3 (J @fzO.eq_4 (J @fzO.eq_5 (J @fzO.eq_6 (J @fzO.eq_7 (J @fzO.eq_8 (J @fzM.eq_1 (J @fzM.eq_2 (J @fzM.eq_3 (J @fzM.eq_4 (J @fzM.eq_5 (J @fzM.eq_6 (J @fzM.eq_7 (J @fzM.eq_8 (J @fzG.eq_1 (J @fzG.eq_2 (J @fzD.eq_1 (J @fzD.eq_2 (J @fzD.eq_3 (J @fzD.eq_4 (J @fzD.eq_5 (J @fzD.eq_6 (J @fzD.eq_7 (J @fzD.eq_8 (J @fzD.eq_9 (@fzD.eq_10)))))))))))))))))))))))))))))
def VC34:=J @fzD.eq_11 (J @fzD.eq_12 (J @fzL.eq_1 (J @fzL.eq_2 (J @pkD.eq_1 (J @pkD.eq_2 (J @pkI.eq_1 (J @pkI.eq_2 (J @pkI.eq_3 (J @pkI.eq_4 (J @pkI.eq_5 (J @pkI.eq_6 (J @pkI.eq_7 (J @pkI.eq_8 (J @pkI.eq_9 (J @pkI.eq_10 (J @pkI.eq_11 (J @pkI.eq_12 (J @pkI.eq_13 (J @pkI.eq_14 (J @pkI.eq_15 (J @pkI.eq_16 (J @pkC.eq_1 (J @pkC.eq_2 (J @pkO.eq_1 (J @pkO.eq_2 (J @pkO.eq_3 (J @pkO.eq_4 (J @pkO.eq_5 (@pkO.eq_6)))))))))))))))))))))))))))))
def VC35:=J @pkO.eq_7 (J @pkO.eq_8 (J @pk1.eq_1 (J @pk1.eq_2 (J @pk1.eq_3 (J @pk1.eq_4 (J @pk1.eq_5 (J @pk1.eq_6 (J @pk1.eq_7 (J @pk1.eq_8 (J @pk1.eq_9 (J @pk1.eq_10 (J @pk1.eq_11 (J @pk1.eq_12 (J @Qo3.eq_1 (J @Qo3.eq_2 (J @Qo3.eq_3 (J @pkL.eq_1 (J @pkL.eq_2 (J @decK.eq_1 (J @decK.eq_2 (J @frE.eq_1 (J @frE.eq_2 (J @Qa1.eq_1 (J @Qa1.eq_2 (J @vrow.eq_1 (J @decA.eq_1 (J @decA.eq_2 (J @decA.eq_3 (@decA.eq_4)))))))))))))))))))))))))))))
def VC36:=J @decA.eq_5 (J @decA.eq_6 (J @decA.eq_7 (J @decA.eq_8 (J @decA.eq_9 (J @decA.eq_10 (J @decA.eq_11 (J @decA.eq_12 (J @pureR.eq_1 (J @sgx.eq_1 (J @domB.eq_1 (J @kxB.eq_1 (J @entOk.eq_1 (J @entOk.eq_2 (J @Qhk.eq_1 (J @Qhk.eq_2 (J @roB.eq_1 (J @roB.eq_2 (J @retB3.eq_1 (J @retB3.eq_2 (J @retB2.eq_1 (J @retB1.eq_1 (J @retB1.eq_2 (J @retB.eq_1 (J @Qabl.eq_1 (J @Qabl.eq_2 (J @Qabl.eq_3 (J @Qc7.eq_1 (J @Qc7.eq_2 (@Qc7.eq_3)))))))))))))))))))))))))))))
def VC37:=J @Qer.eq_1 (J @Qer.eq_2 (J @Qc2.eq_1 (J @Qc2.eq_2 (J @osn.eq_1 (J @Qhb.eq_1 (J @Qhb.eq_2 (J @Qxw.eq_1 (J @Qxw.eq_2 (J @klO.eq_1 (J @klO.eq_2 (J @scL.eq_1 (J @scL.eq_2 (J @frO.eq_1 (J @frA.eq_1 (J @frA.eq_2 (J @frAL.eq_1 (J @frAL.eq_2 (J @frB.eq_1 (J @frB.eq_2 (J @frB.eq_3 (J @frBL.eq_1 (J @frBL.eq_2 (J @frP.eq_1 (J @frP.eq_2 (J @frP.eq_3 (J @frP.eq_4 (J @retF1.eq_1 (J @retF1.eq_2 (@retF.eq_1)))))))))))))))))))))))))))))
def VC38:=J @Qxj.eq_1 (J @Qxj.eq_2 (J @Qxj.eq_3 (J @Qwz.eq_1 (J @Qwz.eq_2 (J @bkMap.eq_1 (J @Qu4.eq_1 (J @Qu4.eq_2 (J @bkFn.eq_1 (J @bkFn.eq_2 (J @bkFn.eq_3 (J @bk.eq_1 (J @bk.eq_2 (J @bk.eq_3 (J @bk.eq_4 (J @bk.eq_5 (J @bk.eq_6 (J @bk.eq_7 (J @bk.eq_8 (J @bk.eq_9 (J @bk.eq_10 (J @bk.eq_11 (J @bk.eq_12 (J @bk.eq_13 (J @pkFP.eq_1 (J @pkFV.eq_1 (J @pkF.eq_1 (J @pkF.eq_2 (J @pkF.eq_3 (@pkF.eq_4)))))))))))))))))))))))))))))
def VC39:=J @pkF.eq_5 (J @pkF.eq_6 (J @pkF.eq_7 (J @pkF.eq_8 (J @pkF.eq_9 (J @pkF.eq_10 (J @pkF.eq_11 (J @pkF.eq_12 (J @Qabo.eq_1 (J @Qabo.eq_2 (J @Qabo.eq_3 (J @pkFL.eq_1 (J @pkFL.eq_2 (J @Qct.eq_1 (J @Qct.eq_2 (J @decD.eq_1 (J @ef_fit1 (J @ef_fit2 (J @ef_fit3 (J @ef_fit4 (J @ef_resV0 (J @ef_resV2 (J @ef_resV3 (J @ef_resV4 (J @Qabq (J @ef_condVC (J @ef_pickV (J @ef_tget (J @ef_hget (@ef_hdel)))))))))))))))))))))))))))))
def VC40:=J @ef_ckP (J @nv_int (J @nv_bool (J @nv_str (J @nv_agg (J @ns_int (J @ns_bool (J @ns_str (J @ns_agg (J @ns_ptr (J @ns_map (J @ns_nf (J @ns_ni (J @sc_move (J @sc_assign (J @sc_pick (J @sc_alloc (J @sc_box (J @sc_build (J @Qs8 (J @sc_load (J @sc_store (J @Qyd (J @sc_binOp (J @sc_unOp (J @Qaa9 (J @Qyi (J @Qaa8 (J @Qvy (@Qv2)))))))))))))))))))))))))))))
def VC41:=J @Qvr (J @sc_index (J @sc_lookup (J @Qwt (J @Qabt (J @sc_call (J @sc_slice (J @sc_range (J @sc_next (J @sc_entry (J @Qyj (J @Qmy (J @sc_panic (@Qs9)))))))))))))
end Go.Ae
