/- Lemmas. Conditions: none. -/
import Derived.Test.YtofkcjmhpnkjhaaGreatP01
import Derived.IntWalk
set_option linter.all false
set_option maxHeartbeats 8000000
set_option maxRecDepth 100000
namespace Go.Ae
theorem Qrv(z:List Value)(hz:z≠[]): ∀n,(List.range (n*z.length)).map (fun i=>z[i % z.length]!)=repZ n z
 |0=>by simp[repZ]
 |n+1=>by
  have h0:0<z.length:=ZcH.2 hz;rw[ZbQ,Zct,ZeB,List.range_add,ZaT,Zdq];simp only[repZ];congr 1
  .apply List.ext_getElem
   .simp
   .intro i h1 h2;simp only[List.getElem_map,ZeA]
    have:i % z.length=i:=Nat.mod_eq_of_lt h2
    rw[this,getElem!_pos z i h2]
  .rw[<-Qrv z hz n];apply Zcp;intro i _;simp
theorem Qxx(a:Array Value)(i:Nat):a[i]! =a.toList[i]! :=by
 by_cases hi:i<a.size
 .rw[getElem!_pos a i hi,getElem!_pos a.toList i (by simpa using hi)];simp
 .rw[getElem!_neg a i hi,getElem!_neg a.toList i (by simpa using hi)]
theorem Qzv{α:Type}(z:List α): ∀n,(repZ n z).length=n*z.length
 |0=>by simp[repZ]
 |n+1=>by simp[repZ,Qzv z n,ZbQ];omega
theorem Qaas{α β:Type}(f:α->β)(z:List α): ∀n,(repZ n z).map f=repZ n (z.map f)
 |0=>rfl
 |n+1=>by simp[repZ,Qaas f z n]
theorem rdl_app{ok:Nat->Prop}{hp:Nat->Option Obj}: ∀(a:List D) (x:List Value) (b:List D) (y:List Value),rdl ok hp a x->rdl ok hp b y->rdl ok hp (a++b) (x++y)
 |[],x,b,y,h,h2=>by simp only[rdl] at h;subst h;simpa using h2
 |d::a,x,b,y,h,h2=>by
  simp only[rdl] at h;obtain⟨v,r,rfl,h3,h4⟩:=h;simp only[ZaA,rdl];exact⟨v,_,rfl,h3,rdl_app a r b y h4 h2⟩
theorem Qop{S:Env}: ∀(a:List AV) (x:List Value) (b:List AV) (y:List Value),Qa0 S a x->Qa0 S b y->Qa0 S (a++b) (x++y)
 |[],x,b,y,h,h2=>by simp only[Qa0] at h;subst h;simpa using h2
 |d::a,x,b,y,h,h2=>by
  simp only[Qa0] at h;obtain⟨v,r,rfl,h3,h4⟩:=h;simp only[ZaA,Qa0];exact⟨v,_,rfl,h3,Qop a r b y h4 h2⟩
theorem Qy7{ok:Nat->Prop}{hp:Nat->Option Obj}{z:List D}{x:List Value}(h:rdl ok hp z x): ∀n,rdl ok hp (repZ n z) (repZ n x)
 |0=>by simp[repZ,rdl]
 |n+1=>rdl_app _ _ _ _ h (Qy7 h n)
theorem Qd5{α:Type}(k:Nat): ∀(n:Nat) (l:List α),(Qd0 k n l).length=n
 |0,_=>rfl
 |n+1,l=>by simp[Qd0,Qd5 k n]
theorem Qq5{ok:Nat->Prop}{hp:Nat->Option Obj}(k:Nat): ∀(n:Nat) (ds:List D) (vs:List Value),rdp ok hp ds vs->ds.length=n*k->rdr ok hp k (Qd0 k n ds) vs
 |0,_,_,_,_=>by simp only[Qd0,rdr]
 |n+1,ds,vs,h,hl=>by
  rw[ZbQ,Zct] at hl;simp only[Qd0,rdr];obtain⟨h1,h2⟩:=Qed k ds vs h (by omega);refine⟨by rw[Zau];omega,?_,Qq5 k n _ _ (Qea k ds vs h (by omega)) (by rw[ZaH];omega)⟩
  have:=Qoe _ _ (vs.drop k) (Qhe _ _ h2)
  rwa [Zcr] at this
theorem Qms{S:Env}(k:Nat): ∀(n:Nat) (ds:List AV) (vs:List Value),Qbv S ds vs->ds.length=n*k->Qbb S k (Qd0 k n ds) vs
 |0,_,_,_,_=>by simp only[Qd0,Qbb]
 |n+1,ds,vs,h,hl=>by
  rw[ZbQ,Zct] at hl;simp only[Qd0,Qbb];obtain⟨h1,h2⟩:=Qc8 k ds vs h (by omega);refine⟨by rw[Zau];omega,?_,Qms k n _ _ (Qex k ds vs h (by omega)) (by rw[ZaH];omega)⟩
  have:=Qgv _ _ (vs.drop k) (Qci _ _ h2)
  rwa [Zcr] at this
theorem Qn6(k:Nat)(x:Nat): ∀(n:Nat) (ds:List AV),x∈nmsR (Qd0 k n ds)->x∈nmsL ds
 |0,_,h=>by simp[Qd0,nmsR] at h
 |n+1,ds,h=>by
  have hap: ∀(a b:List AV),nmsL (a++b)=nmsL a++nmsL b:=by
   intro a b;induction a with
   |nil=>rfl
   |cons y a ih=>simp[nmsL,ih]
  simp only[Qd0,nmsR,Zan] at h
  have:=hap (ds.take k) (ds.drop k)
  rw[Zcr] at this;rw[this,Zan];rcases h with h|h
  .exact .inl h
  .exact .inr (Qn6 k x n _ h)
section
variable {P:Program}{tm:List (Nat×AV)}{h:Nat->Option Ent}{nx:Nat}{o:Oper}{K:Kont}
theorem Qrh(a b:List AV):nmsL (a++b)=nmsL a++nmsL b:=by
 induction a with
 |nil=>rfl
 |cons y a ih=>simp[nmsL,ih]
theorem nmsL_take(n:Nat)(a:List AV): ∀m∈nmsL (a.take n),m∈nmsL a:=by
 intro m hm
 have:=Qrh (a.take n) (a.drop n)
 rw[Zcr] at this;rw[this,Zan];exact .inl hm
theorem nmsL_drop(n:Nat)(a:List AV): ∀m∈nmsL (a.drop n),m∈nmsL a:=by
 intro m hm
 have:=Qrh (a.take n) (a.drop n)
 rw[Zcr] at this;rw[this,Zan];exact .inr hm
theorem Qvz(x:AV): ∀m∈nmsL x.cells,m∈x.nms:=by
 cases x<;>simp only[AV.cells]<;>intro m hm
 case im d=>rw[Qw0] at hm;cases hm
 case agg cs=>simpa[AV.nms] using hm
 all_goals simp[nmsL,AV.nms] at hm⊢
 all_goals exact hm
theorem Qyu(htm: ∀x,∀m∈(evO tm x).nms,m≠nx)(pl:Nat->Option (Nat×Nat)): ∀(ps:List (Nat×Operand)) (cs r:List AV),Qdp pl (evP tm ps) (some cs)=some r->
 (∀m∈nmsL cs,m≠nx)-> ∀m∈nmsL r,m≠nx
 |[],cs,r,h,hc=>by simp only[evP,Qdp,Zae] at h;subst h;exact hc
 |(i,x)::ps,cs,r,h,hc=>by
  simp only[evP,Qdp] at h;cases hf:Qt6 cs (evO tm x).cells (pl i) with
  |none=>rw[hf] at h;exact (Qjy _ _ h).elim
  |some us=>
   rw[hf] at h;refine Qyu htm pl ps us r h ?_;cases hp:pl i with
   |none=>rw[hp] at hf;simp[Qt6] at hf
   |some q=>
    rw[hp] at hf;simp only[Qt6] at hf;generalize ((evO tm x).cells.length==q.2 && (Nat.blt 0 q.2 && Nat.ble (q.1+q.2) cs.length))=bb at hf;cases bb
    .simp at hf
    .simp only[Zbf,Zae] at hf;subst hf;intro m hm;simp only[Qa5,Qrh,Zan] at hm;rcases hm with (hm|hm)|hm
     .exact hc m (nmsL_take _ _ m hm)
     .exact htm x m (Qvz _ m hm)
     .exact hc m (nmsL_drop _ _ m hm)
theorem Qp8{T:TypeId}{n:Nat}{ps:Array (Nat×Operand)}(ho:o.op= .buildSlice T n ps)(hk:Qax (Qfp P nx n (evP tm ps.toList) K) (tI P T))
 (htm: ∀x,∀m∈(evO tm x).nms,m≠nx):Qbp P tm h nx o K:=by
 cases hT:tI P T with
 |none=>rw[hT] at hk;exact hk.elim
 |some ti=>
 rw[hT] at hk;simp only[Qax,Qfp] at hk;cases hf:ti.kind<;>rw[hf] at hk<;>try exact hk.elim
 rename_i e;have hu:=Qdq hT hf;simp only[bsK] at hk;cases hE:tI P e with
 |none=>rw[hE] at hk;exact hk.elim
 |some te=>
 rw[hE] at hk;simp only[Qax,bsE] at hk;obtain⟨hl,hz,hbig,hk⟩:=hk;have hn:n<=LIM:=by
  have:=Nat.le_mul_of_pos_right n (Nat.pos_of_ne_zero hz)
  simp only[LIM];omega
 obtain⟨z,hzr,hzs,hzd⟩:=Qe5 hE hl hz
 have hz0:z.cells.toList≠[]:=by intro hh;have:z.cells.size=0:=by rw[<-ZaW,hh];rfl
                                omega
 rw[<-Qaas] at hk;cases hfl:Qdp (plArr te.size) (evP tm ps.toList) (some ((repZ n te.zero).map .im)) with
 |none=>rw[hfl] at hk;exact hk.elim
 |some cs=>
 rw[hfl] at hk;simp only[bsEnd] at hk;have hbel:=Qyu htm _ ps.toList _ cs hfl (by rw[Qw0];intro m hm;cases hm);have hrun: ∀(C:Ctx) (S:Env) (a:Act),Wf C S->(∀x∈o.op.operands,conc S (evO tm x) (a.eval x))->
  ∃us:Array Value,(execOp a.eval o).run P S.w= .ok (.value (.slice (some ⟨S.w.heap.size,0,none⟩) n n)) (S.w.alloc (.cells us e))/\Qa0 S cs us.toList/\cs.length=n*te.size:=by
  intro C S a hW hops;have hzz:((Array.range (n*te.size)).map fun i=>z.cells[i % z.cells.size]!).toList=repZ n z.cells.toList:=by
   rw[<-Qrv _ hz0 n,Zcw,Zex,ZaW,hzs];apply Zcp;intro i _;exact Qxx _ _
  obtain⟨us,hus,hr,hrl⟩:=Qiw (S:=S) (a:=a) (place:=fun i=>some (i*te.size,te.size)) (fun i q hq=>hq) ps.toList _ cs
   ((Array.range (n*te.size)).map fun i=>z.cells[i % z.cells.size]!) hfl (by rw[hzz];exact (Qa6 _ _).2 (Qy7 (hzd _ _) n))
   (by intro p hp
       refine hops p.2 ?_;rw[ho];simp only[Op.operands];simp;exact⟨p.1,by simpa using hp⟩)
  refine⟨us,?_,hr,by rw[hrl];simp[Qzv,hl]⟩;simp only[execOp,ho,Instr.buildSlice,Sem.run_bind];rw[show (underlying T).run P S.w= .ok (.slice e) S.w from by simp[underlying,hu]];simp only[Result.andThen_ok,Sem.run_bind,Qca hE];rw[Zaj (by omega)];by_cases hn0:n*te.size=0
  .simp only[hn0,ZaQ,pure_bind];simp only[hn0] at hus
   have:((Array.range 0).map fun i=>(#[]:Array Value)[i % (#[]:Array Value).size]!)=(Array.range 0).map fun i=>z.cells[i % z.cells.size]! :=by simp
   rw[this];have hmap:(ps.map fun (i,x)=>(i,a.eval x)).toList=ps.toList.map fun p=>(p.1,a.eval p.2):=by simp
   rw[hmap,hus];simp[newRow]
  .simp only[hn0,Zby,Sem.run_bind,hzr,Result.andThen_ok,Sem.run_pure];have hmap:(ps.map fun (i,x)=>(i,a.eval x)).toList=ps.toList.map fun p=>(p.1,a.eval p.2):=by simp
   rw[hmap,hus];simp[newRow]
 cases hai:Qcr cs with
 |none=>
  rw[hai] at hk;simp only[bsObj] at hk;refine⟨_,_,OpT.one (u:=[]) (ks:=[]) (.inl ⟨rfl,rfl⟩) ?_,hk⟩;intro C S a hW _ hfr hnm hops;obtain⟨us,hr,hcs,hcl⟩:=hrun C S a hW hops;refine⟨_,_,some ⟨S.w.heap.size,0,n⟩,.inl hr,Qg3 (w':=S.w.alloc (.cells us e)) (ob:= .cells us e) rfl rfl rfl rfl (hfr rfl) (fun n f hf=>hnm n f hf rfl),?_⟩;intro hp;have hul:=Qbs _ _ hcs;constructor
  .simp only[objc];refine⟨by rw[Qd5];exact hn,by rw[Qd5];exact Zap _,us,Qny rfl,by simp at hul;omega,?_⟩;rw[Zci];exact Qgx hp _ _ _ (fun m hm=> .inr (hbel m (Qn6 _ _ _ _ hm))) (Qms _ _ _ _ (Qci _ _ hcs) hcl)
  .simp only[conc];refine⟨rfl,fun e' he'=> ?_⟩;have hh:(S.one nx (.arrA e te.size (Qd0 te.size n cs)) (some ⟨S.w.heap.size,0,n⟩) [] (S.w.alloc (.cells us e))).ρ nx=some ⟨S.w.heap.size,0,n⟩:=by simp[Env.one]
   rw[hh];simp only[Env.one,ZaQ,Zae] at he';subst he';simp[AObj.len,Qd5]
 |some ds=>
  rw[hai] at hk;simp only[bsObj] at hk;refine⟨_,_,OpT.one (u:=[]) (ks:=[]) (.inl ⟨rfl,rfl⟩) ?_,hk⟩;intro C S a hW _ hfr hnm hops;obtain⟨us,hr,hcs,hcl⟩:=hrun C S a hW hops;refine⟨_,_,some ⟨S.w.heap.size,0,n⟩,.inl hr,Qg3 (w':=S.w.alloc (.cells us e)) (ob:= .cells us e) rfl rfl rfl rfl (hfr rfl) (fun n f hf=>hnm n f hf rfl),?_⟩;intro hp;have hul:=Qbs _ _ hcs;rw[Qgl hai] at hcs hcl;have hds:=Qcu hp.ok _ _ ((Qa6 _ _).1 hcs);constructor
  .simp only[objc];refine⟨by rw[Qd5];exact hn,by rw[Qd5];exact Zap _,us,Qny rfl,by simp[Qgl hai] at hul hcl;simp;omega,?_⟩;rw[Zci];exact Qq5 _ _ _ _ (Qhe _ _ hds) (by simpa using hcl)
  .simp only[conc];refine⟨rfl,fun e' he'=> ?_⟩;have hh:(S.one nx (.arr e te.size (Qd0 te.size n ds)) (some ⟨S.w.heap.size,0,n⟩) [] (S.w.alloc (.cells us e))).ρ nx=some ⟨S.w.heap.size,0,n⟩:=by simp[Env.one]
   rw[hh];simp only[Env.one,ZaQ,Zae] at he';subst he';simp[AObj.len,Qd5]
end
theorem Qwm(n:Nat): ∀(r c:Nat),c<=2*(n+512)->Builtin.growBy n r c<=2*(n+512)
 |0,c,h=>by simpa[Builtin.growBy] using h
 |r+1,c,h=>by
  simp only[Builtin.growBy];split
  .exact h
  .exact Qwm n r _ (by omega)
theorem Qabm(n old:Nat)(h:old<n):Builtin.nextslicecap n old<=2*(n+512):=by
 unfold Builtin.nextslicecap;split
 .omega
 .split
  .omega
  .exact Qwm n 4 old (by omega)
theorem Qqs{S:Env}{k:Nat}: ∀(rows0 rows:List (List AV)) (A L R:List Value),Qbb S k rows0 A->rows0.length*k<=A.length->Qbb S k rows L->
 rows.length*k<=L.length->Qbb S k (rows0++rows) (A.take (rows0.length*k)++(L++R))
 |[],rows,A,L,R,hA0,hA1,h,hl=>by
  simp only[ZbB,ZdK,Zbk,Zbi];clear hA0 hA1 A;induction rows generalizing L with
  |nil=>simp only[Qbb]
  |cons r rows ih=>
   simp only[Qbb,ZaE,ZbQ,Zct] at h hl⊢;refine⟨h.1,Qgv _ _ _ h.2.1,?_⟩
   have:=ih (L.drop k) h.2.2 (by rw[ZaH];omega)
   rwa [Zdo (by omega)]
 |r::rows0,rows,A,L,R,h0,hA,h,hl=>by
  simp only[Qbb,ZaE,ZbQ,Zct,ZaA] at h0 hA⊢;have ih:=Qqs rows0 rows (A.drop k) L R h0.2.2 (by rw[ZaH];omega) h hl;have e:A.take (rows0.length*k+k)=A.take k++(A.drop k).take (rows0.length*k):=by rw[<-Zdt];congr 1;omega
  have hk:(A.take k).length=k:=by rw[Zau];omega
  rw[e,ZbA];refine⟨h0.1,?_,?_⟩
  .obtain⟨_,h5⟩:=Qc8 k r A h0.2.1 (by omega);have h6:=Qci _ _ h5;rw[ZaL (by omega)] at h6;exact Qgv _ _ _ h6
  .rw[Zcx,Zax (by omega),hk,Zcj];simpa using ih
theorem Qgt{S:Env}{k:Nat}: ∀(rows:List (List D)) (L:List Value),rdr S.ok S.hp k rows L->Qbb S k (imR rows) L
 |[],_,_=>by simp only[imR,ZaG,Qbb]
 |r::rows,L,h=>by
  simp only[rdr] at h;simp only[imR,Zaq,Qbb];exact⟨by simpa using h.1,(Qfl _ _).2 h.2.1,Qgt rows _ h.2.2⟩
section
variable {P:Program}{w:World}
theorem Qef{b p:Nat}{vs:Array Value}{U:TypeId}{fr:Nat×Nat}(hb:w.heap[b]? =some (.cells vs U fr)){n:Nat}(hn:p+n<=vs.size):
 (loadCells ⟨b,p,none⟩ n).run P w= .ok ((vs.toList.drop p).take n).toArray w:=by
 have hcs: ∀j v,((vs.toList.drop p).take n)[j]? =some v->w.cell? ((⟨b,p,none⟩:Addr).add j)=some v:=by
  intro j v hj;rw[Qdh,Qyp hb];rw[ZcB] at hj;split at hj
  .rw[Zbz] at hj;simpa using hj
  .cases hj
 have hl:((vs.toList.drop p).take n).length=n:=by rw[Zau,ZaH];simp;omega
 have hrun:=run_loadCells_list (P:=P) w ⟨b,p,none⟩ _ hcs;rwa [hl] at hrun
theorem Qo9{sT uT e ty:TypeId}{te:TI}(hs:P.underlying sT=some (.slice e))(hE:tI P e=some te){u2:TypeId}(hu2:P.underlying uT=some (.slice u2))
 {base:Option Addr}{sLen sCap n:Nat}{x:Value}{L:List Value}(hlen:(Builtin.lenOf x).run P w= .ok n w)(hcells:(Builtin.firstCells te.size n x).run P w= .ok L.toArray w)
 (hroom:sLen+n<=sCap):(Builtin.append_ #[sT,uT] ty #[.slice base sLen sCap,x]).run P w=
  ((match base with|some a=>storeCells (a.add (sLen*te.size)) L|none=>pure ())>>=fun _=>(pure (.slice base (sLen+n) sCap):Sem Value)).run P w:=by
 have h1:(underlying sT).run P w= .ok (.slice e) w:=by simp[underlying,hs]
 have h2:(underlying uT).run P w= .ok (.slice u2) w:=by simp[underlying,hu2]
 unfold Builtin.append_;simp only[Zdp,ZaV,Zba,Sem.run_bind,h1,Result.andThen_ok,Qca hE,h2];simp only[Sem.run_pure,Result.andThen_ok,ZaB,Zby,hlen,Sem.run_ite,Zao hroom,Sem.run_bind,hcells,ZcJ,ZaQ];cases base<;>simp
theorem Qo8{sT uT e ty:TypeId}{te:TI}(hs:P.underlying sT=some (.slice e))(hE:tI P e=some te){u2:TypeId}(hu2:P.underlying uT=some (.slice u2))(hby:te.bytes≠0)
 (hz:te.zero.length=te.size)(hsz:te.size≠0)
 {base:Option Addr}{sLen sCap n:Nat}{x:Value}{L old:List Value}(hlen:(Builtin.lenOf x).run P w= .ok n w)(hcells: ∀k,(Builtin.firstCells te.size n x).run P {w with drawn:=k}= .ok L.toArray {w with drawn:=k})
 (hold: ∀k,(Builtin.firstCells te.size sLen (.slice base sLen sCap)).run P {w with drawn:=k}= .ok old.toArray {w with drawn:=k})
 (hroom: ¬sLen+n<=sCap)(hbd:(sLen+n+512)*te.bytes<=140737488355328): ∃cap R,sLen+n<=cap/\R.length=(cap - (sLen+n))*te.size/\
  (Builtin.append_ #[sT,uT] ty #[.slice base sLen sCap,x]).run P w= .ok (.slice (some ⟨w.heap.size,0,none⟩) (sLen+n) cap) (World.alloc {w with drawn:=w.drawn+1} (.cells (old++L++R).toArray e)):=by
 have h1: ∀w:World,(underlying sT).run P w= .ok (.slice e) w:=by intro w;simp[underlying,hs]
 have h2: ∀w:World,(underlying uT).run P w= .ok (.slice u2) w:=by intro w;simp[underlying,hu2]
 obtain⟨z,hzr,hzs,hzd⟩:=Qe5 hE hz hsz;obtain⟨i,u,hi,hu,hi1,hi2,_⟩:=Qej hE;have hti: ∀w:World,(typeInfo e).run P w= .ok i w:=by intro w;simp[typeInfo,hi]
 refine⟨(Question.appendCap (sLen+n) sCap e).cut (w.tape w.drawn (.appendCap (sLen+n) sCap e)),(Builtin.zeroCells z.cells ((Question.appendCap (sLen+n) sCap e).cut (w.tape w.drawn (.appendCap (sLen+n) sCap e)) - (sLen+n))).toList,?_,?_,?_⟩
 .simp only[Question.cut];omega
 .simp[Builtin.zeroCells,hzs]
 have hnc: ¬(Builtin.nextslicecap (sLen+n) sCap*i.bytes>2^48):=by
  rw[<-hi2];have h3:=Qabm (sLen+n) sCap (by omega);have h4:=Zbm te.bytes h3;have h5:2*(sLen+n+512)*te.bytes=2*((sLen+n+512)*te.bytes):=Nat.mul_assoc _ _ _;omega
 unfold Builtin.append_;simp only[Zdp,ZaV,Zba,Sem.run_bind,h1,Result.andThen_ok,Qca hE,h2];simp only[Sem.run_pure,Result.andThen_ok,ZaB,Zby,hlen,Sem.run_ite,Zaj hroom,Sem.run_bind,hti,ZcJ,ZaQ,false_or];rw[Zaj (by rw[<-hi2];exact fun hh=>hby hh.2),Zaj hnc];simp only[run_choose,Question.forced,ZaB,Zby,Result.andThen_ok,run_askRoom,hold,hcells,hzr];simp only[newRow,Sem.run_bind,run_newObj,Result.andThen_ok,Sem.run_pure];rw[show (old++L++(Builtin.zeroCells z.cells ((Question.appendCap (sLen+n) sCap e).cut (w.tape w.drawn (.appendCap (sLen+n) sCap e)) - (sLen+n))).toList).toArray=
  old.toArray++L.toArray++Builtin.zeroCells z.cells ((Question.appendCap (sLen+n) sCap e).cut (w.tape w.drawn (.appendCap (sLen+n) sCap e)) - (sLen+n)) from by apply Zei;simp]
 rfl
end
theorem Qx7{ok:Nat->Prop}{hp:Nat->Option Obj}{z:List D}{x:List Value}(h:rdl ok hp z x): ∀(n m:Nat),n<=m->rdr ok hp z.length (List.replicate n z) (repZ m x)
 |0,_,_=>by simp only[List.replicate_zero,rdr]
 |n+1,0,hm=>by omega
 |n+1,m+1,hm=>by
  have hl:=Qjo _ _ h;simp only[Zeo,repZ,rdr];refine⟨trivial,Qoe _ _ _ (Qhe _ _ h),?_⟩;rw[Zcx,Zax (by omega),hl,Zcj];simpa using Qx7 h n m (by omega)
section
variable {P:Program}{tm:List (Nat×AV)}{h:Nat->Option Ent}{nx:Nat}{o:Oper}{K:Kont}
theorem Qrx{T:TypeId}{x y:Operand}(ho:o.op= .makeSlice T x y)(hk:Qax (Qhl P nx (evO tm x) (evO tm y) K) (tI P T)):Qbp P tm h nx o K:=by
 cases hT:tI P T with
 |none=>rw[hT] at hk;exact hk.elim
 |some ti=>
 rw[hT] at hk;simp only[Qax,Qhl] at hk;cases hf:ti.kind<;>rw[hf] at hk<;>try exact hk.elim
 rename_i e;have hu:=Qdq hT hf;have key: ∃n m,evO tm x= .im (.int .i64 n)/\evO tm y= .im (.int .i64 m)/\Qax (msE nx e n m K) (tI P e):=by
  revert hk;generalize evO tm x=X;generalize evO tm y=Y;intro hk;cases X<;>try exact hk.elim
  rename_i d;cases d<;>try exact hk.elim
  rename_i k n;cases k<;>try exact hk.elim
  cases Y<;>try exact hk.elim
  rename_i d;cases d<;>try exact hk.elim
  rename_i k m;cases k<;>try exact hk.elim
  exact⟨_,_,rfl,rfl,hk⟩
 obtain⟨n,m,hx,hy,hk⟩:=key;cases hE:tI P e with
 |none=>rw[hE] at hk;exact hk.elim
 |some te=>
 rw[hE] at hk;simp only[Qax,msE] at hk;obtain⟨hz,hn0,hnm,hm,hby,hl,hk⟩:=hk;obtain⟨z,hzr,hzs,hzd⟩:=Qe5 hE hl hz;obtain⟨i,u,hi,hu',hi1,hi2,_⟩:=Qej hE;have hz0:z.cells.toList≠[]:=by
  intro hh
  have:z.cells.size=0:=by rw[<-ZaW,hh];rfl
  omega
 have hzz:((Array.range (m.toNat*te.size)).map fun i=>z.cells[i % z.cells.size]!).toList=repZ m.toNat z.cells.toList:=by
  rw[<-Qrv _ hz0 m.toNat,Zcw,Zex,ZaW,hzs];apply Zcp;intro i _;exact Qxx _ _
 refine⟨_,_,OpT.one (u:=[]) (ks:=[]) (.inl ⟨rfl,rfl⟩) ?_,hk⟩;intro C S a hW _ hfr hnms hops;have h1:=hops x (by rw[ho];simp[Op.operands]);have h2:=hops y (by rw[ho];simp[Op.operands]);rw[hx] at h1;rw[hy] at h2;simp only[conc,rd] at h1 h2;have hrun:(execOp a.eval o).run P S.w= .ok (.value (.slice (some ⟨S.w.heap.size,0,none⟩) n.toNat m.toNat))
  (S.w.alloc (.cells ((Array.range (m.toNat*te.size)).map fun i=>z.cells[i % z.cells.size]!) e)):=by
  have hbm:(i.bytes:Int)*m<=2^48:=by
   rw[<-hi2];have h3:(te.bytes:Int)*m<=65536*m:=ZdZ (by omega) (by omega);omega
  have hwn:IntKind.i64.wrap n=n:=IntWalk.i64_in n (by omega);have hwm:IntKind.i64.wrap m=m:=IntWalk.i64_in m (by omega);simp only[execOp,ho,h1,h2,Instr.makeSlice,Sem.run_bind];rw[show (underlying T).run P S.w= .ok (.slice e) S.w from by simp[underlying,hu]];have hti:(typeInfo e).run P S.w= .ok i S.w:=by simp[typeInfo,hi]
  simp only[Result.andThen_ok,asInt,asIntOf,Sem.run_bind,Sem.run_pure,hti,hwn,hwm];have hno3:((decide (m<0)||decide ((i.bytes:Int)*m>2^48))||decide (n<0)||decide (n>m))=false:=by
   simp only[Bool.or_eq_false_iff,Zbb];omega
  rw[hno3];simp only[ZaB,Zby,Sem.run_bind,run_askRoom,Result.andThen_ok,Qca hE,Sem.run_ite,hzr,newRow,run_newObj,Sem.run_pure];by_cases hm0:m.toNat*te.size=0
  .have:((Array.range 0).map fun i=>(#[]:Array Value)[i % (#[]:Array Value).size]!)=(Array.range 0).map fun i=>z.cells[i % z.cells.size]! :=by simp
   simp only[hm0,ZaQ,Result.andThen_ok,this];simp
  .simp only[hm0,Zby,Result.andThen_ok];simp
 refine⟨_,_,some ⟨S.w.heap.size,0,m.toNat⟩,.inl hrun,Qg3 (w':=S.w.alloc (.cells _ e)) (ob:= .cells _ e) rfl rfl rfl rfl (hfr rfl) (fun n f hf=>hnms n f hf rfl),?_⟩;intro hp;constructor
 .simp only[objc];refine⟨by simp[LIM];omega,by simp;omega,_,Qny rfl,by simp,?_⟩;rw[Zci,hzz,<-hl];exact Qx7 (hzd _ _) _ _ (by omega)
 .simp only[conc];refine⟨rfl,fun e' he'=> ?_⟩;simp only[Env.one,ZaQ,Zae] at he'⊢;subst he';simp[AObj.len]
end
def slV(l:Option Loc)(n:Nat):Value:=match l with|none=> .slice none 0 0|some l=> .slice (some ⟨l.b,l.p,none⟩) n l.cap
def oldAt(S:Env)(e z sLen:Nat)(A:List Value):Option Loc->Prop
 |none=>sLen=0/\A=[]
 |some l=>sLen<=l.cap/\ ∃vs,S.hp l.b=some (.cells vs e (0,0))/\A=vs.toList.drop l.p/\l.p+l.cap*z<=vs.size
section
variable {P:Program}
theorem append_go{C:Ctx}{S:Env}(hW:Wf C S){nx:Nat}{ks:List Nat}{sT uT e ty u2:TypeId}{te:TI}(hs:P.underlying sT=some (.slice e))(hE:tI P e=some te)
 (hu2:P.underlying uT=some (.slice u2))(hby:te.bytes≠0)(hz:te.zero.length=te.size)(hsz:te.size≠0){sLen n:Nat}(hbd:(sLen+n+512)*te.bytes<=140737488355328)
 {l0:Option Loc}{A:List Value}(hA:oldAt S e te.size sLen A l0)
 {x:Value}{L:List Value}(hlen:(Builtin.lenOf x).run P S.w= .ok n S.w)(hcells: ∀k,(Builtin.firstCells te.size n x).run P {S.w with drawn:=k}= .ok L.toArray {S.w with drawn:=k})
 (hL:L.length=n*te.size)(hone: ∀v∈L,v.oneCell'=true)(hkill: ∀l,l0=some l-> ∃o f,o∈ks/\S.h o=some (true,f)/\S.ρ o=some l)
 (hnx:S.h nx=none)(hnms: ∀n f,S.h n=some f->nx∉f.2.nms):
 ∃w' l',(Builtin.append_ #[sT,uT] ty #[slV l0 sLen,x]).run P S.w= .ok (slV l' (sLen+n)) w'/\(∀ea,Qjb S nx ea l' ks w')/\
  match l' with|none=>sLen=0/\n=0|some l=>sLen+n<=l.cap/\ ∃vs R,w'.heap[l.b]? =some (.cells vs e (0,0))/\l.p+l.cap*te.size<=vs.size/\
   vs.toList.drop l.p=A.take (sLen*te.size)++(L++R):=by
 have hself:{S.w with drawn:=S.w.drawn}=S.w:=rfl;cases l0 with
 |none=>
  obtain⟨h0,hA⟩:=hA;subst h0 hA;by_cases hn:n=0
  .subst hn;have hL0:L=[]:=ZbS.1 (by simpa using hL);subst hL0;refine⟨S.w,none,?_,fun ea=>Ql6 hnx hnms,rfl,rfl⟩
   have:=Qo9 (P:=P) (w:=S.w) (ty:=ty) hs hE hu2 (base:=none) (sLen:=0) (sCap:=0) hlen (by have:=hcells S.w.drawn;rwa [hself] at this) (by omega)
   simpa[slV] using this
  .obtain⟨cap,R,h1,h2,h3⟩:=Qo8 (P:=P) (w:=S.w) (ty:=ty) hs hE hu2 hby hz hsz (base:=none) (sLen:=0) (sCap:=0) (old:=[]) hlen hcells (by intro k;simp[Builtin.firstCells]) (by omega) hbd;refine⟨_,some ⟨S.w.heap.size,0,cap⟩,h3,fun ea=>Qg3 (w':=World.alloc {S.w with drawn:=S.w.drawn+1} (.cells ([]++L++R).toArray e)) (ob:= .cells ([]++L++R).toArray e) rfl rfl rfl rfl hnx hnms,h1,([]++L++R).toArray,R,by simp[World.alloc],?_,by simp⟩;have h4:n*te.size+(cap - (0+n))*te.size=cap*te.size:=by rw[<-ZbQ];congr 1;omega
   rw[ZbR] at h2 h4;simp[hL,h2];omega
 |some l=>
  obtain⟨hcap,vs,hb,hAe,hsize⟩:=hA;have hAl:A.length=vs.size - l.p:=by rw[hAe];simp
  by_cases hroom:sLen+n<=l.cap
  .have hrm:sLen*te.size+n*te.size<=l.cap*te.size:=by rw[<-ZbQ];exact Zbm _ hroom
   obtain⟨w',h1,h2,h3,h4,h5⟩:=Qf9 (P:=P) (w:=S.w) (b:=l.b) (p:=l.p+sLen*te.size) (T:=e) L 0 vs hone (by rw[hL];omega) hb;obtain⟨o,f,hok,hof,hol⟩:=hkill l rfl;have hbs:=(hW.loc o _ l hof hol).1;refine⟨w',some l,?_,?_,hroom,(Qa5 vs.toList (l.p+sLen*te.size+0) L).toArray,A.drop (sLen*te.size+L.length),?_,?_,?_⟩
   .have:=Qo9 (P:=P) (w:=S.w) (ty:=ty) hs hE hu2 (base:=some ⟨l.b,l.p,none⟩) (sLen:=sLen) (sCap:=l.cap) hlen (by have:=hcells S.w.drawn;rwa [hself] at this) hroom
    simp only[Qdh,Sem.run_bind,h1,Result.andThen_ok,Sem.run_pure] at this;simpa[slV] using this
   .intro ea;refine⟨h3,h4,h5,by rw[h2];simp,?_,.inr hnx,?_,?_,fun n f hf _=>hnms n f hf⟩
    .intro b hb' hne
     have:=hne o f l hok hof hol
     rw[h2,Zcc,Zaj this]
    .intro lo hlo;obtain rfl:=Zac hlo;exact⟨by rw[h2];simpa using hbs,.inr ⟨o,f,l,hok,hof,hol,rfl⟩⟩
    .intro f hf;rw[hnx] at hf;cases hf
   .rw[h2];simp[hbs]
   .simp[Qa5,Zau,ZaH];omega
   .rw[Zds,Zep,Qg9 _ _ _ _ (by simp;omega),<-hAe];simp[Qa5]
  .have hold: ∀k,(Builtin.firstCells te.size sLen (.slice (some ⟨l.b,l.p,none⟩) sLen l.cap)).run P {S.w with drawn:=k}= .ok (A.take (sLen*te.size)).toArray {S.w with drawn:=k}:=by
    intro k;have hrm:sLen*te.size<=l.cap*te.size:=Zbm _ hcap;rw[hAe];exact Qef (w:={S.w with drawn:=k}) hb (by omega)
   obtain⟨cap,R,h1,h2,h3⟩:=Qo8 (P:=P) (w:=S.w) (ty:=ty) hs hE hu2 hby hz hsz (base:=some ⟨l.b,l.p,none⟩) (sLen:=sLen) (sCap:=l.cap) hlen hcells hold hroom hbd;refine⟨_,some ⟨S.w.heap.size,0,cap⟩,h3,fun ea=>Qg3 (w':=World.alloc {S.w with drawn:=S.w.drawn+1} (.cells (A.take (sLen*te.size)++L++R).toArray e)) (ob:= .cells (A.take (sLen*te.size)++L++R).toArray e) rfl rfl rfl rfl hnx hnms,h1,(A.take (sLen*te.size)++L++R).toArray,R,by simp[World.alloc],?_,by simp⟩;have h4:sLen*te.size+n*te.size+(cap - (sLen+n))*te.size=cap*te.size:=by rw[<-ZbQ,<-ZbQ];congr 1;omega
   have h5:sLen*te.size<=l.cap*te.size:=Zbm _ hcap;simp[hL,h2,Zau];omega
theorem Qlh{S:Env}{k:Nat}: ∀(rows:List (List AV)) (L:List Value),OneR Qhz rows->Qbb S k rows L->rows.length*k<=L.length-> ∀v∈L.take (rows.length*k),v.oneCell'=true
 |[],L,_,_,_=>by simp
 |r::rows,L,ho,h,hl=>by
  simp only[Qbb] at h;simp only[ZaE,ZbQ,Zct] at hl⊢;have e:L.take (rows.length*k+k)=L.take k++(L.drop k).take (rows.length*k):=by rw[<-Zdt];congr 1;omega
  rw[e];intro v hv;rcases Zan.1 hv with hv|hv
  .obtain⟨_,h5⟩:=Qc8 k r L h.2.1 (by omega);rw[ZaL (Zfm h.1)] at h5;exact Qd9 r _ (ho r (by simp)) h5 v hv
  .exact Qlh rows _ (fun x hx=>ho x (by simp[hx])) h.2.2 (by rw[ZaH];omega) v hv
theorem Qsa: ∀(r:List D),allD r=true->Qhz (r.map .im)=true
 |[],_=>rfl
 |x::r,h=>by
  simp only[allD,Zah] at h;simp only[Zaq,Qhz,AV.one,Zah];exact⟨h.1,Qsa r h.2⟩
theorem Qyt{rows:List (List D)}(h:OneR allD rows):OneR Qhz (imR rows):=by
 intro r hr;simp only[imR,ZaJ] at hr;obtain⟨x,hx,rfl⟩:=hr;exact Qsa x (h x hx)
theorem Qrl{ok:Nat->Prop}{hp:Nat->Option Obj}{k:Nat}: ∀(rows:List (List D)) (L:List Value),rdr ok hp k rows L->rows.length*k<=L.length->rdr ok hp k rows (L.take (rows.length*k))
 |[],_,_,_=>by simp only[rdr]
 |r::rows,L,h,hl=>by
  simp only[rdr,ZaE,ZbQ,Zct] at h hl⊢;refine⟨h.1,?_,?_⟩
  .obtain⟨_,h5⟩:=Qed k r L h.2.1 (by omega);have h6:=Qhe _ _ h5;rw[ZaL (by omega)] at h6;have e:L.take (rows.length*k+k)=L.take k++(L.drop k).take (rows.length*k):=by rw[<-Zdt];congr 1;omega
   rw[e];exact Qoe _ _ _ h6
  .rw[Zfh]
   have:=Qrl rows _ h.2.2 (by rw[ZaH];omega)
   rwa [show rows.length*k+k - k=rows.length*k from by omega]
theorem Qiu{S:Env}{k:Nat}: ∀(rows:List (List AV)) (L:List Value),Qbb S k rows L->rows.length*k<=L.length->Qbb S k rows (L.take (rows.length*k))
 |[],_,_,_=>by simp only[Qbb]
 |r::rows,L,h,hl=>by
  simp only[Qbb,ZaE,ZbQ,Zct] at h hl⊢;refine⟨h.1,?_,?_⟩
  .obtain⟨_,h5⟩:=Qc8 k r L h.2.1 (by omega);have h6:=Qci _ _ h5;rw[ZaL (by omega)] at h6;have e:L.take (rows.length*k+k)=L.take k++(L.drop k).take (rows.length*k):=by rw[<-Zdt];congr 1;omega
   rw[e];exact Qgv _ _ _ h6
  .rw[Zfh]
   have:=Qiu rows _ h.2.2 (by rw[ZaH];omega)
   rwa [show rows.length*k+k - k=rows.length*k from by omega]
theorem Qxq{ok:Nat->Prop}{hp:Nat->Option Obj}{k:Nat}: ∀(rows:List (List D)) (L:List Value),rdr ok hp k rows L->k≠0->rows.length*k<=L.length
 |[],_,_,_=>by simp
 |r::rows,L,h,hk=>by
  simp only[rdr,ZaE,ZbQ,Zct] at h⊢;obtain⟨h1,_⟩:=Qed k r L h.2.1 (by omega)
  have:=Qxq rows _ h.2.2 hk
  rw[ZaH] at this;omega
def Src.rows:Src->List (List AV)
 | .d _ _ rows=>imR rows
 | .a _ _ rows=>rows
 | .no=>[]
def Src.w:Src->Nat
 | .d _ k _| .a _ k _=>k
 | .no=>0
def Src.us:Src->List Nat
 | .d u _ _| .a u _ _=>u
 | .no=>[]
theorem src_spec{C:Ctx}{S:Env}(hW:Wf C S){h:Nat->Option Ent}{X:AV}{v:Value}(hc:conc S X v)(hu: ∀n∈(Qco h X).us,S.h n=h n)(hone:(Qco h X).okOne)
 {z:Nat}(hz:z≠0)(hk:(Qco h X).w=z\/(Qco h X).rows=[]):
 ∃L,(Builtin.lenOf v).run P S.w= .ok (Qco h X).rows.length S.w/\(∀k,(Builtin.firstCells z (Qco h X).rows.length v).run P {S.w with drawn:=k}= .ok L.toArray {S.w with drawn:=k})/\
  L.length=(Qco h X).rows.length*z/\Qbb S z (Qco h X).rows L/\(∀v∈L,v.oneCell'=true)/\(Qco h X).rows.length<=LIM:=by
 cases X<;>try exact hone.elim
 case im d=>
  cases d<;>try exact hone.elim
  rename_i nz k rows;simp only[Qco,Src.rows,Src.w,Src.okOne] at hone hk⊢;simp only[conc,rd] at hc;rcases hc with ⟨rfl|⟨_,a,rfl⟩,rfl⟩|⟨b,p,cap,vs,T,fr,rfl,_,h2,h3,_,h5,h6⟩
  .exact⟨[],by simp[Builtin.lenOf,imR],by simp[Builtin.firstCells],by simp[imR],by simp[imR,Qbb],by simp,by simp[imR]⟩
  .refine⟨[],by simp[Builtin.lenOf,imR],?_,by simp[imR],by simp[imR,Qbb],by simp,by simp[imR]⟩;intro j;simp[Builtin.firstCells,imR,loadCells,loadCellsFrom]
  .by_cases hr:rows=[]
   .subst hr;refine⟨[],by simp[Builtin.lenOf,imR],?_,by simp[imR],by simp[imR,Qbb],by simp,by simp[imR]⟩;intro j;simp[Builtin.firstCells,imR,loadCells,loadCellsFrom]
   .have hkz:k=z:=by
     rcases hk with hk|hk
     .exact hk
     .simp[imR] at hk;exact absurd hk hr
    subst hkz;have hl:=Qxq rows _ h6 hz;have hvs:vs.toList.length=vs.size:=ZaW;have hcr:=Qgt _ _ h6;have hlen:(imR rows).length=rows.length:=by simp[imR]
    refine⟨(vs.toList.drop p).take (rows.length*k),by simp[Builtin.lenOf,imR],?_,?_,?_,?_,by rw[hlen];exact h3⟩
    .intro j;rw[hlen];refine Qef (w:={S.w with drawn:=j}) h5 ?_;by_cases hle:p<=vs.size
     .rw[ZaH,hvs] at hl;omega
     .have:0<rows.length*k:=Nat.mul_pos (ZcH.2 hr) (by omega)
      rw[ZaH,hvs] at hl;omega
    .rw[Zau,hlen];omega
    .have:=Qiu _ _ hcr (by rw[hlen];exact hl)
     rwa [hlen] at this
    .have:=Qlh _ _ (Qyt hone) hcr (by rw[hlen];exact hl)
     rwa [hlen] at this
 case own n=>
  simp only[Qco] at hone hk hu⊢;simp only[conc] at hc;cases hn:h n with
  |none=>rw[hn] at hone;exact hone.elim
  |some e=>
  rw[hn] at hone hk hu;obtain⟨mu,e⟩:=e;cases e<;>try exact hone.elim
  case arr T k rows=>
   simp only[Qmn,Src.rows,Src.w,Src.okOne,Src.us] at hone hk hu⊢;have hS:S.h n=_:=(hu n (by simp)).trans hn;have hob:=hW.obj _ _ hS;have hc:=hc.2 _ hS;have hlen:(imR rows).length=rows.length:=by simp[imR]
   cases hl0:S.ρ n with
   |none=>
    rw[hl0] at hc hob;simp only[objc] at hob;obtain⟨_,rfl⟩:=hob;simp only at hc;subst hc;exact⟨[],by simp[Builtin.lenOf,imR],by simp[Builtin.firstCells],by simp[imR],by simp[imR,Qbb],by simp,by simp[imR]⟩
   |some l=>
    rw[hl0] at hc hob;simp only[objc,AObj.len] at hob hc;subst hc;obtain⟨hLIM,hcap,vs,hb,hsz,hr⟩:=hob;by_cases hr0:rows=[]
    .subst hr0;refine⟨[],by simp[Builtin.lenOf,imR],?_,by simp[imR],by simp[imR,Qbb],by simp,by simp[imR]⟩;intro j;simp[Builtin.firstCells,imR,loadCells,loadCellsFrom]
    .have hkz:k=z:=by
      rcases hk with hk|hk
      .exact hk
      .simp[imR] at hk;exact absurd hk hr0
     subst hkz;have hcr:=Qgt _ _ hr;have hmul:rows.length*k<=l.cap*k:=Zbm _ hcap;have hvs:vs.toList.length=vs.size:=ZaW;have hll:rows.length*k<=(vs.toList.drop l.p).length:=by rw[ZaH,hvs];omega
     refine⟨(vs.toList.drop l.p).take (rows.length*k),by simp[Builtin.lenOf,imR],?_,?_,?_,?_,by rw[hlen];exact hLIM⟩
     .intro j;rw[hlen];exact Qef (w:={S.w with drawn:=j}) hb (by omega)
     .rw[Zau,hlen];omega
     .have:=Qiu _ _ hcr (by rw[hlen];exact hll)
      rwa [hlen] at this
     .have:=Qlh _ _ (Qyt hone) hcr (by rw[hlen];exact hll)
      rwa [hlen] at this
  case arrA T k rows=>
   simp only[Qmn,Src.rows,Src.w,Src.okOne,Src.us] at hone hk hu⊢;have hS:S.h n=_:=(hu n (by simp)).trans hn;have hob:=hW.obj _ _ hS;have hc:=hc.2 _ hS;cases hl0:S.ρ n with
   |none=>
    rw[hl0] at hc hob;simp only[objc] at hob;obtain⟨_,rfl⟩:=hob;simp only at hc;subst hc;exact⟨[],by simp[Builtin.lenOf],by simp[Builtin.firstCells],by simp,by simp[Qbb],by simp,by simp⟩
   |some l=>
    rw[hl0] at hc hob;simp only[objc,AObj.len] at hob hc;subst hc;obtain⟨hLIM,hcap,vs,hb,hsz,hr⟩:=hob;by_cases hr0:rows=[]
    .subst hr0;refine⟨[],by simp[Builtin.lenOf],?_,by simp,by simp[Qbb],by simp,by simp⟩;intro j;simp[Builtin.firstCells,loadCells,loadCellsFrom]
    .have hkz:k=z:=by
      rcases hk with hk|hk
      .exact hk
      .exact absurd hk hr0
     subst hkz;have hmul:rows.length*k<=l.cap*k:=Zbm _ hcap;have hvs:vs.toList.length=vs.size:=ZaW;have hll:rows.length*k<=(vs.toList.drop l.p).length:=by rw[ZaH,hvs];omega
     refine⟨(vs.toList.drop l.p).take (rows.length*k),by simp[Builtin.lenOf],?_,?_,?_,?_,hLIM⟩
     .intro j;exact Qef (w:={S.w with drawn:=j}) hb (by omega)
     .rw[Zau];omega
     .exact Qiu _ _ hr hll
     .exact Qlh _ _ hone hr hll
end
theorem Qjh{S:Env}{k:Nat}: ∀(rows:List (List D)) (L:List Value),Qbb S k (imR rows) L->rdr S.ok S.hp k rows L
 |[],_,_=>by simp only[rdr]
 |r::rows,L,h=>by
  simp only[imR,Zaq,Qbb] at h;simp only[rdr];exact⟨by simpa using h.1,(Qfl _ _).1 h.2.1,Qjh rows _ h.2.2⟩
theorem objc_im{S S':Env}{T k:Nat}{rows:List (List D)}{l:Option Loc}(hok:S'.ok=S.ok)(hhp:S'.hp=S.hp)(h:objc S l (.arrA T k (imR rows))):objc S' l (.arr T k rows):=by
 simp only[objc] at h⊢;refine⟨by simpa[imR] using h.1,?_⟩;cases l with
 |none=>simpa[imR] using h.2
 |some lc=>
  obtain⟨_,h1,vs,h2,h3,h4⟩:=h;refine⟨by simpa[imR] using h1,vs,by rw[hhp];exact h2,h3,?_⟩;rw[hok,hhp];exact Qjh _ _ h4
section
variable {P:Program}{tm:List (Nat×AV)}{h:Nat->Option Ent}{nx:Nat}{o:Oper}{K:Kont}
theorem append_op{T U u2 e:TypeId}{te:TI}{s x:Operand}(hT:P.underlying T=some (.slice e))(hU:P.underlying U=some (.slice u2))(hE:tI P e=some te)
 {c:Call}(ho:o.op= .call c)(hcal:c.callee= .builtin .append)(hargs:c.args= #[s,x])(hty:c.argTypes= #[T,U])
 (hby:te.bytes≠0)(hz:te.zero.length=te.size)(hsz:te.size≠0){u ks:List Nat}{rows0:List (List AV)}
 (hone:(Qco h (evO tm x)).okOne)(hw:(Qco h (evO tm x)).w=te.size\/(Qco h (evO tm x)).rows=[])(husr: ∀n∈(Qco h (evO tm x)).us,n∈u++ks)
 (hbd:(rows0.length+(Qco h (evO tm x)).rows.length+512)*te.bytes<=140737488355328)
 (hnm: ∀m∈nmsR (rows0++(Qco h (evO tm x)).rows),∃n f,n∈u++ks/\h n=some f/\m∈f.2.nms)
 (hold:((∃k0,evO tm s= .im (.sl true k0 []))/\rows0=[])\/(∃n f,evO tm s= .own n/\n∈ks/\h n=some (true,f)/\((∃rows,f= .arr e te.size rows/\rows0=imR rows)\/f= .arrA e te.size rows0)))
 {ea:AObj}(hea:ea= .arrA e te.size (rows0++(Qco h (evO tm x)).rows)\/ ∃rows,ea= .arr e te.size rows/\imR rows=rows0++(Qco h (evO tm x)).rows)
 (hk:K (.own nx) {use:=u,kill:=ks,new:=[(nx,(true,ea))],cnt:=1}):Qbp P tm h nx o K:=by
 refine⟨_,_,OpT.one (u:=u) (ks:=ks) (.inl ⟨rfl,rfl⟩) ?_,hk⟩;intro C S a hW hu hfr hnms hops;have h1:=hops s (by rw[ho];simp[Op.operands,Call.operands,hargs,hcal]);have h2:=hops x (by rw[ho];simp[Op.operands,Call.operands,hargs,hcal]);obtain⟨L,hlen,hcells,hLl,hLr,hLo,hLIM⟩:=src_spec hW h2 (fun n hn=>hu n (husr n hn)) hone hsz hw;have hnx:=hfr rfl;have hold': ∃l0 A,a.eval s=slV l0 rows0.length/\oldAt S e te.size rows0.length A l0/\
  (∀l,l0=some l-> ∃o f,o∈ks/\S.h o=some (true,f)/\S.ρ o=some l)/\Qbb S te.size rows0 A/\rows0.length*te.size<=A.length:=by
  rcases hold with ⟨⟨k0,hs⟩,rfl⟩|⟨n,f,hs,hnk,hf,hff⟩
  .rw[hs] at h1;simp only[conc,rd] at h1;rcases h1 with ⟨h1,_⟩|⟨b,p,cap,vs,T,fr,_,hne,_⟩
   .have h1:=Qr7 h1;exact⟨none,[],by rw[h1];rfl,⟨rfl,rfl⟩,(by intro l hl;cases hl),by simp only[Qbb],by simp⟩
   .exact absurd rfl (hne trivial)
  .rw[hs] at h1;have hS:S.h n=_:=(hu n (by simp[hnk])).trans hf;have hob:=hW.obj _ _ hS;simp only[conc] at h1;have h1:=h1.2 _ hS;cases hl0:S.ρ n with
   |none=>
    rw[hl0] at h1 hob;simp only at h1
    have:rows0=[]:=by
     rcases hff with ⟨rows,rfl,rfl⟩|rfl
     .simp only[objc] at hob;rw[hob.2];rfl
     .simp only[objc] at hob;exact hob.2
    subst this;exact⟨none,[],by rw[h1];rfl,⟨rfl,rfl⟩,(by intro l hl;cases hl),by simp only[Qbb],by simp⟩
   |some l=>
    rw[hl0] at h1 hob;simp only at h1;have hcom:f.len=rows0.length/\rows0.length<=l.cap/\ ∃vs,S.hp l.b=some (.cells vs e (0,0))/\l.p+l.cap*te.size<=vs.size/\Qbb S te.size rows0 (vs.toList.drop l.p):=by
     rcases hff with ⟨rows,rfl,rfl⟩|rfl
     .simp only[objc] at hob;obtain⟨_,hcap,vs,hb,hsz,hr⟩:=hob;exact⟨by simp[AObj.len,imR],by simpa[imR] using hcap,vs,hb,hsz,Qgt _ _ hr⟩
     .simp only[objc] at hob;obtain⟨_,hcap,vs,hb,hsz,hr⟩:=hob;exact⟨rfl,hcap,vs,hb,hsz,hr⟩
    obtain⟨hfl,hcap,vs,hb,hsz,hr⟩:=hcom;have hmul:rows0.length*te.size<=l.cap*te.size:=Zbm _ hcap;have hvs:vs.toList.length=vs.size:=ZaW;refine⟨some l,vs.toList.drop l.p,by rw[h1,hfl];rfl,⟨hcap,vs,hb,rfl,hsz⟩,?_,hr,by rw[ZaH,hvs];omega⟩;intro l' hl';obtain rfl:=Zac hl';exact⟨n,f,hnk,hS,hl0⟩
 obtain⟨l0,A,hv,hA,hkill,hr0,hA1⟩:=hold';obtain⟨w',l',hrun,hok,hres⟩:=append_go hW (nx:=nx) (ks:=ks) (ty:=o.type) hT hE hU hby hz hsz hbd hA hlen hcells hLl hLo hkill hnx (fun n f hf=>hnms n f hf rfl);refine⟨slV l' (rows0.length+(Qco h (evO tm x)).rows.length),w',l',.inl ?_,hok ea,?_⟩
 .simp only[execOp,ho,resolve,hcal,hargs,hty,Sem.run_bind,Sem.run_pure,Result.andThen_ok,invoke,builtin];simp[hv,hrun]
 intro hp;have hbt:te.bytes≠0:=hby;have htot:rows0.length+(Qco h (evO tm x)).rows.length<=LIM:=by
  have:(rows0.length+(Qco h (evO tm x)).rows.length+512)*1<=(rows0.length+(Qco h (evO tm x)).rows.length+512)*te.bytes:=Nat.mul_le_mul_left _ (by omega)
  simp only[LIM];omega
 have hX: ∀m∈nmsR (rows0++(Qco h (evO tm x)).rows),S.h nx≠none\/m≠nx:=by
  intro m hm;obtain⟨n,f,hnu,hf,hmf⟩:=hnm m hm;right;rintro rfl;exact hnms n f ((hu n hnu).trans hf) rfl hmf
 have hobjA:objc (S.one nx ea l' ks w') l' (.arrA e te.size (rows0++(Qco h (evO tm x)).rows)):=by
  simp only[objc,Zaz];refine⟨htot,?_⟩;cases l' with
  |none=>
   simp only at hres⊢;rw[ZeQ];exact⟨ZbS.1 hres.1,ZbS.1 hres.2⟩
  |some l=>
   obtain⟨h3,vs,R,h4,h5,h6⟩:=hres;refine⟨h3,vs,h4,h5,?_⟩;rw[h6];exact Qgx hp _ _ _ hX (Qqs _ _ _ _ _ hr0 hA1 hLr (by rw[hLl];exact Zap _))
 have hlenA:ea.len=rows0.length+(Qco h (evO tm x)).rows.length:=by
  rcases hea with rfl|⟨rows,rfl,hr⟩
  .simp[AObj.len]
  .simp only[AObj.len];rw[<-Zaz,<-hr];simp[imR]
 constructor
 .rcases hea with rfl|⟨rows,rfl,hr⟩
  .exact hobjA
  .rw[<-hr] at hobjA;exact objc_im rfl rfl hobjA
 .simp only[conc];refine⟨by cases l'<;>rfl,fun e' he'=> ?_⟩;simp only[Env.one,ZaQ,Zae] at he'⊢;subst he';cases l' with
  |none=>rfl
  |some l=>simp only[slV];rw[hlenA]
theorem Qlv(rows:List (List D)):nmsR (imR rows)=[]:=by
 induction rows with
 |nil=>rfl
 |cons r rows ih=>simp only[imR,Zaq,nmsR,Qw0,Zbi];exact ih
theorem Qks: ∀(a b:List (List AV)),nmsR (a++b)=nmsR a++nmsR b
 |[],_=>rfl
 |x::a,b=>by simp[nmsR,Qks a b]
theorem src_names{X:AV}{m:Nat}(hm:m∈nmsR (Qco h X).rows): ∃n f,n∈(Qco h X).us/\h n=some f/\m∈f.2.nms:=by
 cases X<;>try (simp only[Qco,Src.rows,nmsR] at hm;cases hm;done)
 case im d=>cases d<;>simp only[Qco,Src.rows,Qlv,nmsR] at hm<;>cases hm
 case own n=>
  simp only[Qco] at hm⊢;cases hn:h n with
  |none=>rw[hn] at hm;simp only[Qmn,Src.rows,nmsR] at hm;cases hm
  |some e=>
   rw[hn] at hm;obtain⟨mu,e⟩:=e;cases e<;>simp only[Qmn,Src.rows,Qlv,nmsR] at hm<;>try cases hm
   refine⟨n,_,by simp[Src.us,Qmn],hn,hm⟩
theorem Qab5{T U:TypeId}{s x:Operand}{c:Call}(ho:o.op= .call c)(hcal:c.callee= .builtin .append)(hargs:c.args= #[s,x])(hty:c.argTypes= #[T,U])
 (hk:Qax (Qlj P h nx (evO tm s) (evO tm x) T K) (tI P U)):Qbp P tm h nx o K:=by
 cases hU:tI P U with
 |none=>rw[hU] at hk;exact hk.elim
 |some ui=>
 rw[hU] at hk;simp only[Qax,Qlj] at hk;obtain⟨hsl,hk⟩:=hk;cases hu:ui.kind<;>rw[hu] at hsl<;>simp only[TK.isSl,ZaB] at hsl;rename_i u2;have hUu:=Qdq hU hu;cases hT:tI P T with
 |none=>rw[hT] at hk;exact hk.elim
 |some ti=>
 rw[hT] at hk;simp only[Qsl] at hk;cases hf:ti.kind<;>rw[hf] at hk<;>try exact hk.elim
 rename_i e;have hTu:=Qdq hT hf;simp only[apK] at hk;cases hE:tI P e with
 |none=>rw[hE] at hk;exact hk.elim
 |some te=>
 rw[hE] at hk;simp only[Qax,apE] at hk;obtain⟨hz,hl,hby,hone,hk⟩:=hk;have hsn: ∀{m:Nat},m∈nmsR (Qco h (evO tm x)).rows-> ∃n f,n∈(Qco h (evO tm x)).us/\h n=some f/\m∈f.2.nms:=fun hm=>src_names hm
 have hmain:= @append_op P tm h nx o K T U u2 e te s x hTu hUu hE c ho hcal hargs hty hby hl hz;revert hmain;generalize Qco h (evO tm x)=src at hk hone hsn;intro hmain;cases hs:evO tm s<;>rw[hs] at hk<;>try exact hk.elim
 case im d=>
  cases d<;>try exact hk.elim
  rename_i nz k0 rows;cases nz<;>cases rows<;>try exact hk.elim
  simp only[apTo] at hk;cases src with
  |no=>exact hk.elim
  |d u k rows=>
   simp only[Qaa6] at hk;obtain⟨hkk,hb,hk⟩:=hk;refine hmain (u:=u) (ks:=[]) (rows0:=[]) hone (hkk.imp id (fun h=>by rw[h];rfl)) (by simp[Src.us]) (by simpa[Src.rows,imR] using hb) ?_ (.inl ⟨⟨k0,hs⟩,rfl⟩) (.inr ⟨rows,rfl,by simp[Src.rows]⟩) hk;intro m hm;simp only[Zbi,Src.rows,Qlv] at hm;cases hm
  |a u k rows=>
   simp only[Qaa6] at hk;obtain⟨hkk,hb,hk⟩:=hk;refine hmain (u:=u) (ks:=u) (rows0:=[]) hone (.inl hkk) (by simp[Src.us]) (by simpa[Src.rows] using hb) ?_ (.inl ⟨⟨k0,hs⟩,rfl⟩) (.inl (by simp[Src.rows])) hk;intro m hm;obtain⟨n,f,hn,hf⟩:=hsn hm;exact⟨n,f,by simp[Src.us] at hn;simp[hn],hf⟩
 case own n=>
  simp only[apTo] at hk;cases hn:h n with
  |none=>rw[hn] at hk;exact hk.elim
  |some ent=>
  rw[hn] at hk;obtain⟨mu,ent⟩:=ent;cases mu<;>cases ent<;>try exact hk.elim
  case true.arr U0 k0 rows0=>
   simp only[apObj] at hk;obtain⟨rfl,rfl,hk⟩:=hk;cases src with
   |no=>exact hk.elim
   |d u k rows=>
    simp only[apD] at hk;obtain⟨hkk,hno,hb,hk⟩:=hk;refine hmain (u:=n::u) (ks:=[n]) (rows0:=imR rows0) hone (hkk.imp id (fun h=>by rw[h];rfl)) (by intro x hx;simp[Src.us] at hx;simp[hx]) (by simpa[Src.rows,imR] using hb) ?_
     (.inr ⟨n,_,hs,by simp,hn,.inl ⟨rows0,rfl,rfl⟩⟩) (.inr ⟨rows0++rows,rfl,by simp[Src.rows,imR]⟩) hk
    intro m hm;simp only[Src.rows,Qks,Qlv] at hm;cases hm
   |a u k rows=>
    simp only[apD] at hk;obtain⟨hkk,hno,hb,hk⟩:=hk;refine hmain (u:=n::u) (ks:=n::u) (rows0:=imR rows0) hone (.inl hkk) (by intro x hx;simp[Src.us] at hx;simp[hx]) (by simpa[Src.rows,imR] using hb) ?_
     (.inr ⟨n,_,hs,by simp,hn,.inl ⟨rows0,rfl,rfl⟩⟩) (.inl (by simp[Src.rows])) hk
    intro m hm;simp only[Qks,Qlv,Zbi] at hm;obtain⟨n',f,hn',hf⟩:=hsn hm;exact⟨n',f,by simp[Src.us] at hn';simp[hn'],hf⟩
  case true.arrA U0 k0 rows0=>
   simp only[apObj] at hk;obtain⟨rfl,rfl,hk⟩:=hk;cases src with
   |no=>exact hk.elim
   |d u k rows=>
    simp only[apA] at hk;obtain⟨hkk,hno,hb,hk⟩:=hk;refine hmain (u:=n::u) (ks:=[n]) (rows0:=rows0) hone (hkk.imp id (fun h=>by rw[h];rfl)) (by intro x hx;simp[Src.us] at hx;simp[hx]) (by simpa[Src.rows,imR] using hb) ?_
     (.inr ⟨n,_,hs,by simp,hn,.inr rfl⟩) (.inl (by simp[Src.rows])) hk
    intro m hm;simp only[Src.rows,Qks,Qlv,ZaK] at hm;exact⟨n,_,by simp,hn,hm⟩
   |a u k rows=>
    simp only[apA] at hk;obtain⟨hkk,hno,hb,hk⟩:=hk;refine hmain (u:=n::u) (ks:=n::u) (rows0:=rows0) hone (.inl hkk) (by intro x hx;simp[Src.us] at hx;simp[hx]) (by simpa[Src.rows] using hb) ?_
     (.inr ⟨n,_,hs,by simp,hn,.inr rfl⟩) (.inl (by simp[Src.rows])) hk
    intro m hm;simp only[Qks,Zan] at hm;rcases hm with hm|hm
    .exact⟨n,_,by simp,hn,hm⟩
    .obtain⟨n',f,hn',hf⟩:=hsn hm;exact⟨n',f,by simp[Src.us] at hn';simp[hn'],hf⟩
end
theorem Qx9{ok:Nat->Prop}{hp:Nat->Option Obj}: ∀(ds:List (D×D)) (es:List MapEntry),rde ok hp ds es->es.length=ds.length
 |[],_,h=>by simp only[rde] at h;simp[h]
 |(x,y)::ds,_,h=>by
  simp only[rde] at h;obtain⟨e,r,rfl,_,_,h3⟩:=h;simp[Qx9 ds r h3]
theorem Qcc{P:Program}{w:World}{b:Nat}{es:Array MapEntry}{clock:Nat}(h:w.heap[b]? =some (.map es clock)):(getObj b).run P w= .ok (.map es clock) w:=by
 simp[getObj,Sem.run,h]
section
variable {P:Program}{w:World}{T e k:TypeId}
theorem Qdw(x y:Value):Op.equal T x y=Op.equalIn (9999+1) T x y:=rfl
theorem eqn_sl(hu:P.underlying T=some (.slice e))(d:Nat)(b:Option Addr)(n c:Nat):(Op.equalIn (d+1) T (.slice b n c) (.slice none 0 0)).run P w= .ok b.isNone w:=by
 cases b<;>simp[Op.equalIn,run_underlying hu]
theorem Qx1(hu:P.underlying T=some (.pointer e))(d:Nat)(b:Option Addr):(Op.equalIn (d+1) T (.pointer b) (.pointer none)).run P w= .ok b.isNone w:=by
 cases b<;>simp[Op.equalIn,run_underlying hu]
theorem eqn_mp(hu:P.underlying T=some (.map k e))(d:Nat)(b:Option Nat):(Op.equalIn (d+1) T (.map b) (.map none)).run P w= .ok b.isNone w:=by
 cases b<;>simp[Op.equalIn,run_underlying hu]
end
def AbsT(tm:List (Nat×AV))(h:Nat->Option Ent)(o:Oper):Prop:=
 ∃u:List Nat,∀(C:Ctx) (S:Env) (a:Act),Wf C S->(∀n∈u,S.h n=h n)->(∀x∈o.op.operands,conc S (evO tm x) (a.eval x))->False
def SndOpS(P:Program)(tm:List (Nat×AV))(h:Nat->Option Ent)(nx:Nat)(o:Oper)(K:Kont):Prop:=
 ∀(C:Ctx) (S:Env) (a:Act) (next:Act->World->Prop) (Q:Exit->Act->World->Prop),
  Wf C S->(∀n,S.h n=h n)->(∀n,nx<=n->S.h n=none)->(∀n e,S.h n=some e-> ∀m∈e.2.nms,m<nx)->
  (∀x∈o.op.operands,conc S (evO tm x) (a.eval x))->
  (∀r E v S',K r E->Wf C S'->S'.h=E.appf S.h->Pres (fun m=> ¬Fr nx E.cnt m) S S'->conc S' r v->next (a.put o.dst v) S'.w)->
  o.wp P a S.w next Q
abbrev SndO(P:Program)(sq:Bool)(tm:List (Nat×AV))(h:Nat->Option Ent)(nx:Nat)(o:Oper)(K:Kont):Prop:=
 Qbp P tm h nx o K\/(sq=true/\(AbsT tm h o\/SndOpS P tm h nx o K))
section
variable {P:Program}{tm:List (Nat×AV)}{h:Nat->Option Ent}{nx:Nat}{o:Oper}{K:Kont}
theorem Qmi{T:TypeId}{x:Operand}{c:Call}{u:List Nat}{n:Nat}(ho:o.op= .call c)(hcal:c.callee= .builtin .len)(hargs:c.args= #[x])(hty:c.argTypes= #[T])
 (hrun: ∀(C:Ctx) (S:Env) (v:Value),Wf C S->(∀n∈u,S.h n=h n)->conc S (evO tm x) v->(Builtin.len_ #[T] o.type #[v]).run P S.w= .ok (.int .i64 n) S.w)
 (hk:kInt K {use:=u} n):Qbp P tm h nx o K:=by
 refine⟨_,_,OpT.pure (u:=u) ?_,hk⟩;intro C S a hW hu hops;have h1:=hops x (by rw[ho];simp[Op.operands,Call.operands,hargs,hcal]);refine⟨.int .i64 n,?_,by simp only[conc,rd]⟩;simp only[execOp,ho,resolve,hcal,hargs,hty,Sem.run_bind,Sem.run_pure,Result.andThen_ok,invoke,builtin];simp[hrun C S _ hW hu h1]
theorem Qq0{sq:Bool}{B:Prop}(hk:(sq=true->B)->Qbp P tm h nx o K)(hB: ¬B->AbsT tm h o):SndO P sq tm h nx o K:=by
 by_cases h1:B
 .exact .inl (hk fun _=>h1)
 .cases sq
  .exact .inl (hk fun h=>by cases h)
  .exact .inr ⟨rfl,.inl (hB h1)⟩
theorem snd_len{sq:Bool}{T:TypeId}{x:Operand}{c:Call}(ho:o.op= .call c)(hcal:c.callee= .builtin .len)(hargs:c.args= #[x])(hty:c.argTypes= #[T])
 (hk:Qax (Qxt sq h (evO tm x) K) (tI P T)):SndO P sq tm h nx o K:=by
 have hopx:x∈o.op.operands:=by rw[ho];simp[Op.operands,Call.operands,hargs,hcal]
 cases hT:tI P T with
 |none=>rw[hT] at hk;exact hk.elim
 |some ti=>
 rw[hT] at hk;simp only[Qax,Qxt] at hk;cases hf:ti.kind<;>rw[hf] at hk<;>try exact hk.elim
 case slice e=>
  have hu:=Qdq hT hf;simp only[lenK] at hk;cases hx:evO tm x<;>rw[hx] at hk<;>try exact hk.elim
  case im d=>
   cases d<;>try exact hk.elim
   rename_i nz k rows;simp only[Qw2] at hk;refine Qq0 (B:=rows.length<=140737488355328) (fun hb=>Qmi (u:=[]) ho hcal hargs hty ?_ (hk hb)) fun hb=>⟨[],?_⟩
   .intro C S v hW _ hc;rw[hx] at hc;simp only[conc,rd] at hc;rcases hc with ⟨rfl|⟨_,a,rfl⟩,rfl⟩|⟨b,p,cap,vs,T,fr,rfl,_⟩<;>simp[Builtin.len_,underlying,hu,goInt]
   .intro C S a hW _ hops;have h1:=hops x hopx;rw[hx] at h1;simp only[conc,rd] at h1;rcases h1 with ⟨_,rfl⟩|⟨b,p,cap,vs,T,fr,_,_,_,h3,_⟩
    .simp at hb
    .exact hb h3
  case own n=>
   simp only[Qw2] at hk;cases hn:h n with
   |none=>rw[hn] at hk;exact hk.elim
   |some ent=>
   rw[hn] at hk;obtain⟨mu,ent⟩:=ent;have main: ∀{rl:Nat},ent.len=rl->(∀(S:Env) l,objc S l ent->rl<=140737488355328)->((sq=true->rl<=140737488355328)->kInt K {use:=[n]} rl)->(∀(S:Env),objc S none ent->rl=0)->
    SndO P sq tm h nx o K:=by
    intro rl hl hbd hk hnil;refine Qq0 (B:=rl<=140737488355328) (fun hb=>Qmi (u:=[n]) ho hcal hargs hty ?_ (hk hb)) fun hb=>⟨[n],?_⟩
    .intro C S v hW hu' hc;rw[hx] at hc;simp only[conc] at hc;have hS:=(hu' n (by simp)).trans hn;have hc:=hc.2 _ hS;cases hl0:S.ρ n with
     |none=>
      have hob:=hW.obj _ _ hS;rw[hl0] at hc hob;simp only at hc;subst hc
      have:=hnil S hob
      simp[Builtin.len_,underlying,hu,goInt,this]
     |some l=>
      rw[hl0] at hc;simp only[hl] at hc;subst hc;simp[Builtin.len_,underlying,hu,goInt]
    .intro C S a hW hu' hops;have hS:=(hu' n (by simp)).trans hn;exact hb (hbd S _ (hW.obj _ _ hS))
   cases ent<;>try exact hk.elim
   case arr T0 k rows=>
    exact main rfl (fun S l ho=>by simp only[objc] at ho;exact ho.1) hk (fun S ho=>by simp only[objc] at ho;rw[ho.2];rfl)
   case arrA T0 k rows=>
    exact main rfl (fun S l ho=>by simp only[objc] at ho;exact ho.1) hk (fun S ho=>by simp only[objc] at ho;rw[ho.2];rfl)
  case osl n wa wn=>
   simp only[Qw2] at hk;cases hn:h n with
   |none=>rw[hn] at hk;exact hk.elim
   |some ent=>
   rw[hn] at hk;refine .inl (Qmi (u:=[n]) ho hcal hargs hty ?_ hk);intro C S v hW hu' hc;rw[hx] at hc;simp only[conc] at hc;have hS:=(hu' n (by simp)).trans hn;have hc:=hc.2 _ hS;unfold winV at hc;cases hl0:S.ρ n with
   |none=>
    rw[hl0] at hc;obtain⟨rfl,rfl⟩:=hc;simp[Builtin.len_,underlying,hu,goInt]
   |some l=>
    rw[hl0] at hc;obtain⟨p,cp,rfl,_⟩:=hc;simp[Builtin.len_,underlying,hu,goInt]
 case str=>
  have hu:=Qafr hT hf;simp only[lenK] at hk;cases hx:evO tm x<;>rw[hx] at hk<;>try exact hk.elim
  rename_i d;cases d<;>try exact hk.elim
  refine .inl (Qmi (u:=[]) ho hcal hargs hty ?_ hk);intro C S v hW _ hc;rw[hx] at hc;simp only[conc,rd] at hc;subst hc;simp[Builtin.len_,underlying,hu,goInt]
 case map k e=>
  have hu:=Qqw hT hf;simp only[lenK] at hk;cases hx:evO tm x<;>rw[hx] at hk<;>try exact hk.elim
  case im d=>
   cases d<;>try exact hk.elim
   case nilm=>
    refine .inl (Qmi (u:=[]) ho hcal hargs hty ?_ hk);intro C S v hW _ hc;rw[hx] at hc;simp only[conc,rd] at hc;subst hc;simp[Builtin.len_,underlying,hu,goInt]
   case mp kt es=>
    refine .inl (Qmi (u:=[]) ho hcal hargs hty ?_ hk);intro C S v hW _ hc;rw[hx] at hc;simp only[conc,rd] at hc;obtain⟨b,ents,clock,rfl,_,_,h5,h6,_⟩:=hc;have hl:=Qx9 _ _ h6;simp only[ZaW] at hl;simp[Builtin.len_,underlying,hu,goInt,Qcc (w:=S.w) h5,hl]
  case mp n=>
   simp only[Qvs] at hk;cases hn:h n with
   |none=>rw[hn] at hk;exact hk.elim
   |some ent=>
   rw[hn] at hk;obtain⟨mu,ent⟩:=ent;cases ent<;>try exact hk.elim
   refine .inl (Qmi (u:=[n]) ho hcal hargs hty ?_ hk);intro C S v hW hu' hc;rw[hx] at hc;simp only[conc] at hc;have hS:=(hu' n (by simp)).trans hn;obtain⟨l,hl,rfl⟩:=hc.2 _ hS;have hob:=hW.obj _ _ hS;simp only[objc] at hob;obtain⟨lc,ents,clock,h1,_,h5,h6,_⟩:=hob;rw[hl] at h1;obtain rfl:=Zac h1;have hl:=Qx9 _ _ h6;simp only[ZaW] at hl;simp[Builtin.len_,underlying,hu,goInt,Qcc (w:=S.w) h5,hl]
theorem Qhh{op:BinOp}{T U:TypeId}{x y:Operand}{u:List Nat}{b:Bool}(ho:o.op= .binOp op T x y U)(hop:op= .eql\/op= .neq){nv:Value}(hy:y= .const nv)
 (hnv:nv= .slice none 0 0\/nv= .pointer none\/nv= .map none)
 (hrun: ∀(C:Ctx) (S:Env) (v:Value),Wf C S->(∀n∈u,S.h n=h n)->conc S (evO tm x) v->(∀k n,v≠ .int k n)/\(∀k n,v≠ .float k n)/\(∀k n m,v≠ .complex k n m)/\(∀s,v≠ .string s)/\(Op.equal T v nv).run P S.w= .ok b S.w)
 (hk:K (.im (.bool ((decide (op= .neq)) !=b))) {use:=u}):Qbp P tm h nx o K:=by
 refine⟨_,_,OpT.pure (u:=u) ?_,hk⟩;intro C S a hW hu hops;have h1:=hops x (by rw[ho];simp[Op.operands]);obtain⟨hi,hf,hc,hs,hr⟩:=hrun C S _ hW hu h1;refine⟨.bool (decide (op= .neq) !=b),?_,by simp only[conc,rd]⟩;have hg:(eqGuard op T x y (a.eval x) nv).run P S.w= .ok () S.w:=by
  rcases hnv with rfl|rfl|rfl<;>rcases hop with rfl|rfl<;>simp[eqGuard]
 have hb:(binOp op T (a.eval x) nv).run P S.w= .ok (.bool (decide (op= .neq) !=b)) S.w:=by
  have hq:(Op.equal T (a.eval x) nv).run P S.w= .ok b S.w:=hr;clear hr hg hops h1 hrun hk hu;generalize a.eval x=v at*;rcases hop with rfl|rfl
  .have:binOp .eql T v nv=(do pure (.bool (<-Op.equal T v nv))):=by
    rcases hnv with rfl|rfl|rfl<;>cases v<;>first|rfl|exact absurd rfl (hi _ _)|exact absurd rfl (hf _ _)|exact absurd rfl (hc _ _ _)|exact absurd rfl (hs _)
   rw[this];simp[hq]
  .have:binOp .neq T v nv=(do pure (.bool (!(<-Op.equal T v nv)))):=by
    rcases hnv with rfl|rfl|rfl<;>cases v<;>first|rfl|exact absurd rfl (hi _ _)|exact absurd rfl (hf _ _)|exact absurd rfl (hc _ _ _)|exact absurd rfl (hs _)
   rw[this];simp[hq]
 have hey:a.eval y=nv:=by rw[hy];rfl
 simp only[execOp,ho,hey,Sem.run_bind,hg,Result.andThen_ok,hb,Sem.run_pure]
theorem Qabe{op:BinOp}{T U:TypeId}{x y:Operand}{m:Nat}(ho:o.op= .binOp op T x y U)(hm:nilC y=m+1)(hm2:m<=2)(hk:Qax (Qm5 h op (evO tm x) K m) (tI P T)):Qbp P tm h nx o K:=by
 cases hT:tI P T with
 |none=>rw[hT] at hk;exact hk.elim
 |some ti=>
 rw[hT] at hk;simp only[Qax] at hk;have hop:op= .eql\/op= .neq:=by cases op<;>first|exact .inl rfl|exact .inr rfl|exact hk.elim
 have hk':Qkv h (decide (op= .neq)) K (evO tm x) m ti.kind:=by rcases hop with rfl|rfl<;>exact hk
 have hy: ∃nv,y= .const nv/\((m=0/\nv= .slice none 0 0)\/(m=1/\nv= .pointer none)\/(m=2/\nv= .map none)):=by
  cases y<;>simp only[nilC,reduceCtorEq] at hm<;>try (cases hm;done)
  rename_i v;refine⟨v,rfl,?_⟩;unfold nilV at hm;split at hm
  .exact .inl ⟨by omega,rfl⟩
  .exact .inr (.inl ⟨by omega,rfl⟩)
  .exact .inr (.inr ⟨by omega,rfl⟩)
  .omega
  .omega
 obtain⟨nv,hy,hnv⟩:=hy;clear hk;rcases hnv with ⟨rfl,rfl⟩|⟨rfl,rfl⟩|⟨rfl,rfl⟩<;>cases hf:ti.kind<;>rw[hf] at hk'<;>try exact hk'.elim
 .have hu:=Qdq hT hf;simp only[Qkv] at hk';cases hx:evO tm x<;>rw[hx] at hk'<;>try exact hk'.elim
  rename_i d;cases d<;>try exact hk'.elim
  rename_i nz k rows;cases nz<;>try exact hk'.elim
  refine Qhh (u:=[]) ho hop hy (.inl rfl) ?_ hk';intro C S v hW _ hc;rw[hx] at hc;simp only[conc,rd] at hc;rcases hc with ⟨h0,rfl⟩|⟨b,p,cap,vs,T,fr,rfl,h2,_⟩
  .rw[Qr7 h0];simp[Qdw,eqn_sl hu 9999]
  .have hne:rows≠[]:=h2 trivial
   have:rows.isEmpty=false:=by cases rows<;>simp_all
   simp[Qdw,eqn_sl hu 9999,this]
 .have hu:=tk_ptr hT hf;simp only[Qkv] at hk';cases hx:evO tm x<;>rw[hx] at hk'<;>try exact hk'.elim
  case im d=>
   cases d<;>try exact hk'.elim
   .refine Qhh (u:=[]) ho hop hy (.inr (.inl rfl)) ?_ hk';intro C S v hW _ hc;rw[hx] at hc;simp only[conc,rd] at hc;subst hc;simp[Qdw,Qx1 hu 9999]
   .refine Qhh (u:=[]) ho hop hy (.inr (.inl rfl)) ?_ hk';intro C S v hW _ hc;rw[hx] at hc;simp only[conc,rd] at hc;obtain⟨b,p,vs,T,fr,rfl,_⟩:=hc;simp[Qdw,Qx1 hu 9999]
  all_goals
   obtain⟨⟨e',he⟩,hk'⟩:=Qhj hk';refine Qhh (b:=false) ho hop hy (.inr (.inl rfl)) ?_ (by simpa using hk');intro C S v hW hu' hc;rw[hx] at hc;simp only[conc] at hc;obtain⟨l,_,rfl⟩:=hc.2 e' ((hu' _ (by simp)).trans he);simp[Qdw,Qx1 hu 9999]
 .have hu:=Qqw hT hf;simp only[Qkv] at hk';cases hx:evO tm x<;>rw[hx] at hk'<;>try exact hk'.elim
  case im d=>
   cases d<;>try exact hk'.elim
   .refine Qhh (u:=[]) ho hop hy (.inr (.inr rfl)) ?_ hk';intro C S v hW _ hc;rw[hx] at hc;simp only[conc,rd] at hc;subst hc;simp[Qdw,eqn_mp hu 9999]
   .refine Qhh (u:=[]) ho hop hy (.inr (.inr rfl)) ?_ hk';intro C S v hW _ hc;rw[hx] at hc;simp only[conc,rd] at hc;obtain⟨b,p,vs,rfl,_⟩:=hc;simp[Qdw,eqn_mp hu 9999]
  all_goals
   obtain⟨⟨e',he⟩,hk'⟩:=Qhj hk';refine Qhh (b:=false) ho hop hy (.inr (.inr rfl)) ?_ (by simpa using hk');intro C S v hW hu' hc;rw[hx] at hc;simp only[conc] at hc;obtain⟨l,_,rfl⟩:=hc.2 e' ((hu' _ (by simp)).trans he);simp[Qdw,eqn_mp hu 9999]
end
end Go.Ae
