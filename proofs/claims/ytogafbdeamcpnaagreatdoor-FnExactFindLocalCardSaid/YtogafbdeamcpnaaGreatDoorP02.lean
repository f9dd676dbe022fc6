/- Lemmas. Conditions: none. -/
import Derived.Test.YtogafbdeamcpnaaGreatDoorP01
import Derived.IntWalk
set_option linter.all false
set_option maxHeartbeats 8000000
set_option maxRecDepth 100000
namespace Go.Ae
def QS(z:List Value)(O:z≠[]): ∀n,(List.range (n*z.length)).map (λi=>z[i % z.length]!)=repZ n z
 |0=>by simp[repZ]
 |n+1=>by
  have h0:0<z.length:=Lw.2 O;rw[C9,Ew,PG,List.range_add,Di,Hj];simp only[repZ];congr 1
  .apply List.ext_getElem
   .simp
   .intro i Q G;simp only[List.getElem_map,Vs]
    have:i % z.length=i:=Nat.mod_eq_of_lt G
    rw[this,getElem!_pos z i G]
  .rw[<-QS z O n];apply Gd;intro i _;simp
def UC(a:Array Value)(i:Nat):a[i]! =a.toList[i]! :=by
 by_cases z:i<a.size
 .rw[getElem!_pos a i z,getElem!_pos a.toList i (by simpa using z)];simp
 .rw[getElem!_neg a i z,getElem!_neg a.toList i (by simpa using z)]
def XP{α:Type}(z:List α): ∀n,(repZ n z).length=n*z.length
 |0=>by simp[repZ]
 |n+1=>by simp[repZ,XP z n,C9];omega
def MQ{α β:Type}(f:α->β)(z:List α): ∀n,(repZ n z).map f=repZ n (z.map f)
 |0=>rfl
 |n+1=>by simp[repZ,MQ f z n]
def rdl_app{ok:Nat->Prop}{hp:Nat->Option Obj}: ∀(a:List D) (x:List Value) (b:List D) (y:List Value),rdl ok hp a x->rdl ok hp b y->rdl ok hp (a++b) (x++y)
 |[],x,b,y,h,z=>by simp only[rdl] at h;subst h;simpa using z
 |d::a,x,b,y,h,z=>by
  simp only[rdl] at h;obtain⟨v,r,rfl,G,O⟩:=h;simp only[Bv,rdl];exact⟨v,_,rfl,G,rdl_app a r b y O z⟩
def Tf{S:Env}: ∀(a:List AV) (x:List Value) (b:List AV) (y:List Value),Ap S a x->Ap S b y->Ap S (a++b) (x++y)
 |[],x,b,y,h,z=>by simp only[Ap] at h;subst h;simpa using z
 |d::a,x,b,y,h,z=>by
  simp only[Ap] at h;obtain⟨v,r,rfl,G,O⟩:=h;simp only[Bv,Ap];exact⟨v,_,rfl,G,Tf a r b y O z⟩
def X0{ok:Nat->Prop}{hp:Nat->Option Obj}{z:List D}{x:List Value}(h:rdl ok hp z x): ∀n,rdl ok hp (repZ n z) (repZ n x)
 |0=>by simp[repZ,rdl]
 |n+1=>rdl_app _ _ _ _ h (X0 h n)
def K3{α:Type}(k:Nat): ∀(n:Nat) (l:List α),(DW k n l).length=n
 |0,_=>rfl
 |n+1,l=>by simp[DW,K3 k n]
def VZ{ok:Nat->Prop}{hp:Nat->Option Obj}(k:Nat): ∀(n:Nat) (ds:List D) (vs:List Value),rdp ok hp ds vs->ds.length=n*k->rdr ok hp k (DW k n ds) vs
 |0,_,_,_,_=>by simp only[DW,rdr]
 |n+1,ds,vs,h,G=>by
  rw[C9,Ew] at G;simp only[DW,rdr];obtain⟨O,z⟩:=Hs k ds vs h (by omega);refine⟨by rw[Bb];omega,?_,VZ k n _ _ (Hp k ds vs h (by omega)) (by rw[Bn];omega)⟩
  have:=OX _ _ (vs.drop k) (I9 _ _ z)
  rwa [Gc] at this
def VD{S:Env}(k:Nat): ∀(n:Nat) (ds:List AV) (vs:List Value),Bg S ds vs->ds.length=n*k->AN S k (DW k n ds) vs
 |0,_,_,_,_=>by simp only[DW,AN]
 |n+1,ds,vs,h,G=>by
  rw[C9,Ew] at G;simp only[DW,AN];obtain⟨O,z⟩:=Ix k ds vs h (by omega);refine⟨by rw[Bb];omega,?_,VD k n _ _ (LM k ds vs h (by omega)) (by rw[Bn];omega)⟩
  have:=LX _ _ (vs.drop k) (Iy _ _ z)
  rwa [Gc] at this
def VI(k:Nat)(x:Nat): ∀(n:Nat) (ds:List AV),x∈nmsR (DW k n ds)->x∈nmsL ds
 |0,_,h=>by simp[DW,nmsR] at h
 |n+1,ds,h=>by
  have z: ∀(a b:List AV),nmsL (a++b)=nmsL a++nmsL b:=by
   intro a b;induction a with
   |nil=>rfl
   |cons y a ih=>simp[nmsL,ih]
  simp only[DW,nmsR,AG] at h
  have:=z (ds.take k) (ds.drop k)
  rw[Gc] at this;rw[this,AG];rcases h with h|h
  .exact .inl h
  .exact .inr (VI k x n _ h)
section
variable {P:Program}{tm:List (Nat×AV)}{h:Nat->Option Ent}{nx:Nat}{o:Oper}{K:Kont}
def Ty(a b:List AV):nmsL (a++b)=nmsL a++nmsL b:=by
 induction a with
 |nil=>rfl
 |cons y a ih=>simp[nmsL,ih]
def nmsL_take(n:Nat)(a:List AV): ∀m∈nmsL (a.take n),m∈nmsL a:=by
 intro m z
 have:=Ty (a.take n) (a.drop n)
 rw[Gc] at this;rw[this,AG];exact .inl z
def nmsL_drop(n:Nat)(a:List AV): ∀m∈nmsL (a.drop n),m∈nmsL a:=by
 intro m z
 have:=Ty (a.take n) (a.drop n)
 rw[Gc] at this;rw[this,AG];exact .inr z
def Xo(x:AV): ∀m∈nmsL x.cells,m∈x.nms:=by
 cases x<;>simp only[AV.cells]<;>intro m z
 case im d=>rw[Uj] at z;cases z
 case agg cs=>simpa[AV.nms] using z
 all_goals simp[nmsL,AV.nms] at z⊢
 all_goals exact z
def X3(G: ∀x,∀m∈(evO tm x).nms,m≠nx)(O:Nat->Option (Nat×Nat)): ∀(ps:List (Nat×Operand)) (cs r:List AV),DM O (evP tm ps) (some cs)=some r->
 (∀m∈nmsL cs,m≠nx)-> ∀m∈nmsL r,m≠nx
 |[],cs,r,h,hc=>by simp only[evP,DM,An] at h;subst h;exact hc
 |(i,x)::ps,cs,r,h,hc=>by
  simp only[evP,DM] at h;cases hf:Jv cs (evO tm x).cells (O i) with
  |none=>rw[hf] at h;exact (S9 _ _ h).elim
  |some us=>
   rw[hf] at h;refine X3 G O ps us r h ?_;cases hp:O i with
   |none=>rw[hp] at hf;simp[Jv] at hf
   |some q=>
    rw[hp] at hf;simp only[Jv] at hf;generalize ((evO tm x).cells.length==q.2 && (Nat.blt 0 q.2 && Nat.ble (q.1+q.2) cs.length))=bb at hf;cases bb
    .simp at hf
    .simp only[Bc,An] at hf;subst hf;intro m z;simp only[AY,Ty,AG] at z;rcases z with (z|z)|z
     .exact hc m (nmsL_take _ _ m z)
     .exact G x m (Xo _ m z)
     .exact hc m (nmsL_drop _ _ m z)
def Ys{T:TypeId}{n:Nat}{ps:Array (Nat×Operand)}(ho:o.op= .buildSlice T n ps)(G:Az (PN P nx n (evP tm ps.toList) K) (tI P T))
 (ak: ∀x,∀m∈(evO tm x).nms,m≠nx):AS P tm h nx o K:=by
 cases hT:tI P T with
 |none=>rw[hT] at G;exact G.elim
 |some ti=>
 rw[hT] at G;simp only[Az,PN] at G;cases hf:ti.kind<;>rw[hf] at G<;>try exact G.elim
 rename_i e;have hu:=Gl hT hf;simp only[bsK] at G;cases hE:tI P e with
 |none=>rw[hE] at G;exact G.elim
 |some Z=>
 rw[hE] at G;simp only[Az,bsE] at G;obtain⟨hl,hz,au,G⟩:=G;have hn:n<=LIM:=by
  have:=Nat.le_mul_of_pos_right n (Nat.pos_of_ne_zero hz)
  simp only[LIM];omega
 obtain⟨z,ao,aq,an⟩:=K6 hE hl hz
 have am:z.cells.toList≠[]:=by intro hh;have:z.cells.size=0:=by rw[<-Cm,hh];rfl
                                omega
 rw[<-MQ] at G;cases hfl:DM (plArr Z.size) (evP tm ps.toList) (some ((repZ n Z.zero).map .im)) with
 |none=>rw[hfl] at G;exact G.elim
 |some cs=>
 rw[hfl] at G;simp only[bsEnd] at G;have hbel:=X3 ak _ ps.toList _ cs hfl (by rw[Uj];intro m hm;cases hm);have ac: ∀(C:Ctx) (S:Env) (a:Act),Wf C S->(∀x∈o.op.operands,conc S (evO tm x) (a.eval x))->
  ∃us:Array Value,(execOp a.eval o).run P S.w= .ok (.value (.slice (some ⟨S.w.heap.size,0,none⟩) n n)) (S.w.alloc (.cells us e))/\Ap S cs us.toList/\cs.length=n*Z.size:=by
  intro C S a hW O;have as:((Array.range (n*Z.size)).map λi=>z.cells[i % z.cells.size]!).toList=repZ n z.cells.toList:=by
   rw[<-QS _ am n,HA,Vr,Cm,aq];apply Gd;intro i _;exact UC _ _
  obtain⟨us,ah,hr,aj⟩:=Qb (S:=S) (a:=a) (place:=λi=>some (i*Z.size,Z.size)) (λi q hq=>hq) ps.toList _ cs
   ((Array.range (n*Z.size)).map λi=>z.cells[i % z.cells.size]!) hfl (by rw[as];exact (Eh _ _).2 (X0 (an _ _) n))
   (by intro p hp
       refine O p.2 ?_;rw[ho];simp only[Op.operands];simp;exact⟨p.1,by simpa using hp⟩)
  refine⟨us,?_,hr,by rw[aj];simp[XP,hl]⟩;simp only[execOp,ho,Instr.buildSlice,Sem.run_bind];rw[show (underlying T).run P S.w= .ok (.slice e) S.w from by simp[underlying,hu]];simp only[Result.andThen_ok,Sem.run_bind,Ez hE];rw[Ab (by omega)];by_cases af:n*Z.size=0
  .simp only[af,AQ,pure_bind];simp only[af] at ah
   have:((Array.range 0).map λi=>(#[]:Array Value)[i % (#[]:Array Value).size]!)=(Array.range 0).map λi=>z.cells[i % z.cells.size]! :=by simp
   rw[this];have ab:(ps.map λ(i,x)=>(i,a.eval x)).toList=ps.toList.map λp=>(p.1,a.eval p.2):=by simp
   rw[ab,ah];simp[newRow]
  .simp only[af,Bp,Sem.run_bind,ao,Result.andThen_ok,Sem.run_pure];have ab:(ps.map λ(i,x)=>(i,a.eval x)).toList=ps.toList.map λp=>(p.1,a.eval p.2):=by simp
   rw[ab,ah];simp[newRow]
 cases hai:BQ cs with
 |none=>
  rw[hai] at G;simp only[bsObj] at G;refine⟨_,_,OpT.one (u:=[]) (ks:=[]) (.inl ⟨rfl,rfl⟩) ?_,G⟩;intro C S a hW _ ad hnm O;obtain⟨us,hr,Q,hcl⟩:=ac C S a hW O;refine⟨_,_,some ⟨S.w.heap.size,0,n⟩,.inl hr,Hu (w':=S.w.alloc (.cells us e)) (ob:= .cells us e) rfl rfl rfl rfl (ad rfl) (λn f hf=>hnm n f hf rfl),?_⟩;intro hp;have ag:=Ep _ _ Q;constructor
  .simp only[objc];refine⟨by rw[K3];exact hn,by rw[K3];exact Ar _,us,Ju rfl,by simp at ag;omega,?_⟩;rw[D9];exact Ot hp _ _ _ (λm hm=> .inr (hbel m (VI _ _ _ _ hm))) (VD _ _ _ _ (Iy _ _ Q) hcl)
  .simp only[conc];refine⟨rfl,λe' aa=> ?_⟩;have hh:(S.one nx (.arrA e Z.size (DW Z.size n cs)) (some ⟨S.w.heap.size,0,n⟩) [] (S.w.alloc (.cells us e))).ρ nx=some ⟨S.w.heap.size,0,n⟩:=by simp[Env.one]
   rw[hh];simp only[Env.one,AQ,An] at aa;subst aa;simp[AObj.len,K3]
 |some ds=>
  rw[hai] at G;simp only[bsObj] at G;refine⟨_,_,OpT.one (u:=[]) (ks:=[]) (.inl ⟨rfl,rfl⟩) ?_,G⟩;intro C S a hW _ ad hnm O;obtain⟨us,hr,Q,hcl⟩:=ac C S a hW O;refine⟨_,_,some ⟨S.w.heap.size,0,n⟩,.inl hr,Hu (w':=S.w.alloc (.cells us e)) (ob:= .cells us e) rfl rfl rfl rfl (ad rfl) (λn f hf=>hnm n f hf rfl),?_⟩;intro hp;have ag:=Ep _ _ Q;rw[LV hai] at Q hcl;have ai:=Ff hp.ok _ _ ((Eh _ _).1 Q);constructor
  .simp only[objc];refine⟨by rw[K3];exact hn,by rw[K3];exact Ar _,us,Ju rfl,by simp[LV hai] at ag hcl;simp;omega,?_⟩;rw[D9];exact VZ _ _ _ _ (I9 _ _ ai) (by simpa using hcl)
  .simp only[conc];refine⟨rfl,λe' aa=> ?_⟩;have hh:(S.one nx (.arr e Z.size (DW Z.size n ds)) (some ⟨S.w.heap.size,0,n⟩) [] (S.w.alloc (.cells us e))).ρ nx=some ⟨S.w.heap.size,0,n⟩:=by simp[Env.one]
   rw[hh];simp only[Env.one,AQ,An] at aa;subst aa;simp[AObj.len,K3]
end
def Xs(n:Nat): ∀(r c:Nat),c<=2*(n+512)->Builtin.growBy n r c<=2*(n+512)
 |0,c,h=>by simpa[Builtin.growBy] using h
 |r+1,c,h=>by
  simp only[Builtin.growBy];split
  .exact h
  .exact Xs n r _ (by omega)
def Sb(n old:Nat)(h:old<n):Builtin.nextslicecap n old<=2*(n+512):=by
 unfold Builtin.nextslicecap;split
 .omega
 .split
  .omega
  .exact Xs n 4 old (by omega)
def Wo{S:Env}{k:Nat}: ∀(rows0 rows:List (List AV)) (A L R:List Value),AN S k rows0 A->rows0.length*k<=A.length->AN S k rows L->
 rows.length*k<=L.length->AN S k (rows0++rows) (A.take (rows0.length*k)++(L++R))
 |[],rows,A,L,R,z,G,h,O=>by
  simp only[D0,L6,Hm,D1];clear z G A;induction rows generalizing L with
  |nil=>simp only[AN]
  |cons r rows ih=>
   simp only[AN,Bs,C9,Ew] at h O⊢;refine⟨h.1,LX _ _ _ h.2.1,?_⟩
   have:=ih (L.drop k) h.2.2 (by rw[Bn];omega)
   rwa [UZ (by omega)]
 |r::rows0,rows,A,L,R,h0,hA,h,O=>by
  simp only[AN,Bs,C9,Ew,Bv] at h0 hA⊢;have ih:=Wo rows0 rows (A.drop k) L R h0.2.2 (by rw[Bn];omega) h O;have e:A.take (rows0.length*k+k)=A.take k++(A.drop k).take (rows0.length*k):=by rw[<-L4];congr 1;omega
  have hk:(A.take k).length=k:=by rw[Bb];omega
  rw[e,DA];refine⟨h0.1,?_,?_⟩
  .obtain⟨_,Z⟩:=Ix k r A h0.2.1 (by omega);have Q:=Iy _ _ Z;rw[BX (by omega)] at Q;exact LX _ _ _ Q
  .rw[HB,B9 (by omega),hk,D3];simpa using ih
def LW{S:Env}{k:Nat}: ∀(rows:List (List D)) (L:List Value),rdr S.ok S.hp k rows L->AN S k (imR rows) L
 |[],_,_=>by simp only[imR,D2,AN]
 |r::rows,L,h=>by
  simp only[rdr] at h;simp only[imR,Ay,AN];exact⟨by simpa using h.1,(PL _ _).2 h.2.1,LW rows _ h.2.2⟩
section
variable {P:Program}{w:World}
def LI{b p:Nat}{vs:Array Value}{U:TypeId}{Q:Nat×Nat}(hb:w.heap[b]? =some (.cells vs U Q)){n:Nat}(hn:p+n<=vs.size):
 (loadCells ⟨b,p,none⟩ n).run P w= .ok ((vs.toList.drop p).take n).toArray w:=by
 have O: ∀j v,((vs.toList.drop p).take n)[j]? =some v->w.cell? ((⟨b,p,none⟩:Addr).add j)=some v:=by
  intro j v z;rw[Gk,UJ hb];rw[J4] at z;split at z
  .rw[Eg] at z;simpa using z
  .cases z
 have Z:((vs.toList.drop p).take n).length=n:=by rw[Bb,Bn];simp;omega
 have G:=run_loadCells_list (P:=P) w ⟨b,p,none⟩ _ O;rwa [Z] at G
def VM{Z uT e ty:TypeId}{te:TI}(hs:P.underlying Z=some (.slice e))(hE:tI P e=some te){u2:TypeId}(Q:P.underlying uT=some (.slice u2))
 {base:Option Addr}{sLen sCap n:Nat}{x:Value}{L:List Value}(O:(Builtin.lenOf x).run P w= .ok n w)(z:(Builtin.firstCells te.size n x).run P w= .ok L.toArray w)
 (G:sLen+n<=sCap):(Builtin.append_ #[Z,uT] ty #[.slice base sLen sCap,x]).run P w=
  ((match base with|some a=>storeCells (a.add (sLen*te.size)) L|none=>pure ())>>=λ_=>(pure (.slice base (sLen+n) sCap):Sem Value)).run P w:=by
 have h1:(underlying Z).run P w= .ok (.slice e) w:=by simp[underlying,hs]
 have h2:(underlying uT).run P w= .ok (.slice u2) w:=by simp[underlying,Q]
 unfold Builtin.append_;simp only[R3,De,DP,Sem.run_bind,h1,Result.andThen_ok,Ez hE,h2];simp only[Sem.run_pure,Result.andThen_ok,B1,Bp,O,Sem.run_ite,Af G,Sem.run_bind,z,IS,AQ];cases base<;>simp
def VL{sT uT e ty:TypeId}{G:TI}(hs:P.underlying sT=some (.slice e))(hE:tI P e=some G){u2:TypeId}(ah:P.underlying uT=some (.slice u2))(ac:G.bytes≠0)
 (hz:G.zero.length=G.size)(af:G.size≠0)
 {base:Option Addr}{sLen sCap n:Nat}{x:Value}{L old:List Value}(aa:(Builtin.lenOf x).run P w= .ok n w)(O: ∀k,(Builtin.firstCells G.size n x).run P {w with drawn:=k}= .ok L.toArray {w with drawn:=k})
 (ab: ∀k,(Builtin.firstCells G.size sLen (.slice base sLen sCap)).run P {w with drawn:=k}= .ok old.toArray {w with drawn:=k})
 (Q: ¬sLen+n<=sCap)(ak:(sLen+n+512)*G.bytes<=140737488355328): ∃cap R,sLen+n<=cap/\R.length=(cap - (sLen+n))*G.size/\
  (Builtin.append_ #[sT,uT] ty #[.slice base sLen sCap,x]).run P w= .ok (.slice (some ⟨w.heap.size,0,none⟩) (sLen+n) cap) (World.alloc {w with drawn:=w.drawn+1} (.cells (old++L++R).toArray e)):=by
 have h1: ∀w:World,(underlying sT).run P w= .ok (.slice e) w:=by intro w;simp[underlying,hs]
 have h2: ∀w:World,(underlying uT).run P w= .ok (.slice u2) w:=by intro w;simp[underlying,ah]
 obtain⟨z,ai,aj,an⟩:=K6 hE hz af;obtain⟨i,u,hi,hu,am,Z,_⟩:=Gn hE;have ag: ∀w:World,(typeInfo e).run P w= .ok i w:=by intro w;simp[typeInfo,hi]
 refine⟨(Question.appendCap (sLen+n) sCap e).cut (w.tape w.drawn (.appendCap (sLen+n) sCap e)),(Builtin.zeroCells z.cells ((Question.appendCap (sLen+n) sCap e).cut (w.tape w.drawn (.appendCap (sLen+n) sCap e)) - (sLen+n))).toList,?_,?_,?_⟩
 .simp only[Question.cut];omega
 .simp[Builtin.zeroCells,aj]
 have ad: ¬(Builtin.nextslicecap (sLen+n) sCap*i.bytes>2^48):=by
  rw[<-Z];have h3:=Sb (sLen+n) sCap (by omega);have h4:=DR G.bytes h3;have h5:2*(sLen+n+512)*G.bytes=2*((sLen+n+512)*G.bytes):=Nat.mul_assoc _ _ _;omega
 unfold Builtin.append_;simp only[R3,De,DP,Sem.run_bind,h1,Result.andThen_ok,Ez hE,h2];simp only[Sem.run_pure,Result.andThen_ok,B1,Bp,aa,Sem.run_ite,Ab Q,Sem.run_bind,ag,IS,AQ,false_or];rw[Ab (by rw[<-Z];exact λhh=>ac hh.2),Ab ad];simp only[run_choose,Question.forced,B1,Bp,Result.andThen_ok,run_askRoom,ab,O,ai];simp only[newRow,Sem.run_bind,run_newObj,Result.andThen_ok,Sem.run_pure];rw[show (old++L++(Builtin.zeroCells z.cells ((Question.appendCap (sLen+n) sCap e).cut (w.tape w.drawn (.appendCap (sLen+n) sCap e)) - (sLen+n))).toList).toArray=
  old.toArray++L.toArray++Builtin.zeroCells z.cells ((Question.appendCap (sLen+n) sCap e).cut (w.tape w.drawn (.appendCap (sLen+n) sCap e)) - (sLen+n)) from by apply Gh;simp]
 rfl
end
def Uu{ok:Nat->Prop}{hp:Nat->Option Obj}{z:List D}{x:List Value}(h:rdl ok hp z x): ∀(n m:Nat),n<=m->rdr ok hp z.length (List.replicate n z) (repZ m x)
 |0,_,_=>by simp only[List.replicate_zero,rdr]
 |n+1,0,O=>by omega
 |n+1,m+1,O=>by
  have G:=KU _ _ h;simp only[Vo,repZ,rdr];refine⟨trivial,OX _ _ _ (I9 _ _ h),?_⟩;rw[HB,B9 (by omega),G,D3];simpa using Uu h n m (by omega)
section
variable {P:Program}{tm:List (Nat×AV)}{h:Nat->Option Ent}{nx:Nat}{o:Oper}{K:Kont}
def Yw{T:TypeId}{x y:Operand}(ho:o.op= .makeSlice T x y)(G:Az (PW P nx (evO tm x) (evO tm y) K) (tI P T)):AS P tm h nx o K:=by
 cases hT:tI P T with
 |none=>rw[hT] at G;exact G.elim
 |some ti=>
 rw[hT] at G;simp only[Az,PW] at G;cases hf:ti.kind<;>rw[hf] at G<;>try exact G.elim
 rename_i e;have hu:=Gl hT hf;have aq: ∃n m,evO tm x= .im (.int .i64 n)/\evO tm y= .im (.int .i64 m)/\Az (msE nx e n m K) (tI P e):=by
  revert G;generalize evO tm x=X;generalize evO tm y=Y;intro G;cases X<;>try exact G.elim
  rename_i d;cases d<;>try exact G.elim
  rename_i k n;cases k<;>try exact G.elim
  cases Y<;>try exact G.elim
  rename_i d;cases d<;>try exact G.elim
  rename_i k m;cases k<;>try exact G.elim
  exact⟨_,_,rfl,rfl,G⟩
 obtain⟨n,m,hx,hy,G⟩:=aq;cases hE:tI P e with
 |none=>rw[hE] at G;exact G.elim
 |some te=>
 rw[hE] at G;simp only[Az,msE] at G;obtain⟨hz,aw,hnm,hm,au,hl,G⟩:=G;obtain⟨z,am,an,ak⟩:=K6 hE hl hz;obtain⟨i,u,hi,ax,av,af,_⟩:=Gn hE;have aj:z.cells.toList≠[]:=by
  intro hh
  have:z.cells.size=0:=by rw[<-Cm,hh];rfl
  omega
 have ao:((Array.range (m.toNat*te.size)).map λi=>z.cells[i % z.cells.size]!).toList=repZ m.toNat z.cells.toList:=by
  rw[<-QS _ aj m.toNat,HA,Vr,Cm,an];apply Gd;intro i _;exact UC _ _
 refine⟨_,_,OpT.one (u:=[]) (ks:=[]) (.inl ⟨rfl,rfl⟩) ?_,G⟩;intro C S a hW _ ad aa O;have h1:=O x (by rw[ho];simp[Op.operands]);have h2:=O y (by rw[ho];simp[Op.operands]);rw[hx] at h1;rw[hy] at h2;simp only[conc,rd] at h1 h2;have ac:(execOp a.eval o).run P S.w= .ok (.value (.slice (some ⟨S.w.heap.size,0,none⟩) n.toNat m.toNat))
  (S.w.alloc (.cells ((Array.range (m.toNat*te.size)).map λi=>z.cells[i % z.cells.size]!) e)):=by
  have as:(i.bytes:Int)*m<=2^48:=by
   rw[<-af];have h3:(te.bytes:Int)*m<=65536*m:=Yd (by omega) (by omega);omega
  have ai:IntKind.i64.wrap n=n:=IntWalk.i64_in n (by omega);have ah:IntKind.i64.wrap m=m:=IntWalk.i64_in m (by omega);simp only[execOp,ho,h1,h2,Instr.makeSlice,Sem.run_bind];rw[show (underlying T).run P S.w= .ok (.slice e) S.w from by simp[underlying,hu]];have ag:(typeInfo e).run P S.w= .ok i S.w:=by simp[typeInfo,hi]
  simp only[Result.andThen_ok,asInt,asIntOf,Sem.run_bind,Sem.run_pure,ag,ai,ah];have ab:((decide (m<0)||decide ((i.bytes:Int)*m>2^48))||decide (n<0)||decide (n>m))=false:=by
   simp only[Bool.or_eq_false_iff,EZ];omega
  rw[ab];simp only[B1,Bp,Sem.run_bind,run_askRoom,Result.andThen_ok,Ez hE,Sem.run_ite,am,newRow,run_newObj,Sem.run_pure];by_cases Z:m.toNat*te.size=0
  .have:((Array.range 0).map λi=>(#[]:Array Value)[i % (#[]:Array Value).size]!)=(Array.range 0).map λi=>z.cells[i % z.cells.size]! :=by simp
   simp only[Z,AQ,Result.andThen_ok,this];simp
  .simp only[Z,Bp,Result.andThen_ok];simp
 refine⟨_,_,some ⟨S.w.heap.size,0,m.toNat⟩,.inl ac,Hu (w':=S.w.alloc (.cells _ e)) (ob:= .cells _ e) rfl rfl rfl rfl (ad rfl) (λn f hf=>aa n f hf rfl),?_⟩;intro hp;constructor
 .simp only[objc];refine⟨by simp[LIM];omega,by simp;omega,_,Ju rfl,by simp,?_⟩;rw[D9,ao,<-hl];exact Uu (ak _ _) _ _ (by omega)
 .simp only[conc];refine⟨rfl,λe' Q=> ?_⟩;simp only[Env.one,AQ,An] at Q⊢;subst Q;simp[AObj.len]
end
def slV(l:Option Loc)(n:Nat):Value:=match l with|none=> .slice none 0 0|some l=> .slice (some ⟨l.b,l.p,none⟩) n l.cap
def oldAt(S:Env)(e z sLen:Nat)(A:List Value):Option Loc->Prop
 |none=>sLen=0/\A=[]
 |some l=>sLen<=l.cap/\ ∃G,S.hp l.b=some (.cells G e (0,0))/\A=G.toList.drop l.p/\l.p+l.cap*z<=G.size
section
variable {P:Program}
def append_go{C:Ctx}{S:Env}(hW:Wf C S){nx:Nat}{ks:List Nat}{sT uT e ty u2:TypeId}{z:TI}(hs:P.underlying sT=some (.slice e))(hE:tI P e=some z)
 (ac:P.underlying uT=some (.slice u2))(am:z.bytes≠0)(hz:z.zero.length=z.size)(as:z.size≠0){sLen n:Nat}(aj:(sLen+n+512)*z.bytes<=140737488355328)
 {l0:Option Loc}{A:List Value}(hA:oldAt S e z.size sLen A l0)
 {x:Value}{L:List Value}(Q:(Builtin.lenOf x).run P S.w= .ok n S.w)(G: ∀k,(Builtin.firstCells z.size n x).run P {S.w with drawn:=k}= .ok L.toArray {S.w with drawn:=k})
 (hL:L.length=n*z.size)(aq: ∀v∈L,v.oneCell'=true)(ag: ∀l,l0=some l-> ∃o f,o∈ks/\S.h o=some (true,f)/\S.ρ o=some l)
 (aa:S.h nx=none)(Z: ∀n f,S.h n=some f->nx∉f.2.nms):
 ∃w' l',(Builtin.append_ #[sT,uT] ty #[slV l0 sLen,x]).run P S.w= .ok (slV l' (sLen+n)) w'/\(∀ea,E5 S nx ea l' ks w')/\
  match l' with|none=>sLen=0/\n=0|some l=>sLen+n<=l.cap/\ ∃vs R,w'.heap[l.b]? =some (.cells vs e (0,0))/\l.p+l.cap*z.size<=vs.size/\
   vs.toList.drop l.p=A.take (sLen*z.size)++(L++R):=by
 have ab:{S.w with drawn:=S.w.drawn}=S.w:=rfl;cases l0 with
 |none=>
  obtain⟨h0,hA⟩:=hA;subst h0 hA;by_cases hn:n=0
  .subst hn;have au:L=[]:=Gy.1 (by simpa using hL);subst au;refine⟨S.w,none,?_,λea=>SF aa Z,rfl,rfl⟩
   have:=VM (P:=P) (w:=S.w) (ty:=ty) hs hE ac (base:=none) (sLen:=0) (sCap:=0) Q (by have:=G S.w.drawn;rwa [ab] at this) (by omega)
   simpa[slV] using this
  .obtain⟨cap,R,h1,h2,h3⟩:=VL (P:=P) (w:=S.w) (ty:=ty) hs hE ac am hz as (base:=none) (sLen:=0) (sCap:=0) (old:=[]) Q G (by intro k;simp[Builtin.firstCells]) (by omega) aj;refine⟨_,some ⟨S.w.heap.size,0,cap⟩,h3,λea=>Hu (w':=World.alloc {S.w with drawn:=S.w.drawn+1} (.cells ([]++L++R).toArray e)) (ob:= .cells ([]++L++R).toArray e) rfl rfl rfl rfl aa Z,h1,([]++L++R).toArray,R,by simp[World.alloc],?_,by simp⟩;have h4:n*z.size+(cap - (0+n))*z.size=cap*z.size:=by rw[<-C9];congr 1;omega
   rw[CM] at h2 h4;simp[hL,h2];omega
 |some l=>
  obtain⟨ad,vs,hb,af,ay⟩:=hA;have az:A.length=vs.size - l.p:=by rw[af];simp
  by_cases O:sLen+n<=l.cap
  .have ax:sLen*z.size+n*z.size<=l.cap*z.size:=by rw[<-C9];exact DR _ O
   obtain⟨w',h1,h2,h3,h4,h5⟩:=Sr (P:=P) (w:=S.w) (b:=l.b) (p:=l.p+sLen*z.size) (T:=e) L 0 vs aq (by rw[hL];omega) hb;obtain⟨o,f,an,ah,ai⟩:=ag l rfl;have ak:=(hW.loc o _ l ah ai).1;refine⟨w',some l,?_,?_,O,(AY vs.toList (l.p+sLen*z.size+0) L).toArray,A.drop (sLen*z.size+L.length),?_,?_,?_⟩
   .have:=VM (P:=P) (w:=S.w) (ty:=ty) hs hE ac (base:=some ⟨l.b,l.p,none⟩) (sLen:=sLen) (sCap:=l.cap) Q (by have:=G S.w.drawn;rwa [ab] at this) O
    simp only[Gk,Sem.run_bind,h1,Result.andThen_ok,Sem.run_pure] at this;simpa[slV] using this
   .intro ea;refine⟨h3,h4,h5,by rw[h2];simp,?_,.inr aa,?_,?_,λn f hf _=>Z n f hf⟩
    .intro b a0 aw
     have:=aw o f l an ah ai
     rw[h2,Lx,Ab this]
    .intro lo av;obtain rfl:=Al av;exact⟨by rw[h2];simpa using ak,.inr ⟨o,f,l,an,ah,ai,rfl⟩⟩
    .intro f hf;rw[aa] at hf;cases hf
   .rw[h2];simp[ak]
   .simp[AY,Bb,Bn];omega
   .rw[G1,Vp,PS _ _ _ _ (by simp;omega),<-af];simp[AY]
  .have ao: ∀k,(Builtin.firstCells z.size sLen (.slice (some ⟨l.b,l.p,none⟩) sLen l.cap)).run P {S.w with drawn:=k}= .ok (A.take (sLen*z.size)).toArray {S.w with drawn:=k}:=by
    intro k;have ax:sLen*z.size<=l.cap*z.size:=DR _ ad;rw[af];exact LI (w:={S.w with drawn:=k}) hb (by omega)
   obtain⟨cap,R,h1,h2,h3⟩:=VL (P:=P) (w:=S.w) (ty:=ty) hs hE ac am hz as (base:=some ⟨l.b,l.p,none⟩) (sLen:=sLen) (sCap:=l.cap) Q G ao O aj;refine⟨_,some ⟨S.w.heap.size,0,cap⟩,h3,λea=>Hu (w':=World.alloc {S.w with drawn:=S.w.drawn+1} (.cells (A.take (sLen*z.size)++L++R).toArray e)) (ob:= .cells (A.take (sLen*z.size)++L++R).toArray e) rfl rfl rfl rfl aa Z,h1,(A.take (sLen*z.size)++L++R).toArray,R,by simp[World.alloc],?_,by simp⟩;have h4:sLen*z.size+n*z.size+(cap - (sLen+n))*z.size=cap*z.size:=by rw[<-C9,<-C9];congr 1;omega
   have h5:sLen*z.size<=l.cap*z.size:=DR _ ad;simp[hL,h2,Bb];omega
def OM{S:Env}{k:Nat}: ∀(rows:List (List AV)) (L:List Value),OneR GX rows->AN S k rows L->rows.length*k<=L.length-> ∀v∈L.take (rows.length*k),v.oneCell'=true
 |[],L,_,_,_=>by simp
 |r::rows,L,O,h,Q=>by
  simp only[AN] at h;simp only[Bs,C9,Ew] at Q⊢;have e:L.take (rows.length*k+k)=L.take k++(L.drop k).take (rows.length*k):=by rw[<-L4];congr 1;omega
  rw[e];intro v z;rcases AG.1 z with z|z
  .obtain⟨_,G⟩:=Ix k r L h.2.1 (by omega);rw[BX (RA h.1)] at G;exact LG r _ (O r (by simp)) G v z
  .exact OM rows _ (λx Z=>O x (by simp[Z])) h.2.2 (by rw[Bn];omega) v z
def TE: ∀(r:List D),allD r=true->GX (r.map .im)=true
 |[],_=>rfl
 |x::r,h=>by
  simp only[allD,Av] at h;simp only[Ay,GX,AV.one,Av];exact⟨h.1,TE r h.2⟩
def UL{rows:List (List D)}(h:OneR allD rows):OneR GX (imR rows):=by
 intro r z;simp only[imR,AF] at z;obtain⟨x,G,rfl⟩:=z;exact TE x (h x G)
def Tz{ok:Nat->Prop}{hp:Nat->Option Obj}{k:Nat}: ∀(rows:List (List D)) (L:List Value),rdr ok hp k rows L->rows.length*k<=L.length->rdr ok hp k rows (L.take (rows.length*k))
 |[],_,_,_=>by simp only[rdr]
 |r::rows,L,h,O=>by
  simp only[rdr,Bs,C9,Ew] at h O⊢;refine⟨h.1,?_,?_⟩
  .obtain⟨_,G⟩:=Hs k r L h.2.1 (by omega);have z:=I9 _ _ G;rw[BX (by omega)] at z;have e:L.take (rows.length*k+k)=L.take k++(L.drop k).take (rows.length*k):=by rw[<-L4];congr 1;omega
   rw[e];exact OX _ _ _ z
  .rw[Vt]
   have:=Tz rows _ h.2.2 (by rw[Bn];omega)
   rwa [show rows.length*k+k - k=rows.length*k from by omega]
def Qa{S:Env}{k:Nat}: ∀(rows:List (List AV)) (L:List Value),AN S k rows L->rows.length*k<=L.length->AN S k rows (L.take (rows.length*k))
 |[],_,_,_=>by simp only[AN]
 |r::rows,L,h,O=>by
  simp only[AN,Bs,C9,Ew] at h O⊢;refine⟨h.1,?_,?_⟩
  .obtain⟨_,G⟩:=Ix k r L h.2.1 (by omega);have z:=Iy _ _ G;rw[BX (by omega)] at z;have e:L.take (rows.length*k+k)=L.take k++(L.drop k).take (rows.length*k):=by rw[<-L4];congr 1;omega
   rw[e];exact LX _ _ _ z
  .rw[Vt]
   have:=Qa rows _ h.2.2 (by rw[Bn];omega)
   rwa [show rows.length*k+k - k=rows.length*k from by omega]
def U8{ok:Nat->Prop}{hp:Nat->Option Obj}{k:Nat}: ∀(rows:List (List D)) (L:List Value),rdr ok hp k rows L->k≠0->rows.length*k<=L.length
 |[],_,_,_=>by simp
 |r::rows,L,h,z=>by
  simp only[rdr,Bs,C9,Ew] at h⊢;obtain⟨G,_⟩:=Hs k r L h.2.1 (by omega)
  have:=U8 rows _ h.2.2 z
  rw[Bn] at this;omega
def Src.rows:Src->List (List AV)
 | .d _ _ rows=>imR rows
 | .a _ _ rows=>rows
 | .no=>[]
def Src.w:Src->Nat
 | .d _ k _| .a _ k _=>k
 | .no=>0
def Src.us:Src->List Nat
 | .d u _ _| .a u _ _=>u
 | .no=>[]
def src_spec{C:Ctx}{S:Env}(hW:Wf C S){h:Nat->Option Ent}{X:AV}{v:Value}(hc:conc S X v)(hu: ∀n∈(BP h X).us,S.h n=h n)(O:(BP h X).okOne)
 {z:Nat}(hz:z≠0)(Z:(BP h X).w=z\/(BP h X).rows=[]):
 ∃L,(Builtin.lenOf v).run P S.w= .ok (BP h X).rows.length S.w/\(∀k,(Builtin.firstCells z (BP h X).rows.length v).run P {S.w with drawn:=k}= .ok L.toArray {S.w with drawn:=k})/\
  L.length=(BP h X).rows.length*z/\AN S z (BP h X).rows L/\(∀v∈L,v.oneCell'=true)/\(BP h X).rows.length<=LIM:=by
 cases X<;>try exact O.elim
 case im d=>
  cases d<;>try exact O.elim
  rename_i nz k rows;simp only[BP,Src.rows,Src.w,Src.okOne] at O Z⊢;simp only[conc,rd] at hc;rcases hc with ⟨rfl|⟨_,a,rfl⟩,rfl⟩|⟨b,p,cap,vs,T,fr,rfl,_,h2,h3,_,h5,h6⟩
  .exact⟨[],by simp[Builtin.lenOf,imR],by simp[Builtin.firstCells],by simp[imR],by simp[imR,AN],by simp,by simp[imR]⟩
  .refine⟨[],by simp[Builtin.lenOf,imR],?_,by simp[imR],by simp[imR,AN],by simp,by simp[imR]⟩;intro j;simp[Builtin.firstCells,imR,loadCells,loadCellsFrom]
  .by_cases hr:rows=[]
   .subst hr;refine⟨[],by simp[Builtin.lenOf,imR],?_,by simp[imR],by simp[imR,AN],by simp,by simp[imR]⟩;intro j;simp[Builtin.firstCells,imR,loadCells,loadCellsFrom]
   .have af:k=z:=by
     rcases Z with Z|Z
     .exact Z
     .simp[imR] at Z;exact absurd Z hr
    subst af;have hl:=U8 rows _ h6 hz;have aa:vs.toList.length=vs.size:=Cm;have ad:=LW _ _ h6;have G:(imR rows).length=rows.length:=by simp[imR]
    refine⟨(vs.toList.drop p).take (rows.length*k),by simp[Builtin.lenOf,imR],?_,?_,?_,?_,by rw[G];exact h3⟩
    .intro j;rw[G];refine LI (w:={S.w with drawn:=j}) h5 ?_;by_cases ak:p<=vs.size
     .rw[Bn,aa] at hl;omega
     .have:0<rows.length*k:=Nat.mul_pos (Lw.2 hr) (by omega)
      rw[Bn,aa] at hl;omega
    .rw[Bb,G];omega
    .have:=Qa _ _ ad (by rw[G];exact hl)
     rwa [G] at this
    .have:=OM _ _ (UL O) ad (by rw[G];exact hl)
     rwa [G] at this
 case own n=>
  simp only[BP] at O Z hu⊢;simp only[conc] at hc;cases hn:h n with
  |none=>rw[hn] at O;exact O.elim
  |some e=>
  rw[hn] at O Z hu;obtain⟨mu,e⟩:=e;cases e<;>try exact O.elim
  case arr T k rows=>
   simp only[Js,Src.rows,Src.w,Src.okOne,Src.us] at O Z hu⊢;have hS:S.h n=_:=(hu n (by simp)).trans hn;have Q:=hW.obj _ _ hS;have hc:=hc.2 _ hS;have G:(imR rows).length=rows.length:=by simp[imR]
   cases hl0:S.ρ n with
   |none=>
    rw[hl0] at hc Q;simp only[objc] at Q;obtain⟨_,rfl⟩:=Q;simp only at hc;subst hc;exact⟨[],by simp[Builtin.lenOf,imR],by simp[Builtin.firstCells],by simp[imR],by simp[imR,AN],by simp,by simp[imR]⟩
   |some l=>
    rw[hl0] at hc Q;simp only[objc,AObj.len] at Q hc;subst hc;obtain⟨ab,ac,vs,hb,aj,hr⟩:=Q;by_cases ah:rows=[]
    .subst ah;refine⟨[],by simp[Builtin.lenOf,imR],?_,by simp[imR],by simp[imR,AN],by simp,by simp[imR]⟩;intro j;simp[Builtin.firstCells,imR,loadCells,loadCellsFrom]
    .have af:k=z:=by
      rcases Z with Z|Z
      .exact Z
      .simp[imR] at Z;exact absurd Z ah
     subst af;have ad:=LW _ _ hr;have ai:rows.length*k<=l.cap*k:=DR _ ac;have aa:vs.toList.length=vs.size:=Cm;have ag:rows.length*k<=(vs.toList.drop l.p).length:=by rw[Bn,aa];omega
     refine⟨(vs.toList.drop l.p).take (rows.length*k),by simp[Builtin.lenOf,imR],?_,?_,?_,?_,by rw[G];exact ab⟩
     .intro j;rw[G];exact LI (w:={S.w with drawn:=j}) hb (by omega)
     .rw[Bb,G];omega
     .have:=Qa _ _ ad (by rw[G];exact ag)
      rwa [G] at this
     .have:=OM _ _ (UL O) ad (by rw[G];exact ag)
      rwa [G] at this
  case arrA T k rows=>
   simp only[Js,Src.rows,Src.w,Src.okOne,Src.us] at O Z hu⊢;have hS:S.h n=_:=(hu n (by simp)).trans hn;have Q:=hW.obj _ _ hS;have hc:=hc.2 _ hS;cases hl0:S.ρ n with
   |none=>
    rw[hl0] at hc Q;simp only[objc] at Q;obtain⟨_,rfl⟩:=Q;simp only at hc;subst hc;exact⟨[],by simp[Builtin.lenOf],by simp[Builtin.firstCells],by simp,by simp[AN],by simp,by simp⟩
   |some l=>
    rw[hl0] at hc Q;simp only[objc,AObj.len] at Q hc;subst hc;obtain⟨ab,ac,vs,hb,aj,hr⟩:=Q;by_cases ah:rows=[]
    .subst ah;refine⟨[],by simp[Builtin.lenOf],?_,by simp,by simp[AN],by simp,by simp⟩;intro j;simp[Builtin.firstCells,loadCells,loadCellsFrom]
    .have af:k=z:=by
      rcases Z with Z|Z
      .exact Z
      .exact absurd Z ah
     subst af;have ai:rows.length*k<=l.cap*k:=DR _ ac;have aa:vs.toList.length=vs.size:=Cm;have ag:rows.length*k<=(vs.toList.drop l.p).length:=by rw[Bn,aa];omega
     refine⟨(vs.toList.drop l.p).take (rows.length*k),by simp[Builtin.lenOf],?_,?_,?_,?_,ab⟩
     .intro j;exact LI (w:={S.w with drawn:=j}) hb (by omega)
     .rw[Bb];omega
     .exact Qa _ _ hr ag
     .exact OM _ _ O hr ag
end
def V4{S:Env}{k:Nat}: ∀(rows:List (List D)) (L:List Value),AN S k (imR rows) L->rdr S.ok S.hp k rows L
 |[],_,_=>by simp only[rdr]
 |r::rows,L,h=>by
  simp only[imR,Ay,AN] at h;simp only[rdr];exact⟨by simpa using h.1,(PL _ _).1 h.2.1,V4 rows _ h.2.2⟩
def objc_im{S S':Env}{T k:Nat}{rows:List (List D)}{l:Option Loc}(G:S'.ok=S.ok)(z:S'.hp=S.hp)(h:objc S l (.arrA T k (imR rows))):objc S' l (.arr T k rows):=by
 simp only[objc] at h⊢;refine⟨by simpa[imR] using h.1,?_⟩;cases l with
 |none=>simpa[imR] using h.2
 |some lc=>
  obtain⟨_,O,vs,Q,Z,h4⟩:=h;refine⟨by simpa[imR] using O,vs,by rw[z];exact Q,Z,?_⟩;rw[G,z];exact V4 _ _ h4
section
variable {P:Program}{tm:List (Nat×AV)}{h:Nat->Option Ent}{nx:Nat}{o:Oper}{K:Kont}
def append_op{T U u2 e:TypeId}{G:TI}{s x:Operand}(hT:P.underlying T=some (.slice e))(hU:P.underlying U=some (.slice u2))(hE:tI P e=some G)
 {c:Call}(ho:o.op= .call c)(ad:c.callee= .builtin .append)(aa:c.args= #[s,x])(bn:c.argTypes= #[T,U])
 (an:G.bytes≠0)(hz:G.zero.length=G.size)(Z:G.size≠0){u ks:List Nat}{rows0:List (List AV)}
 (ay:(BP h (evO tm x)).okOne)(hw:(BP h (evO tm x)).w=G.size\/(BP h (evO tm x)).rows=[])(a8: ∀n∈(BP h (evO tm x)).us,n∈u++ks)
 (bc:(rows0.length+(BP h (evO tm x)).rows.length+512)*G.bytes<=140737488355328)
 (hnm: ∀m∈nmsR (rows0++(BP h (evO tm x)).rows),∃n f,n∈u++ks/\h n=some f/\m∈f.2.nms)
 (ax:((∃k0,evO tm s= .im (.sl true k0 []))/\rows0=[])\/(∃n f,evO tm s= .own n/\n∈ks/\h n=some (true,f)/\((∃rows,f= .arr e G.size rows/\rows0=imR rows)\/f= .arrA e G.size rows0)))
 {ea:AObj}(as:ea= .arrA e G.size (rows0++(BP h (evO tm x)).rows)\/ ∃rows,ea= .arr e G.size rows/\imR rows=rows0++(BP h (evO tm x)).rows)
 (hk:K (.own nx) {use:=u,kill:=ks,new:=[(nx,(true,ea))],cnt:=1}):AS P tm h nx o K:=by
 refine⟨_,_,OpT.one (u:=u) (ks:=ks) (.inl ⟨rfl,rfl⟩) ?_,hk⟩;intro C S a hW hu be ag ah;have Q:=ah s (by rw[ho];simp[Op.operands,Call.operands,aa,ad]);have h2:=ah x (by rw[ho];simp[Op.operands,Call.operands,aa,ad]);obtain⟨L,av,af,am,bb,ba,bp⟩:=src_spec hW h2 (λn hn=>hu n (a8 n hn)) ay Z hw;have bj:=be rfl;have ak: ∃l0 A,a.eval s=slV l0 rows0.length/\oldAt S e G.size rows0.length A l0/\
  (∀l,l0=some l-> ∃o f,o∈ks/\S.h o=some (true,f)/\S.ρ o=some l)/\AN S G.size rows0 A/\rows0.length*G.size<=A.length:=by
  rcases ax with ⟨⟨k0,hs⟩,rfl⟩|⟨n,f,hs,aw,hf,au⟩
  .rw[hs] at Q;simp only[conc,rd] at Q;rcases Q with ⟨Q,_⟩|⟨b,p,cap,vs,T,fr,_,bh,_⟩
   .have Q:=QL Q;exact⟨none,[],by rw[Q];rfl,⟨rfl,rfl⟩,(by intro l hl;cases hl),by simp only[AN],by simp⟩
   .exact absurd rfl (bh trivial)
  .rw[hs] at Q;have hS:S.h n=_:=(hu n (by simp[aw])).trans hf;have z:=hW.obj _ _ hS;simp only[conc] at Q;have Q:=Q.2 _ hS;cases hl0:S.ρ n with
   |none=>
    rw[hl0] at Q z;simp only at Q
    have:rows0=[]:=by
     rcases au with ⟨rows,rfl,rfl⟩|rfl
     .simp only[objc] at z;rw[z.2];rfl
     .simp only[objc] at z;exact z.2
    subst this;exact⟨none,[],by rw[Q];rfl,⟨rfl,rfl⟩,(by intro l hl;cases hl),by simp only[AN],by simp⟩
   |some l=>
    rw[hl0] at Q z;simp only at Q;have ao:f.len=rows0.length/\rows0.length<=l.cap/\ ∃vs,S.hp l.b=some (.cells vs e (0,0))/\l.p+l.cap*G.size<=vs.size/\AN S G.size rows0 (vs.toList.drop l.p):=by
     rcases au with ⟨rows,rfl,rfl⟩|rfl
     .simp only[objc] at z;obtain⟨_,O,vs,hb,Z,hr⟩:=z;exact⟨by simp[AObj.len,imR],by simpa[imR] using O,vs,hb,Z,LW _ _ hr⟩
     .simp only[objc] at z;obtain⟨_,O,vs,hb,Z,hr⟩:=z;exact⟨rfl,O,vs,hb,Z,hr⟩
    obtain⟨bd,O,vs,hb,Z,hr⟩:=ao;have bq:rows0.length*G.size<=l.cap*G.size:=DR _ O;have bo:vs.toList.length=vs.size:=Cm;refine⟨some l,vs.toList.drop l.p,by rw[Q,bd];rfl,⟨O,vs,hb,rfl,Z⟩,?_,hr,by rw[Bn,bo];omega⟩;intro l' bf;obtain rfl:=Al bf;exact⟨n,f,aw,hS,hl0⟩
 obtain⟨l0,A,hv,hA,ai,bm,a9⟩:=ak;obtain⟨w',l',az,bl,ac⟩:=append_go hW (nx:=nx) (ks:=ks) (ty:=o.type) hT hE hU an hz Z bc hA av af am ba ai bj (λn f hf=>ag n f hf rfl);refine⟨slV l' (rows0.length+(BP h (evO tm x)).rows.length),w',l',.inl ?_,bl ea,?_⟩
 .simp only[execOp,ho,resolve,ad,aa,bn,Sem.run_bind,Sem.run_pure,Result.andThen_ok,invoke,builtin];simp[hv,az]
 intro hp;have br:G.bytes≠0:=an;have a0:rows0.length+(BP h (evO tm x)).rows.length<=LIM:=by
  have:(rows0.length+(BP h (evO tm x)).rows.length+512)*1<=(rows0.length+(BP h (evO tm x)).rows.length+512)*G.bytes:=Nat.mul_le_mul_left _ (by omega)
  simp only[LIM];omega
 have hX: ∀m∈nmsR (rows0++(BP h (evO tm x)).rows),S.h nx≠none\/m≠nx:=by
  intro m hm;obtain⟨n,f,bi,hf,bg⟩:=hnm m hm;right;rintro rfl;exact ag n f ((hu n bi).trans hf) rfl bg
 have ab:objc (S.one nx ea l' ks w') l' (.arrA e G.size (rows0++(BP h (evO tm x)).rows)):=by
  simp only[objc,B5];refine⟨a0,?_⟩;cases l' with
  |none=>
   simp only at ac⊢;rw[List.append_eq_nil_iff];exact⟨Gy.1 ac.1,Gy.1 ac.2⟩
  |some l=>
   obtain⟨h3,vs,R,h4,h5,h6⟩:=ac;refine⟨h3,vs,h4,h5,?_⟩;rw[h6];exact Ot hp _ _ _ hX (Wo _ _ _ _ _ bm a9 bb (by rw[am];exact Ar _))
 have aj:ea.len=rows0.length+(BP h (evO tm x)).rows.length:=by
  rcases as with rfl|⟨rows,rfl,hr⟩
  .simp[AObj.len]
  .simp only[AObj.len];rw[<-B5,<-hr];simp[imR]
 constructor
 .rcases as with rfl|⟨rows,rfl,hr⟩
  .exact ab
  .rw[<-hr] at ab;exact objc_im rfl rfl ab
 .simp only[conc];refine⟨by cases l'<;>rfl,λe' aq=> ?_⟩;simp only[Env.one,AQ,An] at aq⊢;subst aq;cases l' with
  |none=>rfl
  |some l=>simp only[slV];rw[aj]
def Mh(rows:List (List D)):nmsR (imR rows)=[]:=by
 induction rows with
 |nil=>rfl
 |cons r rows ih=>simp only[imR,Ay,nmsR,Uj,D1];exact ih
def OF: ∀(a b:List (List AV)),nmsR (a++b)=nmsR a++nmsR b
 |[],_=>rfl
 |x::a,b=>by simp[nmsR,OF a b]
def src_names{X:AV}{m:Nat}(z:m∈nmsR (BP h X).rows): ∃n f,n∈(BP h X).us/\h n=some f/\m∈f.2.nms:=by
 cases X<;>try (simp only[BP,Src.rows,nmsR] at z;cases z;done)
 case im d=>cases d<;>simp only[BP,Src.rows,Mh,nmsR] at z<;>cases z
 case own n=>
  simp only[BP] at z⊢;cases hn:h n with
  |none=>rw[hn] at z;simp only[Js,Src.rows,nmsR] at z;cases z
  |some e=>
   rw[hn] at z;obtain⟨G,e⟩:=e;cases e<;>simp only[Js,Src.rows,Mh,nmsR] at z<;>try cases z
   refine⟨n,_,by simp[Src.us,Js],hn,z⟩
def RQ{T U:TypeId}{s x:Operand}{c:Call}(ho:o.op= .call c)(ag:c.callee= .builtin .append)(ad:c.args= #[s,x])(am:c.argTypes= #[T,U])
 (z:Az (Qr P h nx (evO tm s) (evO tm x) T K) (tI P U)):AS P tm h nx o K:=by
 cases hU:tI P U with
 |none=>rw[hU] at z;exact z.elim
 |some ui=>
 rw[hU] at z;simp only[Az,Qr] at z;obtain⟨ah,z⟩:=z;cases hu:ui.kind<;>rw[hu] at ah<;>simp only[TK.isSl,B1] at ah;rename_i u2;have aj:=Gl hU hu;cases hT:tI P T with
 |none=>rw[hT] at z;exact z.elim
 |some ti=>
 rw[hT] at z;simp only[TL] at z;cases hf:ti.kind<;>rw[hf] at z<;>try exact z.elim
 rename_i e;have ai:=Gl hT hf;simp only[apK] at z;cases hE:tI P e with
 |none=>rw[hE] at z;exact z.elim
 |some te=>
 rw[hE] at z;simp only[Az,apE] at z;obtain⟨hz,hl,ak,Q,z⟩:=z;have ab: ∀{m:Nat},m∈nmsR (BP h (evO tm x)).rows-> ∃n f,n∈(BP h (evO tm x)).us/\h n=some f/\m∈f.2.nms:=λZ=>src_names Z
 have G:= @append_op P tm h nx o K T U u2 e te s x ai aj hE c ho ag ad am ak hl hz;revert G;generalize BP h (evO tm x)=src at z Q ab;intro G;cases hs:evO tm s<;>rw[hs] at z<;>try exact z.elim
 case im d=>
  cases d<;>try exact z.elim
  rename_i nz k0 rows;cases nz<;>cases rows<;>try exact z.elim
  simp only[apTo] at z;cases src with
  |no=>exact z.elim
  |d u k rows=>
   simp only[F3] at z;obtain⟨O,hb,z⟩:=z;refine G (u:=u) (ks:=[]) (rows0:=[]) Q (O.imp id (λh=>by rw[h];rfl)) (by simp[Src.us]) (by simpa[Src.rows,imR] using hb) ?_ (.inl ⟨⟨k0,hs⟩,rfl⟩) (.inr ⟨rows,rfl,by simp[Src.rows]⟩) z;intro m Z;simp only[D1,Src.rows,Mh] at Z;cases Z
  |a u k rows=>
   simp only[F3] at z;obtain⟨O,hb,z⟩:=z;refine G (u:=u) (ks:=u) (rows0:=[]) Q (.inl O) (by simp[Src.us]) (by simpa[Src.rows] using hb) ?_ (.inl ⟨⟨k0,hs⟩,rfl⟩) (.inl (by simp[Src.rows])) z;intro m Z;obtain⟨n,f,hn,hf⟩:=ab Z;exact⟨n,f,by simp[Src.us] at hn;simp[hn],hf⟩
 case own n=>
  simp only[apTo] at z;cases hn:h n with
  |none=>rw[hn] at z;exact z.elim
  |some ac=>
  rw[hn] at z;obtain⟨mu,ac⟩:=ac;cases mu<;>cases ac<;>try exact z.elim
  case true.arr U0 k0 rows0=>
   simp only[apObj] at z;obtain⟨rfl,rfl,z⟩:=z;cases src with
   |no=>exact z.elim
   |d u k rows=>
    simp only[apD] at z;obtain⟨O,af,hb,z⟩:=z;refine G (u:=n::u) (ks:=[n]) (rows0:=imR rows0) Q (O.imp id (λh=>by rw[h];rfl)) (by intro x hx;simp[Src.us] at hx;simp[hx]) (by simpa[Src.rows,imR] using hb) ?_
     (.inr ⟨n,_,hs,by simp,hn,.inl ⟨rows0,rfl,rfl⟩⟩) (.inr ⟨rows0++rows,rfl,by simp[Src.rows,imR]⟩) z
    intro m Z;simp only[Src.rows,OF,Mh] at Z;cases Z
   |a u k rows=>
    simp only[apD] at z;obtain⟨O,af,hb,z⟩:=z;refine G (u:=n::u) (ks:=n::u) (rows0:=imR rows0) Q (.inl O) (by intro x hx;simp[Src.us] at hx;simp[hx]) (by simpa[Src.rows,imR] using hb) ?_
     (.inr ⟨n,_,hs,by simp,hn,.inl ⟨rows0,rfl,rfl⟩⟩) (.inl (by simp[Src.rows])) z
    intro m Z;simp only[OF,Mh,D1] at Z;obtain⟨n',f,aa,hf⟩:=ab Z;exact⟨n',f,by simp[Src.us] at aa;simp[aa],hf⟩
  case true.arrA U0 k0 rows0=>
   simp only[apObj] at z;obtain⟨rfl,rfl,z⟩:=z;cases src with
   |no=>exact z.elim
   |d u k rows=>
    simp only[apA] at z;obtain⟨O,af,hb,z⟩:=z;refine G (u:=n::u) (ks:=[n]) (rows0:=rows0) Q (O.imp id (λh=>by rw[h];rfl)) (by intro x hx;simp[Src.us] at hx;simp[hx]) (by simpa[Src.rows,imR] using hb) ?_
     (.inr ⟨n,_,hs,by simp,hn,.inr rfl⟩) (.inl (by simp[Src.rows])) z
    intro m Z;simp only[Src.rows,OF,Mh,BJ] at Z;exact⟨n,_,by simp,hn,Z⟩
   |a u k rows=>
    simp only[apA] at z;obtain⟨O,af,hb,z⟩:=z;refine G (u:=n::u) (ks:=n::u) (rows0:=rows0) Q (.inl O) (by intro x hx;simp[Src.us] at hx;simp[hx]) (by simpa[Src.rows] using hb) ?_
     (.inr ⟨n,_,hs,by simp,hn,.inr rfl⟩) (.inl (by simp[Src.rows])) z
    intro m Z;simp only[OF,AG] at Z;rcases Z with Z|Z
    .exact⟨n,_,by simp,hn,Z⟩
    .obtain⟨n',f,aa,hf⟩:=ab Z;exact⟨n',f,by simp[Src.us] at aa;simp[aa],hf⟩
end
def Uw{ok:Nat->Prop}{hp:Nat->Option Obj}: ∀(ds:List (D×D)) (es:List MapEntry),rde ok hp ds es->es.length=ds.length
 |[],_,h=>by simp only[rde] at h;simp[h]
 |(x,y)::ds,_,h=>by
  simp only[rde] at h;obtain⟨e,r,rfl,_,_,z⟩:=h;simp[Uw ds r z]
def Gj{P:Program}{w:World}{b:Nat}{es:Array MapEntry}{clock:Nat}(h:w.heap[b]? =some (.map es clock)):(getObj b).run P w= .ok (.map es clock) w:=by
 simp[getObj,Sem.run,h]
section
variable {P:Program}{w:World}{T e k:TypeId}
def I1(x y:Value):Op.equal T x y=Op.equalIn (9999+1) T x y:=rfl
def eqn_sl(z:P.underlying T=some (.slice e))(d:Nat)(b:Option Addr)(n c:Nat):(Op.equalIn (d+1) T (.slice b n c) (.slice none 0 0)).run P w= .ok b.isNone w:=by
 cases b<;>simp[Op.equalIn,run_underlying z]
def Ur(z:P.underlying T=some (.pointer e))(d:Nat)(b:Option Addr):(Op.equalIn (d+1) T (.pointer b) (.pointer none)).run P w= .ok b.isNone w:=by
 cases b<;>simp[Op.equalIn,run_underlying z]
def eqn_mp(z:P.underlying T=some (.map k e))(d:Nat)(b:Option Nat):(Op.equalIn (d+1) T (.map b) (.map none)).run P w= .ok b.isNone w:=by
 cases b<;>simp[Op.equalIn,run_underlying z]
end
def AbsT(tm:List (Nat×AV))(h:Nat->Option Ent)(o:Oper):Prop:=
 ∃u:List Nat,∀(C:Ctx) (S:Env) (a:Act),Wf C S->(∀n∈u,S.h n=h n)->(∀x∈o.op.operands,conc S (evO tm x) (a.eval x))->False
def SndOpS(P:Program)(tm:List (Nat×AV))(h:Nat->Option Ent)(nx:Nat)(o:Oper)(K:Kont):Prop:=
 ∀(C:Ctx) (S:Env) (a:Act) (next:Act->World->Prop) (Q:Exit->Act->World->Prop),
  Wf C S->(∀n,S.h n=h n)->(∀n,nx<=n->S.h n=none)->(∀n e,S.h n=some e-> ∀m∈e.2.nms,m<nx)->
  (∀x∈o.op.operands,conc S (evO tm x) (a.eval x))->
  (∀r E v S',K r E->Wf C S'->S'.h=E.appf S.h->Pres (λm=> ¬Fr nx E.cnt m) S S'->conc S' r v->next (a.put o.dst v) S'.w)->
  o.wp P a S.w next Q
abbrev SndO(P:Program)(z:Bool)(tm:List (Nat×AV))(h:Nat->Option Ent)(nx:Nat)(o:Oper)(K:Kont):Prop:=
 AS P tm h nx o K\/(z=true/\(AbsT tm h o\/SndOpS P tm h nx o K))
section
variable {P:Program}{tm:List (Nat×AV)}{h:Nat->Option Ent}{nx:Nat}{o:Oper}{K:Kont}
def Jr{T:TypeId}{x:Operand}{c:Call}{u:List Nat}{n:Nat}(ho:o.op= .call c)(G:c.callee= .builtin .len)(z:c.args= #[x])(Z:c.argTypes= #[T])
 (Q: ∀(C:Ctx) (S:Env) (v:Value),Wf C S->(∀n∈u,S.h n=h n)->conc S (evO tm x) v->(Builtin.len_ #[T] o.type #[v]).run P S.w= .ok (.int .i64 n) S.w)
 (hk:kInt K {use:=u} n):AS P tm h nx o K:=by
 refine⟨_,_,OpT.pure (u:=u) ?_,hk⟩;intro C S a hW hu O;have h1:=O x (by rw[ho];simp[Op.operands,Call.operands,z,G]);refine⟨.int .i64 n,?_,by simp only[conc,rd]⟩;simp only[execOp,ho,resolve,G,z,Z,Sem.run_bind,Sem.run_pure,Result.andThen_ok,invoke,builtin];simp[Q C S _ hW hu h1]
def VV{z:Bool}{B:Prop}(O:(z=true->B)->AS P tm h nx o K)(Q: ¬B->AbsT tm h o):SndO P z tm h nx o K:=by
 by_cases G:B
 .exact .inl (O λ_=>G)
 .cases z
  .exact .inl (O λh=>by cases h)
  .exact .inr ⟨rfl,.inl (Q G)⟩
def snd_len{sq:Bool}{T:TypeId}{x:Operand}{c:Call}(Z:o.op= .call c)(O:c.callee= .builtin .len)(G:c.args= #[x])(aa:c.argTypes= #[T])
 (z:Az (Ls sq h (evO tm x) K) (tI P T)):SndO P sq tm h nx o K:=by
 have aj:x∈o.op.operands:=by rw[Z];simp[Op.operands,Call.operands,G,O]
 cases hT:tI P T with
 |none=>rw[hT] at z;exact z.elim
 |some ti=>
 rw[hT] at z;simp only[Az,Ls] at z;cases hf:ti.kind<;>rw[hf] at z<;>try exact z.elim
 case slice e=>
  have hu:=Gl hT hf;simp only[lenK] at z;cases hx:evO tm x<;>rw[hx] at z<;>try exact z.elim
  case im d=>
   cases d<;>try exact z.elim
   rename_i nz k rows;simp only[Lm] at z;refine VV (B:=rows.length<=140737488355328) (λhb=>Jr (u:=[]) Z O G aa ?_ (z hb)) λhb=>⟨[],?_⟩
   .intro C S v hW _ hc;rw[hx] at hc;simp only[conc,rd] at hc;rcases hc with ⟨rfl|⟨_,a,rfl⟩,rfl⟩|⟨b,p,cap,vs,T,fr,rfl,_⟩<;>simp[Builtin.len_,underlying,hu,goInt]
   .intro C S a hW _ ad;have h1:=ad x aj;rw[hx] at h1;simp only[conc,rd] at h1;rcases h1 with ⟨_,rfl⟩|⟨b,p,cap,vs,T,fr,_,_,_,h3,_⟩
    .simp at hb
    .exact hb h3
  case own n=>
   simp only[Lm] at z;cases hn:h n with
   |none=>rw[hn] at z;exact z.elim
   |some Q=>
   rw[hn] at z;obtain⟨mu,Q⟩:=Q;have af: ∀{rl:Nat},Q.len=rl->(∀(S:Env) l,objc S l Q->rl<=140737488355328)->((sq=true->rl<=140737488355328)->kInt K {use:=[n]} rl)->(∀(S:Env),objc S none Q->rl=0)->
    SndO P sq tm h nx o K:=by
    intro rl hl ak z ai;refine VV (B:=rl<=140737488355328) (λhb=>Jr (u:=[n]) Z O G aa ?_ (z hb)) λhb=>⟨[n],?_⟩
    .intro C S v hW ab hc;rw[hx] at hc;simp only[conc] at hc;have hS:=(ab n (by simp)).trans hn;have hc:=hc.2 _ hS;cases hl0:S.ρ n with
     |none=>
      have ac:=hW.obj _ _ hS;rw[hl0] at hc ac;simp only at hc;subst hc
      have:=ai S ac
      simp[Builtin.len_,underlying,hu,goInt,this]
     |some l=>
      rw[hl0] at hc;simp only[hl] at hc;subst hc;simp[Builtin.len_,underlying,hu,goInt]
    .intro C S a hW ab ad;have hS:=(ab n (by simp)).trans hn;exact hb (ak S _ (hW.obj _ _ hS))
   cases Q<;>try exact z.elim
   case arr T0 k rows=>
    exact af rfl (λS l Z=>by simp only[objc] at Z;exact Z.1) z (λS Z=>by simp only[objc] at Z;rw[Z.2];rfl)
   case arrA T0 k rows=>
    exact af rfl (λS l Z=>by simp only[objc] at Z;exact Z.1) z (λS Z=>by simp only[objc] at Z;rw[Z.2];rfl)
  case osl n wa wn=>
   simp only[Lm] at z;cases hn:h n with
   |none=>rw[hn] at z;exact z.elim
   |some Q=>
   rw[hn] at z;refine .inl (Jr (u:=[n]) Z O G aa ?_ z);intro C S v hW ab hc;rw[hx] at hc;simp only[conc] at hc;have hS:=(ab n (by simp)).trans hn;have hc:=hc.2 _ hS;unfold winV at hc;cases hl0:S.ρ n with
   |none=>
    rw[hl0] at hc;obtain⟨rfl,rfl⟩:=hc;simp[Builtin.len_,underlying,hu,goInt]
   |some l=>
    rw[hl0] at hc;obtain⟨p,cp,rfl,_⟩:=hc;simp[Builtin.len_,underlying,hu,goInt]
 case str=>
  have hu:=HY hT hf;simp only[lenK] at z;cases hx:evO tm x<;>rw[hx] at z<;>try exact z.elim
  rename_i d;cases d<;>try exact z.elim
  refine .inl (Jr (u:=[]) Z O G aa ?_ z);intro C S v hW _ hc;rw[hx] at hc;simp only[conc,rd] at hc;subst hc;simp[Builtin.len_,underlying,hu,goInt]
 case map k e=>
  have hu:=Mt hT hf;simp only[lenK] at z;cases hx:evO tm x<;>rw[hx] at z<;>try exact z.elim
  case im d=>
   cases d<;>try exact z.elim
   case nilm=>
    refine .inl (Jr (u:=[]) Z O G aa ?_ z);intro C S v hW _ hc;rw[hx] at hc;simp only[conc,rd] at hc;subst hc;simp[Builtin.len_,underlying,hu,goInt]
   case mp kt es=>
    refine .inl (Jr (u:=[]) Z O G aa ?_ z);intro C S v hW _ hc;rw[hx] at hc;simp only[conc,rd] at hc;obtain⟨b,ah,ag,rfl,_,_,h5,h6,_⟩:=hc;have hl:=Uw _ _ h6;simp only[Cm] at hl;simp[Builtin.len_,underlying,hu,goInt,Gj (w:=S.w) h5,hl]
  case mp n=>
   simp only[Pu] at z;cases hn:h n with
   |none=>rw[hn] at z;exact z.elim
   |some Q=>
   rw[hn] at z;obtain⟨mu,Q⟩:=Q;cases Q<;>try exact z.elim
   refine .inl (Jr (u:=[n]) Z O G aa ?_ z);intro C S v hW ab hc;rw[hx] at hc;simp only[conc] at hc;have hS:=(ab n (by simp)).trans hn;obtain⟨l,hl,rfl⟩:=hc.2 _ hS;have ac:=hW.obj _ _ hS;simp only[objc] at ac;obtain⟨lc,ah,ag,h1,_,h5,h6,_⟩:=ac;rw[hl] at h1;obtain rfl:=Al h1;have hl:=Uw _ _ h6;simp only[Cm] at hl;simp[Builtin.len_,underlying,hu,goInt,Gj (w:=S.w) h5,hl]
def KM{op:BinOp}{T U:TypeId}{x y:Operand}{u:List Nat}{b:Bool}(ho:o.op= .binOp op T x y U)(Z:op= .eql\/op= .neq){z:Value}(hy:y= .const z)
 (Q:z= .slice none 0 0\/z= .pointer none\/z= .map none)
 (O: ∀(C:Ctx) (S:Env) (v:Value),Wf C S->(∀n∈u,S.h n=h n)->conc S (evO tm x) v->(∀k n,v≠ .int k n)/\(∀k n,v≠ .float k n)/\(∀k n m,v≠ .complex k n m)/\(∀s,v≠ .string s)/\(Op.equal T v z).run P S.w= .ok b S.w)
 (hk:K (.im (.bool ((decide (op= .neq)) !=b))) {use:=u}):AS P tm h nx o K:=by
 refine⟨_,_,OpT.pure (u:=u) ?_,hk⟩;intro C S a hW hu G;have h1:=G x (by rw[ho];simp[Op.operands]);obtain⟨hi,hf,hc,hs,hr⟩:=O C S _ hW hu h1;refine⟨.bool (decide (op= .neq) !=b),?_,by simp only[conc,rd]⟩;have hg:(eqGuard op T x y (a.eval x) z).run P S.w= .ok () S.w:=by
  rcases Q with rfl|rfl|rfl<;>rcases Z with rfl|rfl<;>simp[eqGuard]
 have hb:(binOp op T (a.eval x) z).run P S.w= .ok (.bool (decide (op= .neq) !=b)) S.w:=by
  have hq:(Op.equal T (a.eval x) z).run P S.w= .ok b S.w:=hr;clear hr hg G h1 O hk hu;generalize a.eval x=v at*;rcases Z with rfl|rfl
  .have:binOp .eql T v z=(do pure (.bool (<-Op.equal T v z))):=by
    rcases Q with rfl|rfl|rfl<;>cases v<;>first|rfl|exact absurd rfl (hi _ _)|exact absurd rfl (hf _ _)|exact absurd rfl (hc _ _ _)|exact absurd rfl (hs _)
   rw[this];simp[hq]
  .have:binOp .neq T v z=(do pure (.bool (!(<-Op.equal T v z)))):=by
    rcases Q with rfl|rfl|rfl<;>cases v<;>first|rfl|exact absurd rfl (hi _ _)|exact absurd rfl (hf _ _)|exact absurd rfl (hc _ _ _)|exact absurd rfl (hs _)
   rw[this];simp[hq]
 have aa:a.eval y=z:=by rw[hy];rfl
 simp only[execOp,ho,aa,Sem.run_bind,hg,Result.andThen_ok,hb,Sem.run_pure]
def JF{op:BinOp}{T U:TypeId}{x y:Operand}{m:Nat}(ho:o.op= .binOp op T x y U)(hm:nilC y=m+1)(ac:m<=2)(Z:Az (Ml h op (evO tm x) K m) (tI P T)):AS P tm h nx o K:=by
 cases hT:tI P T with
 |none=>rw[hT] at Z;exact Z.elim
 |some ti=>
 rw[hT] at Z;simp only[Az] at Z;have G:op= .eql\/op= .neq:=by cases op<;>first|exact .inl rfl|exact .inr rfl|exact Z.elim
 have z:IF h (decide (op= .neq)) K (evO tm x) m ti.kind:=by rcases G with rfl|rfl<;>exact Z
 have Q: ∃nv,y= .const nv/\((m=0/\nv= .slice none 0 0)\/(m=1/\nv= .pointer none)\/(m=2/\nv= .map none)):=by
  cases y<;>simp only[nilC,reduceCtorEq] at hm<;>try (cases hm;done)
  rename_i v;refine⟨v,rfl,?_⟩;unfold nilV at hm;split at hm
  .exact .inl ⟨by omega,rfl⟩
  .exact .inr (.inl ⟨by omega,rfl⟩)
  .exact .inr (.inr ⟨by omega,rfl⟩)
  .omega
  .omega
 obtain⟨nv,Q,ab⟩:=Q;clear Z;rcases ab with ⟨rfl,rfl⟩|⟨rfl,rfl⟩|⟨rfl,rfl⟩<;>cases hf:ti.kind<;>rw[hf] at z<;>try exact z.elim
 .have O:=Gl hT hf;simp only[IF] at z;cases hx:evO tm x<;>rw[hx] at z<;>try exact z.elim
  rename_i d;cases d<;>try exact z.elim
  rename_i nz k rows;cases nz<;>try exact z.elim
  refine KM (u:=[]) ho G Q (.inl rfl) ?_ z;intro C S v hW _ hc;rw[hx] at hc;simp only[conc,rd] at hc;rcases hc with ⟨h0,rfl⟩|⟨b,p,cap,vs,T,fr,rfl,h2,_⟩
  .rw[QL h0];simp[I1,eqn_sl O 9999]
  .have ad:rows≠[]:=h2 trivial
   have:rows.isEmpty=false:=by cases rows<;>simp_all
   simp[I1,eqn_sl O 9999,this]
 .have O:=tk_ptr hT hf;simp only[IF] at z;cases hx:evO tm x<;>rw[hx] at z<;>try exact z.elim
  case im d=>
   cases d<;>try exact z.elim
   .refine KM (u:=[]) ho G Q (.inr (.inl rfl)) ?_ z;intro C S v hW _ hc;rw[hx] at hc;simp only[conc,rd] at hc;subst hc;simp[I1,Ur O 9999]
   .refine KM (u:=[]) ho G Q (.inr (.inl rfl)) ?_ z;intro C S v hW _ hc;rw[hx] at hc;simp only[conc,rd] at hc;obtain⟨b,p,vs,T,fr,rfl,_⟩:=hc;simp[I1,Ur O 9999]
  all_goals
   obtain⟨⟨e',he⟩,z⟩:=KN z;refine KM (b:=false) ho G Q (.inr (.inl rfl)) ?_ (by simpa using z);intro C S v hW aa hc;rw[hx] at hc;simp only[conc] at hc;obtain⟨l,_,rfl⟩:=hc.2 e' ((aa _ (by simp)).trans he);simp[I1,Ur O 9999]
 .have O:=Mt hT hf;simp only[IF] at z;cases hx:evO tm x<;>rw[hx] at z<;>try exact z.elim
  case im d=>
   cases d<;>try exact z.elim
   .refine KM (u:=[]) ho G Q (.inr (.inr rfl)) ?_ z;intro C S v hW _ hc;rw[hx] at hc;simp only[conc,rd] at hc;subst hc;simp[I1,eqn_mp O 9999]
   .refine KM (u:=[]) ho G Q (.inr (.inr rfl)) ?_ z;intro C S v hW _ hc;rw[hx] at hc;simp only[conc,rd] at hc;obtain⟨b,p,vs,rfl,_⟩:=hc;simp[I1,eqn_mp O 9999]
  all_goals
   obtain⟨⟨e',he⟩,z⟩:=KN z;refine KM (b:=false) ho G Q (.inr (.inr rfl)) ?_ (by simpa using z);intro C S v hW aa hc;rw[hx] at hc;simp only[conc] at hc;obtain⟨l,_,rfl⟩:=hc.2 e' ((aa _ (by simp)).trans he);simp[I1,eqn_mp O 9999]
end
end Go.Ae
