/- Lemmas. Conditions: none. -/
import Derived.Test.YtpdpgenppceapaaGreatP01
import Derived.IntWalk
set_option linter.all false
set_option maxHeartbeats 8000000
set_option maxRecDepth 100000
namespace Go.Ae
def Qrv(z:List Value)(O:z≠[]): ∀n,(List.range (n*z.length)).map (λi=>z[i % z.length]!)=Cv n z
 |0=>by simp[Cv]
 |n+1=>by
  have h0:0<z.length:=eM.2 O;rw[Gh,J7,ZeH,List.range_add,Fg,Xw];simp only[Cv];congr 1
  .apply List.ext_getElem
   .simp
   .intro i Q G;simp only[List.getElem_map,ZeG]
    have:i % z.length=i:=Nat.mod_eq_of_lt G
    rw[this,getElem!_pos z i G]
  .rw[<-Qrv z O n];apply SO;intro i _;simp
def Qxx(a:Array Value)(i:Nat):a[i]! =a.toList[i]! :=by
 by_cases z:i<a.size
 .rw[getElem!_pos a i z,getElem!_pos a.toList i (by simpa using z)];simp
 .rw[getElem!_neg a i z,getElem!_neg a.toList i (by simpa using z)]
def Qzv{α:Type}(z:List α): ∀n,(Cv n z).length=n*z.length
 |0=>by simp[Cv]
 |n+1=>by simp[Cv,Qzv z n,Gh];omega
def tR{α β:Type}(f:α->β)(z:List α): ∀n,(Cv n z).map f=Cv n (z.map f)
 |0=>rfl
 |n+1=>by simp[Cv,tR f z n]
def NL{ok:Nat->Prop}{hp:Nat->Option Obj}: ∀(a:List D) (x:List Value) (b:List D) (y:List Value),rdl ok hp a x->rdl ok hp b y->rdl ok hp (a++b) (x++y)
 |[],x,b,y,h,z=>by simp only[rdl] at h;subst h;simpa using z
 |d::a,x,b,y,h,z=>by
  simp only[rdl] at h;obtain⟨v,r,rfl,G,O⟩:=h;simp only[CP,rdl];exact⟨v,_,rfl,G,NL a r b y O z⟩
def Qop{S:A7}: ∀(a:List AV) (x:List Value) (b:List AV) (y:List Value),AY S a x->AY S b y->AY S (a++b) (x++y)
 |[],x,b,y,h,z=>by simp only[AY] at h;subst h;simpa using z
 |d::a,x,b,y,h,z=>by
  simp only[AY] at h;obtain⟨v,r,rfl,G,O⟩:=h;simp only[CP,AY];exact⟨v,_,rfl,G,Qop a r b y O z⟩
def Qy7{ok:Nat->Prop}{hp:Nat->Option Obj}{z:List D}{x:List Value}(h:rdl ok hp z x): ∀n,rdl ok hp (Cv n z) (Cv n x)
 |0=>by simp[Cv,rdl]
 |n+1=>NL _ _ _ _ h (Qy7 h n)
def jL{α:Type}(k:Nat): ∀(n:Nat) (l:List α),(IU k n l).length=n
 |0,_=>rfl
 |n+1,l=>by simp[IU,jL k n]
def Qq5{ok:Nat->Prop}{hp:Nat->Option Obj}(k:Nat): ∀(n:Nat) (ds:List D) (vs:List Value),rdp ok hp ds vs->ds.length=n*k->rdr ok hp k (IU k n ds) vs
 |0,_,_,_,_=>by simp only[IU,rdr]
 |n+1,ds,vs,h,G=>by
  rw[Gh,J7] at G;simp only[IU,rdr];obtain⟨O,z⟩:=WZ k ds vs h (by omega);refine⟨by rw[Cp];omega,?_,Qq5 k n _ _ (WW k ds vs h (by omega)) (by rw[Dt];omega)⟩
  have:=zB _ _ (vs.drop k) (YC _ _ z)
  rwa [Ze] at this
def Qms{S:A7}(k:Nat): ∀(n:Nat) (ds:List AV) (vs:List Value),Db S ds vs->ds.length=n*k->Ce S k (IU k n ds) vs
 |0,_,_,_,_=>by simp only[IU,Ce]
 |n+1,ds,vs,h,G=>by
  rw[Gh,J7] at G;simp only[IU,Ce];obtain⟨O,z⟩:=Y2 k ds vs h (by omega);refine⟨by rw[Cp];omega,?_,Qms k n _ _ (pO k ds vs h (by omega)) (by rw[Dt];omega)⟩
  have:=pY _ _ (vs.drop k) (Y3 _ _ z)
  rwa [Ze] at this
def Qn6(k:Nat)(x:Nat): ∀(n:Nat) (ds:List AV),x∈BJ (IU k n ds)->x∈AE ds
 |0,_,h=>by simp[IU,BJ] at h
 |n+1,ds,h=>by
  have z: ∀(a b:List AV),AE (a++b)=AE a++AE b:=by
   intro a b;induction a with
   |nil=>rfl
   |cons y a ih=>simp[AE,ih]
  simp only[IU,BJ,B5] at h
  have:=z (ds.take k) (ds.drop k)
  rw[Ze] at this;rw[this,B5];rcases h with h|h
  .exact .inl h
  .exact .inr (Qn6 k x n _ h)
section
variable {P:Program}{tm:List (Nat×AV)}{h:Nat->Option Aq}{nx:Nat}{o:Oper}{K:Ai}
def Qrh(a b:List AV):AE (a++b)=AE a++AE b:=by
 induction a with
 |nil=>rfl
 |cons y a ih=>simp[AE,ih]
def Ql(n:Nat)(a:List AV): ∀m∈AE (a.take n),m∈AE a:=by
 intro m z
 have:=Qrh (a.take n) (a.drop n)
 rw[Ze] at this;rw[this,B5];exact .inl z
def Qk(n:Nat)(a:List AV): ∀m∈AE (a.drop n),m∈AE a:=by
 intro m z
 have:=Qrh (a.take n) (a.drop n)
 rw[Ze] at this;rw[this,B5];exact .inr z
def Qvz(x:AV): ∀m∈AE x.cells,m∈x.nms:=by
 cases x<;>simp only[AV.cells]<;>intro m z
 case im d=>rw[Qw0] at z;cases z
 case agg cs=>simpa[AV.nms] using z
 all_goals simp[AE,AV.nms] at z⊢
 all_goals exact z
def Qyu(G: ∀x,∀m∈(Aw tm x).nms,m≠nx)(Q:Nat->Option (Nat×Nat)): ∀(ps:List (Nat×Operand)) (cs r:List AV),Iy Q (K8 tm ps) (some cs)=some r->
 (∀m∈AE cs,m≠nx)-> ∀m∈AE r,m≠nx
 |[],cs,r,h,O=>by simp only[K8,Iy,AP] at h;subst h;exact O
 |(i,x)::ps,cs,r,h,O=>by
  simp only[K8,Iy] at h;cases hf:dV cs (Aw tm x).cells (Q i) with
  |none=>rw[hf] at h;exact (Qjy _ _ h).elim
  |some us=>
   rw[hf] at h;refine Qyu G Q ps us r h ?_;cases hp:Q i with
   |none=>rw[hp] at hf;simp[dV] at hf
   |some q=>
    rw[hp] at hf;simp only[dV] at hf;generalize ((Aw tm x).cells.length==q.2 && (Nat.blt 0 q.2 && Nat.ble (q.1+q.2) cs.length))=bb at hf;cases bb
    .simp at hf
    .simp only[CJ,AP] at hf;subst hf;intro m z;simp only[Cq,Qrh,B5] at z;rcases z with (z|z)|z
     .exact O m (Ql _ _ m z)
     .exact G x m (Qvz _ m z)
     .exact O m (Qk _ _ m z)
def Qp8{T:TypeId}{n:Nat}{ps:Array (Nat×Operand)}(ho:o.op= .buildSlice T n ps)(G:Bs (Qfp P nx n (K8 tm ps.toList) K) (tI P T))
 (am: ∀x,∀m∈(Aw tm x).nms,m≠nx):Ck P tm h nx o K:=by
 cases hT:tI P T with
 |none=>rw[hT] at G;exact G.elim
 |some ti=>
 rw[hT] at G;simp only[Bs,Qfp] at G;cases hf:ti.kind<;>rw[hf] at G<;>try exact G.elim
 rename_i e;have hu:=Rx hT hf;simp only[bsK] at G;cases hE:tI P e with
 |none=>rw[hE] at G;exact G.elim
 |some Z=>
 rw[hE] at G;simp only[Bs,bsE] at G;obtain⟨hl,hz,aw,G⟩:=G;have hn:n<=KH:=by
  have:=Nat.le_mul_of_pos_right n (Nat.pos_of_ne_zero hz)
  simp only[KH];omega
 obtain⟨z,aq,au,ao⟩:=jO hE hl hz
 have an:z.cells.toList≠[]:=by intro hh;have:z.cells.size=0:=by rw[<-FF,hh];rfl
                               omega
 rw[<-tR] at G;cases hfl:Iy (Ka Z.size) (K8 tm ps.toList) (some ((Cv n Z.zero).map .im)) with
 |none=>rw[hfl] at G;exact G.elim
 |some cs=>
 rw[hfl] at G;simp only[Mz] at G;have hbel:=Qyu am _ ps.toList _ cs hfl (by rw[Qw0];intro m hm;cases hm);have ad: ∀(C:Bj) (S:A7) (a:Act),Wf C S->(∀x∈o.op.operands,Aa S (Aw tm x) (a.eval x))->
  ∃us:Array Value,(execOp a.eval o).run P S.w= .ok (.value (.slice (some ⟨S.w.heap.size,0,none⟩) n n)) (S.w.alloc (.cells us e))/\AY S cs us.toList/\cs.length=n*Z.size:=by
  intro C S a hW O;have av:((Array.range (n*Z.size)).map λi=>z.cells[i % z.cells.size]!).toList=Cv n z.cells.toList:=by
   rw[<-Qrv _ an n,Xv,ZeD,FF,au];apply SO;intro i _;exact Qxx _ _
  obtain⟨us,ai,hr,ak⟩:=Qiw (S:=S) (a:=a) (place:=λi=>some (i*Z.size,Z.size)) (λi q hq=>hq) ps.toList _ cs
   ((Array.range (n*Z.size)).map λi=>z.cells[i % z.cells.size]!) hfl (by rw[av];exact (Jj _ _).2 (Qy7 (ao _ _) n))
   (by intro p hp
       refine O p.2 ?_;rw[ho];simp only[Op.operands];simp;exact⟨p.1,by simpa using hp⟩)
  refine⟨us,?_,hr,by rw[ak];simp[Qzv,hl]⟩;simp only[execOp,ho,Instr.buildSlice,Sem.run_bind];rw[show (underlying T).run P S.w= .ok (.slice e) S.w from by simp[underlying,hu]];simp only[Result.andThen_ok,Sem.run_bind,Kw hE];rw[Ad (by omega)];by_cases ag:n*Z.size=0
  .simp only[ag,Bt,pure_bind];simp only[ag] at ai
   have:((Array.range 0).map λi=>(#[]:Array Value)[i % (#[]:Array Value).size]!)=(Array.range 0).map λi=>z.cells[i % z.cells.size]! :=by simp
   rw[this];have ac:(ps.map λ(i,x)=>(i,a.eval x)).toList=ps.toList.map λp=>(p.1,a.eval p.2):=by simp
   rw[ac,ai];simp[newRow]
  .simp only[ag,CY,Sem.run_bind,aq,Result.andThen_ok,Sem.run_pure];have ac:(ps.map λ(i,x)=>(i,a.eval x)).toList=ps.toList.map λp=>(p.1,a.eval p.2):=by simp
   rw[ac,ai];simp[newRow]
 cases hai:Eo cs with
 |none=>
  rw[hai] at G;simp only[JA] at G;refine⟨_,_,BL.one (u:=[]) (ks:=[]) (.inl ⟨rfl,rfl⟩) ?_,G⟩;intro C S a hW _ af hnm O;obtain⟨us,hr,Q,aa⟩:=ad C S a hW O;refine⟨_,_,some ⟨S.w.heap.size,0,n⟩,.inl hr,Xc (w':=S.w.alloc (.cells us e)) (ob:= .cells us e) rfl rfl rfl rfl (af rfl) (λn f hf=>hnm n f hf rfl),?_⟩;intro hp;have ah:=Jq _ _ Q;constructor
  .simp only[Ap];refine⟨by rw[jL];exact hn,by rw[jL];exact AW _,us,dU rfl,by simp at ah;omega,?_⟩;rw[Jc];exact xL hp _ _ _ (λm hm=> .inr (hbel m (Qn6 _ _ _ _ hm))) (Qms _ _ _ _ (Y3 _ _ Q) aa)
  .simp only[Aa];refine⟨rfl,λe' ab=> ?_⟩;have hh:(S.one nx (.arrA e Z.size (IU Z.size n cs)) (some ⟨S.w.heap.size,0,n⟩) [] (S.w.alloc (.cells us e))).ρ nx=some ⟨S.w.heap.size,0,n⟩:=by simp[A7.one]
   rw[hh];simp only[A7.one,Bt,AP] at ab;subst ab;simp[Ah.len,jL]
 |some ds=>
  rw[hai] at G;simp only[JA] at G;refine⟨_,_,BL.one (u:=[]) (ks:=[]) (.inl ⟨rfl,rfl⟩) ?_,G⟩;intro C S a hW _ af hnm O;obtain⟨us,hr,Q,aa⟩:=ad C S a hW O;refine⟨_,_,some ⟨S.w.heap.size,0,n⟩,.inl hr,Xc (w':=S.w.alloc (.cells us e)) (ob:= .cells us e) rfl rfl rfl rfl (af rfl) (λn f hf=>hnm n f hf rfl),?_⟩;intro hp;have ah:=Jq _ _ Q;rw[pW hai] at Q aa;have aj:=Mf hp.ok _ _ ((Jj _ _).1 Q);constructor
  .simp only[Ap];refine⟨by rw[jL];exact hn,by rw[jL];exact AW _,us,dU rfl,by simp[pW hai] at ah aa;simp;omega,?_⟩;rw[Jc];exact Qq5 _ _ _ _ (YC _ _ aj) (by simpa using aa)
  .simp only[Aa];refine⟨rfl,λe' ab=> ?_⟩;have hh:(S.one nx (.arr e Z.size (IU Z.size n ds)) (some ⟨S.w.heap.size,0,n⟩) [] (S.w.alloc (.cells us e))).ρ nx=some ⟨S.w.heap.size,0,n⟩:=by simp[A7.one]
   rw[hh];simp only[A7.one,Bt,AP] at ab;subst ab;simp[Ah.len,jL]
end
def Qwm(n:Nat): ∀(r c:Nat),c<=2*(n+512)->Builtin.growBy n r c<=2*(n+512)
 |0,c,h=>by simpa[Builtin.growBy] using h
 |r+1,c,h=>by
  simp only[Builtin.growBy];split
  .exact h
  .exact Qwm n r _ (by omega)
def Qabm(n old:Nat)(h:old<n):Builtin.nextslicecap n old<=2*(n+512):=by
 unfold Builtin.nextslicecap;split
 .omega
 .split
  .omega
  .exact Qwm n 4 old (by omega)
def Qqs{S:A7}{k:Nat}: ∀(rows0 rows:List (List AV)) (A L R:List Value),Ce S k rows0 A->rows0.length*k<=A.length->Ce S k rows L->
 rows.length*k<=L.length->Ce S k (rows0++rows) (A.take (rows0.length*k)++(L++R))
 |[],rows,A,L,R,z,G,h,O=>by
  simp only[Hx,mE,Fh,Fs];clear z G A;induction rows generalizing L with
  |nil=>simp only[Ce]
  |cons r rows ih=>
   simp only[Ce,Dp,Gh,J7] at h O⊢;refine⟨h.1,pY _ _ _ h.2.1,?_⟩
   have:=ih (L.drop k) h.2.2 (by rw[Dt];omega)
   rwa [ZdB (by omega)]
 |r::rows0,rows,A,L,R,h0,hA,h,O=>by
  simp only[Ce,Dp,Gh,J7,CP] at h0 hA⊢;have ih:=Qqs rows0 rows (A.drop k) L R h0.2.2 (by rw[Dt];omega) h O;have e:A.take (rows0.length*k+k)=A.take k++(A.drop k).take (rows0.length*k):=by rw[<-mC];congr 1;omega
  have hk:(A.take k).length=k:=by rw[Cp];omega
  rw[e,HY];refine⟨h0.1,?_,?_⟩
  .obtain⟨_,Z⟩:=Y2 k r A h0.2.1 (by omega);have Q:=Y3 _ _ Z;rw[GE (by omega)] at Q;exact pY _ _ _ Q
  .rw[Xp,Ei (by omega),hk,I6];simpa using ih
def pX{S:A7}{k:Nat}: ∀(rows:List (List D)) (L:List Value),rdr S.ok S.hp k rows L->Ce S k (Bo rows) L
 |[],_,_=>by simp only[Bo,BY,Ce]
 |r::rows,L,h=>by
  simp only[rdr] at h;simp only[Bo,Bm,Ce];exact⟨by simpa using h.1,(Qfl _ _).2 h.2.1,pX rows _ h.2.2⟩
section
variable {P:Program}{w:World}
def pL{b p:Nat}{vs:Array Value}{U:TypeId}{Q:Nat×Nat}(Z:w.heap[b]? =some (.cells vs U Q)){n:Nat}(hn:p+n<=vs.size):
 (loadCells ⟨b,p,none⟩ n).run P w= .ok ((vs.toList.drop p).take n).toArray w:=by
 have O: ∀j v,((vs.toList.drop p).take n)[j]? =some v->w.cell? ((⟨b,p,none⟩:Addr).add j)=some v:=by
  intro j v z;rw[Rw,Qyp Z];rw[eO] at z;split at z
  .rw[Ib] at z;simpa using z
  .cases z
 have hl:((vs.toList.drop p).take n).length=n:=by rw[Cp,Dt];simp;omega
 have G:=run_loadCells_list (P:=P) w ⟨b,p,none⟩ _ O;rwa [hl] at G
def Qo9{Z uT e ty:TypeId}{te:TI}(hs:P.underlying Z=some (.slice e))(hE:tI P e=some te){u2:TypeId}(Q:P.underlying uT=some (.slice u2))
 {base:Option Addr}{sLen sCap n:Nat}{x:Value}{L:List Value}(O:(Builtin.lenOf x).run P w= .ok n w)(z:(Builtin.firstCells te.size n x).run P w= .ok L.toArray w)
 (G:sLen+n<=sCap):(Builtin.append_ #[Z,uT] ty #[.slice base sLen sCap,x]).run P w=
  ((match base with|some a=>storeCells (a.add (sLen*te.size)) L|none=>pure ())>>=λ_=>(pure (.slice base (sLen+n) sCap):Sem Value)).run P w:=by
 have h1:(underlying Z).run P w= .ok (.slice e) w:=by simp[underlying,hs]
 have h2:(underlying uT).run P w= .ok (.slice u2) w:=by simp[underlying,Q]
 unfold Builtin.append_;simp only[ZdJ,Gw,GD,Sem.run_bind,h1,Result.andThen_ok,Kw hE,h2];simp only[Sem.run_pure,Result.andThen_ok,Dx,CY,O,Sem.run_ite,Ak G,Sem.run_bind,z,Xs,Bt];cases base<;>simp
def Qo8{sT uT e ty:TypeId}{G:TI}(hs:P.underlying sT=some (.slice e))(hE:tI P e=some G){u2:TypeId}(ah:P.underlying uT=some (.slice u2))(ac:G.bytes≠0)
 (hz:G.zero.length=G.size)(af:G.size≠0)
 {base:Option Addr}{sLen sCap n:Nat}{x:Value}{L old:List Value}(aa:(Builtin.lenOf x).run P w= .ok n w)(O: ∀k,(Builtin.firstCells G.size n x).run P {w with drawn:=k}= .ok L.toArray {w with drawn:=k})
 (ab: ∀k,(Builtin.firstCells G.size sLen (.slice base sLen sCap)).run P {w with drawn:=k}= .ok old.toArray {w with drawn:=k})
 (Q: ¬sLen+n<=sCap)(ak:(sLen+n+512)*G.bytes<=140737488355328): ∃cap R,sLen+n<=cap/\R.length=(cap - (sLen+n))*G.size/\
  (Builtin.append_ #[sT,uT] ty #[.slice base sLen sCap,x]).run P w= .ok (.slice (some ⟨w.heap.size,0,none⟩) (sLen+n) cap) (World.alloc {w with drawn:=w.drawn+1} (.cells (old++L++R).toArray e)):=by
 have h1: ∀w:World,(underlying sT).run P w= .ok (.slice e) w:=by intro w;simp[underlying,hs]
 have h2: ∀w:World,(underlying uT).run P w= .ok (.slice u2) w:=by intro w;simp[underlying,ah]
 obtain⟨z,ai,aj,an⟩:=jO hE hz af;obtain⟨i,u,hi,hu,am,Z,_⟩:=Pf hE;have ag: ∀w:World,(typeInfo e).run P w= .ok i w:=by intro w;simp[typeInfo,hi]
 refine⟨(Question.appendCap (sLen+n) sCap e).cut (w.tape w.drawn (.appendCap (sLen+n) sCap e)),(Builtin.zeroCells z.cells ((Question.appendCap (sLen+n) sCap e).cut (w.tape w.drawn (.appendCap (sLen+n) sCap e)) - (sLen+n))).toList,?_,?_,?_⟩
 .simp only[Question.cut];omega
 .simp[Builtin.zeroCells,aj]
 have ad: ¬(Builtin.nextslicecap (sLen+n) sCap*i.bytes>2^48):=by
  rw[<-Z];have h3:=Qabm (sLen+n) sCap (by omega);have h4:=I5 G.bytes h3;have h5:2*(sLen+n+512)*G.bytes=2*((sLen+n+512)*G.bytes):=Nat.mul_assoc _ _ _;omega
 unfold Builtin.append_;simp only[ZdJ,Gw,GD,Sem.run_bind,h1,Result.andThen_ok,Kw hE,h2];simp only[Sem.run_pure,Result.andThen_ok,Dx,CY,aa,Sem.run_ite,Ad Q,Sem.run_bind,ag,Xs,Bt,false_or];rw[Ad (by rw[<-Z];exact λhh=>ac hh.2),Ad ad];simp only[run_choose,Question.forced,Dx,CY,Result.andThen_ok,run_askRoom,ab,O,ai];simp only[newRow,Sem.run_bind,run_newObj,Result.andThen_ok,Sem.run_pure];rw[show (old++L++(Builtin.zeroCells z.cells ((Question.appendCap (sLen+n) sCap e).cut (w.tape w.drawn (.appendCap (sLen+n) sCap e)) - (sLen+n))).toList).toArray=
  old.toArray++L.toArray++Builtin.zeroCells z.cells ((Question.appendCap (sLen+n) sCap e).cut (w.tape w.drawn (.appendCap (sLen+n) sCap e)) - (sLen+n)) from by apply RG;simp]
 rfl
end
def Qx7{ok:Nat->Prop}{hp:Nat->Option Obj}{z:List D}{x:List Value}(h:rdl ok hp z x): ∀(n m:Nat),n<=m->rdr ok hp z.length (List.replicate n z) (Cv m x)
 |0,_,_=>by simp only[List.replicate_zero,rdr]
 |n+1,0,O=>by omega
 |n+1,m+1,O=>by
  have G:=kL _ _ h;simp only[Zew,Cv,rdr];refine⟨trivial,zB _ _ _ (YC _ _ h),?_⟩;rw[Xp,Ei (by omega),G,I6];simpa using Qx7 h n m (by omega)
section
variable {P:Program}{tm:List (Nat×AV)}{h:Nat->Option Aq}{nx:Nat}{o:Oper}{K:Ai}
def Qrx{T:TypeId}{x y:Operand}(ho:o.op= .makeSlice T x y)(G:Bs (Qhl P nx (Aw tm x) (Aw tm y) K) (tI P T)):Ck P tm h nx o K:=by
 cases hT:tI P T with
 |none=>rw[hT] at G;exact G.elim
 |some ti=>
 rw[hT] at G;simp only[Bs,Qhl] at G;cases hf:ti.kind<;>rw[hf] at G<;>try exact G.elim
 rename_i e;have hu:=Rx hT hf;have aq: ∃n m,Aw tm x= .im (.int .i64 n)/\Aw tm y= .im (.int .i64 m)/\Bs (msE nx e n m K) (tI P e):=by
  revert G;generalize Aw tm x=X;generalize Aw tm y=Y;intro G;cases X<;>try exact G.elim
  rename_i d;cases d<;>try exact G.elim
  rename_i k n;cases k<;>try exact G.elim
  cases Y<;>try exact G.elim
  rename_i d;cases d<;>try exact G.elim
  rename_i k m;cases k<;>try exact G.elim
  exact⟨_,_,rfl,rfl,G⟩
 obtain⟨n,m,hx,hy,G⟩:=aq;cases hE:tI P e with
 |none=>rw[hE] at G;exact G.elim
 |some te=>
 rw[hE] at G;simp only[Bs,msE] at G;obtain⟨hz,ax,hnm,hm,av,hl,G⟩:=G;obtain⟨z,am,an,ak⟩:=jO hE hl hz;obtain⟨i,u,hi,ay,aw,af,_⟩:=Pf hE;have aj:z.cells.toList≠[]:=by
  intro hh
  have:z.cells.size=0:=by rw[<-FF,hh];rfl
  omega
 have ao:((Array.range (m.toNat*te.size)).map λi=>z.cells[i % z.cells.size]!).toList=Cv m.toNat z.cells.toList:=by
  rw[<-Qrv _ aj m.toNat,Xv,ZeD,FF,an];apply SO;intro i _;exact Qxx _ _
 refine⟨_,_,BL.one (u:=[]) (ks:=[]) (.inl ⟨rfl,rfl⟩) ?_,G⟩;intro C S a hW _ ad aa O;have h1:=O x (by rw[ho];simp[Op.operands]);have h2:=O y (by rw[ho];simp[Op.operands]);rw[hx] at h1;rw[hy] at h2;simp only[Aa,rd] at h1 h2;have ac:(execOp a.eval o).run P S.w= .ok (.value (.slice (some ⟨S.w.heap.size,0,none⟩) n.toNat m.toNat))
  (S.w.alloc (.cells ((Array.range (m.toNat*te.size)).map λi=>z.cells[i % z.cells.size]!) e)):=by
  have au:(i.bytes:Int)*m<=2^48:=by
   rw[<-af];have h3:(te.bytes:Int)*m<=65536*m:=Zeh (by omega) (by omega);omega
  have ai:IntKind.i64.wrap n=n:=IntWalk.i64_in n (by omega);have ah:IntKind.i64.wrap m=m:=IntWalk.i64_in m (by omega);simp only[execOp,ho,h1,h2,Instr.makeSlice,Sem.run_bind];rw[show (underlying T).run P S.w= .ok (.slice e) S.w from by simp[underlying,hu]];have ag:(typeInfo e).run P S.w= .ok i S.w:=by simp[typeInfo,hi]
  simp only[Result.andThen_ok,asInt,asIntOf,Sem.run_bind,Sem.run_pure,ag,ai,ah];have ab:((decide (m<0)||decide ((i.bytes:Int)*m>2^48))||decide (n<0)||decide (n>m))=false:=by
   simp only[Bool.or_eq_false_iff,HZ];omega
  rw[ab];simp only[Dx,CY,Sem.run_bind,run_askRoom,Result.andThen_ok,Kw hE,Sem.run_ite,am,newRow,run_newObj,Sem.run_pure];by_cases Z:m.toNat*te.size=0
  .have:((Array.range 0).map λi=>(#[]:Array Value)[i % (#[]:Array Value).size]!)=(Array.range 0).map λi=>z.cells[i % z.cells.size]! :=by simp
   simp only[Z,Bt,Result.andThen_ok,this];simp
  .simp only[Z,CY,Result.andThen_ok];simp
 refine⟨_,_,some ⟨S.w.heap.size,0,m.toNat⟩,.inl ac,Xc (w':=S.w.alloc (.cells _ e)) (ob:= .cells _ e) rfl rfl rfl rfl (ad rfl) (λn f hf=>aa n f hf rfl),?_⟩;intro hp;constructor
 .simp only[Ap];refine⟨by simp[KH];omega,by simp;omega,_,dU rfl,by simp,?_⟩;rw[Jc,ao,<-hl];exact Qx7 (ak _ _) _ _ (by omega)
 .simp only[Aa];refine⟨rfl,λe' Q=> ?_⟩;simp only[A7.one,Bt,AP] at Q⊢;subst Q;simp[Ah.len]
end
def pC(l:Option G7)(n:Nat):Value:=match l with|none=> .slice none 0 0|some l=> .slice (some ⟨l.b,l.p,none⟩) n l.cap
def fP(S:A7)(e z sLen:Nat)(A:List Value):Option G7->Prop
 |none=>sLen=0/\A=[]
 |some l=>sLen<=l.cap/\ ∃G,S.hp l.b=some (.cells G e (0,0))/\A=G.toList.drop l.p/\l.p+l.cap*z<=G.size
section
variable {P:Program}
def P1{C:Bj}{S:A7}(hW:Wf C S){nx:Nat}{ks:List Nat}{sT uT e ty u2:TypeId}{z:TI}(hs:P.underlying sT=some (.slice e))(hE:tI P e=some z)
 (ac:P.underlying uT=some (.slice u2))(am:z.bytes≠0)(hz:z.zero.length=z.size)(au:z.size≠0){sLen n:Nat}(aj:(sLen+n+512)*z.bytes<=140737488355328)
 {l0:Option G7}{A:List Value}(hA:fP S e z.size sLen A l0)
 {x:Value}{L:List Value}(Q:(Builtin.lenOf x).run P S.w= .ok n S.w)(G: ∀k,(Builtin.firstCells z.size n x).run P {S.w with drawn:=k}= .ok L.toArray {S.w with drawn:=k})
 (hL:L.length=n*z.size)(aq: ∀v∈L,v.oneCell'=true)(ag: ∀l,l0=some l-> ∃o f,o∈ks/\S.h o=some (true,f)/\S.ρ o=some l)
 (aa:S.h nx=none)(Z: ∀n f,S.h n=some f->nx∉f.2.nms):
 ∃w' l',(Builtin.append_ #[sT,uT] ty #[pC l0 sLen,x]).run P S.w= .ok (pC l' (sLen+n)) w'/\(∀ea,Jv S nx ea l' ks w')/\
  match l' with|none=>sLen=0/\n=0|some l=>sLen+n<=l.cap/\ ∃vs R,w'.heap[l.b]? =some (.cells vs e (0,0))/\l.p+l.cap*z.size<=vs.size/\
   vs.toList.drop l.p=A.take (sLen*z.size)++(L++R):=by
 have ab:{S.w with drawn:=S.w.drawn}=S.w:=rfl;cases l0 with
 |none=>
  obtain⟨h0,hA⟩:=hA;subst h0 hA;by_cases hn:n=0
  .subst hn;have av:L=[]:=Pv.1 (by simpa using hL);subst av;refine⟨S.w,none,?_,λea=>Ql6 aa Z,rfl,rfl⟩
   have:=Qo9 (P:=P) (w:=S.w) (ty:=ty) hs hE ac (base:=none) (sLen:=0) (sCap:=0) Q (by have:=G S.w.drawn;rwa [ab] at this) (by omega)
   simpa[pC] using this
  .obtain⟨cap,R,h1,h2,h3⟩:=Qo8 (P:=P) (w:=S.w) (ty:=ty) hs hE ac am hz au (base:=none) (sLen:=0) (sCap:=0) (old:=[]) Q G (by intro k;simp[Builtin.firstCells]) (by omega) aj;refine⟨_,some ⟨S.w.heap.size,0,cap⟩,h3,λea=>Xc (w':=World.alloc {S.w with drawn:=S.w.drawn+1} (.cells ([]++L++R).toArray e)) (ob:= .cells ([]++L++R).toArray e) rfl rfl rfl rfl aa Z,h1,([]++L++R).toArray,R,by simp[World.alloc],?_,by simp⟩;have h4:n*z.size+(cap - (0+n))*z.size=cap*z.size:=by rw[<-Gh];congr 1;omega
   rw[FM] at h2 h4;simp[hL,h2];omega
 |some l=>
  obtain⟨ad,vs,hb,af,az⟩:=hA;have a0:A.length=vs.size - l.p:=by rw[af];simp
  by_cases O:sLen+n<=l.cap
  .have ay:sLen*z.size+n*z.size<=l.cap*z.size:=by rw[<-Gh];exact I5 _ O
   obtain⟨w',h1,h2,h3,h4,h5⟩:=Qf9 (P:=P) (w:=S.w) (b:=l.b) (p:=l.p+sLen*z.size) (T:=e) L 0 vs aq (by rw[hL];omega) hb;obtain⟨o,f,an,ah,ai⟩:=ag l rfl;have ak:=(hW.loc o _ l ah ai).1;refine⟨w',some l,?_,?_,O,(Cq vs.toList (l.p+sLen*z.size+0) L).toArray,A.drop (sLen*z.size+L.length),?_,?_,?_⟩
   .have:=Qo9 (P:=P) (w:=S.w) (ty:=ty) hs hE ac (base:=some ⟨l.b,l.p,none⟩) (sLen:=sLen) (sCap:=l.cap) Q (by have:=G S.w.drawn;rwa [ab] at this) O
    simp only[Rw,Sem.run_bind,h1,Result.andThen_ok,Sem.run_pure] at this;simpa[pC] using this
   .intro ea;refine⟨h3,h4,h5,by rw[h2];simp,?_,.inr aa,?_,?_,λn f hf _=>Z n f hf⟩
    .intro b a8 ax
     have:=ax o f l an ah ai
     rw[h2,lY,Ad this]
    .intro lo aw;obtain rfl:=A8 aw;exact⟨by rw[h2];simpa using ak,.inr ⟨o,f,l,an,ah,ai,rfl⟩⟩
    .intro f hf;rw[aa] at hf;cases hf
   .rw[h2];simp[ak]
   .simp[Cq,Cp,Dt];omega
   .rw[Xx,Zex,Qg9 _ _ _ _ (by simp;omega),<-af];simp[Cq]
  .have ao: ∀k,(Builtin.firstCells z.size sLen (.slice (some ⟨l.b,l.p,none⟩) sLen l.cap)).run P {S.w with drawn:=k}= .ok (A.take (sLen*z.size)).toArray {S.w with drawn:=k}:=by
    intro k;have ay:sLen*z.size<=l.cap*z.size:=I5 _ ad;rw[af];exact pL (w:={S.w with drawn:=k}) hb (by omega)
   obtain⟨cap,R,h1,h2,h3⟩:=Qo8 (P:=P) (w:=S.w) (ty:=ty) hs hE ac am hz au (base:=some ⟨l.b,l.p,none⟩) (sLen:=sLen) (sCap:=l.cap) Q G ao O aj;refine⟨_,some ⟨S.w.heap.size,0,cap⟩,h3,λea=>Xc (w':=World.alloc {S.w with drawn:=S.w.drawn+1} (.cells (A.take (sLen*z.size)++L++R).toArray e)) (ob:= .cells (A.take (sLen*z.size)++L++R).toArray e) rfl rfl rfl rfl aa Z,h1,(A.take (sLen*z.size)++L++R).toArray,R,by simp[World.alloc],?_,by simp⟩;have h4:sLen*z.size+n*z.size+(cap - (sLen+n))*z.size=cap*z.size:=by rw[<-Gh,<-Gh];congr 1;omega
   have h5:sLen*z.size<=l.cap*z.size:=I5 _ ad;simp[hL,h2,Cp];omega
def yO{S:A7}{k:Nat}: ∀(rows:List (List AV)) (L:List Value),B7 Mk rows->Ce S k rows L->rows.length*k<=L.length-> ∀v∈L.take (rows.length*k),v.oneCell'=true
 |[],L,_,_,_=>by simp
 |r::rows,L,O,h,Q=>by
  simp only[Ce] at h;simp only[Dp,Gh,J7] at Q⊢;have e:L.take (rows.length*k+k)=L.take k++(L.drop k).take (rows.length*k):=by rw[<-mC];congr 1;omega
  rw[e];intro v z;rcases B5.1 z with z|z
  .obtain⟨_,G⟩:=Y2 k r L h.2.1 (by omega);rw[GE (Zfi h.1)] at G;exact pK r _ (O r (by simp)) G v z
  .exact yO rows _ (λx Z=>O x (by simp[Z])) h.2.2 (by rw[Dt];omega) v z
def Qsa: ∀(r:List D),B8 r=true->Mk (r.map .im)=true
 |[],_=>rfl
 |x::r,h=>by
  simp only[B8,AZ] at h;simp only[Bm,Mk,AV.one,AZ];exact⟨h.1,Qsa r h.2⟩
def Qyt{rows:List (List D)}(h:B7 B8 rows):B7 Mk (Bo rows):=by
 intro r z;simp only[Bo,BZ] at z;obtain⟨x,G,rfl⟩:=z;exact Qsa x (h x G)
def Qrl{ok:Nat->Prop}{hp:Nat->Option Obj}{k:Nat}: ∀(rows:List (List D)) (L:List Value),rdr ok hp k rows L->rows.length*k<=L.length->rdr ok hp k rows (L.take (rows.length*k))
 |[],_,_,_=>by simp only[rdr]
 |r::rows,L,h,O=>by
  simp only[rdr,Dp,Gh,J7] at h O⊢;refine⟨h.1,?_,?_⟩
  .obtain⟨_,G⟩:=WZ k r L h.2.1 (by omega);have z:=YC _ _ G;rw[GE (by omega)] at z;have e:L.take (rows.length*k+k)=L.take k++(L.drop k).take (rows.length*k):=by rw[<-mC];congr 1;omega
   rw[e];exact zB _ _ _ z
  .rw[Zfq]
   have:=Qrl rows _ h.2.2 (by rw[Dt];omega)
   rwa [show rows.length*k+k - k=rows.length*k from by omega]
def Qiu{S:A7}{k:Nat}: ∀(rows:List (List AV)) (L:List Value),Ce S k rows L->rows.length*k<=L.length->Ce S k rows (L.take (rows.length*k))
 |[],_,_,_=>by simp only[Ce]
 |r::rows,L,h,O=>by
  simp only[Ce,Dp,Gh,J7] at h O⊢;refine⟨h.1,?_,?_⟩
  .obtain⟨_,G⟩:=Y2 k r L h.2.1 (by omega);have z:=Y3 _ _ G;rw[GE (by omega)] at z;have e:L.take (rows.length*k+k)=L.take k++(L.drop k).take (rows.length*k):=by rw[<-mC];congr 1;omega
   rw[e];exact pY _ _ _ z
  .rw[Zfq]
   have:=Qiu rows _ h.2.2 (by rw[Dt];omega)
   rwa [show rows.length*k+k - k=rows.length*k from by omega]
def Qxq{ok:Nat->Prop}{hp:Nat->Option Obj}{k:Nat}: ∀(rows:List (List D)) (L:List Value),rdr ok hp k rows L->k≠0->rows.length*k<=L.length
 |[],_,_,_=>by simp
 |r::rows,L,h,z=>by
  simp only[rdr,Dp,Gh,J7] at h⊢;obtain⟨G,_⟩:=WZ k r L h.2.1 (by omega)
  have:=Qxq rows _ h.2.2 z
  rw[Dt] at this;omega
def Src.rows:Src->List (List AV)
 | .d _ _ rows=>Bo rows
 | .a _ _ rows=>rows
 | .no=>[]
def Src.w:Src->Nat
 | .d _ k _| .a _ k _=>k
 | .no=>0
def Src.us:Src->List Nat
 | .d u _ _| .a u _ _=>u
 | .no=>[]
def WC{C:Bj}{S:A7}(hW:Wf C S){h:Nat->Option Aq}{X:AV}{v:Value}(hc:Aa S X v)(hu: ∀n∈(En h X).us,S.h n=h n)(O:(En h X).okOne)
 {z:Nat}(hz:z≠0)(Z:(En h X).w=z\/(En h X).rows=[]):
 ∃L,(Builtin.lenOf v).run P S.w= .ok (En h X).rows.length S.w/\(∀k,(Builtin.firstCells z (En h X).rows.length v).run P {S.w with drawn:=k}= .ok L.toArray {S.w with drawn:=k})/\
  L.length=(En h X).rows.length*z/\Ce S z (En h X).rows L/\(∀v∈L,v.oneCell'=true)/\(En h X).rows.length<=KH:=by
 cases X<;>try exact O.elim
 case im d=>
  cases d<;>try exact O.elim
  rename_i nz k rows;simp only[En,Src.rows,Src.w,Src.okOne] at O Z⊢;simp only[Aa,rd] at hc;rcases hc with ⟨rfl|⟨_,a,rfl⟩,rfl⟩|⟨b,p,cap,vs,T,fr,rfl,_,h2,h3,_,h5,h6⟩
  .exact⟨[],by simp[Builtin.lenOf,Bo],by simp[Builtin.firstCells],by simp[Bo],by simp[Bo,Ce],by simp,by simp[Bo]⟩
  .refine⟨[],by simp[Builtin.lenOf,Bo],?_,by simp[Bo],by simp[Bo,Ce],by simp,by simp[Bo]⟩;intro j;simp[Builtin.firstCells,Bo,loadCells,loadCellsFrom]
  .by_cases hr:rows=[]
   .subst hr;refine⟨[],by simp[Builtin.lenOf,Bo],?_,by simp[Bo],by simp[Bo,Ce],by simp,by simp[Bo]⟩;intro j;simp[Builtin.firstCells,Bo,loadCells,loadCellsFrom]
   .have af:k=z:=by
     rcases Z with Z|Z
     .exact Z
     .simp[Bo] at Z;exact absurd Z hr
    subst af;have hl:=Qxq rows _ h6 hz;have aa:vs.toList.length=vs.size:=FF;have ad:=pX _ _ h6;have G:(Bo rows).length=rows.length:=by simp[Bo]
    refine⟨(vs.toList.drop p).take (rows.length*k),by simp[Builtin.lenOf,Bo],?_,?_,?_,?_,by rw[G];exact h3⟩
    .intro j;rw[G];refine pL (w:={S.w with drawn:=j}) h5 ?_;by_cases ak:p<=vs.size
     .rw[Dt,aa] at hl;omega
     .have:0<rows.length*k:=Nat.mul_pos (eM.2 hr) (by omega)
      rw[Dt,aa] at hl;omega
    .rw[Cp,G];omega
    .have:=Qiu _ _ ad (by rw[G];exact hl)
     rwa [G] at this
    .have:=yO _ _ (Qyt O) ad (by rw[G];exact hl)
     rwa [G] at this
 case own n=>
  simp only[En] at O Z hu⊢;simp only[Aa] at hc;cases hn:h n with
  |none=>rw[hn] at O;exact O.elim
  |some e=>
  rw[hn] at O Z hu;obtain⟨mu,e⟩:=e;cases e<;>try exact O.elim
  case arr T k rows=>
   simp only[dS,Src.rows,Src.w,Src.okOne,Src.us] at O Z hu⊢;have hS:S.h n=_:=(hu n (by simp)).trans hn;have Q:=hW.obj _ _ hS;have hc:=hc.2 _ hS;have G:(Bo rows).length=rows.length:=by simp[Bo]
   cases hl0:S.ρ n with
   |none=>
    rw[hl0] at hc Q;simp only[Ap] at Q;obtain⟨_,rfl⟩:=Q;simp only at hc;subst hc;exact⟨[],by simp[Builtin.lenOf,Bo],by simp[Builtin.firstCells],by simp[Bo],by simp[Bo,Ce],by simp,by simp[Bo]⟩
   |some l=>
    rw[hl0] at hc Q;simp only[Ap,Ah.len] at Q hc;subst hc;obtain⟨ab,ac,vs,hb,aj,hr⟩:=Q;by_cases ah:rows=[]
    .subst ah;refine⟨[],by simp[Builtin.lenOf,Bo],?_,by simp[Bo],by simp[Bo,Ce],by simp,by simp[Bo]⟩;intro j;simp[Builtin.firstCells,Bo,loadCells,loadCellsFrom]
    .have af:k=z:=by
      rcases Z with Z|Z
      .exact Z
      .simp[Bo] at Z;exact absurd Z ah
     subst af;have ad:=pX _ _ hr;have ai:rows.length*k<=l.cap*k:=I5 _ ac;have aa:vs.toList.length=vs.size:=FF;have ag:rows.length*k<=(vs.toList.drop l.p).length:=by rw[Dt,aa];omega
     refine⟨(vs.toList.drop l.p).take (rows.length*k),by simp[Builtin.lenOf,Bo],?_,?_,?_,?_,by rw[G];exact ab⟩
     .intro j;rw[G];exact pL (w:={S.w with drawn:=j}) hb (by omega)
     .rw[Cp,G];omega
     .have:=Qiu _ _ ad (by rw[G];exact ag)
      rwa [G] at this
     .have:=yO _ _ (Qyt O) ad (by rw[G];exact ag)
      rwa [G] at this
  case arrA T k rows=>
   simp only[dS,Src.rows,Src.w,Src.okOne,Src.us] at O Z hu⊢;have hS:S.h n=_:=(hu n (by simp)).trans hn;have Q:=hW.obj _ _ hS;have hc:=hc.2 _ hS;cases hl0:S.ρ n with
   |none=>
    rw[hl0] at hc Q;simp only[Ap] at Q;obtain⟨_,rfl⟩:=Q;simp only at hc;subst hc;exact⟨[],by simp[Builtin.lenOf],by simp[Builtin.firstCells],by simp,by simp[Ce],by simp,by simp⟩
   |some l=>
    rw[hl0] at hc Q;simp only[Ap,Ah.len] at Q hc;subst hc;obtain⟨ab,ac,vs,hb,aj,hr⟩:=Q;by_cases ah:rows=[]
    .subst ah;refine⟨[],by simp[Builtin.lenOf],?_,by simp,by simp[Ce],by simp,by simp⟩;intro j;simp[Builtin.firstCells,loadCells,loadCellsFrom]
    .have af:k=z:=by
      rcases Z with Z|Z
      .exact Z
      .exact absurd Z ah
     subst af;have ai:rows.length*k<=l.cap*k:=I5 _ ac;have aa:vs.toList.length=vs.size:=FF;have ag:rows.length*k<=(vs.toList.drop l.p).length:=by rw[Dt,aa];omega
     refine⟨(vs.toList.drop l.p).take (rows.length*k),by simp[Builtin.lenOf],?_,?_,?_,?_,ab⟩
     .intro j;exact pL (w:={S.w with drawn:=j}) hb (by omega)
     .rw[Cp];omega
     .exact Qiu _ _ hr ag
     .exact yO _ _ O hr ag
end
def Qjh{S:A7}{k:Nat}: ∀(rows:List (List D)) (L:List Value),Ce S k (Bo rows) L->rdr S.ok S.hp k rows L
 |[],_,_=>by simp only[rdr]
 |r::rows,L,h=>by
  simp only[Bo,Bm,Ce] at h;simp only[rdr];exact⟨by simpa using h.1,(Qfl _ _).1 h.2.1,Qjh rows _ h.2.2⟩
def aS{S S':A7}{T k:Nat}{rows:List (List D)}{l:Option G7}(G:S'.ok=S.ok)(z:S'.hp=S.hp)(h:Ap S l (.arrA T k (Bo rows))):Ap S' l (.arr T k rows):=by
 simp only[Ap] at h⊢;refine⟨by simpa[Bo] using h.1,?_⟩;cases l with
 |none=>simpa[Bo] using h.2
 |some lc=>
  obtain⟨_,O,vs,Q,Z,h4⟩:=h;refine⟨by simpa[Bo] using O,vs,by rw[z];exact Q,Z,?_⟩;rw[G,z];exact Qjh _ _ h4
section
variable {P:Program}{tm:List (Nat×AV)}{h:Nat->Option Aq}{nx:Nat}{o:Oper}{K:Ai}
def P2{T U u2 e:TypeId}{G:TI}{s x:Operand}(hT:P.underlying T=some (.slice e))(hU:P.underlying U=some (.slice u2))(hE:tI P e=some G)
 {c:Call}(ho:o.op= .call c)(ad:c.callee= .builtin .append)(aa:c.args= #[s,x])(bo:c.argTypes= #[T,U])
 (an:G.bytes≠0)(hz:G.zero.length=G.size)(Z:G.size≠0){u ks:List Nat}{rows0:List (List AV)}
 (az:(En h (Aw tm x)).okOne)(hw:(En h (Aw tm x)).w=G.size\/(En h (Aw tm x)).rows=[])(a9: ∀n∈(En h (Aw tm x)).us,n∈u++ks)
 (bd:(rows0.length+(En h (Aw tm x)).rows.length+512)*G.bytes<=140737488355328)
 (hnm: ∀m∈BJ (rows0++(En h (Aw tm x)).rows),∃n f,n∈u++ks/\h n=some f/\m∈f.2.nms)
 (ay:((∃k0,Aw tm s= .im (.sl true k0 []))/\rows0=[])\/(∃n f,Aw tm s= .own n/\n∈ks/\h n=some (true,f)/\((∃rows,f= .arr e G.size rows/\rows0=Bo rows)\/f= .arrA e G.size rows0)))
 {ea:Ah}(au:ea= .arrA e G.size (rows0++(En h (Aw tm x)).rows)\/ ∃rows,ea= .arr e G.size rows/\Bo rows=rows0++(En h (Aw tm x)).rows)
 (hk:K (.own nx) {use:=u,kill:=ks,new:=[(nx,(true,ea))],cnt:=1}):Ck P tm h nx o K:=by
 refine⟨_,_,BL.one (u:=u) (ks:=ks) (.inl ⟨rfl,rfl⟩) ?_,hk⟩;intro C S a hW hu bf ag ah;have Q:=ah s (by rw[ho];simp[Op.operands,Call.operands,aa,ad]);have h2:=ah x (by rw[ho];simp[Op.operands,Call.operands,aa,ad]);obtain⟨L,aw,af,am,bc,bb,bq⟩:=WC hW h2 (λn hn=>hu n (a9 n hn)) az Z hw;have bl:=bf rfl;have ak: ∃l0 A,a.eval s=pC l0 rows0.length/\fP S e G.size rows0.length A l0/\
  (∀l,l0=some l-> ∃o f,o∈ks/\S.h o=some (true,f)/\S.ρ o=some l)/\Ce S G.size rows0 A/\rows0.length*G.size<=A.length:=by
  rcases ay with ⟨⟨k0,hs⟩,rfl⟩|⟨n,f,hs,ax,hf,av⟩
  .rw[hs] at Q;simp only[Aa,rd] at Q;rcases Q with ⟨Q,_⟩|⟨b,p,cap,vs,T,fr,_,bi,_⟩
   .have Q:=Qr7 Q;exact⟨none,[],by rw[Q];rfl,⟨rfl,rfl⟩,(by intro l hl;cases hl),by simp only[Ce],by simp⟩
   .exact absurd rfl (bi trivial)
  .rw[hs] at Q;have hS:S.h n=_:=(hu n (by simp[ax])).trans hf;have z:=hW.obj _ _ hS;simp only[Aa] at Q;have Q:=Q.2 _ hS;cases hl0:S.ρ n with
   |none=>
    rw[hl0] at Q z;simp only at Q
    have:rows0=[]:=by
     rcases av with ⟨rows,rfl,rfl⟩|rfl
     .simp only[Ap] at z;rw[z.2];rfl
     .simp only[Ap] at z;exact z.2
    subst this;exact⟨none,[],by rw[Q];rfl,⟨rfl,rfl⟩,(by intro l hl;cases hl),by simp only[Ce],by simp⟩
   |some l=>
    rw[hl0] at Q z;simp only at Q;have ao:f.len=rows0.length/\rows0.length<=l.cap/\ ∃vs,S.hp l.b=some (.cells vs e (0,0))/\l.p+l.cap*G.size<=vs.size/\Ce S G.size rows0 (vs.toList.drop l.p):=by
     rcases av with ⟨rows,rfl,rfl⟩|rfl
     .simp only[Ap] at z;obtain⟨_,O,vs,hb,Z,hr⟩:=z;exact⟨by simp[Ah.len,Bo],by simpa[Bo] using O,vs,hb,Z,pX _ _ hr⟩
     .simp only[Ap] at z;obtain⟨_,O,vs,hb,Z,hr⟩:=z;exact⟨rfl,O,vs,hb,Z,hr⟩
    obtain⟨be,O,vs,hb,Z,hr⟩:=ao;have br:rows0.length*G.size<=l.cap*G.size:=I5 _ O;have bp:vs.toList.length=vs.size:=FF;refine⟨some l,vs.toList.drop l.p,by rw[Q,be];rfl,⟨O,vs,hb,rfl,Z⟩,?_,hr,by rw[Dt,bp];omega⟩;intro l' bg;obtain rfl:=A8 bg;exact⟨n,f,ax,hS,hl0⟩
 obtain⟨l0,A,hv,hA,ai,bn,ba⟩:=ak;obtain⟨w',l',a0,bm,ac⟩:=P1 hW (nx:=nx) (ks:=ks) (ty:=o.type) hT hE hU an hz Z bd hA aw af am bb ai bl (λn f hf=>ag n f hf rfl);refine⟨pC l' (rows0.length+(En h (Aw tm x)).rows.length),w',l',.inl ?_,bm ea,?_⟩
 .simp only[execOp,ho,resolve,ad,aa,bo,Sem.run_bind,Sem.run_pure,Result.andThen_ok,invoke,builtin];simp[hv,a0]
 intro hp;have bt:G.bytes≠0:=an;have a8:rows0.length+(En h (Aw tm x)).rows.length<=KH:=by
  have:(rows0.length+(En h (Aw tm x)).rows.length+512)*1<=(rows0.length+(En h (Aw tm x)).rows.length+512)*G.bytes:=Nat.mul_le_mul_left _ (by omega)
  simp only[KH];omega
 have hX: ∀m∈BJ (rows0++(En h (Aw tm x)).rows),S.h nx≠none\/m≠nx:=by
  intro m hm;obtain⟨n,f,bj,hf,bh⟩:=hnm m hm;right;rintro rfl;exact ag n f ((hu n bj).trans hf) rfl bh
 have ab:Ap (S.one nx ea l' ks w') l' (.arrA e G.size (rows0++(En h (Aw tm x)).rows)):=by
  simp only[Ap,CS];refine⟨a8,?_⟩;cases l' with
  |none=>
   simp only at ac⊢;rw[ZeZ];exact⟨Pv.1 ac.1,Pv.1 ac.2⟩
  |some l=>
   obtain⟨h3,vs,R,h4,h5,h6⟩:=ac;refine⟨h3,vs,h4,h5,?_⟩;rw[h6];exact xL hp _ _ _ hX (Qqs _ _ _ _ _ bn ba bc (by rw[am];exact AW _))
 have aj:ea.len=rows0.length+(En h (Aw tm x)).rows.length:=by
  rcases au with rfl|⟨rows,rfl,hr⟩
  .simp[Ah.len]
  .simp only[Ah.len];rw[<-CS,<-hr];simp[Bo]
 constructor
 .rcases au with rfl|⟨rows,rfl,hr⟩
  .exact ab
  .rw[<-hr] at ab;exact aS rfl rfl ab
 .simp only[Aa];refine⟨by cases l'<;>rfl,λe' aq=> ?_⟩;simp only[A7.one,Bt,AP] at aq⊢;subst aq;cases l' with
  |none=>rfl
  |some l=>simp only[pC];rw[aj]
def qH(rows:List (List D)):BJ (Bo rows)=[]:=by
 induction rows with
 |nil=>rfl
 |cons r rows ih=>simp only[Bo,Bm,BJ,Qw0,Fs];exact ih
def yI: ∀(a b:List (List AV)),BJ (a++b)=BJ a++BJ b
 |[],_=>rfl
 |x::a,b=>by simp[BJ,yI a b]
def Ra{X:AV}{m:Nat}(z:m∈BJ (En h X).rows): ∃n f,n∈(En h X).us/\h n=some f/\m∈f.2.nms:=by
 cases X<;>try (simp only[En,Src.rows,BJ] at z;cases z;done)
 case im d=>cases d<;>simp only[En,Src.rows,qH,BJ] at z<;>cases z
 case own n=>
  simp only[En] at z⊢;cases hn:h n with
  |none=>rw[hn] at z;simp only[dS,Src.rows,BJ] at z;cases z
  |some e=>
   rw[hn] at z;obtain⟨G,e⟩:=e;cases e<;>simp only[dS,Src.rows,qH,BJ] at z<;>try cases z
   refine⟨n,_,by simp[Src.us,dS],hn,z⟩
def Qab5{T U:TypeId}{s x:Operand}{c:Call}(ho:o.op= .call c)(ag:c.callee= .builtin .append)(ad:c.args= #[s,x])(am:c.argTypes= #[T,U])
 (z:Bs (Qlj P h nx (Aw tm s) (Aw tm x) T K) (tI P U)):Ck P tm h nx o K:=by
 cases hU:tI P U with
 |none=>rw[hU] at z;exact z.elim
 |some ui=>
 rw[hU] at z;simp only[Bs,Qlj] at z;obtain⟨ah,z⟩:=z;cases hu:ui.kind<;>rw[hu] at ah<;>simp only[TK.isSl,Dx] at ah;rename_i u2;have aj:=Rx hU hu;cases hT:tI P T with
 |none=>rw[hT] at z;exact z.elim
 |some ti=>
 rw[hT] at z;simp only[Qsl] at z;cases hf:ti.kind<;>rw[hf] at z<;>try exact z.elim
 rename_i e;have ai:=Rx hT hf;simp only[apK] at z;cases hE:tI P e with
 |none=>rw[hE] at z;exact z.elim
 |some te=>
 rw[hE] at z;simp only[Bs,apE] at z;obtain⟨hz,hl,ak,Q,z⟩:=z;have ab: ∀{m:Nat},m∈BJ (En h (Aw tm x)).rows-> ∃n f,n∈(En h (Aw tm x)).us/\h n=some f/\m∈f.2.nms:=λZ=>Ra Z
 have G:= @P2 P tm h nx o K T U u2 e te s x ai aj hE c ho ag ad am ak hl hz;revert G;generalize En h (Aw tm x)=src at z Q ab;intro G;cases hs:Aw tm s<;>rw[hs] at z<;>try exact z.elim
 case im d=>
  cases d<;>try exact z.elim
  rename_i nz k0 rows;cases nz<;>cases rows<;>try exact z.elim
  simp only[SX] at z;cases src with
  |no=>exact z.elim
  |d u k rows=>
   simp only[O7] at z;obtain⟨O,hb,z⟩:=z;refine G (u:=u) (ks:=[]) (rows0:=[]) Q (O.imp id (λh=>by rw[h];rfl)) (by simp[Src.us]) (by simpa[Src.rows,Bo] using hb) ?_ (.inl ⟨⟨k0,hs⟩,rfl⟩) (.inr ⟨rows,rfl,by simp[Src.rows]⟩) z;intro m Z;simp only[Fs,Src.rows,qH] at Z;cases Z
  |a u k rows=>
   simp only[O7] at z;obtain⟨O,hb,z⟩:=z;refine G (u:=u) (ks:=u) (rows0:=[]) Q (.inl O) (by simp[Src.us]) (by simpa[Src.rows] using hb) ?_ (.inl ⟨⟨k0,hs⟩,rfl⟩) (.inl (by simp[Src.rows])) z;intro m Z;obtain⟨n,f,hn,hf⟩:=ab Z;exact⟨n,f,by simp[Src.us] at hn;simp[hn],hf⟩
 case own n=>
  simp only[SX] at z;cases hn:h n with
  |none=>rw[hn] at z;exact z.elim
  |some ac=>
  rw[hn] at z;obtain⟨mu,ac⟩:=ac;cases mu<;>cases ac<;>try exact z.elim
  case true.arr U0 k0 rows0=>
   simp only[J8] at z;obtain⟨rfl,rfl,z⟩:=z;cases src with
   |no=>exact z.elim
   |d u k rows=>
    simp only[sH] at z;obtain⟨O,af,hb,z⟩:=z;refine G (u:=n::u) (ks:=[n]) (rows0:=Bo rows0) Q (O.imp id (λh=>by rw[h];rfl)) (by intro x hx;simp[Src.us] at hx;simp[hx]) (by simpa[Src.rows,Bo] using hb) ?_
     (.inr ⟨n,_,hs,by simp,hn,.inl ⟨rows0,rfl,rfl⟩⟩) (.inr ⟨rows0++rows,rfl,by simp[Src.rows,Bo]⟩) z
    intro m Z;simp only[Src.rows,yI,qH] at Z;cases Z
   |a u k rows=>
    simp only[sH] at z;obtain⟨O,af,hb,z⟩:=z;refine G (u:=n::u) (ks:=n::u) (rows0:=Bo rows0) Q (.inl O) (by intro x hx;simp[Src.us] at hx;simp[hx]) (by simpa[Src.rows,Bo] using hb) ?_
     (.inr ⟨n,_,hs,by simp,hn,.inl ⟨rows0,rfl,rfl⟩⟩) (.inl (by simp[Src.rows])) z
    intro m Z;simp only[yI,qH,Fs] at Z;obtain⟨n',f,aa,hf⟩:=ab Z;exact⟨n',f,by simp[Src.us] at aa;simp[aa],hf⟩
  case true.arrA U0 k0 rows0=>
   simp only[J8] at z;obtain⟨rfl,rfl,z⟩:=z;cases src with
   |no=>exact z.elim
   |d u k rows=>
    simp only[sG] at z;obtain⟨O,af,hb,z⟩:=z;refine G (u:=n::u) (ks:=[n]) (rows0:=rows0) Q (O.imp id (λh=>by rw[h];rfl)) (by intro x hx;simp[Src.us] at hx;simp[hx]) (by simpa[Src.rows,Bo] using hb) ?_
     (.inr ⟨n,_,hs,by simp,hn,.inr rfl⟩) (.inl (by simp[Src.rows])) z
    intro m Z;simp only[Src.rows,yI,qH,CQ] at Z;exact⟨n,_,by simp,hn,Z⟩
   |a u k rows=>
    simp only[sG] at z;obtain⟨O,af,hb,z⟩:=z;refine G (u:=n::u) (ks:=n::u) (rows0:=rows0) Q (.inl O) (by intro x hx;simp[Src.us] at hx;simp[hx]) (by simpa[Src.rows] using hb) ?_
     (.inr ⟨n,_,hs,by simp,hn,.inr rfl⟩) (.inl (by simp[Src.rows])) z
    intro m Z;simp only[yI,B5] at Z;rcases Z with Z|Z
    .exact⟨n,_,by simp,hn,Z⟩
    .obtain⟨n',f,aa,hf⟩:=ab Z;exact⟨n',f,by simp[Src.us] at aa;simp[aa],hf⟩
end
def Qx9{ok:Nat->Prop}{hp:Nat->Option Obj}: ∀(ds:List (D×D)) (es:List MapEntry),rde ok hp ds es->es.length=ds.length
 |[],_,h=>by simp only[rde] at h;simp[h]
 |(x,y)::ds,_,h=>by
  simp only[rde] at h;obtain⟨e,r,rfl,_,_,z⟩:=h;simp[Qx9 ds r z]
def Rv{P:Program}{w:World}{b:Nat}{es:Array MapEntry}{clock:Nat}(h:w.heap[b]? =some (.map es clock)):(getObj b).run P w= .ok (.map es clock) w:=by
 simp[getObj,Sem.run,h]
section
variable {P:Program}{w:World}{T e k:TypeId}
def Y5(x y:Value):Op.equal T x y=Op.equalIn (9999+1) T x y:=rfl
def L2(z:P.underlying T=some (.slice e))(d:Nat)(b:Option Addr)(n c:Nat):(Op.equalIn (d+1) T (.slice b n c) (.slice none 0 0)).run P w= .ok b.isNone w:=by
 cases b<;>simp[Op.equalIn,run_underlying z]
def Qx1(z:P.underlying T=some (.pointer e))(d:Nat)(b:Option Addr):(Op.equalIn (d+1) T (.pointer b) (.pointer none)).run P w= .ok b.isNone w:=by
 cases b<;>simp[Op.equalIn,run_underlying z]
def L0(z:P.underlying T=some (.map k e))(d:Nat)(b:Option Nat):(Op.equalIn (d+1) T (.map b) (.map none)).run P w= .ok b.isNone w:=by
 cases b<;>simp[Op.equalIn,run_underlying z]
end
def sQ(tm:List (Nat×AV))(h:Nat->Option Aq)(o:Oper):Prop:=
 ∃u:List Nat,∀(C:Bj) (S:A7) (a:Act),Wf C S->(∀n∈u,S.h n=h n)->(∀x∈o.op.operands,Aa S (Aw tm x) (a.eval x))->False
def Ll(P:Program)(tm:List (Nat×AV))(h:Nat->Option Aq)(nx:Nat)(o:Oper)(K:Ai):Prop:=
 ∀(C:Bj) (S:A7) (a:Act) (next:Act->World->Prop) (Q:Exit->Act->World->Prop),
  Wf C S->(∀n,S.h n=h n)->(∀n,nx<=n->S.h n=none)->(∀n e,S.h n=some e-> ∀m∈e.2.nms,m<nx)->
  (∀x∈o.op.operands,Aa S (Aw tm x) (a.eval x))->
  (∀r E v S',K r E->Wf C S'->S'.h=E.appf S.h->BU (λm=> ¬Fr nx E.cnt m) S S'->Aa S' r v->next (a.put o.dst v) S'.w)->
  o.wp P a S.w next Q
abbrev YT(P:Program)(z:Bool)(tm:List (Nat×AV))(h:Nat->Option Aq)(nx:Nat)(o:Oper)(K:Ai):Prop:=
 Ck P tm h nx o K\/(z=true/\(sQ tm h o\/Ll P tm h nx o K))
section
variable {P:Program}{tm:List (Nat×AV)}{h:Nat->Option Aq}{nx:Nat}{o:Oper}{K:Ai}
def dR{T:TypeId}{x:Operand}{c:Call}{u:List Nat}{n:Nat}(ho:o.op= .call c)(G:c.callee= .builtin .len)(z:c.args= #[x])(Z:c.argTypes= #[T])
 (Q: ∀(C:Bj) (S:A7) (v:Value),Wf C S->(∀n∈u,S.h n=h n)->Aa S (Aw tm x) v->(Builtin.len_ #[T] o.type #[v]).run P S.w= .ok (.int .i64 n) S.w)
 (hk:G1 K {use:=u} n):Ck P tm h nx o K:=by
 refine⟨_,_,BL.pure (u:=u) ?_,hk⟩;intro C S a hW hu O;have h1:=O x (by rw[ho];simp[Op.operands,Call.operands,z,G]);refine⟨.int .i64 n,?_,by simp only[Aa,rd]⟩;simp only[execOp,ho,resolve,G,z,Z,Sem.run_bind,Sem.run_pure,Result.andThen_ok,invoke,builtin];simp[Q C S _ hW hu h1]
def Qq0{z:Bool}{B:Prop}(O:(z=true->B)->Ck P tm h nx o K)(Q: ¬B->sQ tm h o):YT P z tm h nx o K:=by
 by_cases G:B
 .exact .inl (O λ_=>G)
 .cases z
  .exact .inl (O λh=>by cases h)
  .exact .inr ⟨rfl,.inl (Q G)⟩
def bW{sq:Bool}{T:TypeId}{x:Operand}{c:Call}(ho:o.op= .call c)(Q:c.callee= .builtin .len)(O:c.args= #[x])(aa:c.argTypes= #[T])
 (z:Bs (lM sq h (Aw tm x) K) (tI P T)):YT P sq tm h nx o K:=by
 have aj:x∈o.op.operands:=by rw[ho];simp[Op.operands,Call.operands,O,Q]
 cases hT:tI P T with
 |none=>rw[hT] at z;exact z.elim
 |some ti=>
 rw[hT] at z;simp only[Bs,lM] at z;cases hf:ti.kind<;>rw[hf] at z<;>try exact z.elim
 case slice e=>
  have hu:=Rx hT hf;simp only[FS] at z;cases hx:Aw tm x<;>rw[hx] at z<;>try exact z.elim
  case im d=>
   cases d<;>try exact z.elim
   rename_i nz k rows;simp only[lH] at z;refine Qq0 (B:=rows.length<=140737488355328) (λhb=>dR (u:=[]) ho Q O aa ?_ (z hb)) λhb=>⟨[],?_⟩
   .intro C S v hW _ G;rw[hx] at G;simp only[Aa,rd] at G;rcases G with ⟨rfl|⟨_,a,rfl⟩,rfl⟩|⟨b,p,cap,vs,T,fr,rfl,_⟩<;>simp[Builtin.len_,underlying,hu,goInt]
   .intro C S a hW _ ad;have h1:=ad x aj;rw[hx] at h1;simp only[Aa,rd] at h1;rcases h1 with ⟨_,rfl⟩|⟨b,p,cap,vs,T,fr,_,_,_,h3,_⟩
    .simp at hb
    .exact hb h3
  case own n=>
   simp only[lH] at z;cases hn:h n with
   |none=>rw[hn] at z;exact z.elim
   |some Z=>
   rw[hn] at z;obtain⟨mu,Z⟩:=Z;have af: ∀{rl:Nat},Z.len=rl->(∀(S:A7) l,Ap S l Z->rl<=140737488355328)->((sq=true->rl<=140737488355328)->G1 K {use:=[n]} rl)->(∀(S:A7),Ap S none Z->rl=0)->
    YT P sq tm h nx o K:=by
    intro rl hl ak z ai;refine Qq0 (B:=rl<=140737488355328) (λhb=>dR (u:=[n]) ho Q O aa ?_ (z hb)) λhb=>⟨[n],?_⟩
    .intro C S v hW ab G;rw[hx] at G;simp only[Aa] at G;have hS:=(ab n (by simp)).trans hn;have G:=G.2 _ hS;cases hl0:S.ρ n with
     |none=>
      have ac:=hW.obj _ _ hS;rw[hl0] at G ac;simp only at G;subst G
      have:=ai S ac
      simp[Builtin.len_,underlying,hu,goInt,this]
     |some l=>
      rw[hl0] at G;simp only[hl] at G;subst G;simp[Builtin.len_,underlying,hu,goInt]
    .intro C S a hW ab ad;have hS:=(ab n (by simp)).trans hn;exact hb (ak S _ (hW.obj _ _ hS))
   cases Z<;>try exact z.elim
   case arr T0 k rows=>
    exact af rfl (λS l ho=>by simp only[Ap] at ho;exact ho.1) z (λS ho=>by simp only[Ap] at ho;rw[ho.2];rfl)
   case arrA T0 k rows=>
    exact af rfl (λS l ho=>by simp only[Ap] at ho;exact ho.1) z (λS ho=>by simp only[Ap] at ho;rw[ho.2];rfl)
  case osl n wa wn=>
   simp only[lH] at z;cases hn:h n with
   |none=>rw[hn] at z;exact z.elim
   |some Z=>
   rw[hn] at z;refine .inl (dR (u:=[n]) ho Q O aa ?_ z);intro C S v hW ab G;rw[hx] at G;simp only[Aa] at G;have hS:=(ab n (by simp)).trans hn;have G:=G.2 _ hS;unfold Rs at G;cases hl0:S.ρ n with
   |none=>
    rw[hl0] at G;obtain⟨rfl,rfl⟩:=G;simp[Builtin.len_,underlying,hu,goInt]
   |some l=>
    rw[hl0] at G;obtain⟨p,cp,rfl,_⟩:=G;simp[Builtin.len_,underlying,hu,goInt]
 case str=>
  have hu:=XP hT hf;simp only[FS] at z;cases hx:Aw tm x<;>rw[hx] at z<;>try exact z.elim
  rename_i d;cases d<;>try exact z.elim
  refine .inl (dR (u:=[]) ho Q O aa ?_ z);intro C S v hW _ G;rw[hx] at G;simp only[Aa,rd] at G;subst G;simp[Builtin.len_,underlying,hu,goInt]
 case map k e=>
  have hu:=qZ hT hf;simp only[FS] at z;cases hx:Aw tm x<;>rw[hx] at z<;>try exact z.elim
  case im d=>
   cases d<;>try exact z.elim
   case nilm=>
    refine .inl (dR (u:=[]) ho Q O aa ?_ z);intro C S v hW _ G;rw[hx] at G;simp only[Aa,rd] at G;subst G;simp[Builtin.len_,underlying,hu,goInt]
   case mp kt es=>
    refine .inl (dR (u:=[]) ho Q O aa ?_ z);intro C S v hW _ G;rw[hx] at G;simp only[Aa,rd] at G;obtain⟨b,ah,ag,rfl,_,_,h5,h6,_⟩:=G;have hl:=Qx9 _ _ h6;simp only[FF] at hl;simp[Builtin.len_,underlying,hu,goInt,Rv (w:=S.w) h5,hl]
  case mp n=>
   simp only[zW] at z;cases hn:h n with
   |none=>rw[hn] at z;exact z.elim
   |some Z=>
   rw[hn] at z;obtain⟨mu,Z⟩:=Z;cases Z<;>try exact z.elim
   refine .inl (dR (u:=[n]) ho Q O aa ?_ z);intro C S v hW ab G;rw[hx] at G;simp only[Aa] at G;have hS:=(ab n (by simp)).trans hn;obtain⟨l,hl,rfl⟩:=G.2 _ hS;have ac:=hW.obj _ _ hS;simp only[Ap] at ac;obtain⟨lc,ah,ag,h1,_,h5,h6,_⟩:=ac;rw[hl] at h1;obtain rfl:=A8 h1;have hl:=Qx9 _ _ h6;simp only[FF] at hl;simp[Builtin.len_,underlying,hu,goInt,Rv (w:=S.w) h5,hl]
def kE{op:BinOp}{T U:TypeId}{x y:Operand}{u:List Nat}{b:Bool}(ho:o.op= .binOp op T x y U)(Z:op= .eql\/op= .neq){z:Value}(hy:y= .const z)
 (Q:z= .slice none 0 0\/z= .pointer none\/z= .map none)
 (O: ∀(C:Bj) (S:A7) (v:Value),Wf C S->(∀n∈u,S.h n=h n)->Aa S (Aw tm x) v->(∀k n,v≠ .int k n)/\(∀k n,v≠ .float k n)/\(∀k n m,v≠ .complex k n m)/\(∀s,v≠ .string s)/\(Op.equal T v z).run P S.w= .ok b S.w)
 (hk:K (.im (.bool ((decide (op= .neq)) !=b))) {use:=u}):Ck P tm h nx o K:=by
 refine⟨_,_,BL.pure (u:=u) ?_,hk⟩;intro C S a hW hu G;have h1:=G x (by rw[ho];simp[Op.operands]);obtain⟨hi,hf,hc,hs,hr⟩:=O C S _ hW hu h1;refine⟨.bool (decide (op= .neq) !=b),?_,by simp only[Aa,rd]⟩;have hg:(eqGuard op T x y (a.eval x) z).run P S.w= .ok () S.w:=by
  rcases Q with rfl|rfl|rfl<;>rcases Z with rfl|rfl<;>simp[eqGuard]
 have hb:(binOp op T (a.eval x) z).run P S.w= .ok (.bool (decide (op= .neq) !=b)) S.w:=by
  have hq:(Op.equal T (a.eval x) z).run P S.w= .ok b S.w:=hr;clear hr hg G h1 O hk hu;generalize a.eval x=v at*;rcases Z with rfl|rfl
  .have:binOp .eql T v z=(do pure (.bool (<-Op.equal T v z))):=by
    rcases Q with rfl|rfl|rfl<;>cases v<;>first|rfl|exact absurd rfl (hi _ _)|exact absurd rfl (hf _ _)|exact absurd rfl (hc _ _ _)|exact absurd rfl (hs _)
   rw[this];simp[hq]
  .have:binOp .neq T v z=(do pure (.bool (!(<-Op.equal T v z)))):=by
    rcases Q with rfl|rfl|rfl<;>cases v<;>first|rfl|exact absurd rfl (hi _ _)|exact absurd rfl (hf _ _)|exact absurd rfl (hc _ _ _)|exact absurd rfl (hs _)
   rw[this];simp[hq]
 have aa:a.eval y=z:=by rw[hy];rfl
 simp only[execOp,ho,aa,Sem.run_bind,hg,Result.andThen_ok,hb,Sem.run_pure]
def gC{op:BinOp}{T U:TypeId}{x y:Operand}{m:Nat}(ho:o.op= .binOp op T x y U)(hm:FT y=m+1)(ac:m<=2)(hk:Bs (qL h op (Aw tm x) K m) (tI P T)):Ck P tm h nx o K:=by
 cases hT:tI P T with
 |none=>rw[hT] at hk;exact hk.elim
 |some ti=>
 rw[hT] at hk;simp only[Bs] at hk;have O:op= .eql\/op= .neq:=by cases op<;>first|exact .inl rfl|exact .inr rfl|exact hk.elim
 have z:YH h (decide (op= .neq)) K (Aw tm x) m ti.kind:=by rcases O with rfl|rfl<;>exact hk
 have Z: ∃nv,y= .const nv/\((m=0/\nv= .slice none 0 0)\/(m=1/\nv= .pointer none)\/(m=2/\nv= .map none)):=by
  cases y<;>simp only[FT,reduceCtorEq] at hm<;>try (cases hm;done)
  rename_i v;refine⟨v,rfl,?_⟩;unfold G2 at hm;split at hm
  .exact .inl ⟨by omega,rfl⟩
  .exact .inr (.inl ⟨by omega,rfl⟩)
  .exact .inr (.inr ⟨by omega,rfl⟩)
  .omega
  .omega
 obtain⟨nv,Z,ab⟩:=Z;clear hk;rcases ab with ⟨rfl,rfl⟩|⟨rfl,rfl⟩|⟨rfl,rfl⟩<;>cases hf:ti.kind<;>rw[hf] at z<;>try exact z.elim
 .have Q:=Rx hT hf;simp only[YH] at z;cases hx:Aw tm x<;>rw[hx] at z<;>try exact z.elim
  rename_i d;cases d<;>try exact z.elim
  rename_i nz k rows;cases nz<;>try exact z.elim
  refine kE (u:=[]) ho O Z (.inl rfl) ?_ z;intro C S v hW _ G;rw[hx] at G;simp only[Aa,rd] at G;rcases G with ⟨h0,rfl⟩|⟨b,p,cap,vs,T,fr,rfl,h2,_⟩
  .rw[Qr7 h0];simp[Y5,L2 Q 9999]
  .have ad:rows≠[]:=h2 trivial
   have:rows.isEmpty=false:=by cases rows<;>simp_all
   simp[Y5,L2 Q 9999,this]
 .have Q:=pG hT hf;simp only[YH] at z;cases hx:Aw tm x<;>rw[hx] at z<;>try exact z.elim
  case im d=>
   cases d<;>try exact z.elim
   .refine kE (u:=[]) ho O Z (.inr (.inl rfl)) ?_ z;intro C S v hW _ G;rw[hx] at G;simp only[Aa,rd] at G;subst G;simp[Y5,Qx1 Q 9999]
   .refine kE (u:=[]) ho O Z (.inr (.inl rfl)) ?_ z;intro C S v hW _ G;rw[hx] at G;simp only[Aa,rd] at G;obtain⟨b,p,vs,T,fr,rfl,_⟩:=G;simp[Y5,Qx1 Q 9999]
  all_goals
   obtain⟨⟨e',he⟩,z⟩:=kF z;refine kE (b:=false) ho O Z (.inr (.inl rfl)) ?_ (by simpa using z);intro C S v hW aa G;rw[hx] at G;simp only[Aa] at G;obtain⟨l,_,rfl⟩:=G.2 e' ((aa _ (by simp)).trans he);simp[Y5,Qx1 Q 9999]
 .have Q:=qZ hT hf;simp only[YH] at z;cases hx:Aw tm x<;>rw[hx] at z<;>try exact z.elim
  case im d=>
   cases d<;>try exact z.elim
   .refine kE (u:=[]) ho O Z (.inr (.inr rfl)) ?_ z;intro C S v hW _ G;rw[hx] at G;simp only[Aa,rd] at G;subst G;simp[Y5,L0 Q 9999]
   .refine kE (u:=[]) ho O Z (.inr (.inr rfl)) ?_ z;intro C S v hW _ G;rw[hx] at G;simp only[Aa,rd] at G;obtain⟨b,p,vs,rfl,_⟩:=G;simp[Y5,L0 Q 9999]
  all_goals
   obtain⟨⟨e',he⟩,z⟩:=kF z;refine kE (b:=false) ho O Z (.inr (.inr rfl)) ?_ (by simpa using z);intro C S v hW aa G;rw[hx] at G;simp only[Aa] at G;obtain⟨l,_,rfl⟩:=G.2 e' ((aa _ (by simp)).trans he);simp[Y5,L0 Q 9999]
end
end Go.Ae
