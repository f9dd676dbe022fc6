/- Lemmas. Conditions: none. -/
import Derived.Test.YtogafbdeamcpnaaGreatDoorP01
import Derived.IntWalk
set_option linter.all false
set_option maxHeartbeats 8000000
set_option maxRecDepth 100000
namespace Go.Ae
def xE(z:List Value)(O:z≠[]): ∀n,(List.range (n*z.length)).map (λi=>z[i % z.length]!)=BS n z
 |0=>by simp[BS]
 |n+1=>by
  have h0:0<z.length:=jA.2 O;rw[Fi,Iq,rV,List.range_add,F9,Q3];simp only[BS];congr 1
  .apply List.ext_getElem
   .simp
   .intro i Q G;simp only[List.getElem_map,Zeq]
    have:i % z.length=i:=Nat.mod_eq_of_lt G
    rw[this,getElem!_pos z i G]
  .rw[<-xE z O n];apply Nx;intro i _;simp
def Qxx(a:Array Value)(i:Nat):a[i]! =a.toList[i]! :=by
 by_cases z:i<a.size
 .rw[getElem!_pos a i z,getElem!_pos a.toList i (by simpa using z)];simp
 .rw[getElem!_neg a i z,getElem!_neg a.toList i (by simpa using z)]
def Qzv{α:Type}(z:List α): ∀n,(BS n z).length=n*z.length
 |0=>by simp[BS]
 |n+1=>by simp[BS,Qzv z n,Fi];omega
def kW{α β:Type}(f:α->β)(z:List α): ∀n,(BS n z).map f=BS n (z.map f)
 |0=>rfl
 |n+1=>by simp[BS,kW f z n]
def Md{ok:Nat->Prop}{hp:Nat->Option Obj}: ∀(a:List D) (x:List Value) (b:List D) (y:List Value),rdl ok hp a x->rdl ok hp b y->rdl ok hp (a++b) (x++y)
 |[],x,b,y,h,z=>by simp only[rdl] at h;subst h;simpa using z
 |d::a,x,b,y,h,z=>by
  simp only[rdl] at h;obtain⟨v,r,rfl,G,O⟩:=h;simp only[CX,rdl];exact⟨v,_,rfl,G,Md a r b y O z⟩
def Qop{S:Ay}: ∀(a:List AV) (x:List Value) (b:List AV) (y:List Value),AM S a x->AM S b y->AM S (a++b) (x++y)
 |[],x,b,y,h,z=>by simp only[AM] at h;subst h;simpa using z
 |d::a,x,b,y,h,z=>by
  simp only[AM] at h;obtain⟨v,r,rfl,G,O⟩:=h;simp only[CX,AM];exact⟨v,_,rfl,G,Qop a r b y O z⟩
def Qy7{ok:Nat->Prop}{hp:Nat->Option Obj}{z:List D}{x:List Value}(h:rdl ok hp z x): ∀n,rdl ok hp (BS n z) (BS n x)
 |0=>by simp[BS,rdl]
 |n+1=>Md _ _ _ _ h (Qy7 h n)
def bD{α:Type}(k:Nat): ∀(n:Nat) (l:List α),(HA k n l).length=n
 |0,_=>rfl
 |n+1,l=>by simp[HA,bD k n]
def Qq5{ok:Nat->Prop}{hp:Nat->Option Obj}(k:Nat): ∀(n:Nat) (ds:List D) (vs:List Value),rdp ok hp ds vs->ds.length=n*k->rdr ok hp k (HA k n ds) vs
 |0,_,_,_,_=>by simp only[HA,rdr]
 |n+1,ds,vs,h,G=>by
  rw[Fi,Iq] at G;simp only[HA,rdr];obtain⟨O,z⟩:=UE k ds vs h (by omega);refine⟨by rw[Ci];omega,?_,Qq5 k n _ _ (UB k ds vs h (by omega)) (by rw[Cx];omega)⟩
  have:=pU _ _ (vs.drop k) (VY _ _ z)
  rwa [KA] at this
def Qms{S:Ay}(k:Nat): ∀(n:Nat) (ds:List AV) (vs:List Value),Cn S ds vs->ds.length=n*k->BB S k (HA k n ds) vs
 |0,_,_,_,_=>by simp only[HA,BB]
 |n+1,ds,vs,h,G=>by
  rw[Fi,Iq] at G;simp only[HA,BB];obtain⟨O,z⟩:=VL k ds vs h (by omega);refine⟨by rw[Ci];omega,?_,Qms k n _ _ (gM k ds vs h (by omega)) (by rw[Cx];omega)⟩
  have:=gX _ _ (vs.drop k) (VM _ _ z)
  rwa [KA] at this
def Qn6(k:Nat)(x:Nat): ∀(n:Nat) (ds:List AV),x∈B2 (HA k n ds)->x∈AC ds
 |0,_,h=>by simp[HA,B2] at h
 |n+1,ds,h=>by
  have z: ∀(a b:List AV),AC (a++b)=AC a++AC b:=by
   intro a b;induction a with
   |nil=>rfl
   |cons y a ih=>simp[AC,ih]
  simp only[HA,B2,Br] at h
  have:=z (ds.take k) (ds.drop k)
  rw[KA] at this;rw[this,Br];rcases h with h|h
  .exact .inl h
  .exact .inr (Qn6 k x n _ h)
section
variable {P:Program}{tm:List (Nat×AV)}{h:Nat->Option Aq}{nx:Nat}{o:Oper}{K:Ai}
def Qrh(a b:List AV):AC (a++b)=AC a++AC b:=by
 induction a with
 |nil=>rfl
 |cons y a ih=>simp[AC,ih]
def Oq(n:Nat)(a:List AV): ∀m∈AC (a.take n),m∈AC a:=by
 intro m z
 have:=Qrh (a.take n) (a.drop n)
 rw[KA] at this;rw[this,Br];exact .inl z
def Oo(n:Nat)(a:List AV): ∀m∈AC (a.drop n),m∈AC a:=by
 intro m z
 have:=Qrh (a.take n) (a.drop n)
 rw[KA] at this;rw[this,Br];exact .inr z
def Qvz(x:AV): ∀m∈AC x.cells,m∈x.nms:=by
 cases x<;>simp only[AV.cells]<;>intro m z
 case im d=>rw[Qw0] at z;cases z
 case agg cs=>simpa[AV.nms] using z
 all_goals simp[AC,AV.nms] at z⊢
 all_goals exact z
def Qyu(G: ∀x,∀m∈(Aw tm x).nms,m≠nx)(O:Nat->Option (Nat×Nat)): ∀(ps:List (Nat×Operand)) (cs r:List AV),Hi O (Jg tm ps) (some cs)=some r->
 (∀m∈AC cs,m≠nx)-> ∀m∈AC r,m≠nx
 |[],cs,r,h,hc=>by simp only[Jg,Hi,AI] at h;subst h;exact hc
 |(i,x)::ps,cs,r,h,hc=>by
  simp only[Jg,Hi] at h;cases hf:YP cs (Aw tm x).cells (O i) with
  |none=>rw[hf] at h;exact (Qjy _ _ h).elim
  |some us=>
   rw[hf] at h;refine Qyu G O ps us r h ?_;cases hp:O i with
   |none=>rw[hp] at hf;simp[YP] at hf
   |some q=>
    rw[hp] at hf;simp only[YP] at hf;generalize ((Aw tm x).cells.length==q.2 && (Nat.blt 0 q.2 && Nat.ble (q.1+q.2) cs.length))=bb at hf;cases bb
    .simp at hf
    .simp only[Ca,AI] at hf;subst hf;intro m z;simp only[BP,Qrh,Br] at z;rcases z with (z|z)|z
     .exact hc m (Oq _ _ m z)
     .exact G x m (Qvz _ m z)
     .exact hc m (Oo _ _ m z)
def Qp8{T:TypeId}{n:Nat}{ps:Array (Nat×Operand)}(ho:o.op= .buildSlice T n ps)(G:Bc (uO P nx n (Jg tm ps.toList) K) (tI P T))
 (ak: ∀x,∀m∈(Aw tm x).nms,m≠nx):BJ P tm h nx o K:=by
 cases hT:tI P T with
 |none=>rw[hT] at G;exact G.elim
 |some ti=>
 rw[hT] at G;simp only[Bc,uO] at G;cases hf:ti.kind<;>rw[hf] at G<;>try exact G.elim
 rename_i e;have hu:=Pt hT hf;simp only[bsK] at G;cases hE:tI P e with
 |none=>rw[hE] at G;exact G.elim
 |some Z=>
 rw[hE] at G;simp only[Bc,bsE] at G;obtain⟨hl,hz,av,G⟩:=G;have hn:n<=Kr:=by
  have:=Nat.le_mul_of_pos_right n (Nat.pos_of_ne_zero hz)
  simp only[Kr];omega
 obtain⟨z,ao,aq,an⟩:=bG hE hl hz
 have am:z.cells.toList≠[]:=by intro hh;have:z.cells.size=0:=by rw[<-E8,hh];rfl
                               omega
 rw[<-kW] at G;cases hfl:Hi (II Z.size) (Jg tm ps.toList) (some ((BS n Z.zero).map .im)) with
 |none=>rw[hfl] at G;exact G.elim
 |some cs=>
 rw[hfl] at G;simp only[KO] at G;have hbel:=Qyu ak _ ps.toList _ cs hfl (by rw[Qw0];intro m hm;cases hm);have ac: ∀(C:AX) (S:Ay) (a:Act),Wf C S->(∀x∈o.op.operands,Aa S (Aw tm x) (a.eval x))->
  ∃us:Array Value,(execOp a.eval o).run P S.w= .ok (.value (.slice (some ⟨S.w.heap.size,0,none⟩) n n)) (S.w.alloc (.cells us e))/\AM S cs us.toList/\cs.length=n*Z.size:=by
  intro C S a hW O;have au:((Array.range (n*Z.size)).map λi=>z.cells[i % z.cells.size]!).toList=BS n z.cells.toList:=by
   rw[<-xE _ am n,UT,Zep,E8,aq];apply Nx;intro i _;exact Qxx _ _
  obtain⟨us,ah,hr,aj⟩:=vG (S:=S) (a:=a) (place:=λi=>some (i*Z.size,Z.size)) (λi q hq=>hq) ps.toList _ cs
   ((Array.range (n*Z.size)).map λi=>z.cells[i % z.cells.size]!) hfl (by rw[au];exact (Ia _ _).2 (Qy7 (an _ _) n))
   (by intro p hp
       refine O p.2 ?_;rw[ho];simp only[Op.operands];simp;exact⟨p.1,by simpa using hp⟩)
  refine⟨us,?_,hr,by rw[aj];simp[Qzv,hl]⟩;simp only[execOp,ho,Instr.buildSlice,Sem.run_bind];rw[show (underlying T).run P S.w= .ok (.slice e) S.w from by simp[underlying,hu]];simp only[Result.andThen_ok,Sem.run_bind,IV hE];rw[Ag (by omega)];by_cases af:n*Z.size=0
  .simp only[af,BI,pure_bind];simp only[af] at ah
   have:((Array.range 0).map λi=>(#[]:Array Value)[i % (#[]:Array Value).size]!)=(Array.range 0).map λi=>z.cells[i % z.cells.size]! :=by simp
   rw[this];have ab:(ps.map λ(i,x)=>(i,a.eval x)).toList=ps.toList.map λp=>(p.1,a.eval p.2):=by simp
   rw[ab,ah];simp[newRow]
  .simp only[af,Cy,Sem.run_bind,ao,Result.andThen_ok,Sem.run_pure];have ab:(ps.map λ(i,x)=>(i,a.eval x)).toList=ps.toList.map λp=>(p.1,a.eval p.2):=by simp
   rw[ab,ah];simp[newRow]
 cases hai:D8 cs with
 |none=>
  rw[hai] at G;simp only[Iv] at G;refine⟨_,_,B5.one (u:=[]) (ks:=[]) (.inl ⟨rfl,rfl⟩) ?_,G⟩;intro C S a hW _ ad hnm O;obtain⟨us,hr,Q,hcl⟩:=ac C S a hW O;refine⟨_,_,some ⟨S.w.heap.size,0,n⟩,.inl hr,UH (w':=S.w.alloc (.cells us e)) (ob:= .cells us e) rfl rfl rfl rfl (ad rfl) (λn f hf=>hnm n f hf rfl),?_⟩;intro hp;have ag:=Ii _ _ Q;constructor
  .simp only[Au];refine⟨by rw[bD];exact hn,by rw[bD];exact AN _,us,YO rfl,by simp at ag;omega,?_⟩;rw[GN];exact oB hp _ _ _ (λm hm=> .inr (hbel m (Qn6 _ _ _ _ hm))) (Qms _ _ _ _ (VM _ _ Q) hcl)
  .simp only[Aa];refine⟨rfl,λe' aa=> ?_⟩;have hh:(S.one nx (.arrA e Z.size (HA Z.size n cs)) (some ⟨S.w.heap.size,0,n⟩) [] (S.w.alloc (.cells us e))).ρ nx=some ⟨S.w.heap.size,0,n⟩:=by simp[Ay.one]
   rw[hh];simp only[Ay.one,BI,AI] at aa;subst aa;simp[Ad.len,bD]
 |some ds=>
  rw[hai] at G;simp only[Iv] at G;refine⟨_,_,B5.one (u:=[]) (ks:=[]) (.inl ⟨rfl,rfl⟩) ?_,G⟩;intro C S a hW _ ad hnm O;obtain⟨us,hr,Q,hcl⟩:=ac C S a hW O;refine⟨_,_,some ⟨S.w.heap.size,0,n⟩,.inl hr,UH (w':=S.w.alloc (.cells us e)) (ob:= .cells us e) rfl rfl rfl rfl (ad rfl) (λn f hf=>hnm n f hf rfl),?_⟩;intro hp;have ag:=Ii _ _ Q;rw[gV hai] at Q hcl;have ai:=Ky hp.ok _ _ ((Ia _ _).1 Q);constructor
  .simp only[Au];refine⟨by rw[bD];exact hn,by rw[bD];exact AN _,us,YO rfl,by simp[gV hai] at ag hcl;simp;omega,?_⟩;rw[GN];exact Qq5 _ _ _ _ (VY _ _ ai) (by simpa using hcl)
  .simp only[Aa];refine⟨rfl,λe' aa=> ?_⟩;have hh:(S.one nx (.arr e Z.size (HA Z.size n ds)) (some ⟨S.w.heap.size,0,n⟩) [] (S.w.alloc (.cells us e))).ρ nx=some ⟨S.w.heap.size,0,n⟩:=by simp[Ay.one]
   rw[hh];simp only[Ay.one,BI,AI] at aa;subst aa;simp[Ad.len,bD]
end
def Qwm(n:Nat): ∀(r c:Nat),c<=2*(n+512)->Builtin.growBy n r c<=2*(n+512)
 |0,c,h=>by simpa[Builtin.growBy] using h
 |r+1,c,h=>by
  simp only[Builtin.growBy];split
  .exact h
  .exact Qwm n r _ (by omega)
def Qabm(n old:Nat)(h:old<n):Builtin.nextslicecap n old<=2*(n+512):=by
 unfold Builtin.nextslicecap;split
 .omega
 .split
  .omega
  .exact Qwm n 4 old (by omega)
def Qqs{S:Ay}{k:Nat}: ∀(rows0 rows:List (List AV)) (A L R:List Value),BB S k rows0 A->rows0.length*k<=A.length->BB S k rows L->
 rows.length*k<=L.length->BB S k (rows0++rows) (A.take (rows0.length*k)++(L++R))
 |[],rows,A,L,R,z,G,h,O=>by
  simp only[G5,dK,UQ,GM];clear z G A;induction rows generalizing L with
  |nil=>simp only[BB]
  |cons r rows ih=>
   simp only[BB,CY,Fi,Iq] at h O⊢;refine⟨h.1,gX _ _ _ h.2.1,?_⟩
   have:=ih (L.drop k) h.2.2 (by rw[Cx];omega)
   rwa [Zdq (by omega)]
 |r::rows0,rows,A,L,R,h0,hA,h,O=>by
  simp only[BB,CY,Fi,Iq,CX] at h0 hA⊢;have ih:=Qqs rows0 rows (A.drop k) L R h0.2.2 (by rw[Cx];omega) h O;have e:A.take (rows0.length*k+k)=A.take k++(A.drop k).take (rows0.length*k):=by rw[<-dH];congr 1;omega
  have hk:(A.take k).length=k:=by rw[Ci];omega
  rw[e,HP];refine⟨h0.1,?_,?_⟩
  .obtain⟨_,Z⟩:=VL k r A h0.2.1 (by omega);have Q:=VM _ _ Z;rw[DB (by omega)] at Q;exact gX _ _ _ Q
  .rw[UU,CZ (by omega),hk,GS];simpa using ih
def gW{S:Ay}{k:Nat}: ∀(rows:List (List D)) (L:List Value),rdr S.ok S.hp k rows L->BB S k (Bl rows) L
 |[],_,_=>by simp only[Bl,GR,BB]
 |r::rows,L,h=>by
  simp only[rdr] at h;simp only[Bl,Bd,BB];exact⟨by simpa using h.1,(uM _ _).2 h.2.1,gW rows _ h.2.2⟩
section
variable {P:Program}{w:World}
def gK{b p:Nat}{vs:Array Value}{U:TypeId}{Q:Nat×Nat}(hb:w.heap[b]? =some (.cells vs U Q)){n:Nat}(hn:p+n<=vs.size):
 (loadCells ⟨b,p,none⟩ n).run P w= .ok ((vs.toList.drop p).take n).toArray w:=by
 have O: ∀j v,((vs.toList.drop p).take n)[j]? =some v->w.cell? ((⟨b,p,none⟩:Addr).add j)=some v:=by
  intro j v z;rw[Ps,Qyp hb];rw[YZ] at z;split at z
  .rw[HN] at z;simpa using z
  .cases z
 have Z:((vs.toList.drop p).take n).length=n:=by rw[Ci,Cx];simp;omega
 have G:=run_loadCells_list (P:=P) w ⟨b,p,none⟩ _ O;rwa [Z] at G
def Qo9{Z uT e ty:TypeId}{te:TI}(hs:P.underlying Z=some (.slice e))(hE:tI P e=some te){u2:TypeId}(Q:P.underlying uT=some (.slice u2))
 {base:Option Addr}{sLen sCap n:Nat}{x:Value}{L:List Value}(O:(Builtin.lenOf x).run P w= .ok n w)(z:(Builtin.firstCells te.size n x).run P w= .ok L.toArray w)
 (G:sLen+n<=sCap):(Builtin.append_ #[Z,uT] ty #[.slice base sLen sCap,x]).run P w=
  ((match base with|some a=>storeCells (a.add (sLen*te.size)) L|none=>pure ())>>=λ_=>(pure (.slice base (sLen+n) sCap):Sem Value)).run P w:=by
 have h1:(underlying Z).run P w= .ok (.slice e) w:=by simp[underlying,hs]
 have h2:(underlying uT).run P w= .ok (.slice u2) w:=by simp[underlying,Q]
 unfold Builtin.append_;simp only[yU,GL,Jd,Sem.run_bind,h1,Result.andThen_ok,IV hE,h2];simp only[Sem.run_pure,Result.andThen_ok,CE,Cy,O,Sem.run_ite,Ao G,Sem.run_bind,z,Q6,BI];cases base<;>simp
def Qo8{sT uT e ty:TypeId}{G:TI}(hs:P.underlying sT=some (.slice e))(hE:tI P e=some G){u2:TypeId}(ah:P.underlying uT=some (.slice u2))(ac:G.bytes≠0)
 (hz:G.zero.length=G.size)(af:G.size≠0)
 {base:Option Addr}{sLen sCap n:Nat}{x:Value}{L old:List Value}(aa:(Builtin.lenOf x).run P w= .ok n w)(O: ∀k,(Builtin.firstCells G.size n x).run P {w with drawn:=k}= .ok L.toArray {w with drawn:=k})
 (ab: ∀k,(Builtin.firstCells G.size sLen (.slice base sLen sCap)).run P {w with drawn:=k}= .ok old.toArray {w with drawn:=k})
 (Q: ¬sLen+n<=sCap)(ak:(sLen+n+512)*G.bytes<=140737488355328): ∃cap R,sLen+n<=cap/\R.length=(cap - (sLen+n))*G.size/\
  (Builtin.append_ #[sT,uT] ty #[.slice base sLen sCap,x]).run P w= .ok (.slice (some ⟨w.heap.size,0,none⟩) (sLen+n) cap) (World.alloc {w with drawn:=w.drawn+1} (.cells (old++L++R).toArray e)):=by
 have h1: ∀w:World,(underlying sT).run P w= .ok (.slice e) w:=by intro w;simp[underlying,hs]
 have h2: ∀w:World,(underlying uT).run P w= .ok (.slice u2) w:=by intro w;simp[underlying,ah]
 obtain⟨z,ai,aj,an⟩:=bG hE hz af;obtain⟨i,u,hi,hu,am,Z,_⟩:=Pv hE;have ag: ∀w:World,(typeInfo e).run P w= .ok i w:=by intro w;simp[typeInfo,hi]
 refine⟨(Question.appendCap (sLen+n) sCap e).cut (w.tape w.drawn (.appendCap (sLen+n) sCap e)),(Builtin.zeroCells z.cells ((Question.appendCap (sLen+n) sCap e).cut (w.tape w.drawn (.appendCap (sLen+n) sCap e)) - (sLen+n))).toList,?_,?_,?_⟩
 .simp only[Question.cut];omega
 .simp[Builtin.zeroCells,aj]
 have ad: ¬(Builtin.nextslicecap (sLen+n) sCap*i.bytes>2^48):=by
  rw[<-Z];have h3:=Qabm (sLen+n) sCap (by omega);have h4:=Hq G.bytes h3;have h5:2*(sLen+n+512)*G.bytes=2*((sLen+n+512)*G.bytes):=Nat.mul_assoc _ _ _;omega
 unfold Builtin.append_;simp only[yU,GL,Jd,Sem.run_bind,h1,Result.andThen_ok,IV hE,h2];simp only[Sem.run_pure,Result.andThen_ok,CE,Cy,aa,Sem.run_ite,Ag Q,Sem.run_bind,ag,Q6,BI,false_or];rw[Ag (by rw[<-Z];exact λhh=>ac hh.2),Ag ad];simp only[run_choose,Question.forced,CE,Cy,Result.andThen_ok,run_askRoom,ab,O,ai];simp only[newRow,Sem.run_bind,run_newObj,Result.andThen_ok,Sem.run_pure];rw[show (old++L++(Builtin.zeroCells z.cells ((Question.appendCap (sLen+n) sCap e).cut (w.tape w.drawn (.appendCap (sLen+n) sCap e)) - (sLen+n))).toList).toArray=
  old.toArray++L.toArray++Builtin.zeroCells z.cells ((Question.appendCap (sLen+n) sCap e).cut (w.tape w.drawn (.appendCap (sLen+n) sCap e)) - (sLen+n)) from by apply N4;simp]
 rfl
end
def Qx7{ok:Nat->Prop}{hp:Nat->Option Obj}{z:List D}{x:List Value}(h:rdl ok hp z x): ∀(n m:Nat),n<=m->rdr ok hp z.length (List.replicate n z) (BS m x)
 |0,_,_=>by simp only[List.replicate_zero,rdr]
 |n+1,0,O=>by omega
 |n+1,m+1,O=>by
  have G:=cC _ _ h;simp only[Zeg,BS,rdr];refine⟨trivial,pU _ _ _ (VY _ _ h),?_⟩;rw[UU,CZ (by omega),G,GS];simpa using Qx7 h n m (by omega)
section
variable {P:Program}{tm:List (Nat×AV)}{h:Nat->Option Aq}{nx:Nat}{o:Oper}{K:Ai}
def Qrx{T:TypeId}{x y:Operand}(ho:o.op= .makeSlice T x y)(G:Bc (uZ P nx (Aw tm x) (Aw tm y) K) (tI P T)):BJ P tm h nx o K:=by
 cases hT:tI P T with
 |none=>rw[hT] at G;exact G.elim
 |some ti=>
 rw[hT] at G;simp only[Bc,uZ] at G;cases hf:ti.kind<;>rw[hf] at G<;>try exact G.elim
 rename_i e;have hu:=Pt hT hf;have aq: ∃n m,Aw tm x= .im (.int .i64 n)/\Aw tm y= .im (.int .i64 m)/\Bc (zR nx e n m K) (tI P e):=by
  revert G;generalize Aw tm x=X;generalize Aw tm y=Y;intro G;cases X<;>try exact G.elim
  rename_i d;cases d<;>try exact G.elim
  rename_i k n;cases k<;>try exact G.elim
  cases Y<;>try exact G.elim
  rename_i d;cases d<;>try exact G.elim
  rename_i k m;cases k<;>try exact G.elim
  exact⟨_,_,rfl,rfl,G⟩
 obtain⟨n,m,hx,hy,G⟩:=aq;cases hE:tI P e with
 |none=>rw[hE] at G;exact G.elim
 |some te=>
 rw[hE] at G;simp only[Bc,zR] at G;obtain⟨hz,ax,hnm,hm,av,hl,G⟩:=G;obtain⟨z,am,an,ak⟩:=bG hE hl hz;obtain⟨i,u,hi,ay,aw,af,_⟩:=Pv hE;have aj:z.cells.toList≠[]:=by
  intro hh
  have:z.cells.size=0:=by rw[<-E8,hh];rfl
  omega
 have ao:((Array.range (m.toNat*te.size)).map λi=>z.cells[i % z.cells.size]!).toList=BS m.toNat z.cells.toList:=by
  rw[<-xE _ aj m.toNat,UT,Zep,E8,an];apply Nx;intro i _;exact Qxx _ _
 refine⟨_,_,B5.one (u:=[]) (ks:=[]) (.inl ⟨rfl,rfl⟩) ?_,G⟩;intro C S a hW _ ad aa O;have h1:=O x (by rw[ho];simp[Op.operands]);have h2:=O y (by rw[ho];simp[Op.operands]);rw[hx] at h1;rw[hy] at h2;simp only[Aa,rd] at h1 h2;have ac:(execOp a.eval o).run P S.w= .ok (.value (.slice (some ⟨S.w.heap.size,0,none⟩) n.toNat m.toNat))
  (S.w.alloc (.cells ((Array.range (m.toNat*te.size)).map λi=>z.cells[i % z.cells.size]!) e)):=by
  have au:(i.bytes:Int)*m<=2^48:=by
   rw[<-af];have h3:(te.bytes:Int)*m<=65536*m:=ZdW (by omega) (by omega);omega
  have ai:IntKind.i64.wrap n=n:=IntWalk.i64_in n (by omega);have ah:IntKind.i64.wrap m=m:=IntWalk.i64_in m (by omega);simp only[execOp,ho,h1,h2,Instr.makeSlice,Sem.run_bind];rw[show (underlying T).run P S.w= .ok (.slice e) S.w from by simp[underlying,hu]];have ag:(typeInfo e).run P S.w= .ok i S.w:=by simp[typeInfo,hi]
  simp only[Result.andThen_ok,asInt,asIntOf,Sem.run_bind,Sem.run_pure,ag,ai,ah];have ab:((decide (m<0)||decide ((i.bytes:Int)*m>2^48))||decide (n<0)||decide (n>m))=false:=by
   simp only[Bool.or_eq_false_iff,KC];omega
  rw[ab];simp only[CE,Cy,Sem.run_bind,run_askRoom,Result.andThen_ok,IV hE,Sem.run_ite,am,newRow,run_newObj,Sem.run_pure];by_cases Z:m.toNat*te.size=0
  .have:((Array.range 0).map λi=>(#[]:Array Value)[i % (#[]:Array Value).size]!)=(Array.range 0).map λi=>z.cells[i % z.cells.size]! :=by simp
   simp only[Z,BI,Result.andThen_ok,this];simp
  .simp only[Z,Cy,Result.andThen_ok];simp
 refine⟨_,_,some ⟨S.w.heap.size,0,m.toNat⟩,.inl ac,UH (w':=S.w.alloc (.cells _ e)) (ob:= .cells _ e) rfl rfl rfl rfl (ad rfl) (λn f hf=>aa n f hf rfl),?_⟩;intro hp;constructor
 .simp only[Au];refine⟨by simp[Kr];omega,by simp;omega,_,YO rfl,by simp,?_⟩;rw[GN,ao,<-hl];exact Qx7 (ak _ _) _ _ (by omega)
 .simp only[Aa];refine⟨rfl,λe' Q=> ?_⟩;simp only[Ay.one,BI,AI] at Q⊢;subst Q;simp[Ad.len]
end
def fY(l:Option Fj)(n:Nat):Value:=match l with|none=> .slice none 0 0|some l=> .slice (some ⟨l.b,l.p,none⟩) n l.cap
def Z6(S:Ay)(e z sLen:Nat)(A:List Value):Option Fj->Prop
 |none=>sLen=0/\A=[]
 |some l=>sLen<=l.cap/\ ∃G,S.hp l.b=some (.cells G e (0,0))/\A=G.toList.drop l.p/\l.p+l.cap*z<=G.size
section
variable {P:Program}
def N7{C:AX}{S:Ay}(hW:Wf C S){nx:Nat}{ks:List Nat}{sT uT e ty u2:TypeId}{z:TI}(hs:P.underlying sT=some (.slice e))(hE:tI P e=some z)
 (ac:P.underlying uT=some (.slice u2))(am:z.bytes≠0)(hz:z.zero.length=z.size)(au:z.size≠0){sLen n:Nat}(aj:(sLen+n+512)*z.bytes<=140737488355328)
 {l0:Option Fj}{A:List Value}(hA:Z6 S e z.size sLen A l0)
 {x:Value}{L:List Value}(Q:(Builtin.lenOf x).run P S.w= .ok n S.w)(G: ∀k,(Builtin.firstCells z.size n x).run P {S.w with drawn:=k}= .ok L.toArray {S.w with drawn:=k})
 (hL:L.length=n*z.size)(aq: ∀v∈L,v.oneCell'=true)(ag: ∀l,l0=some l-> ∃o f,o∈ks/\S.h o=some (true,f)/\S.ρ o=some l)
 (aa:S.h nx=none)(Z: ∀n f,S.h n=some f->nx∉f.2.nms):
 ∃w' l',(Builtin.append_ #[sT,uT] ty #[fY l0 sLen,x]).run P S.w= .ok (fY l' (sLen+n)) w'/\(∀ea,IZ S nx ea l' ks w')/\
  match l' with|none=>sLen=0/\n=0|some l=>sLen+n<=l.cap/\ ∃vs R,w'.heap[l.b]? =some (.cells vs e (0,0))/\l.p+l.cap*z.size<=vs.size/\
   vs.toList.drop l.p=A.take (sLen*z.size)++(L++R):=by
 have ab:{S.w with drawn:=S.w.drawn}=S.w:=rfl;cases l0 with
 |none=>
  obtain⟨h0,hA⟩:=hA;subst h0 hA;by_cases hn:n=0
  .subst hn;have av:L=[]:=Qv.1 (by simpa using hL);subst av;refine⟨S.w,none,?_,λea=>Ql6 aa Z,rfl,rfl⟩
   have:=Qo9 (P:=P) (w:=S.w) (ty:=ty) hs hE ac (base:=none) (sLen:=0) (sCap:=0) Q (by have:=G S.w.drawn;rwa [ab] at this) (by omega)
   simpa[fY] using this
  .obtain⟨cap,R,h1,h2,h3⟩:=Qo8 (P:=P) (w:=S.w) (ty:=ty) hs hE ac am hz au (base:=none) (sLen:=0) (sCap:=0) (old:=[]) Q G (by intro k;simp[Builtin.firstCells]) (by omega) aj;refine⟨_,some ⟨S.w.heap.size,0,cap⟩,h3,λea=>UH (w':=World.alloc {S.w with drawn:=S.w.drawn+1} (.cells ([]++L++R).toArray e)) (ob:= .cells ([]++L++R).toArray e) rfl rfl rfl rfl aa Z,h1,([]++L++R).toArray,R,by simp[World.alloc],?_,by simp⟩;have h4:n*z.size+(cap - (0+n))*z.size=cap*z.size:=by rw[<-Fi];congr 1;omega
   rw[Fh] at h2 h4;simp[hL,h2];omega
 |some l=>
  obtain⟨ad,vs,hb,af,az⟩:=hA;have a0:A.length=vs.size - l.p:=by rw[af];simp
  by_cases O:sLen+n<=l.cap
  .have ay:sLen*z.size+n*z.size<=l.cap*z.size:=by rw[<-Fi];exact Hq _ O
   obtain⟨w',h1,h2,h3,h4,h5⟩:=Qf9 (P:=P) (w:=S.w) (b:=l.b) (p:=l.p+sLen*z.size) (T:=e) L 0 vs aq (by rw[hL];omega) hb;obtain⟨o,f,an,ah,ai⟩:=ag l rfl;have ak:=(hW.loc o _ l ah ai).1;refine⟨w',some l,?_,?_,O,(BP vs.toList (l.p+sLen*z.size+0) L).toArray,A.drop (sLen*z.size+L.length),?_,?_,?_⟩
   .have:=Qo9 (P:=P) (w:=S.w) (ty:=ty) hs hE ac (base:=some ⟨l.b,l.p,none⟩) (sLen:=sLen) (sCap:=l.cap) Q (by have:=G S.w.drawn;rwa [ab] at this) O
    simp only[Ps,Sem.run_bind,h1,Result.andThen_ok,Sem.run_pure] at this;simpa[fY] using this
   .intro ea;refine⟨h3,h4,h5,by rw[h2];simp,?_,.inr aa,?_,?_,λn f hf _=>Z n f hf⟩
    .intro b a8 ax
     have:=ax o f l an ah ai
     rw[h2,dB,Ag this]
    .intro lo aw;obtain rfl:=AE aw;exact⟨by rw[h2];simpa using ak,.inr ⟨o,f,l,an,ah,ai,rfl⟩⟩
    .intro f hf;rw[aa] at hf;cases hf
   .rw[h2];simp[ak]
   .simp[BP,Ci,Cx];omega
   .rw[N2,Zeh,uU _ _ _ _ (by simp;omega),<-af];simp[BP]
  .have ao: ∀k,(Builtin.firstCells z.size sLen (.slice (some ⟨l.b,l.p,none⟩) sLen l.cap)).run P {S.w with drawn:=k}= .ok (A.take (sLen*z.size)).toArray {S.w with drawn:=k}:=by
    intro k;have ay:sLen*z.size<=l.cap*z.size:=Hq _ ad;rw[af];exact gK (w:={S.w with drawn:=k}) hb (by omega)
   obtain⟨cap,R,h1,h2,h3⟩:=Qo8 (P:=P) (w:=S.w) (ty:=ty) hs hE ac am hz au (base:=some ⟨l.b,l.p,none⟩) (sLen:=sLen) (sCap:=l.cap) Q G ao O aj;refine⟨_,some ⟨S.w.heap.size,0,cap⟩,h3,λea=>UH (w':=World.alloc {S.w with drawn:=S.w.drawn+1} (.cells (A.take (sLen*z.size)++L++R).toArray e)) (ob:= .cells (A.take (sLen*z.size)++L++R).toArray e) rfl rfl rfl rfl aa Z,h1,(A.take (sLen*z.size)++L++R).toArray,R,by simp[World.alloc],?_,by simp⟩;have h4:sLen*z.size+n*z.size+(cap - (sLen+n))*z.size=cap*z.size:=by rw[<-Fi,<-Fi];congr 1;omega
   have h5:sLen*z.size<=l.cap*z.size:=Hq _ ad;simp[hL,h2,Ci];omega
def pI{S:Ay}{k:Nat}: ∀(rows:List (List AV)) (L:List Value),BL Qj rows->BB S k rows L->rows.length*k<=L.length-> ∀v∈L.take (rows.length*k),v.oneCell'=true
 |[],L,_,_,_=>by simp
 |r::rows,L,O,h,Q=>by
  simp only[BB] at h;simp only[CY,Fi,Iq] at Q⊢;have e:L.take (rows.length*k+k)=L.take k++(L.drop k).take (rows.length*k):=by rw[<-dH];congr 1;omega
  rw[e];intro v z;rcases Br.1 z with z|z
  .obtain⟨_,G⟩:=VL k r L h.2.1 (by omega);rw[DB (Zfi h.1)] at G;exact gJ r _ (O r (by simp)) G v z
  .exact pI rows _ (λx Z=>O x (by simp[Z])) h.2.2 (by rw[Cx];omega) v z
def Qsa: ∀(r:List D),BC r=true->Qj (r.map .im)=true
 |[],_=>rfl
 |x::r,h=>by
  simp only[BC,AS] at h;simp only[Bd,Qj,AV.one,AS];exact⟨h.1,Qsa r h.2⟩
def Qyt{rows:List (List D)}(h:BL BC rows):BL Qj (Bl rows):=by
 intro r z;simp only[Bl,Bm] at z;obtain⟨x,G,rfl⟩:=z;exact Qsa x (h x G)
def Qrl{ok:Nat->Prop}{hp:Nat->Option Obj}{k:Nat}: ∀(rows:List (List D)) (L:List Value),rdr ok hp k rows L->rows.length*k<=L.length->rdr ok hp k rows (L.take (rows.length*k))
 |[],_,_,_=>by simp only[rdr]
 |r::rows,L,h,O=>by
  simp only[rdr,CY,Fi,Iq] at h O⊢;refine⟨h.1,?_,?_⟩
  .obtain⟨_,G⟩:=UE k r L h.2.1 (by omega);have z:=VY _ _ G;rw[DB (by omega)] at z;have e:L.take (rows.length*k+k)=L.take k++(L.drop k).take (rows.length*k):=by rw[<-dH];congr 1;omega
   rw[e];exact pU _ _ _ z
  .rw[Zfa]
   have:=Qrl rows _ h.2.2 (by rw[Cx];omega)
   rwa [show rows.length*k+k - k=rows.length*k from by omega]
def vD{S:Ay}{k:Nat}: ∀(rows:List (List AV)) (L:List Value),BB S k rows L->rows.length*k<=L.length->BB S k rows (L.take (rows.length*k))
 |[],_,_,_=>by simp only[BB]
 |r::rows,L,h,O=>by
  simp only[BB,CY,Fi,Iq] at h O⊢;refine⟨h.1,?_,?_⟩
  .obtain⟨_,G⟩:=VL k r L h.2.1 (by omega);have z:=VM _ _ G;rw[DB (by omega)] at z;have e:L.take (rows.length*k+k)=L.take k++(L.drop k).take (rows.length*k):=by rw[<-dH];congr 1;omega
   rw[e];exact gX _ _ _ z
  .rw[Zfa]
   have:=vD rows _ h.2.2 (by rw[Cx];omega)
   rwa [show rows.length*k+k - k=rows.length*k from by omega]
def Qxq{ok:Nat->Prop}{hp:Nat->Option Obj}{k:Nat}: ∀(rows:List (List D)) (L:List Value),rdr ok hp k rows L->k≠0->rows.length*k<=L.length
 |[],_,_,_=>by simp
 |r::rows,L,h,z=>by
  simp only[rdr,CY,Fi,Iq] at h⊢;obtain⟨G,_⟩:=UE k r L h.2.1 (by omega)
  have:=Qxq rows _ h.2.2 z
  rw[Cx] at this;omega
def BW.rows:BW->List (List AV)
 | .d _ _ rows=>Bl rows
 | .a _ _ rows=>rows
 | .no=>[]
def BW.w:BW->Nat
 | .d _ k _| .a _ k _=>k
 | .no=>0
def BW.us:BW->List Nat
 | .d u _ _| .a u _ _=>u
 | .no=>[]
def Uc{C:AX}{S:Ay}(hW:Wf C S){h:Nat->Option Aq}{X:AV}{v:Value}(hc:Aa S X v)(hu: ∀n∈(D7 h X).us,S.h n=h n)(O:(D7 h X).okOne)
 {z:Nat}(hz:z≠0)(Z:(D7 h X).w=z\/(D7 h X).rows=[]):
 ∃L,(Builtin.lenOf v).run P S.w= .ok (D7 h X).rows.length S.w/\(∀k,(Builtin.firstCells z (D7 h X).rows.length v).run P {S.w with drawn:=k}= .ok L.toArray {S.w with drawn:=k})/\
  L.length=(D7 h X).rows.length*z/\BB S z (D7 h X).rows L/\(∀v∈L,v.oneCell'=true)/\(D7 h X).rows.length<=Kr:=by
 cases X<;>try exact O.elim
 case im d=>
  cases d<;>try exact O.elim
  rename_i nz k rows;simp only[D7,BW.rows,BW.w,BW.okOne] at O Z⊢;simp only[Aa,rd] at hc;rcases hc with ⟨rfl|⟨_,a,rfl⟩,rfl⟩|⟨b,p,cap,vs,T,fr,rfl,_,h2,h3,_,h5,h6⟩
  .exact⟨[],by simp[Builtin.lenOf,Bl],by simp[Builtin.firstCells],by simp[Bl],by simp[Bl,BB],by simp,by simp[Bl]⟩
  .refine⟨[],by simp[Builtin.lenOf,Bl],?_,by simp[Bl],by simp[Bl,BB],by simp,by simp[Bl]⟩;intro j;simp[Builtin.firstCells,Bl,loadCells,loadCellsFrom]
  .by_cases hr:rows=[]
   .subst hr;refine⟨[],by simp[Builtin.lenOf,Bl],?_,by simp[Bl],by simp[Bl,BB],by simp,by simp[Bl]⟩;intro j;simp[Builtin.firstCells,Bl,loadCells,loadCellsFrom]
   .have af:k=z:=by
     rcases Z with Z|Z
     .exact Z
     .simp[Bl] at Z;exact absurd Z hr
    subst af;have hl:=Qxq rows _ h6 hz;have aa:vs.toList.length=vs.size:=E8;have ad:=gW _ _ h6;have G:(Bl rows).length=rows.length:=by simp[Bl]
    refine⟨(vs.toList.drop p).take (rows.length*k),by simp[Builtin.lenOf,Bl],?_,?_,?_,?_,by rw[G];exact h3⟩
    .intro j;rw[G];refine gK (w:={S.w with drawn:=j}) h5 ?_;by_cases ak:p<=vs.size
     .rw[Cx,aa] at hl;omega
     .have:0<rows.length*k:=Nat.mul_pos (jA.2 hr) (by omega)
      rw[Cx,aa] at hl;omega
    .rw[Ci,G];omega
    .have:=vD _ _ ad (by rw[G];exact hl)
     rwa [G] at this
    .have:=pI _ _ (Qyt O) ad (by rw[G];exact hl)
     rwa [G] at this
 case own n=>
  simp only[D7] at O Z hu⊢;simp only[Aa] at hc;cases hn:h n with
  |none=>rw[hn] at O;exact O.elim
  |some e=>
  rw[hn] at O Z hu;obtain⟨mu,e⟩:=e;cases e<;>try exact O.elim
  case arr T k rows=>
   simp only[YM,BW.rows,BW.w,BW.okOne,BW.us] at O Z hu⊢;have hS:S.h n=_:=(hu n (by simp)).trans hn;have Q:=hW.obj _ _ hS;have hc:=hc.2 _ hS;have G:(Bl rows).length=rows.length:=by simp[Bl]
   cases hl0:S.ρ n with
   |none=>
    rw[hl0] at hc Q;simp only[Au] at Q;obtain⟨_,rfl⟩:=Q;simp only at hc;subst hc;exact⟨[],by simp[Builtin.lenOf,Bl],by simp[Builtin.firstCells],by simp[Bl],by simp[Bl,BB],by simp,by simp[Bl]⟩
   |some l=>
    rw[hl0] at hc Q;simp only[Au,Ad.len] at Q hc;subst hc;obtain⟨ab,ac,vs,hb,aj,hr⟩:=Q;by_cases ah:rows=[]
    .subst ah;refine⟨[],by simp[Builtin.lenOf,Bl],?_,by simp[Bl],by simp[Bl,BB],by simp,by simp[Bl]⟩;intro j;simp[Builtin.firstCells,Bl,loadCells,loadCellsFrom]
    .have af:k=z:=by
      rcases Z with Z|Z
      .exact Z
      .simp[Bl] at Z;exact absurd Z ah
     subst af;have ad:=gW _ _ hr;have ai:rows.length*k<=l.cap*k:=Hq _ ac;have aa:vs.toList.length=vs.size:=E8;have ag:rows.length*k<=(vs.toList.drop l.p).length:=by rw[Cx,aa];omega
     refine⟨(vs.toList.drop l.p).take (rows.length*k),by simp[Builtin.lenOf,Bl],?_,?_,?_,?_,by rw[G];exact ab⟩
     .intro j;rw[G];exact gK (w:={S.w with drawn:=j}) hb (by omega)
     .rw[Ci,G];omega
     .have:=vD _ _ ad (by rw[G];exact ag)
      rwa [G] at this
     .have:=pI _ _ (Qyt O) ad (by rw[G];exact ag)
      rwa [G] at this
  case arrA T k rows=>
   simp only[YM,BW.rows,BW.w,BW.okOne,BW.us] at O Z hu⊢;have hS:S.h n=_:=(hu n (by simp)).trans hn;have Q:=hW.obj _ _ hS;have hc:=hc.2 _ hS;cases hl0:S.ρ n with
   |none=>
    rw[hl0] at hc Q;simp only[Au] at Q;obtain⟨_,rfl⟩:=Q;simp only at hc;subst hc;exact⟨[],by simp[Builtin.lenOf],by simp[Builtin.firstCells],by simp,by simp[BB],by simp,by simp⟩
   |some l=>
    rw[hl0] at hc Q;simp only[Au,Ad.len] at Q hc;subst hc;obtain⟨ab,ac,vs,hb,aj,hr⟩:=Q;by_cases ah:rows=[]
    .subst ah;refine⟨[],by simp[Builtin.lenOf],?_,by simp,by simp[BB],by simp,by simp⟩;intro j;simp[Builtin.firstCells,loadCells,loadCellsFrom]
    .have af:k=z:=by
      rcases Z with Z|Z
      .exact Z
      .exact absurd Z ah
     subst af;have ai:rows.length*k<=l.cap*k:=Hq _ ac;have aa:vs.toList.length=vs.size:=E8;have ag:rows.length*k<=(vs.toList.drop l.p).length:=by rw[Cx,aa];omega
     refine⟨(vs.toList.drop l.p).take (rows.length*k),by simp[Builtin.lenOf],?_,?_,?_,?_,ab⟩
     .intro j;exact gK (w:={S.w with drawn:=j}) hb (by omega)
     .rw[Ci];omega
     .exact vD _ _ hr ag
     .exact pI _ _ O hr ag
end
def Qjh{S:Ay}{k:Nat}: ∀(rows:List (List D)) (L:List Value),BB S k (Bl rows) L->rdr S.ok S.hp k rows L
 |[],_,_=>by simp only[rdr]
 |r::rows,L,h=>by
  simp only[Bl,Bd,BB] at h;simp only[rdr];exact⟨by simpa using h.1,(uM _ _).1 h.2.1,Qjh rows _ h.2.2⟩
def X5{S S':Ay}{T k:Nat}{rows:List (List D)}{l:Option Fj}(G:S'.ok=S.ok)(z:S'.hp=S.hp)(h:Au S l (.arrA T k (Bl rows))):Au S' l (.arr T k rows):=by
 simp only[Au] at h⊢;refine⟨by simpa[Bl] using h.1,?_⟩;cases l with
 |none=>simpa[Bl] using h.2
 |some lc=>
  obtain⟨_,O,vs,Q,Z,h4⟩:=h;refine⟨by simpa[Bl] using O,vs,by rw[z];exact Q,Z,?_⟩;rw[G,z];exact Qjh _ _ h4
section
variable {P:Program}{tm:List (Nat×AV)}{h:Nat->Option Aq}{nx:Nat}{o:Oper}{K:Ai}
def N8{T U u2 e:TypeId}{G:TI}{s x:Operand}(hT:P.underlying T=some (.slice e))(hU:P.underlying U=some (.slice u2))(hE:tI P e=some G)
 {c:Call}(ho:o.op= .call c)(ad:c.callee= .builtin .append)(aa:c.args= #[s,x])(bo:c.argTypes= #[T,U])
 (an:G.bytes≠0)(hz:G.zero.length=G.size)(Z:G.size≠0){u ks:List Nat}{rows0:List (List AV)}
 (az:(D7 h (Aw tm x)).okOne)(hw:(D7 h (Aw tm x)).w=G.size\/(D7 h (Aw tm x)).rows=[])(a9: ∀n∈(D7 h (Aw tm x)).us,n∈u++ks)
 (bd:(rows0.length+(D7 h (Aw tm x)).rows.length+512)*G.bytes<=140737488355328)
 (hnm: ∀m∈B2 (rows0++(D7 h (Aw tm x)).rows),∃n f,n∈u++ks/\h n=some f/\m∈f.2.nms)
 (ay:((∃k0,Aw tm s= .im (.sl true k0 []))/\rows0=[])\/(∃n f,Aw tm s= .own n/\n∈ks/\h n=some (true,f)/\((∃rows,f= .arr e G.size rows/\rows0=Bl rows)\/f= .arrA e G.size rows0)))
 {ea:Ad}(au:ea= .arrA e G.size (rows0++(D7 h (Aw tm x)).rows)\/ ∃rows,ea= .arr e G.size rows/\Bl rows=rows0++(D7 h (Aw tm x)).rows)
 (hk:K (.own nx) {use:=u,kill:=ks,new:=[(nx,(true,ea))],cnt:=1}):BJ P tm h nx o K:=by
 refine⟨_,_,B5.one (u:=u) (ks:=ks) (.inl ⟨rfl,rfl⟩) ?_,hk⟩;intro C S a hW hu bf ag ah;have Q:=ah s (by rw[ho];simp[Op.operands,Call.operands,aa,ad]);have h2:=ah x (by rw[ho];simp[Op.operands,Call.operands,aa,ad]);obtain⟨L,aw,af,am,bc,bb,bq⟩:=Uc hW h2 (λn hn=>hu n (a9 n hn)) az Z hw;have bl:=bf rfl;have ak: ∃l0 A,a.eval s=fY l0 rows0.length/\Z6 S e G.size rows0.length A l0/\
  (∀l,l0=some l-> ∃o f,o∈ks/\S.h o=some (true,f)/\S.ρ o=some l)/\BB S G.size rows0 A/\rows0.length*G.size<=A.length:=by
  rcases ay with ⟨⟨k0,hs⟩,rfl⟩|⟨n,f,hs,ax,hf,av⟩
  .rw[hs] at Q;simp only[Aa,rd] at Q;rcases Q with ⟨Q,_⟩|⟨b,p,cap,vs,T,fr,_,bi,_⟩
   .have Q:=wX Q;exact⟨none,[],by rw[Q];rfl,⟨rfl,rfl⟩,(by intro l hl;cases hl),by simp only[BB],by simp⟩
   .exact absurd rfl (bi trivial)
  .rw[hs] at Q;have hS:S.h n=_:=(hu n (by simp[ax])).trans hf;have z:=hW.obj _ _ hS;simp only[Aa] at Q;have Q:=Q.2 _ hS;cases hl0:S.ρ n with
   |none=>
    rw[hl0] at Q z;simp only at Q
    have:rows0=[]:=by
     rcases av with ⟨rows,rfl,rfl⟩|rfl
     .simp only[Au] at z;rw[z.2];rfl
     .simp only[Au] at z;exact z.2
    subst this;exact⟨none,[],by rw[Q];rfl,⟨rfl,rfl⟩,(by intro l hl;cases hl),by simp only[BB],by simp⟩
   |some l=>
    rw[hl0] at Q z;simp only at Q;have ao:f.len=rows0.length/\rows0.length<=l.cap/\ ∃vs,S.hp l.b=some (.cells vs e (0,0))/\l.p+l.cap*G.size<=vs.size/\BB S G.size rows0 (vs.toList.drop l.p):=by
     rcases av with ⟨rows,rfl,rfl⟩|rfl
     .simp only[Au] at z;obtain⟨_,O,vs,hb,Z,hr⟩:=z;exact⟨by simp[Ad.len,Bl],by simpa[Bl] using O,vs,hb,Z,gW _ _ hr⟩
     .simp only[Au] at z;obtain⟨_,O,vs,hb,Z,hr⟩:=z;exact⟨rfl,O,vs,hb,Z,hr⟩
    obtain⟨be,O,vs,hb,Z,hr⟩:=ao;have br:rows0.length*G.size<=l.cap*G.size:=Hq _ O;have bp:vs.toList.length=vs.size:=E8;refine⟨some l,vs.toList.drop l.p,by rw[Q,be];rfl,⟨O,vs,hb,rfl,Z⟩,?_,hr,by rw[Cx,bp];omega⟩;intro l' bg;obtain rfl:=AE bg;exact⟨n,f,ax,hS,hl0⟩
 obtain⟨l0,A,hv,hA,ai,bn,ba⟩:=ak;obtain⟨w',l',a0,bm,ac⟩:=N7 hW (nx:=nx) (ks:=ks) (ty:=o.type) hT hE hU an hz Z bd hA aw af am bb ai bl (λn f hf=>ag n f hf rfl);refine⟨fY l' (rows0.length+(D7 h (Aw tm x)).rows.length),w',l',.inl ?_,bm ea,?_⟩
 .simp only[execOp,ho,resolve,ad,aa,bo,Sem.run_bind,Sem.run_pure,Result.andThen_ok,invoke,builtin];simp[hv,a0]
 intro hp;have bt:G.bytes≠0:=an;have a8:rows0.length+(D7 h (Aw tm x)).rows.length<=Kr:=by
  have:(rows0.length+(D7 h (Aw tm x)).rows.length+512)*1<=(rows0.length+(D7 h (Aw tm x)).rows.length+512)*G.bytes:=Nat.mul_le_mul_left _ (by omega)
  simp only[Kr];omega
 have hX: ∀m∈B2 (rows0++(D7 h (Aw tm x)).rows),S.h nx≠none\/m≠nx:=by
  intro m hm;obtain⟨n,f,bj,hf,bh⟩:=hnm m hm;right;rintro rfl;exact ag n f ((hu n bj).trans hf) rfl bh
 have ab:Au (S.one nx ea l' ks w') l' (.arrA e G.size (rows0++(D7 h (Aw tm x)).rows)):=by
  simp only[Au,Dn];refine⟨a8,?_⟩;cases l' with
  |none=>
   simp only at ac⊢;rw[List.append_eq_nil_iff];exact⟨Qv.1 ac.1,Qv.1 ac.2⟩
  |some l=>
   obtain⟨h3,vs,R,h4,h5,h6⟩:=ac;refine⟨h3,vs,h4,h5,?_⟩;rw[h6];exact oB hp _ _ _ hX (Qqs _ _ _ _ _ bn ba bc (by rw[am];exact AN _))
 have aj:ea.len=rows0.length+(D7 h (Aw tm x)).rows.length:=by
  rcases au with rfl|⟨rows,rfl,hr⟩
  .simp[Ad.len]
  .simp only[Ad.len];rw[<-Dn,<-hr];simp[Bl]
 constructor
 .rcases au with rfl|⟨rows,rfl,hr⟩
  .exact ab
  .rw[<-hr] at ab;exact X5 rfl rfl ab
 .simp only[Aa];refine⟨by cases l'<;>rfl,λe' aq=> ?_⟩;simp only[Ay.one,BI,AI] at aq⊢;subst aq;cases l' with
  |none=>rfl
  |some l=>simp only[fY];rw[aj]
def iF(rows:List (List D)):B2 (Bl rows)=[]:=by
 induction rows with
 |nil=>rfl
 |cons r rows ih=>simp only[Bl,Bd,B2,Qw0,GM];exact ih
def pC: ∀(a b:List (List AV)),B2 (a++b)=B2 a++B2 b
 |[],_=>rfl
 |x::a,b=>by simp[B2,pC a b]
def OV{X:AV}{m:Nat}(z:m∈B2 (D7 h X).rows): ∃n f,n∈(D7 h X).us/\h n=some f/\m∈f.2.nms:=by
 cases X<;>try (simp only[D7,BW.rows,B2] at z;cases z;done)
 case im d=>cases d<;>simp only[D7,BW.rows,iF,B2] at z<;>cases z
 case own n=>
  simp only[D7] at z⊢;cases hn:h n with
  |none=>rw[hn] at z;simp only[YM,BW.rows,B2] at z;cases z
  |some e=>
   rw[hn] at z;obtain⟨G,e⟩:=e;cases e<;>simp only[YM,BW.rows,iF,B2] at z<;>try cases z
   refine⟨n,_,by simp[BW.us,YM],hn,z⟩
def Qab5{T U:TypeId}{s x:Operand}{c:Call}(ho:o.op= .call c)(ag:c.callee= .builtin .append)(ad:c.args= #[s,x])(am:c.argTypes= #[T,U])
 (z:Bc (vX P h nx (Aw tm s) (Aw tm x) T K) (tI P U)):BJ P tm h nx o K:=by
 cases hU:tI P U with
 |none=>rw[hU] at z;exact z.elim
 |some ui=>
 rw[hU] at z;simp only[Bc,vX] at z;obtain⟨ah,z⟩:=z;cases hu:ui.kind<;>rw[hu] at ah<;>simp only[TK.isSl,CE] at ah;rename_i u2;have aj:=Pt hU hu;cases hT:tI P T with
 |none=>rw[hT] at z;exact z.elim
 |some ti=>
 rw[hT] at z;simp only[Qsl] at z;cases hf:ti.kind<;>rw[hf] at z<;>try exact z.elim
 rename_i e;have ai:=Pt hT hf;simp only[apK] at z;cases hE:tI P e with
 |none=>rw[hE] at z;exact z.elim
 |some te=>
 rw[hE] at z;simp only[Bc,apE] at z;obtain⟨hz,hl,ak,Q,z⟩:=z;have ab: ∀{m:Nat},m∈B2 (D7 h (Aw tm x)).rows-> ∃n f,n∈(D7 h (Aw tm x)).us/\h n=some f/\m∈f.2.nms:=λZ=>OV Z
 have G:= @N8 P tm h nx o K T U u2 e te s x ai aj hE c ho ag ad am ak hl hz;revert G;generalize D7 h (Aw tm x)=src at z Q ab;intro G;cases hs:Aw tm s<;>rw[hs] at z<;>try exact z.elim
 case im d=>
  cases d<;>try exact z.elim
  rename_i nz k0 rows;cases nz<;>cases rows<;>try exact z.elim
  simp only[QA] at z;cases src with
  |no=>exact z.elim
  |d u k rows=>
   simp only[MQ] at z;obtain⟨O,hb,z⟩:=z;refine G (u:=u) (ks:=[]) (rows0:=[]) Q (O.imp id (λh=>by rw[h];rfl)) (by simp[BW.us]) (by simpa[BW.rows,Bl] using hb) ?_ (.inl ⟨⟨k0,hs⟩,rfl⟩) (.inr ⟨rows,rfl,by simp[BW.rows]⟩) z;intro m Z;simp only[GM,BW.rows,iF] at Z;cases Z
  |a u k rows=>
   simp only[MQ] at z;obtain⟨O,hb,z⟩:=z;refine G (u:=u) (ks:=u) (rows0:=[]) Q (.inl O) (by simp[BW.us]) (by simpa[BW.rows] using hb) ?_ (.inl ⟨⟨k0,hs⟩,rfl⟩) (.inl (by simp[BW.rows])) z;intro m Z;obtain⟨n,f,hn,hf⟩:=ab Z;exact⟨n,f,by simp[BW.us] at hn;simp[hn],hf⟩
 case own n=>
  simp only[QA] at z;cases hn:h n with
  |none=>rw[hn] at z;exact z.elim
  |some ac=>
  rw[hn] at z;obtain⟨mu,ac⟩:=ac;cases mu<;>cases ac<;>try exact z.elim
  case true.arr U0 k0 rows0=>
   simp only[Ir] at z;obtain⟨rfl,rfl,z⟩:=z;cases src with
   |no=>exact z.elim
   |d u k rows=>
    simp only[jL] at z;obtain⟨O,af,hb,z⟩:=z;refine G (u:=n::u) (ks:=[n]) (rows0:=Bl rows0) Q (O.imp id (λh=>by rw[h];rfl)) (by intro x hx;simp[BW.us] at hx;simp[hx]) (by simpa[BW.rows,Bl] using hb) ?_
     (.inr ⟨n,_,hs,by simp,hn,.inl ⟨rows0,rfl,rfl⟩⟩) (.inr ⟨rows0++rows,rfl,by simp[BW.rows,Bl]⟩) z
    intro m Z;simp only[BW.rows,pC,iF] at Z;cases Z
   |a u k rows=>
    simp only[jL] at z;obtain⟨O,af,hb,z⟩:=z;refine G (u:=n::u) (ks:=n::u) (rows0:=Bl rows0) Q (.inl O) (by intro x hx;simp[BW.us] at hx;simp[hx]) (by simpa[BW.rows,Bl] using hb) ?_
     (.inr ⟨n,_,hs,by simp,hn,.inl ⟨rows0,rfl,rfl⟩⟩) (.inl (by simp[BW.rows])) z
    intro m Z;simp only[pC,iF,GM] at Z;obtain⟨n',f,aa,hf⟩:=ab Z;exact⟨n',f,by simp[BW.us] at aa;simp[aa],hf⟩
  case true.arrA U0 k0 rows0=>
   simp only[Ir] at z;obtain⟨rfl,rfl,z⟩:=z;cases src with
   |no=>exact z.elim
   |d u k rows=>
    simp only[jK] at z;obtain⟨O,af,hb,z⟩:=z;refine G (u:=n::u) (ks:=[n]) (rows0:=rows0) Q (O.imp id (λh=>by rw[h];rfl)) (by intro x hx;simp[BW.us] at hx;simp[hx]) (by simpa[BW.rows,Bl] using hb) ?_
     (.inr ⟨n,_,hs,by simp,hn,.inr rfl⟩) (.inl (by simp[BW.rows])) z
    intro m Z;simp only[BW.rows,pC,iF,DA] at Z;exact⟨n,_,by simp,hn,Z⟩
   |a u k rows=>
    simp only[jK] at z;obtain⟨O,af,hb,z⟩:=z;refine G (u:=n::u) (ks:=n::u) (rows0:=rows0) Q (.inl O) (by intro x hx;simp[BW.us] at hx;simp[hx]) (by simpa[BW.rows] using hb) ?_
     (.inr ⟨n,_,hs,by simp,hn,.inr rfl⟩) (.inl (by simp[BW.rows])) z
    intro m Z;simp only[pC,Br] at Z;rcases Z with Z|Z
    .exact⟨n,_,by simp,hn,Z⟩
    .obtain⟨n',f,aa,hf⟩:=ab Z;exact⟨n',f,by simp[BW.us] at aa;simp[aa],hf⟩
end
def Qx9{ok:Nat->Prop}{hp:Nat->Option Obj}: ∀(ds:List (D×D)) (es:List MapEntry),rde ok hp ds es->es.length=ds.length
 |[],_,h=>by simp only[rde] at h;simp[h]
 |(x,y)::ds,_,h=>by
  simp only[rde] at h;obtain⟨e,r,rfl,_,_,z⟩:=h;simp[Qx9 ds r z]
def Pq{P:Program}{w:World}{b:Nat}{es:Array MapEntry}{clock:Nat}(h:w.heap[b]? =some (.map es clock)):(getObj b).run P w= .ok (.map es clock) w:=by
 simp[getObj,Sem.run,h]
section
variable {P:Program}{w:World}{T e k:TypeId}
def VP(x y:Value):Op.equal T x y=Op.equalIn (9999+1) T x y:=rfl
def JN(z:P.underlying T=some (.slice e))(d:Nat)(b:Option Addr)(n c:Nat):(Op.equalIn (d+1) T (.slice b n c) (.slice none 0 0)).run P w= .ok b.isNone w:=by
 cases b<;>simp[Op.equalIn,run_underlying z]
def Qx1(z:P.underlying T=some (.pointer e))(d:Nat)(b:Option Addr):(Op.equalIn (d+1) T (.pointer b) (.pointer none)).run P w= .ok b.isNone w:=by
 cases b<;>simp[Op.equalIn,run_underlying z]
def JM(z:P.underlying T=some (.map k e))(d:Nat)(b:Option Nat):(Op.equalIn (d+1) T (.map b) (.map none)).run P w= .ok b.isNone w:=by
 cases b<;>simp[Op.equalIn,run_underlying z]
end
def jR(tm:List (Nat×AV))(h:Nat->Option Aq)(o:Oper):Prop:=
 ∃u:List Nat,∀(C:AX) (S:Ay) (a:Act),Wf C S->(∀n∈u,S.h n=h n)->(∀x∈o.op.operands,Aa S (Aw tm x) (a.eval x))->False
def JD(P:Program)(tm:List (Nat×AV))(h:Nat->Option Aq)(nx:Nat)(o:Oper)(K:Ai):Prop:=
 ∀(C:AX) (S:Ay) (a:Act) (next:Act->World->Prop) (Q:Exit->Act->World->Prop),
  Wf C S->(∀n,S.h n=h n)->(∀n,nx<=n->S.h n=none)->(∀n e,S.h n=some e-> ∀m∈e.2.nms,m<nx)->
  (∀x∈o.op.operands,Aa S (Aw tm x) (a.eval x))->
  (∀r E v S',K r E->Wf C S'->S'.h=E.appf S.h->Bx (λm=> ¬Fr nx E.cnt m) S S'->Aa S' r v->next (a.put o.dst v) S'.w)->
  o.wp P a S.w next Q
abbrev Wt(P:Program)(z:Bool)(tm:List (Nat×AV))(h:Nat->Option Aq)(nx:Nat)(o:Oper)(K:Ai):Prop:=
 BJ P tm h nx o K\/(z=true/\(jR tm h o\/JD P tm h nx o K))
section
variable {P:Program}{tm:List (Nat×AV)}{h:Nat->Option Aq}{nx:Nat}{o:Oper}{K:Ai}
def YL{T:TypeId}{x:Operand}{c:Call}{u:List Nat}{n:Nat}(ho:o.op= .call c)(G:c.callee= .builtin .len)(z:c.args= #[x])(Z:c.argTypes= #[T])
 (Q: ∀(C:AX) (S:Ay) (v:Value),Wf C S->(∀n∈u,S.h n=h n)->Aa S (Aw tm x) v->(Builtin.len_ #[T] o.type #[v]).run P S.w= .ok (.int .i64 n) S.w)
 (hk:Ft K {use:=u} n):BJ P tm h nx o K:=by
 refine⟨_,_,B5.pure (u:=u) ?_,hk⟩;intro C S a hW hu O;have h1:=O x (by rw[ho];simp[Op.operands,Call.operands,z,G]);refine⟨.int .i64 n,?_,by simp only[Aa,rd]⟩;simp only[execOp,ho,resolve,G,z,Z,Sem.run_bind,Sem.run_pure,Result.andThen_ok,invoke,builtin];simp[Q C S _ hW hu h1]
def Qq0{z:Bool}{B:Prop}(O:(z=true->B)->BJ P tm h nx o K)(Q: ¬B->jR tm h o):Wt P z tm h nx o K:=by
 by_cases G:B
 .exact .inl (O λ_=>G)
 .cases z
  .exact .inl (O λh=>by cases h)
  .exact .inr ⟨rfl,.inl (Q G)⟩
def Ya{sq:Bool}{T:TypeId}{x:Operand}{c:Call}(Z:o.op= .call c)(O:c.callee= .builtin .len)(G:c.args= #[x])(aa:c.argTypes= #[T])
 (z:Bc (cU sq h (Aw tm x) K) (tI P T)):Wt P sq tm h nx o K:=by
 have aj:x∈o.op.operands:=by rw[Z];simp[Op.operands,Call.operands,G,O]
 cases hT:tI P T with
 |none=>rw[hT] at z;exact z.elim
 |some ti=>
 rw[hT] at z;simp only[Bc,cU] at z;cases hf:ti.kind<;>rw[hf] at z<;>try exact z.elim
 case slice e=>
  have hu:=Pt hT hf;simp only[EW] at z;cases hx:Aw tm x<;>rw[hx] at z<;>try exact z.elim
  case im d=>
   cases d<;>try exact z.elim
   rename_i nz k rows;simp only[cN] at z;refine Qq0 (B:=rows.length<=140737488355328) (λhb=>YL (u:=[]) Z O G aa ?_ (z hb)) λhb=>⟨[],?_⟩
   .intro C S v hW _ hc;rw[hx] at hc;simp only[Aa,rd] at hc;rcases hc with ⟨rfl|⟨_,a,rfl⟩,rfl⟩|⟨b,p,cap,vs,T,fr,rfl,_⟩<;>simp[Builtin.len_,underlying,hu,goInt]
   .intro C S a hW _ ad;have h1:=ad x aj;rw[hx] at h1;simp only[Aa,rd] at h1;rcases h1 with ⟨_,rfl⟩|⟨b,p,cap,vs,T,fr,_,_,_,h3,_⟩
    .simp at hb
    .exact hb h3
  case own n=>
   simp only[cN] at z;cases hn:h n with
   |none=>rw[hn] at z;exact z.elim
   |some Q=>
   rw[hn] at z;obtain⟨mu,Q⟩:=Q;have af: ∀{rl:Nat},Q.len=rl->(∀(S:Ay) l,Au S l Q->rl<=140737488355328)->((sq=true->rl<=140737488355328)->Ft K {use:=[n]} rl)->(∀(S:Ay),Au S none Q->rl=0)->
    Wt P sq tm h nx o K:=by
    intro rl hl ak z ai;refine Qq0 (B:=rl<=140737488355328) (λhb=>YL (u:=[n]) Z O G aa ?_ (z hb)) λhb=>⟨[n],?_⟩
    .intro C S v hW ab hc;rw[hx] at hc;simp only[Aa] at hc;have hS:=(ab n (by simp)).trans hn;have hc:=hc.2 _ hS;cases hl0:S.ρ n with
     |none=>
      have ac:=hW.obj _ _ hS;rw[hl0] at hc ac;simp only at hc;subst hc
      have:=ai S ac
      simp[Builtin.len_,underlying,hu,goInt,this]
     |some l=>
      rw[hl0] at hc;simp only[hl] at hc;subst hc;simp[Builtin.len_,underlying,hu,goInt]
    .intro C S a hW ab ad;have hS:=(ab n (by simp)).trans hn;exact hb (ak S _ (hW.obj _ _ hS))
   cases Q<;>try exact z.elim
   case arr T0 k rows=>
    exact af rfl (λS l Z=>by simp only[Au] at Z;exact Z.1) z (λS Z=>by simp only[Au] at Z;rw[Z.2];rfl)
   case arrA T0 k rows=>
    exact af rfl (λS l Z=>by simp only[Au] at Z;exact Z.1) z (λS Z=>by simp only[Au] at Z;rw[Z.2];rfl)
  case osl n wa wn=>
   simp only[cN] at z;cases hn:h n with
   |none=>rw[hn] at z;exact z.elim
   |some Q=>
   rw[hn] at z;refine .inl (YL (u:=[n]) Z O G aa ?_ z);intro C S v hW ab hc;rw[hx] at hc;simp only[Aa] at hc;have hS:=(ab n (by simp)).trans hn;have hc:=hc.2 _ hS;unfold Pn at hc;cases hl0:S.ρ n with
   |none=>
    rw[hl0] at hc;obtain⟨rfl,rfl⟩:=hc;simp[Builtin.len_,underlying,hu,goInt]
   |some l=>
    rw[hl0] at hc;obtain⟨p,cp,rfl,_⟩:=hc;simp[Builtin.len_,underlying,hu,goInt]
 case str=>
  have hu:=V0 hT hf;simp only[EW] at z;cases hx:Aw tm x<;>rw[hx] at z<;>try exact z.elim
  rename_i d;cases d<;>try exact z.elim
  refine .inl (YL (u:=[]) Z O G aa ?_ z);intro C S v hW _ hc;rw[hx] at hc;simp only[Aa,rd] at hc;subst hc;simp[Builtin.len_,underlying,hu,goInt]
 case map k e=>
  have hu:=iR hT hf;simp only[EW] at z;cases hx:Aw tm x<;>rw[hx] at z<;>try exact z.elim
  case im d=>
   cases d<;>try exact z.elim
   case nilm=>
    refine .inl (YL (u:=[]) Z O G aa ?_ z);intro C S v hW _ hc;rw[hx] at hc;simp only[Aa,rd] at hc;subst hc;simp[Builtin.len_,underlying,hu,goInt]
   case mp kt es=>
    refine .inl (YL (u:=[]) Z O G aa ?_ z);intro C S v hW _ hc;rw[hx] at hc;simp only[Aa,rd] at hc;obtain⟨b,ah,ag,rfl,_,_,h5,h6,_⟩:=hc;have hl:=Qx9 _ _ h6;simp only[E8] at hl;simp[Builtin.len_,underlying,hu,goInt,Pq (w:=S.w) h5,hl]
  case mp n=>
   simp only[qX] at z;cases hn:h n with
   |none=>rw[hn] at z;exact z.elim
   |some Q=>
   rw[hn] at z;obtain⟨mu,Q⟩:=Q;cases Q<;>try exact z.elim
   refine .inl (YL (u:=[n]) Z O G aa ?_ z);intro C S v hW ab hc;rw[hx] at hc;simp only[Aa] at hc;have hS:=(ab n (by simp)).trans hn;obtain⟨l,hl,rfl⟩:=hc.2 _ hS;have ac:=hW.obj _ _ hS;simp only[Au] at ac;obtain⟨lc,ah,ag,h1,_,h5,h6,_⟩:=ac;rw[hl] at h1;obtain rfl:=AE h1;have hl:=Qx9 _ _ h6;simp only[E8] at hl;simp[Builtin.len_,underlying,hu,goInt,Pq (w:=S.w) h5,hl]
def bW{op:BinOp}{T U:TypeId}{x y:Operand}{u:List Nat}{b:Bool}(ho:o.op= .binOp op T x y U)(Z:op= .eql\/op= .neq){z:Value}(hy:y= .const z)
 (Q:z= .slice none 0 0\/z= .pointer none\/z= .map none)
 (O: ∀(C:AX) (S:Ay) (v:Value),Wf C S->(∀n∈u,S.h n=h n)->Aa S (Aw tm x) v->(∀k n,v≠ .int k n)/\(∀k n,v≠ .float k n)/\(∀k n m,v≠ .complex k n m)/\(∀s,v≠ .string s)/\(Op.equal T v z).run P S.w= .ok b S.w)
 (hk:K (.im (.bool ((decide (op= .neq)) !=b))) {use:=u}):BJ P tm h nx o K:=by
 refine⟨_,_,B5.pure (u:=u) ?_,hk⟩;intro C S a hW hu G;have h1:=G x (by rw[ho];simp[Op.operands]);obtain⟨hi,hf,hc,hs,hr⟩:=O C S _ hW hu h1;refine⟨.bool (decide (op= .neq) !=b),?_,by simp only[Aa,rd]⟩;have hg:(eqGuard op T x y (a.eval x) z).run P S.w= .ok () S.w:=by
  rcases Q with rfl|rfl|rfl<;>rcases Z with rfl|rfl<;>simp[eqGuard]
 have hb:(binOp op T (a.eval x) z).run P S.w= .ok (.bool (decide (op= .neq) !=b)) S.w:=by
  have hq:(Op.equal T (a.eval x) z).run P S.w= .ok b S.w:=hr;clear hr hg G h1 O hk hu;generalize a.eval x=v at*;rcases Z with rfl|rfl
  .have:binOp .eql T v z=(do pure (.bool (<-Op.equal T v z))):=by
    rcases Q with rfl|rfl|rfl<;>cases v<;>first|rfl|exact absurd rfl (hi _ _)|exact absurd rfl (hf _ _)|exact absurd rfl (hc _ _ _)|exact absurd rfl (hs _)
   rw[this];simp[hq]
  .have:binOp .neq T v z=(do pure (.bool (!(<-Op.equal T v z)))):=by
    rcases Q with rfl|rfl|rfl<;>cases v<;>first|rfl|exact absurd rfl (hi _ _)|exact absurd rfl (hf _ _)|exact absurd rfl (hc _ _ _)|exact absurd rfl (hs _)
   rw[this];simp[hq]
 have aa:a.eval y=z:=by rw[hy];rfl
 simp only[execOp,ho,aa,Sem.run_bind,hg,Result.andThen_ok,hb,Sem.run_pure]
def ZO{op:BinOp}{T U:TypeId}{x y:Operand}{m:Nat}(ho:o.op= .binOp op T x y U)(hm:EX y=m+1)(ac:m<=2)(Z:Bc (iJ h op (Aw tm x) K m) (tI P T)):BJ P tm h nx o K:=by
 cases hT:tI P T with
 |none=>rw[hT] at Z;exact Z.elim
 |some ti=>
 rw[hT] at Z;simp only[Bc] at Z;have G:op= .eql\/op= .neq:=by cases op<;>first|exact .inl rfl|exact .inr rfl|exact Z.elim
 have z:Wj h (decide (op= .neq)) K (Aw tm x) m ti.kind:=by rcases G with rfl|rfl<;>exact Z
 have Q: ∃nv,y= .const nv/\((m=0/\nv= .slice none 0 0)\/(m=1/\nv= .pointer none)\/(m=2/\nv= .map none)):=by
  cases y<;>simp only[EX,reduceCtorEq] at hm<;>try (cases hm;done)
  rename_i v;refine⟨v,rfl,?_⟩;unfold Fu at hm;split at hm
  .exact .inl ⟨by omega,rfl⟩
  .exact .inr (.inl ⟨by omega,rfl⟩)
  .exact .inr (.inr ⟨by omega,rfl⟩)
  .omega
  .omega
 obtain⟨nv,Q,ab⟩:=Q;clear Z;rcases ab with ⟨rfl,rfl⟩|⟨rfl,rfl⟩|⟨rfl,rfl⟩<;>cases hf:ti.kind<;>rw[hf] at z<;>try exact z.elim
 .have O:=Pt hT hf;simp only[Wj] at z;cases hx:Aw tm x<;>rw[hx] at z<;>try exact z.elim
  rename_i d;cases d<;>try exact z.elim
  rename_i nz k rows;cases nz<;>try exact z.elim
  refine bW (u:=[]) ho G Q (.inl rfl) ?_ z;intro C S v hW _ hc;rw[hx] at hc;simp only[Aa,rd] at hc;rcases hc with ⟨h0,rfl⟩|⟨b,p,cap,vs,T,fr,rfl,h2,_⟩
  .rw[wX h0];simp[VP,JN O 9999]
  .have ad:rows≠[]:=h2 trivial
   have:rows.isEmpty=false:=by cases rows<;>simp_all
   simp[VP,JN O 9999,this]
 .have O:=gD hT hf;simp only[Wj] at z;cases hx:Aw tm x<;>rw[hx] at z<;>try exact z.elim
  case im d=>
   cases d<;>try exact z.elim
   .refine bW (u:=[]) ho G Q (.inr (.inl rfl)) ?_ z;intro C S v hW _ hc;rw[hx] at hc;simp only[Aa,rd] at hc;subst hc;simp[VP,Qx1 O 9999]
   .refine bW (u:=[]) ho G Q (.inr (.inl rfl)) ?_ z;intro C S v hW _ hc;rw[hx] at hc;simp only[Aa,rd] at hc;obtain⟨b,p,vs,T,fr,rfl,_⟩:=hc;simp[VP,Qx1 O 9999]
  all_goals
   obtain⟨⟨e',he⟩,z⟩:=bX z;refine bW (b:=false) ho G Q (.inr (.inl rfl)) ?_ (by simpa using z);intro C S v hW aa hc;rw[hx] at hc;simp only[Aa] at hc;obtain⟨l,_,rfl⟩:=hc.2 e' ((aa _ (by simp)).trans he);simp[VP,Qx1 O 9999]
 .have O:=iR hT hf;simp only[Wj] at z;cases hx:Aw tm x<;>rw[hx] at z<;>try exact z.elim
  case im d=>
   cases d<;>try exact z.elim
   .refine bW (u:=[]) ho G Q (.inr (.inr rfl)) ?_ z;intro C S v hW _ hc;rw[hx] at hc;simp only[Aa,rd] at hc;subst hc;simp[VP,JM O 9999]
   .refine bW (u:=[]) ho G Q (.inr (.inr rfl)) ?_ z;intro C S v hW _ hc;rw[hx] at hc;simp only[Aa,rd] at hc;obtain⟨b,p,vs,rfl,_⟩:=hc;simp[VP,JM O 9999]
  all_goals
   obtain⟨⟨e',he⟩,z⟩:=bX z;refine bW (b:=false) ho G Q (.inr (.inr rfl)) ?_ (by simpa using z);intro C S v hW aa hc;rw[hx] at hc;simp only[Aa] at hc;obtain⟨l,_,rfl⟩:=hc.2 e' ((aa _ (by simp)).trans he);simp[VP,JM O 9999]
end
end Go.Ae
