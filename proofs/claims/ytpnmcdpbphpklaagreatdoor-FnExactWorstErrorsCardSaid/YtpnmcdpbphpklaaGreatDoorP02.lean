/- Lemmas. Conditions: none. -/
import Derived.Test.YtpnmcdpbphpklaaGreatDoorP01
import Derived.IntWalk
set_option linter.all false
set_option maxHeartbeats 8000000
set_option maxRecDepth 100000
namespace Go.Ae
def Qrv(z:List Value)(O:z≠[]): ∀n,(List.range (n*z.length)).map (λi=>z[i % z.length]!)=Ci n z
 |0=>by simp[Ci]
 |n+1=>by
  have h0:0<z.length:=fL.2 O;rw[Fk,I5,fN,List.range_add,Ei,mH];simp only[Ci];congr 1
  .apply List.ext_getElem
   .simp
   .intro i Q G;simp only[List.getElem_map,ZeR]
    have:i % z.length=i:=Nat.mod_eq_of_lt G
    rw[this,getElem!_pos z i G]
  .rw[<-Qrv z O n];apply ZI;intro i _;simp
def Qxx(a:Array Value)(i:Nat):a[i]! =a.toList[i]! :=by
 by_cases z:i<a.size
 .rw[getElem!_pos a i z,getElem!_pos a.toList i (by simpa using z)];simp
 .rw[getElem!_neg a i z,getElem!_neg a.toList i (by simpa using z)]
def Qzv{α:Type}(z:List α): ∀n,(Ci n z).length=n*z.length
 |0=>by simp[Ci]
 |n+1=>by simp[Ci,Qzv z n,Fk];omega
def nS{α β:Type}(f:α->β)(z:List α): ∀n,(Ci n z).map f=Ci n (z.map f)
 |0=>rfl
 |n+1=>by simp[Ci,nS f z n]
def Ms{ok:Nat->Prop}{hp:Nat->Option Obj}: ∀(a:List D) (x:List Value) (b:List D) (y:List Value),rdl ok hp a x->rdl ok hp b y->rdl ok hp (a++b) (x++y)
 |[],x,b,y,h,z=>by simp only[rdl] at h;subst h;simpa using z
 |d::a,x,b,y,h,z=>by
  simp only[rdl] at h;obtain⟨v,r,rfl,G,O⟩:=h;simp only[CW,rdl];exact⟨v,_,rfl,G,Ms a r b y O z⟩
def Qop{S:Au}: ∀(a:List AV) (x:List Value) (b:List AV) (y:List Value),AJ S a x->AJ S b y->AJ S (a++b) (x++y)
 |[],x,b,y,h,z=>by simp only[AJ] at h;subst h;simpa using z
 |d::a,x,b,y,h,z=>by
  simp only[AJ] at h;obtain⟨v,r,rfl,G,O⟩:=h;simp only[CW,AJ];exact⟨v,_,rfl,G,Qop a r b y O z⟩
def Qy7{ok:Nat->Prop}{hp:Nat->Option Obj}{z:List D}{x:List Value}(h:rdl ok hp z x): ∀n,rdl ok hp (Ci n z) (Ci n x)
 |0=>by simp[Ci,rdl]
 |n+1=>Ms _ _ _ _ h (Qy7 h n)
def dL{α:Type}(k:Nat): ∀(n:Nat) (l:List α),(HO k n l).length=n
 |0,_=>rfl
 |n+1,l=>by simp[HO,dL k n]
def Qq5{ok:Nat->Prop}{hp:Nat->Option Obj}(k:Nat): ∀(n:Nat) (ds:List D) (vs:List Value),rdp ok hp ds vs->ds.length=n*k->rdr ok hp k (HO k n ds) vs
 |0,_,_,_,_=>by simp only[HO,rdr]
 |n+1,ds,vs,h,G=>by
  rw[Fk,I5] at G;simp only[HO,rdr];obtain⟨O,z⟩:=Vj k ds vs h (by omega);refine⟨by rw[Bw];omega,?_,Qq5 k n _ _ (PQ k ds vs h (by omega)) (by rw[Ch];omega)⟩
  have:=sQ _ _ (vs.drop k) (WC _ _ z)
  rwa [HZ] at this
def Qms{S:Au}(k:Nat): ∀(n:Nat) (ds:List AV) (vs:List Value),Cy S ds vs->ds.length=n*k->BE S k (HO k n ds) vs
 |0,_,_,_,_=>by simp only[HO,BE]
 |n+1,ds,vs,h,G=>by
  rw[Fk,I5] at G;simp only[HO,BE];obtain⟨O,z⟩:=Ww k ds vs h (by omega);refine⟨by rw[Bw];omega,?_,Qms k n _ _ (jS k ds vs h (by omega)) (by rw[Ch];omega)⟩
  have:=kH _ _ (vs.drop k) (Wx _ _ z)
  rwa [HZ] at this
def Qn6(k:Nat)(x:Nat): ∀(n:Nat) (ds:List AV),x∈BB (HO k n ds)->x∈A9 ds
 |0,_,h=>by simp[HO,BB] at h
 |n+1,ds,h=>by
  have z: ∀(a b:List AV),A9 (a++b)=A9 a++A9 b:=by
   intro a b;induction a with
   |nil=>rfl
   |cons y a ih=>simp[A9,ih]
  simp only[HO,BB,Bp] at h
  have:=z (ds.take k) (ds.drop k)
  rw[HZ] at this;rw[this,Bp];rcases h with h|h
  .exact .inl h
  .exact .inr (Qn6 k x n _ h)
section
variable {P:Program}{tm:List (Nat×AV)}{h:Nat->Option Ap}{nx:Nat}{o:Oper}{K:Ah}
def Qrh(a b:List AV):A9 (a++b)=A9 a++A9 b:=by
 induction a with
 |nil=>rfl
 |cons y a ih=>simp[A9,ih]
def OE(n:Nat)(a:List AV): ∀m∈A9 (a.take n),m∈A9 a:=by
 intro m z
 have:=Qrh (a.take n) (a.drop n)
 rw[HZ] at this;rw[this,Bp];exact .inl z
def OD(n:Nat)(a:List AV): ∀m∈A9 (a.drop n),m∈A9 a:=by
 intro m z
 have:=Qrh (a.take n) (a.drop n)
 rw[HZ] at this;rw[this,Bp];exact .inr z
def Qvz(x:AV): ∀m∈A9 x.cells,m∈x.nms:=by
 cases x<;>simp only[AV.cells]<;>intro m z
 case im d=>rw[Qw0] at z;cases z
 case agg cs=>simpa[AV.nms] using z
 all_goals simp[A9,AV.nms] at z⊢
 all_goals exact z
def Qyu(G: ∀x,∀m∈(Aq tm x).nms,m≠nx)(Q:Nat->Option (Nat×Nat)): ∀(ps:List (Nat×Operand)) (cs r:List AV),Hw Q (Jv tm ps) (some cs)=some r->
 (∀m∈A9 cs,m≠nx)-> ∀m∈A9 r,m≠nx
 |[],cs,r,h,O=>by simp only[Jv,Hw,AI] at h;subst h;exact O
 |(i,x)::ps,cs,r,h,O=>by
  simp only[Jv,Hw] at h;cases hf:Z7 cs (Aq tm x).cells (Q i) with
  |none=>rw[hf] at h;exact (Qjy _ _ h).elim
  |some us=>
   rw[hf] at h;refine Qyu G Q ps us r h ?_;cases hp:Q i with
   |none=>rw[hp] at hf;simp[Z7] at hf
   |some q=>
    rw[hp] at hf;simp only[Z7] at hf;generalize ((Aq tm x).cells.length==q.2 && (Nat.blt 0 q.2 && Nat.ble (q.1+q.2) cs.length))=bb at hf;cases bb
    .simp at hf
    .simp only[C3,AI] at hf;subst hf;intro m z;simp only[Cf,Qrh,Bp] at z;rcases z with (z|z)|z
     .exact O m (OE _ _ m z)
     .exact G x m (Qvz _ m z)
     .exact O m (OD _ _ m z)
def Qp8{T:TypeId}{n:Nat}{ps:Array (Nat×Operand)}(ho:o.op= .buildSlice T n ps)(G:Bi (xP P nx n (Jv tm ps.toList) K) (tI P T))
 (aj: ∀x,∀m∈(Aq tm x).nms,m≠nx):BV P tm h nx o K:=by
 cases hT:tI P T with
 |none=>rw[hT] at G;exact G.elim
 |some ti=>
 rw[hT] at G;simp only[Bi,xP] at G;cases hf:ti.kind<;>rw[hf] at G<;>try exact G.elim
 rename_i e;have hu:=PO hT hf;simp only[bsK] at G;cases hE:tI P e with
 |none=>rw[hE] at G;exact G.elim
 |some Q=>
 rw[hE] at G;simp only[Bi,bsE] at G;obtain⟨hl,hz,au,G⟩:=G;have hn:n<=Hq:=by
  have:=Nat.le_mul_of_pos_right n (Nat.pos_of_ne_zero hz)
  simp only[Hq];omega
 obtain⟨z,an,ao,am⟩:=dQ hE hl hz
 have ak:z.cells.toList≠[]:=by intro hh;have:z.cells.size=0:=by rw[<-Dm,hh];rfl
                               omega
 rw[<-nS] at G;cases hfl:Hw (IX Q.size) (Jv tm ps.toList) (some ((Ci n Q.zero).map .im)) with
 |none=>rw[hfl] at G;exact G.elim
 |some cs=>
 rw[hfl] at G;simp only[Ld] at G;have hbel:=Qyu aj _ ps.toList _ cs hfl (by rw[Qw0];intro m hm;cases hm);have ab: ∀(C:AT) (S:Au) (a:Act),Wf C S->(∀x∈o.op.operands,Aa S (Aq tm x) (a.eval x))->
  ∃us:Array Value,(execOp a.eval o).run P S.w= .ok (.value (.slice (some ⟨S.w.heap.size,0,none⟩) n n)) (S.w.alloc (.cells us e))/\AJ S cs us.toList/\cs.length=n*Q.size:=by
  intro C S a hW O;have aq:((Array.range (n*Q.size)).map λi=>z.cells[i % z.cells.size]!).toList=Ci n z.cells.toList:=by
   rw[<-Qrv _ ak n,V3,ZeO,Dm,ao];apply ZI;intro i _;exact Qxx _ _
  obtain⟨us,ag,hr,ai⟩:=yF (S:=S) (a:=a) (place:=λi=>some (i*Q.size,Q.size)) (λi q hq=>hq) ps.toList _ cs
   ((Array.range (n*Q.size)).map λi=>z.cells[i % z.cells.size]!) hfl (by rw[aq];exact (Il _ _).2 (Qy7 (am _ _) n))
   (by intro p hp
       refine O p.2 ?_;rw[ho];simp only[Op.operands];simp;exact⟨p.1,by simpa using hp⟩)
  refine⟨us,?_,hr,by rw[ai];simp[Qzv,hl]⟩;simp only[execOp,ho,Instr.buildSlice,Sem.run_bind];rw[show (underlying T).run P S.w= .ok (.slice e) S.w from by simp[underlying,hu]];simp only[Result.andThen_ok,Sem.run_bind,Iv hE];rw[Ad (by omega)];by_cases ad:n*Q.size=0
  .simp only[ad,BF,pure_bind];simp only[ad] at ag
   have:((Array.range 0).map λi=>(#[]:Array Value)[i % (#[]:Array Value).size]!)=(Array.range 0).map λi=>z.cells[i % z.cells.size]! :=by simp
   rw[this];have aa:(ps.map λ(i,x)=>(i,a.eval x)).toList=ps.toList.map λp=>(p.1,a.eval p.2):=by simp
   rw[aa,ag];simp[newRow]
  .simp only[ad,Cu,Sem.run_bind,an,Result.andThen_ok,Sem.run_pure];have aa:(ps.map λ(i,x)=>(i,a.eval x)).toList=ps.toList.map λp=>(p.1,a.eval p.2):=by simp
   rw[aa,ag];simp[newRow]
 cases hai:D3 cs with
 |none=>
  rw[hai] at G;simp only[I8] at G;refine⟨_,_,B7.one (u:=[]) (ks:=[]) (.inl ⟨rfl,rfl⟩) ?_,G⟩;intro C S a hW _ ac hnm O;obtain⟨us,hr,hcs,hcl⟩:=ab C S a hW O;refine⟨_,_,some ⟨S.w.heap.size,0,n⟩,.inl hr,Vn (w':=S.w.alloc (.cells us e)) (ob:= .cells us e) rfl rfl rfl rfl (ac rfl) (λn f hf=>hnm n f hf rfl),?_⟩;intro hp;have af:=Iu _ _ hcs;constructor
  .simp only[Al];refine⟨by rw[dL];exact hn,by rw[dL];exact AF _,us,Z5 rfl,by simp at af;omega,?_⟩;rw[FR];exact rC hp _ _ _ (λm hm=> .inr (hbel m (Qn6 _ _ _ _ hm))) (Qms _ _ _ _ (Wx _ _ hcs) hcl)
  .simp only[Aa];refine⟨rfl,λe' Z=> ?_⟩;have hh:(S.one nx (.arrA e Q.size (HO Q.size n cs)) (some ⟨S.w.heap.size,0,n⟩) [] (S.w.alloc (.cells us e))).ρ nx=some ⟨S.w.heap.size,0,n⟩:=by simp[Au.one]
   rw[hh];simp only[Au.one,BF,AI] at Z;subst Z;simp[Ag.len,dL]
 |some ds=>
  rw[hai] at G;simp only[I8] at G;refine⟨_,_,B7.one (u:=[]) (ks:=[]) (.inl ⟨rfl,rfl⟩) ?_,G⟩;intro C S a hW _ ac hnm O;obtain⟨us,hr,hcs,hcl⟩:=ab C S a hW O;refine⟨_,_,some ⟨S.w.heap.size,0,n⟩,.inl hr,Vn (w':=S.w.alloc (.cells us e)) (ob:= .cells us e) rfl rfl rfl rfl (ac rfl) (λn f hf=>hnm n f hf rfl),?_⟩;intro hp;have af:=Iu _ _ hcs;rw[kE hai] at hcs hcl;have ah:=KB hp.ok _ _ ((Il _ _).1 hcs);constructor
  .simp only[Al];refine⟨by rw[dL];exact hn,by rw[dL];exact AF _,us,Z5 rfl,by simp[kE hai] at af hcl;simp;omega,?_⟩;rw[FR];exact Qq5 _ _ _ _ (WC _ _ ah) (by simpa using hcl)
  .simp only[Aa];refine⟨rfl,λe' Z=> ?_⟩;have hh:(S.one nx (.arr e Q.size (HO Q.size n ds)) (some ⟨S.w.heap.size,0,n⟩) [] (S.w.alloc (.cells us e))).ρ nx=some ⟨S.w.heap.size,0,n⟩:=by simp[Au.one]
   rw[hh];simp only[Au.one,BF,AI] at Z;subst Z;simp[Ag.len,dL]
end
def Qwm(n:Nat): ∀(r c:Nat),c<=2*(n+512)->Builtin.growBy n r c<=2*(n+512)
 |0,c,h=>by simpa[Builtin.growBy] using h
 |r+1,c,h=>by
  simp only[Builtin.growBy];split
  .exact h
  .exact Qwm n r _ (by omega)
def Qabm(n old:Nat)(h:old<n):Builtin.nextslicecap n old<=2*(n+512):=by
 unfold Builtin.nextslicecap;split
 .omega
 .split
  .omega
  .exact Qwm n 4 old (by omega)
def Qqs{S:Au}{k:Nat}: ∀(rows0 rows:List (List AV)) (A L R:List Value),BE S k rows0 A->rows0.length*k<=A.length->BE S k rows L->
 rows.length*k<=L.length->BE S k (rows0++rows) (A.take (rows0.length*k)++(L++R))
 |[],rows,A,L,R,z,G,h,O=>by
  simp only[F3,fO,GS,Fb];clear z G A;induction rows generalizing L with
  |nil=>simp only[BE]
  |cons r rows ih=>
   simp only[BE,Cr,Fk,I5] at h O⊢;refine⟨h.1,kH _ _ _ h.2.1,?_⟩
   have:=ih (L.drop k) h.2.2 (by rw[Ch];omega)
   rwa [fF (by omega)]
 |r::rows0,rows,A,L,R,h0,hA,h,O=>by
  simp only[BE,Cr,Fk,I5,CW] at h0 hA⊢;have ih:=Qqs rows0 rows (A.drop k) L R h0.2.2 (by rw[Ch];omega) h O;have e:A.take (rows0.length*k+k)=A.take k++(A.drop k).take (rows0.length*k):=by rw[<-ZN];congr 1;omega
  have hk:(A.take k).length=k:=by rw[Bw];omega
  rw[e,E0];refine⟨h0.1,?_,?_⟩
  .obtain⟨_,Z⟩:=Ww k r A h0.2.1 (by omega);have Q:=Wx _ _ Z;rw[DP (by omega)] at Q;exact kH _ _ _ Q
  .rw[V4,CO (by omega),hk,G5];simpa using ih
def kG{S:Au}{k:Nat}: ∀(rows:List (List D)) (L:List Value),rdr S.ok S.hp k rows L->BE S k (Bm rows) L
 |[],_,_=>by simp only[Bm,Cs,BE]
 |r::rows,L,h=>by
  simp only[rdr] at h;simp only[Bm,Bb,BE];exact⟨by simpa using h.1,(xN _ _).2 h.2.1,kG rows _ h.2.2⟩
section
variable {P:Program}{w:World}
def jP{b p:Nat}{vs:Array Value}{U:TypeId}{O:Nat×Nat}(Q:w.heap[b]? =some (.cells vs U O)){n:Nat}(hn:p+n<=vs.size):
 (loadCells ⟨b,p,none⟩ n).run P w= .ok ((vs.toList.drop p).take n).toArray w:=by
 have hcs: ∀j v,((vs.toList.drop p).take n)[j]? =some v->w.cell? ((⟨b,p,none⟩:Addr).add j)=some v:=by
  intro j v z;rw[NB,Qyp Q];rw[KM] at z;split at z
  .rw[Ez] at z;simpa using z
  .cases z
 have Z:((vs.toList.drop p).take n).length=n:=by rw[Bw,Ch];simp;omega
 have G:=run_loadCells_list (P:=P) w ⟨b,p,none⟩ _ hcs;rwa [Z] at G
def vN(P:Program)(z:TypeId):Prop:=(∃G,P.underlying z=some (.slice G))\/P.underlying z=some .string
def pQ{t:TypeId}{d:TypeDesc}{w:World}(h:P.underlying t=some d):(underlying t).run P w= .ok d w:=by simp[underlying,h]
def Qo9{Z uT e ty:TypeId}{te:TI}(hs:P.underlying Z=some (.slice e))(hE:tI P e=some te)(G:vN P uT)
 {base:Option Addr}{sLen sCap n:Nat}{x:Value}{L:List Value}(Q:(Builtin.lenOf x).run P w= .ok n w)(z:(Builtin.firstCells te.size n x).run P w= .ok L.toArray w)
 (O:sLen+n<=sCap):(Builtin.append_ #[Z,uT] ty #[.slice base sLen sCap,x]).run P w=
  ((match base with|some a=>storeCells (a.add (sLen*te.size)) L|none=>pure ())>>=λ_=>(pure (.slice base (sLen+n) sCap):Sem Value)).run P w:=by
 refine G.elim (λ⟨u2,G⟩=> ?_) (λG=> ?_)
 all_goals
  have h1:(underlying Z).run P w= .ok (.slice e) w:=by simp[underlying,hs]
  have h2:=λw=>pQ (w:=w) G
  unfold Builtin.append_;simp only[ZdN,G4,I2,Sem.run_bind,h1,Result.andThen_ok,Iv hE,h2];simp only[Sem.run_pure,Result.andThen_ok,CN,Cu,Q,Sem.run_ite,Ai O,Sem.run_bind,z,Xe,BF];cases base<;>simp
def Qo8{sT uT e ty:TypeId}{G:TI}(hs:P.underlying sT=some (.slice e))(hE:tI P e=some G)(Q:vN P uT)(ad:G.bytes≠0)
 (hz:G.zero.length=G.size)(af:G.size≠0)
 {base:Option Addr}{sLen sCap n:Nat}{x:Value}{L old:List Value}(ab:(Builtin.lenOf x).run P w= .ok n w)(O: ∀k,(Builtin.firstCells G.size n x).run P {w with drawn:=k}= .ok L.toArray {w with drawn:=k})
 (ac: ∀k,(Builtin.firstCells G.size sLen (.slice base sLen sCap)).run P {w with drawn:=k}= .ok old.toArray {w with drawn:=k})
 (Z: ¬sLen+n<=sCap)(aj:(sLen+n+512)*G.bytes<=140737488355328): ∃cap R,sLen+n<=cap/\R.length=(cap - (sLen+n))*G.size/\
  (Builtin.append_ #[sT,uT] ty #[.slice base sLen sCap,x]).run P w= .ok (.slice (some ⟨w.heap.size,0,none⟩) (sLen+n) cap) (World.alloc {w with drawn:=w.drawn+1} (.cells (old++L++R).toArray e)):=by
 refine Q.elim (λ⟨u2,Q⟩=> ?_) (λQ=> ?_)
 all_goals
  have h1: ∀w:World,(underlying sT).run P w= .ok (.slice e) w:=by intro w;simp[underlying,hs]
  have h2:=λw=>pQ (w:=w) Q
  obtain⟨z,ah,ai,am⟩:=dQ hE hz af;obtain⟨i,u,hi,hu,ak,aa,_⟩:=NC hE;have ag: ∀w:World,(typeInfo e).run P w= .ok i w:=by intro w;simp[typeInfo,hi]
  refine⟨(Question.appendCap (sLen+n) sCap e).cut (w.tape w.drawn (.appendCap (sLen+n) sCap e)),(Builtin.zeroCells z.cells ((Question.appendCap (sLen+n) sCap e).cut (w.tape w.drawn (.appendCap (sLen+n) sCap e)) - (sLen+n))).toList,?_,?_,?_⟩
  .simp only[Question.cut];omega
  .simp[Builtin.zeroCells,ai]
  have hnc: ¬(Builtin.nextslicecap (sLen+n) sCap*i.bytes>2^48):=by
   rw[<-aa];have h3:=Qabm (sLen+n) sCap (by omega);have h4:=FS G.bytes h3;have h5:2*(sLen+n+512)*G.bytes=2*((sLen+n+512)*G.bytes):=Nat.mul_assoc _ _ _;omega
  unfold Builtin.append_;simp only[ZdN,G4,I2,Sem.run_bind,h1,Result.andThen_ok,Iv hE,h2];simp only[Sem.run_pure,Result.andThen_ok,CN,Cu,ab,Sem.run_ite,Ad Z,Sem.run_bind,ag,Xe,BF,false_or];rw[Ad (by rw[<-aa];exact λhh=>ad hh.2),Ad hnc];simp only[run_choose,Question.forced,CN,Cu,Result.andThen_ok,run_askRoom,ac,O,ah];simp only[newRow,Sem.run_bind,run_newObj,Result.andThen_ok,Sem.run_pure];rw[show (old++L++(Builtin.zeroCells z.cells ((Question.appendCap (sLen+n) sCap e).cut (w.tape w.drawn (.appendCap (sLen+n) sCap e)) - (sLen+n))).toList).toArray=
   old.toArray++L.toArray++Builtin.zeroCells z.cells ((Question.appendCap (sLen+n) sCap e).cut (w.tape w.drawn (.appendCap (sLen+n) sCap e)) - (sLen+n)) from by apply I3;simp]
  rfl
end
def Qx7{ok:Nat->Prop}{hp:Nat->Option Obj}{z:List D}{x:List Value}(h:rdl ok hp z x): ∀(n m:Nat),n<=m->rdr ok hp z.length (List.replicate n z) (Ci m x)
 |0,_,_=>by simp only[List.replicate_zero,rdr]
 |n+1,0,O=>by omega
 |n+1,m+1,O=>by
  have G:=eL _ _ h;simp only[ZeF,Ci,rdr];refine⟨trivial,sQ _ _ _ (WC _ _ h),?_⟩;rw[V4,CO (by omega),G,G5];simpa using Qx7 h n m (by omega)
section
variable {P:Program}{tm:List (Nat×AV)}{h:Nat->Option Ap}{nx:Nat}{o:Oper}{K:Ah}
def Qrx{T:TypeId}{x y:Operand}(ho:o.op= .makeSlice T x y)(G:Bi (xY P nx (Aq tm x) (Aq tm y) K) (tI P T)):BV P tm h nx o K:=by
 cases hT:tI P T with
 |none=>rw[hT] at G;exact G.elim
 |some ti=>
 rw[hT] at G;simp only[Bi,xY] at G;cases hf:ti.kind<;>rw[hf] at G<;>try exact G.elim
 rename_i e;have hu:=PO hT hf;have aq: ∃n m,Aq tm x= .im (.int .i64 n)/\Aq tm y= .im (.int .i64 m)/\Bi (msE nx e n m K) (tI P e):=by
  revert G;generalize Aq tm x=X;generalize Aq tm y=Y;intro G;cases X<;>try exact G.elim
  rename_i d;cases d<;>try exact G.elim
  rename_i k n;cases k<;>try exact G.elim
  cases Y<;>try exact G.elim
  rename_i d;cases d<;>try exact G.elim
  rename_i k m;cases k<;>try exact G.elim
  exact⟨_,_,rfl,rfl,G⟩
 obtain⟨n,m,hx,hy,G⟩:=aq;cases hE:tI P e with
 |none=>rw[hE] at G;exact G.elim
 |some te=>
 rw[hE] at G;simp only[Bi,msE] at G;obtain⟨hz,ax,hnm,hm,av,hl,G⟩:=G;obtain⟨z,am,an,ak⟩:=dQ hE hl hz;obtain⟨i,u,hi,ay,aw,af,_⟩:=NC hE;have aj:z.cells.toList≠[]:=by
  intro hh
  have:z.cells.size=0:=by rw[<-Dm,hh];rfl
  omega
 have ao:((Array.range (m.toNat*te.size)).map λi=>z.cells[i % z.cells.size]!).toList=Ci m.toNat z.cells.toList:=by
  rw[<-Qrv _ aj m.toNat,V3,ZeO,Dm,an];apply ZI;intro i _;exact Qxx _ _
 refine⟨_,_,B7.one (u:=[]) (ks:=[]) (.inl ⟨rfl,rfl⟩) ?_,G⟩;intro C S a hW _ ad aa O;have h1:=O x (by rw[ho];simp[Op.operands]);have h2:=O y (by rw[ho];simp[Op.operands]);rw[hx] at h1;rw[hy] at h2;simp only[Aa,rd] at h1 h2;have ac:(execOp a.eval o).run P S.w= .ok (.value (.slice (some ⟨S.w.heap.size,0,none⟩) n.toNat m.toNat))
  (S.w.alloc (.cells ((Array.range (m.toNat*te.size)).map λi=>z.cells[i % z.cells.size]!) e)):=by
  have au:(i.bytes:Int)*m<=2^48:=by
   rw[<-af];have h3:(te.bytes:Int)*m<=65536*m:=Zeq (by omega) (by omega);omega
  have ai:IntKind.i64.wrap n=n:=IntWalk.i64_in n (by omega);have ah:IntKind.i64.wrap m=m:=IntWalk.i64_in m (by omega);simp only[execOp,ho,h1,h2,Instr.makeSlice,Sem.run_bind];rw[show (underlying T).run P S.w= .ok (.slice e) S.w from by simp[underlying,hu]];have ag:(typeInfo e).run P S.w= .ok i S.w:=by simp[typeInfo,hi]
  simp only[Result.andThen_ok,asInt,asIntOf,Sem.run_bind,Sem.run_pure,ag,ai,ah];have ab:((decide (m<0)||decide ((i.bytes:Int)*m>2^48))||decide (n<0)||decide (n>m))=false:=by
   simp only[Zfw,Ho];omega
  rw[ab];simp only[CN,Cu,Sem.run_bind,run_askRoom,Result.andThen_ok,Iv hE,Sem.run_ite,am,newRow,run_newObj,Sem.run_pure];by_cases Z:m.toNat*te.size=0
  .have:((Array.range 0).map λi=>(#[]:Array Value)[i % (#[]:Array Value).size]!)=(Array.range 0).map λi=>z.cells[i % z.cells.size]! :=by simp
   simp only[Z,BF,Result.andThen_ok,this];simp
  .simp only[Z,Cu,Result.andThen_ok];simp
 refine⟨_,_,some ⟨S.w.heap.size,0,m.toNat⟩,.inl ac,Vn (w':=S.w.alloc (.cells _ e)) (ob:= .cells _ e) rfl rfl rfl rfl (ad rfl) (λn f hf=>aa n f hf rfl),?_⟩;intro hp;constructor
 .simp only[Al];refine⟨by simp[Hq];omega,by simp;omega,_,Z5 rfl,by simp,?_⟩;rw[FR,ao,<-hl];exact Qx7 (ak _ _) _ _ (by omega)
 .simp only[Aa];refine⟨rfl,λe' Q=> ?_⟩;simp only[Au.one,BF,AI] at Q⊢;subst Q;simp[Ag.len]
end
def iY(l:Option Fe)(n:Nat):Value:=match l with|none=> .slice none 0 0|some l=> .slice (some ⟨l.b,l.p,none⟩) n l.cap
def aT(S:Au)(e z sLen:Nat)(A:List Value):Option Fe->Prop
 |none=>sLen=0/\A=[]
 |some l=>sLen<=l.cap/\ ∃vs,S.hp l.b=some (.cells vs e (0,0))/\A=vs.toList.drop l.p/\l.p+l.cap*z<=vs.size
section
variable {P:Program}
def NU{C:AT}{S:Au}(hW:Wf C S){nx:Nat}{ks:List Nat}{sT uT e ty:TypeId}{z:TI}(hs:P.underlying sT=some (.slice e))(hE:tI P e=some z)
 (ac:vN P uT)(am:z.bytes≠0)(hz:z.zero.length=z.size)(au:z.size≠0){sLen n:Nat}(aj:(sLen+n+512)*z.bytes<=140737488355328)
 {l0:Option Fe}{A:List Value}(hA:aT S e z.size sLen A l0)
 {x:Value}{L:List Value}(Q:(Builtin.lenOf x).run P S.w= .ok n S.w)(G: ∀k,(Builtin.firstCells z.size n x).run P {S.w with drawn:=k}= .ok L.toArray {S.w with drawn:=k})
 (hL:L.length=n*z.size)(aq: ∀v∈L,v.oneCell'=true)(ag: ∀l,l0=some l-> ∃o f,o∈ks/\S.h o=some (true,f)/\S.ρ o=some l)
 (aa:S.h nx=none)(Z: ∀n f,S.h n=some f->nx∉f.2.nms):
 ∃w' l',(Builtin.append_ #[sT,uT] ty #[iY l0 sLen,x]).run P S.w= .ok (iY l' (sLen+n)) w'/\(∀ea,HW S nx ea l' ks w')/\
  match l' with|none=>sLen=0/\n=0|some l=>sLen+n<=l.cap/\ ∃vs R,w'.heap[l.b]? =some (.cells vs e (0,0))/\l.p+l.cap*z.size<=vs.size/\
   vs.toList.drop l.p=A.take (sLen*z.size)++(L++R):=by
 have ab:{S.w with drawn:=S.w.drawn}=S.w:=rfl;cases l0 with
 |none=>
  obtain⟨h0,hA⟩:=hA;subst h0 hA;by_cases hn:n=0
  .subst hn;have av:L=[]:=Ra.1 (by simpa using hL);subst av;refine⟨S.w,none,?_,λea=>Ql6 aa Z,rfl,rfl⟩
   have:=Qo9 (P:=P) (w:=S.w) (ty:=ty) hs hE ac (base:=none) (sLen:=0) (sCap:=0) Q (by have:=G S.w.drawn;rwa [ab] at this) (by omega)
   simpa[iY] using this
  .obtain⟨cap,R,h1,h2,h3⟩:=Qo8 (P:=P) (w:=S.w) (ty:=ty) hs hE ac am hz au (base:=none) (sLen:=0) (sCap:=0) (old:=[]) Q G (by intro k;simp[Builtin.firstCells]) (by omega) aj;refine⟨_,some ⟨S.w.heap.size,0,cap⟩,h3,λea=>Vn (w':=World.alloc {S.w with drawn:=S.w.drawn+1} (.cells ([]++L++R).toArray e)) (ob:= .cells ([]++L++R).toArray e) rfl rfl rfl rfl aa Z,h1,([]++L++R).toArray,R,by simp[World.alloc],?_,by simp⟩;have h4:n*z.size+(cap - (0+n))*z.size=cap*z.size:=by rw[<-Fk];congr 1;omega
   rw[Fj] at h2 h4;simp[hL,h2];omega
 |some l=>
  obtain⟨ad,vs,hb,af,az⟩:=hA;have a0:A.length=vs.size - l.p:=by rw[af];simp
  by_cases O:sLen+n<=l.cap
  .have ay:sLen*z.size+n*z.size<=l.cap*z.size:=by rw[<-Fk];exact FS _ O
   obtain⟨w',h1,h2,h3,h4,h5⟩:=Qf9 (P:=P) (w:=S.w) (b:=l.b) (p:=l.p+sLen*z.size) (T:=e) L 0 vs aq (by rw[hL];omega) hb;obtain⟨o,f,an,ah,ai⟩:=ag l rfl;have ak:=(hW.loc o _ l ah ai).1;refine⟨w',some l,?_,?_,O,(Cf vs.toList (l.p+sLen*z.size+0) L).toArray,A.drop (sLen*z.size+L.length),?_,?_,?_⟩
   .have:=Qo9 (P:=P) (w:=S.w) (ty:=ty) hs hE ac (base:=some ⟨l.b,l.p,none⟩) (sLen:=sLen) (sCap:=l.cap) Q (by have:=G S.w.drawn;rwa [ab] at this) O
    simp only[NB,Sem.run_bind,h1,Result.andThen_ok,Sem.run_pure] at this;simpa[iY] using this
   .intro ea;refine⟨h3,h4,h5.1,h5.2,by rw[h2];simp,?_,.inr aa,?_,?_,λn f hf _=>Z n f hf⟩
    .intro b a8 ax
     have:=ax o f l an ah ai
     rw[h2,WX,Ad this]
    .intro lo aw;obtain rfl:=Aw aw;exact⟨by rw[h2];simpa using ak,.inr ⟨o,f,l,an,ah,ai,rfl⟩⟩
    .intro f hf;rw[aa] at hf;cases hf
   .rw[h2];simp[ak]
   .simp[Cf,Bw,Ch];omega
   .rw[Xd,Zec,xU _ _ _ _ (by simp;omega),<-af];simp[Cf]
  .have ao: ∀k,(Builtin.firstCells z.size sLen (.slice (some ⟨l.b,l.p,none⟩) sLen l.cap)).run P {S.w with drawn:=k}= .ok (A.take (sLen*z.size)).toArray {S.w with drawn:=k}:=by
    intro k;have ay:sLen*z.size<=l.cap*z.size:=FS _ ad;rw[af];exact jP (w:={S.w with drawn:=k}) hb (by omega)
   obtain⟨cap,R,h1,h2,h3⟩:=Qo8 (P:=P) (w:=S.w) (ty:=ty) hs hE ac am hz au (base:=some ⟨l.b,l.p,none⟩) (sLen:=sLen) (sCap:=l.cap) Q G ao O aj;refine⟨_,some ⟨S.w.heap.size,0,cap⟩,h3,λea=>Vn (w':=World.alloc {S.w with drawn:=S.w.drawn+1} (.cells (A.take (sLen*z.size)++L++R).toArray e)) (ob:= .cells (A.take (sLen*z.size)++L++R).toArray e) rfl rfl rfl rfl aa Z,h1,(A.take (sLen*z.size)++L++R).toArray,R,by simp[World.alloc],?_,by simp⟩;have h4:sLen*z.size+n*z.size+(cap - (sLen+n))*z.size=cap*z.size:=by rw[<-Fk,<-Fk];congr 1;omega
   have h5:sLen*z.size<=l.cap*z.size:=FS _ ad;simp[hL,h2,Bw];omega
def sH{S:Au}{k:Nat}: ∀(rows:List (List AV)) (L:List Value),Ce QQ rows->BE S k rows L->rows.length*k<=L.length-> ∀v∈L.take (rows.length*k),v.oneCell'=true
 |[],L,_,_,_=>by simp
 |r::rows,L,O,h,Q=>by
  simp only[BE] at h;simp only[Cr,Fk,I5] at Q⊢;have e:L.take (rows.length*k+k)=L.take k++(L.drop k).take (rows.length*k):=by rw[<-ZN];congr 1;omega
  rw[e];intro v z;rcases Bp.1 z with z|z
  .obtain⟨_,G⟩:=Ww k r L h.2.1 (by omega);rw[DP (uX h.1)] at G;exact jN r _ (O r (by simp)) G v z
  .exact sH rows _ (λx Z=>O x (by simp[Z])) h.2.2 (by rw[Ch];omega) v z
def Qsa: ∀(r:List D),Bn r=true->QQ (r.map .im)=true
 |[],_=>rfl
 |x::r,h=>by
  simp only[Bn,AO] at h;simp only[Bb,QQ,AV.one,AO];exact⟨h.1,Qsa r h.2⟩
def Qyt{rows:List (List D)}(h:Ce Bn rows):Ce QQ (Bm rows):=by
 intro r z;simp only[Bm,BI] at z;obtain⟨x,G,rfl⟩:=z;exact Qsa x (h x G)
def Qrl{ok:Nat->Prop}{hp:Nat->Option Obj}{k:Nat}: ∀(rows:List (List D)) (L:List Value),rdr ok hp k rows L->rows.length*k<=L.length->rdr ok hp k rows (L.take (rows.length*k))
 |[],_,_,_=>by simp only[rdr]
 |r::rows,L,h,O=>by
  simp only[rdr,Cr,Fk,I5] at h O⊢;refine⟨h.1,?_,?_⟩
  .obtain⟨_,G⟩:=Vj k r L h.2.1 (by omega);have z:=WC _ _ G;rw[DP (by omega)] at z;have e:L.take (rows.length*k+k)=L.take k++(L.drop k).take (rows.length*k):=by rw[<-ZN];congr 1;omega
   rw[e];exact sQ _ _ _ z
  .rw[Zfy]
   have:=Qrl rows _ h.2.2 (by rw[Ch];omega)
   rwa [show rows.length*k+k - k=rows.length*k from by omega]
def yE{S:Au}{k:Nat}: ∀(rows:List (List AV)) (L:List Value),BE S k rows L->rows.length*k<=L.length->BE S k rows (L.take (rows.length*k))
 |[],_,_,_=>by simp only[BE]
 |r::rows,L,h,O=>by
  simp only[BE,Cr,Fk,I5] at h O⊢;refine⟨h.1,?_,?_⟩
  .obtain⟨_,G⟩:=Ww k r L h.2.1 (by omega);have z:=Wx _ _ G;rw[DP (by omega)] at z;have e:L.take (rows.length*k+k)=L.take k++(L.drop k).take (rows.length*k):=by rw[<-ZN];congr 1;omega
   rw[e];exact kH _ _ _ z
  .rw[Zfy]
   have:=yE rows _ h.2.2 (by rw[Ch];omega)
   rwa [show rows.length*k+k - k=rows.length*k from by omega]
def Qxq{ok:Nat->Prop}{hp:Nat->Option Obj}{k:Nat}: ∀(rows:List (List D)) (L:List Value),rdr ok hp k rows L->k≠0->rows.length*k<=L.length
 |[],_,_,_=>by simp
 |r::rows,L,h,z=>by
  simp only[rdr,Cr,Fk,I5] at h⊢;obtain⟨G,_⟩:=Vj k r L h.2.1 (by omega)
  have:=Qxq rows _ h.2.2 z
  rw[Ch] at this;omega
def Src.rows:Src->List (List AV)
 | .d _ _ rows=>Bm rows
 | .a _ _ rows=>rows
 | .no=>[]
def Src.w:Src->Nat
 | .d _ k _| .a _ k _=>k
 | .no=>0
def Src.us:Src->List Nat
 | .d u _ _| .a u _ _=>u
 | .no=>[]
def pN{S:Au}: ∀(l:List UInt8),BE S 1 (Bm (l.map λb=>[D.int .u8 b.toNat])) (l.map λb=> .int .u8 b.toNat)
 |[]=>by simp only[Bm,Cs,BE]
 |b::l=>by
  have:=pN (S:=S) l
  simp only[Bm,Bb,Cs,BE,Cy,Cr,F3,JN,FR] at this⊢;refine⟨?_,⟨_,_,rfl,?_,trivial⟩,this⟩
  .first|trivial|rfl
  .simp only[Aa,rd]
def UG{C:AT}{S:Au}(hW:Wf C S){h:Nat->Option Ap}{X:AV}{v:Value}(hc:Aa S X v)(hu: ∀n∈(Dg h X).us,S.h n=h n)(O:(Dg h X).okOne)
 {z:Nat}(hz:z≠0)(Q:(Dg h X).w=z\/(Dg h X).rows=[])(ai:(Dg h X).rows.length<=Hq):
 ∃L,(Builtin.lenOf v).run P S.w= .ok (Dg h X).rows.length S.w/\(∀k,(Builtin.firstCells z (Dg h X).rows.length v).run P {S.w with drawn:=k}= .ok L.toArray {S.w with drawn:=k})/\
  L.length=(Dg h X).rows.length*z/\BE S z (Dg h X).rows L/\(∀v∈L,v.oneCell'=true)/\(Dg h X).rows.length<=Hq:=by
 cases X<;>try exact O.elim
 case im d=>
  cases d<;>try exact O.elim
  case str s=>
   simp only[Aa,rd] at hc;subst hc;simp only[Dg,Src.rows] at ai⊢;simp only[Dg,Src.rows,Src.w] at Q;have ah:(Bm (FG s)).length=s.size:=by simp only[Bm,FG,EJ,Dm];rfl
   refine⟨s.data.toList.map λb=> .int .u8 b.toNat,?_,λk=> ?_,?_,?_,?_,ai⟩
   .rw[ah];simp[Builtin.lenOf]
   .rw[ah]
    have:s.extract 0 s.size=s:=by simp
    simp only[Builtin.firstCells,this,Sem.run_pure];congr 1;apply I3;simp
   .rw[EJ,<-EJ (f:=λb:UInt8=>[D.int .u8 b.toNat])];rcases Q with rfl|Q
    .simp[Bm,FG]
    .have:FG s=[]:=ZeC.1 Q
     simp only[FG] at this;simp[Bm,FG,this]
   .rcases Q with rfl|Q
    .exact pN _
    .have:FG s=[]:=ZeC.1 Q
     rw[this];simp only[Bm,Cs,BE]
   .intro v hv;obtain⟨b,_,rfl⟩:=BI.1 hv;rfl
  rename_i nz k rows;simp only[Dg,Src.rows,Src.w,Src.okOne] at O Q⊢;simp only[Aa,rd] at hc;rcases hc with ⟨rfl|⟨_,a,rfl⟩,rfl⟩|⟨b,p,cap,vs,T,fr,rfl,_,h2,h3,_,h5,h6⟩
  .exact⟨[],by simp[Builtin.lenOf,Bm],by simp[Builtin.firstCells],by simp[Bm],by simp[Bm,BE],by simp,by simp[Bm]⟩
  .refine⟨[],by simp[Builtin.lenOf,Bm],?_,by simp[Bm],by simp[Bm,BE],by simp,by simp[Bm]⟩;intro j;simp[Builtin.firstCells,Bm,loadCells,loadCellsFrom]
  .by_cases hr:rows=[]
   .subst hr;refine⟨[],by simp[Builtin.lenOf,Bm],?_,by simp[Bm],by simp[Bm,BE],by simp,by simp[Bm]⟩;intro j;simp[Builtin.firstCells,Bm,loadCells,loadCellsFrom]
   .have ad:k=z:=by
     rcases Q with Q|Q
     .exact Q
     .simp[Bm] at Q;exact absurd Q hr
    subst ad;have hl:=Qxq rows _ h6 hz;have hvs:vs.toList.length=vs.size:=Dm;have ac:=kG _ _ h6;have G:(Bm rows).length=rows.length:=by simp[Bm]
    refine⟨(vs.toList.drop p).take (rows.length*k),by simp[Builtin.lenOf,Bm],?_,?_,?_,?_,by rw[G];exact h3⟩
    .intro j;rw[G];refine jP (w:={S.w with drawn:=j}) h5 ?_;by_cases ak:p<=vs.size
     .rw[Ch,hvs] at hl;omega
     .have:0<rows.length*k:=Nat.mul_pos (fL.2 hr) (by omega)
      rw[Ch,hvs] at hl;omega
    .rw[Bw,G];omega
    .have:=yE _ _ ac (by rw[G];exact hl)
     rwa [G] at this
    .have:=sH _ _ (Qyt O) ac (by rw[G];exact hl)
     rwa [G] at this
 case own n=>
  simp only[Dg] at O Q hu⊢;simp only[Aa] at hc;cases hn:h n with
  |none=>rw[hn] at O;exact O.elim
  |some e=>
  rw[hn] at O Q hu;obtain⟨mu,e⟩:=e;cases e<;>try exact O.elim
  case arr T k rows=>
   simp only[Z3,Src.rows,Src.w,Src.okOne,Src.us] at O Q hu⊢;have hS:S.h n=_:=(hu n (by simp)).trans hn;have Z:=hW.obj _ _ hS;have hc:=hc.2 _ hS;have G:(Bm rows).length=rows.length:=by simp[Bm]
   cases hl0:S.ρ n with
   |none=>
    rw[hl0] at hc Z;simp only[Al] at Z;obtain⟨_,rfl⟩:=Z;simp only at hc;subst hc;exact⟨[],by simp[Builtin.lenOf,Bm],by simp[Builtin.firstCells],by simp[Bm],by simp[Bm,BE],by simp,by simp[Bm]⟩
   |some l=>
    rw[hl0] at hc Z;simp only[Al,Ag.len] at Z hc;subst hc;obtain⟨aa,ab,vs,hb,ah,hr⟩:=Z;by_cases ag:rows=[]
    .subst ag;refine⟨[],by simp[Builtin.lenOf,Bm],?_,by simp[Bm],by simp[Bm,BE],by simp,by simp[Bm]⟩;intro j;simp[Builtin.firstCells,Bm,loadCells,loadCellsFrom]
    .have ad:k=z:=by
      rcases Q with Q|Q
      .exact Q
      .simp[Bm] at Q;exact absurd Q ag
     subst ad;have ac:=kG _ _ hr;have aj:rows.length*k<=l.cap*k:=FS _ ab;have hvs:vs.toList.length=vs.size:=Dm;have af:rows.length*k<=(vs.toList.drop l.p).length:=by rw[Ch,hvs];omega
     refine⟨(vs.toList.drop l.p).take (rows.length*k),by simp[Builtin.lenOf,Bm],?_,?_,?_,?_,by rw[G];exact aa⟩
     .intro j;rw[G];exact jP (w:={S.w with drawn:=j}) hb (by omega)
     .rw[Bw,G];omega
     .have:=yE _ _ ac (by rw[G];exact af)
      rwa [G] at this
     .have:=sH _ _ (Qyt O) ac (by rw[G];exact af)
      rwa [G] at this
  case arrA T k rows=>
   simp only[Z3,Src.rows,Src.w,Src.okOne,Src.us] at O Q hu⊢;have hS:S.h n=_:=(hu n (by simp)).trans hn;have Z:=hW.obj _ _ hS;have hc:=hc.2 _ hS;cases hl0:S.ρ n with
   |none=>
    rw[hl0] at hc Z;simp only[Al] at Z;obtain⟨_,rfl⟩:=Z;simp only at hc;subst hc;exact⟨[],by simp[Builtin.lenOf],by simp[Builtin.firstCells],by simp,by simp[BE],by simp,by simp⟩
   |some l=>
    rw[hl0] at hc Z;simp only[Al,Ag.len] at Z hc;subst hc;obtain⟨aa,ab,vs,hb,ah,hr⟩:=Z;by_cases ag:rows=[]
    .subst ag;refine⟨[],by simp[Builtin.lenOf],?_,by simp,by simp[BE],by simp,by simp⟩;intro j;simp[Builtin.firstCells,loadCells,loadCellsFrom]
    .have ad:k=z:=by
      rcases Q with Q|Q
      .exact Q
      .exact absurd Q ag
     subst ad;have aj:rows.length*k<=l.cap*k:=FS _ ab;have hvs:vs.toList.length=vs.size:=Dm;have af:rows.length*k<=(vs.toList.drop l.p).length:=by rw[Ch,hvs];omega
     refine⟨(vs.toList.drop l.p).take (rows.length*k),by simp[Builtin.lenOf],?_,?_,?_,?_,aa⟩
     .intro j;exact jP (w:={S.w with drawn:=j}) hb (by omega)
     .rw[Bw];omega
     .exact yE _ _ hr af
     .exact sH _ _ O hr af
end
def Qjh{S:Au}{k:Nat}: ∀(rows:List (List D)) (L:List Value),BE S k (Bm rows) L->rdr S.ok S.hp k rows L
 |[],_,_=>by simp only[rdr]
 |r::rows,L,h=>by
  simp only[Bm,Bb,BE] at h;simp only[rdr];exact⟨by simpa using h.1,(xN _ _).1 h.2.1,Qjh rows _ h.2.2⟩
def Yo{S S':Au}{T k:Nat}{rows:List (List D)}{l:Option Fe}(G:S'.ok=S.ok)(z:S'.hp=S.hp)(h:Al S l (.arrA T k (Bm rows))):Al S' l (.arr T k rows):=by
 simp only[Al] at h⊢;refine⟨by simpa[Bm] using h.1,?_⟩;cases l with
 |none=>simpa[Bm] using h.2
 |some lc=>
  obtain⟨_,O,vs,Q,Z,h4⟩:=h;refine⟨by simpa[Bm] using O,vs,by rw[z];exact Q,Z,?_⟩;rw[G,z];exact Qjh _ _ h4
section
variable {P:Program}{tm:List (Nat×AV)}{h:Nat->Option Ap}{nx:Nat}{o:Oper}{K:Ah}
def NV{T U e:TypeId}{z:TI}{s x:Operand}(hT:P.underlying T=some (.slice e))(hU:vN P U)(hE:tI P e=some z)
 {c:Call}(ho:o.op= .call c)(ad:c.callee= .builtin .append)(aa:c.args= #[s,x])(bq:c.argTypes= #[T,U])
 (ai:z.bytes≠0)(hz:z.zero.length=z.size)(Z:z.size≠0){u ks:List Nat}{rows0:List (List AV)}
 (az:(Dg h (Aq tm x)).okOne)(hw:(Dg h (Aq tm x)).w=z.size\/(Dg h (Aq tm x)).rows=[])(a9: ∀n∈(Dg h (Aq tm x)).us,n∈u++ks)
 (bd:(rows0.length+(Dg h (Aq tm x)).rows.length+512)*z.bytes<=140737488355328)
 (hnm: ∀m∈BB (rows0++(Dg h (Aq tm x)).rows),∃n f,n∈u++ks/\h n=some f/\m∈f.2.nms)
 (ay:((∃k0,Aq tm s= .im (.sl true k0 []))/\rows0=[])\/(∃n f,Aq tm s= .own n/\n∈ks/\h n=some (true,f)/\((∃rows,f= .arr e z.size rows/\rows0=Bm rows)\/f= .arrA e z.size rows0)))
 {ea:Ag}(au:ea= .arrA e z.size (rows0++(Dg h (Aq tm x)).rows)\/ ∃rows,ea= .arr e z.size rows/\Bm rows=rows0++(Dg h (Aq tm x)).rows)
 (hk:K (.own nx) {use:=u,kill:=ks,new:=[(nx,(true,ea))],cnt:=1}):BV P tm h nx o K:=by
 refine⟨_,_,B7.one (u:=u) (ks:=ks) (.inl ⟨rfl,rfl⟩) ?_,hk⟩;intro C S a hW hu bg ag ah;have Q:=ah s (by rw[ho];simp[Op.operands,Call.operands,aa,ad]);have h2:=ah x (by rw[ho];simp[Op.operands,Call.operands,aa,ad]);have bi:(Dg h (Aq tm x)).rows.length<=Hq:=by
  have be:z.bytes≠0:=ai
  have:(rows0.length+(Dg h (Aq tm x)).rows.length+512)*1<=(rows0.length+(Dg h (Aq tm x)).rows.length+512)*z.bytes:=ZeH _ (by omega)
  simp only[Hq];omega
 obtain⟨L,aw,af,an,bc,bb,br⟩:=UG hW h2 (λn hn=>hu n (a9 n hn)) az Z hw bi;have bn:=bg rfl;have am: ∃l0 A,a.eval s=iY l0 rows0.length/\aT S e z.size rows0.length A l0/\
  (∀l,l0=some l-> ∃o f,o∈ks/\S.h o=some (true,f)/\S.ρ o=some l)/\BE S z.size rows0 A/\rows0.length*z.size<=A.length:=by
  rcases ay with ⟨⟨k0,hs⟩,rfl⟩|⟨n,f,hs,ax,hf,av⟩
  .rw[hs] at Q;simp only[Aa,rd] at Q;rcases Q with ⟨Q,_⟩|⟨b,p,cap,vs,T,fr,_,bl,_⟩
   .have Q:=Qr7 Q;exact⟨none,[],by rw[Q];rfl,⟨rfl,rfl⟩,(by intro l hl;cases hl),by simp only[BE],by simp⟩
   .exact absurd rfl (bl trivial)
  .rw[hs] at Q;have hS:S.h n=_:=(hu n (by simp[ax])).trans hf;have G:=hW.obj _ _ hS;simp only[Aa] at Q;have Q:=Q.2 _ hS;cases hl0:S.ρ n with
   |none=>
    rw[hl0] at Q G;simp only at Q
    have:rows0=[]:=by
     rcases av with ⟨rows,rfl,rfl⟩|rfl
     .simp only[Al] at G;rw[G.2];rfl
     .simp only[Al] at G;exact G.2
    subst this;exact⟨none,[],by rw[Q];rfl,⟨rfl,rfl⟩,(by intro l hl;cases hl),by simp only[BE],by simp⟩
   |some l=>
    rw[hl0] at Q G;simp only at Q;have ao:f.len=rows0.length/\rows0.length<=l.cap/\ ∃vs,S.hp l.b=some (.cells vs e (0,0))/\l.p+l.cap*z.size<=vs.size/\BE S z.size rows0 (vs.toList.drop l.p):=by
     rcases av with ⟨rows,rfl,rfl⟩|rfl
     .simp only[Al] at G;obtain⟨_,O,vs,hb,Z,hr⟩:=G;exact⟨by simp[Ag.len,Bm],by simpa[Bm] using O,vs,hb,Z,kG _ _ hr⟩
     .simp only[Al] at G;obtain⟨_,O,vs,hb,Z,hr⟩:=G;exact⟨rfl,O,vs,hb,Z,hr⟩
    obtain⟨bf,O,vs,hb,Z,hr⟩:=ao;have bt:rows0.length*z.size<=l.cap*z.size:=FS _ O;have hvs:vs.toList.length=vs.size:=Dm;refine⟨some l,vs.toList.drop l.p,by rw[Q,bf];rfl,⟨O,vs,hb,rfl,Z⟩,?_,hr,by rw[Ch,hvs];omega⟩;intro l' bh;obtain rfl:=Aw bh;exact⟨n,f,ax,hS,hl0⟩
 obtain⟨l0,A,hv,hA,aj,bp,ba⟩:=am;obtain⟨w',l',a0,bo,ac⟩:=NU hW (nx:=nx) (ks:=ks) (ty:=o.type) hT hE hU ai hz Z bd hA aw af an bb aj bn (λn f hf=>ag n f hf rfl);refine⟨iY l' (rows0.length+(Dg h (Aq tm x)).rows.length),w',l',.inl ?_,bo ea,?_⟩
 .simp only[execOp,ho,resolve,ad,aa,bq,Sem.run_bind,Sem.run_pure,Result.andThen_ok,invoke,builtin];simp[hv,a0]
 intro hp;have be:z.bytes≠0:=ai;have a8:rows0.length+(Dg h (Aq tm x)).rows.length<=Hq:=by
  have:(rows0.length+(Dg h (Aq tm x)).rows.length+512)*1<=(rows0.length+(Dg h (Aq tm x)).rows.length+512)*z.bytes:=ZeH _ (by omega)
  simp only[Hq];omega
 have hX: ∀m∈BB (rows0++(Dg h (Aq tm x)).rows),S.h nx≠none\/m≠nx:=by
  intro m hm;obtain⟨n,f,bm,hf,bj⟩:=hnm m hm;right;rintro rfl;exact ag n f ((hu n bm).trans hf) rfl bj
 have ab:Al (S.one nx ea l' ks w') l' (.arrA e z.size (rows0++(Dg h (Aq tm x)).rows)):=by
  simp only[Al,BQ];refine⟨a8,?_⟩;cases l' with
  |none=>
   simp only at ac⊢;rw[List.append_eq_nil_iff];exact⟨Ra.1 ac.1,Ra.1 ac.2⟩
  |some l=>
   obtain⟨h3,vs,R,h4,h5,h6⟩:=ac;refine⟨h3,vs,h4,h5,?_⟩;rw[h6];exact rC hp _ _ _ hX (Qqs _ _ _ _ _ bp ba bc (by rw[an];exact AF _))
 have ak:ea.len=rows0.length+(Dg h (Aq tm x)).rows.length:=by
  rcases au with rfl|⟨rows,rfl,hr⟩
  .simp[Ag.len]
  .simp only[Ag.len];rw[<-BQ,<-hr];simp[Bm]
 constructor
 .rcases au with rfl|⟨rows,rfl,hr⟩
  .exact ab
  .rw[<-hr] at ab;exact Yo rfl rfl ab
 .simp only[Aa];refine⟨by cases l'<;>rfl,λe' aq=> ?_⟩;simp only[Au.one,BF,AI] at aq⊢;subst aq;cases l' with
  |none=>rfl
  |some l=>simp only[iY];rw[ak]
def lC(rows:List (List D)):BB (Bm rows)=[]:=by
 induction rows with
 |nil=>rfl
 |cons r rows ih=>simp only[Bm,Bb,BB,Qw0,Fb];exact ih
def sB: ∀(a b:List (List AV)),BB (a++b)=BB a++BB b
 |[],_=>rfl
 |x::a,b=>by simp[BB,sB a b]
def Py{X:AV}{m:Nat}(z:m∈BB (Dg h X).rows): ∃n f,n∈(Dg h X).us/\h n=some f/\m∈f.2.nms:=by
 cases X<;>try (simp only[Dg,Src.rows,BB] at z;cases z;done)
 case im d=>cases d<;>simp only[Dg,Src.rows,lC,BB] at z<;>cases z
 case own n=>
  simp only[Dg] at z⊢;cases hn:h n with
  |none=>rw[hn] at z;simp only[Z3,Src.rows,BB] at z;cases z
  |some e=>
   rw[hn] at z;obtain⟨G,e⟩:=e;cases e<;>simp only[Z3,Src.rows,lC,BB] at z<;>try cases z
   refine⟨n,_,by simp[Src.us,Z3],hn,z⟩
def Qab5{T U:TypeId}{s x:Operand}{c:Call}(ho:o.op= .call c)(ag:c.callee= .builtin .append)(ad:c.args= #[s,x])(am:c.argTypes= #[T,U])
 (z:Bi (zA P h nx (Aq tm s) (Aq tm x) T K) (tI P U)):BV P tm h nx o K:=by
 cases hU:tI P U with
 |none=>rw[hU] at z;exact z.elim
 |some ui=>
 rw[hU] at z;simp only[Bi,zA] at z;obtain⟨ah,z⟩:=z;have aj:vN P U:=by
  cases hu:ui.kind<;>rw[hu] at ah<;>simp only[TK.isSl,TK.isStr,Bool.or_self,uW,JT,CN] at ah
  .exact .inr (Qz hU hu)
  .exact .inl ⟨_,PO hU hu⟩
 cases hT:tI P T with
 |none=>rw[hT] at z;exact z.elim
 |some ti=>
 rw[hT] at z;simp only[Qsl] at z;cases hf:ti.kind<;>rw[hf] at z<;>try exact z.elim
 rename_i e;have ai:=PO hT hf;simp only[apK] at z;cases hE:tI P e with
 |none=>rw[hE] at z;exact z.elim
 |some te=>
 rw[hE] at z;simp only[Bi,apE] at z;obtain⟨hz,hl,ak,Q,z⟩:=z;have ab: ∀{m:Nat},m∈BB (Dg h (Aq tm x)).rows-> ∃n f,n∈(Dg h (Aq tm x)).us/\h n=some f/\m∈f.2.nms:=λZ=>Py Z
 have G:= @NV P tm h nx o K T U e te s x ai aj hE c ho ag ad am ak hl hz;revert G;generalize Dg h (Aq tm x)=src at z Q ab;intro G;cases hs:Aq tm s<;>rw[hs] at z<;>try exact z.elim
 case im d=>
  cases d<;>try exact z.elim
  rename_i nz k0 rows;cases nz<;>cases rows<;>try exact z.elim
  simp only[Rq] at z;cases src with
  |no=>exact z.elim
  |d u k rows=>
   simp only[Ng] at z;obtain⟨O,hb,z⟩:=z;refine G (u:=u) (ks:=[]) (rows0:=[]) Q (O.imp id (λh=>by rw[h];rfl)) (by simp[Src.us]) (by simpa[Src.rows,Bm] using hb) ?_ (.inl ⟨⟨k0,hs⟩,rfl⟩) (.inr ⟨rows,rfl,by simp[Src.rows]⟩) z;intro m Z;simp only[Fb,Src.rows,lC] at Z;cases Z
  |a u k rows=>
   simp only[Ng] at z;obtain⟨O,hb,z⟩:=z;refine G (u:=u) (ks:=u) (rows0:=[]) Q (.inl O) (by simp[Src.us]) (by simpa[Src.rows] using hb) ?_ (.inl ⟨⟨k0,hs⟩,rfl⟩) (.inl (by simp[Src.rows])) z;intro m Z;obtain⟨n,f,hn,hf⟩:=ab Z;exact⟨n,f,by simp[Src.us] at hn;simp[hn],hf⟩
 case own n=>
  simp only[Rq] at z;cases hn:h n with
  |none=>rw[hn] at z;exact z.elim
  |some ac=>
  rw[hn] at z;obtain⟨mu,ac⟩:=ac;cases mu<;>cases ac<;>try exact z.elim
  case true.arr U0 k0 rows0=>
   simp only[I6] at z;obtain⟨rfl,rfl,z⟩:=z;cases src with
   |no=>exact z.elim
   |d u k rows=>
    simp only[mK] at z;obtain⟨O,af,hb,z⟩:=z;refine G (u:=n::u) (ks:=[n]) (rows0:=Bm rows0) Q (O.imp id (λh=>by rw[h];rfl)) (by intro x hx;simp[Src.us] at hx;simp[hx]) (by simpa[Src.rows,Bm] using hb) ?_
     (.inr ⟨n,_,hs,by simp,hn,.inl ⟨rows0,rfl,rfl⟩⟩) (.inr ⟨rows0++rows,rfl,by simp[Src.rows,Bm]⟩) z
    intro m Z;simp only[Src.rows,sB,lC] at Z;cases Z
   |a u k rows=>
    simp only[mK] at z;obtain⟨O,af,hb,z⟩:=z;refine G (u:=n::u) (ks:=n::u) (rows0:=Bm rows0) Q (.inl O) (by intro x hx;simp[Src.us] at hx;simp[hx]) (by simpa[Src.rows,Bm] using hb) ?_
     (.inr ⟨n,_,hs,by simp,hn,.inl ⟨rows0,rfl,rfl⟩⟩) (.inl (by simp[Src.rows])) z
    intro m Z;simp only[sB,lC,Fb] at Z;obtain⟨n',f,aa,hf⟩:=ab Z;exact⟨n',f,by simp[Src.us] at aa;simp[aa],hf⟩
  case true.arrA U0 k0 rows0=>
   simp only[I6] at z;obtain⟨rfl,rfl,z⟩:=z;cases src with
   |no=>exact z.elim
   |d u k rows=>
    simp only[mJ] at z;obtain⟨O,af,hb,z⟩:=z;refine G (u:=n::u) (ks:=[n]) (rows0:=rows0) Q (O.imp id (λh=>by rw[h];rfl)) (by intro x hx;simp[Src.us] at hx;simp[hx]) (by simpa[Src.rows,Bm] using hb) ?_
     (.inr ⟨n,_,hs,by simp,hn,.inr rfl⟩) (.inl (by simp[Src.rows])) z
    intro m Z;simp only[Src.rows,sB,lC,CC] at Z;exact⟨n,_,by simp,hn,Z⟩
   |a u k rows=>
    simp only[mJ] at z;obtain⟨O,af,hb,z⟩:=z;refine G (u:=n::u) (ks:=n::u) (rows0:=rows0) Q (.inl O) (by intro x hx;simp[Src.us] at hx;simp[hx]) (by simpa[Src.rows] using hb) ?_
     (.inr ⟨n,_,hs,by simp,hn,.inr rfl⟩) (.inl (by simp[Src.rows])) z
    intro m Z;simp only[sB,Bp] at Z;rcases Z with Z|Z
    .exact⟨n,_,by simp,hn,Z⟩
    .obtain⟨n',f,aa,hf⟩:=ab Z;exact⟨n',f,by simp[Src.us] at aa;simp[aa],hf⟩
end
def Qx9{ok:Nat->Prop}{hp:Nat->Option Obj}: ∀(ds:List (D×D)) (es:List MapEntry),rde ok hp ds es->es.length=ds.length
 |[],_,h=>by simp only[rde] at h;simp[h]
 |(x,y)::ds,_,h=>by
  simp only[rde] at h;obtain⟨e,r,rfl,_,_,z⟩:=h;simp[Qx9 ds r z]
def PN{P:Program}{w:World}{b:Nat}{es:Array MapEntry}{clock:Nat}(h:w.heap[b]? =some (.map es clock)):(getObj b).run P w= .ok (.map es clock) w:=by
 simp[getObj,Sem.run,h]
section
variable {P:Program}{w:World}{T e k:TypeId}
def W4(x y:Value):Op.equal T x y=Op.equalIn (9999+1) T x y:=rfl
def Kc(z:P.underlying T=some (.slice e))(d:Nat)(b:Option Addr)(n c:Nat):(Op.equalIn (d+1) T (.slice b n c) (.slice none 0 0)).run P w= .ok b.isNone w:=by
 cases b<;>simp[Op.equalIn,run_underlying z]
def Qx1(z:P.underlying T=some (.pointer e))(d:Nat)(b:Option Addr):(Op.equalIn (d+1) T (.pointer b) (.pointer none)).run P w= .ok b.isNone w:=by
 cases b<;>simp[Op.equalIn,run_underlying z]
def Kb(z:P.underlying T=some (.map k e))(d:Nat)(b:Option Nat):(Op.equalIn (d+1) T (.map b) (.map none)).run P w= .ok b.isNone w:=by
 cases b<;>simp[Op.equalIn,run_underlying z]
end
def mT(tm:List (Nat×AV))(h:Nat->Option Ap)(o:Oper):Prop:=
 ∃u:List Nat,∀(C:AT) (S:Au) (a:Act),Wf C S->(∀n∈u,S.h n=h n)->(∀x∈o.op.operands,Aa S (Aq tm x) (a.eval x))->False
def JM(P:Program)(tm:List (Nat×AV))(h:Nat->Option Ap)(nx:Nat)(o:Oper)(K:Ah):Prop:=
 ∀(C:AT) (S:Au) (a:Act) (next:Act->World->Prop) (Q:Exit->Act->World->Prop),
  Wf C S->(∀n,S.h n=h n)->(∀n,nx<=n->S.h n=none)->(∀n e,S.h n=some e-> ∀m∈e.2.nms,m<nx)->
  (∀x∈o.op.operands,Aa S (Aq tm x) (a.eval x))->
  (∀r E v S',K r E->Wf C S'->S'.h=E.appf S.h->B3 (λm=> ¬Fr nx E.cnt m) S S'->Aa S' r v->next (a.put o.dst v) S'.w)->
  o.wp P a S.w next Q
abbrev WT(P:Program)(z:Bool)(tm:List (Nat×AV))(h:Nat->Option Ap)(nx:Nat)(o:Oper)(K:Ah):Prop:=
 BV P tm h nx o K\/(z=true/\(mT tm h o\/JM P tm h nx o K))
section
variable {P:Program}{tm:List (Nat×AV)}{h:Nat->Option Ap}{nx:Nat}{o:Oper}{K:Ah}
def Z2{T:TypeId}{x:Operand}{c:Call}{u:List Nat}{n:Nat}(ho:o.op= .call c)(G:c.callee= .builtin .len)(z:c.args= #[x])(Z:c.argTypes= #[T])
 (Q: ∀(C:AT) (S:Au) (v:Value),Wf C S->(∀n∈u,S.h n=h n)->Aa S (Aq tm x) v->(Builtin.len_ #[T] o.type #[v]).run P S.w= .ok (.int .i64 n) S.w)
 (hk:FC K {use:=u} n):BV P tm h nx o K:=by
 refine⟨_,_,B7.pure (u:=u) ?_,hk⟩;intro C S a hW hu O;have h1:=O x (by rw[ho];simp[Op.operands,Call.operands,z,G]);refine⟨.int .i64 n,?_,by simp only[Aa,rd]⟩;simp only[execOp,ho,resolve,G,z,Z,Sem.run_bind,Sem.run_pure,Result.andThen_ok,invoke,builtin];simp[Q C S _ hW hu h1]
def Qq0{z:Bool}{B:Prop}(O:(z=true->B)->BV P tm h nx o K)(Q: ¬B->mT tm h o):WT P z tm h nx o K:=by
 by_cases G:B
 .exact .inl (O λ_=>G)
 .cases z
  .exact .inl (O λh=>by cases h)
  .exact .inr ⟨rfl,.inl (Q G)⟩
def YK{sq:Bool}{T:TypeId}{x:Operand}{c:Call}(ho:o.op= .call c)(Q:c.callee= .builtin .len)(O:c.args= #[x])(aa:c.argTypes= #[T])
 (z:Bi (eY sq h (Aq tm x) K) (tI P T)):WT P sq tm h nx o K:=by
 have aj:x∈o.op.operands:=by rw[ho];simp[Op.operands,Call.operands,O,Q]
 cases hT:tI P T with
 |none=>rw[hT] at z;exact z.elim
 |some ti=>
 rw[hT] at z;simp only[Bi,eY] at z;cases hf:ti.kind<;>rw[hf] at z<;>try exact z.elim
 case slice e=>
  have hu:=PO hT hf;simp only[Fm] at z;cases hx:Aq tm x<;>rw[hx] at z<;>try exact z.elim
  case im d=>
   cases d<;>try exact z.elim
   rename_i nz k rows;simp only[eT] at z;refine Qq0 (B:=rows.length<=140737488355328) (λhb=>Z2 (u:=[]) ho Q O aa ?_ (z hb)) λhb=>⟨[],?_⟩
   .intro C S v hW _ G;rw[hx] at G;simp only[Aa,rd] at G;rcases G with ⟨rfl|⟨_,a,rfl⟩,rfl⟩|⟨b,p,cap,vs,T,fr,rfl,_⟩<;>simp[Builtin.len_,underlying,hu,goInt]
   .intro C S a hW _ ad;have h1:=ad x aj;rw[hx] at h1;simp only[Aa,rd] at h1;rcases h1 with ⟨_,rfl⟩|⟨b,p,cap,vs,T,fr,_,_,_,h3,_⟩
    .simp at hb
    .exact hb h3
  case own n=>
   simp only[eT] at z;cases hn:h n with
   |none=>rw[hn] at z;exact z.elim
   |some Z=>
   rw[hn] at z;obtain⟨mu,Z⟩:=Z;have af: ∀{rl:Nat},Z.len=rl->(∀(S:Au) l,Al S l Z->rl<=140737488355328)->((sq=true->rl<=140737488355328)->FC K {use:=[n]} rl)->(∀(S:Au),Al S none Z->rl=0)->
    WT P sq tm h nx o K:=by
    intro rl hl ak z ai;refine Qq0 (B:=rl<=140737488355328) (λhb=>Z2 (u:=[n]) ho Q O aa ?_ (z hb)) λhb=>⟨[n],?_⟩
    .intro C S v hW ab G;rw[hx] at G;simp only[Aa] at G;have hS:=(ab n (by simp)).trans hn;have G:=G.2 _ hS;cases hl0:S.ρ n with
     |none=>
      have ac:=hW.obj _ _ hS;rw[hl0] at G ac;simp only at G;subst G
      have:=ai S ac
      simp[Builtin.len_,underlying,hu,goInt,this]
     |some l=>
      rw[hl0] at G;simp only[hl] at G;subst G;simp[Builtin.len_,underlying,hu,goInt]
    .intro C S a hW ab ad;have hS:=(ab n (by simp)).trans hn;exact hb (ak S _ (hW.obj _ _ hS))
   cases Z<;>try exact z.elim
   case arr T0 k rows=>
    exact af rfl (λS l ho=>by simp only[Al] at ho;exact ho.1) z (λS ho=>by simp only[Al] at ho;rw[ho.2];rfl)
   case arrA T0 k rows=>
    exact af rfl (λS l ho=>by simp only[Al] at ho;exact ho.1) z (λS ho=>by simp only[Al] at ho;rw[ho.2];rfl)
  case osl n wa wn=>
   simp only[eT] at z;cases hn:h n with
   |none=>rw[hn] at z;exact z.elim
   |some Z=>
   rw[hn] at z;refine .inl (Z2 (u:=[n]) ho Q O aa ?_ z);intro C S v hW ab G;rw[hx] at G;simp only[Aa] at G;have hS:=(ab n (by simp)).trans hn;have G:=G.2 _ hS;unfold PJ at G;cases hl0:S.ρ n with
   |none=>
    rw[hl0] at G;obtain⟨rfl,rfl⟩:=G;simp[Builtin.len_,underlying,hu,goInt]
   |some l=>
    rw[hl0] at G;obtain⟨p,cp,rfl,_⟩:=G;simp[Builtin.len_,underlying,hu,goInt]
 case str=>
  have hu:=Qz hT hf;simp only[Fm] at z;cases hx:Aq tm x<;>rw[hx] at z<;>try exact z.elim
  rename_i d;cases d<;>try exact z.elim
  refine .inl (Z2 (u:=[]) ho Q O aa ?_ z);intro C S v hW _ G;rw[hx] at G;simp only[Aa,rd] at G;subst G;simp[Builtin.len_,underlying,hu,goInt]
 case map k e=>
  have hu:=lQ hT hf;simp only[Fm] at z;cases hx:Aq tm x<;>rw[hx] at z<;>try exact z.elim
  case im d=>
   cases d<;>try exact z.elim
   case nilm=>
    refine .inl (Z2 (u:=[]) ho Q O aa ?_ z);intro C S v hW _ G;rw[hx] at G;simp only[Aa,rd] at G;subst G;simp[Builtin.len_,underlying,hu,goInt]
   case mp kt es=>
    refine .inl (Z2 (u:=[]) ho Q O aa ?_ z);intro C S v hW _ G;rw[hx] at G;simp only[Aa,rd] at G;obtain⟨b,ah,ag,rfl,_,_,h5,h6,_⟩:=G;have hl:=Qx9 _ _ h6;simp only[Dm] at hl;simp[Builtin.len_,underlying,hu,goInt,PN (w:=S.w) h5,hl]
  case mp n=>
   simp only[tR] at z;cases hn:h n with
   |none=>rw[hn] at z;exact z.elim
   |some Z=>
   rw[hn] at z;obtain⟨mu,Z⟩:=Z;cases Z<;>try exact z.elim
   refine .inl (Z2 (u:=[n]) ho Q O aa ?_ z);intro C S v hW ab G;rw[hx] at G;simp only[Aa] at G;have hS:=(ab n (by simp)).trans hn;obtain⟨l,hl,rfl⟩:=G.2 _ hS;have ac:=hW.obj _ _ hS;simp only[Al] at ac;obtain⟨lc,ah,ag,h1,_,h5,h6,_⟩:=ac;rw[hl] at h1;obtain rfl:=Aw h1;have hl:=Qx9 _ _ h6;simp only[Dm] at hl;simp[Builtin.len_,underlying,hu,goInt,PN (w:=S.w) h5,hl]
def eF{op:BinOp}{T U:TypeId}{x y:Operand}{u:List Nat}{b:Bool}(ho:o.op= .binOp op T x y U)(Z:op= .eql\/op= .neq){z:Value}(hy:y= .const z)
 (Q:z= .slice none 0 0\/z= .pointer none\/z= .map none)
 (O: ∀(C:AT) (S:Au) (v:Value),Wf C S->(∀n∈u,S.h n=h n)->Aa S (Aq tm x) v->(∀k n,v≠ .int k n)/\(∀k n,v≠ .float k n)/\(∀k n m,v≠ .complex k n m)/\(∀s,v≠ .string s)/\(Op.equal T v z).run P S.w= .ok b S.w)
 (hk:K (.im (.bool ((decide (op= .neq)) !=b))) {use:=u}):BV P tm h nx o K:=by
 refine⟨_,_,B7.pure (u:=u) ?_,hk⟩;intro C S a hW hu G;have h1:=G x (by rw[ho];simp[Op.operands]);obtain⟨hi,hf,hc,hs,hr⟩:=O C S _ hW hu h1;refine⟨.bool (decide (op= .neq) !=b),?_,by simp only[Aa,rd]⟩;have hg:(eqGuard op T x y (a.eval x) z).run P S.w= .ok () S.w:=by
  rcases Q with rfl|rfl|rfl<;>rcases Z with rfl|rfl<;>simp[eqGuard]
 have hb:(binOp op T (a.eval x) z).run P S.w= .ok (.bool (decide (op= .neq) !=b)) S.w:=by
  have hq:(Op.equal T (a.eval x) z).run P S.w= .ok b S.w:=hr;clear hr hg G h1 O hk hu;generalize a.eval x=v at*;rcases Z with rfl|rfl
  .have:binOp .eql T v z=(do pure (.bool (<-Op.equal T v z))):=by
    rcases Q with rfl|rfl|rfl<;>cases v<;>first|rfl|exact absurd rfl (hi _ _)|exact absurd rfl (hf _ _)|exact absurd rfl (hc _ _ _)|exact absurd rfl (hs _)
   rw[this];simp[hq]
  .have:binOp .neq T v z=(do pure (.bool (!(<-Op.equal T v z)))):=by
    rcases Q with rfl|rfl|rfl<;>cases v<;>first|rfl|exact absurd rfl (hi _ _)|exact absurd rfl (hf _ _)|exact absurd rfl (hc _ _ _)|exact absurd rfl (hs _)
   rw[this];simp[hq]
 have aa:a.eval y=z:=by rw[hy];rfl
 simp only[execOp,ho,aa,Sem.run_bind,hg,Result.andThen_ok,hb,Sem.run_pure]
def bN{op:BinOp}{T U:TypeId}{x y:Operand}{m:Nat}(ho:o.op= .binOp op T x y U)(hm:Fq y=m+1)(ac:m<=2)(hk:Bi (lF h op (Aq tm x) K m) (tI P T)):BV P tm h nx o K:=by
 cases hT:tI P T with
 |none=>rw[hT] at hk;exact hk.elim
 |some ti=>
 rw[hT] at hk;simp only[Bi] at hk;have O:op= .eql\/op= .neq:=by cases op<;>first|exact .inl rfl|exact .inr rfl|exact hk.elim
 have z:WI h (decide (op= .neq)) K (Aq tm x) m ti.kind:=by rcases O with rfl|rfl<;>exact hk
 have Z: ∃nv,y= .const nv/\((m=0/\nv= .slice none 0 0)\/(m=1/\nv= .pointer none)\/(m=2/\nv= .map none)):=by
  cases y<;>simp only[Fq,reduceCtorEq] at hm<;>try (cases hm;done)
  rename_i v;refine⟨v,rfl,?_⟩;unfold FD at hm;split at hm
  .exact .inl ⟨by omega,rfl⟩
  .exact .inr (.inl ⟨by omega,rfl⟩)
  .exact .inr (.inr ⟨by omega,rfl⟩)
  .omega
  .omega
 obtain⟨nv,Z,ab⟩:=Z;clear hk;rcases ab with ⟨rfl,rfl⟩|⟨rfl,rfl⟩|⟨rfl,rfl⟩<;>cases hf:ti.kind<;>rw[hf] at z<;>try exact z.elim
 .have Q:=PO hT hf;simp only[WI] at z;cases hx:Aq tm x<;>rw[hx] at z<;>try exact z.elim
  rename_i d;cases d<;>try exact z.elim
  rename_i nz k rows;cases nz<;>try exact z.elim
  refine eF (u:=[]) ho O Z (.inl rfl) ?_ z;intro C S v hW _ G;rw[hx] at G;simp only[Aa,rd] at G;rcases G with ⟨h0,rfl⟩|⟨b,p,cap,vs,T,fr,rfl,h2,_⟩
  .rw[Qr7 h0];simp[W4,Kc Q 9999]
  .have ad:rows≠[]:=h2 trivial
   have:rows.isEmpty=false:=by cases rows<;>simp_all
   simp[W4,Kc Q 9999,this]
 .have Q:=jD hT hf;simp only[WI] at z;cases hx:Aq tm x<;>rw[hx] at z<;>try exact z.elim
  case im d=>
   cases d<;>try exact z.elim
   .refine eF (u:=[]) ho O Z (.inr (.inl rfl)) ?_ z;intro C S v hW _ G;rw[hx] at G;simp only[Aa,rd] at G;subst G;simp[W4,Qx1 Q 9999]
   .refine eF (u:=[]) ho O Z (.inr (.inl rfl)) ?_ z;intro C S v hW _ G;rw[hx] at G;simp only[Aa,rd] at G;obtain⟨b,p,vs,T,fr,rfl,_⟩:=G;simp[W4,Qx1 Q 9999]
  all_goals
   obtain⟨⟨e',he⟩,z⟩:=eG z;refine eF (b:=false) ho O Z (.inr (.inl rfl)) ?_ (by simpa using z);intro C S v hW aa G;rw[hx] at G;simp only[Aa] at G;obtain⟨l,_,rfl⟩:=G.2 e' ((aa _ (by simp)).trans he);simp[W4,Qx1 Q 9999]
 .have Q:=lQ hT hf;simp only[WI] at z;cases hx:Aq tm x<;>rw[hx] at z<;>try exact z.elim
  case im d=>
   cases d<;>try exact z.elim
   .refine eF (u:=[]) ho O Z (.inr (.inr rfl)) ?_ z;intro C S v hW _ G;rw[hx] at G;simp only[Aa,rd] at G;subst G;simp[W4,Kb Q 9999]
   .refine eF (u:=[]) ho O Z (.inr (.inr rfl)) ?_ z;intro C S v hW _ G;rw[hx] at G;simp only[Aa,rd] at G;obtain⟨b,p,vs,rfl,_⟩:=G;simp[W4,Kb Q 9999]
  all_goals
   obtain⟨⟨e',he⟩,z⟩:=eG z;refine eF (b:=false) ho O Z (.inr (.inr rfl)) ?_ (by simpa using z);intro C S v hW aa G;rw[hx] at G;simp only[Aa] at G;obtain⟨l,_,rfl⟩:=G.2 e' ((aa _ (by simp)).trans he);simp[W4,Kb Q 9999]
end
end Go.Ae
