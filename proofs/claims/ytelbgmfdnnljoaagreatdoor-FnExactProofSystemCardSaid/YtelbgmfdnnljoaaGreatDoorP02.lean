/- Lemmas. Conditions: none. -/
import Derived.Test.YtelbgmfdnnljoaaGreatDoorP01
import Derived.IntWalk
set_option linter.all false
set_option maxHeartbeats 8000000
set_option maxRecDepth 100000
namespace Go.Ae
def xC(z:List Value)(O:z≠[]): ∀n,(List.range (n*z.length)).map (λi=>z[i % z.length]!)=BY n z
 |0=>by simp[BY]
 |n+1=>by
  have h0:0<z.length:=rL.2 O;rw[Du,EH,jG,List.range_add,En,Km];simp only[BY];congr 1
  .apply List.ext_getElem
   .simp
   .intro i Q G;simp only[List.getElem_map,Zez]
    have:i % z.length=i:=ZeM G
    rw[this,getElem!_pos z i G]
  .rw[<-xC z O n];apply Ii;intro i _;simp
def Qxx(a:Array Value)(i:Nat):a[i]! =a.toList[i]! :=by
 by_cases z:i<a.size
 .rw[getElem!_pos a i z,getElem!_pos a.toList i (by simpa using z)];simp
 .rw[getElem!_neg a i z,getElem!_neg a.toList i (by simpa using z)]
def Qzv{α:Type}(z:List α): ∀n,(BY n z).length=n*z.length
 |0=>by simp[BY]
 |n+1=>by simp[BY,Qzv z n,Du];omega
def lI{α β:Type}(f:α->β)(z:List α): ∀n,(BY n z).map f=BY n (z.map f)
 |0=>rfl
 |n+1=>by simp[BY,lI f z n]
def Mz{ok:Nat->Prop}{hp:Nat->Option Obj}: ∀(a:List D) (x:List Value) (b:List D) (y:List Value),rdl ok hp a x->rdl ok hp b y->rdl ok hp (a++b) (x++y)
 |[],x,b,y,h,z=>by simp only[rdl] at h;subst h;simpa using z
 |d::a,x,b,y,h,z=>by
  simp only[rdl] at h;obtain⟨v,r,rfl,G,O⟩:=h;simp only[BG,rdl];exact⟨v,_,rfl,G,Mz a r b y O z⟩
def Qop{S:Ay}: ∀(a:List AV) (x:List Value) (b:List AV) (y:List Value),AN S a x->AN S b y->AN S (a++b) (x++y)
 |[],x,b,y,h,z=>by simp only[AN] at h;subst h;simpa using z
 |d::a,x,b,y,h,z=>by
  simp only[AN] at h;obtain⟨v,r,rfl,G,O⟩:=h;simp only[BG,AN];exact⟨v,_,rfl,G,Qop a r b y O z⟩
def Qy7{ok:Nat->Prop}{hp:Nat->Option Obj}{z:List D}{x:List Value}(h:rdl ok hp z x): ∀n,rdl ok hp (BY n z) (BY n x)
 |0=>by simp[BY,rdl]
 |n+1=>Mz _ _ _ _ h (Qy7 h n)
def bO{α:Type}(k:Nat): ∀(n:Nat) (l:List α),(Ia k n l).length=n
 |0,_=>rfl
 |n+1,l=>by simp[Ia,bO k n]
def Qq5{ok:Nat->Prop}{hp:Nat->Option Obj}(k:Nat): ∀(n:Nat) (ds:List D) (vs:List Value),rdp ok hp ds vs->ds.length=n*k->rdr ok hp k (Ia k n ds) vs
 |0,_,_,_,_=>by simp only[Ia,rdr]
 |n+1,ds,vs,h,G=>by
  rw[Du,EH] at G;simp only[Ia,rdr];obtain⟨O,z⟩:=UT k ds vs h (by omega);refine⟨by rw[Ck];omega,?_,Qq5 k n _ _ (P4 k ds vs h (by omega)) (by rw[C6];omega)⟩
  have:=pI _ _ (vs.drop k) (Wk _ _ z)
  rwa [QH] at this
def Qms{S:Ay}(k:Nat): ∀(n:Nat) (ds:List AV) (vs:List Value),Cm S ds vs->ds.length=n*k->B7 S k (Ia k n ds) vs
 |0,_,_,_,_=>by simp only[Ia,B7]
 |n+1,ds,vs,h,G=>by
  rw[Du,EH] at G;simp only[Ia,B7];obtain⟨O,z⟩:=VV k ds vs h (by omega);refine⟨by rw[Ck];omega,?_,Qms k n _ _ (gT k ds vs h (by omega)) (by rw[C6];omega)⟩
  have:=iB _ _ (vs.drop k) (VW _ _ z)
  rwa [QH] at this
def Qn6(k:Nat)(x:Nat): ∀(n:Nat) (ds:List AV),x∈Bx (Ia k n ds)->x∈Aw ds
 |0,_,h=>by simp[Ia,Bx] at h
 |n+1,ds,h=>by
  have z: ∀(a b:List AV),Aw (a++b)=Aw a++Aw b:=by
   intro a b;induction a with
   |nil=>rfl
   |cons y a ih=>simp[Aw,ih]
  simp only[Ia,Bx,Bz] at h
  have:=z (ds.take k) (ds.drop k)
  rw[QH] at this;rw[this,Bz];rcases h with h|h
  .exact .inl h
  .exact .inr (Qn6 k x n _ h)
section
variable {P:Program}{tm:List (Nat×AV)}{h:Nat->Option Am}{nx:Nat}{o:Oper}{K:Ah}
def Qrh(a b:List AV):Aw (a++b)=Aw a++Aw b:=by
 induction a with
 |nil=>rfl
 |cons y a ih=>simp[Aw,ih]
def O6(n:Nat)(a:List AV): ∀m∈Aw (a.take n),m∈Aw a:=by
 intro m z
 have:=Qrh (a.take n) (a.drop n)
 rw[QH] at this;rw[this,Bz];exact .inl z
def O5(n:Nat)(a:List AV): ∀m∈Aw (a.drop n),m∈Aw a:=by
 intro m z
 have:=Qrh (a.take n) (a.drop n)
 rw[QH] at this;rw[this,Bz];exact .inr z
def Qvz(x:AV): ∀m∈Aw x.cells,m∈x.nms:=by
 cases x<;>simp only[AV.cells]<;>intro m z
 case im d=>rw[Qw0] at z;cases z
 case agg cs=>simpa[AV.nms] using z
 all_goals simp[Aw,AV.nms] at z⊢
 all_goals exact z
def Qyu(G: ∀x,∀m∈(Ap tm x).nms,m≠nx)(Q:Nat->Option (Nat×Nat)): ∀(ps:List (Nat×Operand)) (cs r:List AV),Hy Q (J9 tm ps) (some cs)=some r->
 (∀m∈Aw cs,m≠nx)-> ∀m∈Aw r,m≠nx
 |[],cs,r,h,O=>by simp only[J9,Hy,AM] at h;subst h;exact O
 |(i,x)::ps,cs,r,h,O=>by
  simp only[J9,Hy] at h;cases hf:YW cs (Ap tm x).cells (Q i) with
  |none=>rw[hf] at h;exact (Qjy _ _ h).elim
  |some us=>
   rw[hf] at h;refine Qyu G Q ps us r h ?_;cases hp:Q i with
   |none=>rw[hp] at hf;simp[YW] at hf
   |some q=>
    rw[hp] at hf;simp only[YW] at hf;generalize ((Ap tm x).cells.length==q.2 && (Nat.blt 0 q.2 && Nat.ble (q.1+q.2) cs.length))=bb at hf;cases bb
    .simp at hf
    .simp only[BV,AM] at hf;subst hf;intro m z;simp only[BW,Qrh,Bz] at z;rcases z with (z|z)|z
     .exact O m (O6 _ _ m z)
     .exact G x m (Qvz _ m z)
     .exact O m (O5 _ _ m z)
def Qp8{T:TypeId}{n:Nat}{ps:Array (Nat×Operand)}(ho:o.op= .buildSlice T n ps)(G:Bh (uF P nx n (J9 tm ps.toList) K) (tI P T))
 (ak: ∀x,∀m∈(Ap tm x).nms,m≠nx):BM P tm h nx o K:=by
 cases hT:tI P T with
 |none=>rw[hT] at G;exact G.elim
 |some ti=>
 rw[hT] at G;simp only[Bh,uF] at G;cases hf:ti.kind<;>rw[hf] at G<;>try exact G.elim
 rename_i e;have hu:=P3 hT hf;simp only[bsK] at G;cases hE:tI P e with
 |none=>rw[hE] at G;exact G.elim
 |some Z=>
 rw[hE] at G;simp only[Bh,bsE] at G;obtain⟨hl,hz,av,G⟩:=G;have hn:n<=Jr:=by
  have:=Nat.le_mul_of_pos_right n (Nat.pos_of_ne_zero hz)
  simp only[Jr];omega
 obtain⟨z,ao,aq,an⟩:=bR hE hl hz
 have am:z.cells.toList≠[]:=by intro hh;have:z.cells.size=0:=by rw[<-EE,hh];rfl
                               omega
 rw[<-lI] at G;cases hfl:Hy (Jc Z.size) (J9 tm ps.toList) (some ((BY n Z.zero).map .im)) with
 |none=>rw[hfl] at G;exact G.elim
 |some cs=>
 rw[hfl] at G;simp only[Lu] at G;have hbel:=Qyu ak _ ps.toList _ cs hfl (by rw[Qw0];intro m hm;cases hm);have ac: ∀(C:AZ) (S:Ay) (a:Act),Wf C S->(∀x∈o.op.operands,Aa S (Ap tm x) (a.eval x))->
  ∃us:Array Value,(execOp a.eval o).run P S.w= .ok (.value (.slice (some ⟨S.w.heap.size,0,none⟩) n n)) (S.w.alloc (.cells us e))/\AN S cs us.toList/\cs.length=n*Z.size:=by
  intro C S a hW O;have au:((Array.range (n*Z.size)).map λi=>z.cells[i % z.cells.size]!).toList=BY n z.cells.toList:=by
   rw[<-xC _ am n,Vq,Zex,EE,aq];apply Ii;intro i _;exact Qxx _ _
  obtain⟨us,ah,hr,aj⟩:=uW (S:=S) (a:=a) (place:=λi=>some (i*Z.size,Z.size)) (λi q hq=>hq) ps.toList _ cs
   ((Array.range (n*Z.size)).map λi=>z.cells[i % z.cells.size]!) hfl (by rw[au];exact (Ir _ _).2 (Qy7 (an _ _) n))
   (by intro p hp
       refine O p.2 ?_;rw[ho];simp only[Op.operands];simp;exact⟨p.1,by simpa using hp⟩)
  refine⟨us,?_,hr,by rw[aj];simp[Qzv,hl]⟩;simp only[execOp,ho,Instr.buildSlice,Sem.run_bind];rw[show (underlying T).run P S.w= .ok (.slice e) S.w from by simp[underlying,hu]];simp only[Result.andThen_ok,Sem.run_bind,I2 hE];rw[Af (by omega)];by_cases af:n*Z.size=0
  .simp only[af,B5,pure_bind];simp only[af] at ah
   have:((Array.range 0).map λi=>(#[]:Array Value)[i % (#[]:Array Value).size]!)=(Array.range 0).map λi=>z.cells[i % z.cells.size]! :=by simp
   rw[this];have ab:(ps.map λ(i,x)=>(i,a.eval x)).toList=ps.toList.map λp=>(p.1,a.eval p.2):=by simp
   rw[ab,ah];simp[newRow]
  .simp only[af,CA,Sem.run_bind,ao,Result.andThen_ok,Sem.run_pure];have ab:(ps.map λ(i,x)=>(i,a.eval x)).toList=ps.toList.map λp=>(p.1,a.eval p.2):=by simp
   rw[ab,ah];simp[newRow]
 cases hai:Ds cs with
 |none=>
  rw[hai] at G;simp only[IF] at G;refine⟨_,_,B6.one (u:=[]) (ks:=[]) (.inl ⟨rfl,rfl⟩) ?_,G⟩;intro C S a hW _ ad hnm O;obtain⟨us,hr,Q,hcl⟩:=ac C S a hW O;refine⟨_,_,some ⟨S.w.heap.size,0,n⟩,.inl hr,UY (w':=S.w.alloc (.cells us e)) (ob:= .cells us e) rfl rfl rfl rfl (ad rfl) (λn f hf=>hnm n f hf rfl),?_⟩;intro hp;have ag:=I0 _ _ Q;constructor
  .simp only[An];refine⟨by rw[bO];exact hn,by rw[bO];exact AP _,us,YU rfl,by simp at ag;omega,?_⟩;rw[Gf];exact nQ hp _ _ _ (λm hm=> .inr (hbel m (Qn6 _ _ _ _ hm))) (Qms _ _ _ _ (VW _ _ Q) hcl)
  .simp only[Aa];refine⟨rfl,λe' aa=> ?_⟩;have hh:(S.one nx (.arrA e Z.size (Ia Z.size n cs)) (some ⟨S.w.heap.size,0,n⟩) [] (S.w.alloc (.cells us e))).ρ nx=some ⟨S.w.heap.size,0,n⟩:=by simp[Ay.one]
   rw[hh];simp only[Ay.one,B5,AM] at aa;subst aa;simp[Ac.len,bO]
 |some ds=>
  rw[hai] at G;simp only[IF] at G;refine⟨_,_,B6.one (u:=[]) (ks:=[]) (.inl ⟨rfl,rfl⟩) ?_,G⟩;intro C S a hW _ ad hnm O;obtain⟨us,hr,Q,hcl⟩:=ac C S a hW O;refine⟨_,_,some ⟨S.w.heap.size,0,n⟩,.inl hr,UY (w':=S.w.alloc (.cells us e)) (ob:= .cells us e) rfl rfl rfl rfl (ad rfl) (λn f hf=>hnm n f hf rfl),?_⟩;intro hp;have ag:=I0 _ _ Q;rw[hZ hai] at Q hcl;have ai:=KU hp.ok _ _ ((Ir _ _).1 Q);constructor
  .simp only[An];refine⟨by rw[bO];exact hn,by rw[bO];exact AP _,us,YU rfl,by simp[hZ hai] at ag hcl;simp;omega,?_⟩;rw[Gf];exact Qq5 _ _ _ _ (Wk _ _ ai) (by simpa using hcl)
  .simp only[Aa];refine⟨rfl,λe' aa=> ?_⟩;have hh:(S.one nx (.arr e Z.size (Ia Z.size n ds)) (some ⟨S.w.heap.size,0,n⟩) [] (S.w.alloc (.cells us e))).ρ nx=some ⟨S.w.heap.size,0,n⟩:=by simp[Ay.one]
   rw[hh];simp only[Ay.one,B5,AM] at aa;subst aa;simp[Ac.len,bO]
end
def Qwm(n:Nat): ∀(r c:Nat),c<=2*(n+512)->Builtin.growBy n r c<=2*(n+512)
 |0,c,h=>by simpa[Builtin.growBy] using h
 |r+1,c,h=>by
  simp only[Builtin.growBy];split
  .exact h
  .exact Qwm n r _ (by omega)
def Qabm(n old:Nat)(h:old<n):Builtin.nextslicecap n old<=2*(n+512):=by
 unfold Builtin.nextslicecap;split
 .omega
 .split
  .omega
  .exact Qwm n 4 old (by omega)
def Qqs{S:Ay}{k:Nat}: ∀(rows0 rows:List (List AV)) (A L R:List Value),B7 S k rows0 A->rows0.length*k<=A.length->B7 S k rows L->
 rows.length*k<=L.length->B7 S k (rows0++rows) (A.take (rows0.length*k)++(L++R))
 |[],rows,A,L,R,z,G,h,O=>by
  simp only[H9,J5,Eo,Dj];clear z G A;induction rows generalizing L with
  |nil=>simp only[B7]
  |cons r rows ih=>
   simp only[B7,Dd,Du,EH] at h O⊢;refine⟨h.1,iB _ _ _ h.2.1,?_⟩
   have:=ih (L.drop k) h.2.2 (by rw[C6];omega)
   rwa [Zdl (by omega)]
 |r::rows0,rows,A,L,R,h0,hA,h,O=>by
  simp only[B7,Dd,Du,EH,BG] at h0 hA⊢;have ih:=Qqs rows0 rows (A.drop k) L R h0.2.2 (by rw[C6];omega) h O;have e:A.take (rows0.length*k+k)=A.take k++(A.drop k).take (rows0.length*k):=by rw[<-dU];congr 1;omega
  have hk:(A.take k).length=k:=by rw[Ck];omega
  rw[e,J0];refine⟨h0.1,?_,?_⟩
  .obtain⟨_,Z⟩:=VV k r A h0.2.1 (by omega);have Q:=VW _ _ Z;rw[F9 (by omega)] at Q;exact iB _ _ _ Q
  .rw[Vr,DB (by omega),hk,J4];simpa using ih
def iA{S:Ay}{k:Nat}: ∀(rows:List (List D)) (L:List Value),rdr S.ok S.hp k rows L->B7 S k (Bi rows) L
 |[],_,_=>by simp only[Bi,BD,B7]
 |r::rows,L,h=>by
  simp only[rdr] at h;simp only[Bi,Bb,B7];exact⟨by simpa using h.1,(nJ _ _).2 h.2.1,iA rows _ h.2.2⟩
def LN{S:Ay}{k:Nat}: ∀(rows:List (List D)) (L:List Value),B7 S k (Bi rows) L->rdr S.ok S.hp k rows L
 |[],_,_=>by simp only[rdr]
 |r::rows,L,h=>by
  simp only[Bi,Bb,B7] at h;simp only[rdr];exact⟨by simpa using h.1,(nJ _ _).1 h.2.1,LN rows _ h.2.2⟩
section
variable {P:Program}{w:World}
def gQ{b p:Nat}{vs:Array Value}{U:TypeId}{Q:Nat×Nat}(Z:w.heap[b]? =some (.cells vs U Q)){n:Nat}(hn:p+n<=vs.size):
 (loadCells ⟨b,p,none⟩ n).run P w= .ok ((vs.toList.drop p).take n).toArray w:=by
 have O: ∀j v,((vs.toList.drop p).take n)[j]? =some v->w.cell? ((⟨b,p,none⟩:Addr).add j)=some v:=by
  intro j v z;rw[N7,Qyp Z];rw[Zey] at z;split at z
  .rw[W8] at z;simpa using z
  .cases z
 have hl:((vs.toList.drop p).take n).length=n:=by rw[Ck,C6];simp;omega
 have G:=run_loadCells_list (P:=P) w ⟨b,p,none⟩ _ O;rwa [hl] at G
def rX(P:Program)(z:TypeId):Prop:=(∃G,P.underlying z=some (.slice G))\/P.underlying z=some .string
def mQ{t:TypeId}{d:TypeDesc}{w:World}(h:P.underlying t=some d):(underlying t).run P w= .ok d w:=by simp[underlying,h]
def Qo9{Z uT e ty:TypeId}{te:TI}(hs:P.underlying Z=some (.slice e))(hE:tI P e=some te)(G:rX P uT)
 {base:Option Addr}{sLen sCap n:Nat}{x:Value}{L:List Value}(Q:(Builtin.lenOf x).run P w= .ok n w)(z:(Builtin.firstCells te.size n x).run P w= .ok L.toArray w)
 (O:sLen+n<=sCap):(Builtin.append_ #[Z,uT] ty #[.slice base sLen sCap,x]).run P w=
  ((match base with|some a=>storeCells (a.add (sLen*te.size)) L|none=>pure ())>>=λ_=>(pure (.slice base (sLen+n) sCap):Sem Value)).run P w:=by
 refine G.elim (λ⟨u2,G⟩=> ?_) (λG=> ?_)
 all_goals
  have h1:(underlying Z).run P w= .ok (.slice e) w:=by simp[underlying,hs]
  have h2:=λw=>mQ (w:=w) G
  unfold Builtin.append_;simp only[zA,HA,PG,Sem.run_bind,h1,Result.andThen_ok,I2 hE,h2];simp only[Sem.run_pure,Result.andThen_ok,CQ,CA,Q,Sem.run_ite,Ai O,Sem.run_bind,z,W6,B5];cases base<;>simp
def Qo8{sT uT e ty:TypeId}{G:TI}(hs:P.underlying sT=some (.slice e))(hE:tI P e=some G)(Q:rX P uT)(ad:G.bytes≠0)
 (hz:G.zero.length=G.size)(ag:G.size≠0)
 {base:Option Addr}{sLen sCap n:Nat}{x:Value}{L old:List Value}(ab:(Builtin.lenOf x).run P w= .ok n w)(O: ∀k,(Builtin.firstCells G.size n x).run P {w with drawn:=k}= .ok L.toArray {w with drawn:=k})
 (ac: ∀k,(Builtin.firstCells G.size sLen (.slice base sLen sCap)).run P {w with drawn:=k}= .ok old.toArray {w with drawn:=k})
 (Z: ¬sLen+n<=sCap)(ak:(sLen+n+512)*G.bytes<=140737488355328): ∃cap R,sLen+n<=cap/\R.length=(cap - (sLen+n))*G.size/\
  (Builtin.append_ #[sT,uT] ty #[.slice base sLen sCap,x]).run P w= .ok (.slice (some ⟨w.heap.size,0,none⟩) (sLen+n) cap) (World.alloc {w with drawn:=w.drawn+1} (.cells (old++L++R).toArray e)):=by
 refine Q.elim (λ⟨u2,Q⟩=> ?_) (λQ=> ?_)
 all_goals
  have h1: ∀w:World,(underlying sT).run P w= .ok (.slice e) w:=by intro w;simp[underlying,hs]
  have h2:=λw=>mQ (w:=w) Q
  obtain⟨z,ai,aj,an⟩:=bR hE hz ag;obtain⟨i,u,hi,hu,am,aa,_⟩:=N8 hE;have ah: ∀w:World,(typeInfo e).run P w= .ok i w:=by intro w;simp[typeInfo,hi]
  refine⟨(Question.appendCap (sLen+n) sCap e).cut (w.tape w.drawn (.appendCap (sLen+n) sCap e)),(Builtin.zeroCells z.cells ((Question.appendCap (sLen+n) sCap e).cut (w.tape w.drawn (.appendCap (sLen+n) sCap e)) - (sLen+n))).toList,?_,?_,?_⟩
  .simp only[Question.cut];omega
  .simp[Builtin.zeroCells,aj]
  have af: ¬(Builtin.nextslicecap (sLen+n) sCap*i.bytes>2^48):=by
   rw[<-aa];have h3:=Qabm (sLen+n) sCap (by omega);have h4:=HC G.bytes h3;have h5:2*(sLen+n+512)*G.bytes=2*((sLen+n+512)*G.bytes):=zE _ _ _;omega
  unfold Builtin.append_;simp only[zA,HA,PG,Sem.run_bind,h1,Result.andThen_ok,I2 hE,h2];simp only[Sem.run_pure,Result.andThen_ok,CQ,CA,ab,Sem.run_ite,Af Z,Sem.run_bind,ah,W6,B5,false_or];rw[Af (by rw[<-aa];exact λhh=>ad hh.2),Af af];simp only[run_choose,Question.forced,CQ,CA,Result.andThen_ok,run_askRoom,ac,O,ai];simp only[newRow,Sem.run_bind,run_newObj,Result.andThen_ok,Sem.run_pure];rw[show (old++L++(Builtin.zeroCells z.cells ((Question.appendCap (sLen+n) sCap e).cut (w.tape w.drawn (.appendCap (sLen+n) sCap e)) - (sLen+n))).toList).toArray=
   old.toArray++L.toArray++Builtin.zeroCells z.cells ((Question.appendCap (sLen+n) sCap e).cut (w.tape w.drawn (.appendCap (sLen+n) sCap e)) - (sLen+n)) from by apply Zl;simp]
  rfl
end
def Qx7{ok:Nat->Prop}{hp:Nat->Option Obj}{z:List D}{x:List Value}(h:rdl ok hp z x): ∀(n m:Nat),n<=m->rdr ok hp z.length (List.replicate n z) (BY m x)
 |0,_,_=>by simp only[List.replicate_zero,rdr]
 |n+1,0,O=>by omega
 |n+1,m+1,O=>by
  have G:=cM _ _ h;simp only[Zen,BY,rdr];refine⟨trivial,pI _ _ _ (Wk _ _ h),?_⟩;rw[Vr,DB (by omega),G,J4];simpa using Qx7 h n m (by omega)
section
variable {P:Program}{tm:List (Nat×AV)}{h:Nat->Option Am}{nx:Nat}{o:Oper}{K:Ah}
def Qrx{T:TypeId}{x y:Operand}(ho:o.op= .makeSlice T x y)(G:Bh (uO P nx (Ap tm x) (Ap tm y) K) (tI P T)):BM P tm h nx o K:=by
 cases hT:tI P T with
 |none=>rw[hT] at G;exact G.elim
 |some ti=>
 rw[hT] at G;simp only[Bh,uO] at G;cases hf:ti.kind<;>rw[hf] at G<;>try exact G.elim
 rename_i e;have hu:=P3 hT hf;have aq: ∃n m,Ap tm x= .im (.int .i64 n)/\Ap tm y= .im (.int .i64 m)/\Bh (zV nx e n m K) (tI P e):=by
  revert G;generalize Ap tm x=X;generalize Ap tm y=Y;intro G;cases X<;>try exact G.elim
  rename_i d;cases d<;>try exact G.elim
  rename_i k n;cases k<;>try exact G.elim
  cases Y<;>try exact G.elim
  rename_i d;cases d<;>try exact G.elim
  rename_i k m;cases k<;>try exact G.elim
  exact⟨_,_,rfl,rfl,G⟩
 obtain⟨n,m,hx,hy,G⟩:=aq;cases hE:tI P e with
 |none=>rw[hE] at G;exact G.elim
 |some te=>
 rw[hE] at G;simp only[Bh,zV] at G;obtain⟨hz,ax,hnm,hm,av,hl,G⟩:=G;obtain⟨z,am,an,ak⟩:=bR hE hl hz;obtain⟨i,u,hi,ay,aw,af,_⟩:=N8 hE;have aj:z.cells.toList≠[]:=by
  intro hh
  have:z.cells.size=0:=by rw[<-EE,hh];rfl
  omega
 have ao:((Array.range (m.toNat*te.size)).map λi=>z.cells[i % z.cells.size]!).toList=BY m.toNat z.cells.toList:=by
  rw[<-xC _ aj m.toNat,Vq,Zex,EE,an];apply Ii;intro i _;exact Qxx _ _
 refine⟨_,_,B6.one (u:=[]) (ks:=[]) (.inl ⟨rfl,rfl⟩) ?_,G⟩;intro C S a hW _ ad aa O;have h1:=O x (by rw[ho];simp[Op.operands]);have h2:=O y (by rw[ho];simp[Op.operands]);rw[hx] at h1;rw[hy] at h2;simp only[Aa,rd] at h1 h2;have ac:(execOp a.eval o).run P S.w= .ok (.value (.slice (some ⟨S.w.heap.size,0,none⟩) n.toNat m.toNat))
  (S.w.alloc (.cells ((Array.range (m.toNat*te.size)).map λi=>z.cells[i % z.cells.size]!) e)):=by
  have au:(i.bytes:Int)*m<=2^48:=by
   rw[<-af];have h3:(te.bytes:Int)*m<=65536*m:=ZdY (by omega) (by omega);omega
  have ai:IntKind.i64.wrap n=n:=IntWalk.i64_in n (by omega);have ah:IntKind.i64.wrap m=m:=IntWalk.i64_in m (by omega);simp only[execOp,ho,h1,h2,Instr.makeSlice,Sem.run_bind];rw[show (underlying T).run P S.w= .ok (.slice e) S.w from by simp[underlying,hu]];have ag:(typeInfo e).run P S.w= .ok i S.w:=by simp[typeInfo,hi]
  simp only[Result.andThen_ok,asInt,asIntOf,Sem.run_bind,Sem.run_pure,ag,ai,ah];have ab:((decide (m<0)||decide ((i.bytes:Int)*m>2^48))||decide (n<0)||decide (n>m))=false:=by
   simp only[Zfd,J3];omega
  rw[ab];simp only[CQ,CA,Sem.run_bind,run_askRoom,Result.andThen_ok,I2 hE,Sem.run_ite,am,newRow,run_newObj,Sem.run_pure];by_cases Z:m.toNat*te.size=0
  .have:((Array.range 0).map λi=>(#[]:Array Value)[i % (#[]:Array Value).size]!)=(Array.range 0).map λi=>z.cells[i % z.cells.size]! :=by simp
   simp only[Z,B5,Result.andThen_ok,this];simp
  .simp only[Z,CA,Result.andThen_ok];simp
 refine⟨_,_,some ⟨S.w.heap.size,0,m.toNat⟩,.inl ac,UY (w':=S.w.alloc (.cells _ e)) (ob:= .cells _ e) rfl rfl rfl rfl (ad rfl) (λn f hf=>aa n f hf rfl),?_⟩;intro hp;constructor
 .simp only[An];refine⟨by simp[Jr];omega,by simp;omega,_,YU rfl,by simp,?_⟩;rw[Gf,ao,<-hl];exact Qx7 (ak _ _) _ _ (by omega)
 .simp only[Aa];refine⟨rfl,λe' Q=> ?_⟩;simp only[Ay.one,B5,AM] at Q⊢;subst Q;simp[Ac.len]
end
def fZ(l:Option F2)(n:Nat):Value:=match l with|none=> .slice none 0 0|some l=> .slice (some ⟨l.b,l.p,none⟩) n l.cap
def Z6(S:Ay)(e z sLen:Nat)(A:List Value):Option F2->Prop
 |none=>sLen=0/\A=[]
 |some l=>sLen<=l.cap/\ ∃G,S.hp l.b=some (.cells G e (0,0))/\A=G.toList.drop l.p/\l.p+l.cap*z<=G.size
section
variable {P:Program}
def NO{C:AZ}{S:Ay}(hW:Wf C S){nx:Nat}{ks:List Nat}{sT uT e ty:TypeId}{z:TI}(hs:P.underlying sT=some (.slice e))(hE:tI P e=some z)
 (ac:rX P uT)(am:z.bytes≠0)(hz:z.zero.length=z.size)(au:z.size≠0){sLen n:Nat}(aj:(sLen+n+512)*z.bytes<=140737488355328)
 {l0:Option F2}{A:List Value}(hA:Z6 S e z.size sLen A l0)
 {x:Value}{L:List Value}(Q:(Builtin.lenOf x).run P S.w= .ok n S.w)(G: ∀k,(Builtin.firstCells z.size n x).run P {S.w with drawn:=k}= .ok L.toArray {S.w with drawn:=k})
 (hL:L.length=n*z.size)(aq: ∀v∈L,v.oneCell'=true)(ag: ∀l,l0=some l-> ∃o f,o∈ks/\S.h o=some (true,f)/\S.ρ o=some l)
 (aa:S.h nx=none)(Z: ∀n f,S.h n=some f->nx∉f.2.nms):
 ∃w' l',(Builtin.append_ #[sT,uT] ty #[fZ l0 sLen,x]).run P S.w= .ok (fZ l' (sLen+n)) w'/\(∀ea,Kb S nx ea l' ks w')/\
  match l' with|none=>sLen=0/\n=0|some l=>sLen+n<=l.cap/\ ∃vs R,w'.heap[l.b]? =some (.cells vs e (0,0))/\l.p+l.cap*z.size<=vs.size/\
   vs.toList.drop l.p=A.take (sLen*z.size)++(L++R):=by
 have ab:{S.w with drawn:=S.w.drawn}=S.w:=rfl;cases l0 with
 |none=>
  obtain⟨h0,hA⟩:=hA;subst h0 hA;by_cases hn:n=0
  .subst hn;have av:L=[]:=Vi.1 (by simpa using hL);subst av;refine⟨S.w,none,?_,λea=>Ql6 aa Z,rfl,rfl⟩
   have:=Qo9 (P:=P) (w:=S.w) (ty:=ty) hs hE ac (base:=none) (sLen:=0) (sCap:=0) Q (by have:=G S.w.drawn;rwa [ab] at this) (by omega)
   simpa[fZ] using this
  .obtain⟨cap,R,h1,h2,h3⟩:=Qo8 (P:=P) (w:=S.w) (ty:=ty) hs hE ac am hz au (base:=none) (sLen:=0) (sCap:=0) (old:=[]) Q G (by intro k;simp[Builtin.firstCells]) (by omega) aj;refine⟨_,some ⟨S.w.heap.size,0,cap⟩,h3,λea=>UY (w':=World.alloc {S.w with drawn:=S.w.drawn+1} (.cells ([]++L++R).toArray e)) (ob:= .cells ([]++L++R).toArray e) rfl rfl rfl rfl aa Z,h1,([]++L++R).toArray,R,by simp[World.alloc],?_,by simp⟩;have h4:n*z.size+(cap - (0+n))*z.size=cap*z.size:=by rw[<-Du];congr 1;omega
   rw[FC] at h2 h4;simp[hL,h2];omega
 |some l=>
  obtain⟨ad,vs,hb,af,az⟩:=hA;have a0:A.length=vs.size - l.p:=by rw[af];simp
  by_cases O:sLen+n<=l.cap
  .have ay:sLen*z.size+n*z.size<=l.cap*z.size:=by rw[<-Du];exact HC _ O
   obtain⟨w',h1,h2,h3,h4,h5⟩:=Qf9 (P:=P) (w:=S.w) (b:=l.b) (p:=l.p+sLen*z.size) (T:=e) L 0 vs aq (by rw[hL];omega) hb;obtain⟨o,f,an,ah,ai⟩:=ag l rfl;have ak:=(hW.loc o _ l ah ai).1;refine⟨w',some l,?_,?_,O,(BW vs.toList (l.p+sLen*z.size+0) L).toArray,A.drop (sLen*z.size+L.length),?_,?_,?_⟩
   .have:=Qo9 (P:=P) (w:=S.w) (ty:=ty) hs hE ac (base:=some ⟨l.b,l.p,none⟩) (sLen:=sLen) (sCap:=l.cap) Q (by have:=G S.w.drawn;rwa [ab] at this) O
    simp only[N7,Sem.run_bind,h1,Result.andThen_ok,Sem.run_pure] at this;simpa[fZ] using this
   .intro ea;refine⟨h3,h4,h5.1,h5.2,by rw[h2];simp,?_,.inr aa,?_,?_,λn f hf _=>Z n f hf⟩
    .intro b a8 ax
     have:=ax o f l an ah ai
     rw[h2,dO,Af this]
    .intro lo aw;obtain rfl:=AB aw;exact⟨by rw[h2];simpa using ak,.inr ⟨o,f,l,an,ah,ai,rfl⟩⟩
    .intro f hf;rw[aa] at hf;cases hf
   .rw[h2];simp[ak]
   .simp[BW,Ck,C6];omega
   .rw[FO,Zeo,uK _ _ _ _ (by simp;omega),<-af];simp[BW]
  .have ao: ∀k,(Builtin.firstCells z.size sLen (.slice (some ⟨l.b,l.p,none⟩) sLen l.cap)).run P {S.w with drawn:=k}= .ok (A.take (sLen*z.size)).toArray {S.w with drawn:=k}:=by
    intro k;have ay:sLen*z.size<=l.cap*z.size:=HC _ ad;rw[af];exact gQ (w:={S.w with drawn:=k}) hb (by omega)
   obtain⟨cap,R,h1,h2,h3⟩:=Qo8 (P:=P) (w:=S.w) (ty:=ty) hs hE ac am hz au (base:=some ⟨l.b,l.p,none⟩) (sLen:=sLen) (sCap:=l.cap) Q G ao O aj;refine⟨_,some ⟨S.w.heap.size,0,cap⟩,h3,λea=>UY (w':=World.alloc {S.w with drawn:=S.w.drawn+1} (.cells (A.take (sLen*z.size)++L++R).toArray e)) (ob:= .cells (A.take (sLen*z.size)++L++R).toArray e) rfl rfl rfl rfl aa Z,h1,(A.take (sLen*z.size)++L++R).toArray,R,by simp[World.alloc],?_,by simp⟩;have h4:sLen*z.size+n*z.size+(cap - (sLen+n))*z.size=cap*z.size:=by rw[<-Du,<-Du];congr 1;omega
   have h5:sLen*z.size<=l.cap*z.size:=HC _ ad;simp[hL,h2,Ck];omega
def oW{S:Ay}{k:Nat}: ∀(rows:List (List AV)) (L:List Value),Bl Q7 rows->B7 S k rows L->rows.length*k<=L.length-> ∀v∈L.take (rows.length*k),v.oneCell'=true
 |[],L,_,_,_=>by simp
 |r::rows,L,O,h,Q=>by
  simp only[B7] at h;simp only[Dd,Du,EH] at Q⊢;have e:L.take (rows.length*k+k)=L.take k++(L.drop k).take (rows.length*k):=by rw[<-dU];congr 1;omega
  rw[e];intro v z;rcases Bz.1 z with z|z
  .obtain⟨_,G⟩:=VV k r L h.2.1 (by omega);rw[F9 (zG h.1)] at G;exact gO r _ (O r (by simp)) G v z
  .exact oW rows _ (λx Z=>O x (by simp[Z])) h.2.2 (by rw[C6];omega) v z
def Qsa: ∀(r:List D),Bo r=true->Q7 (r.map .im)=true
 |[],_=>rfl
 |x::r,h=>by
  simp only[Bo,AW] at h;simp only[Bb,Q7,AV.one,AW];exact⟨h.1,Qsa r h.2⟩
def Qyt{rows:List (List D)}(h:Bl Bo rows):Bl Q7 (Bi rows):=by
 intro r z;simp only[Bi,Bn] at z;obtain⟨x,G,rfl⟩:=z;exact Qsa x (h x G)
def Qrl{ok:Nat->Prop}{hp:Nat->Option Obj}{k:Nat}: ∀(rows:List (List D)) (L:List Value),rdr ok hp k rows L->rows.length*k<=L.length->rdr ok hp k rows (L.take (rows.length*k))
 |[],_,_,_=>by simp only[rdr]
 |r::rows,L,h,O=>by
  simp only[rdr,Dd,Du,EH] at h O⊢;refine⟨h.1,?_,?_⟩
  .obtain⟨_,G⟩:=UT k r L h.2.1 (by omega);have z:=Wk _ _ G;rw[F9 (by omega)] at z;have e:L.take (rows.length*k+k)=L.take k++(L.drop k).take (rows.length*k):=by rw[<-dU];congr 1;omega
   rw[e];exact pI _ _ _ z
  .rw[Zff]
   have:=Qrl rows _ h.2.2 (by rw[C6];omega)
   rwa [show rows.length*k+k - k=rows.length*k from by omega]
def uV{S:Ay}{k:Nat}: ∀(rows:List (List AV)) (L:List Value),B7 S k rows L->rows.length*k<=L.length->B7 S k rows (L.take (rows.length*k))
 |[],_,_,_=>by simp only[B7]
 |r::rows,L,h,O=>by
  simp only[B7,Dd,Du,EH] at h O⊢;refine⟨h.1,?_,?_⟩
  .obtain⟨_,G⟩:=VV k r L h.2.1 (by omega);have z:=VW _ _ G;rw[F9 (by omega)] at z;have e:L.take (rows.length*k+k)=L.take k++(L.drop k).take (rows.length*k):=by rw[<-dU];congr 1;omega
   rw[e];exact iB _ _ _ z
  .rw[Zff]
   have:=uV rows _ h.2.2 (by rw[C6];omega)
   rwa [show rows.length*k+k - k=rows.length*k from by omega]
def Qxq{ok:Nat->Prop}{hp:Nat->Option Obj}{k:Nat}: ∀(rows:List (List D)) (L:List Value),rdr ok hp k rows L->k≠0->rows.length*k<=L.length
 |[],_,_,_=>by simp
 |r::rows,L,h,z=>by
  simp only[rdr,Dd,Du,EH] at h⊢;obtain⟨G,_⟩:=UT k r L h.2.1 (by omega)
  have:=Qxq rows _ h.2.2 z
  rw[C6] at this;omega
def Src.rows:Src->List (List AV)
 | .d _ _ rows=>Bi rows
 | .a _ _ rows=>rows
 | .no=>[]
def Src.w:Src->Nat
 | .d _ k _| .a _ k _=>k
 | .no=>0
def Src.us:Src->List Nat
 | .d u _ _| .a u _ _=>u
 | .no=>[]
def mP{S:Ay}: ∀(l:List UInt8),B7 S 1 (Bi (l.map λb=>[D.int .u8 b.toNat])) (l.map λb=> .int .u8 b.toNat)
 |[]=>by simp only[Bi,BD,B7]
 |b::l=>by
  have:=mP (S:=S) l
  simp only[Bi,Bb,BD,B7,Cm,Dd,H9,Lg,Gf] at this⊢;refine⟨?_,⟨_,_,rfl,?_,trivial⟩,this⟩
  .first|trivial|rfl
  .simp only[Aa,rd]
def Uq{C:AZ}{S:Ay}(hW:Wf C S){h:Nat->Option Am}{X:AV}{v:Value}(hc:Aa S X v)(hu: ∀n∈(CP h X).us,S.h n=h n)(O:(CP h X).okOne)
 {z:Nat}(hz:z≠0)(Q:(CP h X).w=z\/(CP h X).rows=[])(aj:(CP h X).rows.length<=Jr):
 ∃L,(Builtin.lenOf v).run P S.w= .ok (CP h X).rows.length S.w/\(∀k,(Builtin.firstCells z (CP h X).rows.length v).run P {S.w with drawn:=k}= .ok L.toArray {S.w with drawn:=k})/\
  L.length=(CP h X).rows.length*z/\B7 S z (CP h X).rows L/\(∀v∈L,v.oneCell'=true)/\(CP h X).rows.length<=Jr:=by
 cases X<;>try exact O.elim
 case im d=>
  cases d<;>try exact O.elim
  case str s=>
   simp only[Aa,rd] at hc;subst hc;simp only[CP,Src.rows] at aj⊢;simp only[CP,Src.rows,Src.w] at Q;have ai:(Bi (Jl s)).length=s.size:=by simp only[Bi,Jl,Gh,EE];rfl
   refine⟨s.data.toList.map λb=> .int .u8 b.toNat,?_,λk=> ?_,?_,?_,?_,aj⟩
   .rw[ai];simp[Builtin.lenOf]
   .rw[ai]
    have:s.extract 0 s.size=s:=by simp
    simp only[Builtin.firstCells,this,Sem.run_pure];congr 1;apply Zl;simp
   .rw[Gh,<-Gh (f:=λb:UInt8=>[D.int .u8 b.toNat])];rcases Q with rfl|Q
    .simp[Bi,Jl]
    .have:Jl s=[]:=yR.1 Q
     simp only[Jl] at this;simp[Bi,Jl,this]
   .rcases Q with rfl|Q
    .exact mP _
    .have:Jl s=[]:=yR.1 Q
     rw[this];simp only[Bi,BD,B7]
   .intro v hv;obtain⟨b,_,rfl⟩:=Bn.1 hv;rfl
  rename_i nz k rows;simp only[CP,Src.rows,Src.w,Src.okOne] at O Q⊢;simp only[Aa,rd] at hc;rcases hc with ⟨rfl|⟨_,a,rfl⟩,rfl⟩|⟨b,p,cap,vs,T,fr,rfl,_,h2,h3,_,h5,h6⟩
  .exact⟨[],by simp[Builtin.lenOf,Bi],by simp[Builtin.firstCells],by simp[Bi],by simp[Bi,B7],by simp,by simp[Bi]⟩
  .refine⟨[],by simp[Builtin.lenOf,Bi],?_,by simp[Bi],by simp[Bi,B7],by simp,by simp[Bi]⟩;intro j;simp[Builtin.firstCells,Bi,loadCells,loadCellsFrom]
  .by_cases hr:rows=[]
   .subst hr;refine⟨[],by simp[Builtin.lenOf,Bi],?_,by simp[Bi],by simp[Bi,B7],by simp,by simp[Bi]⟩;intro j;simp[Builtin.firstCells,Bi,loadCells,loadCellsFrom]
   .have af:k=z:=by
     rcases Q with Q|Q
     .exact Q
     .simp[Bi] at Q;exact absurd Q hr
    subst af;have hl:=Qxq rows _ h6 hz;have aa:vs.toList.length=vs.size:=EE;have ad:=iA _ _ h6;have G:(Bi rows).length=rows.length:=by simp[Bi]
    refine⟨(vs.toList.drop p).take (rows.length*k),by simp[Builtin.lenOf,Bi],?_,?_,?_,?_,by rw[G];exact h3⟩
    .intro j;rw[G];refine gQ (w:={S.w with drawn:=j}) h5 ?_;by_cases am:p<=vs.size
     .rw[C6,aa] at hl;omega
     .have:0<rows.length*k:=Nat.mul_pos (rL.2 hr) (by omega)
      rw[C6,aa] at hl;omega
    .rw[Ck,G];omega
    .have:=uV _ _ ad (by rw[G];exact hl)
     rwa [G] at this
    .have:=oW _ _ (Qyt O) ad (by rw[G];exact hl)
     rwa [G] at this
 case own n=>
  simp only[CP] at O Q hu⊢;simp only[Aa] at hc;cases hn:h n with
  |none=>rw[hn] at O;exact O.elim
  |some e=>
  rw[hn] at O Q hu;obtain⟨mu,e⟩:=e;cases e<;>try exact O.elim
  case arr T k rows=>
   simp only[YS,Src.rows,Src.w,Src.okOne,Src.us] at O Q hu⊢;have hS:S.h n=_:=(hu n (by simp)).trans hn;have Z:=hW.obj _ _ hS;have hc:=hc.2 _ hS;have G:(Bi rows).length=rows.length:=by simp[Bi]
   cases hl0:S.ρ n with
   |none=>
    rw[hl0] at hc Z;simp only[An] at Z;obtain⟨_,rfl⟩:=Z;simp only at hc;subst hc;exact⟨[],by simp[Builtin.lenOf,Bi],by simp[Builtin.firstCells],by simp[Bi],by simp[Bi,B7],by simp,by simp[Bi]⟩
   |some l=>
    rw[hl0] at hc Z;simp only[An,Ac.len] at Z hc;subst hc;obtain⟨ab,ac,vs,hb,ai,hr⟩:=Z;by_cases ah:rows=[]
    .subst ah;refine⟨[],by simp[Builtin.lenOf,Bi],?_,by simp[Bi],by simp[Bi,B7],by simp,by simp[Bi]⟩;intro j;simp[Builtin.firstCells,Bi,loadCells,loadCellsFrom]
    .have af:k=z:=by
      rcases Q with Q|Q
      .exact Q
      .simp[Bi] at Q;exact absurd Q ah
     subst af;have ad:=iA _ _ hr;have ak:rows.length*k<=l.cap*k:=HC _ ac;have aa:vs.toList.length=vs.size:=EE;have ag:rows.length*k<=(vs.toList.drop l.p).length:=by rw[C6,aa];omega
     refine⟨(vs.toList.drop l.p).take (rows.length*k),by simp[Builtin.lenOf,Bi],?_,?_,?_,?_,by rw[G];exact ab⟩
     .intro j;rw[G];exact gQ (w:={S.w with drawn:=j}) hb (by omega)
     .rw[Ck,G];omega
     .have:=uV _ _ ad (by rw[G];exact ag)
      rwa [G] at this
     .have:=oW _ _ (Qyt O) ad (by rw[G];exact ag)
      rwa [G] at this
  case arrA T k rows=>
   simp only[YS,Src.rows,Src.w,Src.okOne,Src.us] at O Q hu⊢;have hS:S.h n=_:=(hu n (by simp)).trans hn;have Z:=hW.obj _ _ hS;have hc:=hc.2 _ hS;cases hl0:S.ρ n with
   |none=>
    rw[hl0] at hc Z;simp only[An] at Z;obtain⟨_,rfl⟩:=Z;simp only at hc;subst hc;exact⟨[],by simp[Builtin.lenOf],by simp[Builtin.firstCells],by simp,by simp[B7],by simp,by simp⟩
   |some l=>
    rw[hl0] at hc Z;simp only[An,Ac.len] at Z hc;subst hc;obtain⟨ab,ac,vs,hb,ai,hr⟩:=Z;by_cases ah:rows=[]
    .subst ah;refine⟨[],by simp[Builtin.lenOf],?_,by simp,by simp[B7],by simp,by simp⟩;intro j;simp[Builtin.firstCells,loadCells,loadCellsFrom]
    .have af:k=z:=by
      rcases Q with Q|Q
      .exact Q
      .exact absurd Q ah
     subst af;have ak:rows.length*k<=l.cap*k:=HC _ ac;have aa:vs.toList.length=vs.size:=EE;have ag:rows.length*k<=(vs.toList.drop l.p).length:=by rw[C6,aa];omega
     refine⟨(vs.toList.drop l.p).take (rows.length*k),by simp[Builtin.lenOf],?_,?_,?_,?_,ab⟩
     .intro j;exact gQ (w:={S.w with drawn:=j}) hb (by omega)
     .rw[Ck];omega
     .exact uV _ _ hr ag
     .exact oW _ _ O hr ag
end
def Qjh{S:Ay}{k:Nat}: ∀(rows:List (List D)) (L:List Value),B7 S k (Bi rows) L->rdr S.ok S.hp k rows L
 |[],_,_=>by simp only[rdr]
 |r::rows,L,h=>by
  simp only[Bi,Bb,B7] at h;simp only[rdr];exact⟨by simpa using h.1,(nJ _ _).1 h.2.1,Qjh rows _ h.2.2⟩
def XC{S S':Ay}{T k:Nat}{rows:List (List D)}{l:Option F2}(G:S'.ok=S.ok)(z:S'.hp=S.hp)(h:An S l (.arrA T k (Bi rows))):An S' l (.arr T k rows):=by
 simp only[An] at h⊢;refine⟨by simpa[Bi] using h.1,?_⟩;cases l with
 |none=>simpa[Bi] using h.2
 |some lc=>
  obtain⟨_,O,vs,Q,Z,h4⟩:=h;refine⟨by simpa[Bi] using O,vs,by rw[z];exact Q,Z,?_⟩;rw[G,z];exact Qjh _ _ h4
section
variable {P:Program}{tm:List (Nat×AV)}{h:Nat->Option Am}{nx:Nat}{o:Oper}{K:Ah}
def NP{T U e:TypeId}{z:TI}{s x:Operand}(hT:P.underlying T=some (.slice e))(hU:rX P U)(hE:tI P e=some z)
 {c:Call}(ho:o.op= .call c)(ad:c.callee= .builtin .append)(aa:c.args= #[s,x])(bq:c.argTypes= #[T,U])
 (ai:z.bytes≠0)(hz:z.zero.length=z.size)(Z:z.size≠0){u ks:List Nat}{rows0:List (List AV)}
 (az:(CP h (Ap tm x)).okOne)(hw:(CP h (Ap tm x)).w=z.size\/(CP h (Ap tm x)).rows=[])(a9: ∀n∈(CP h (Ap tm x)).us,n∈u++ks)
 (bd:(rows0.length+(CP h (Ap tm x)).rows.length+512)*z.bytes<=140737488355328)
 (hnm: ∀m∈Bx (rows0++(CP h (Ap tm x)).rows),∃n f,n∈u++ks/\h n=some f/\m∈f.2.nms)
 (ay:((∃k0,Ap tm s= .im (.sl true k0 []))/\rows0=[])\/(∃n f,Ap tm s= .own n/\n∈ks/\h n=some (true,f)/\((∃rows,f= .arr e z.size rows/\rows0=Bi rows)\/f= .arrA e z.size rows0)))
 {ea:Ac}(au:ea= .arrA e z.size (rows0++(CP h (Ap tm x)).rows)\/ ∃rows,ea= .arr e z.size rows/\Bi rows=rows0++(CP h (Ap tm x)).rows)
 (hk:K (.own nx) {use:=u,kill:=ks,new:=[(nx,(true,ea))],cnt:=1}):BM P tm h nx o K:=by
 refine⟨_,_,B6.one (u:=u) (ks:=ks) (.inl ⟨rfl,rfl⟩) ?_,hk⟩;intro C S a hW hu bg ag ah;have Q:=ah s (by rw[ho];simp[Op.operands,Call.operands,aa,ad]);have h2:=ah x (by rw[ho];simp[Op.operands,Call.operands,aa,ad]);have bi:(CP h (Ap tm x)).rows.length<=Jr:=by
  have be:z.bytes≠0:=ai
  have:(rows0.length+(CP h (Ap tm x)).rows.length+512)*1<=(rows0.length+(CP h (Ap tm x)).rows.length+512)*z.bytes:=Zeq _ (by omega)
  simp only[Jr];omega
 obtain⟨L,aw,af,an,bc,bb,bt⟩:=Uq hW h2 (λn hn=>hu n (a9 n hn)) az Z hw bi;have bn:=bg rfl;have am: ∃l0 A,a.eval s=fZ l0 rows0.length/\Z6 S e z.size rows0.length A l0/\
  (∀l,l0=some l-> ∃o f,o∈ks/\S.h o=some (true,f)/\S.ρ o=some l)/\B7 S z.size rows0 A/\rows0.length*z.size<=A.length:=by
  rcases ay with ⟨⟨k0,hs⟩,rfl⟩|⟨n,f,hs,ax,hf,av⟩
  .rw[hs] at Q;simp only[Aa,rd] at Q;rcases Q with ⟨Q,_⟩|⟨b,p,cap,vs,T,fr,_,bl,_⟩
   .have Q:=wU Q;exact⟨none,[],by rw[Q];rfl,⟨rfl,rfl⟩,(by intro l hl;cases hl),by simp only[B7],by simp⟩
   .exact absurd rfl (bl trivial)
  .rw[hs] at Q;have hS:S.h n=_:=(hu n (by simp[ax])).trans hf;have G:=hW.obj _ _ hS;simp only[Aa] at Q;have Q:=Q.2 _ hS;cases hl0:S.ρ n with
   |none=>
    rw[hl0] at Q G;simp only at Q
    have:rows0=[]:=by
     rcases av with ⟨rows,rfl,rfl⟩|rfl
     .simp only[An] at G;rw[G.2];rfl
     .simp only[An] at G;exact G.2
    subst this;exact⟨none,[],by rw[Q];rfl,⟨rfl,rfl⟩,(by intro l hl;cases hl),by simp only[B7],by simp⟩
   |some l=>
    rw[hl0] at Q G;simp only at Q;have ao:f.len=rows0.length/\rows0.length<=l.cap/\ ∃vs,S.hp l.b=some (.cells vs e (0,0))/\l.p+l.cap*z.size<=vs.size/\B7 S z.size rows0 (vs.toList.drop l.p):=by
     rcases av with ⟨rows,rfl,rfl⟩|rfl
     .simp only[An] at G;obtain⟨_,O,vs,hb,Z,hr⟩:=G;exact⟨by simp[Ac.len,Bi],by simpa[Bi] using O,vs,hb,Z,iA _ _ hr⟩
     .simp only[An] at G;obtain⟨_,O,vs,hb,Z,hr⟩:=G;exact⟨rfl,O,vs,hb,Z,hr⟩
    obtain⟨bf,O,vs,hb,Z,hr⟩:=ao;have bu:rows0.length*z.size<=l.cap*z.size:=HC _ O;have br:vs.toList.length=vs.size:=EE;refine⟨some l,vs.toList.drop l.p,by rw[Q,bf];rfl,⟨O,vs,hb,rfl,Z⟩,?_,hr,by rw[C6,br];omega⟩;intro l' bh;obtain rfl:=AB bh;exact⟨n,f,ax,hS,hl0⟩
 obtain⟨l0,A,hv,hA,aj,bp,ba⟩:=am;obtain⟨w',l',a0,bo,ac⟩:=NO hW (nx:=nx) (ks:=ks) (ty:=o.type) hT hE hU ai hz Z bd hA aw af an bb aj bn (λn f hf=>ag n f hf rfl);refine⟨fZ l' (rows0.length+(CP h (Ap tm x)).rows.length),w',l',.inl ?_,bo ea,?_⟩
 .simp only[execOp,ho,resolve,ad,aa,bq,Sem.run_bind,Sem.run_pure,Result.andThen_ok,invoke,builtin];simp[hv,a0]
 intro hp;have be:z.bytes≠0:=ai;have a8:rows0.length+(CP h (Ap tm x)).rows.length<=Jr:=by
  have:(rows0.length+(CP h (Ap tm x)).rows.length+512)*1<=(rows0.length+(CP h (Ap tm x)).rows.length+512)*z.bytes:=Zeq _ (by omega)
  simp only[Jr];omega
 have hX: ∀m∈Bx (rows0++(CP h (Ap tm x)).rows),S.h nx≠none\/m≠nx:=by
  intro m hm;obtain⟨n,f,bm,hf,bj⟩:=hnm m hm;right;rintro rfl;exact ag n f ((hu n bm).trans hf) rfl bj
 have ab:An (S.one nx ea l' ks w') l' (.arrA e z.size (rows0++(CP h (Ap tm x)).rows)):=by
  simp only[An,DZ];refine⟨a8,?_⟩;cases l' with
  |none=>
   simp only at ac⊢;rw[List.append_eq_nil_iff];exact⟨Vi.1 ac.1,Vi.1 ac.2⟩
  |some l=>
   obtain⟨h3,vs,R,h4,h5,h6⟩:=ac;refine⟨h3,vs,h4,h5,?_⟩;rw[h6];exact nQ hp _ _ _ hX (Qqs _ _ _ _ _ bp ba bc (by rw[an];exact AP _))
 have ak:ea.len=rows0.length+(CP h (Ap tm x)).rows.length:=by
  rcases au with rfl|⟨rows,rfl,hr⟩
  .simp[Ac.len]
  .simp only[Ac.len];rw[<-DZ,<-hr];simp[Bi]
 constructor
 .rcases au with rfl|⟨rows,rfl,hr⟩
  .exact ab
  .rw[<-hr] at ab;exact XC rfl rfl ab
 .simp only[Aa];refine⟨by cases l'<;>rfl,λe' aq=> ?_⟩;simp only[Ay.one,B5,AM] at aq⊢;subst aq;cases l' with
  |none=>rfl
  |some l=>simp only[fZ];rw[ak]
def iK(rows:List (List D)):Bx (Bi rows)=[]:=by
 induction rows with
 |nil=>rfl
 |cons r rows ih=>simp only[Bi,Bb,Bx,Qw0,Dj];exact ih
def oP: ∀(a b:List (List AV)),Bx (a++b)=Bx a++Bx b
 |[],_=>rfl
 |x::a,b=>by simp[Bx,oP a b]
def Pk{X:AV}{m:Nat}(z:m∈Bx (CP h X).rows): ∃n f,n∈(CP h X).us/\h n=some f/\m∈f.2.nms:=by
 cases X<;>try (simp only[CP,Src.rows,Bx] at z;cases z;done)
 case im d=>cases d<;>simp only[CP,Src.rows,iK,Bx] at z<;>cases z
 case own n=>
  simp only[CP] at z⊢;cases hn:h n with
  |none=>rw[hn] at z;simp only[YS,Src.rows,Bx] at z;cases z
  |some e=>
   rw[hn] at z;obtain⟨G,e⟩:=e;cases e<;>simp only[YS,Src.rows,iK,Bx] at z<;>try cases z
   refine⟨n,_,by simp[Src.us,YS],hn,z⟩
def Qab5{T U:TypeId}{s x:Operand}{c:Call}(ho:o.op= .call c)(ag:c.callee= .builtin .append)(ad:c.args= #[s,x])(am:c.argTypes= #[T,U])
 (z:Bh (vP P h nx (Ap tm s) (Ap tm x) T K) (tI P U)):BM P tm h nx o K:=by
 cases hU:tI P U with
 |none=>rw[hU] at z;exact z.elim
 |some ui=>
 rw[hU] at z;simp only[Bh,vP] at z;obtain⟨ah,z⟩:=z;have aj:rX P U:=by
  cases hu:ui.kind<;>rw[hu] at ah<;>simp only[TK.isSl,TK.isStr,Bool.or_self,dR,PI,CQ] at ah
  .exact .inr (Qh hU hu)
  .exact .inl ⟨_,P3 hU hu⟩
 cases hT:tI P T with
 |none=>rw[hT] at z;exact z.elim
 |some ti=>
 rw[hT] at z;simp only[Qsl] at z;cases hf:ti.kind<;>rw[hf] at z<;>try exact z.elim
 rename_i e;have ai:=P3 hT hf;simp only[apK] at z;cases hE:tI P e with
 |none=>rw[hE] at z;exact z.elim
 |some te=>
 rw[hE] at z;simp only[Bh,apE] at z;obtain⟨hz,hl,ak,Q,z⟩:=z;have ab: ∀{m:Nat},m∈Bx (CP h (Ap tm x)).rows-> ∃n f,n∈(CP h (Ap tm x)).us/\h n=some f/\m∈f.2.nms:=λZ=>Pk Z
 have G:= @NP P tm h nx o K T U e te s x ai aj hE c ho ag ad am ak hl hz;revert G;generalize CP h (Ap tm x)=src at z Q ab;intro G;cases hs:Ap tm s<;>rw[hs] at z<;>try exact z.elim
 case im d=>
  cases d<;>try exact z.elim
  rename_i nz k0 rows;cases nz<;>cases rows<;>try exact z.elim
  simp only[QR] at z;cases src with
  |no=>exact z.elim
  |d u k rows=>
   simp only[Nk] at z;obtain⟨O,hb,z⟩:=z;refine G (u:=u) (ks:=[]) (rows0:=[]) Q (O.imp id (λh=>by rw[h];rfl)) (by simp[Src.us]) (by simpa[Src.rows,Bi] using hb) ?_ (.inl ⟨⟨k0,hs⟩,rfl⟩) (.inr ⟨rows,rfl,by simp[Src.rows]⟩) z;intro m Z;simp only[Dj,Src.rows,iK] at Z;cases Z
  |a u k rows=>
   simp only[Nk] at z;obtain⟨O,hb,z⟩:=z;refine G (u:=u) (ks:=u) (rows0:=[]) Q (.inl O) (by simp[Src.us]) (by simpa[Src.rows] using hb) ?_ (.inl ⟨⟨k0,hs⟩,rfl⟩) (.inl (by simp[Src.rows])) z;intro m Z;obtain⟨n,f,hn,hf⟩:=ab Z;exact⟨n,f,by simp[Src.us] at hn;simp[hn],hf⟩
 case own n=>
  simp only[QR] at z;cases hn:h n with
  |none=>rw[hn] at z;exact z.elim
  |some ac=>
  rw[hn] at z;obtain⟨mu,ac⟩:=ac;cases mu<;>cases ac<;>try exact z.elim
  case true.arr U0 k0 rows0=>
   simp only[ID] at z;obtain⟨rfl,rfl,z⟩:=z;cases src with
   |no=>exact z.elim
   |d u k rows=>
    simp only[jS] at z;obtain⟨O,af,hb,z⟩:=z;refine G (u:=n::u) (ks:=[n]) (rows0:=Bi rows0) Q (O.imp id (λh=>by rw[h];rfl)) (by intro x hx;simp[Src.us] at hx;simp[hx]) (by simpa[Src.rows,Bi] using hb) ?_
     (.inr ⟨n,_,hs,by simp,hn,.inl ⟨rows0,rfl,rfl⟩⟩) (.inr ⟨rows0++rows,rfl,by simp[Src.rows,Bi]⟩) z
    intro m Z;simp only[Src.rows,oP,iK] at Z;cases Z
   |a u k rows=>
    simp only[jS] at z;obtain⟨O,af,hb,z⟩:=z;refine G (u:=n::u) (ks:=n::u) (rows0:=Bi rows0) Q (.inl O) (by intro x hx;simp[Src.us] at hx;simp[hx]) (by simpa[Src.rows,Bi] using hb) ?_
     (.inr ⟨n,_,hs,by simp,hn,.inl ⟨rows0,rfl,rfl⟩⟩) (.inl (by simp[Src.rows])) z
    intro m Z;simp only[oP,iK,Dj] at Z;obtain⟨n',f,aa,hf⟩:=ab Z;exact⟨n',f,by simp[Src.us] at aa;simp[aa],hf⟩
  case true.arrA U0 k0 rows0=>
   simp only[ID] at z;obtain⟨rfl,rfl,z⟩:=z;cases src with
   |no=>exact z.elim
   |d u k rows=>
    simp only[jR] at z;obtain⟨O,af,hb,z⟩:=z;refine G (u:=n::u) (ks:=[n]) (rows0:=rows0) Q (O.imp id (λh=>by rw[h];rfl)) (by intro x hx;simp[Src.us] at hx;simp[hx]) (by simpa[Src.rows,Bi] using hb) ?_
     (.inr ⟨n,_,hs,by simp,hn,.inr rfl⟩) (.inl (by simp[Src.rows])) z
    intro m Z;simp only[Src.rows,oP,iK,D6] at Z;exact⟨n,_,by simp,hn,Z⟩
   |a u k rows=>
    simp only[jR] at z;obtain⟨O,af,hb,z⟩:=z;refine G (u:=n::u) (ks:=n::u) (rows0:=rows0) Q (.inl O) (by intro x hx;simp[Src.us] at hx;simp[hx]) (by simpa[Src.rows] using hb) ?_
     (.inr ⟨n,_,hs,by simp,hn,.inr rfl⟩) (.inl (by simp[Src.rows])) z
    intro m Z;simp only[oP,Bz] at Z;rcases Z with Z|Z
    .exact⟨n,_,by simp,hn,Z⟩
    .obtain⟨n',f,aa,hf⟩:=ab Z;exact⟨n',f,by simp[Src.us] at aa;simp[aa],hf⟩
end
def Qx9{ok:Nat->Prop}{hp:Nat->Option Obj}: ∀(ds:List (D×D)) (es:List MapEntry),Cw ok hp ds es->es.length=ds.length
 |[],_,h=>by simp only[Cw] at h;simp[h]
 |(x,y)::ds,_,h=>by
  simp only[Cw] at h;obtain⟨e,r,rfl,_,_,z⟩:=h;simp[Qx9 ds r z]
def P2{P:Program}{w:World}{b:Nat}{es:Array MapEntry}{clock:Nat}(h:w.heap[b]? =some (.map es clock)):(getObj b).run P w= .ok (.map es clock) w:=by
 simp[getObj,Sem.run,h]
section
variable {P:Program}{w:World}{T e k:TypeId}
def VY(x y:Value):Op.equal T x y=Op.equalIn (9999+1) T x y:=rfl
def Kx(z:P.underlying T=some (.slice e))(d:Nat)(b:Option Addr)(n c:Nat):(Op.equalIn (d+1) T (.slice b n c) (.slice none 0 0)).run P w= .ok b.isNone w:=by
 cases b<;>simp[Op.equalIn,run_underlying z]
def Qx1(z:P.underlying T=some (.pointer e))(d:Nat)(b:Option Addr):(Op.equalIn (d+1) T (.pointer b) (.pointer none)).run P w= .ok b.isNone w:=by
 cases b<;>simp[Op.equalIn,run_underlying z]
def Kw(z:P.underlying T=some (.map k e))(d:Nat)(b:Option Nat):(Op.equalIn (d+1) T (.map b) (.map none)).run P w= .ok b.isNone w:=by
 cases b<;>simp[Op.equalIn,run_underlying z]
end
def kF(tm:List (Nat×AV))(h:Nat->Option Am)(o:Oper):Prop:=
 ∃u:List Nat,∀(C:AZ) (S:Ay) (a:Act),Wf C S->(∀n∈u,S.h n=h n)->(∀x∈o.op.operands,Aa S (Ap tm x) (a.eval x))->False
def Kh(P:Program)(tm:List (Nat×AV))(h:Nat->Option Am)(nx:Nat)(o:Oper)(K:Ah):Prop:=
 ∀(C:AZ) (S:Ay) (a:Act) (next:Act->World->Prop) (Q:Exit->Act->World->Prop),
  Wf C S->(∀n,S.h n=h n)->(∀n,nx<=n->S.h n=none)->(∀n e,S.h n=some e-> ∀m∈e.2.nms,m<nx)->
  (∀x∈o.op.operands,Aa S (Ap tm x) (a.eval x))->
  (∀r E v S',K r E->Wf C S'->S'.h=E.appf S.h->BE (λm=> ¬Fr nx E.cnt m) S S'->Aa S' r v->next (a.put o.dst v) S'.w)->
  o.wp P a S.w next Q
abbrev Wy(P:Program)(z:Bool)(tm:List (Nat×AV))(h:Nat->Option Am)(nx:Nat)(o:Oper)(K:Ah):Prop:=
 BM P tm h nx o K\/(z=true/\(kF tm h o\/Kh P tm h nx o K))
section
variable {P:Program}{tm:List (Nat×AV)}{h:Nat->Option Am}{nx:Nat}{o:Oper}{K:Ah}
def YR{T:TypeId}{x:Operand}{c:Call}{u:List Nat}{n:Nat}(ho:o.op= .call c)(G:c.callee= .builtin .len)(z:c.args= #[x])(Z:c.argTypes= #[T])
 (Q: ∀(C:AZ) (S:Ay) (v:Value),Wf C S->(∀n∈u,S.h n=h n)->Aa S (Ap tm x) v->(Builtin.len_ #[T] o.type #[v]).run P S.w= .ok (.int .i64 n) S.w)
 (hk:FF K {use:=u} n):BM P tm h nx o K:=by
 refine⟨_,_,B6.pure (u:=u) ?_,hk⟩;intro C S a hW hu O;have h1:=O x (by rw[ho];simp[Op.operands,Call.operands,z,G]);refine⟨.int .i64 n,?_,by simp only[Aa,rd]⟩;simp only[execOp,ho,resolve,G,z,Z,Sem.run_bind,Sem.run_pure,Result.andThen_ok,invoke,builtin];simp[Q C S _ hW hu h1]
def Qq0{z:Bool}{B:Prop}(O:(z=true->B)->BM P tm h nx o K)(Q: ¬B->kF tm h o):Wy P z tm h nx o K:=by
 by_cases G:B
 .exact .inl (O λ_=>G)
 .cases z
  .exact .inl (O λh=>by cases h)
  .exact .inr ⟨rfl,.inl (Q G)⟩
def Yf{sq:Bool}{T:TypeId}{x:Operand}{c:Call}(ho:o.op= .call c)(Q:c.callee= .builtin .len)(O:c.args= #[x])(aa:c.argTypes= #[T])
 (z:Bh (dC sq h (Ap tm x) K) (tI P T)):Wy P sq tm h nx o K:=by
 have aj:x∈o.op.operands:=by rw[ho];simp[Op.operands,Call.operands,O,Q]
 cases hT:tI P T with
 |none=>rw[hT] at z;exact z.elim
 |some ti=>
 rw[hT] at z;simp only[Bh,dC] at z;cases hf:ti.kind<;>rw[hf] at z<;>try exact z.elim
 case slice e=>
  have hu:=P3 hT hf;simp only[Fk] at z;cases hx:Ap tm x<;>rw[hx] at z<;>try exact z.elim
  case im d=>
   cases d<;>try exact z.elim
   rename_i nz k rows;simp only[cW] at z;refine Qq0 (B:=rows.length<=140737488355328) (λhb=>YR (u:=[]) ho Q O aa ?_ (z hb)) λhb=>⟨[],?_⟩
   .intro C S v hW _ G;rw[hx] at G;simp only[Aa,rd] at G;rcases G with ⟨rfl|⟨_,a,rfl⟩,rfl⟩|⟨b,p,cap,vs,T,fr,rfl,_⟩<;>simp[Builtin.len_,underlying,hu,goInt]
   .intro C S a hW _ ad;have h1:=ad x aj;rw[hx] at h1;simp only[Aa,rd] at h1;rcases h1 with ⟨_,rfl⟩|⟨b,p,cap,vs,T,fr,_,_,_,h3,_⟩
    .simp at hb
    .exact hb h3
  case own n=>
   simp only[cW] at z;cases hn:h n with
   |none=>rw[hn] at z;exact z.elim
   |some Z=>
   rw[hn] at z;obtain⟨mu,Z⟩:=Z;have af: ∀{rl:Nat},Z.len=rl->(∀(S:Ay) l,An S l Z->rl<=140737488355328)->((sq=true->rl<=140737488355328)->FF K {use:=[n]} rl)->(∀(S:Ay),An S none Z->rl=0)->
    Wy P sq tm h nx o K:=by
    intro rl hl ak z ai;refine Qq0 (B:=rl<=140737488355328) (λhb=>YR (u:=[n]) ho Q O aa ?_ (z hb)) λhb=>⟨[n],?_⟩
    .intro C S v hW ab G;rw[hx] at G;simp only[Aa] at G;have hS:=(ab n (by simp)).trans hn;have G:=G.2 _ hS;cases hl0:S.ρ n with
     |none=>
      have ac:=hW.obj _ _ hS;rw[hl0] at G ac;simp only at G;subst G
      have:=ai S ac
      simp[Builtin.len_,underlying,hu,goInt,this]
     |some l=>
      rw[hl0] at G;simp only[hl] at G;subst G;simp[Builtin.len_,underlying,hu,goInt]
    .intro C S a hW ab ad;have hS:=(ab n (by simp)).trans hn;exact hb (ak S _ (hW.obj _ _ hS))
   cases Z<;>try exact z.elim
   case arr T0 k rows=>
    exact af rfl (λS l ho=>by simp only[An] at ho;exact ho.1) z (λS ho=>by simp only[An] at ho;rw[ho.2];rfl)
   case arrA T0 k rows=>
    exact af rfl (λS l ho=>by simp only[An] at ho;exact ho.1) z (λS ho=>by simp only[An] at ho;rw[ho.2];rfl)
  case osl n wa wn=>
   simp only[cW] at z;cases hn:h n with
   |none=>rw[hn] at z;exact z.elim
   |some Z=>
   rw[hn] at z;refine .inl (YR (u:=[n]) ho Q O aa ?_ z);intro C S v hW ab G;rw[hx] at G;simp only[Aa] at G;have hS:=(ab n (by simp)).trans hn;have G:=G.2 _ hS;unfold P1 at G;cases hl0:S.ρ n with
   |none=>
    rw[hl0] at G;obtain⟨rfl,rfl⟩:=G;simp[Builtin.len_,underlying,hu,goInt]
   |some l=>
    rw[hl0] at G;obtain⟨p,cp,rfl,_⟩:=G;simp[Builtin.len_,underlying,hu,goInt]
 case str=>
  have hu:=Qh hT hf;simp only[Fk] at z;cases hx:Ap tm x<;>rw[hx] at z<;>try exact z.elim
  rename_i d;cases d<;>try exact z.elim
  refine .inl (YR (u:=[]) ho Q O aa ?_ z);intro C S v hW _ G;rw[hx] at G;simp only[Aa,rd] at G;subst G;simp[Builtin.len_,underlying,hu,goInt]
 case map k e=>
  have hu:=iW hT hf;simp only[Fk] at z;cases hx:Ap tm x<;>rw[hx] at z<;>try exact z.elim
  case im d=>
   cases d<;>try exact z.elim
   case nilm=>
    refine .inl (YR (u:=[]) ho Q O aa ?_ z);intro C S v hW _ G;rw[hx] at G;simp only[Aa,rd] at G;subst G;simp[Builtin.len_,underlying,hu,goInt]
   case mp kt es=>
    refine .inl (YR (u:=[]) ho Q O aa ?_ z);intro C S v hW _ G;rw[hx] at G;simp only[Aa,rd] at G;obtain⟨b,ah,ag,rfl,_,_,h5,h6,_⟩:=G;have hl:=Qx9 _ _ h6;simp only[EE] at hl;simp[Builtin.len_,underlying,hu,goInt,P2 (w:=S.w) h5,hl]
  case mp n=>
   simp only[qF] at z;cases hn:h n with
   |none=>rw[hn] at z;exact z.elim
   |some Z=>
   rw[hn] at z;obtain⟨mu,Z⟩:=Z;cases Z<;>try exact z.elim
   refine .inl (YR (u:=[n]) ho Q O aa ?_ z);intro C S v hW ab G;rw[hx] at G;simp only[Aa] at G;have hS:=(ab n (by simp)).trans hn;obtain⟨l,hl,rfl⟩:=G.2 _ hS;have ac:=hW.obj _ _ hS;simp only[An] at ac;obtain⟨lc,ah,ag,h1,_,h5,h6,_⟩:=ac;rw[hl] at h1;obtain rfl:=AB h1;have hl:=Qx9 _ _ h6;simp only[EE] at hl;simp[Builtin.len_,underlying,hu,goInt,P2 (w:=S.w) h5,hl]
def cG{op:BinOp}{T U:TypeId}{x y:Operand}{u:List Nat}{b:Bool}(ho:o.op= .binOp op T x y U)(Z:op= .eql\/op= .neq){z:Value}(hy:y= .const z)
 (Q:z= .slice none 0 0\/z= .pointer none\/z= .map none)
 (O: ∀(C:AZ) (S:Ay) (v:Value),Wf C S->(∀n∈u,S.h n=h n)->Aa S (Ap tm x) v->(∀k n,v≠ .int k n)/\(∀k n,v≠ .float k n)/\(∀k n m,v≠ .complex k n m)/\(∀s,v≠ .string s)/\(Op.equal T v z).run P S.w= .ok b S.w)
 (hk:K (.im (.bool ((decide (op= .neq)) !=b))) {use:=u}):BM P tm h nx o K:=by
 refine⟨_,_,B6.pure (u:=u) ?_,hk⟩;intro C S a hW hu G;have h1:=G x (by rw[ho];simp[Op.operands]);obtain⟨hi,hf,hc,hs,hr⟩:=O C S _ hW hu h1;refine⟨.bool (decide (op= .neq) !=b),?_,by simp only[Aa,rd]⟩;have hg:(eqGuard op T x y (a.eval x) z).run P S.w= .ok () S.w:=by
  rcases Q with rfl|rfl|rfl<;>rcases Z with rfl|rfl<;>simp[eqGuard]
 have hb:(binOp op T (a.eval x) z).run P S.w= .ok (.bool (decide (op= .neq) !=b)) S.w:=by
  have hq:(Op.equal T (a.eval x) z).run P S.w= .ok b S.w:=hr;clear hr hg G h1 O hk hu;generalize a.eval x=v at*;rcases Z with rfl|rfl
  .have:binOp .eql T v z=(do pure (.bool (<-Op.equal T v z))):=by
    rcases Q with rfl|rfl|rfl<;>cases v<;>first|rfl|exact absurd rfl (hi _ _)|exact absurd rfl (hf _ _)|exact absurd rfl (hc _ _ _)|exact absurd rfl (hs _)
   rw[this];simp[hq]
  .have:binOp .neq T v z=(do pure (.bool (!(<-Op.equal T v z)))):=by
    rcases Q with rfl|rfl|rfl<;>cases v<;>first|rfl|exact absurd rfl (hi _ _)|exact absurd rfl (hf _ _)|exact absurd rfl (hc _ _ _)|exact absurd rfl (hs _)
   rw[this];simp[hq]
 have aa:a.eval y=z:=by rw[hy];rfl
 simp only[execOp,ho,aa,Sem.run_bind,hg,Result.andThen_ok,hb,Sem.run_pure]
def ZR{op:BinOp}{T U:TypeId}{x y:Operand}{m:Nat}(ho:o.op= .binOp op T x y U)(hm:Fl y=m+1)(ac:m<=2)(hk:Bh (iN h op (Ap tm x) K m) (tI P T)):BM P tm h nx o K:=by
 cases hT:tI P T with
 |none=>rw[hT] at hk;exact hk.elim
 |some ti=>
 rw[hT] at hk;simp only[Bh] at hk;have O:op= .eql\/op= .neq:=by cases op<;>first|exact .inl rfl|exact .inr rfl|exact hk.elim
 have z:Wn h (decide (op= .neq)) K (Ap tm x) m ti.kind:=by rcases O with rfl|rfl<;>exact hk
 have Z: ∃nv,y= .const nv/\((m=0/\nv= .slice none 0 0)\/(m=1/\nv= .pointer none)\/(m=2/\nv= .map none)):=by
  cases y<;>simp only[Fl,reduceCtorEq] at hm<;>try (cases hm;done)
  rename_i v;refine⟨v,rfl,?_⟩;unfold FH at hm;split at hm
  .exact .inl ⟨by omega,rfl⟩
  .exact .inr (.inl ⟨by omega,rfl⟩)
  .exact .inr (.inr ⟨by omega,rfl⟩)
  .omega
  .omega
 obtain⟨nv,Z,ab⟩:=Z;clear hk;rcases ab with ⟨rfl,rfl⟩|⟨rfl,rfl⟩|⟨rfl,rfl⟩<;>cases hf:ti.kind<;>rw[hf] at z<;>try exact z.elim
 .have Q:=P3 hT hf;simp only[Wn] at z;cases hx:Ap tm x<;>rw[hx] at z<;>try exact z.elim
  rename_i d;cases d<;>try exact z.elim
  rename_i nz k rows;cases nz<;>try exact z.elim
  refine cG (u:=[]) ho O Z (.inl rfl) ?_ z;intro C S v hW _ G;rw[hx] at G;simp only[Aa,rd] at G;rcases G with ⟨h0,rfl⟩|⟨b,p,cap,vs,T,fr,rfl,h2,_⟩
  .rw[wU h0];simp[VY,Kx Q 9999]
  .have ad:rows≠[]:=h2 trivial
   have:rows.isEmpty=false:=by cases rows<;>simp_all
   simp[VY,Kx Q 9999,this]
 .have Q:=gJ hT hf;simp only[Wn] at z;cases hx:Ap tm x<;>rw[hx] at z<;>try exact z.elim
  case im d=>
   cases d<;>try exact z.elim
   .refine cG (u:=[]) ho O Z (.inr (.inl rfl)) ?_ z;intro C S v hW _ G;rw[hx] at G;simp only[Aa,rd] at G;subst G;simp[VY,Qx1 Q 9999]
   .refine cG (u:=[]) ho O Z (.inr (.inl rfl)) ?_ z;intro C S v hW _ G;rw[hx] at G;simp only[Aa,rd] at G;obtain⟨b,p,vs,T,fr,rfl,_⟩:=G;simp[VY,Qx1 Q 9999]
  all_goals
   obtain⟨⟨e',he⟩,z⟩:=cH z;refine cG (b:=false) ho O Z (.inr (.inl rfl)) ?_ (by simpa using z);intro C S v hW aa G;rw[hx] at G;simp only[Aa] at G;obtain⟨l,_,rfl⟩:=G.2 e' ((aa _ (by simp)).trans he);simp[VY,Qx1 Q 9999]
 .have Q:=iW hT hf;simp only[Wn] at z;cases hx:Ap tm x<;>rw[hx] at z<;>try exact z.elim
  case im d=>
   cases d<;>try exact z.elim
   .refine cG (u:=[]) ho O Z (.inr (.inr rfl)) ?_ z;intro C S v hW _ G;rw[hx] at G;simp only[Aa,rd] at G;subst G;simp[VY,Kw Q 9999]
   .refine cG (u:=[]) ho O Z (.inr (.inr rfl)) ?_ z;intro C S v hW _ G;rw[hx] at G;simp only[Aa,rd] at G;obtain⟨b,p,vs,rfl,_⟩:=G;simp[VY,Kw Q 9999]
  all_goals
   obtain⟨⟨e',he⟩,z⟩:=cH z;refine cG (b:=false) ho O Z (.inr (.inr rfl)) ?_ (by simpa using z);intro C S v hW aa G;rw[hx] at G;simp only[Aa] at G;obtain⟨l,_,rfl⟩:=G.2 e' ((aa _ (by simp)).trans he);simp[VY,Kw Q 9999]
end
end Go.Ae
