/- Lemmas. Conditions: none. -/
import Derived.Test.YtelbgmfdnnljoabGreatDoorP01
import Derived.IntWalk
set_option linter.all false
set_option maxHeartbeats 8000000
set_option maxRecDepth 100000
namespace Go.Ae
def Qrv(z:List Value)(Q:z≠[]): ∀n,(List.range (n*z.length)).map (λi=>z[i % z.length]!)=Cl n z
 |0=>by simp[Cl]
 |n+1=>by
  have h0:0<z.length:=vJ.2 Q;rw[DB,Fk,mZ,List.range_add,DX,Hu];simp only[Cl];congr 1
  .apply List.ext_getElem
   .simp
   .intro i Z O;simp only[List.getElem_map,ZeB]
    have:i % z.length=i:=ZeN O
    rw[this,getElem!_pos z i O]
  .rw[<-Qrv z Q n];apply Gb;intro i _;simp
def Qxx(a:Array Value)(i:Nat):a[i]! =a.toList[i]! :=by
 by_cases z:i<a.size
 .rw[getElem!_pos a i z,getElem!_pos a.toList i (by simpa using z)];simp
 .rw[getElem!_neg a i z,getElem!_neg a.toList i (by simpa using z)]
def Qzv{α:Type}(z:List α): ∀n,(Cl n z).length=n*z.length
 |0=>by simp[Cl]
 |n+1=>by simp[Cl,Qzv z n,DB];omega
def oQ{α β:Type}(f:α->β)(z:List α): ∀n,(Cl n z).map f=Cl n (z.map f)
 |0=>rfl
 |n+1=>by simp[Cl,oQ f z n]
def Nj{ok:Nat->Prop}{hp:Nat->Option Obj}: ∀(a:List D) (x:List Value) (b:List D) (y:List Value),rdl ok hp a x->rdl ok hp b y->rdl ok hp (a++b) (x++y)
 |[],x,b,y,h,z=>by simp only[rdl] at h;subst h;simpa using z
 |d::a,x,b,y,h,z=>by
  simp only[rdl] at h;obtain⟨v,r,rfl,O,Q⟩:=h;simp only[BO,rdl];exact⟨v,_,rfl,O,Nj a r b y Q z⟩
def Qop{S:A7}: ∀(a:List AV) (x:List Value) (b:List AV) (y:List Value),AO S a x->AO S b y->AO S (a++b) (x++y)
 |[],x,b,y,h,z=>by simp only[AO] at h;subst h;simpa using z
 |d::a,x,b,y,h,z=>by
  simp only[AO] at h;obtain⟨v,r,rfl,O,Q⟩:=h;simp only[BO,AO];exact⟨v,_,rfl,O,Qop a r b y Q z⟩
def Qy7{ok:Nat->Prop}{hp:Nat->Option Obj}{z:List D}{x:List Value}(h:rdl ok hp z x): ∀n,rdl ok hp (Cl n z) (Cl n x)
 |0=>by simp[Cl,rdl]
 |n+1=>Nj _ _ _ _ h (Qy7 h n)
def eQ{α:Type}(k:Nat): ∀(n:Nat) (l:List α),(IH k n l).length=n
 |0,_=>rfl
 |n+1,l=>by simp[IH,eQ k n]
def Qq5{ok:Nat->Prop}{hp:Nat->Option Obj}(k:Nat): ∀(n:Nat) (ds:List D) (vs:List Value),rdp ok hp ds vs->ds.length=n*k->rdr ok hp k (IH k n ds) vs
 |0,_,_,_,_=>by simp only[IH,rdr]
 |n+1,ds,vs,h,O=>by
  rw[DB,Fk] at O;simp only[IH,rdr];obtain⟨Q,z⟩:=VS k ds vs h (by omega);refine⟨by rw[Cu];omega,?_,Qq5 k n _ _ (Q6 k ds vs h (by omega)) (by rw[CI];omega)⟩
  have:=tP _ _ (vs.drop k) (Xr _ _ z)
  rwa [RG] at this
def Qms{S:A7}(k:Nat): ∀(n:Nat) (ds:List AV) (vs:List Value),Cz S ds vs->ds.length=n*k->BG S k (IH k n ds) vs
 |0,_,_,_,_=>by simp only[IH,BG]
 |n+1,ds,vs,h,O=>by
  rw[DB,Fk] at O;simp only[IH,BG];obtain⟨Q,z⟩:=Xd k ds vs h (by omega);refine⟨by rw[Cu];omega,?_,Qms k n _ _ (lE k ds vs h (by omega)) (by rw[CI];omega)⟩
  have:=lO _ _ (vs.drop k) (Xe _ _ z)
  rwa [RG] at this
def Qn6(k:Nat)(x:Nat): ∀(n:Nat) (ds:List AV),x∈B8 (IH k n ds)->x∈Au ds
 |0,_,h=>by simp[IH,B8] at h
 |n+1,ds,h=>by
  have z: ∀(a b:List AV),Au (a++b)=Au a++Au b:=by
   intro a b;induction a with
   |nil=>rfl
   |cons y a ih=>simp[Au,ih]
  simp only[IH,B8,B7] at h
  have:=z (ds.take k) (ds.drop k)
  rw[RG] at this;rw[this,B7];rcases h with h|h
  .exact .inl h
  .exact .inr (Qn6 k x n _ h)
section
variable {P:Program}{tm:List (Nat×AV)}{h:Nat->Option Am}{nx:Nat}{o:Oper}{K:Ah}
def Qrh(a b:List AV):Au (a++b)=Au a++Au b:=by
 induction a with
 |nil=>rfl
 |cons y a ih=>simp[Au,ih]
def P2(n:Nat)(a:List AV): ∀m∈Au (a.take n),m∈Au a:=by
 intro m z
 have:=Qrh (a.take n) (a.drop n)
 rw[RG] at this;rw[this,B7];exact .inl z
def P1(n:Nat)(a:List AV): ∀m∈Au (a.drop n),m∈Au a:=by
 intro m z
 have:=Qrh (a.take n) (a.drop n)
 rw[RG] at this;rw[this,B7];exact .inr z
def Qvz(x:AV): ∀m∈Au x.cells,m∈x.nms:=by
 cases x<;>simp only[AV.cells]<;>intro m z
 case im d=>rw[Qw0] at z;cases z
 case agg cs=>simpa[AV.nms] using z
 all_goals simp[Au,AV.nms] at z⊢
 all_goals exact z
def Qyu(O: ∀x,∀m∈(Ay tm x).nms,m≠nx)(Z:Nat->Option (Nat×Nat)): ∀(ps:List (Nat×Operand)) (cs r:List AV),Ij Z (Kj tm ps) (some cs)=some r->
 (∀m∈Au cs,m≠nx)-> ∀m∈Au r,m≠nx
 |[],cs,r,h,Q=>by simp only[Kj,Ij,AN] at h;subst h;exact Q
 |(i,x)::ps,cs,r,h,Q=>by
  simp only[Kj,Ij] at h;cases hf:aQ cs (Ay tm x).cells (Z i) with
  |none=>rw[hf] at h;exact (Qjy _ _ h).elim
  |some us=>
   rw[hf] at h;refine Qyu O Z ps us r h ?_;cases hp:Z i with
   |none=>rw[hp] at hf;simp[aQ] at hf
   |some q=>
    rw[hp] at hf;simp only[aQ] at hf;generalize ((Ay tm x).cells.length==q.2 && (Nat.blt 0 q.2 && Nat.ble (q.1+q.2) cs.length))=bb at hf;cases bb
    .simp at hf
    .simp only[Cg,AN] at hf;subst hf;intro m z;simp only[Ch,Qrh,B7] at z;rcases z with (z|z)|z
     .exact Q m (P2 _ _ m z)
     .exact O x m (Qvz _ m z)
     .exact Q m (P1 _ _ m z)
def Qp8{T:TypeId}{n:Nat}{ps:Array (Nat×Operand)}(ho:o.op= .buildSlice T n ps)(O:Bn (yG P nx n (Kj tm ps.toList) K) (tI P T))
 (ak: ∀x,∀m∈(Ay tm x).nms,m≠nx):BY P tm h nx o K:=by
 cases hT:tI P T with
 |none=>rw[hT] at O;exact O.elim
 |some ti=>
 rw[hT] at O;simp only[Bn,yG] at O;cases hf:ti.kind<;>rw[hf] at O<;>try exact O.elim
 rename_i e;have hu:=Q5 hT hf;simp only[bsK] at O;cases hE:tI P e with
 |none=>rw[hE] at O;exact O.elim
 |some te=>
 rw[hE] at O;simp only[Bn,bsE] at O;obtain⟨hl,hz,av,O⟩:=O;have hn:n<=JT:=by
  have:=Nat.le_mul_of_pos_right n (Nat.pos_of_ne_zero hz)
  simp only[JT];omega
 obtain⟨z,ao,aq,an⟩:=eU hE hl hz
 have am:z.cells.toList≠[]:=by intro hh;have:z.cells.size=0:=by rw[<-Fi,hh];rfl
                               omega
 rw[<-oQ] at O;cases hfl:Ij (JF te.size) (Kj tm ps.toList) (some ((Cl n te.zero).map .im)) with
 |none=>rw[hfl] at O;exact O.elim
 |some cs=>
 rw[hfl] at O;simp only[Me] at O;have hbel:=Qyu ak _ ps.toList _ cs hfl (by rw[Qw0];intro m hm;cases hm);have ac: ∀(C:Bb) (S:A7) (a:Act),Wf C S->(∀x∈o.op.operands,Aa S (Ay tm x) (a.eval x))->
  ∃us:Array Value,(execOp a.eval o).run P S.w= .ok (.value (.slice (some ⟨S.w.heap.size,0,none⟩) n n)) (S.w.alloc (.cells us e))/\AO S cs us.toList/\cs.length=n*te.size:=by
  intro C S a hW Q;have au:((Array.range (n*te.size)).map λi=>z.cells[i % z.cells.size]!).toList=Cl n z.cells.toList:=by
   rw[<-Qrv _ am n,Wr,Zez,Fi,aq];apply Gb;intro i _;exact Qxx _ _
  obtain⟨us,ah,hr,aj⟩:=yW (S:=S) (a:=a) (place:=λi=>some (i*te.size,te.size)) (λi q hq=>hq) ps.toList _ cs
   ((Array.range (n*te.size)).map λi=>z.cells[i % z.cells.size]!) hfl (by rw[au];exact (IW _ _).2 (Qy7 (an _ _) n))
   (by intro p hp
       refine Q p.2 ?_;rw[ho];simp only[Op.operands];simp;exact⟨p.1,by simpa using hp⟩)
  refine⟨us,?_,hr,by rw[aj];simp[Qzv,hl]⟩;simp only[execOp,ho,Instr.buildSlice,Sem.run_bind];rw[show (underlying T).run P S.w= .ok (.slice e) S.w from by simp[underlying,hu]];simp only[Result.andThen_ok,Sem.run_bind,Jh hE];rw[Af (by omega)];by_cases af:n*te.size=0
  .simp only[af,BD,pure_bind];simp only[af] at ah
   have:((Array.range 0).map λi=>(#[]:Array Value)[i % (#[]:Array Value).size]!)=(Array.range 0).map λi=>z.cells[i % z.cells.size]! :=by simp
   rw[this];have ab:(ps.map λ(i,x)=>(i,a.eval x)).toList=ps.toList.map λp=>(p.1,a.eval p.2):=by simp
   rw[ab,ah];simp[newRow]
  .simp only[af,CO,Sem.run_bind,ao,Result.andThen_ok,Sem.run_pure];have ab:(ps.map λ(i,x)=>(i,a.eval x)).toList=ps.toList.map λp=>(p.1,a.eval p.2):=by simp
   rw[ab,ah];simp[newRow]
 cases hai:DA cs with
 |none=>
  rw[hai] at O;simp only[Ju] at O;refine⟨_,_,BE.one (u:=[]) (ks:=[]) (.inl ⟨rfl,rfl⟩) ?_,O⟩;intro C S a hW _ ad hnm Q;obtain⟨us,hr,Z,hcl⟩:=ac C S a hW Q;refine⟨_,_,some ⟨S.w.heap.size,0,n⟩,.inl hr,VX (w':=S.w.alloc (.cells us e)) (ob:= .cells us e) rfl rfl rfl rfl (ad rfl) (λn f hf=>hnm n f hf rfl),?_⟩;intro hp;have ag:=Jf _ _ Z;constructor
  .simp only[Ao];refine⟨by rw[eQ];exact hn,by rw[eQ];exact AU _,us,aO rfl,by simp at ag;omega,?_⟩;rw[GJ];exact rY hp _ _ _ (λm hm=> .inr (hbel m (Qn6 _ _ _ _ hm))) (Qms _ _ _ _ (Xe _ _ Z) hcl)
  .simp only[Aa];refine⟨rfl,λe' aa=> ?_⟩;have hh:(S.one nx (.arrA e te.size (IH te.size n cs)) (some ⟨S.w.heap.size,0,n⟩) [] (S.w.alloc (.cells us e))).ρ nx=some ⟨S.w.heap.size,0,n⟩:=by simp[A7.one]
   rw[hh];simp only[A7.one,BD,AN] at aa;subst aa;simp[Ac.len,eQ]
 |some ds=>
  rw[hai] at O;simp only[Ju] at O;refine⟨_,_,BE.one (u:=[]) (ks:=[]) (.inl ⟨rfl,rfl⟩) ?_,O⟩;intro C S a hW _ ad hnm Q;obtain⟨us,hr,Z,hcl⟩:=ac C S a hW Q;refine⟨_,_,some ⟨S.w.heap.size,0,n⟩,.inl hr,VX (w':=S.w.alloc (.cells us e)) (ob:= .cells us e) rfl rfl rfl rfl (ad rfl) (λn f hf=>hnm n f hf rfl),?_⟩;intro hp;have ag:=Jf _ _ Z;rw[lM hai] at Z hcl;have ai:=LF hp.ok _ _ ((IW _ _).1 Z);constructor
  .simp only[Ao];refine⟨by rw[eQ];exact hn,by rw[eQ];exact AU _,us,aO rfl,by simp[lM hai] at ag hcl;simp;omega,?_⟩;rw[GJ];exact Qq5 _ _ _ _ (Xr _ _ ai) (by simpa using hcl)
  .simp only[Aa];refine⟨rfl,λe' aa=> ?_⟩;have hh:(S.one nx (.arr e te.size (IH te.size n ds)) (some ⟨S.w.heap.size,0,n⟩) [] (S.w.alloc (.cells us e))).ρ nx=some ⟨S.w.heap.size,0,n⟩:=by simp[A7.one]
   rw[hh];simp only[A7.one,BD,AN] at aa;subst aa;simp[Ac.len,eQ]
end
def Qwm(n:Nat): ∀(r c:Nat),c<=2*(n+512)->Builtin.growBy n r c<=2*(n+512)
 |0,c,h=>by simpa[Builtin.growBy] using h
 |r+1,c,h=>by
  simp only[Builtin.growBy];split
  .exact h
  .exact Qwm n r _ (by omega)
def Qabm(n old:Nat)(h:old<n):Builtin.nextslicecap n old<=2*(n+512):=by
 unfold Builtin.nextslicecap;split
 .omega
 .split
  .omega
  .exact Qwm n 4 old (by omega)
def Qqs{S:A7}{k:Nat}: ∀(rows0 rows:List (List AV)) (A L R:List Value),BG S k rows0 A->rows0.length*k<=A.length->BG S k rows L->
 rows.length*k<=L.length->BG S k (rows0++rows) (A.take (rows0.length*k)++(L++R))
 |[],rows,A,L,R,z,O,h,Q=>by
  simp only[Ip,Kf,E5,Dg];clear z O A;induction rows generalizing L with
  |nil=>simp only[BG]
  |cons r rows ih=>
   simp only[BG,Dx,DB,Fk] at h Q⊢;refine⟨h.1,lO _ _ _ h.2.1,?_⟩
   have:=ih (L.drop k) h.2.2 (by rw[CI];omega)
   rwa [Zdm (by omega)]
 |r::rows0,rows,A,L,R,h0,hA,h,Q=>by
  simp only[BG,Dx,DB,Fk,BO] at h0 hA⊢;have ih:=Qqs rows0 rows (A.drop k) L R h0.2.2 (by rw[CI];omega) h Q;have e:A.take (rows0.length*k+k)=A.take k++(A.drop k).take (rows0.length*k):=by rw[<-gX];congr 1;omega
  have hk:(A.take k).length=k:=by rw[Cu];omega
  rw[e,Ka];refine⟨h0.1,?_,?_⟩
  .obtain⟨_,h5⟩:=Xd k r A h0.2.1 (by omega);have Z:=Xe _ _ h5;rw[F9 (by omega)] at Z;exact lO _ _ _ Z
  .rw[Wk,DY (by omega),hk,Ke];simpa using ih
def lN{S:A7}{k:Nat}: ∀(rows:List (List D)) (L:List Value),rdr S.ok S.hp k rows L->BG S k (Bo rows) L
 |[],_,_=>by simp only[Bo,BF,BG]
 |r::rows,L,h=>by
  simp only[rdr] at h;simp only[Bo,Be,BG];exact⟨by simpa using h.1,(rP _ _).2 h.2.1,lN rows _ h.2.2⟩
def M8{S:A7}{k:Nat}: ∀(rows:List (List D)) (L:List Value),BG S k (Bo rows) L->rdr S.ok S.hp k rows L
 |[],_,_=>by simp only[rdr]
 |r::rows,L,h=>by
  simp only[Bo,Be,BG] at h;simp only[rdr];exact⟨by simpa using h.1,(rP _ _).1 h.2.1,M8 rows _ h.2.2⟩
section
variable {P:Program}{w:World}
def lB{b p:Nat}{vs:Array Value}{U:TypeId}{Z:Nat×Nat}(hb:w.heap[b]? =some (.cells vs U Z)){n:Nat}(hn:p+n<=vs.size):
 (loadCells ⟨b,p,none⟩ n).run P w= .ok ((vs.toList.drop p).take n).toArray w:=by
 have Q: ∀j v,((vs.toList.drop p).take n)[j]? =some v->w.cell? ((⟨b,p,none⟩:Addr).add j)=some v:=by
  intro j v z;rw[O3,Qyp hb];rw[ZeA] at z;split at z
  .rw[XC] at z;simpa using z
  .cases z
 have hl:((vs.toList.drop p).take n).length=n:=by rw[Cu,CI];simp;omega
 have O:=run_loadCells_list (P:=P) w ⟨b,p,none⟩ _ Q;rwa [hl] at O
def vV(P:Program)(z:TypeId):Prop:=(∃O,P.underlying z=some (.slice O))\/P.underlying z=some .string
def qC{t:TypeId}{d:TypeDesc}{w:World}(h:P.underlying t=some d):(underlying t).run P w= .ok d w:=by simp[underlying,h]
def Qo9{sT uT e ty:TypeId}{te:TI}(hs:P.underlying sT=some (.slice e))(hE:tI P e=some te)(O:vV P uT)
 {base:Option Addr}{sLen sCap n:Nat}{x:Value}{L:List Value}(Z:(Builtin.lenOf x).run P w= .ok n w)(z:(Builtin.firstCells te.size n x).run P w= .ok L.toArray w)
 (Q:sLen+n<=sCap):(Builtin.append_ #[sT,uT] ty #[.slice base sLen sCap,x]).run P w=
  ((match base with|some a=>storeCells (a.add (sLen*te.size)) L|none=>pure ())>>=λ_=>(pure (.slice base (sLen+n) sCap):Sem Value)).run P w:=by
 refine O.elim (λ⟨u2,O⟩=> ?_) (λO=> ?_)
 all_goals
  have h1:(underlying sT).run P w= .ok (.slice e) w:=by simp[underlying,hs]
  have h2:=λw=>qC (w:=w) O
  unfold Builtin.append_;simp only[Zdq,Iq,QH,Sem.run_bind,h1,Result.andThen_ok,Jh hE,h2];simp only[Sem.run_pure,Result.andThen_ok,Df,CO,Z,Sem.run_ite,Ai Q,Sem.run_bind,z,Wm,BD];cases base<;>simp
def Qo8{sT uT e ty:TypeId}{O:TI}(hs:P.underlying sT=some (.slice e))(hE:tI P e=some O)(Z:vV P uT)(af:O.bytes≠0)
 (hz:O.zero.length=O.size)(ah:O.size≠0)
 {base:Option Addr}{sLen sCap n:Nat}{x:Value}{L old:List Value}(ac:(Builtin.lenOf x).run P w= .ok n w)(Q: ∀k,(Builtin.firstCells O.size n x).run P {w with drawn:=k}= .ok L.toArray {w with drawn:=k})
 (ad: ∀k,(Builtin.firstCells O.size sLen (.slice base sLen sCap)).run P {w with drawn:=k}= .ok old.toArray {w with drawn:=k})
 (aa: ¬sLen+n<=sCap)(am:(sLen+n+512)*O.bytes<=140737488355328): ∃cap R,sLen+n<=cap/\R.length=(cap - (sLen+n))*O.size/\
  (Builtin.append_ #[sT,uT] ty #[.slice base sLen sCap,x]).run P w= .ok (.slice (some ⟨w.heap.size,0,none⟩) (sLen+n) cap) (World.alloc {w with drawn:=w.drawn+1} (.cells (old++L++R).toArray e)):=by
 refine Z.elim (λ⟨u2,Z⟩=> ?_) (λZ=> ?_)
 all_goals
  have h1: ∀w:World,(underlying sT).run P w= .ok (.slice e) w:=by intro w;simp[underlying,hs]
  have h2:=λw=>qC (w:=w) Z
  obtain⟨z,aj,ak,ao⟩:=eU hE hz ah;obtain⟨i,u,hi,hu,an,ab,_⟩:=O4 hE;have ai: ∀w:World,(typeInfo e).run P w= .ok i w:=by intro w;simp[typeInfo,hi]
  refine⟨(Question.appendCap (sLen+n) sCap e).cut (w.tape w.drawn (.appendCap (sLen+n) sCap e)),(Builtin.zeroCells z.cells ((Question.appendCap (sLen+n) sCap e).cut (w.tape w.drawn (.appendCap (sLen+n) sCap e)) - (sLen+n))).toList,?_,?_,?_⟩
  .simp only[Question.cut];omega
  .simp[Builtin.zeroCells,ak]
  have ag: ¬(Builtin.nextslicecap (sLen+n) sCap*i.bytes>2^48):=by
   rw[<-ab];have h3:=Qabm (sLen+n) sCap (by omega);have h4:=Iu O.bytes h3;have h5:2*(sLen+n+512)*O.bytes=2*((sLen+n+512)*O.bytes):=ZeK _ _ _;omega
  unfold Builtin.append_;simp only[Zdq,Iq,QH,Sem.run_bind,h1,Result.andThen_ok,Jh hE,h2];simp only[Sem.run_pure,Result.andThen_ok,Df,CO,ac,Sem.run_ite,Af aa,Sem.run_bind,ai,Wm,BD,false_or];rw[Af (by rw[<-ab];exact λhh=>af hh.2),Af ag];simp only[run_choose,Question.forced,Df,CO,Result.andThen_ok,run_askRoom,ad,Q,aj];simp only[newRow,Sem.run_bind,run_newObj,Result.andThen_ok,Sem.run_pure];rw[show (old++L++(Builtin.zeroCells z.cells ((Question.appendCap (sLen+n) sCap e).cut (w.tape w.drawn (.appendCap (sLen+n) sCap e)) - (sLen+n))).toList).toArray=
   old.toArray++L.toArray++Builtin.zeroCells z.cells ((Question.appendCap (sLen+n) sCap e).cut (w.tape w.drawn (.appendCap (sLen+n) sCap e)) - (sLen+n)) from by apply bG;simp]
  rfl
end
def Qx7{ok:Nat->Prop}{hp:Nat->Option Obj}{z:List D}{x:List Value}(h:rdl ok hp z x): ∀(n m:Nat),n<=m->rdr ok hp z.length (List.replicate n z) (Cl m x)
 |0,_,_=>by simp only[List.replicate_zero,rdr]
 |n+1,0,Q=>by omega
 |n+1,m+1,Q=>by
  have O:=fO _ _ h;simp only[Zep,Cl,rdr];refine⟨trivial,tP _ _ _ (Xr _ _ h),?_⟩;rw[Wk,DY (by omega),O,Ke];simpa using Qx7 h n m (by omega)
section
variable {P:Program}{tm:List (Nat×AV)}{h:Nat->Option Am}{nx:Nat}{o:Oper}{K:Ah}
def Qrx{T:TypeId}{x y:Operand}(ho:o.op= .makeSlice T x y)(O:Bn (yP P nx (Ay tm x) (Ay tm y) K) (tI P T)):BY P tm h nx o K:=by
 cases hT:tI P T with
 |none=>rw[hT] at O;exact O.elim
 |some ti=>
 rw[hT] at O;simp only[Bn,yP] at O;cases hf:ti.kind<;>rw[hf] at O<;>try exact O.elim
 rename_i e;have hu:=Q5 hT hf;have au: ∃n m,Ay tm x= .im (.int .i64 n)/\Ay tm y= .im (.int .i64 m)/\Bn (msE nx e n m K) (tI P e):=by
  revert O;generalize Ay tm x=X;generalize Ay tm y=Y;intro O;cases X<;>try exact O.elim
  rename_i d;cases d<;>try exact O.elim
  rename_i k n;cases k<;>try exact O.elim
  cases Y<;>try exact O.elim
  rename_i d;cases d<;>try exact O.elim
  rename_i k m;cases k<;>try exact O.elim
  exact⟨_,_,rfl,rfl,O⟩
 obtain⟨n,m,hx,hy,O⟩:=au;cases hE:tI P e with
 |none=>rw[hE] at O;exact O.elim
 |some te=>
 rw[hE] at O;simp only[Bn,msE] at O;obtain⟨hz,ay,hnm,hm,aw,hl,O⟩:=O;obtain⟨z,an,ao,am⟩:=eU hE hl hz;obtain⟨i,u,hi,az,ax,ag,_⟩:=O4 hE;have ak:z.cells.toList≠[]:=by
  intro hh
  have:z.cells.size=0:=by rw[<-Fi,hh];rfl
  omega
 have aq:((Array.range (m.toNat*te.size)).map λi=>z.cells[i % z.cells.size]!).toList=Cl m.toNat z.cells.toList:=by
  rw[<-Qrv _ ak m.toNat,Wr,Zez,Fi,ao];apply Gb;intro i _;exact Qxx _ _
 refine⟨_,_,BE.one (u:=[]) (ks:=[]) (.inl ⟨rfl,rfl⟩) ?_,O⟩;intro C S a hW _ af ab Q;have h1:=Q x (by rw[ho];simp[Op.operands]);have h2:=Q y (by rw[ho];simp[Op.operands]);rw[hx] at h1;rw[hy] at h2;simp only[Aa,rd] at h1 h2;have ad:(execOp a.eval o).run P S.w= .ok (.value (.slice (some ⟨S.w.heap.size,0,none⟩) n.toNat m.toNat))
  (S.w.alloc (.cells ((Array.range (m.toNat*te.size)).map λi=>z.cells[i % z.cells.size]!) e)):=by
  have av:(i.bytes:Int)*m<=2^48:=by
   rw[<-ag];have h3:(te.bytes:Int)*m<=65536*m:=ZdZ (by omega) (by omega);omega
  have aj:IntKind.i64.wrap n=n:=IntWalk.i64_in n (by omega);have ai:IntKind.i64.wrap m=m:=IntWalk.i64_in m (by omega);simp only[execOp,ho,h1,h2,Instr.makeSlice,Sem.run_bind];rw[show (underlying T).run P S.w= .ok (.slice e) S.w from by simp[underlying,hu]];have ah:(typeInfo e).run P S.w= .ok i S.w:=by simp[typeInfo,hi]
  simp only[Result.andThen_ok,asInt,asIntOf,Sem.run_bind,Sem.run_pure,ah,aj,ai];have ac:((decide (m<0)||decide ((i.bytes:Int)*m>2^48))||decide (n<0)||decide (n>m))=false:=by
   simp only[Zfe,Kd];omega
  rw[ac];simp only[Df,CO,Sem.run_bind,run_askRoom,Result.andThen_ok,Jh hE,Sem.run_ite,an,newRow,run_newObj,Sem.run_pure];by_cases aa:m.toNat*te.size=0
  .have:((Array.range 0).map λi=>(#[]:Array Value)[i % (#[]:Array Value).size]!)=(Array.range 0).map λi=>z.cells[i % z.cells.size]! :=by simp
   simp only[aa,BD,Result.andThen_ok,this];simp
  .simp only[aa,CO,Result.andThen_ok];simp
 refine⟨_,_,some ⟨S.w.heap.size,0,m.toNat⟩,.inl ad,VX (w':=S.w.alloc (.cells _ e)) (ob:= .cells _ e) rfl rfl rfl rfl (af rfl) (λn f hf=>ab n f hf rfl),?_⟩;intro hp;constructor
 .simp only[Ao];refine⟨by simp[JT];omega,by simp;omega,_,aO rfl,by simp,?_⟩;rw[GJ,aq,<-hl];exact Qx7 (am _ _) _ _ (by omega)
 .simp only[Aa];refine⟨rfl,λe' Z=> ?_⟩;simp only[A7.one,BD,AN] at Z⊢;subst Z;simp[Ac.len]
end
def kF(l:Option FS)(n:Nat):Value:=match l with|none=> .slice none 0 0|some l=> .slice (some ⟨l.b,l.p,none⟩) n l.cap
def cD(S:A7)(e z sLen:Nat)(A:List Value):Option FS->Prop
 |none=>sLen=0/\A=[]
 |some l=>sLen<=l.cap/\ ∃O,S.hp l.b=some (.cells O e (0,0))/\A=O.toList.drop l.p/\l.p+l.cap*z<=O.size
section
variable {P:Program}
def ON{C:Bb}{S:A7}(hW:Wf C S){nx:Nat}{ks:List Nat}{sT uT e ty:TypeId}{z:TI}(hs:P.underlying sT=some (.slice e))(hE:tI P e=some z)
 (ad:vV P uT)(an:z.bytes≠0)(hz:z.zero.length=z.size)(av:z.size≠0){sLen n:Nat}(ak:(sLen+n+512)*z.bytes<=140737488355328)
 {l0:Option FS}{A:List Value}(hA:cD S e z.size sLen A l0)
 {x:Value}{L:List Value}(Z:(Builtin.lenOf x).run P S.w= .ok n S.w)(O: ∀k,(Builtin.firstCells z.size n x).run P {S.w with drawn:=k}= .ok L.toArray {S.w with drawn:=k})
 (hL:L.length=n*z.size)(au: ∀v∈L,v.oneCell'=true)(ah: ∀l,l0=some l-> ∃o f,o∈ks/\S.h o=some (true,f)/\S.ρ o=some l)
 (ab:S.h nx=none)(aa: ∀n f,S.h n=some f->nx∉f.2.nms):
 ∃w' l',(Builtin.append_ #[sT,uT] ty #[kF l0 sLen,x]).run P S.w= .ok (kF l' (sLen+n)) w'/\(∀ea,KF S nx ea l' ks w')/\
  match l' with|none=>sLen=0/\n=0|some l=>sLen+n<=l.cap/\ ∃vs R,w'.heap[l.b]? =some (.cells vs e (0,0))/\l.p+l.cap*z.size<=vs.size/\
   vs.toList.drop l.p=A.take (sLen*z.size)++(L++R):=by
 have ac:{S.w with drawn:=S.w.drawn}=S.w:=rfl;cases l0 with
 |none=>
  obtain⟨h0,hA⟩:=hA;subst h0 hA;by_cases hn:n=0
  .subst hn;have aw:L=[]:=Wj.1 (by simpa using hL);subst aw;refine⟨S.w,none,?_,λea=>Ql6 ab aa,rfl,rfl⟩
   have:=Qo9 (P:=P) (w:=S.w) (ty:=ty) hs hE ad (base:=none) (sLen:=0) (sCap:=0) Z (by have:=O S.w.drawn;rwa [ac] at this) (by omega)
   simpa[kF] using this
  .obtain⟨cap,R,h1,h2,h3⟩:=Qo8 (P:=P) (w:=S.w) (ty:=ty) hs hE ad an hz av (base:=none) (sLen:=0) (sCap:=0) (old:=[]) Z O (by intro k;simp[Builtin.firstCells]) (by omega) ak;refine⟨_,some ⟨S.w.heap.size,0,cap⟩,h3,λea=>VX (w':=World.alloc {S.w with drawn:=S.w.drawn+1} (.cells ([]++L++R).toArray e)) (ob:= .cells ([]++L++R).toArray e) rfl rfl rfl rfl ab aa,h1,([]++L++R).toArray,R,by simp[World.alloc],?_,by simp⟩;have h4:n*z.size+(cap - (0+n))*z.size=cap*z.size:=by rw[<-DB];congr 1;omega
   rw[FN] at h2 h4;simp[hL,h2];omega
 |some l=>
  obtain⟨af,vs,hb,ag,a0⟩:=hA;have a8:A.length=vs.size - l.p:=by rw[ag];simp
  by_cases Q:sLen+n<=l.cap
  .have az:sLen*z.size+n*z.size<=l.cap*z.size:=by rw[<-DB];exact Iu _ Q
   obtain⟨w',h1,h2,h3,h4,h5⟩:=Qf9 (P:=P) (w:=S.w) (b:=l.b) (p:=l.p+sLen*z.size) (T:=e) L 0 vs au (by rw[hL];omega) hb;obtain⟨o,f,ao,ai,aj⟩:=ah l rfl;have am:=(hW.loc o _ l ai aj).1;refine⟨w',some l,?_,?_,Q,(Ch vs.toList (l.p+sLen*z.size+0) L).toArray,A.drop (sLen*z.size+L.length),?_,?_,?_⟩
   .have:=Qo9 (P:=P) (w:=S.w) (ty:=ty) hs hE ad (base:=some ⟨l.b,l.p,none⟩) (sLen:=sLen) (sCap:=l.cap) Z (by have:=O S.w.drawn;rwa [ac] at this) Q
    simp only[O3,Sem.run_bind,h1,Result.andThen_ok,Sem.run_pure] at this;simpa[kF] using this
   .intro ea;refine⟨h3,h4,h5.1,h5.2,by rw[h2];simp,?_,.inr ab,?_,?_,λn f hf _=>aa n f hf⟩
    .intro b a9 ay
     have:=ay o f l ao ai aj
     rw[h2,gS,Af this]
    .intro lo ax;obtain rfl:=AJ ax;exact⟨by rw[h2];simpa using am,.inr ⟨o,f,l,ao,ai,aj,rfl⟩⟩
    .intro f hf;rw[ab] at hf;cases hf
   .rw[h2];simp[am]
   .simp[Ch,Cu,CI];omega
   .rw[Gc,Zeq,yL _ _ _ _ (by simp;omega),<-ag];simp[Ch]
  .have aq: ∀k,(Builtin.firstCells z.size sLen (.slice (some ⟨l.b,l.p,none⟩) sLen l.cap)).run P {S.w with drawn:=k}= .ok (A.take (sLen*z.size)).toArray {S.w with drawn:=k}:=by
    intro k;have az:sLen*z.size<=l.cap*z.size:=Iu _ af;rw[ag];exact lB (w:={S.w with drawn:=k}) hb (by omega)
   obtain⟨cap,R,h1,h2,h3⟩:=Qo8 (P:=P) (w:=S.w) (ty:=ty) hs hE ad an hz av (base:=some ⟨l.b,l.p,none⟩) (sLen:=sLen) (sCap:=l.cap) Z O aq Q ak;refine⟨_,some ⟨S.w.heap.size,0,cap⟩,h3,λea=>VX (w':=World.alloc {S.w with drawn:=S.w.drawn+1} (.cells (A.take (sLen*z.size)++L++R).toArray e)) (ob:= .cells (A.take (sLen*z.size)++L++R).toArray e) rfl rfl rfl rfl ab aa,h1,(A.take (sLen*z.size)++L++R).toArray,R,by simp[World.alloc],?_,by simp⟩;have h4:sLen*z.size+n*z.size+(cap - (sLen+n))*z.size=cap*z.size:=by rw[<-DB,<-DB];congr 1;omega
   have h5:sLen*z.size<=l.cap*z.size:=Iu _ af;simp[hL,h2,Cu];omega
def tB{S:A7}{k:Nat}: ∀(rows:List (List AV)) (L:List Value),Bj R5 rows->BG S k rows L->rows.length*k<=L.length-> ∀v∈L.take (rows.length*k),v.oneCell'=true
 |[],L,_,_,_=>by simp
 |r::rows,L,Q,h,Z=>by
  simp only[BG] at h;simp only[Dx,DB,Fk] at Z⊢;have e:L.take (rows.length*k+k)=L.take k++(L.drop k).take (rows.length*k):=by rw[<-gX];congr 1;omega
  rw[e];intro v z;rcases B7.1 z with z|z
  .obtain⟨_,O⟩:=Xd k r L h.2.1 (by omega);rw[F9 (ZeZ h.1)] at O;exact lA r _ (Q r (by simp)) O v z
  .exact tB rows _ (λx hx=>Q x (by simp[hx])) h.2.2 (by rw[CI];omega) v z
def Qsa: ∀(r:List D),Bm r=true->R5 (r.map .im)=true
 |[],_=>rfl
 |x::r,h=>by
  simp only[Bm,AY] at h;simp only[Be,R5,AV.one,AY];exact⟨h.1,Qsa r h.2⟩
def Qyt{rows:List (List D)}(h:Bj Bm rows):Bj R5 (Bo rows):=by
 intro r z;simp only[Bo,Bl] at z;obtain⟨x,O,rfl⟩:=z;exact Qsa x (h x O)
def Qrl{ok:Nat->Prop}{hp:Nat->Option Obj}{k:Nat}: ∀(rows:List (List D)) (L:List Value),rdr ok hp k rows L->rows.length*k<=L.length->rdr ok hp k rows (L.take (rows.length*k))
 |[],_,_,_=>by simp only[rdr]
 |r::rows,L,h,Q=>by
  simp only[rdr,Dx,DB,Fk] at h Q⊢;refine⟨h.1,?_,?_⟩
  .obtain⟨_,O⟩:=VS k r L h.2.1 (by omega);have z:=Xr _ _ O;rw[F9 (by omega)] at z;have e:L.take (rows.length*k+k)=L.take k++(L.drop k).take (rows.length*k):=by rw[<-gX];congr 1;omega
   rw[e];exact tP _ _ _ z
  .rw[Zfg]
   have:=Qrl rows _ h.2.2 (by rw[CI];omega)
   rwa [show rows.length*k+k - k=rows.length*k from by omega]
def yV{S:A7}{k:Nat}: ∀(rows:List (List AV)) (L:List Value),BG S k rows L->rows.length*k<=L.length->BG S k rows (L.take (rows.length*k))
 |[],_,_,_=>by simp only[BG]
 |r::rows,L,h,Q=>by
  simp only[BG,Dx,DB,Fk] at h Q⊢;refine⟨h.1,?_,?_⟩
  .obtain⟨_,O⟩:=Xd k r L h.2.1 (by omega);have z:=Xe _ _ O;rw[F9 (by omega)] at z;have e:L.take (rows.length*k+k)=L.take k++(L.drop k).take (rows.length*k):=by rw[<-gX];congr 1;omega
   rw[e];exact lO _ _ _ z
  .rw[Zfg]
   have:=yV rows _ h.2.2 (by rw[CI];omega)
   rwa [show rows.length*k+k - k=rows.length*k from by omega]
def Qxq{ok:Nat->Prop}{hp:Nat->Option Obj}{k:Nat}: ∀(rows:List (List D)) (L:List Value),rdr ok hp k rows L->k≠0->rows.length*k<=L.length
 |[],_,_,_=>by simp
 |r::rows,L,h,z=>by
  simp only[rdr,Dx,DB,Fk] at h⊢;obtain⟨O,_⟩:=VS k r L h.2.1 (by omega)
  have:=Qxq rows _ h.2.2 z
  rw[CI] at this;omega
def Src.rows:Src->List (List AV)
 | .d _ _ rows=>Bo rows
 | .a _ _ rows=>rows
 | .no=>[]
def Src.w:Src->Nat
 | .d _ k _| .a _ k _=>k
 | .no=>0
def Src.us:Src->List Nat
 | .d u _ _| .a u _ _=>u
 | .no=>[]
def qA{S:A7}: ∀(l:List UInt8),BG S 1 (Bo (l.map λb=>[D.int .u8 b.toNat])) (l.map λb=> .int .u8 b.toNat)
 |[]=>by simp only[Bo,BF,BG]
 |b::l=>by
  have:=qA (S:=S) l
  simp only[Bo,Be,BF,BG,Cz,Dx,Ip,LO,GJ] at this⊢;refine⟨?_,⟨_,_,rfl,?_,trivial⟩,this⟩
  .first|trivial|rfl
  .simp only[Aa,rd]
def Vs{C:Bb}{S:A7}(hW:Wf C S){h:Nat->Option Am}{X:AV}{v:Value}(hc:Aa S X v)(hu: ∀n∈(De h X).us,S.h n=h n)(Q:(De h X).okOne)
 {z:Nat}(hz:z≠0)(Z:(De h X).w=z\/(De h X).rows=[])(ak:(De h X).rows.length<=JT):
 ∃L,(Builtin.lenOf v).run P S.w= .ok (De h X).rows.length S.w/\(∀k,(Builtin.firstCells z (De h X).rows.length v).run P {S.w with drawn:=k}= .ok L.toArray {S.w with drawn:=k})/\
  L.length=(De h X).rows.length*z/\BG S z (De h X).rows L/\(∀v∈L,v.oneCell'=true)/\(De h X).rows.length<=JT:=by
 cases X<;>try exact Q.elim
 case im d=>
  cases d<;>try exact Q.elim
  case str s=>
   simp only[Aa,rd] at hc;subst hc;simp only[De,Src.rows] at ak⊢;simp only[De,Src.rows,Src.w] at Z;have aj:(Bo (JO s)).length=s.size:=by simp only[Bo,JO,GL,Fi];rfl
   refine⟨s.data.toList.map λb=> .int .u8 b.toNat,?_,λk=> ?_,?_,?_,?_,ak⟩
   .rw[aj];simp[Builtin.lenOf]
   .rw[aj]
    have:s.extract 0 s.size=s:=by simp
    simp only[Builtin.firstCells,this,Sem.run_pure];congr 1;apply bG;simp
   .rw[GL,<-GL (f:=λb:UInt8=>[D.int .u8 b.toNat])];rcases Z with rfl|Z
    .simp[Bo,JO]
    .have:JO s=[]:=ZdG.1 Z
     simp only[JO] at this;simp[Bo,JO,this]
   .rcases Z with rfl|Z
    .exact qA _
    .have:JO s=[]:=ZdG.1 Z
     rw[this];simp only[Bo,BF,BG]
   .intro v hv;obtain⟨b,_,rfl⟩:=Bl.1 hv;rfl
  rename_i nz k rows;simp only[De,Src.rows,Src.w,Src.okOne] at Q Z⊢;simp only[Aa,rd] at hc;rcases hc with ⟨rfl|⟨_,a,rfl⟩,rfl⟩|⟨b,p,cap,vs,T,fr,rfl,_,h2,h3,_,h5,h6⟩
  .exact⟨[],by simp[Builtin.lenOf,Bo],by simp[Builtin.firstCells],by simp[Bo],by simp[Bo,BG],by simp,by simp[Bo]⟩
  .refine⟨[],by simp[Builtin.lenOf,Bo],?_,by simp[Bo],by simp[Bo,BG],by simp,by simp[Bo]⟩;intro j;simp[Builtin.firstCells,Bo,loadCells,loadCellsFrom]
  .by_cases hr:rows=[]
   .subst hr;refine⟨[],by simp[Builtin.lenOf,Bo],?_,by simp[Bo],by simp[Bo,BG],by simp,by simp[Bo]⟩;intro j;simp[Builtin.firstCells,Bo,loadCells,loadCellsFrom]
   .have ag:k=z:=by
     rcases Z with Z|Z
     .exact Z
     .simp[Bo] at Z;exact absurd Z hr
    subst ag;have hl:=Qxq rows _ h6 hz;have ab:vs.toList.length=vs.size:=Fi;have af:=lN _ _ h6;have O:(Bo rows).length=rows.length:=by simp[Bo]
    refine⟨(vs.toList.drop p).take (rows.length*k),by simp[Builtin.lenOf,Bo],?_,?_,?_,?_,by rw[O];exact h3⟩
    .intro j;rw[O];refine lB (w:={S.w with drawn:=j}) h5 ?_;by_cases an:p<=vs.size
     .rw[CI,ab] at hl;omega
     .have:0<rows.length*k:=Nat.mul_pos (vJ.2 hr) (by omega)
      rw[CI,ab] at hl;omega
    .rw[Cu,O];omega
    .have:=yV _ _ af (by rw[O];exact hl)
     rwa [O] at this
    .have:=tB _ _ (Qyt Q) af (by rw[O];exact hl)
     rwa [O] at this
 case own n=>
  simp only[De] at Q Z hu⊢;simp only[Aa] at hc;cases hn:h n with
  |none=>rw[hn] at Q;exact Q.elim
  |some e=>
  rw[hn] at Q Z hu;obtain⟨mu,e⟩:=e;cases e<;>try exact Q.elim
  case arr T k rows=>
   simp only[aM,Src.rows,Src.w,Src.okOne,Src.us] at Q Z hu⊢;have hS:S.h n=_:=(hu n (by simp)).trans hn;have aa:=hW.obj _ _ hS;have hc:=hc.2 _ hS;have O:(Bo rows).length=rows.length:=by simp[Bo]
   cases hl0:S.ρ n with
   |none=>
    rw[hl0] at hc aa;simp only[Ao] at aa;obtain⟨_,rfl⟩:=aa;simp only at hc;subst hc;exact⟨[],by simp[Builtin.lenOf,Bo],by simp[Builtin.firstCells],by simp[Bo],by simp[Bo,BG],by simp,by simp[Bo]⟩
   |some l=>
    rw[hl0] at hc aa;simp only[Ao,Ac.len] at aa hc;subst hc;obtain⟨ac,ad,vs,hb,aj,hr⟩:=aa;by_cases ai:rows=[]
    .subst ai;refine⟨[],by simp[Builtin.lenOf,Bo],?_,by simp[Bo],by simp[Bo,BG],by simp,by simp[Bo]⟩;intro j;simp[Builtin.firstCells,Bo,loadCells,loadCellsFrom]
    .have ag:k=z:=by
      rcases Z with Z|Z
      .exact Z
      .simp[Bo] at Z;exact absurd Z ai
     subst ag;have af:=lN _ _ hr;have am:rows.length*k<=l.cap*k:=Iu _ ad;have ab:vs.toList.length=vs.size:=Fi;have ah:rows.length*k<=(vs.toList.drop l.p).length:=by rw[CI,ab];omega
     refine⟨(vs.toList.drop l.p).take (rows.length*k),by simp[Builtin.lenOf,Bo],?_,?_,?_,?_,by rw[O];exact ac⟩
     .intro j;rw[O];exact lB (w:={S.w with drawn:=j}) hb (by omega)
     .rw[Cu,O];omega
     .have:=yV _ _ af (by rw[O];exact ah)
      rwa [O] at this
     .have:=tB _ _ (Qyt Q) af (by rw[O];exact ah)
      rwa [O] at this
  case arrA T k rows=>
   simp only[aM,Src.rows,Src.w,Src.okOne,Src.us] at Q Z hu⊢;have hS:S.h n=_:=(hu n (by simp)).trans hn;have aa:=hW.obj _ _ hS;have hc:=hc.2 _ hS;cases hl0:S.ρ n with
   |none=>
    rw[hl0] at hc aa;simp only[Ao] at aa;obtain⟨_,rfl⟩:=aa;simp only at hc;subst hc;exact⟨[],by simp[Builtin.lenOf],by simp[Builtin.firstCells],by simp,by simp[BG],by simp,by simp⟩
   |some l=>
    rw[hl0] at hc aa;simp only[Ao,Ac.len] at aa hc;subst hc;obtain⟨ac,ad,vs,hb,aj,hr⟩:=aa;by_cases ai:rows=[]
    .subst ai;refine⟨[],by simp[Builtin.lenOf],?_,by simp,by simp[BG],by simp,by simp⟩;intro j;simp[Builtin.firstCells,loadCells,loadCellsFrom]
    .have ag:k=z:=by
      rcases Z with Z|Z
      .exact Z
      .exact absurd Z ai
     subst ag;have am:rows.length*k<=l.cap*k:=Iu _ ad;have ab:vs.toList.length=vs.size:=Fi;have ah:rows.length*k<=(vs.toList.drop l.p).length:=by rw[CI,ab];omega
     refine⟨(vs.toList.drop l.p).take (rows.length*k),by simp[Builtin.lenOf],?_,?_,?_,?_,ac⟩
     .intro j;exact lB (w:={S.w with drawn:=j}) hb (by omega)
     .rw[Cu];omega
     .exact yV _ _ hr ah
     .exact tB _ _ Q hr ah
end
def Qjh{S:A7}{k:Nat}: ∀(rows:List (List D)) (L:List Value),BG S k (Bo rows) L->rdr S.ok S.hp k rows L
 |[],_,_=>by simp only[rdr]
 |r::rows,L,h=>by
  simp only[Bo,Be,BG] at h;simp only[rdr];exact⟨by simpa using h.1,(rP _ _).1 h.2.1,Qjh rows _ h.2.2⟩
def YH{S S':A7}{T k:Nat}{rows:List (List D)}{l:Option FS}(O:S'.ok=S.ok)(z:S'.hp=S.hp)(h:Ao S l (.arrA T k (Bo rows))):Ao S' l (.arr T k rows):=by
 simp only[Ao] at h⊢;refine⟨by simpa[Bo] using h.1,?_⟩;cases l with
 |none=>simpa[Bo] using h.2
 |some lc=>
  obtain⟨_,Q,vs,Z,h3,h4⟩:=h;refine⟨by simpa[Bo] using Q,vs,by rw[z];exact Z,h3,?_⟩;rw[O,z];exact Qjh _ _ h4
section
variable {P:Program}{tm:List (Nat×AV)}{h:Nat->Option Am}{nx:Nat}{o:Oper}{K:Ah}
def OO{T U e:TypeId}{z:TI}{s x:Operand}(hT:P.underlying T=some (.slice e))(hU:vV P U)(hE:tI P e=some z)
 {c:Call}(ho:o.op= .call c)(af:c.callee= .builtin .append)(ab:c.args= #[s,x])(br:c.argTypes= #[T,U])
 (aj:z.bytes≠0)(hz:z.zero.length=z.size)(aa:z.size≠0){u ks:List Nat}{rows0:List (List AV)}
 (a0:(De h (Ay tm x)).okOne)(hw:(De h (Ay tm x)).w=z.size\/(De h (Ay tm x)).rows=[])(ba: ∀n∈(De h (Ay tm x)).us,n∈u++ks)
 (be:(rows0.length+(De h (Ay tm x)).rows.length+512)*z.bytes<=140737488355328)
 (hnm: ∀m∈B8 (rows0++(De h (Ay tm x)).rows),∃n f,n∈u++ks/\h n=some f/\m∈f.2.nms)
 (az:((∃k0,Ay tm s= .im (.sl true k0 []))/\rows0=[])\/(∃n f,Ay tm s= .own n/\n∈ks/\h n=some (true,f)/\((∃rows,f= .arr e z.size rows/\rows0=Bo rows)\/f= .arrA e z.size rows0)))
 {ea:Ac}(av:ea= .arrA e z.size (rows0++(De h (Ay tm x)).rows)\/ ∃rows,ea= .arr e z.size rows/\Bo rows=rows0++(De h (Ay tm x)).rows)
 (hk:K (.own nx) {use:=u,kill:=ks,new:=[(nx,(true,ea))],cnt:=1}):BY P tm h nx o K:=by
 refine⟨_,_,BE.one (u:=u) (ks:=ks) (.inl ⟨rfl,rfl⟩) ?_,hk⟩;intro C S a hW hu bh ah ai;have Z:=ai s (by rw[ho];simp[Op.operands,Call.operands,ab,af]);have h2:=ai x (by rw[ho];simp[Op.operands,Call.operands,ab,af]);have bj:(De h (Ay tm x)).rows.length<=JT:=by
  have bf:z.bytes≠0:=aj
  have:(rows0.length+(De h (Ay tm x)).rows.length+512)*1<=(rows0.length+(De h (Ay tm x)).rows.length+512)*z.bytes:=Zes _ (by omega)
  simp only[JT];omega
 obtain⟨L,ax,ag,ao,bd,bc,bu⟩:=Vs hW h2 (λn hn=>hu n (ba n hn)) a0 aa hw bj;have bo:=bh rfl;have an: ∃l0 A,a.eval s=kF l0 rows0.length/\cD S e z.size rows0.length A l0/\
  (∀l,l0=some l-> ∃o f,o∈ks/\S.h o=some (true,f)/\S.ρ o=some l)/\BG S z.size rows0 A/\rows0.length*z.size<=A.length:=by
  rcases az with ⟨⟨k0,hs⟩,rfl⟩|⟨n,f,hs,ay,hf,aw⟩
  .rw[hs] at Z;simp only[Aa,rd] at Z;rcases Z with ⟨Z,_⟩|⟨b,p,cap,vs,T,fr,_,bm,_⟩
   .have Z:=Qr7 Z;exact⟨none,[],by rw[Z];rfl,⟨rfl,rfl⟩,(by intro l hl;cases hl),by simp only[BG],by simp⟩
   .exact absurd rfl (bm trivial)
  .rw[hs] at Z;have hS:S.h n=_:=(hu n (by simp[ay])).trans hf;have O:=hW.obj _ _ hS;simp only[Aa] at Z;have Z:=Z.2 _ hS;cases hl0:S.ρ n with
   |none=>
    rw[hl0] at Z O;simp only at Z
    have:rows0=[]:=by
     rcases aw with ⟨rows,rfl,rfl⟩|rfl
     .simp only[Ao] at O;rw[O.2];rfl
     .simp only[Ao] at O;exact O.2
    subst this;exact⟨none,[],by rw[Z];rfl,⟨rfl,rfl⟩,(by intro l hl;cases hl),by simp only[BG],by simp⟩
   |some l=>
    rw[hl0] at Z O;simp only at Z;have aq:f.len=rows0.length/\rows0.length<=l.cap/\ ∃vs,S.hp l.b=some (.cells vs e (0,0))/\l.p+l.cap*z.size<=vs.size/\BG S z.size rows0 (vs.toList.drop l.p):=by
     rcases aw with ⟨rows,rfl,rfl⟩|rfl
     .simp only[Ao] at O;obtain⟨_,Q,vs,hb,aa,hr⟩:=O;exact⟨by simp[Ac.len,Bo],by simpa[Bo] using Q,vs,hb,aa,lN _ _ hr⟩
     .simp only[Ao] at O;obtain⟨_,Q,vs,hb,aa,hr⟩:=O;exact⟨rfl,Q,vs,hb,aa,hr⟩
    obtain⟨bg,Q,vs,hb,aa,hr⟩:=aq;have bv:rows0.length*z.size<=l.cap*z.size:=Iu _ Q;have bt:vs.toList.length=vs.size:=Fi;refine⟨some l,vs.toList.drop l.p,by rw[Z,bg];rfl,⟨Q,vs,hb,rfl,aa⟩,?_,hr,by rw[CI,bt];omega⟩;intro l' bi;obtain rfl:=AJ bi;exact⟨n,f,ay,hS,hl0⟩
 obtain⟨l0,A,hv,hA,ak,bq,bb⟩:=an;obtain⟨w',l',a8,bp,ad⟩:=ON hW (nx:=nx) (ks:=ks) (ty:=o.type) hT hE hU aj hz aa be hA ax ag ao bc ak bo (λn f hf=>ah n f hf rfl);refine⟨kF l' (rows0.length+(De h (Ay tm x)).rows.length),w',l',.inl ?_,bp ea,?_⟩
 .simp only[execOp,ho,resolve,af,ab,br,Sem.run_bind,Sem.run_pure,Result.andThen_ok,invoke,builtin];simp[hv,a8]
 intro hp;have bf:z.bytes≠0:=aj;have a9:rows0.length+(De h (Ay tm x)).rows.length<=JT:=by
  have:(rows0.length+(De h (Ay tm x)).rows.length+512)*1<=(rows0.length+(De h (Ay tm x)).rows.length+512)*z.bytes:=Zes _ (by omega)
  simp only[JT];omega
 have hX: ∀m∈B8 (rows0++(De h (Ay tm x)).rows),S.h nx≠none\/m≠nx:=by
  intro m hm;obtain⟨n,f,bn,hf,bl⟩:=hnm m hm;right;rintro rfl;exact ah n f ((hu n bn).trans hf) rfl bl
 have ac:Ao (S.one nx ea l' ks w') l' (.arrA e z.size (rows0++(De h (Ay tm x)).rows)):=by
  simp only[Ao,Ez];refine⟨a9,?_⟩;cases l' with
  |none=>
   simp only at ad⊢;rw[List.append_eq_nil_iff];exact⟨Wj.1 ad.1,Wj.1 ad.2⟩
  |some l=>
   obtain⟨h3,vs,R,h4,h5,h6⟩:=ad;refine⟨h3,vs,h4,h5,?_⟩;rw[h6];exact rY hp _ _ _ hX (Qqs _ _ _ _ _ bq bb bd (by rw[ao];exact AU _))
 have am:ea.len=rows0.length+(De h (Ay tm x)).rows.length:=by
  rcases av with rfl|⟨rows,rfl,hr⟩
  .simp[Ac.len]
  .simp only[Ac.len];rw[<-Ez,<-hr];simp[Bo]
 constructor
 .rcases av with rfl|⟨rows,rfl,hr⟩
  .exact ac
  .rw[<-hr] at ac;exact YH rfl rfl ac
 .simp only[Aa];refine⟨by cases l'<;>rfl,λe' au=> ?_⟩;simp only[A7.one,BD,AN] at au⊢;subst au;cases l' with
  |none=>rfl
  |some l=>simp only[kF];rw[am]
def lX(rows:List (List D)):B8 (Bo rows)=[]:=by
 induction rows with
 |nil=>rfl
 |cons r rows ih=>simp only[Bo,Be,B8,Qw0,Dg];exact ih
def sV: ∀(a b:List (List AV)),B8 (a++b)=B8 a++B8 b
 |[],_=>rfl
 |x::a,b=>by simp[B8,sV a b]
def Qj{X:AV}{m:Nat}(z:m∈B8 (De h X).rows): ∃n f,n∈(De h X).us/\h n=some f/\m∈f.2.nms:=by
 cases X<;>try (simp only[De,Src.rows,B8] at z;cases z;done)
 case im d=>cases d<;>simp only[De,Src.rows,lX,B8] at z<;>cases z
 case own n=>
  simp only[De] at z⊢;cases hn:h n with
  |none=>rw[hn] at z;simp only[aM,Src.rows,B8] at z;cases z
  |some e=>
   rw[hn] at z;obtain⟨O,e⟩:=e;cases e<;>simp only[aM,Src.rows,lX,B8] at z<;>try cases z
   refine⟨n,_,by simp[Src.us,aM],hn,z⟩
def Qab5{T U:TypeId}{s x:Operand}{c:Call}(ho:o.op= .call c)(ag:c.callee= .builtin .append)(ad:c.args= #[s,x])(am:c.argTypes= #[T,U])
 (z:Bn (zN P h nx (Ay tm s) (Ay tm x) T K) (tI P U)):BY P tm h nx o K:=by
 cases hU:tI P U with
 |none=>rw[hU] at z;exact z.elim
 |some ui=>
 rw[hU] at z;simp only[Bn,zN] at z;obtain⟨ah,z⟩:=z;have aj:vV P U:=by
  cases hu:ui.kind<;>rw[hu] at ah<;>simp only[TK.isSl,TK.isStr,Bool.or_self,bJ,OJ,Df] at ah
  .exact .inr (Rf hU hu)
  .exact .inl ⟨_,Q5 hU hu⟩
 cases hT:tI P T with
 |none=>rw[hT] at z;exact z.elim
 |some ti=>
 rw[hT] at z;simp only[Qsl] at z;cases hf:ti.kind<;>rw[hf] at z<;>try exact z.elim
 rename_i e;have ai:=Q5 hT hf;simp only[apK] at z;cases hE:tI P e with
 |none=>rw[hE] at z;exact z.elim
 |some te=>
 rw[hE] at z;simp only[Bn,apE] at z;obtain⟨hz,hl,ak,Z,z⟩:=z;have ab: ∀{m:Nat},m∈B8 (De h (Ay tm x)).rows-> ∃n f,n∈(De h (Ay tm x)).us/\h n=some f/\m∈f.2.nms:=λhm=>Qj hm
 have O:= @OO P tm h nx o K T U e te s x ai aj hE c ho ag ad am ak hl hz;revert O;generalize De h (Ay tm x)=src at z Z ab;intro O;cases hs:Ay tm s<;>rw[hs] at z<;>try exact z.elim
 case im d=>
  cases d<;>try exact z.elim
  rename_i nz k0 rows;cases nz<;>cases rows<;>try exact z.elim
  simp only[RQ] at z;cases src with
  |no=>exact z.elim
  |d u k rows=>
   simp only[Oc] at z;obtain⟨Q,hb,z⟩:=z;refine O (u:=u) (ks:=[]) (rows0:=[]) Z (Q.imp id (λh=>by rw[h];rfl)) (by simp[Src.us]) (by simpa[Src.rows,Bo] using hb) ?_ (.inl ⟨⟨k0,hs⟩,rfl⟩) (.inr ⟨rows,rfl,by simp[Src.rows]⟩) z;intro m hm;simp only[Dg,Src.rows,lX] at hm;cases hm
  |a u k rows=>
   simp only[Oc] at z;obtain⟨Q,hb,z⟩:=z;refine O (u:=u) (ks:=u) (rows0:=[]) Z (.inl Q) (by simp[Src.us]) (by simpa[Src.rows] using hb) ?_ (.inl ⟨⟨k0,hs⟩,rfl⟩) (.inl (by simp[Src.rows])) z;intro m hm;obtain⟨n,f,hn,hf⟩:=ab hm;exact⟨n,f,by simp[Src.us] at hn;simp[hn],hf⟩
 case own n=>
  simp only[RQ] at z;cases hn:h n with
  |none=>rw[hn] at z;exact z.elim
  |some ac=>
  rw[hn] at z;obtain⟨mu,ac⟩:=ac;cases mu<;>cases ac<;>try exact z.elim
  case true.arr U0 k0 rows0=>
   simp only[Js] at z;obtain⟨rfl,rfl,z⟩:=z;cases src with
   |no=>exact z.elim
   |d u k rows=>
    simp only[nG] at z;obtain⟨Q,af,hb,z⟩:=z;refine O (u:=n::u) (ks:=[n]) (rows0:=Bo rows0) Z (Q.imp id (λh=>by rw[h];rfl)) (by intro x hx;simp[Src.us] at hx;simp[hx]) (by simpa[Src.rows,Bo] using hb) ?_
     (.inr ⟨n,_,hs,by simp,hn,.inl ⟨rows0,rfl,rfl⟩⟩) (.inr ⟨rows0++rows,rfl,by simp[Src.rows,Bo]⟩) z
    intro m hm;simp only[Src.rows,sV,lX] at hm;cases hm
   |a u k rows=>
    simp only[nG] at z;obtain⟨Q,af,hb,z⟩:=z;refine O (u:=n::u) (ks:=n::u) (rows0:=Bo rows0) Z (.inl Q) (by intro x hx;simp[Src.us] at hx;simp[hx]) (by simpa[Src.rows,Bo] using hb) ?_
     (.inr ⟨n,_,hs,by simp,hn,.inl ⟨rows0,rfl,rfl⟩⟩) (.inl (by simp[Src.rows])) z
    intro m hm;simp only[sV,lX,Dg] at hm;obtain⟨n',f,aa,hf⟩:=ab hm;exact⟨n',f,by simp[Src.us] at aa;simp[aa],hf⟩
  case true.arrA U0 k0 rows0=>
   simp only[Js] at z;obtain⟨rfl,rfl,z⟩:=z;cases src with
   |no=>exact z.elim
   |d u k rows=>
    simp only[nE] at z;obtain⟨Q,af,hb,z⟩:=z;refine O (u:=n::u) (ks:=[n]) (rows0:=rows0) Z (Q.imp id (λh=>by rw[h];rfl)) (by intro x hx;simp[Src.us] at hx;simp[hx]) (by simpa[Src.rows,Bo] using hb) ?_
     (.inr ⟨n,_,hs,by simp,hn,.inr rfl⟩) (.inl (by simp[Src.rows])) z
    intro m hm;simp only[Src.rows,sV,lX,DJ] at hm;exact⟨n,_,by simp,hn,hm⟩
   |a u k rows=>
    simp only[nE] at z;obtain⟨Q,af,hb,z⟩:=z;refine O (u:=n::u) (ks:=n::u) (rows0:=rows0) Z (.inl Q) (by intro x hx;simp[Src.us] at hx;simp[hx]) (by simpa[Src.rows] using hb) ?_
     (.inr ⟨n,_,hs,by simp,hn,.inr rfl⟩) (.inl (by simp[Src.rows])) z
    intro m hm;simp only[sV,B7] at hm;rcases hm with hm|hm
    .exact⟨n,_,by simp,hn,hm⟩
    .obtain⟨n',f,aa,hf⟩:=ab hm;exact⟨n',f,by simp[Src.us] at aa;simp[aa],hf⟩
end
def Qx9{ok:Nat->Prop}{hp:Nat->Option Obj}: ∀(ds:List (D×D)) (es:List MapEntry),CD ok hp ds es->es.length=ds.length
 |[],_,h=>by simp only[CD] at h;simp[h]
 |(x,y)::ds,_,h=>by
  simp only[CD] at h;obtain⟨e,r,rfl,_,_,z⟩:=h;simp[Qx9 ds r z]
def Q4{P:Program}{w:World}{b:Nat}{es:Array MapEntry}{clock:Nat}(h:w.heap[b]? =some (.map es clock)):(getObj b).run P w= .ok (.map es clock) w:=by
 simp[getObj,Sem.run,h]
section
variable {P:Program}{w:World}{T e k:TypeId}
def Xg(x y:Value):Op.equal T x y=Op.equalIn (9999+1) T x y:=rfl
def Ld(z:P.underlying T=some (.slice e))(d:Nat)(b:Option Addr)(n c:Nat):(Op.equalIn (d+1) T (.slice b n c) (.slice none 0 0)).run P w= .ok b.isNone w:=by
 cases b<;>simp[Op.equalIn,run_underlying z]
def Qx1(z:P.underlying T=some (.pointer e))(d:Nat)(b:Option Addr):(Op.equalIn (d+1) T (.pointer b) (.pointer none)).run P w= .ok b.isNone w:=by
 cases b<;>simp[Op.equalIn,run_underlying z]
def Lc(z:P.underlying T=some (.map k e))(d:Nat)(b:Option Nat):(Op.equalIn (d+1) T (.map b) (.map none)).run P w= .ok b.isNone w:=by
 cases b<;>simp[Op.equalIn,run_underlying z]
end
def nR(tm:List (Nat×AV))(h:Nat->Option Am)(o:Oper):Prop:=
 ∃u:List Nat,∀(C:Bb) (S:A7) (a:Act),Wf C S->(∀n∈u,S.h n=h n)->(∀x∈o.op.operands,Aa S (Ay tm x) (a.eval x))->False
def KO(P:Program)(tm:List (Nat×AV))(h:Nat->Option Am)(nx:Nat)(o:Oper)(K:Ah):Prop:=
 ∀(C:Bb) (S:A7) (a:Act) (next:Act->World->Prop) (Q:Exit->Act->World->Prop),
  Wf C S->(∀n,S.h n=h n)->(∀n,nx<=n->S.h n=none)->(∀n e,S.h n=some e-> ∀m∈e.2.nms,m<nx)->
  (∀x∈o.op.operands,Aa S (Ay tm x) (a.eval x))->
  (∀r E v S',K r E->Wf C S'->S'.h=E.appf S.h->BP (λm=> ¬Fr nx E.cnt m) S S'->Aa S' r v->next (a.put o.dst v) S'.w)->
  o.wp P a S.w next Q
abbrev X4(P:Program)(z:Bool)(tm:List (Nat×AV))(h:Nat->Option Am)(nx:Nat)(o:Oper)(K:Ah):Prop:=
 BY P tm h nx o K\/(z=true/\(nR tm h o\/KO P tm h nx o K))
section
variable {P:Program}{tm:List (Nat×AV)}{h:Nat->Option Am}{nx:Nat}{o:Oper}{K:Ah}
def aL{T:TypeId}{x:Operand}{c:Call}{u:List Nat}{n:Nat}(ho:o.op= .call c)(O:c.callee= .builtin .len)(z:c.args= #[x])(aa:c.argTypes= #[T])
 (Z: ∀(C:Bb) (S:A7) (v:Value),Wf C S->(∀n∈u,S.h n=h n)->Aa S (Ay tm x) v->(Builtin.len_ #[T] o.type #[v]).run P S.w= .ok (.int .i64 n) S.w)
 (hk:Gh K {use:=u} n):BY P tm h nx o K:=by
 refine⟨_,_,BE.pure (u:=u) ?_,hk⟩;intro C S a hW hu Q;have h1:=Q x (by rw[ho];simp[Op.operands,Call.operands,z,O]);refine⟨.int .i64 n,?_,by simp only[Aa,rd]⟩;simp only[execOp,ho,resolve,O,z,aa,Sem.run_bind,Sem.run_pure,Result.andThen_ok,invoke,builtin];simp[Z C S _ hW hu h1]
def Qq0{z:Bool}{B:Prop}(Q:(z=true->B)->BY P tm h nx o K)(Z: ¬B->nR tm h o):X4 P z tm h nx o K:=by
 by_cases O:B
 .exact .inl (Q λ_=>O)
 .cases z
  .exact .inl (Q λh=>by cases h)
  .exact .inr ⟨rfl,.inl (Z O)⟩
def Zp{sq:Bool}{T:TypeId}{x:Operand}{c:Call}(ho:o.op= .call c)(Z:c.callee= .builtin .len)(Q:c.args= #[x])(ab:c.argTypes= #[T])
 (z:Bn (gH sq h (Ay tm x) K) (tI P T)):X4 P sq tm h nx o K:=by
 have ak:x∈o.op.operands:=by rw[ho];simp[Op.operands,Call.operands,Q,Z]
 cases hT:tI P T with
 |none=>rw[hT] at z;exact z.elim
 |some ti=>
 rw[hT] at z;simp only[Bn,gH] at z;cases hf:ti.kind<;>rw[hf] at z<;>try exact z.elim
 case slice e=>
  have hu:=Q5 hT hf;simp only[FE] at z;cases hx:Ay tm x<;>rw[hx] at z<;>try exact z.elim
  case im d=>
   cases d<;>try exact z.elim
   rename_i nz k rows;simp only[gA] at z;refine Qq0 (B:=rows.length<=140737488355328) (λhb=>aL (u:=[]) ho Z Q ab ?_ (z hb)) λhb=>⟨[],?_⟩
   .intro C S v hW _ O;rw[hx] at O;simp only[Aa,rd] at O;rcases O with ⟨rfl|⟨_,a,rfl⟩,rfl⟩|⟨b,p,cap,vs,T,fr,rfl,_⟩<;>simp[Builtin.len_,underlying,hu,goInt]
   .intro C S a hW _ af;have h1:=af x ak;rw[hx] at h1;simp only[Aa,rd] at h1;rcases h1 with ⟨_,rfl⟩|⟨b,p,cap,vs,T,fr,_,_,_,h3,_⟩
    .simp at hb
    .exact hb h3
  case own n=>
   simp only[gA] at z;cases hn:h n with
   |none=>rw[hn] at z;exact z.elim
   |some aa=>
   rw[hn] at z;obtain⟨mu,aa⟩:=aa;have ag: ∀{rl:Nat},aa.len=rl->(∀(S:A7) l,Ao S l aa->rl<=140737488355328)->((sq=true->rl<=140737488355328)->Gh K {use:=[n]} rl)->(∀(S:A7),Ao S none aa->rl=0)->
    X4 P sq tm h nx o K:=by
    intro rl hl am z aj;refine Qq0 (B:=rl<=140737488355328) (λhb=>aL (u:=[n]) ho Z Q ab ?_ (z hb)) λhb=>⟨[n],?_⟩
    .intro C S v hW ac O;rw[hx] at O;simp only[Aa] at O;have hS:=(ac n (by simp)).trans hn;have O:=O.2 _ hS;cases hl0:S.ρ n with
     |none=>
      have ad:=hW.obj _ _ hS;rw[hl0] at O ad;simp only at O;subst O
      have:=aj S ad
      simp[Builtin.len_,underlying,hu,goInt,this]
     |some l=>
      rw[hl0] at O;simp only[hl] at O;subst O;simp[Builtin.len_,underlying,hu,goInt]
    .intro C S a hW ac af;have hS:=(ac n (by simp)).trans hn;exact hb (am S _ (hW.obj _ _ hS))
   cases aa<;>try exact z.elim
   case arr T0 k rows=>
    exact ag rfl (λS l ho=>by simp only[Ao] at ho;exact ho.1) z (λS ho=>by simp only[Ao] at ho;rw[ho.2];rfl)
   case arrA T0 k rows=>
    exact ag rfl (λS l ho=>by simp only[Ao] at ho;exact ho.1) z (λS ho=>by simp only[Ao] at ho;rw[ho.2];rfl)
  case osl n wa wn=>
   simp only[gA] at z;cases hn:h n with
   |none=>rw[hn] at z;exact z.elim
   |some aa=>
   rw[hn] at z;refine .inl (aL (u:=[n]) ho Z Q ab ?_ z);intro C S v hW ac O;rw[hx] at O;simp only[Aa] at O;have hS:=(ac n (by simp)).trans hn;have O:=O.2 _ hS;unfold Qz at O;cases hl0:S.ρ n with
   |none=>
    rw[hl0] at O;obtain⟨rfl,rfl⟩:=O;simp[Builtin.len_,underlying,hu,goInt]
   |some l=>
    rw[hl0] at O;obtain⟨p,cp,rfl,_⟩:=O;simp[Builtin.len_,underlying,hu,goInt]
 case str=>
  have hu:=Rf hT hf;simp only[FE] at z;cases hx:Ay tm x<;>rw[hx] at z<;>try exact z.elim
  rename_i d;cases d<;>try exact z.elim
  refine .inl (aL (u:=[]) ho Z Q ab ?_ z);intro C S v hW _ O;rw[hx] at O;simp only[Aa,rd] at O;subst O;simp[Builtin.len_,underlying,hu,goInt]
 case map k e=>
  have hu:=mH hT hf;simp only[FE] at z;cases hx:Ay tm x<;>rw[hx] at z<;>try exact z.elim
  case im d=>
   cases d<;>try exact z.elim
   case nilm=>
    refine .inl (aL (u:=[]) ho Z Q ab ?_ z);intro C S v hW _ O;rw[hx] at O;simp only[Aa,rd] at O;subst O;simp[Builtin.len_,underlying,hu,goInt]
   case mp kt es=>
    refine .inl (aL (u:=[]) ho Z Q ab ?_ z);intro C S v hW _ O;rw[hx] at O;simp only[Aa,rd] at O;obtain⟨b,ai,ah,rfl,_,_,h5,h6,_⟩:=O;have hl:=Qx9 _ _ h6;simp only[Fi] at hl;simp[Builtin.len_,underlying,hu,goInt,Q4 (w:=S.w) h5,hl]
  case mp n=>
   simp only[uL] at z;cases hn:h n with
   |none=>rw[hn] at z;exact z.elim
   |some aa=>
   rw[hn] at z;obtain⟨mu,aa⟩:=aa;cases aa<;>try exact z.elim
   refine .inl (aL (u:=[n]) ho Z Q ab ?_ z);intro C S v hW ac O;rw[hx] at O;simp only[Aa] at O;have hS:=(ac n (by simp)).trans hn;obtain⟨l,hl,rfl⟩:=O.2 _ hS;have ad:=hW.obj _ _ hS;simp only[Ao] at ad;obtain⟨lc,ai,ah,h1,_,h5,h6,_⟩:=ad;rw[hl] at h1;obtain rfl:=AJ h1;have hl:=Qx9 _ _ h6;simp only[Fi] at hl;simp[Builtin.len_,underlying,hu,goInt,Q4 (w:=S.w) h5,hl]
def fI{op:BinOp}{T U:TypeId}{x y:Operand}{u:List Nat}{b:Bool}(ho:o.op= .binOp op T x y U)(aa:op= .eql\/op= .neq){z:Value}(hy:y= .const z)
 (Z:z= .slice none 0 0\/z= .pointer none\/z= .map none)
 (Q: ∀(C:Bb) (S:A7) (v:Value),Wf C S->(∀n∈u,S.h n=h n)->Aa S (Ay tm x) v->(∀k n,v≠ .int k n)/\(∀k n,v≠ .float k n)/\(∀k n m,v≠ .complex k n m)/\(∀s,v≠ .string s)/\(Op.equal T v z).run P S.w= .ok b S.w)
 (hk:K (.im (.bool ((decide (op= .neq)) !=b))) {use:=u}):BY P tm h nx o K:=by
 refine⟨_,_,BE.pure (u:=u) ?_,hk⟩;intro C S a hW hu O;have h1:=O x (by rw[ho];simp[Op.operands]);obtain⟨hi,hf,hc,hs,hr⟩:=Q C S _ hW hu h1;refine⟨.bool (decide (op= .neq) !=b),?_,by simp only[Aa,rd]⟩;have hg:(eqGuard op T x y (a.eval x) z).run P S.w= .ok () S.w:=by
  rcases Z with rfl|rfl|rfl<;>rcases aa with rfl|rfl<;>simp[eqGuard]
 have hb:(binOp op T (a.eval x) z).run P S.w= .ok (.bool (decide (op= .neq) !=b)) S.w:=by
  have hq:(Op.equal T (a.eval x) z).run P S.w= .ok b S.w:=hr;clear hr hg O h1 Q hk hu;generalize a.eval x=v at*;rcases aa with rfl|rfl
  .have:binOp .eql T v z=(do pure (.bool (<-Op.equal T v z))):=by
    rcases Z with rfl|rfl|rfl<;>cases v<;>first|rfl|exact absurd rfl (hi _ _)|exact absurd rfl (hf _ _)|exact absurd rfl (hc _ _ _)|exact absurd rfl (hs _)
   rw[this];simp[hq]
  .have:binOp .neq T v z=(do pure (.bool (!(<-Op.equal T v z)))):=by
    rcases Z with rfl|rfl|rfl<;>cases v<;>first|rfl|exact absurd rfl (hi _ _)|exact absurd rfl (hf _ _)|exact absurd rfl (hc _ _ _)|exact absurd rfl (hs _)
   rw[this];simp[hq]
 have ab:a.eval y=z:=by rw[hy];rfl
 simp only[execOp,ho,ab,Sem.run_bind,hg,Result.andThen_ok,hb,Sem.run_pure]
def cX{op:BinOp}{T U:TypeId}{x y:Operand}{m:Nat}(ho:o.op= .binOp op T x y U)(hm:FG y=m+1)(ac:m<=2)(hk:Bn (lZ h op (Ay tm x) K m) (tI P T)):BY P tm h nx o K:=by
 cases hT:tI P T with
 |none=>rw[hT] at hk;exact hk.elim
 |some ti=>
 rw[hT] at hk;simp only[Bn] at hk;have Q:op= .eql\/op= .neq:=by cases op<;>first|exact .inl rfl|exact .inr rfl|exact hk.elim
 have z:Xu h (decide (op= .neq)) K (Ay tm x) m ti.kind:=by rcases Q with rfl|rfl<;>exact hk
 have hy: ∃nv,y= .const nv/\((m=0/\nv= .slice none 0 0)\/(m=1/\nv= .pointer none)\/(m=2/\nv= .map none)):=by
  cases y<;>simp only[FG,reduceCtorEq] at hm<;>try (cases hm;done)
  rename_i v;refine⟨v,rfl,?_⟩;unfold Gj at hm;split at hm
  .exact .inl ⟨by omega,rfl⟩
  .exact .inr (.inl ⟨by omega,rfl⟩)
  .exact .inr (.inr ⟨by omega,rfl⟩)
  .omega
  .omega
 obtain⟨nv,hy,ab⟩:=hy;clear hk;rcases ab with ⟨rfl,rfl⟩|⟨rfl,rfl⟩|⟨rfl,rfl⟩<;>cases hf:ti.kind<;>rw[hf] at z<;>try exact z.elim
 .have Z:=Q5 hT hf;simp only[Xu] at z;cases hx:Ay tm x<;>rw[hx] at z<;>try exact z.elim
  rename_i d;cases d<;>try exact z.elim
  rename_i nz k rows;cases nz<;>try exact z.elim
  refine fI (u:=[]) ho Q hy (.inl rfl) ?_ z;intro C S v hW _ O;rw[hx] at O;simp only[Aa,rd] at O;rcases O with ⟨h0,rfl⟩|⟨b,p,cap,vs,T,fr,rfl,h2,_⟩
  .rw[Qr7 h0];simp[Xg,Ld Z 9999]
  .have ad:rows≠[]:=h2 trivial
   have:rows.isEmpty=false:=by cases rows<;>simp_all
   simp[Xg,Ld Z 9999,this]
 .have Z:=kQ hT hf;simp only[Xu] at z;cases hx:Ay tm x<;>rw[hx] at z<;>try exact z.elim
  case im d=>
   cases d<;>try exact z.elim
   .refine fI (u:=[]) ho Q hy (.inr (.inl rfl)) ?_ z;intro C S v hW _ O;rw[hx] at O;simp only[Aa,rd] at O;subst O;simp[Xg,Qx1 Z 9999]
   .refine fI (u:=[]) ho Q hy (.inr (.inl rfl)) ?_ z;intro C S v hW _ O;rw[hx] at O;simp only[Aa,rd] at O;obtain⟨b,p,vs,T,fr,rfl,_⟩:=O;simp[Xg,Qx1 Z 9999]
  all_goals
   obtain⟨⟨e',he⟩,z⟩:=fJ z;refine fI (b:=false) ho Q hy (.inr (.inl rfl)) ?_ (by simpa using z);intro C S v hW aa O;rw[hx] at O;simp only[Aa] at O;obtain⟨l,_,rfl⟩:=O.2 e' ((aa _ (by simp)).trans he);simp[Xg,Qx1 Z 9999]
 .have Z:=mH hT hf;simp only[Xu] at z;cases hx:Ay tm x<;>rw[hx] at z<;>try exact z.elim
  case im d=>
   cases d<;>try exact z.elim
   .refine fI (u:=[]) ho Q hy (.inr (.inr rfl)) ?_ z;intro C S v hW _ O;rw[hx] at O;simp only[Aa,rd] at O;subst O;simp[Xg,Lc Z 9999]
   .refine fI (u:=[]) ho Q hy (.inr (.inr rfl)) ?_ z;intro C S v hW _ O;rw[hx] at O;simp only[Aa,rd] at O;obtain⟨b,p,vs,rfl,_⟩:=O;simp[Xg,Lc Z 9999]
  all_goals
   obtain⟨⟨e',he⟩,z⟩:=fJ z;refine fI (b:=false) ho Q hy (.inr (.inr rfl)) ?_ (by simpa using z);intro C S v hW aa O;rw[hx] at O;simp only[Aa] at O;obtain⟨l,_,rfl⟩:=O.2 e' ((aa _ (by simp)).trans he);simp[Xg,Lc Z 9999]
end
end Go.Ae
