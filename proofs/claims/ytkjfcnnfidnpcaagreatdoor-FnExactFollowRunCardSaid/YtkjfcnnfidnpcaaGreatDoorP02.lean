/- Lemmas. Conditions: none. -/
import Derived.Test.YtkjfcnnfidnpcaaGreatDoorP01
import Derived.IntWalk
set_option linter.all false
set_option maxHeartbeats 8000000
set_option maxRecDepth 100000
namespace Go.Ae
def Qrv(z:List Value)(Q:z≠[]): ∀n,(List.range (n*z.length)).map (λi=>z[i % z.length]!)=Ch n z
 |0=>by simp[Ch]
 |n+1=>by
  have h0:0<z.length:=mQ.2 Q;rw[F6,IJ,vU,List.range_add,FT,Oe];simp only[Ch];congr 1
  .apply List.ext_getElem
   .simp
   .intro i Z O;simp only[List.getElem_map,Zew]
    have:i % z.length=i:=Nat.mod_eq_of_lt O
    rw[this,getElem!_pos z i O]
  .rw[<-Qrv z Q n];apply Kr;intro i _;simp
def Qxx(a:Array Value)(i:Nat):a[i]! =a.toList[i]! :=by
 by_cases z:i<a.size
 .rw[getElem!_pos a i z,getElem!_pos a.toList i (by simpa using z)];simp
 .rw[getElem!_neg a i z,getElem!_neg a.toList i (by simpa using z)]
def Qzv{α:Type}(z:List α): ∀n,(Ch n z).length=n*z.length
 |0=>by simp[Ch]
 |n+1=>by simp[Ch,Qzv z n,F6];omega
def oJ{α β:Type}(f:α->β)(z:List α): ∀n,(Ch n z).map f=Ch n (z.map f)
 |0=>rfl
 |n+1=>by simp[Ch,oJ f z n]
def MB{ok:Nat->Prop}{hp:Nat->Option Obj}: ∀(a:List D) (x:List Value) (b:List D) (y:List Value),rdl ok hp a x->rdl ok hp b y->rdl ok hp (a++b) (x++y)
 |[],x,b,y,h,z=>by simp only[rdl] at h;subst h;simpa using z
 |d::a,x,b,y,h,z=>by
  simp only[rdl] at h;obtain⟨v,r,rfl,O,Q⟩:=h;simp only[De,rdl];exact⟨v,_,rfl,O,MB a r b y Q z⟩
def Qop{S:Ax}: ∀(a:List AV) (x:List Value) (b:List AV) (y:List Value),AM S a x->AM S b y->AM S (a++b) (x++y)
 |[],x,b,y,h,z=>by simp only[AM] at h;subst h;simpa using z
 |d::a,x,b,y,h,z=>by
  simp only[AM] at h;obtain⟨v,r,rfl,O,Q⟩:=h;simp only[De,AM];exact⟨v,_,rfl,O,Qop a r b y Q z⟩
def Qy7{ok:Nat->Prop}{hp:Nat->Option Obj}{z:List D}{x:List Value}(h:rdl ok hp z x): ∀n,rdl ok hp (Ch n z) (Ch n x)
 |0=>by simp[Ch,rdl]
 |n+1=>MB _ _ _ _ h (Qy7 h n)
def dK{α:Type}(k:Nat): ∀(n:Nat) (l:List α),(HT k n l).length=n
 |0,_=>rfl
 |n+1,l=>by simp[HT,dK k n]
def Qq5{ok:Nat->Prop}{hp:Nat->Option Obj}(k:Nat): ∀(n:Nat) (ds:List D) (vs:List Value),rdp ok hp ds vs->ds.length=n*k->rdr ok hp k (HT k n ds) vs
 |0,_,_,_,_=>by simp only[HT,rdr]
 |n+1,ds,vs,h,O=>by
  rw[F6,IJ] at O;simp only[HT,rdr];obtain⟨Q,z⟩:=Vt k ds vs h (by omega);refine⟨by rw[BH];omega,?_,Qq5 k n _ _ (Vq k ds vs h (by omega)) (by rw[Cj];omega)⟩
  have:=tS _ _ (vs.drop k) (WA _ _ z)
  rwa [Kv] at this
def Qms{S:Ax}(k:Nat): ∀(n:Nat) (ds:List AV) (vs:List Value),Cv S ds vs->ds.length=n*k->BG S k (HT k n ds) vs
 |0,_,_,_,_=>by simp only[HT,BG]
 |n+1,ds,vs,h,O=>by
  rw[F6,IJ] at O;simp only[HT,BG];obtain⟨Q,z⟩:=Wu k ds vs h (by omega);refine⟨by rw[BH];omega,?_,Qms k n _ _ (kV k ds vs h (by omega)) (by rw[Cj];omega)⟩
  have:=lG _ _ (vs.drop k) (Wv _ _ z)
  rwa [Kv] at this
def Qn6(k:Nat)(x:Nat): ∀(n:Nat) (ds:List AV),x∈B9 (HT k n ds)->x∈AB ds
 |0,_,h=>by simp[HT,B9] at h
 |n+1,ds,h=>by
  have z: ∀(a b:List AV),AB (a++b)=AB a++AB b:=by
   intro a b;induction a with
   |nil=>rfl
   |cons y a ih=>simp[AB,ih]
  simp only[HT,B9,Bs] at h
  have:=z (ds.take k) (ds.drop k)
  rw[Kv] at this;rw[this,Bs];rcases h with h|h
  .exact .inl h
  .exact .inr (Qn6 k x n _ h)
section
variable {P:Program}{tm:List (Nat×AV)}{h:Nat->Option An}{nx:Nat}{o:Oper}{K:Ai}
def Qrh(a b:List AV):AB (a++b)=AB a++AB b:=by
 induction a with
 |nil=>rfl
 |cons y a ih=>simp[AB,ih]
def OQ(n:Nat)(a:List AV): ∀m∈AB (a.take n),m∈AB a:=by
 intro m z
 have:=Qrh (a.take n) (a.drop n)
 rw[Kv] at this;rw[this,Bs];exact .inl z
def OP(n:Nat)(a:List AV): ∀m∈AB (a.drop n),m∈AB a:=by
 intro m z
 have:=Qrh (a.take n) (a.drop n)
 rw[Kv] at this;rw[this,Bs];exact .inr z
def Qvz(x:AV): ∀m∈AB x.cells,m∈x.nms:=by
 cases x<;>simp only[AV.cells]<;>intro m z
 case im d=>rw[Qw0] at z;cases z
 case agg cs=>simpa[AV.nms] using z
 all_goals simp[AB,AV.nms] at z⊢
 all_goals exact z
def Qyu(O: ∀x,∀m∈(Aq tm x).nms,m≠nx)(Z:Nat->Option (Nat×Nat)): ∀(ps:List (Nat×Operand)) (cs r:List AV),H5 Z (JA tm ps) (some cs)=some r->
 (∀m∈AB cs,m≠nx)-> ∀m∈AB r,m≠nx
 |[],cs,r,h,Q=>by simp only[JA,H5,AI] at h;subst h;exact Q
 |(i,x)::ps,cs,r,h,Q=>by
  simp only[JA,H5] at h;cases hf:ZE cs (Aq tm x).cells (Z i) with
  |none=>rw[hf] at h;exact (Qjy _ _ h).elim
  |some us=>
   rw[hf] at h;refine Qyu O Z ps us r h ?_;cases hp:Z i with
   |none=>rw[hp] at hf;simp[ZE] at hf
   |some q=>
    rw[hp] at hf;simp only[ZE] at hf;generalize ((Aq tm x).cells.length==q.2 && (Nat.blt 0 q.2 && Nat.ble (q.1+q.2) cs.length))=bb at hf;cases bb
    .simp at hf
    .simp only[Cg,AI] at hf;subst hf;intro m z;simp only[Ce,Qrh,Bs] at z;rcases z with (z|z)|z
     .exact Q m (OQ _ _ m z)
     .exact O x m (Qvz _ m z)
     .exact Q m (OP _ _ m z)
def Qp8{T:TypeId}{n:Nat}{ps:Array (Nat×Operand)}(ho:o.op= .buildSlice T n ps)(O:Bf (yG P nx n (JA tm ps.toList) K) (tI P T))
 (ak: ∀x,∀m∈(Aq tm x).nms,m≠nx):BT P tm h nx o K:=by
 cases hT:tI P T with
 |none=>rw[hT] at O;exact O.elim
 |some ti=>
 rw[hT] at O;simp only[Bf,yG] at O;cases hf:ti.kind<;>rw[hf] at O<;>try exact O.elim
 rename_i e;have hu:=PR hT hf;simp only[bsK] at O;cases hE:tI P e with
 |none=>rw[hE] at O;exact O.elim
 |some Z=>
 rw[hE] at O;simp only[Bf,bsE] at O;obtain⟨hl,hz,av,O⟩:=O;have hn:n<=JL:=by
  have:=Nat.le_mul_of_pos_right n (Nat.pos_of_ne_zero hz)
  simp only[JL];omega
 obtain⟨z,ao,aq,an⟩:=dO hE hl hz
 have am:z.cells.toList≠[]:=by intro hh;have:z.cells.size=0:=by rw[<-Dn,hh];rfl
                               omega
 rw[<-oJ] at O;cases hfl:H5 (Ji Z.size) (JA tm ps.toList) (some ((Ch n Z.zero).map .im)) with
 |none=>rw[hfl] at O;exact O.elim
 |some cs=>
 rw[hfl] at O;simp only[L5] at O;have hbel:=Qyu ak _ ps.toList _ cs hfl (by rw[Qw0];intro m hm;cases hm);have ac: ∀(C:AY) (S:Ax) (a:Act),Wf C S->(∀x∈o.op.operands,Aa S (Aq tm x) (a.eval x))->
  ∃us:Array Value,(execOp a.eval o).run P S.w= .ok (.value (.slice (some ⟨S.w.heap.size,0,none⟩) n n)) (S.w.alloc (.cells us e))/\AM S cs us.toList/\cs.length=n*Z.size:=by
  intro C S a hW Q;have au:((Array.range (n*Z.size)).map λi=>z.cells[i % z.cells.size]!).toList=Ch n z.cells.toList:=by
   rw[<-Qrv _ am n,V6,Zev,Dn,aq];apply Kr;intro i _;exact Qxx _ _
  obtain⟨us,ah,hr,aj⟩:=yU (S:=S) (a:=a) (place:=λi=>some (i*Z.size,Z.size)) (λi q hq=>hq) ps.toList _ cs
   ((Array.range (n*Z.size)).map λi=>z.cells[i % z.cells.size]!) hfl (by rw[au];exact (Ip _ _).2 (Qy7 (an _ _) n))
   (by intro p hp
       refine Q p.2 ?_;rw[ho];simp only[Op.operands];simp;exact⟨p.1,by simpa using hp⟩)
  refine⟨us,?_,hr,by rw[aj];simp[Qzv,hl]⟩;simp only[execOp,ho,Instr.buildSlice,Sem.run_bind];rw[show (underlying T).run P S.w= .ok (.slice e) S.w from by simp[underlying,hu]];simp only[Result.andThen_ok,Sem.run_bind,Jy hE];rw[Ad (by omega)];by_cases af:n*Z.size=0
  .simp only[af,BM,pure_bind];simp only[af] at ah
   have:((Array.range 0).map λi=>(#[]:Array Value)[i % (#[]:Array Value).size]!)=(Array.range 0).map λi=>z.cells[i % z.cells.size]! :=by simp
   rw[this];have ab:(ps.map λ(i,x)=>(i,a.eval x)).toList=ps.toList.map λp=>(p.1,a.eval p.2):=by simp
   rw[ab,ah];simp[newRow]
  .simp only[af,CB,Sem.run_bind,ao,Result.andThen_ok,Sem.run_pure];have ab:(ps.map λ(i,x)=>(i,a.eval x)).toList=ps.toList.map λp=>(p.1,a.eval p.2):=by simp
   rw[ab,ah];simp[newRow]
 cases hai:DQ cs with
 |none=>
  rw[hai] at O;simp only[IM] at O;refine⟨_,_,BD.one (u:=[]) (ks:=[]) (.inl ⟨rfl,rfl⟩) ?_,O⟩;intro C S a hW _ ad hnm Q;obtain⟨us,hr,hcs,hcl⟩:=ac C S a hW Q;refine⟨_,_,some ⟨S.w.heap.size,0,n⟩,.inl hr,Vv (w':=S.w.alloc (.cells us e)) (ob:= .cells us e) rfl rfl rfl rfl (ad rfl) (λn f hf=>hnm n f hf rfl),?_⟩;intro hp;have ag:=I5 _ _ hcs;constructor
  .simp only[Ap];refine⟨by rw[dK];exact hn,by rw[dK];exact AN _,us,ZD rfl,by simp at ag;omega,?_⟩;rw[Gd];exact sA hp _ _ _ (λm hm=> .inr (hbel m (Qn6 _ _ _ _ hm))) (Qms _ _ _ _ (Wv _ _ hcs) hcl)
  .simp only[Aa];refine⟨rfl,λe' aa=> ?_⟩;have hh:(S.one nx (.arrA e Z.size (HT Z.size n cs)) (some ⟨S.w.heap.size,0,n⟩) [] (S.w.alloc (.cells us e))).ρ nx=some ⟨S.w.heap.size,0,n⟩:=by simp[Ax.one]
   rw[hh];simp only[Ax.one,BM,AI] at aa;subst aa;simp[Ac.len,dK]
 |some ds=>
  rw[hai] at O;simp only[IM] at O;refine⟨_,_,BD.one (u:=[]) (ks:=[]) (.inl ⟨rfl,rfl⟩) ?_,O⟩;intro C S a hW _ ad hnm Q;obtain⟨us,hr,hcs,hcl⟩:=ac C S a hW Q;refine⟨_,_,some ⟨S.w.heap.size,0,n⟩,.inl hr,Vv (w':=S.w.alloc (.cells us e)) (ob:= .cells us e) rfl rfl rfl rfl (ad rfl) (λn f hf=>hnm n f hf rfl),?_⟩;intro hp;have ag:=I5 _ _ hcs;rw[lE hai] at hcs hcl;have ai:=Lk hp.ok _ _ ((Ip _ _).1 hcs);constructor
  .simp only[Ap];refine⟨by rw[dK];exact hn,by rw[dK];exact AN _,us,ZD rfl,by simp[lE hai] at ag hcl;simp;omega,?_⟩;rw[Gd];exact Qq5 _ _ _ _ (WA _ _ ai) (by simpa using hcl)
  .simp only[Aa];refine⟨rfl,λe' aa=> ?_⟩;have hh:(S.one nx (.arr e Z.size (HT Z.size n ds)) (some ⟨S.w.heap.size,0,n⟩) [] (S.w.alloc (.cells us e))).ρ nx=some ⟨S.w.heap.size,0,n⟩:=by simp[Ax.one]
   rw[hh];simp only[Ax.one,BM,AI] at aa;subst aa;simp[Ac.len,dK]
end
def Qwm(n:Nat): ∀(r c:Nat),c<=2*(n+512)->Builtin.growBy n r c<=2*(n+512)
 |0,c,h=>by simpa[Builtin.growBy] using h
 |r+1,c,h=>by
  simp only[Builtin.growBy];split
  .exact h
  .exact Qwm n r _ (by omega)
def Qabm(n old:Nat)(h:old<n):Builtin.nextslicecap n old<=2*(n+512):=by
 unfold Builtin.nextslicecap;split
 .omega
 .split
  .omega
  .exact Qwm n 4 old (by omega)
def Qqs{S:Ax}{k:Nat}: ∀(rows0 rows:List (List AV)) (A L R:List Value),BG S k rows0 A->rows0.length*k<=A.length->BG S k rows L->
 rows.length*k<=L.length->BG S k (rows0++rows) (A.take (rows0.length*k)++(L++R))
 |[],rows,A,L,R,z,O,h,Q=>by
  simp only[FS,fY,ZV,FC];clear z O A;induction rows generalizing L with
  |nil=>simp only[BG]
  |cons r rows ih=>
   simp only[BG,CQ,F6,IJ] at h Q⊢;refine⟨h.1,lG _ _ _ h.2.1,?_⟩
   have:=ih (L.drop k) h.2.2 (by rw[Cj];omega)
   rwa [mK (by omega)]
 |r::rows0,rows,A,L,R,h0,hA,h,Q=>by
  simp only[BG,CQ,F6,IJ,De] at h0 hA⊢;have ih:=Qqs rows0 rows (A.drop k) L R h0.2.2 (by rw[Cj];omega) h Q;have e:A.take (rows0.length*k+k)=A.take k++(A.drop k).take (rows0.length*k):=by rw[<-ZW];congr 1;omega
  have hk:(A.take k).length=k:=by rw[BH];omega
  rw[e,Fb];refine⟨h0.1,?_,?_⟩
  .obtain⟨_,h5⟩:=Wu k r A h0.2.1 (by omega);have Z:=Wv _ _ h5;rw[D8 (by omega)] at Z;exact lG _ _ _ Z
  .rw[V7,CG (by omega),hk,HA];simpa using ih
def lF{S:Ax}{k:Nat}: ∀(rows:List (List D)) (L:List Value),rdr S.ok S.hp k rows L->BG S k (Bp rows) L
 |[],_,_=>by simp only[Bp,GX,BG]
 |r::rows,L,h=>by
  simp only[rdr] at h;simp only[Bp,Bg,BG];exact⟨by simpa using h.1,(yE _ _).2 h.2.1,lF rows _ h.2.2⟩
section
variable {P:Program}{w:World}
def kO{b p:Nat}{vs:Array Value}{U:TypeId}{Q:Nat×Nat}(Z:w.heap[b]? =some (.cells vs U Q)){n:Nat}(hn:p+n<=vs.size):
 (loadCells ⟨b,p,none⟩ n).run P w= .ok ((vs.toList.drop p).take n).toArray w:=by
 have hcs: ∀j v,((vs.toList.drop p).take n)[j]? =some v->w.cell? ((⟨b,p,none⟩:Addr).add j)=some v:=by
  intro j v z;rw[PQ,Qyp Z];rw[Xa] at z;split at z
  .rw[GW] at z;simpa using z
  .cases z
 have hl:((vs.toList.drop p).take n).length=n:=by rw[BH,Cj];simp;omega
 have O:=run_loadCells_list (P:=P) w ⟨b,p,none⟩ _ hcs;rwa [hl] at O
def Qo9{sT uT e ty:TypeId}{te:TI}(hs:P.underlying sT=some (.slice e))(hE:tI P e=some te){u2:TypeId}(Z:P.underlying uT=some (.slice u2))
 {base:Option Addr}{sLen sCap n:Nat}{x:Value}{L:List Value}(Q:(Builtin.lenOf x).run P w= .ok n w)(z:(Builtin.firstCells te.size n x).run P w= .ok L.toArray w)
 (O:sLen+n<=sCap):(Builtin.append_ #[sT,uT] ty #[.slice base sLen sCap,x]).run P w=
  ((match base with|some a=>storeCells (a.add (sLen*te.size)) L|none=>pure ())>>=λ_=>(pure (.slice base (sLen+n) sCap):Sem Value)).run P w:=by
 have h1:(underlying sT).run P w= .ok (.slice e) w:=by simp[underlying,hs]
 have h2:(underlying uT).run P w= .ok (.slice u2) w:=by simp[underlying,Z]
 unfold Builtin.append_;simp only[ZdB,Ho,J7,Sem.run_bind,h1,Result.andThen_ok,Jy hE,h2];simp only[Sem.run_pure,Result.andThen_ok,CP,CB,Q,Sem.run_ite,Ak O,Sem.run_bind,z,WX,BM];cases base<;>simp
def Qo8{sT uT e ty:TypeId}{O:TI}(hs:P.underlying sT=some (.slice e))(hE:tI P e=some O){u2:TypeId}(ah:P.underlying uT=some (.slice u2))(ad:O.bytes≠0)
 (hz:O.zero.length=O.size)(af:O.size≠0)
 {base:Option Addr}{sLen sCap n:Nat}{x:Value}{L old:List Value}(ab:(Builtin.lenOf x).run P w= .ok n w)(Q: ∀k,(Builtin.firstCells O.size n x).run P {w with drawn:=k}= .ok L.toArray {w with drawn:=k})
 (ac: ∀k,(Builtin.firstCells O.size sLen (.slice base sLen sCap)).run P {w with drawn:=k}= .ok old.toArray {w with drawn:=k})
 (Z: ¬sLen+n<=sCap)(ak:(sLen+n+512)*O.bytes<=140737488355328): ∃cap R,sLen+n<=cap/\R.length=(cap - (sLen+n))*O.size/\
  (Builtin.append_ #[sT,uT] ty #[.slice base sLen sCap,x]).run P w= .ok (.slice (some ⟨w.heap.size,0,none⟩) (sLen+n) cap) (World.alloc {w with drawn:=w.drawn+1} (.cells (old++L++R).toArray e)):=by
 have h1: ∀w:World,(underlying sT).run P w= .ok (.slice e) w:=by intro w;simp[underlying,hs]
 have h2: ∀w:World,(underlying uT).run P w= .ok (.slice u2) w:=by intro w;simp[underlying,ah]
 obtain⟨z,ai,aj,an⟩:=dO hE hz af;obtain⟨i,u,hi,hu,am,aa,_⟩:=PT hE;have ag: ∀w:World,(typeInfo e).run P w= .ok i w:=by intro w;simp[typeInfo,hi]
 refine⟨(Question.appendCap (sLen+n) sCap e).cut (w.tape w.drawn (.appendCap (sLen+n) sCap e)),(Builtin.zeroCells z.cells ((Question.appendCap (sLen+n) sCap e).cut (w.tape w.drawn (.appendCap (sLen+n) sCap e)) - (sLen+n))).toList,?_,?_,?_⟩
 .simp only[Question.cut];omega
 .simp[Builtin.zeroCells,aj]
 have hnc: ¬(Builtin.nextslicecap (sLen+n) sCap*i.bytes>2^48):=by
  rw[<-aa];have h3:=Qabm (sLen+n) sCap (by omega);have h4:=H9 O.bytes h3;have h5:2*(sLen+n+512)*O.bytes=2*((sLen+n+512)*O.bytes):=Nat.mul_assoc _ _ _;omega
 unfold Builtin.append_;simp only[ZdB,Ho,J7,Sem.run_bind,h1,Result.andThen_ok,Jy hE,h2];simp only[Sem.run_pure,Result.andThen_ok,CP,CB,ab,Sem.run_ite,Ad Z,Sem.run_bind,ag,WX,BM,false_or];rw[Ad (by rw[<-aa];exact λhh=>ad hh.2),Ad hnc];simp only[run_choose,Question.forced,CP,CB,Result.andThen_ok,run_askRoom,ac,Q,ai];simp only[newRow,Sem.run_bind,run_newObj,Result.andThen_ok,Sem.run_pure];rw[show (old++L++(Builtin.zeroCells z.cells ((Question.appendCap (sLen+n) sCap e).cut (w.tape w.drawn (.appendCap (sLen+n) sCap e)) - (sLen+n))).toList).toArray=
  old.toArray++L.toArray++Builtin.zeroCells z.cells ((Question.appendCap (sLen+n) sCap e).cut (w.tape w.drawn (.appendCap (sLen+n) sCap e)) - (sLen+n)) from by apply Ly;simp]
 rfl
end
def Qx7{ok:Nat->Prop}{hp:Nat->Option Obj}{z:List D}{x:List Value}(h:rdl ok hp z x): ∀(n m:Nat),n<=m->rdr ok hp z.length (List.replicate n z) (Ch m x)
 |0,_,_=>by simp only[List.replicate_zero,rdr]
 |n+1,0,Q=>by omega
 |n+1,m+1,Q=>by
  have O:=eJ _ _ h;simp only[Zeo,Ch,rdr];refine⟨trivial,tS _ _ _ (WA _ _ h),?_⟩;rw[V7,CG (by omega),O,HA];simpa using Qx7 h n m (by omega)
section
variable {P:Program}{tm:List (Nat×AV)}{h:Nat->Option An}{nx:Nat}{o:Oper}{K:Ai}
def Qrx{T:TypeId}{x y:Operand}(ho:o.op= .makeSlice T x y)(O:Bf (yP P nx (Aq tm x) (Aq tm y) K) (tI P T)):BT P tm h nx o K:=by
 cases hT:tI P T with
 |none=>rw[hT] at O;exact O.elim
 |some ti=>
 rw[hT] at O;simp only[Bf,yP] at O;cases hf:ti.kind<;>rw[hf] at O<;>try exact O.elim
 rename_i e;have hu:=PR hT hf;have au: ∃n m,Aq tm x= .im (.int .i64 n)/\Aq tm y= .im (.int .i64 m)/\Bf (msE nx e n m K) (tI P e):=by
  revert O;generalize Aq tm x=X;generalize Aq tm y=Y;intro O;cases X<;>try exact O.elim
  rename_i d;cases d<;>try exact O.elim
  rename_i k n;cases k<;>try exact O.elim
  cases Y<;>try exact O.elim
  rename_i d;cases d<;>try exact O.elim
  rename_i k m;cases k<;>try exact O.elim
  exact⟨_,_,rfl,rfl,O⟩
 obtain⟨n,m,hx,hy,O⟩:=au;cases hE:tI P e with
 |none=>rw[hE] at O;exact O.elim
 |some te=>
 rw[hE] at O;simp only[Bf,msE] at O;obtain⟨hz,ay,hnm,hm,aw,hl,O⟩:=O;obtain⟨z,an,ao,am⟩:=dO hE hl hz;obtain⟨i,u,hi,az,ax,ag,_⟩:=PT hE;have ak:z.cells.toList≠[]:=by
  intro hh
  have:z.cells.size=0:=by rw[<-Dn,hh];rfl
  omega
 have aq:((Array.range (m.toNat*te.size)).map λi=>z.cells[i % z.cells.size]!).toList=Ch m.toNat z.cells.toList:=by
  rw[<-Qrv _ ak m.toNat,V6,Zev,Dn,ao];apply Kr;intro i _;exact Qxx _ _
 refine⟨_,_,BD.one (u:=[]) (ks:=[]) (.inl ⟨rfl,rfl⟩) ?_,O⟩;intro C S a hW _ af ab Q;have h1:=Q x (by rw[ho];simp[Op.operands]);have h2:=Q y (by rw[ho];simp[Op.operands]);rw[hx] at h1;rw[hy] at h2;simp only[Aa,rd] at h1 h2;have ad:(execOp a.eval o).run P S.w= .ok (.value (.slice (some ⟨S.w.heap.size,0,none⟩) n.toNat m.toNat))
  (S.w.alloc (.cells ((Array.range (m.toNat*te.size)).map λi=>z.cells[i % z.cells.size]!) e)):=by
  have av:(i.bytes:Int)*m<=2^48:=by
   rw[<-ag];have h3:(te.bytes:Int)*m<=65536*m:=Zef (by omega) (by omega);omega
  have aj:IntKind.i64.wrap n=n:=IntWalk.i64_in n (by omega);have ai:IntKind.i64.wrap m=m:=IntWalk.i64_in m (by omega);simp only[execOp,ho,h1,h2,Instr.makeSlice,Sem.run_bind];rw[show (underlying T).run P S.w= .ok (.slice e) S.w from by simp[underlying,hu]];have ah:(typeInfo e).run P S.w= .ok i S.w:=by simp[typeInfo,hi]
  simp only[Result.andThen_ok,asInt,asIntOf,Sem.run_bind,Sem.run_pure,ah,aj,ai];have ac:((decide (m<0)||decide ((i.bytes:Int)*m>2^48))||decide (n<0)||decide (n>m))=false:=by
   simp only[Bool.or_eq_false_iff,Lw];omega
  rw[ac];simp only[CP,CB,Sem.run_bind,run_askRoom,Result.andThen_ok,Jy hE,Sem.run_ite,an,newRow,run_newObj,Sem.run_pure];by_cases aa:m.toNat*te.size=0
  .have:((Array.range 0).map λi=>(#[]:Array Value)[i % (#[]:Array Value).size]!)=(Array.range 0).map λi=>z.cells[i % z.cells.size]! :=by simp
   simp only[aa,BM,Result.andThen_ok,this];simp
  .simp only[aa,CB,Result.andThen_ok];simp
 refine⟨_,_,some ⟨S.w.heap.size,0,m.toNat⟩,.inl ad,Vv (w':=S.w.alloc (.cells _ e)) (ob:= .cells _ e) rfl rfl rfl rfl (af rfl) (λn f hf=>ab n f hf rfl),?_⟩;intro hp;constructor
 .simp only[Ap];refine⟨by simp[JL];omega,by simp;omega,_,ZD rfl,by simp,?_⟩;rw[Gd,aq,<-hl];exact Qx7 (am _ _) _ _ (by omega)
 .simp only[Aa];refine⟨rfl,λe' Z=> ?_⟩;simp only[Ax.one,BM,AI] at Z⊢;subst Z;simp[Ac.len]
end
def jV(l:Option F1)(n:Nat):Value:=match l with|none=> .slice none 0 0|some l=> .slice (some ⟨l.b,l.p,none⟩) n l.cap
def aX(S:Ax)(e z sLen:Nat)(A:List Value):Option F1->Prop
 |none=>sLen=0/\A=[]
 |some l=>sLen<=l.cap/\ ∃vs,S.hp l.b=some (.cells vs e (0,0))/\A=vs.toList.drop l.p/\l.p+l.cap*z<=vs.size
section
variable {P:Program}
def Ol{C:AY}{S:Ax}(hW:Wf C S){nx:Nat}{ks:List Nat}{sT uT e ty u2:TypeId}{z:TI}(hs:P.underlying sT=some (.slice e))(hE:tI P e=some z)
 (ad:P.underlying uT=some (.slice u2))(an:z.bytes≠0)(hz:z.zero.length=z.size)(av:z.size≠0){sLen n:Nat}(ak:(sLen+n+512)*z.bytes<=140737488355328)
 {l0:Option F1}{A:List Value}(hA:aX S e z.size sLen A l0)
 {x:Value}{L:List Value}(Z:(Builtin.lenOf x).run P S.w= .ok n S.w)(O: ∀k,(Builtin.firstCells z.size n x).run P {S.w with drawn:=k}= .ok L.toArray {S.w with drawn:=k})
 (hL:L.length=n*z.size)(au: ∀v∈L,v.oneCell'=true)(ah: ∀l,l0=some l-> ∃o f,o∈ks/\S.h o=some (true,f)/\S.ρ o=some l)
 (ab:S.h nx=none)(aa: ∀n f,S.h n=some f->nx∉f.2.nms):
 ∃w' l',(Builtin.append_ #[sT,uT] ty #[jV l0 sLen,x]).run P S.w= .ok (jV l' (sLen+n)) w'/\(∀ea,IA S nx ea l' ks w')/\
  match l' with|none=>sLen=0/\n=0|some l=>sLen+n<=l.cap/\ ∃vs R,w'.heap[l.b]? =some (.cells vs e (0,0))/\l.p+l.cap*z.size<=vs.size/\
   vs.toList.drop l.p=A.take (sLen*z.size)++(L++R):=by
 have ac:{S.w with drawn:=S.w.drawn}=S.w:=rfl;cases l0 with
 |none=>
  obtain⟨h0,hA⟩:=hA;subst h0 hA;by_cases hn:n=0
  .subst hn;have aw:L=[]:=Rj.1 (by simpa using hL);subst aw;refine⟨S.w,none,?_,λea=>Ql6 ab aa,rfl,rfl⟩
   have:=Qo9 (P:=P) (w:=S.w) (ty:=ty) hs hE ad (base:=none) (sLen:=0) (sCap:=0) Z (by have:=O S.w.drawn;rwa [ac] at this) (by omega)
   simpa[jV] using this
  .obtain⟨cap,R,h1,h2,h3⟩:=Qo8 (P:=P) (w:=S.w) (ty:=ty) hs hE ad an hz av (base:=none) (sLen:=0) (sCap:=0) (old:=[]) Z O (by intro k;simp[Builtin.firstCells]) (by omega) ak;refine⟨_,some ⟨S.w.heap.size,0,cap⟩,h3,λea=>Vv (w':=World.alloc {S.w with drawn:=S.w.drawn+1} (.cells ([]++L++R).toArray e)) (ob:= .cells ([]++L++R).toArray e) rfl rfl rfl rfl ab aa,h1,([]++L++R).toArray,R,by simp[World.alloc],?_,by simp⟩;have h4:n*z.size+(cap - (0+n))*z.size=cap*z.size:=by rw[<-F6];congr 1;omega
   rw[Gg] at h2 h4;simp[hL,h2];omega
 |some l=>
  obtain⟨af,vs,hb,ag,a0⟩:=hA;have a8:A.length=vs.size - l.p:=by rw[ag];simp
  by_cases Q:sLen+n<=l.cap
  .have az:sLen*z.size+n*z.size<=l.cap*z.size:=by rw[<-F6];exact H9 _ Q
   obtain⟨w',h1,h2,h3,h4,h5⟩:=Qf9 (P:=P) (w:=S.w) (b:=l.b) (p:=l.p+sLen*z.size) (T:=e) L 0 vs au (by rw[hL];omega) hb;obtain⟨o,f,ao,ai,aj⟩:=ah l rfl;have am:=(hW.loc o _ l ai aj).1;refine⟨w',some l,?_,?_,Q,(Ce vs.toList (l.p+sLen*z.size+0) L).toArray,A.drop (sLen*z.size+L.length),?_,?_,?_⟩
   .have:=Qo9 (P:=P) (w:=S.w) (ty:=ty) hs hE ad (base:=some ⟨l.b,l.p,none⟩) (sLen:=sLen) (sCap:=l.cap) Z (by have:=O S.w.drawn;rwa [ac] at this) Q
    simp only[PQ,Sem.run_bind,h1,Result.andThen_ok,Sem.run_pure] at this;simpa[jV] using this
   .intro ea;refine⟨h3,h4,h5,by rw[h2];simp,?_,.inr ab,?_,?_,λn f hf _=>aa n f hf⟩
    .intro b a9 ay
     have:=ay o f l ao ai aj
     rw[h2,fR,Ad this]
    .intro lo ax;obtain rfl:=A7 ax;exact⟨by rw[h2];simpa using am,.inr ⟨o,f,l,ao,ai,aj,rfl⟩⟩
    .intro f hf;rw[ab] at hf;cases hf
   .rw[h2];simp[am]
   .simp[Ce,BH,Cj];omega
   .rw[Qi,Zep,yL _ _ _ _ (by simp;omega),<-ag];simp[Ce]
  .have aq: ∀k,(Builtin.firstCells z.size sLen (.slice (some ⟨l.b,l.p,none⟩) sLen l.cap)).run P {S.w with drawn:=k}= .ok (A.take (sLen*z.size)).toArray {S.w with drawn:=k}:=by
    intro k;have az:sLen*z.size<=l.cap*z.size:=H9 _ af;rw[ag];exact kO (w:={S.w with drawn:=k}) hb (by omega)
   obtain⟨cap,R,h1,h2,h3⟩:=Qo8 (P:=P) (w:=S.w) (ty:=ty) hs hE ad an hz av (base:=some ⟨l.b,l.p,none⟩) (sLen:=sLen) (sCap:=l.cap) Z O aq Q ak;refine⟨_,some ⟨S.w.heap.size,0,cap⟩,h3,λea=>Vv (w':=World.alloc {S.w with drawn:=S.w.drawn+1} (.cells (A.take (sLen*z.size)++L++R).toArray e)) (ob:= .cells (A.take (sLen*z.size)++L++R).toArray e) rfl rfl rfl rfl ab aa,h1,(A.take (sLen*z.size)++L++R).toArray,R,by simp[World.alloc],?_,by simp⟩;have h4:sLen*z.size+n*z.size+(cap - (sLen+n))*z.size=cap*z.size:=by rw[<-F6,<-F6];congr 1;omega
   have h5:sLen*z.size<=l.cap*z.size:=H9 _ af;simp[hL,h2,BH];omega
def tF{S:Ax}{k:Nat}: ∀(rows:List (List AV)) (L:List Value),BY QV rows->BG S k rows L->rows.length*k<=L.length-> ∀v∈L.take (rows.length*k),v.oneCell'=true
 |[],L,_,_,_=>by simp
 |r::rows,L,Q,h,Z=>by
  simp only[BG] at h;simp only[CQ,F6,IJ] at Z⊢;have e:L.take (rows.length*k+k)=L.take k++(L.drop k).take (rows.length*k):=by rw[<-ZW];congr 1;omega
  rw[e];intro v z;rcases Bs.1 z with z|z
  .obtain⟨_,O⟩:=Wu k r L h.2.1 (by omega);rw[D8 (Zfs h.1)] at O;exact kN r _ (Q r (by simp)) O v z
  .exact tF rows _ (λx hx=>Q x (by simp[hx])) h.2.2 (by rw[Cj];omega) v z
def Qsa: ∀(r:List D),BK r=true->QV (r.map .im)=true
 |[],_=>rfl
 |x::r,h=>by
  simp only[BK,AL] at h;simp only[Bg,QV,AV.one,AL];exact⟨h.1,Qsa r h.2⟩
def Qyt{rows:List (List D)}(h:BY BK rows):BY QV (Bp rows):=by
 intro r z;simp only[Bp,Bh] at z;obtain⟨x,O,rfl⟩:=z;exact Qsa x (h x O)
def Qrl{ok:Nat->Prop}{hp:Nat->Option Obj}{k:Nat}: ∀(rows:List (List D)) (L:List Value),rdr ok hp k rows L->rows.length*k<=L.length->rdr ok hp k rows (L.take (rows.length*k))
 |[],_,_,_=>by simp only[rdr]
 |r::rows,L,h,Q=>by
  simp only[rdr,CQ,F6,IJ] at h Q⊢;refine⟨h.1,?_,?_⟩
  .obtain⟨_,O⟩:=Vt k r L h.2.1 (by omega);have z:=WA _ _ O;rw[D8 (by omega)] at z;have e:L.take (rows.length*k+k)=L.take k++(L.drop k).take (rows.length*k):=by rw[<-ZW];congr 1;omega
   rw[e];exact tS _ _ _ z
  .rw[Zfh]
   have:=Qrl rows _ h.2.2 (by rw[Cj];omega)
   rwa [show rows.length*k+k - k=rows.length*k from by omega]
def yT{S:Ax}{k:Nat}: ∀(rows:List (List AV)) (L:List Value),BG S k rows L->rows.length*k<=L.length->BG S k rows (L.take (rows.length*k))
 |[],_,_,_=>by simp only[BG]
 |r::rows,L,h,Q=>by
  simp only[BG,CQ,F6,IJ] at h Q⊢;refine⟨h.1,?_,?_⟩
  .obtain⟨_,O⟩:=Wu k r L h.2.1 (by omega);have z:=Wv _ _ O;rw[D8 (by omega)] at z;have e:L.take (rows.length*k+k)=L.take k++(L.drop k).take (rows.length*k):=by rw[<-ZW];congr 1;omega
   rw[e];exact lG _ _ _ z
  .rw[Zfh]
   have:=yT rows _ h.2.2 (by rw[Cj];omega)
   rwa [show rows.length*k+k - k=rows.length*k from by omega]
def Qxq{ok:Nat->Prop}{hp:Nat->Option Obj}{k:Nat}: ∀(rows:List (List D)) (L:List Value),rdr ok hp k rows L->k≠0->rows.length*k<=L.length
 |[],_,_,_=>by simp
 |r::rows,L,h,z=>by
  simp only[rdr,CQ,F6,IJ] at h⊢;obtain⟨O,_⟩:=Vt k r L h.2.1 (by omega)
  have:=Qxq rows _ h.2.2 z
  rw[Cj] at this;omega
def BX.rows:BX->List (List AV)
 | .d _ _ rows=>Bp rows
 | .a _ _ rows=>rows
 | .no=>[]
def BX.w:BX->Nat
 | .d _ k _| .a _ k _=>k
 | .no=>0
def BX.us:BX->List Nat
 | .d u _ _| .a u _ _=>u
 | .no=>[]
def UK{C:AY}{S:Ax}(hW:Wf C S){h:Nat->Option An}{X:AV}{v:Value}(hc:Aa S X v)(hu: ∀n∈(DP h X).us,S.h n=h n)(Q:(DP h X).okOne)
 {z:Nat}(hz:z≠0)(hk:(DP h X).w=z\/(DP h X).rows=[]):
 ∃L,(Builtin.lenOf v).run P S.w= .ok (DP h X).rows.length S.w/\(∀k,(Builtin.firstCells z (DP h X).rows.length v).run P {S.w with drawn:=k}= .ok L.toArray {S.w with drawn:=k})/\
  L.length=(DP h X).rows.length*z/\BG S z (DP h X).rows L/\(∀v∈L,v.oneCell'=true)/\(DP h X).rows.length<=JL:=by
 cases X<;>try exact Q.elim
 case im d=>
  cases d<;>try exact Q.elim
  rename_i nz k rows;simp only[DP,BX.rows,BX.w,BX.okOne] at Q hk⊢;simp only[Aa,rd] at hc;rcases hc with ⟨rfl|⟨_,a,rfl⟩,rfl⟩|⟨b,p,cap,vs,T,fr,rfl,_,h2,h3,_,h5,h6⟩
  .exact⟨[],by simp[Builtin.lenOf,Bp],by simp[Builtin.firstCells],by simp[Bp],by simp[Bp,BG],by simp,by simp[Bp]⟩
  .refine⟨[],by simp[Builtin.lenOf,Bp],?_,by simp[Bp],by simp[Bp,BG],by simp,by simp[Bp]⟩;intro j;simp[Builtin.firstCells,Bp,loadCells,loadCellsFrom]
  .by_cases hr:rows=[]
   .subst hr;refine⟨[],by simp[Builtin.lenOf,Bp],?_,by simp[Bp],by simp[Bp,BG],by simp,by simp[Bp]⟩;intro j;simp[Builtin.firstCells,Bp,loadCells,loadCellsFrom]
   .have ad:k=z:=by
     rcases hk with hk|hk
     .exact hk
     .simp[Bp] at hk;exact absurd hk hr
    subst ad;have hl:=Qxq rows _ h6 hz;have hvs:vs.toList.length=vs.size:=Dn;have ac:=lF _ _ h6;have O:(Bp rows).length=rows.length:=by simp[Bp]
    refine⟨(vs.toList.drop p).take (rows.length*k),by simp[Builtin.lenOf,Bp],?_,?_,?_,?_,by rw[O];exact h3⟩
    .intro j;rw[O];refine kO (w:={S.w with drawn:=j}) h5 ?_;by_cases aj:p<=vs.size
     .rw[Cj,hvs] at hl;omega
     .have:0<rows.length*k:=Nat.mul_pos (mQ.2 hr) (by omega)
      rw[Cj,hvs] at hl;omega
    .rw[BH,O];omega
    .have:=yT _ _ ac (by rw[O];exact hl)
     rwa [O] at this
    .have:=tF _ _ (Qyt Q) ac (by rw[O];exact hl)
     rwa [O] at this
 case own n=>
  simp only[DP] at Q hk hu⊢;simp only[Aa] at hc;cases hn:h n with
  |none=>rw[hn] at Q;exact Q.elim
  |some e=>
  rw[hn] at Q hk hu;obtain⟨mu,e⟩:=e;cases e<;>try exact Q.elim
  case arr T k rows=>
   simp only[ZB,BX.rows,BX.w,BX.okOne,BX.us] at Q hk hu⊢;have hS:S.h n=_:=(hu n (by simp)).trans hn;have Z:=hW.obj _ _ hS;have hc:=hc.2 _ hS;have O:(Bp rows).length=rows.length:=by simp[Bp]
   cases hl0:S.ρ n with
   |none=>
    rw[hl0] at hc Z;simp only[Ap] at Z;obtain⟨_,rfl⟩:=Z;simp only at hc;subst hc;exact⟨[],by simp[Builtin.lenOf,Bp],by simp[Builtin.firstCells],by simp[Bp],by simp[Bp,BG],by simp,by simp[Bp]⟩
   |some l=>
    rw[hl0] at hc Z;simp only[Ap,Ac.len] at Z hc;subst hc;obtain⟨aa,ab,vs,hb,ai,hr⟩:=Z;by_cases ag:rows=[]
    .subst ag;refine⟨[],by simp[Builtin.lenOf,Bp],?_,by simp[Bp],by simp[Bp,BG],by simp,by simp[Bp]⟩;intro j;simp[Builtin.firstCells,Bp,loadCells,loadCellsFrom]
    .have ad:k=z:=by
      rcases hk with hk|hk
      .exact hk
      .simp[Bp] at hk;exact absurd hk ag
     subst ad;have ac:=lF _ _ hr;have ah:rows.length*k<=l.cap*k:=H9 _ ab;have hvs:vs.toList.length=vs.size:=Dn;have af:rows.length*k<=(vs.toList.drop l.p).length:=by rw[Cj,hvs];omega
     refine⟨(vs.toList.drop l.p).take (rows.length*k),by simp[Builtin.lenOf,Bp],?_,?_,?_,?_,by rw[O];exact aa⟩
     .intro j;rw[O];exact kO (w:={S.w with drawn:=j}) hb (by omega)
     .rw[BH,O];omega
     .have:=yT _ _ ac (by rw[O];exact af)
      rwa [O] at this
     .have:=tF _ _ (Qyt Q) ac (by rw[O];exact af)
      rwa [O] at this
  case arrA T k rows=>
   simp only[ZB,BX.rows,BX.w,BX.okOne,BX.us] at Q hk hu⊢;have hS:S.h n=_:=(hu n (by simp)).trans hn;have Z:=hW.obj _ _ hS;have hc:=hc.2 _ hS;cases hl0:S.ρ n with
   |none=>
    rw[hl0] at hc Z;simp only[Ap] at Z;obtain⟨_,rfl⟩:=Z;simp only at hc;subst hc;exact⟨[],by simp[Builtin.lenOf],by simp[Builtin.firstCells],by simp,by simp[BG],by simp,by simp⟩
   |some l=>
    rw[hl0] at hc Z;simp only[Ap,Ac.len] at Z hc;subst hc;obtain⟨aa,ab,vs,hb,ai,hr⟩:=Z;by_cases ag:rows=[]
    .subst ag;refine⟨[],by simp[Builtin.lenOf],?_,by simp,by simp[BG],by simp,by simp⟩;intro j;simp[Builtin.firstCells,loadCells,loadCellsFrom]
    .have ad:k=z:=by
      rcases hk with hk|hk
      .exact hk
      .exact absurd hk ag
     subst ad;have ah:rows.length*k<=l.cap*k:=H9 _ ab;have hvs:vs.toList.length=vs.size:=Dn;have af:rows.length*k<=(vs.toList.drop l.p).length:=by rw[Cj,hvs];omega
     refine⟨(vs.toList.drop l.p).take (rows.length*k),by simp[Builtin.lenOf],?_,?_,?_,?_,aa⟩
     .intro j;exact kO (w:={S.w with drawn:=j}) hb (by omega)
     .rw[BH];omega
     .exact yT _ _ hr af
     .exact tF _ _ Q hr af
end
def Qjh{S:Ax}{k:Nat}: ∀(rows:List (List D)) (L:List Value),BG S k (Bp rows) L->rdr S.ok S.hp k rows L
 |[],_,_=>by simp only[rdr]
 |r::rows,L,h=>by
  simp only[Bp,Bg,BG] at h;simp only[rdr];exact⟨by simpa using h.1,(yE _ _).1 h.2.1,Qjh rows _ h.2.2⟩
def Yj{S S':Ax}{T k:Nat}{rows:List (List D)}{l:Option F1}(O:S'.ok=S.ok)(z:S'.hp=S.hp)(h:Ap S l (.arrA T k (Bp rows))):Ap S' l (.arr T k rows):=by
 simp only[Ap] at h⊢;refine⟨by simpa[Bp] using h.1,?_⟩;cases l with
 |none=>simpa[Bp] using h.2
 |some lc=>
  obtain⟨_,Q,vs,Z,h3,h4⟩:=h;refine⟨by simpa[Bp] using Q,vs,by rw[z];exact Z,h3,?_⟩;rw[O,z];exact Qjh _ _ h4
section
variable {P:Program}{tm:List (Nat×AV)}{h:Nat->Option An}{nx:Nat}{o:Oper}{K:Ai}
def Om{T U u2 e:TypeId}{O:TI}{s x:Operand}(hT:P.underlying T=some (.slice e))(hU:P.underlying U=some (.slice u2))(hE:tI P e=some O)
 {c:Call}(ho:o.op= .call c)(af:c.callee= .builtin .append)(ab:c.args= #[s,x])(bp:c.argTypes= #[T,U])
 (ao:O.bytes≠0)(hz:O.zero.length=O.size)(aa:O.size≠0){u ks:List Nat}{rows0:List (List AV)}
 (a0:(DP h (Aq tm x)).okOne)(hw:(DP h (Aq tm x)).w=O.size\/(DP h (Aq tm x)).rows=[])(ba: ∀n∈(DP h (Aq tm x)).us,n∈u++ks)
 (be:(rows0.length+(DP h (Aq tm x)).rows.length+512)*O.bytes<=140737488355328)
 (hnm: ∀m∈B9 (rows0++(DP h (Aq tm x)).rows),∃n f,n∈u++ks/\h n=some f/\m∈f.2.nms)
 (az:((∃k0,Aq tm s= .im (.sl true k0 []))/\rows0=[])\/(∃n f,Aq tm s= .own n/\n∈ks/\h n=some (true,f)/\((∃rows,f= .arr e O.size rows/\rows0=Bp rows)\/f= .arrA e O.size rows0)))
 {ea:Ac}(av:ea= .arrA e O.size (rows0++(DP h (Aq tm x)).rows)\/ ∃rows,ea= .arr e O.size rows/\Bp rows=rows0++(DP h (Aq tm x)).rows)
 (hk:K (.own nx) {use:=u,kill:=ks,new:=[(nx,(true,ea))],cnt:=1}):BT P tm h nx o K:=by
 refine⟨_,_,BD.one (u:=u) (ks:=ks) (.inl ⟨rfl,rfl⟩) ?_,hk⟩;intro C S a hW hu bg ah ai;have Z:=ai s (by rw[ho];simp[Op.operands,Call.operands,ab,af]);have h2:=ai x (by rw[ho];simp[Op.operands,Call.operands,ab,af]);obtain⟨L,ax,ag,an,bd,bc,br⟩:=UK hW h2 (λn hn=>hu n (ba n hn)) a0 aa hw;have bm:=bg rfl;have am: ∃l0 A,a.eval s=jV l0 rows0.length/\aX S e O.size rows0.length A l0/\
  (∀l,l0=some l-> ∃o f,o∈ks/\S.h o=some (true,f)/\S.ρ o=some l)/\BG S O.size rows0 A/\rows0.length*O.size<=A.length:=by
  rcases az with ⟨⟨k0,hs⟩,rfl⟩|⟨n,f,hs,ay,hf,aw⟩
  .rw[hs] at Z;simp only[Aa,rd] at Z;rcases Z with ⟨Z,_⟩|⟨b,p,cap,vs,T,fr,_,bj,_⟩
   .have Z:=Qr7 Z;exact⟨none,[],by rw[Z];rfl,⟨rfl,rfl⟩,(by intro l hl;cases hl),by simp only[BG],by simp⟩
   .exact absurd rfl (bj trivial)
  .rw[hs] at Z;have hS:S.h n=_:=(hu n (by simp[ay])).trans hf;have z:=hW.obj _ _ hS;simp only[Aa] at Z;have Z:=Z.2 _ hS;cases hl0:S.ρ n with
   |none=>
    rw[hl0] at Z z;simp only at Z
    have:rows0=[]:=by
     rcases aw with ⟨rows,rfl,rfl⟩|rfl
     .simp only[Ap] at z;rw[z.2];rfl
     .simp only[Ap] at z;exact z.2
    subst this;exact⟨none,[],by rw[Z];rfl,⟨rfl,rfl⟩,(by intro l hl;cases hl),by simp only[BG],by simp⟩
   |some l=>
    rw[hl0] at Z z;simp only at Z;have aq:f.len=rows0.length/\rows0.length<=l.cap/\ ∃vs,S.hp l.b=some (.cells vs e (0,0))/\l.p+l.cap*O.size<=vs.size/\BG S O.size rows0 (vs.toList.drop l.p):=by
     rcases aw with ⟨rows,rfl,rfl⟩|rfl
     .simp only[Ap] at z;obtain⟨_,Q,vs,hb,aa,hr⟩:=z;exact⟨by simp[Ac.len,Bp],by simpa[Bp] using Q,vs,hb,aa,lF _ _ hr⟩
     .simp only[Ap] at z;obtain⟨_,Q,vs,hb,aa,hr⟩:=z;exact⟨rfl,Q,vs,hb,aa,hr⟩
    obtain⟨bf,Q,vs,hb,aa,hr⟩:=aq;have bt:rows0.length*O.size<=l.cap*O.size:=H9 _ Q;have hvs:vs.toList.length=vs.size:=Dn;refine⟨some l,vs.toList.drop l.p,by rw[Z,bf];rfl,⟨Q,vs,hb,rfl,aa⟩,?_,hr,by rw[Cj,hvs];omega⟩;intro l' bh;obtain rfl:=A7 bh;exact⟨n,f,ay,hS,hl0⟩
 obtain⟨l0,A,hv,hA,aj,bo,bb⟩:=am;obtain⟨w',l',a8,bn,ad⟩:=Ol hW (nx:=nx) (ks:=ks) (ty:=o.type) hT hE hU ao hz aa be hA ax ag an bc aj bm (λn f hf=>ah n f hf rfl);refine⟨jV l' (rows0.length+(DP h (Aq tm x)).rows.length),w',l',.inl ?_,bn ea,?_⟩
 .simp only[execOp,ho,resolve,af,ab,bp,Sem.run_bind,Sem.run_pure,Result.andThen_ok,invoke,builtin];simp[hv,a8]
 intro hp;have bu:O.bytes≠0:=ao;have a9:rows0.length+(DP h (Aq tm x)).rows.length<=JL:=by
  have:(rows0.length+(DP h (Aq tm x)).rows.length+512)*1<=(rows0.length+(DP h (Aq tm x)).rows.length+512)*O.bytes:=Nat.mul_le_mul_left _ (by omega)
  simp only[JL];omega
 have hX: ∀m∈B9 (rows0++(DP h (Aq tm x)).rows),S.h nx≠none\/m≠nx:=by
  intro m hm;obtain⟨n,f,bl,hf,bi⟩:=hnm m hm;right;rintro rfl;exact ah n f ((hu n bl).trans hf) rfl bi
 have ac:Ap (S.one nx ea l' ks w') l' (.arrA e O.size (rows0++(DP h (Aq tm x)).rows)):=by
  simp only[Ap,CD];refine⟨a9,?_⟩;cases l' with
  |none=>
   simp only at ad⊢;rw[List.append_eq_nil_iff];exact⟨Rj.1 ad.1,Rj.1 ad.2⟩
  |some l=>
   obtain⟨h3,vs,R,h4,h5,h6⟩:=ad;refine⟨h3,vs,h4,h5,?_⟩;rw[h6];exact sA hp _ _ _ hX (Qqs _ _ _ _ _ bo bb bd (by rw[an];exact AN _))
 have ak:ea.len=rows0.length+(DP h (Aq tm x)).rows.length:=by
  rcases av with rfl|⟨rows,rfl,hr⟩
  .simp[Ac.len]
  .simp only[Ac.len];rw[<-CD,<-hr];simp[Bp]
 constructor
 .rcases av with rfl|⟨rows,rfl,hr⟩
  .exact ac
  .rw[<-hr] at ac;exact Yj rfl rfl ac
 .simp only[Aa];refine⟨by cases l'<;>rfl,λe' au=> ?_⟩;simp only[Ax.one,BM,AI] at au⊢;subst au;cases l' with
  |none=>rfl
  |some l=>simp only[jV];rw[ak]
def lT(rows:List (List D)):B9 (Bp rows)=[]:=by
 induction rows with
 |nil=>rfl
 |cons r rows ih=>simp only[Bp,Bg,B9,Qw0,FC];exact ih
def sX: ∀(a b:List (List AV)),B9 (a++b)=B9 a++B9 b
 |[],_=>rfl
 |x::a,b=>by simp[B9,sX a b]
def P5{X:AV}{m:Nat}(z:m∈B9 (DP h X).rows): ∃n f,n∈(DP h X).us/\h n=some f/\m∈f.2.nms:=by
 cases X<;>try (simp only[DP,BX.rows,B9] at z;cases z;done)
 case im d=>cases d<;>simp only[DP,BX.rows,lT,B9] at z<;>cases z
 case own n=>
  simp only[DP] at z⊢;cases hn:h n with
  |none=>rw[hn] at z;simp only[ZB,BX.rows,B9] at z;cases z
  |some e=>
   rw[hn] at z;obtain⟨O,e⟩:=e;cases e<;>simp only[ZB,BX.rows,lT,B9] at z<;>try cases z
   refine⟨n,_,by simp[BX.us,ZB],hn,z⟩
def Qab5{T U:TypeId}{s x:Operand}{c:Call}(ho:o.op= .call c)(ag:c.callee= .builtin .append)(ad:c.args= #[s,x])(am:c.argTypes= #[T,U])
 (z:Bf (zM P h nx (Aq tm s) (Aq tm x) T K) (tI P U)):BT P tm h nx o K:=by
 cases hU:tI P U with
 |none=>rw[hU] at z;exact z.elim
 |some ui=>
 rw[hU] at z;simp only[Bf,zM] at z;obtain⟨ah,z⟩:=z;cases hu:ui.kind<;>rw[hu] at ah<;>simp only[TK.isSl,CP] at ah;rename_i u2;have aj:=PR hU hu;cases hT:tI P T with
 |none=>rw[hT] at z;exact z.elim
 |some ti=>
 rw[hT] at z;simp only[Qsl] at z;cases hf:ti.kind<;>rw[hf] at z<;>try exact z.elim
 rename_i e;have ai:=PR hT hf;simp only[apK] at z;cases hE:tI P e with
 |none=>rw[hE] at z;exact z.elim
 |some te=>
 rw[hE] at z;simp only[Bf,apE] at z;obtain⟨hz,hl,ak,Z,z⟩:=z;have ab: ∀{m:Nat},m∈B9 (DP h (Aq tm x)).rows-> ∃n f,n∈(DP h (Aq tm x)).us/\h n=some f/\m∈f.2.nms:=λhm=>P5 hm
 have O:= @Om P tm h nx o K T U u2 e te s x ai aj hE c ho ag ad am ak hl hz;revert O;generalize DP h (Aq tm x)=src at z Z ab;intro O;cases hs:Aq tm s<;>rw[hs] at z<;>try exact z.elim
 case im d=>
  cases d<;>try exact z.elim
  rename_i nz k0 rows;cases nz<;>cases rows<;>try exact z.elim
  simp only[Rr] at z;cases src with
  |no=>exact z.elim
  |d u k rows=>
   simp only[N2] at z;obtain⟨Q,hb,z⟩:=z;refine O (u:=u) (ks:=[]) (rows0:=[]) Z (Q.imp id (λh=>by rw[h];rfl)) (by simp[BX.us]) (by simpa[BX.rows,Bp] using hb) ?_ (.inl ⟨⟨k0,hs⟩,rfl⟩) (.inr ⟨rows,rfl,by simp[BX.rows]⟩) z;intro m hm;simp only[FC,BX.rows,lT] at hm;cases hm
  |a u k rows=>
   simp only[N2] at z;obtain⟨Q,hb,z⟩:=z;refine O (u:=u) (ks:=u) (rows0:=[]) Z (.inl Q) (by simp[BX.us]) (by simpa[BX.rows] using hb) ?_ (.inl ⟨⟨k0,hs⟩,rfl⟩) (.inl (by simp[BX.rows])) z;intro m hm;obtain⟨n,f,hn,hf⟩:=ab hm;exact⟨n,f,by simp[BX.us] at hn;simp[hn],hf⟩
 case own n=>
  simp only[Rr] at z;cases hn:h n with
  |none=>rw[hn] at z;exact z.elim
  |some ac=>
  rw[hn] at z;obtain⟨mu,ac⟩:=ac;cases mu<;>cases ac<;>try exact z.elim
  case true.arr U0 k0 rows0=>
   simp only[IK] at z;obtain⟨rfl,rfl,z⟩:=z;cases src with
   |no=>exact z.elim
   |d u k rows=>
    simp only[mY] at z;obtain⟨Q,af,hb,z⟩:=z;refine O (u:=n::u) (ks:=[n]) (rows0:=Bp rows0) Z (Q.imp id (λh=>by rw[h];rfl)) (by intro x hx;simp[BX.us] at hx;simp[hx]) (by simpa[BX.rows,Bp] using hb) ?_
     (.inr ⟨n,_,hs,by simp,hn,.inl ⟨rows0,rfl,rfl⟩⟩) (.inr ⟨rows0++rows,rfl,by simp[BX.rows,Bp]⟩) z
    intro m hm;simp only[BX.rows,sX,lT] at hm;cases hm
   |a u k rows=>
    simp only[mY] at z;obtain⟨Q,af,hb,z⟩:=z;refine O (u:=n::u) (ks:=n::u) (rows0:=Bp rows0) Z (.inl Q) (by intro x hx;simp[BX.us] at hx;simp[hx]) (by simpa[BX.rows,Bp] using hb) ?_
     (.inr ⟨n,_,hs,by simp,hn,.inl ⟨rows0,rfl,rfl⟩⟩) (.inl (by simp[BX.rows])) z
    intro m hm;simp only[sX,lT,FC] at hm;obtain⟨n',f,aa,hf⟩:=ab hm;exact⟨n',f,by simp[BX.us] at aa;simp[aa],hf⟩
  case true.arrA U0 k0 rows0=>
   simp only[IK] at z;obtain⟨rfl,rfl,z⟩:=z;cases src with
   |no=>exact z.elim
   |d u k rows=>
    simp only[mX] at z;obtain⟨Q,af,hb,z⟩:=z;refine O (u:=n::u) (ks:=[n]) (rows0:=rows0) Z (Q.imp id (λh=>by rw[h];rfl)) (by intro x hx;simp[BX.us] at hx;simp[hx]) (by simpa[BX.rows,Bp] using hb) ?_
     (.inr ⟨n,_,hs,by simp,hn,.inr rfl⟩) (.inl (by simp[BX.rows])) z
    intro m hm;simp only[BX.rows,sX,lT,DA] at hm;exact⟨n,_,by simp,hn,hm⟩
   |a u k rows=>
    simp only[mX] at z;obtain⟨Q,af,hb,z⟩:=z;refine O (u:=n::u) (ks:=n::u) (rows0:=rows0) Z (.inl Q) (by intro x hx;simp[BX.us] at hx;simp[hx]) (by simpa[BX.rows] using hb) ?_
     (.inr ⟨n,_,hs,by simp,hn,.inr rfl⟩) (.inl (by simp[BX.rows])) z
    intro m hm;simp only[sX,Bs] at hm;rcases hm with hm|hm
    .exact⟨n,_,by simp,hn,hm⟩
    .obtain⟨n',f,aa,hf⟩:=ab hm;exact⟨n',f,by simp[BX.us] at aa;simp[aa],hf⟩
end
def Qx9{ok:Nat->Prop}{hp:Nat->Option Obj}: ∀(ds:List (D×D)) (es:List MapEntry),rde ok hp ds es->es.length=ds.length
 |[],_,h=>by simp only[rde] at h;simp[h]
 |(x,y)::ds,_,h=>by
  simp only[rde] at h;obtain⟨e,r,rfl,_,_,z⟩:=h;simp[Qx9 ds r z]
def PP{P:Program}{w:World}{b:Nat}{es:Array MapEntry}{clock:Nat}(h:w.heap[b]? =some (.map es clock)):(getObj b).run P w= .ok (.map es clock) w:=by
 simp[getObj,Sem.run,h]
section
variable {P:Program}{w:World}{T e k:TypeId}
def Wz(x y:Value):Op.equal T x y=Op.equalIn (9999+1) T x y:=rfl
def K3(z:P.underlying T=some (.slice e))(d:Nat)(b:Option Addr)(n c:Nat):(Op.equalIn (d+1) T (.slice b n c) (.slice none 0 0)).run P w= .ok b.isNone w:=by
 cases b<;>simp[Op.equalIn,run_underlying z]
def Qx1(z:P.underlying T=some (.pointer e))(d:Nat)(b:Option Addr):(Op.equalIn (d+1) T (.pointer b) (.pointer none)).run P w= .ok b.isNone w:=by
 cases b<;>simp[Op.equalIn,run_underlying z]
def K2(z:P.underlying T=some (.map k e))(d:Nat)(b:Option Nat):(Op.equalIn (d+1) T (.map b) (.map none)).run P w= .ok b.isNone w:=by
 cases b<;>simp[Op.equalIn,run_underlying z]
end
def nJ(tm:List (Nat×AV))(h:Nat->Option An)(o:Oper):Prop:=
 ∃u:List Nat,∀(C:AY) (S:Ax) (a:Act),Wf C S->(∀n∈u,S.h n=h n)->(∀x∈o.op.operands,Aa S (Aq tm x) (a.eval x))->False
def Kq(P:Program)(tm:List (Nat×AV))(h:Nat->Option An)(nx:Nat)(o:Oper)(K:Ai):Prop:=
 ∀(C:AY) (S:Ax) (a:Act) (next:Act->World->Prop) (Q:Exit->Act->World->Prop),
  Wf C S->(∀n,S.h n=h n)->(∀n,nx<=n->S.h n=none)->(∀n e,S.h n=some e-> ∀m∈e.2.nms,m<nx)->
  (∀x∈o.op.operands,Aa S (Aq tm x) (a.eval x))->
  (∀r E v S',K r E->Wf C S'->S'.h=E.appf S.h->B4 (λm=> ¬Fr nx E.cnt m) S S'->Aa S' r v->next (a.put o.dst v) S'.w)->
  o.wp P a S.w next Q
abbrev WR(P:Program)(z:Bool)(tm:List (Nat×AV))(h:Nat->Option An)(nx:Nat)(o:Oper)(K:Ai):Prop:=
 BT P tm h nx o K\/(z=true/\(nJ tm h o\/Kq P tm h nx o K))
section
variable {P:Program}{tm:List (Nat×AV)}{h:Nat->Option An}{nx:Nat}{o:Oper}{K:Ai}
def Z9{T:TypeId}{x:Operand}{c:Call}{u:List Nat}{n:Nat}(ho:o.op= .call c)(O:c.callee= .builtin .len)(z:c.args= #[x])(aa:c.argTypes= #[T])
 (Z: ∀(C:AY) (S:Ax) (v:Value),Wf C S->(∀n∈u,S.h n=h n)->Aa S (Aq tm x) v->(Builtin.len_ #[T] o.type #[v]).run P S.w= .ok (.int .i64 n) S.w)
 (hk:FF K {use:=u} n):BT P tm h nx o K:=by
 refine⟨_,_,BD.pure (u:=u) ?_,hk⟩;intro C S a hW hu Q;have h1:=Q x (by rw[ho];simp[Op.operands,Call.operands,z,O]);refine⟨.int .i64 n,?_,by simp only[Aa,rd]⟩;simp only[execOp,ho,resolve,O,z,aa,Sem.run_bind,Sem.run_pure,Result.andThen_ok,invoke,builtin];simp[Z C S _ hW hu h1]
def Qq0{z:Bool}{B:Prop}(Q:(z=true->B)->BT P tm h nx o K)(Z: ¬B->nJ tm h o):WR P z tm h nx o K:=by
 by_cases O:B
 .exact .inl (Q λ_=>O)
 .cases z
  .exact .inl (Q λh=>by cases h)
  .exact .inr ⟨rfl,.inl (Z O)⟩
def YG{sq:Bool}{T:TypeId}{x:Operand}{c:Call}(ho:o.op= .call c)(Z:c.callee= .builtin .len)(Q:c.args= #[x])(ab:c.argTypes= #[T])
 (z:Bf (fL sq h (Aq tm x) K) (tI P T)):WR P sq tm h nx o K:=by
 have ak:x∈o.op.operands:=by rw[ho];simp[Op.operands,Call.operands,Q,Z]
 cases hT:tI P T with
 |none=>rw[hT] at z;exact z.elim
 |some ti=>
 rw[hT] at z;simp only[Bf,fL] at z;cases hf:ti.kind<;>rw[hf] at z<;>try exact z.elim
 case slice e=>
  have hu:=PR hT hf;simp only[Fu] at z;cases hx:Aq tm x<;>rw[hx] at z<;>try exact z.elim
  case im d=>
   cases d<;>try exact z.elim
   rename_i nz k rows;simp only[fG] at z;refine Qq0 (B:=rows.length<=140737488355328) (λhb=>Z9 (u:=[]) ho Z Q ab ?_ (z hb)) λhb=>⟨[],?_⟩
   .intro C S v hW _ O;rw[hx] at O;simp only[Aa,rd] at O;rcases O with ⟨rfl|⟨_,a,rfl⟩,rfl⟩|⟨b,p,cap,vs,T,fr,rfl,_⟩<;>simp[Builtin.len_,underlying,hu,goInt]
   .intro C S a hW _ af;have h1:=af x ak;rw[hx] at h1;simp only[Aa,rd] at h1;rcases h1 with ⟨_,rfl⟩|⟨b,p,cap,vs,T,fr,_,_,_,h3,_⟩
    .simp at hb
    .exact hb h3
  case own n=>
   simp only[fG] at z;cases hn:h n with
   |none=>rw[hn] at z;exact z.elim
   |some aa=>
   rw[hn] at z;obtain⟨mu,aa⟩:=aa;have ag: ∀{rl:Nat},aa.len=rl->(∀(S:Ax) l,Ap S l aa->rl<=140737488355328)->((sq=true->rl<=140737488355328)->FF K {use:=[n]} rl)->(∀(S:Ax),Ap S none aa->rl=0)->
    WR P sq tm h nx o K:=by
    intro rl hl am z aj;refine Qq0 (B:=rl<=140737488355328) (λhb=>Z9 (u:=[n]) ho Z Q ab ?_ (z hb)) λhb=>⟨[n],?_⟩
    .intro C S v hW ac O;rw[hx] at O;simp only[Aa] at O;have hS:=(ac n (by simp)).trans hn;have O:=O.2 _ hS;cases hl0:S.ρ n with
     |none=>
      have ad:=hW.obj _ _ hS;rw[hl0] at O ad;simp only at O;subst O
      have:=aj S ad
      simp[Builtin.len_,underlying,hu,goInt,this]
     |some l=>
      rw[hl0] at O;simp only[hl] at O;subst O;simp[Builtin.len_,underlying,hu,goInt]
    .intro C S a hW ac af;have hS:=(ac n (by simp)).trans hn;exact hb (am S _ (hW.obj _ _ hS))
   cases aa<;>try exact z.elim
   case arr T0 k rows=>
    exact ag rfl (λS l ho=>by simp only[Ap] at ho;exact ho.1) z (λS ho=>by simp only[Ap] at ho;rw[ho.2];rfl)
   case arrA T0 k rows=>
    exact ag rfl (λS l ho=>by simp only[Ap] at ho;exact ho.1) z (λS ho=>by simp only[Ap] at ho;rw[ho.2];rfl)
  case osl n wa wn=>
   simp only[fG] at z;cases hn:h n with
   |none=>rw[hn] at z;exact z.elim
   |some aa=>
   rw[hn] at z;refine .inl (Z9 (u:=[n]) ho Z Q ab ?_ z);intro C S v hW ac O;rw[hx] at O;simp only[Aa] at O;have hS:=(ac n (by simp)).trans hn;have O:=O.2 _ hS;unfold PN at O;cases hl0:S.ρ n with
   |none=>
    rw[hl0] at O;obtain⟨rfl,rfl⟩:=O;simp[Builtin.len_,underlying,hu,goInt]
   |some l=>
    rw[hl0] at O;obtain⟨p,cp,rfl,_⟩:=O;simp[Builtin.len_,underlying,hu,goInt]
 case str=>
  have hu:=VU hT hf;simp only[Fu] at z;cases hx:Aq tm x<;>rw[hx] at z<;>try exact z.elim
  rename_i d;cases d<;>try exact z.elim
  refine .inl (Z9 (u:=[]) ho Z Q ab ?_ z);intro C S v hW _ O;rw[hx] at O;simp only[Aa,rd] at O;subst O;simp[Builtin.len_,underlying,hu,goInt]
 case map k e=>
  have hu:=mE hT hf;simp only[Fu] at z;cases hx:Aq tm x<;>rw[hx] at z<;>try exact z.elim
  case im d=>
   cases d<;>try exact z.elim
   case nilm=>
    refine .inl (Z9 (u:=[]) ho Z Q ab ?_ z);intro C S v hW _ O;rw[hx] at O;simp only[Aa,rd] at O;subst O;simp[Builtin.len_,underlying,hu,goInt]
   case mp kt es=>
    refine .inl (Z9 (u:=[]) ho Z Q ab ?_ z);intro C S v hW _ O;rw[hx] at O;simp only[Aa,rd] at O;obtain⟨b,ai,ah,rfl,_,_,h5,h6,_⟩:=O;have hl:=Qx9 _ _ h6;simp only[Dn] at hl;simp[Builtin.len_,underlying,hu,goInt,PP (w:=S.w) h5,hl]
  case mp n=>
   simp only[uS] at z;cases hn:h n with
   |none=>rw[hn] at z;exact z.elim
   |some aa=>
   rw[hn] at z;obtain⟨mu,aa⟩:=aa;cases aa<;>try exact z.elim
   refine .inl (Z9 (u:=[n]) ho Z Q ab ?_ z);intro C S v hW ac O;rw[hx] at O;simp only[Aa] at O;have hS:=(ac n (by simp)).trans hn;obtain⟨l,hl,rfl⟩:=O.2 _ hS;have ad:=hW.obj _ _ hS;simp only[Ap] at ad;obtain⟨lc,ai,ah,h1,_,h5,h6,_⟩:=ad;rw[hl] at h1;obtain rfl:=A7 h1;have hl:=Qx9 _ _ h6;simp only[Dn] at hl;simp[Builtin.len_,underlying,hu,goInt,PP (w:=S.w) h5,hl]
def eB{op:BinOp}{T U:TypeId}{x y:Operand}{u:List Nat}{b:Bool}(ho:o.op= .binOp op T x y U)(aa:op= .eql\/op= .neq){z:Value}(hy:y= .const z)
 (Z:z= .slice none 0 0\/z= .pointer none\/z= .map none)
 (Q: ∀(C:AY) (S:Ax) (v:Value),Wf C S->(∀n∈u,S.h n=h n)->Aa S (Aq tm x) v->(∀k n,v≠ .int k n)/\(∀k n,v≠ .float k n)/\(∀k n m,v≠ .complex k n m)/\(∀s,v≠ .string s)/\(Op.equal T v z).run P S.w= .ok b S.w)
 (hk:K (.im (.bool ((decide (op= .neq)) !=b))) {use:=u}):BT P tm h nx o K:=by
 refine⟨_,_,BD.pure (u:=u) ?_,hk⟩;intro C S a hW hu O;have h1:=O x (by rw[ho];simp[Op.operands]);obtain⟨hi,hf,hc,hs,hr⟩:=Q C S _ hW hu h1;refine⟨.bool (decide (op= .neq) !=b),?_,by simp only[Aa,rd]⟩;have hg:(eqGuard op T x y (a.eval x) z).run P S.w= .ok () S.w:=by
  rcases Z with rfl|rfl|rfl<;>rcases aa with rfl|rfl<;>simp[eqGuard]
 have hb:(binOp op T (a.eval x) z).run P S.w= .ok (.bool (decide (op= .neq) !=b)) S.w:=by
  have hq:(Op.equal T (a.eval x) z).run P S.w= .ok b S.w:=hr;clear hr hg O h1 Q hk hu;generalize a.eval x=v at*;rcases aa with rfl|rfl
  .have:binOp .eql T v z=(do pure (.bool (<-Op.equal T v z))):=by
    rcases Z with rfl|rfl|rfl<;>cases v<;>first|rfl|exact absurd rfl (hi _ _)|exact absurd rfl (hf _ _)|exact absurd rfl (hc _ _ _)|exact absurd rfl (hs _)
   rw[this];simp[hq]
  .have:binOp .neq T v z=(do pure (.bool (!(<-Op.equal T v z)))):=by
    rcases Z with rfl|rfl|rfl<;>cases v<;>first|rfl|exact absurd rfl (hi _ _)|exact absurd rfl (hf _ _)|exact absurd rfl (hc _ _ _)|exact absurd rfl (hs _)
   rw[this];simp[hq]
 have ab:a.eval y=z:=by rw[hy];rfl
 simp only[execOp,ho,ab,Sem.run_bind,hg,Result.andThen_ok,hb,Sem.run_pure]
def bP{op:BinOp}{T U:TypeId}{x y:Operand}{m:Nat}(ho:o.op= .binOp op T x y U)(hm:Fv y=m+1)(ac:m<=2)(hk:Bf (lW h op (Aq tm x) K m) (tI P T)):BT P tm h nx o K:=by
 cases hT:tI P T with
 |none=>rw[hT] at hk;exact hk.elim
 |some ti=>
 rw[hT] at hk;simp only[Bf] at hk;have Q:op= .eql\/op= .neq:=by cases op<;>first|exact .inl rfl|exact .inr rfl|exact hk.elim
 have z:WH h (decide (op= .neq)) K (Aq tm x) m ti.kind:=by rcases Q with rfl|rfl<;>exact hk
 have hy: ∃nv,y= .const nv/\((m=0/\nv= .slice none 0 0)\/(m=1/\nv= .pointer none)\/(m=2/\nv= .map none)):=by
  cases y<;>simp only[Fv,reduceCtorEq] at hm<;>try (cases hm;done)
  rename_i v;refine⟨v,rfl,?_⟩;unfold FG at hm;split at hm
  .exact .inl ⟨by omega,rfl⟩
  .exact .inr (.inl ⟨by omega,rfl⟩)
  .exact .inr (.inr ⟨by omega,rfl⟩)
  .omega
  .omega
 obtain⟨nv,hy,ab⟩:=hy;clear hk;rcases ab with ⟨rfl,rfl⟩|⟨rfl,rfl⟩|⟨rfl,rfl⟩<;>cases hf:ti.kind<;>rw[hf] at z<;>try exact z.elim
 .have Z:=PR hT hf;simp only[WH] at z;cases hx:Aq tm x<;>rw[hx] at z<;>try exact z.elim
  rename_i d;cases d<;>try exact z.elim
  rename_i nz k rows;cases nz<;>try exact z.elim
  refine eB (u:=[]) ho Q hy (.inl rfl) ?_ z;intro C S v hW _ O;rw[hx] at O;simp only[Aa,rd] at O;rcases O with ⟨h0,rfl⟩|⟨b,p,cap,vs,T,fr,rfl,h2,_⟩
  .rw[Qr7 h0];simp[Wz,K3 Z 9999]
  .have ad:rows≠[]:=h2 trivial
   have:rows.isEmpty=false:=by cases rows<;>simp_all
   simp[Wz,K3 Z 9999,this]
 .have Z:=kF hT hf;simp only[WH] at z;cases hx:Aq tm x<;>rw[hx] at z<;>try exact z.elim
  case im d=>
   cases d<;>try exact z.elim
   .refine eB (u:=[]) ho Q hy (.inr (.inl rfl)) ?_ z;intro C S v hW _ O;rw[hx] at O;simp only[Aa,rd] at O;subst O;simp[Wz,Qx1 Z 9999]
   .refine eB (u:=[]) ho Q hy (.inr (.inl rfl)) ?_ z;intro C S v hW _ O;rw[hx] at O;simp only[Aa,rd] at O;obtain⟨b,p,vs,T,fr,rfl,_⟩:=O;simp[Wz,Qx1 Z 9999]
  all_goals
   obtain⟨⟨e',he⟩,z⟩:=eC z;refine eB (b:=false) ho Q hy (.inr (.inl rfl)) ?_ (by simpa using z);intro C S v hW aa O;rw[hx] at O;simp only[Aa] at O;obtain⟨l,_,rfl⟩:=O.2 e' ((aa _ (by simp)).trans he);simp[Wz,Qx1 Z 9999]
 .have Z:=mE hT hf;simp only[WH] at z;cases hx:Aq tm x<;>rw[hx] at z<;>try exact z.elim
  case im d=>
   cases d<;>try exact z.elim
   .refine eB (u:=[]) ho Q hy (.inr (.inr rfl)) ?_ z;intro C S v hW _ O;rw[hx] at O;simp only[Aa,rd] at O;subst O;simp[Wz,K2 Z 9999]
   .refine eB (u:=[]) ho Q hy (.inr (.inr rfl)) ?_ z;intro C S v hW _ O;rw[hx] at O;simp only[Aa,rd] at O;obtain⟨b,p,vs,rfl,_⟩:=O;simp[Wz,K2 Z 9999]
  all_goals
   obtain⟨⟨e',he⟩,z⟩:=eC z;refine eB (b:=false) ho Q hy (.inr (.inr rfl)) ?_ (by simpa using z);intro C S v hW aa O;rw[hx] at O;simp only[Aa] at O;obtain⟨l,_,rfl⟩:=O.2 e' ((aa _ (by simp)).trans he);simp[Wz,K2 Z 9999]
end
end Go.Ae
