/- Lemmas. Conditions: none. -/
import Derived.Test.YtldneeclgjaehabGreatDoorP01
import Derived.IntWalk
set_option linter.all false
set_option maxHeartbeats 8000000
set_option maxRecDepth 100000
namespace Go.Ae
def Qrv(z:LVa)(Q:z≠[]): ∀n,(List.range (n*z.length)).map (λi=>z[i % z.length]!)=C9 n z
 |0=>by simp[C9]
 |n+1=>by
  have h0:0<z.length:=rF.2 Q;rw[HQ,Pl,YD,List.range_add,Dj,GS];simp only[C9];congr 1
  .apply List.ext_getElem
   .simp
   .intro i Z O;simp only[List.getElem_map,Zeq]
    have:i % z.length=i:=Nat.mod_eq_of_lt O
    rw[this,getElem!_pos z i O]
  .rw[<-Qrv z Q n];apply Iu;intro i _;simp
def Qxx(a:Array Value)(i:Nat):a[i]! =a.toList[i]! :=by
 by_cases z:i<a.size
 .rw[getElem!_pos a i z,getElem!_pos a.toList i (by simpa using z)];simp
 .rw[getElem!_neg a i z,getElem!_neg a.toList i (by simpa using z)]
def Qzv{α:Type}(z:List α): ∀n,(C9 n z).length=n*z.length
 |0=>by simp[C9]
 |n+1=>by simp[C9,Qzv z n,HQ];omega
def tO{α β:Type}(f:α->β)(z:List α): ∀n,(C9 n z).map f=C9 n (z.map f)
 |0=>rfl
 |n+1=>by simp[C9,tO f z n]
def NK{ok:Nat->Prop}{hp:Nat->Option Obj}: ∀(a:List D) (x:LVa) (b:List D) (y:LVa),rdl ok hp a x->rdl ok hp b y->rdl ok hp (a++b) (x++y)
 |[],x,b,y,h,z=>by simp only[rdl] at h;subst h;simpa using z
 |d::a,x,b,y,h,z=>by
  simp only[rdl] at h;obtain⟨v,r,rfl,O,Q⟩:=h;simp only[BZ,rdl];exact⟨v,_,rfl,O,NK a r b y Q z⟩
def Qop{S:AD}: ∀(a:List AV) (x:LVa) (b:List AV) (y:LVa),AX S a x->AX S b y->AX S (a++b) (x++y)
 |[],x,b,y,h,z=>by simp only[AX] at h;subst h;simpa using z
 |d::a,x,b,y,h,z=>by
  simp only[AX] at h;obtain⟨v,r,rfl,O,Q⟩:=h;simp only[BZ,AX];exact⟨v,_,rfl,O,Qop a r b y Q z⟩
def Qy7{ok:Nat->Prop}{hp:Nat->Option Obj}{z:List D}{x:LVa}(h:rdl ok hp z x): ∀n,rdl ok hp (C9 n z) (C9 n x)
 |0=>by simp[C9,rdl]
 |n+1=>NK _ _ _ _ h (Qy7 h n)
def iX{α:Type}(k:Nat): ∀(n:Nat) (l:List α),(IZ k n l).length=n
 |0,_=>rfl
 |n+1,l=>by simp[IZ,iX k n]
def Qq5{ok:Nat->Prop}{hp:Nat->Option Obj}(k:Nat): ∀(n:Nat) (ds:List D) (vs:LVa),rdp ok hp ds vs->ds.length=n*k->rdr ok hp k (IZ k n ds) vs
 |0,_,_,_,_=>by simp only[IZ,rdr]
 |n+1,ds,vs,h,O=>by
  rw[HQ,Pl] at O;simp only[IZ,rdr];obtain⟨Q,z⟩:=WN k ds vs h auOm;refine⟨by rw[Eb];omega,?_,Qq5 k n _ _ (QY k ds vs h auOm) (by rw[CM];omega)⟩
  have:=xW _ _ (vs.drop k) (Yv _ _ z)
  rwa [HT] at this
def Qms{S:AD}(k:Nat): ∀(n:Nat) (ds:List AV) (vs:LVa),CO S ds vs->ds.length=n*k->BQ S k (IZ k n ds) vs
 |0,_,_,_,_=>by simp only[IZ,BQ]
 |n+1,ds,vs,h,O=>by
  rw[HQ,Pl] at O;simp only[IZ,BQ];obtain⟨Q,z⟩:=Yj k ds vs h auOm;refine⟨by rw[Eb];omega,?_,Qms k n _ _ (pG k ds vs h auOm) (by rw[CM];omega)⟩
  have:=pQ _ _ (vs.drop k) (Yk _ _ z)
  rwa [HT] at this
def Qn6(k:Nat)(x:Nat): ∀(n:Nat) (ds:List AV),x∈BI (IZ k n ds)->x∈Av ds
 |0,_,h=>by simp[IZ,BI] at h
 |n+1,ds,h=>by
  have z: ∀(a b:List AV),Av (a++b)=Av a++Av b:=by
   intro a b;induction a with
   |nil=>rfl
   |cons y a ih=>simp[Av,ih]
  simp only[IZ,BI,BO] at h
  have:=z (ds.take k) (ds.drop k)
  rw[HT] at this;rw[this,BO];rcases h with h|h
  .exact .inl h
  .exact .inr (Qn6 k x n _ h)
section
variable {P:Program}{tm:TmT}{h:HpT}{nx:Nat}{o:Oper}{K:Al}
def Qrh(a b:List AV):Av (a++b)=Av a++Av b:=by
 induction a with
 |nil=>rfl
 |cons y a ih=>simp[Av,ih]
def PV(n:Nat)(a:List AV): ∀m∈Av (a.take n),m∈Av a:=by
 intro m hm
 have:=Qrh (a.take n) (a.drop n)
 rw[HT] at this;rw[this,BO];exact .inl hm
def PU(n:Nat)(a:List AV): ∀m∈Av (a.drop n),m∈Av a:=by
 intro m hm
 have:=Qrh (a.take n) (a.drop n)
 rw[HT] at this;rw[this,BO];exact .inr hm
def Qvz(x:AV): ∀m∈Av x.cells,m∈x.nms:=by
 cases x<;>simp only[AV.cells]<;>intro m hm
 case im d=>rw[Qw0] at hm;cases hm
 case agg cs=>simpa[AV.nms] using hm
 all_goals simp[Av,AV.nms] at hm⊢
 all_goals exact hm
def Qyu(z: ∀x,∀m∈(Ay tm x).nms,m≠nx)(Q:Nat->Option (Nat×Nat)): ∀(ps:List (Nat×Operand)) (cs r:List AV),IF Q (KA tm ps) (some cs)=some r->
 (∀m∈Av cs,m≠nx)-> ∀m∈Av r,m≠nx
 |[],cs,r,h,O=>by simp only[KA,IF,AS] at h;subst h;exact O
 |(i,x)::ps,cs,r,h,O=>by
  simp only[KA,IF] at h;cases hf:dU cs (Ay tm x).cells (Q i) with
  |none=>rw[hf] at h;exact (Qjy _ _ h).elim
  |some us=>
   rw[hf] at h;refine Qyu z Q ps us r h ?_;cases hp:Q i with
   |none=>rw[hp] at hf;simp[dU] at hf
   |some q=>
    rw[hp] at hf;simp only[dU] at hf;generalize ((Ay tm x).cells.length==q.2 && (Nat.blt 0 q.2 && Nat.ble (q.1+q.2) cs.length))=bb at hf;cases bb
    .simp at hf
    .simp only[IJ,AS] at hf;subst hf;intro m hm;simp only[C6,Qrh,BO] at hm;rcases hm with (hm|hm)|hm
     .exact O m (PV _ _ m hm)
     .exact z x m (Qvz _ m hm)
     .exact O m (PU _ _ m hm)
def Qp8{T:TypeId}{n:Nat}{ps:Array (Nat×Operand)}(ho:o.op= .buildSlice T n ps)(O:Bz (Qfp P nx n (KA tm ps.toList) K) (tI P T))
 (ak: ∀x,∀m∈(Ay tm x).nms,m≠nx):Cr P tm h nx o K:=by
 cases hT:tI P T with
 |none=>rw[hT] at O;exact O.elim
 |some ti=>
 rw[hT] at O;simp only[Bz,Qfp] at O;cases hf:ti.kind<;>rw[hf] at O<;>try exact O.elim
 rename_i e;have hu:=QX hT hf;simp only[bsK] at O;cases hE:tI P e with
 |none=>rw[hE] at O;exact O.elim
 |some te=>
 rw[hE] at O;simp only[Bz,bsE] at O;obtain⟨hl,hz,av,O⟩:=O;have hn:n<=KN:=by
  have:=Nat.le_mul_of_pos_right n (Nat.pos_of_ne_zero hz)
  simp only[KN];omega
 obtain⟨z,ao,aq,an⟩:=jA hE hl hz
 have am:z.cells.toList≠[]:=by intro hh;have:z.cells.size=0:=by rw[<-HA,hh];rfl
                               omega
 rw[<-tO] at O;cases hfl:IF (Kc te.size) (KA tm ps.toList) (some ((C9 n te.zero).map .im)) with
 |none=>rw[hfl] at O;exact O.elim
 |some cs=>
 rw[hfl] at O;simp only[M9] at O;have hbel:=Qyu ak _ ps.toList _ cs hfl (by rw[Qw0];intro m hm;cases hm);have ac: ∀(C:Bn) (S:AD) (a:Act),Wf C S->(∀x∈o.op.operands,Ab S (Ay tm x) (a.eval x))->
  ∃us:Array Value,(execOp a.eval o).run P S.w= .ok (.value (.slice (some ⟨S.w.heap.size,0,none⟩) n n)) (S.w.alloc (.cells us e))/\AX S cs us.toList/\cs.length=n*te.size:=by
  intro C S a hW Q;have au:((Array.range (n*te.size)).map λi=>z.cells[i % z.cells.size]!).toList=C9 n z.cells.toList:=by
   rw[<-Qrv _ am n,Xj,Zeo,HA,aq];apply Iu;intro i _;exact Qxx _ _
  obtain⟨us,ah,hr,aj⟩:=Qiw (S:=S) (a:=a) (place:=λi=>some (i*te.size,te.size)) (λi q hq=>hq) ps.toList _ cs
   ((Array.range (n*te.size)).map λi=>z.cells[i % z.cells.size]!) hfl (by rw[au];exact (Js _ _).2 (Qy7 (an _ _) n))
   (by intro p hp
       refine Q p.2 ?_;rw[ho];simp only[Op.operands];simp;exact⟨p.1,by simpa using hp⟩)
  refine⟨us,?_,hr,by rw[aj];simp[Qzv,hl]⟩;simp only[execOp,ho,Instr.buildSlice,Sem.run_bind];rw[show (underlying T).run P S.w= .ok (.slice e) S.w from by simp[underlying,hu]];simp only[Result.andThen_ok,Sem.run_bind,J1 hE];rw[Be auOm];by_cases af:n*te.size=0
  .simp only[af,Ff,pure_bind];simp only[af] at ah
   have:((Array.range 0).map λi=>(#[]:Array Value)[i % (#[]:Array Value).size]!)=(Array.range 0).map λi=>z.cells[i % z.cells.size]! :=auSi
   rw[this];have ab:(ps.map λ(i,x)=>(i,a.eval x)).toList=ps.toList.map λp=>(p.1,a.eval p.2):=auSi
   rw[ab,ah];simp[newRow]
  .simp only[af,HS,Sem.run_bind,ao,Result.andThen_ok,Sem.run_pure];have ab:(ps.map λ(i,x)=>(i,a.eval x)).toList=ps.toList.map λp=>(p.1,a.eval p.2):=auSi
   rw[ab,ah];simp[newRow]
 cases hai:Ea cs with
 |none=>
  rw[hai] at O;simp only[JG] at O;refine⟨_,_,BP.one (u:=[]) (ks:=[]) (.inl ⟨rfl,rfl⟩) ?_,O⟩;intro C S a hW _ ad hnm Q;obtain⟨us,hr,Z,hcl⟩:=ac C S a hW Q;refine⟨_,_,some ⟨S.w.heap.size,0,n⟩,.inl hr,WS (w':=S.w.alloc (.cells us e)) (ob:= .cells us e) rfl rfl rfl rfl (ad rfl) (λn f hf=>hnm n f hf rfl),?_⟩;intro hp;have ag:=Jz _ _ Z;constructor
  .simp only[Au];refine⟨by rw[iX];exact hn,by rw[iX];exact BN _,us,dS rfl,by simp at ag;omega,?_⟩;rw[Mv];exact wL hp _ _ _ (λm hm=> .inr (hbel m (Qn6 _ _ _ _ hm))) (Qms _ _ _ _ (Yk _ _ Z) hcl)
  .simp only[Ab];refine⟨rfl,λe' aa=> ?_⟩;have hh:(S.one nx (.arrA e te.size (IZ te.size n cs)) (some ⟨S.w.heap.size,0,n⟩) [] (S.w.alloc (.cells us e))).ρ nx=some ⟨S.w.heap.size,0,n⟩:=by simp[AD.one]
   rw[hh];simp only[AD.one,Ff,AS] at aa;subst aa;simp[Ad.len,iX]
 |some ds=>
  rw[hai] at O;simp only[JG] at O;refine⟨_,_,BP.one (u:=[]) (ks:=[]) (.inl ⟨rfl,rfl⟩) ?_,O⟩;intro C S a hW _ ad hnm Q;obtain⟨us,hr,Z,hcl⟩:=ac C S a hW Q;refine⟨_,_,some ⟨S.w.heap.size,0,n⟩,.inl hr,WS (w':=S.w.alloc (.cells us e)) (ob:= .cells us e) rfl rfl rfl rfl (ad rfl) (λn f hf=>hnm n f hf rfl),?_⟩;intro hp;have ag:=Jz _ _ Z;rw[pO hai] at Z hcl;have ai:=Ml hp.ok _ _ ((Js _ _).1 Z);constructor
  .simp only[Au];refine⟨by rw[iX];exact hn,by rw[iX];exact BN _,us,dS rfl,by simp[pO hai] at ag hcl;simp;omega,?_⟩;rw[Mv];exact Qq5 _ _ _ _ (Yv _ _ ai) (by simpa using hcl)
  .simp only[Ab];refine⟨rfl,λe' aa=> ?_⟩;have hh:(S.one nx (.arr e te.size (IZ te.size n ds)) (some ⟨S.w.heap.size,0,n⟩) [] (S.w.alloc (.cells us e))).ρ nx=some ⟨S.w.heap.size,0,n⟩:=by simp[AD.one]
   rw[hh];simp only[AD.one,Ff,AS] at aa;subst aa;simp[Ad.len,iX]
end
def Qwm(n:Nat): ∀(r c:Nat),c<=2*(n+512)->Builtin.growBy n r c<=2*(n+512)
 |0,c,h=>by simpa[Builtin.growBy] using h
 |r+1,c,h=>by
  simp only[Builtin.growBy];split
  .exact h
  .exact Qwm n r _ auOm
def Qabm(n old:Nat)(h:old<n):Builtin.nextslicecap n old<=2*(n+512):=by
 unfold Builtin.nextslicecap;split
 .omega
 .split
  .omega
  .exact Qwm n 4 old auOm
def Qqs{S:AD}{k:Nat}: ∀(rows0 rows:List (List AV)) (A L R:LVa),BQ S k rows0 A->rows0.length*k<=A.length->BQ S k rows L->
 rows.length*k<=L.length->BQ S k (rows0++rows) (A.take (rows0.length*k)++(L++R))
 |[],rows,A,L,R,z,O,h,Q=>by
  simp only[Ed,Mu,eF,E5];clear z O A;induction rows generalizing L with
  |nil=>simp only[BQ]
  |cons r rows ih=>
   simp only[BQ,Em,HQ,Pl] at h Q⊢;refine⟨h.1,pQ _ _ _ h.2.1,?_⟩
   have:=ih (L.drop k) h.2.2 (by rw[CM];omega)
   rwa [eI auOm]
 |r::rows0,rows,A,L,R,h0,hA,h,Q=>by
  simp only[BQ,Em,HQ,Pl,BZ] at h0 hA⊢;have ih:=Qqs rows0 rows (A.drop k) L R h0.2.2 (by rw[CM];omega) h Q;have e:A.take (rows0.length*k+k)=A.take k++(A.drop k).take (rows0.length*k):=by rw[<-Ph];congr 1;omega
  have hk:(A.take k).length=k:=by rw[Eb];omega
  rw[e,Gk];refine⟨h0.1,?_,?_⟩
  .obtain⟨_,h5⟩:=Yj k r A h0.2.1 auOm;have Z:=Yk _ _ h5;rw[BE auOm] at Z;exact pQ _ _ _ Z
  .rw[kQ,Bm auOm,hk,YL];simpa using ih
def pP{S:AD}{k:Nat}: ∀(rows:List (List D)) (L:LVa),rdr S.ok S.hp k rows L->BQ S k (Bw rows) L
 |[],_,_=>by simp only[Bw,Gl,BQ]
 |r::rows,L,h=>by
  simp only[rdr] at h;simp only[Bw,Br,BQ];exact⟨by simpa using h.1,(wE _ _).2 h.2.1,pP rows _ h.2.2⟩
def Ng{S:AD}{k:Nat}: ∀(rows:List (List D)) (L:LVa),BQ S k (Bw rows) L->rdr S.ok S.hp k rows L
 |[],_,_=>by simp only[rdr]
 |r::rows,L,h=>by
  simp only[Bw,Br,BQ] at h;simp only[rdr];exact⟨by simpa using h.1,(wE _ _).1 h.2.1,Ng rows _ h.2.2⟩
section
variable {P:Program}{w:World}
def pB{b p:Nat}{vs:Array Value}{U:TypeId}{Z:Nat×Nat}(hb:w.heap[b]? =some (.cells vs U Z)){n:Nat}(hn:p+n<=vs.size):
 (loadCells ⟨b,p,none⟩ n).run P w= .ok ((vs.toList.drop p).take n).toArray w:=by
 have Q: ∀j v,((vs.toList.drop p).take n)[j]? =some v->w.cell? ((⟨b,p,none⟩:Addr).add j)=some v:=by
  intro j v z;rw[OX,Qyp hb];rw[Zep] at z;split at z
  .rw[lF] at z;simpa using z
  .cases z
 have hl:((vs.toList.drop p).take n).length=n:=by rw[Eb,CM];simp;omega
 have O:=run_loadCells_list (P:=P) w ⟨b,p,none⟩ _ Q;rwa [hl] at O
def zB(P:Program)(z:TypeId):Prop:=(∃O,P.underlying z=some (.slice O))\/P.underlying z=some .string
def uR{t:TypeId}{d:TypeDesc}{w:World}(h:P.underlying t=some d):(underlying t).run P w= .ok d w:=by simp[underlying,h]
def Qo9{sT uT e ty:TypeId}{te:TI}(hs:P.underlying sT=some (.slice e))(hE:tI P e=some te)(O:zB P uT)
 {base:Option Addr}{sLen sCap n:Nat}{x:Value}{L:LVa}(Z:(Builtin.lenOf x).run P w= .ok n w)(z:(Builtin.firstCells te.size n x).run P w= .ok L.toArray w)
 (Q:sLen+n<=sCap):(Builtin.append_ #[sT,uT] ty #[.slice base sLen sCap,x]).run P w=
  ((match base with|some a=>storeCells (a.add (sLen*te.size)) L|none=>pure ())>>=λ_=>(pure (.slice base (sLen+n) sCap):Sem Value)).run P w:=by
 refine O.elim (λ⟨u2,O⟩=> ?_) (λO=> ?_)
 all_goals
  have h1:(underlying sT).run P w= .ok (.slice e) w:=by simp[underlying,hs]
  have h2:=λw=>uR (w:=w) O
  unfold Builtin.append_;simp only[Mz,ES,Su,Sem.run_bind,h1,Result.andThen_ok,J1 hE,h2];simp only[Sem.run_pure,Result.andThen_ok,BL,HS,Z,Sem.run_ite,Bt Q,Sem.run_bind,z,Xm,Ff];cases base<;>simp
def Qo8{sT uT e ty:TypeId}{O:TI}(hs:P.underlying sT=some (.slice e))(hE:tI P e=some O)(Z:zB P uT)(af:O.bytes≠0)
 (hz:O.zero.length=O.size)(ah:O.size≠0)
 {base:Option Addr}{sLen sCap n:Nat}{x:Value}{L old:LVa}(ac:(Builtin.lenOf x).run P w= .ok n w)(Q: ∀k,(Builtin.firstCells O.size n x).run P {w with drawn:=k}= .ok L.toArray {w with drawn:=k})
 (ad: ∀k,(Builtin.firstCells O.size sLen (.slice base sLen sCap)).run P {w with drawn:=k}= .ok old.toArray {w with drawn:=k})
 (aa: ¬sLen+n<=sCap)(am:(sLen+n+512)*O.bytes<=140737488355328): ∃cap R,sLen+n<=cap/\R.length=(cap - (sLen+n))*O.size/\
  (Builtin.append_ #[sT,uT] ty #[.slice base sLen sCap,x]).run P w= .ok (.slice (some ⟨w.heap.size,0,none⟩) (sLen+n) cap) (World.alloc {w with drawn:=w.drawn+1} (.cells (old++L++R).toArray e)):=by
 refine Z.elim (λ⟨u2,Z⟩=> ?_) (λZ=> ?_)
 all_goals
  have h1: ∀w:World,(underlying sT).run P w= .ok (.slice e) w:=by intro w;simp[underlying,hs]
  have h2:=λw=>uR (w:=w) Z
  obtain⟨z,aj,ak,ao⟩:=jA hE hz ah;obtain⟨i,u,hi,hu,an,ab,_⟩:=OY hE;have ai: ∀w:World,(typeInfo e).run P w= .ok i w:=by intro w;simp[typeInfo,hi]
  refine⟨(Question.appendCap (sLen+n) sCap e).cut (w.tape w.drawn (.appendCap (sLen+n) sCap e)),(Builtin.zeroCells z.cells ((Question.appendCap (sLen+n) sCap e).cut (w.tape w.drawn (.appendCap (sLen+n) sCap e)) - (sLen+n))).toList,?_,?_,?_⟩
  .simp only[Question.cut];omega
  .simp[Builtin.zeroCells,ak]
  have ag: ¬(Builtin.nextslicecap (sLen+n) sCap*i.bytes>2^48):=by
   rw[<-ab];have h3:=Qabm (sLen+n) sCap auOm;have h4:=Iv O.bytes h3;have h5:2*(sLen+n+512)*O.bytes=2*((sLen+n+512)*O.bytes):=Nat.mul_assoc _ _ _;omega
  unfold Builtin.append_;simp only[Mz,ES,Su,Sem.run_bind,h1,Result.andThen_ok,J1 hE,h2];simp only[Sem.run_pure,Result.andThen_ok,BL,HS,ac,Sem.run_ite,Be aa,Sem.run_bind,ai,Xm,Ff,false_or];rw[Be (by rw[<-ab];exact λhh=>af hh.2),Be ag];simp only[run_choose,Question.forced,BL,HS,Result.andThen_ok,run_askRoom,ad,Q,aj];simp only[newRow,Sem.run_bind,run_newObj,Result.andThen_ok,Sem.run_pure];rw[show (old++L++(Builtin.zeroCells z.cells ((Question.appendCap (sLen+n) sCap e).cut (w.tape w.drawn (.appendCap (sLen+n) sCap e)) - (sLen+n))).toList).toArray=
   old.toArray++L.toArray++Builtin.zeroCells z.cells ((Question.appendCap (sLen+n) sCap e).cut (w.tape w.drawn (.appendCap (sLen+n) sCap e)) - (sLen+n)) from by apply Zfc;simp]
  rfl
end
def Qx7{ok:Nat->Prop}{hp:Nat->Option Obj}{z:List D}{x:LVa}(h:rdl ok hp z x): ∀(n m:Nat),n<=m->rdr ok hp z.length (List.replicate n z) (C9 m x)
 |0,_,_=>by simp only[List.replicate_zero,rdr]
 |n+1,0,hm=>by omega
 |n+1,m+1,hm=>by
  have O:=jT _ _ h;simp only[Zee,C9,rdr];refine⟨trivial,xW _ _ _ (Yv _ _ h),?_⟩;rw[kQ,Bm auOm,O,YL];simpa using Qx7 h n m auOm
section
variable {P:Program}{tm:TmT}{h:HpT}{nx:Nat}{o:Oper}{K:Al}
def Qrx{T:TypeId}{x y:Operand}(ho:o.op= .makeSlice T x y)(O:Bz (Qhl P nx (Ay tm x) (Ay tm y) K) (tI P T)):Cr P tm h nx o K:=by
 cases hT:tI P T with
 |none=>rw[hT] at O;exact O.elim
 |some ti=>
 rw[hT] at O;simp only[Bz,Qhl] at O;cases hf:ti.kind<;>rw[hf] at O<;>try exact O.elim
 rename_i e;have hu:=QX hT hf;have au: ∃n m,Ay tm x= .im (.int .i64 n)/\Ay tm y= .im (.int .i64 m)/\Bz (msE nx e n m K) (tI P e):=by
  revert O;generalize Ay tm x=X;generalize Ay tm y=Y;intro O;cases X<;>try exact O.elim
  rename_i d;cases d<;>try exact O.elim
  rename_i k n;cases k<;>try exact O.elim
  cases Y<;>try exact O.elim
  rename_i d;cases d<;>try exact O.elim
  rename_i k m;cases k<;>try exact O.elim
  exact⟨_,_,rfl,rfl,O⟩
 obtain⟨n,m,hx,hy,O⟩:=au;cases hE:tI P e with
 |none=>rw[hE] at O;exact O.elim
 |some te=>
 rw[hE] at O;simp only[Bz,msE] at O;obtain⟨hz,ay,hnm,hm,aw,hl,O⟩:=O;obtain⟨z,an,ao,am⟩:=jA hE hl hz;obtain⟨i,u,hi,az,ax,ag,_⟩:=OY hE;have ak:z.cells.toList≠[]:=by
  intro hh
  have:z.cells.size=0:=by rw[<-HA,hh];rfl
  omega
 have aq:((Array.range (m.toNat*te.size)).map λi=>z.cells[i % z.cells.size]!).toList=C9 m.toNat z.cells.toList:=by
  rw[<-Qrv _ ak m.toNat,Xj,Zeo,HA,ao];apply Iu;intro i _;exact Qxx _ _
 refine⟨_,_,BP.one (u:=[]) (ks:=[]) (.inl ⟨rfl,rfl⟩) ?_,O⟩;intro C S a hW _ af ab Q;have h1:=Q x (by rw[ho];simp[Op.operands]);have h2:=Q y (by rw[ho];simp[Op.operands]);rw[hx] at h1;rw[hy] at h2;simp only[Ab,rd] at h1 h2;have ad:(execOp a.eval o).run P S.w= .ok (.value (.slice (some ⟨S.w.heap.size,0,none⟩) n.toNat m.toNat))
  (S.w.alloc (.cells ((Array.range (m.toNat*te.size)).map λi=>z.cells[i % z.cells.size]!) e)):=by
  have av:(i.bytes:Int)*m<=2^48:=by
   rw[<-ag];have h3:(te.bytes:Int)*m<=65536*m:=ZdV auOm auOm;omega
  have aj:IntKind.i64.wrap n=n:=IntWalk.i64_in n auOm;have ai:IntKind.i64.wrap m=m:=IntWalk.i64_in m auOm;simp only[execOp,ho,h1,h2,Instr.makeSlice,Sem.run_bind];rw[show (underlying T).run P S.w= .ok (.slice e) S.w from by simp[underlying,hu]];have ah:(typeInfo e).run P S.w= .ok i S.w:=by simp[typeInfo,hi]
  simp only[Result.andThen_ok,asInt,asIntOf,Sem.run_bind,Sem.run_pure,ah,aj,ai];have ac:((decide (m<0)||decide ((i.bytes:Int)*m>2^48))||decide (n<0)||decide (n>m))=false:=by
   simp only[ZeU,GU];omega
  rw[ac];simp only[BL,HS,Sem.run_bind,run_askRoom,Result.andThen_ok,J1 hE,Sem.run_ite,an,newRow,run_newObj,Sem.run_pure];by_cases aa:m.toNat*te.size=0
  .have:((Array.range 0).map λi=>(#[]:Array Value)[i % (#[]:Array Value).size]!)=(Array.range 0).map λi=>z.cells[i % z.cells.size]! :=auSi
   simp only[aa,Ff,Result.andThen_ok,this];simp
  .simp only[aa,HS,Result.andThen_ok];simp
 refine⟨_,_,some ⟨S.w.heap.size,0,m.toNat⟩,.inl ad,WS (w':=S.w.alloc (.cells _ e)) (ob:= .cells _ e) rfl rfl rfl rfl (af rfl) (λn f hf=>ab n f hf rfl),?_⟩;intro hp;constructor
 .simp only[Au];refine⟨by simp[KN];omega,by simp;omega,_,dS rfl,auSi,?_⟩;rw[Mv,aq,<-hl];exact Qx7 (am _ _) _ _ auOm
 .simp only[Ab];refine⟨rfl,λe' Z=> ?_⟩;simp only[AD.one,Ff,AS] at Z⊢;subst Z;simp[Ad.len]
end
def oE(l:Option GI)(n:Nat):Value:=match l with|none=> .slice none 0 0|some l=> .slice (some ⟨l.b,l.p,none⟩) n l.cap
def fL(S:AD)(e z sLen:Nat)(A:LVa):Option GI->Prop
 |none=>sLen=0/\A=[]
 |some l=>sLen<=l.cap/\ ∃O,S.hp l.b=some (.cells O e (0,0))/\A=O.toList.drop l.p/\l.p+l.cap*z<=O.size
section
variable {P:Program}
def Pp{C:Bn}{S:AD}(hW:Wf C S){nx:Nat}{ks:List Nat}{sT uT e ty:TypeId}{z:TI}(hs:P.underlying sT=some (.slice e))(hE:tI P e=some z)
 (ad:zB P uT)(an:z.bytes≠0)(hz:z.zero.length=z.size)(av:z.size≠0){sLen n:Nat}(ak:(sLen+n+512)*z.bytes<=140737488355328)
 {l0:Option GI}{A:LVa}(hA:fL S e z.size sLen A l0)
 {x:Value}{L:LVa}(Z:(Builtin.lenOf x).run P S.w= .ok n S.w)(O: ∀k,(Builtin.firstCells z.size n x).run P {S.w with drawn:=k}= .ok L.toArray {S.w with drawn:=k})
 (hL:L.length=n*z.size)(au: ∀v∈L,v.oneCell'=true)(ah: ∀l,l0=some l-> ∃o f,o∈ks/\S.h o=some (true,f)/\S.ρ o=some l)
 (ab:S.h nx=none)(aa: ∀n f,S.h n=some f->nx∉f.2.nms):
 ∃w' l',(Builtin.append_ #[sT,uT] ty #[oE l0 sLen,x]).run P S.w= .ok (oE l' (sLen+n)) w'/\(∀ea,Mq S nx ea l' ks w')/\
  match l' with|none=>sLen=0/\n=0|some l=>sLen+n<=l.cap/\ ∃vs R,w'.heap[l.b]? =some (.cells vs e (0,0))/\l.p+l.cap*z.size<=vs.size/\
   vs.toList.drop l.p=A.take (sLen*z.size)++(L++R):=by
 have ac:{S.w with drawn:=S.w.drawn}=S.w:=rfl;cases l0 with
 |none=>
  obtain⟨h0,hA⟩:=hA;subst h0 hA;by_cases hn:n=0
  .subst hn;have aw:L=[]:=Rk.1 (by simpa using hL);subst aw;refine⟨S.w,none,?_,λea=>Ql6 ab aa,rfl,rfl⟩
   have:=Qo9 (P:=P) (w:=S.w) (ty:=ty) hs hE ad (base:=none) (sLen:=0) (sCap:=0) Z (by have:=O S.w.drawn;rwa [ac] at this) auOm
   simpa[oE] using this
  .obtain⟨cap,R,h1,h2,h3⟩:=Qo8 (P:=P) (w:=S.w) (ty:=ty) hs hE ad an hz av (base:=none) (sLen:=0) (sCap:=0) (old:=[]) Z O (by intro k;simp[Builtin.firstCells]) auOm ak;refine⟨_,some ⟨S.w.heap.size,0,cap⟩,h3,λea=>WS (w':=World.alloc {S.w with drawn:=S.w.drawn+1} (.cells ([]++L++R).toArray e)) (ob:= .cells ([]++L++R).toArray e) rfl rfl rfl rfl ab aa,h1,([]++L++R).toArray,R,by simp[World.alloc],?_,auSi⟩;have h4:n*z.size+(cap - (0+n))*z.size=cap*z.size:=by rw[<-HQ];congr 1;omega
   rw[Je] at h2 h4;simp[hL,h2];omega
 |some l=>
  obtain⟨af,vs,hb,ag,a0⟩:=hA;have a8:A.length=vs.size - l.p:=by rw[ag];simp
  by_cases Q:sLen+n<=l.cap
  .have az:sLen*z.size+n*z.size<=l.cap*z.size:=by rw[<-HQ];exact Iv _ Q
   obtain⟨w',h1,h2,h3,h4,h5⟩:=Qf9 (P:=P) (w:=S.w) (b:=l.b) (p:=l.p+sLen*z.size) (T:=e) L 0 vs au (by rw[hL];omega) hb;obtain⟨o,f,ao,ai,aj⟩:=ah l rfl;have am:=(hW.loc o _ l ai aj).1;refine⟨w',some l,?_,?_,Q,(C6 vs.toList (l.p+sLen*z.size+0) L).toArray,A.drop (sLen*z.size+L.length),?_,?_,?_⟩
   .have:=Qo9 (P:=P) (w:=S.w) (ty:=ty) hs hE ad (base:=some ⟨l.b,l.p,none⟩) (sLen:=sLen) (sCap:=l.cap) Z (by have:=O S.w.drawn;rwa [ac] at this) Q
    simp only[OX,Sem.run_bind,h1,Result.andThen_ok,Sem.run_pure] at this;simpa[oE] using this
   .intro ea;refine⟨h3,h4,h5.1,h5.2,by rw[h2];simp,?_,.inr ab,?_,?_,λn f hf _=>aa n f hf⟩
    .intro b a9 ay
     have:=ay o f l ao ai aj
     rw[h2,YJ,Be this]
    .intro lo ax;obtain rfl:=AJ ax;exact⟨by rw[h2];simpa using am,.inr ⟨o,f,l,ao,ai,aj,rfl⟩⟩
    .intro f hf;rw[ab] at hf;cases hf
   .rw[h2];simp[am]
   .simp[C6,Eb,CM];omega
   .rw[lC,Zef,Qg9 _ _ _ _ (by simp;omega),<-ag];simp[C6]
  .have aq: ∀k,(Builtin.firstCells z.size sLen (.slice (some ⟨l.b,l.p,none⟩) sLen l.cap)).run P {S.w with drawn:=k}= .ok (A.take (sLen*z.size)).toArray {S.w with drawn:=k}:=by
    intro k;have az:sLen*z.size<=l.cap*z.size:=Iv _ af;rw[ag];exact pB (w:={S.w with drawn:=k}) hb auOm
   obtain⟨cap,R,h1,h2,h3⟩:=Qo8 (P:=P) (w:=S.w) (ty:=ty) hs hE ad an hz av (base:=some ⟨l.b,l.p,none⟩) (sLen:=sLen) (sCap:=l.cap) Z O aq Q ak;refine⟨_,some ⟨S.w.heap.size,0,cap⟩,h3,λea=>WS (w':=World.alloc {S.w with drawn:=S.w.drawn+1} (.cells (A.take (sLen*z.size)++L++R).toArray e)) (ob:= .cells (A.take (sLen*z.size)++L++R).toArray e) rfl rfl rfl rfl ab aa,h1,(A.take (sLen*z.size)++L++R).toArray,R,by simp[World.alloc],?_,auSi⟩;have h4:sLen*z.size+n*z.size+(cap - (sLen+n))*z.size=cap*z.size:=by rw[<-HQ,<-HQ];congr 1;omega
   have h5:sLen*z.size<=l.cap*z.size:=Iv _ af;simp[hL,h2,Eb];omega
def xM{S:AD}{k:Nat}: ∀(rows:List (List AV)) (L:LVa),DI Si rows->BQ S k rows L->rows.length*k<=L.length-> ∀v∈L.take (rows.length*k),v.oneCell'=true
 |[],L,_,_,_=>by simp
 |r::rows,L,Q,h,Z=>by
  simp only[BQ] at h;simp only[Em,HQ,Pl] at Z⊢;have e:L.take (rows.length*k+k)=L.take k++(L.drop k).take (rows.length*k):=by rw[<-Ph];congr 1;omega
  rw[e];intro v z;rcases BO.1 z with z|z
  .obtain⟨_,O⟩:=Yj k r L h.2.1 auOm;rw[BE (ZeO h.1)] at O;exact pA r _ (Q r auSi) O v z
  .exact xM rows _ (λx hx=>Q x (by simp[hx])) h.2.2 (by rw[CM];omega) v z
def Qsa: ∀(r:List D),Ee r=true->Si (r.map .im)=true
 |[],_=>rfl
 |x::r,h=>by
  simp only[Ee,B1] at h;simp only[Br,Si,AV.one,B1];exact⟨h.1,Qsa r h.2⟩
def Qyt{rows:List (List D)}(h:DI Ee rows):DI Si (Bw rows):=by
 intro r z;simp only[Bw,BY] at z;obtain⟨x,O,rfl⟩:=z;exact Qsa x (h x O)
def Qrl{ok:Nat->Prop}{hp:Nat->Option Obj}{k:Nat}: ∀(rows:List (List D)) (L:LVa),rdr ok hp k rows L->rows.length*k<=L.length->rdr ok hp k rows (L.take (rows.length*k))
 |[],_,_,_=>by simp only[rdr]
 |r::rows,L,h,Q=>by
  simp only[rdr,Em,HQ,Pl] at h Q⊢;refine⟨h.1,?_,?_⟩
  .obtain⟨_,O⟩:=WN k r L h.2.1 auOm;have z:=Yv _ _ O;rw[BE auOm] at z;have e:L.take (rows.length*k+k)=L.take k++(L.drop k).take (rows.length*k):=by rw[<-Ph];congr 1;omega
   rw[e];exact xW _ _ _ z
  .rw[ZeX]
   have:=Qrl rows _ h.2.2 (by rw[CM];omega)
   rwa [show rows.length*k+k - k=rows.length*k from by omega]
def Qiu{S:AD}{k:Nat}: ∀(rows:List (List AV)) (L:LVa),BQ S k rows L->rows.length*k<=L.length->BQ S k rows (L.take (rows.length*k))
 |[],_,_,_=>by simp only[BQ]
 |r::rows,L,h,Q=>by
  simp only[BQ,Em,HQ,Pl] at h Q⊢;refine⟨h.1,?_,?_⟩
  .obtain⟨_,O⟩:=Yj k r L h.2.1 auOm;have z:=Yk _ _ O;rw[BE auOm] at z;have e:L.take (rows.length*k+k)=L.take k++(L.drop k).take (rows.length*k):=by rw[<-Ph];congr 1;omega
   rw[e];exact pQ _ _ _ z
  .rw[ZeX]
   have:=Qiu rows _ h.2.2 (by rw[CM];omega)
   rwa [show rows.length*k+k - k=rows.length*k from by omega]
def Qxq{ok:Nat->Prop}{hp:Nat->Option Obj}{k:Nat}: ∀(rows:List (List D)) (L:LVa),rdr ok hp k rows L->k≠0->rows.length*k<=L.length
 |[],_,_,_=>by simp
 |r::rows,L,h,z=>by
  simp only[rdr,Em,HQ,Pl] at h⊢;obtain⟨O,_⟩:=WN k r L h.2.1 auOm
  have:=Qxq rows _ h.2.2 z
  rw[CM] at this;omega
def Src.rows:Src->List (List AV)
 | .d _ _ rows=>Bw rows
 | .a _ _ rows=>rows
 | .no=>[]
def Src.w:Src->Nat
 | .d _ k _| .a _ k _=>k
 | .no=>0
def Src.us:Src->List Nat
 | .d u _ _| .a u _ _=>u
 | .no=>[]
def uQ{S:AD}: ∀(l:List UInt8),BQ S 1 (Bw (l.map λb=>[D.int .u8 b.toNat])) (l.map λb=> .int .u8 b.toNat)
 |[]=>by simp only[Bw,Gl,BQ]
 |b::l=>by
  have:=uQ (S:=S) l
  simp only[Bw,Br,Gl,BQ,CO,Em,Ed,Sv,Mv] at this⊢;refine⟨?_,⟨_,_,rfl,?_,trivial⟩,this⟩
  .first|trivial|rfl
  .simp only[Ab,rd]
def Wd{C:Bn}{S:AD}(hW:Wf C S){h:HpT}{X:AV}{v:Value}(hc:Ab S X v)(hu: ∀n∈(DE h X).us,S.h n=h n)(Q:(DE h X).okOne)
 {z:Nat}(hz:z≠0)(Z:(DE h X).w=z\/(DE h X).rows=[])(ak:(DE h X).rows.length<=KN):
 ∃L,(Builtin.lenOf v).run P S.w= .ok (DE h X).rows.length S.w/\(∀k,(Builtin.firstCells z (DE h X).rows.length v).run P {S.w with drawn:=k}= .ok L.toArray {S.w with drawn:=k})/\
  L.length=(DE h X).rows.length*z/\BQ S z (DE h X).rows L/\(∀v∈L,v.oneCell'=true)/\(DE h X).rows.length<=KN:=by
 cases X<;>try exact Q.elim
 case im d=>
  cases d<;>try exact Q.elim
  case str s=>
   simp only[Ab,rd] at hc;subst hc;simp only[DE,Src.rows] at ak⊢;simp only[DE,Src.rows,Src.w] at Z;have aj:(Bw (Kp s)).length=s.size:=by simp only[Bw,Kp,Dy,HA];rfl
   refine⟨s.data.toList.map λb=> .int .u8 b.toNat,?_,λk=> ?_,?_,?_,?_,ak⟩
   .rw[aj];simp[Builtin.lenOf]
   .rw[aj]
    have:s.extract 0 s.size=s:=auSi
    simp only[Builtin.firstCells,this,Sem.run_pure];congr 1;apply Zfc;simp
   .rw[Dy,<-Dy (f:=λb:UInt8=>[D.int .u8 b.toNat])];rcases Z with rfl|Z
    .simp[Bw,Kp]
    .have:Kp s=[]:=rG.1 Z
     simp only[Kp] at this;simp[Bw,Kp,this]
   .rcases Z with rfl|Z
    .exact uQ _
    .have:Kp s=[]:=rG.1 Z
     rw[this];simp only[Bw,Gl,BQ]
   .intro v hv;obtain⟨b,_,rfl⟩:=BY.1 hv;rfl
  rename_i nz k rows;simp only[DE,Src.rows,Src.w,Src.okOne] at Q Z⊢;simp only[Ab,rd] at hc;rcases hc with ⟨rfl|⟨_,a,rfl⟩,rfl⟩|⟨b,p,cap,vs,T,fr,rfl,_,h2,h3,_,h5,h6⟩
  .exact⟨[],by simp[Builtin.lenOf,Bw],by simp[Builtin.firstCells],by simp[Bw],by simp[Bw,BQ],auSi,by simp[Bw]⟩
  .refine⟨[],by simp[Builtin.lenOf,Bw],?_,by simp[Bw],by simp[Bw,BQ],auSi,by simp[Bw]⟩;intro j;simp[Builtin.firstCells,Bw,loadCells,loadCellsFrom]
  .by_cases hr:rows=[]
   .subst hr;refine⟨[],by simp[Builtin.lenOf,Bw],?_,by simp[Bw],by simp[Bw,BQ],auSi,by simp[Bw]⟩;intro j;simp[Builtin.firstCells,Bw,loadCells,loadCellsFrom]
   .have ag:k=z:=by
     rcases Z with Z|Z
     .exact Z
     .simp[Bw] at Z;exact absurd Z hr
    subst ag;have hl:=Qxq rows _ h6 hz;have ab:vs.toList.length=vs.size:=HA;have af:=pP _ _ h6;have O:(Bw rows).length=rows.length:=by simp[Bw]
    refine⟨(vs.toList.drop p).take (rows.length*k),by simp[Builtin.lenOf,Bw],?_,?_,?_,?_,by rw[O];exact h3⟩
    .intro j;rw[O];refine pB (w:={S.w with drawn:=j}) h5 ?_;by_cases an:p<=vs.size
     .rw[CM,ab] at hl;omega
     .have:0<rows.length*k:=Nat.mul_pos (rF.2 hr) auOm
      rw[CM,ab] at hl;omega
    .rw[Eb,O];omega
    .have:=Qiu _ _ af (by rw[O];exact hl)
     rwa [O] at this
    .have:=xM _ _ (Qyt Q) af (by rw[O];exact hl)
     rwa [O] at this
 case own n=>
  simp only[DE] at Q Z hu⊢;simp only[Ab] at hc;cases hn:h n with
  |none=>rw[hn] at Q;exact Q.elim
  |some e=>
  rw[hn] at Q Z hu;obtain⟨mu,e⟩:=e;cases e<;>try exact Q.elim
  case arr T k rows=>
   simp only[dQ,Src.rows,Src.w,Src.okOne,Src.us] at Q Z hu⊢;have hS:S.h n=_:=(hu n auSi).trans hn;have aa:=hW.obj _ _ hS;have hc:=hc.2 _ hS;have O:(Bw rows).length=rows.length:=by simp[Bw]
   cases hl0:S.ρ n with
   |none=>
    rw[hl0] at hc aa;simp only[Au] at aa;obtain⟨_,rfl⟩:=aa;simp only at hc;subst hc;exact⟨[],by simp[Builtin.lenOf,Bw],by simp[Builtin.firstCells],by simp[Bw],by simp[Bw,BQ],auSi,by simp[Bw]⟩
   |some l=>
    rw[hl0] at hc aa;simp only[Au,Ad.len] at aa hc;subst hc;obtain⟨ac,ad,vs,hb,aj,hr⟩:=aa;by_cases ai:rows=[]
    .subst ai;refine⟨[],by simp[Builtin.lenOf,Bw],?_,by simp[Bw],by simp[Bw,BQ],auSi,by simp[Bw]⟩;intro j;simp[Builtin.firstCells,Bw,loadCells,loadCellsFrom]
    .have ag:k=z:=by
      rcases Z with Z|Z
      .exact Z
      .simp[Bw] at Z;exact absurd Z ai
     subst ag;have af:=pP _ _ hr;have am:rows.length*k<=l.cap*k:=Iv _ ad;have ab:vs.toList.length=vs.size:=HA;have ah:rows.length*k<=(vs.toList.drop l.p).length:=by rw[CM,ab];omega
     refine⟨(vs.toList.drop l.p).take (rows.length*k),by simp[Builtin.lenOf,Bw],?_,?_,?_,?_,by rw[O];exact ac⟩
     .intro j;rw[O];exact pB (w:={S.w with drawn:=j}) hb auOm
     .rw[Eb,O];omega
     .have:=Qiu _ _ af (by rw[O];exact ah)
      rwa [O] at this
     .have:=xM _ _ (Qyt Q) af (by rw[O];exact ah)
      rwa [O] at this
  case arrA T k rows=>
   simp only[dQ,Src.rows,Src.w,Src.okOne,Src.us] at Q Z hu⊢;have hS:S.h n=_:=(hu n auSi).trans hn;have aa:=hW.obj _ _ hS;have hc:=hc.2 _ hS;cases hl0:S.ρ n with
   |none=>
    rw[hl0] at hc aa;simp only[Au] at aa;obtain⟨_,rfl⟩:=aa;simp only at hc;subst hc;exact⟨[],by simp[Builtin.lenOf],by simp[Builtin.firstCells],auSi,by simp[BQ],auSi,auSi⟩
   |some l=>
    rw[hl0] at hc aa;simp only[Au,Ad.len] at aa hc;subst hc;obtain⟨ac,ad,vs,hb,aj,hr⟩:=aa;by_cases ai:rows=[]
    .subst ai;refine⟨[],by simp[Builtin.lenOf],?_,auSi,by simp[BQ],auSi,auSi⟩;intro j;simp[Builtin.firstCells,loadCells,loadCellsFrom]
    .have ag:k=z:=by
      rcases Z with Z|Z
      .exact Z
      .exact absurd Z ai
     subst ag;have am:rows.length*k<=l.cap*k:=Iv _ ad;have ab:vs.toList.length=vs.size:=HA;have ah:rows.length*k<=(vs.toList.drop l.p).length:=by rw[CM,ab];omega
     refine⟨(vs.toList.drop l.p).take (rows.length*k),by simp[Builtin.lenOf],?_,?_,?_,?_,ac⟩
     .intro j;exact pB (w:={S.w with drawn:=j}) hb auOm
     .rw[Eb];omega
     .exact Qiu _ _ hr ah
     .exact xM _ _ Q hr ah
end
def Qjh{S:AD}{k:Nat}: ∀(rows:List (List D)) (L:LVa),BQ S k (Bw rows) L->rdr S.ok S.hp k rows L
 |[],_,_=>by simp only[rdr]
 |r::rows,L,h=>by
  simp only[Bw,Br,BQ] at h;simp only[rdr];exact⟨by simpa using h.1,(wE _ _).1 h.2.1,Qjh rows _ h.2.2⟩
def aE{S S':AD}{T k:Nat}{rows:List (List D)}{l:Option GI}(O:S'.ok=S.ok)(z:S'.hp=S.hp)(h:Au S l (.arrA T k (Bw rows))):Au S' l (.arr T k rows):=by
 simp only[Au] at h⊢;refine⟨by simpa[Bw] using h.1,?_⟩;cases l with
 |none=>simpa[Bw] using h.2
 |some lc=>
  obtain⟨_,Q,vs,Z,h3,h4⟩:=h;refine⟨by simpa[Bw] using Q,vs,by rw[z];exact Z,h3,?_⟩;rw[O,z];exact Qjh _ _ h4
section
variable {P:Program}{tm:TmT}{h:HpT}{nx:Nat}{o:Oper}{K:Al}
def Pq{T U e:TypeId}{z:TI}{s x:Operand}(hT:P.underlying T=some (.slice e))(hU:zB P U)(hE:tI P e=some z)
 {c:Call}(ho:o.op= .call c)(af:c.callee= .builtin .append)(ab:c.args= #[s,x])(br:c.argTypes= #[T,U])
 (aj:z.bytes≠0)(hz:z.zero.length=z.size)(aa:z.size≠0){u ks:List Nat}{rows0:List (List AV)}
 (a0:(DE h (Ay tm x)).okOne)(hw:(DE h (Ay tm x)).w=z.size\/(DE h (Ay tm x)).rows=[])(ba: ∀n∈(DE h (Ay tm x)).us,n∈u++ks)
 (be:(rows0.length+(DE h (Ay tm x)).rows.length+512)*z.bytes<=140737488355328)
 (hnm: ∀m∈BI (rows0++(DE h (Ay tm x)).rows),∃n f,n∈u++ks/\h n=some f/\m∈f.2.nms)
 (az:((∃k0,Ay tm s= .im (.sl true k0 []))/\rows0=[])\/(∃n f,Ay tm s= .own n/\n∈ks/\h n=some (true,f)/\((∃rows,f= .arr e z.size rows/\rows0=Bw rows)\/f= .arrA e z.size rows0)))
 {ea:Ad}(av:ea= .arrA e z.size (rows0++(DE h (Ay tm x)).rows)\/ ∃rows,ea= .arr e z.size rows/\Bw rows=rows0++(DE h (Ay tm x)).rows)
 (hk:K (.own nx) {use:=u,kill:=ks,new:=[(nx,(true,ea))],cnt:=1}):Cr P tm h nx o K:=by
 refine⟨_,_,BP.one (u:=u) (ks:=ks) (.inl ⟨rfl,rfl⟩) ?_,hk⟩;intro C S a hW hu bh ah ai;have Z:=ai s (by rw[ho];simp[Op.operands,Call.operands,ab,af]);have h2:=ai x (by rw[ho];simp[Op.operands,Call.operands,ab,af]);have bj:(DE h (Ay tm x)).rows.length<=KN:=by
  have bf:z.bytes≠0:=aj
  have:(rows0.length+(DE h (Ay tm x)).rows.length+512)*1<=(rows0.length+(DE h (Ay tm x)).rows.length+512)*z.bytes:=Zeg _ auOm
  simp only[KN];omega
 obtain⟨L,ax,ag,ao,bd,bc,bu⟩:=Wd hW h2 (λn hn=>hu n (ba n hn)) a0 aa hw bj;have bo:=bh rfl;have an: ∃l0 A,a.eval s=oE l0 rows0.length/\fL S e z.size rows0.length A l0/\
  (∀l,l0=some l-> ∃o f,o∈ks/\S.h o=some (true,f)/\S.ρ o=some l)/\BQ S z.size rows0 A/\rows0.length*z.size<=A.length:=by
  rcases az with ⟨⟨k0,hs⟩,rfl⟩|⟨n,f,hs,ay,hf,aw⟩
  .rw[hs] at Z;simp only[Ab,rd] at Z;rcases Z with ⟨Z,_⟩|⟨b,p,cap,vs,T,fr,_,bm,_⟩
   .have Z:=Qr7 Z;exact⟨none,[],by rw[Z];rfl,⟨rfl,rfl⟩,(by intro l hl;cases hl),by simp only[BQ],auSi⟩
   .exact absurd rfl (bm trivial)
  .rw[hs] at Z;have hS:S.h n=_:=(hu n (by simp[ay])).trans hf;have O:=hW.obj _ _ hS;simp only[Ab] at Z;have Z:=Z.2 _ hS;cases hl0:S.ρ n with
   |none=>
    rw[hl0] at Z O;simp only at Z
    have:rows0=[]:=by
     rcases aw with ⟨rows,rfl,rfl⟩|rfl
     .simp only[Au] at O;rw[O.2];rfl
     .simp only[Au] at O;exact O.2
    subst this;exact⟨none,[],by rw[Z];rfl,⟨rfl,rfl⟩,(by intro l hl;cases hl),by simp only[BQ],auSi⟩
   |some l=>
    rw[hl0] at Z O;simp only at Z;have aq:f.len=rows0.length/\rows0.length<=l.cap/\ ∃vs,S.hp l.b=some (.cells vs e (0,0))/\l.p+l.cap*z.size<=vs.size/\BQ S z.size rows0 (vs.toList.drop l.p):=by
     rcases aw with ⟨rows,rfl,rfl⟩|rfl
     .simp only[Au] at O;obtain⟨_,Q,vs,hb,aa,hr⟩:=O;exact⟨by simp[Ad.len,Bw],by simpa[Bw] using Q,vs,hb,aa,pP _ _ hr⟩
     .simp only[Au] at O;obtain⟨_,Q,vs,hb,aa,hr⟩:=O;exact⟨rfl,Q,vs,hb,aa,hr⟩
    obtain⟨bg,Q,vs,hb,aa,hr⟩:=aq;have bv:rows0.length*z.size<=l.cap*z.size:=Iv _ Q;have bt:vs.toList.length=vs.size:=HA;refine⟨some l,vs.toList.drop l.p,by rw[Z,bg];rfl,⟨Q,vs,hb,rfl,aa⟩,?_,hr,by rw[CM,bt];omega⟩;intro l' bi;obtain rfl:=AJ bi;exact⟨n,f,ay,hS,hl0⟩
 obtain⟨l0,A,hv,hA,ak,bq,bb⟩:=an;obtain⟨w',l',a8,bp,ad⟩:=Pp hW (nx:=nx) (ks:=ks) (ty:=o.type) hT hE hU aj hz aa be hA ax ag ao bc ak bo (λn f hf=>ah n f hf rfl);refine⟨oE l' (rows0.length+(DE h (Ay tm x)).rows.length),w',l',.inl ?_,bp ea,?_⟩
 .simp only[execOp,ho,resolve,af,ab,br,Sem.run_bind,Sem.run_pure,Result.andThen_ok,invoke,builtin];simp[hv,a8]
 intro hp;have bf:z.bytes≠0:=aj;have a9:rows0.length+(DE h (Ay tm x)).rows.length<=KN:=by
  have:(rows0.length+(DE h (Ay tm x)).rows.length+512)*1<=(rows0.length+(DE h (Ay tm x)).rows.length+512)*z.bytes:=Zeg _ auOm
  simp only[KN];omega
 have hX: ∀m∈BI (rows0++(DE h (Ay tm x)).rows),S.h nx≠none\/m≠nx:=by
  intro m hm;obtain⟨n,f,bn,hf,bl⟩:=hnm m hm;right;rintro rfl;exact ah n f ((hu n bn).trans hf) rfl bl
 have ac:Au (S.one nx ea l' ks w') l' (.arrA e z.size (rows0++(DE h (Ay tm x)).rows)):=by
  simp only[Au,BR];refine⟨a9,?_⟩;cases l' with
  |none=>
   simp only at ad⊢;rw[List.append_eq_nil_iff];exact⟨Rk.1 ad.1,Rk.1 ad.2⟩
  |some l=>
   obtain⟨h3,vs,R,h4,h5,h6⟩:=ad;refine⟨h3,vs,h4,h5,?_⟩;rw[h6];exact wL hp _ _ _ hX (Qqs _ _ _ _ _ bq bb bd (by rw[ao];exact BN _))
 have am:ea.len=rows0.length+(DE h (Ay tm x)).rows.length:=by
  rcases av with rfl|⟨rows,rfl,hr⟩
  .simp[Ad.len]
  .simp only[Ad.len];rw[<-BR,<-hr];simp[Bw]
 constructor
 .rcases av with rfl|⟨rows,rfl,hr⟩
  .exact ac
  .rw[<-hr] at ac;exact aE rfl rfl ac
 .simp only[Ab];refine⟨by cases l'<;>rfl,λe' au=> ?_⟩;simp only[AD.one,Ff,AS] at au⊢;subst au;cases l' with
  |none=>rfl
  |some l=>simp only[oE];rw[am]
def qA(rows:List (List D)):BI (Bw rows)=[]:=by
 induction rows with
 |nil=>rfl
 |cons r rows ih=>simp only[Bw,Br,BI,Qw0,E5];exact ih
def xH: ∀(a b:List (List AV)),BI (a++b)=BI a++BI b
 |[],_=>rfl
 |x::a,b=>by simp[BI,xH a b]
def QD{X:AV}{m:Nat}(hm:m∈BI (DE h X).rows): ∃n f,n∈(DE h X).us/\h n=some f/\m∈f.2.nms:=by
 cases X<;>try (simp only[DE,Src.rows,BI] at hm;cases hm;done)
 case im d=>cases d<;>simp only[DE,Src.rows,qA,BI] at hm<;>cases hm
 case own n=>
  simp only[DE] at hm⊢;cases hn:h n with
  |none=>rw[hn] at hm;simp only[dQ,Src.rows,BI] at hm;cases hm
  |some e=>
   rw[hn] at hm;obtain⟨z,e⟩:=e;cases e<;>simp only[dQ,Src.rows,qA,BI] at hm<;>try cases hm
   refine⟨n,_,by simp[Src.us,dQ],hn,hm⟩
def Qab5{T U:TypeId}{s x:Operand}{c:Call}(ho:o.op= .call c)(ag:c.callee= .builtin .append)(ad:c.args= #[s,x])(am:c.argTypes= #[T,U])
 (z:Bz (Qlj P h nx (Ay tm s) (Ay tm x) T K) (tI P U)):Cr P tm h nx o K:=by
 cases hU:tI P U with
 |none=>rw[hU] at z;exact z.elim
 |some ui=>
 rw[hU] at z;simp only[Bz,Qlj] at z;obtain⟨ah,z⟩:=z;have aj:zB P U:=by
  cases hu:ui.kind<;>rw[hu] at ah<;>simp only[TK.isSl,TK.isStr,Bool.or_self,lG,YF,BL] at ah
  .exact .inr (RC hU hu)
  .exact .inl ⟨_,QX hU hu⟩
 cases hT:tI P T with
 |none=>rw[hT] at z;exact z.elim
 |some ti=>
 rw[hT] at z;simp only[Qsl] at z;cases hf:ti.kind<;>rw[hf] at z<;>try exact z.elim
 rename_i e;have ai:=QX hT hf;simp only[apK] at z;cases hE:tI P e with
 |none=>rw[hE] at z;exact z.elim
 |some te=>
 rw[hE] at z;simp only[Bz,apE] at z;obtain⟨hz,hl,ak,Z,z⟩:=z;have ab: ∀{m:Nat},m∈BI (DE h (Ay tm x)).rows-> ∃n f,n∈(DE h (Ay tm x)).us/\h n=some f/\m∈f.2.nms:=λhm=>QD hm
 have O:= @Pq P tm h nx o K T U e te s x ai aj hE c ho ag ad am ak hl hz;revert O;generalize DE h (Ay tm x)=src at z Z ab;intro O;cases hs:Ay tm s<;>rw[hs] at z<;>try exact z.elim
 case im d=>
  cases d<;>try exact z.elim
  rename_i nz k0 rows;cases nz<;>cases rows<;>try exact z.elim
  simp only[S9] at z;cases src with
  |no=>exact z.elim
  |d u k rows=>
   simp only[O5] at z;obtain⟨Q,hb,z⟩:=z;refine O (u:=u) (ks:=[]) (rows0:=[]) Z (Q.imp id (λh=>by rw[h];rfl)) (by simp[Src.us]) (by simpa[Src.rows,Bw] using hb) ?_ (.inl ⟨⟨k0,hs⟩,rfl⟩) (.inr ⟨rows,rfl,by simp[Src.rows]⟩) z;intro m hm;simp only[E5,Src.rows,qA] at hm;cases hm
  |a u k rows=>
   simp only[O5] at z;obtain⟨Q,hb,z⟩:=z;refine O (u:=u) (ks:=u) (rows0:=[]) Z (.inl Q) (by simp[Src.us]) (by simpa[Src.rows] using hb) ?_ (.inl ⟨⟨k0,hs⟩,rfl⟩) (.inl (by simp[Src.rows])) z;intro m hm;obtain⟨n,f,hn,hf⟩:=ab hm;exact⟨n,f,by simp[Src.us] at hn;simp[hn],hf⟩
 case own n=>
  simp only[S9] at z;cases hn:h n with
  |none=>rw[hn] at z;exact z.elim
  |some ac=>
  rw[hn] at z;obtain⟨mu,ac⟩:=ac;cases mu<;>cases ac<;>try exact z.elim
  case true.arr U0 k0 rows0=>
   simp only[JD] at z;obtain⟨rfl,rfl,z⟩:=z;cases src with
   |no=>exact z.elim
   |d u k rows=>
    simp only[rR] at z;obtain⟨Q,af,hb,z⟩:=z;refine O (u:=n::u) (ks:=[n]) (rows0:=Bw rows0) Z (Q.imp id (λh=>by rw[h];rfl)) (by intro x hx;simp[Src.us] at hx;simp[hx]) (by simpa[Src.rows,Bw] using hb) ?_
     (.inr ⟨n,_,hs,auSi,hn,.inl ⟨rows0,rfl,rfl⟩⟩) (.inr ⟨rows0++rows,rfl,by simp[Src.rows,Bw]⟩) z
    intro m hm;simp only[Src.rows,xH,qA] at hm;cases hm
   |a u k rows=>
    simp only[rR] at z;obtain⟨Q,af,hb,z⟩:=z;refine O (u:=n::u) (ks:=n::u) (rows0:=Bw rows0) Z (.inl Q) (by intro x hx;simp[Src.us] at hx;simp[hx]) (by simpa[Src.rows,Bw] using hb) ?_
     (.inr ⟨n,_,hs,auSi,hn,.inl ⟨rows0,rfl,rfl⟩⟩) (.inl (by simp[Src.rows])) z
    intro m hm;simp only[xH,qA,E5] at hm;obtain⟨n',f,aa,hf⟩:=ab hm;exact⟨n',f,by simp[Src.us] at aa;simp[aa],hf⟩
  case true.arrA U0 k0 rows0=>
   simp only[JD] at z;obtain⟨rfl,rfl,z⟩:=z;cases src with
   |no=>exact z.elim
   |d u k rows=>
    simp only[rQ] at z;obtain⟨Q,af,hb,z⟩:=z;refine O (u:=n::u) (ks:=[n]) (rows0:=rows0) Z (Q.imp id (λh=>by rw[h];rfl)) (by intro x hx;simp[Src.us] at hx;simp[hx]) (by simpa[Src.rows,Bw] using hb) ?_
     (.inr ⟨n,_,hs,auSi,hn,.inr rfl⟩) (.inl (by simp[Src.rows])) z
    intro m hm;simp only[Src.rows,xH,qA,C3] at hm;exact⟨n,_,auSi,hn,hm⟩
   |a u k rows=>
    simp only[rQ] at z;obtain⟨Q,af,hb,z⟩:=z;refine O (u:=n::u) (ks:=n::u) (rows0:=rows0) Z (.inl Q) (by intro x hx;simp[Src.us] at hx;simp[hx]) (by simpa[Src.rows] using hb) ?_
     (.inr ⟨n,_,hs,auSi,hn,.inr rfl⟩) (.inl (by simp[Src.rows])) z
    intro m hm;simp only[xH,BO] at hm;rcases hm with hm|hm
    .exact⟨n,_,auSi,hn,hm⟩
    .obtain⟨n',f,aa,hf⟩:=ab hm;exact⟨n',f,by simp[Src.us] at aa;simp[aa],hf⟩
end
def Qx9{ok:Nat->Prop}{hp:Nat->Option Obj}: ∀(ds:List (D×D)) (es:List MapEntry),Dh ok hp ds es->es.length=ds.length
 |[],_,h=>by simp only[Dh] at h;simp[h]
 |(x,y)::ds,_,h=>by
  simp only[Dh] at h;obtain⟨e,r,rfl,_,_,z⟩:=h;simp[Qx9 ds r z]
def QW{P:Program}{w:World}{b:Nat}{es:Array MapEntry}{clock:Nat}(h:w.heap[b]? =some (.map es clock)):(getObj b).run P w= .ok (.map es clock) w:=by
 simp[getObj,Sem.run,h]
section
variable {P:Program}{w:World}{T e k:TypeId}
def Yl(x y:Value):Op.equal T x y=Op.equalIn (9999+1) T x y:=rfl
def LA(z:P.underlying T=some (.slice e))(d:Nat)(b:Option Addr)(n c:Nat):(Op.equalIn (d+1) T (.slice b n c) (.slice none 0 0)).run P w= .ok b.isNone w:=by
 cases b<;>simp[Op.equalIn,run_underlying z]
def Qx1(z:P.underlying T=some (.pointer e))(d:Nat)(b:Option Addr):(Op.equalIn (d+1) T (.pointer b) (.pointer none)).run P w= .ok b.isNone w:=by
 cases b<;>simp[Op.equalIn,run_underlying z]
def L9(z:P.underlying T=some (.map k e))(d:Nat)(b:Option Nat):(Op.equalIn (d+1) T (.map b) (.map none)).run P w= .ok b.isNone w:=by
 cases b<;>simp[Op.equalIn,run_underlying z]
end
def sI(tm:TmT)(h:HpT)(o:Oper):Prop:=
 ∃u:List Nat,∀(C:Bn) (S:AD) (a:Act),Wf C S->(∀n∈u,S.h n=h n)->(∀x∈o.op.operands,Ab S (Ay tm x) (a.eval x))->False
def Lx(P:Program)(tm:TmT)(h:HpT)(nx:Nat)(o:Oper)(K:Al):Prop:=
 ∀(C:Bn) (S:AD) (a:Act) (next:Act->World->Prop) (Q:Exit->Act->World->Prop),
  Wf C S->(∀n,S.h n=h n)->(∀n,nx<=n->S.h n=none)->(∀n e,S.h n=some e-> ∀m∈e.2.nms,m<nx)->
  (∀x∈o.op.operands,Ab S (Ay tm x) (a.eval x))->
  (∀r E v S',K r E->Wf C S'->S'.h=E.appf S.h->Ck (λm=> ¬Fr nx E.cnt m) S S'->Ab S' r v->next (a.put o.dst v) S'.w)->
  o.wp P a S.w next Q
abbrev Y8(P:Program)(z:Bool)(tm:TmT)(h:HpT)(nx:Nat)(o:Oper)(K:Al):Prop:=
 Cr P tm h nx o K\/(z=true/\(sI tm h o\/Lx P tm h nx o K))
section
variable {P:Program}{tm:TmT}{h:HpT}{nx:Nat}{o:Oper}{K:Al}
def dP{T:TypeId}{x:Operand}{c:Call}{u:List Nat}{n:Nat}(ho:o.op= .call c)(O:c.callee= .builtin .len)(z:c.args= #[x])(aa:c.argTypes= #[T])
 (Z: ∀(C:Bn) (S:AD) (v:Value),Wf C S->(∀n∈u,S.h n=h n)->Ab S (Ay tm x) v->(Builtin.len_ #[T] o.type #[v]).run P S.w= .ok (.int .i64 n) S.w)
 (hk:GY K {use:=u} n):Cr P tm h nx o K:=by
 refine⟨_,_,BP.pure (u:=u) ?_,hk⟩;intro C S a hW hu Q;have h1:=Q x (by rw[ho];simp[Op.operands,Call.operands,z,O]);refine⟨.int .i64 n,?_,by simp only[Ab,rd]⟩;simp only[execOp,ho,resolve,O,z,aa,Sem.run_bind,Sem.run_pure,Result.andThen_ok,invoke,builtin];simp[Z C S _ hW hu h1]
def Qq0{z:Bool}{B:Prop}(Q:(z=true->B)->Cr P tm h nx o K)(Z: ¬B->sI tm h o):Y8 P z tm h nx o K:=by
 by_cases O:B
 .exact .inl (Q λ_=>O)
 .cases z
  .exact .inl (Q λh=>by cases h)
  .exact .inr ⟨rfl,.inl (Z O)⟩
def bM{sq:Bool}{T:TypeId}{x:Operand}{c:Call}(ho:o.op= .call c)(Z:c.callee= .builtin .len)(Q:c.args= #[x])(ab:c.argTypes= #[T])
 (z:Bz (kK sq h (Ay tm x) K) (tI P T)):Y8 P sq tm h nx o K:=by
 have ak:x∈o.op.operands:=by rw[ho];simp[Op.operands,Call.operands,Q,Z]
 cases hT:tI P T with
 |none=>rw[hT] at z;exact z.elim
 |some ti=>
 rw[hT] at z;simp only[Bz,kK] at z;cases hf:ti.kind<;>rw[hf] at z<;>try exact z.elim
 case slice e=>
  have hu:=QX hT hf;simp only[Gx] at z;cases hx:Ay tm x<;>rw[hx] at z<;>try exact z.elim
  case im d=>
   cases d<;>try exact z.elim
   rename_i nz k rows;simp only[kA] at z;refine Qq0 (B:=rows.length<=140737488355328) (λhb=>dP (u:=[]) ho Z Q ab ?_ (z hb)) λhb=>⟨[],?_⟩
   .intro C S v hW _ O;rw[hx] at O;simp only[Ab,rd] at O;rcases O with ⟨rfl|⟨_,a,rfl⟩,rfl⟩|⟨b,p,cap,vs,T,fr,rfl,_⟩<;>simp[Builtin.len_,underlying,hu,goInt]
   .intro C S a hW _ af;have h1:=af x ak;rw[hx] at h1;simp only[Ab,rd] at h1;rcases h1 with ⟨_,rfl⟩|⟨b,p,cap,vs,T,fr,_,_,_,h3,_⟩
    .simp at hb
    .exact hb h3
  case own n=>
   simp only[kA] at z;cases hn:h n with
   |none=>rw[hn] at z;exact z.elim
   |some aa=>
   rw[hn] at z;obtain⟨mu,aa⟩:=aa;have ag: ∀{rl:Nat},aa.len=rl->(∀(S:AD) l,Au S l aa->rl<=140737488355328)->((sq=true->rl<=140737488355328)->GY K {use:=[n]} rl)->(∀(S:AD),Au S none aa->rl=0)->
    Y8 P sq tm h nx o K:=by
    intro rl hl am z aj;refine Qq0 (B:=rl<=140737488355328) (λhb=>dP (u:=[n]) ho Z Q ab ?_ (z hb)) λhb=>⟨[n],?_⟩
    .intro C S v hW ac O;rw[hx] at O;simp only[Ab] at O;have hS:=(ac n auSi).trans hn;have O:=O.2 _ hS;cases hl0:S.ρ n with
     |none=>
      have ad:=hW.obj _ _ hS;rw[hl0] at O ad;simp only at O;subst O
      have:=aj S ad
      simp[Builtin.len_,underlying,hu,goInt,this]
     |some l=>
      rw[hl0] at O;simp only[hl] at O;subst O;simp[Builtin.len_,underlying,hu,goInt]
    .intro C S a hW ac af;have hS:=(ac n auSi).trans hn;exact hb (am S _ (hW.obj _ _ hS))
   cases aa<;>try exact z.elim
   case arr T0 k rows=>
    exact ag rfl (λS l ho=>by simp only[Au] at ho;exact ho.1) z (λS ho=>by simp only[Au] at ho;rw[ho.2];rfl)
   case arrA T0 k rows=>
    exact ag rfl (λS l ho=>by simp only[Au] at ho;exact ho.1) z (λS ho=>by simp only[Au] at ho;rw[ho.2];rfl)
  case osl n wa wn=>
   simp only[kA] at z;cases hn:h n with
   |none=>rw[hn] at z;exact z.elim
   |some aa=>
   rw[hn] at z;refine .inl (dP (u:=[n]) ho Z Q ab ?_ z);intro C S v hW ac O;rw[hx] at O;simp only[Ab] at O;have hS:=(ac n auSi).trans hn;have O:=O.2 _ hS;unfold QU at O;cases hl0:S.ρ n with
   |none=>
    rw[hl0] at O;obtain⟨rfl,rfl⟩:=O;simp[Builtin.len_,underlying,hu,goInt]
   |some l=>
    rw[hl0] at O;obtain⟨p,cp,rfl,_⟩:=O;simp[Builtin.len_,underlying,hu,goInt]
 case str=>
  have hu:=RC hT hf;simp only[Gx] at z;cases hx:Ay tm x<;>rw[hx] at z<;>try exact z.elim
  rename_i d;cases d<;>try exact z.elim
  refine .inl (dP (u:=[]) ho Z Q ab ?_ z);intro C S v hW _ O;rw[hx] at O;simp only[Ab,rd] at O;subst O;simp[Builtin.len_,underlying,hu,goInt]
 case map k e=>
  have hu:=qO hT hf;simp only[Gx] at z;cases hx:Ay tm x<;>rw[hx] at z<;>try exact z.elim
  case im d=>
   cases d<;>try exact z.elim
   case nilm=>
    refine .inl (dP (u:=[]) ho Z Q ab ?_ z);intro C S v hW _ O;rw[hx] at O;simp only[Ab,rd] at O;subst O;simp[Builtin.len_,underlying,hu,goInt]
   case mp kt es=>
    refine .inl (dP (u:=[]) ho Z Q ab ?_ z);intro C S v hW _ O;rw[hx] at O;simp only[Ab,rd] at O;obtain⟨b,ai,ah,rfl,_,_,h5,h6,_⟩:=O;have hl:=Qx9 _ _ h6;simp only[HA] at hl;simp[Builtin.len_,underlying,hu,goInt,QW (w:=S.w) h5,hl]
  case mp n=>
   simp only[yS] at z;cases hn:h n with
   |none=>rw[hn] at z;exact z.elim
   |some aa=>
   rw[hn] at z;obtain⟨mu,aa⟩:=aa;cases aa<;>try exact z.elim
   refine .inl (dP (u:=[n]) ho Z Q ab ?_ z);intro C S v hW ac O;rw[hx] at O;simp only[Ab] at O;have hS:=(ac n auSi).trans hn;obtain⟨l,hl,rfl⟩:=O.2 _ hS;have ad:=hW.obj _ _ hS;simp only[Au] at ad;obtain⟨lc,ai,ah,h1,_,h5,h6,_⟩:=ad;rw[hl] at h1;obtain rfl:=AJ h1;have hl:=Qx9 _ _ h6;simp only[HA] at hl;simp[Builtin.len_,underlying,hu,goInt,QW (w:=S.w) h5,hl]
def jO{op:BinOp}{T U:TypeId}{x y:Operand}{u:List Nat}{b:Bool}(ho:o.op= .binOp op T x y U)(aa:op= .eql\/op= .neq){z:Value}(hy:y= .const z)
 (Z:z= .slice none 0 0\/z= .pointer none\/z= .map none)
 (Q: ∀(C:Bn) (S:AD) (v:Value),Wf C S->(∀n∈u,S.h n=h n)->Ab S (Ay tm x) v->(∀k n,v≠ .int k n)/\(∀k n,v≠ .float k n)/\(∀k n m,v≠ .complex k n m)/\(∀s,v≠ .string s)/\(Op.equal T v z).run P S.w= .ok b S.w)
 (hk:K (.im (.bool ((decide (op= .neq)) !=b))) {use:=u}):Cr P tm h nx o K:=by
 refine⟨_,_,BP.pure (u:=u) ?_,hk⟩;intro C S a hW hu O;have h1:=O x (by rw[ho];simp[Op.operands]);obtain⟨hi,hf,hc,hs,hr⟩:=Q C S _ hW hu h1;refine⟨.bool (decide (op= .neq) !=b),?_,by simp only[Ab,rd]⟩;have hg:(eqGuard op T x y (a.eval x) z).run P S.w= .ok () S.w:=by
  rcases Z with rfl|rfl|rfl<;>rcases aa with rfl|rfl<;>simp[eqGuard]
 have hb:(binOp op T (a.eval x) z).run P S.w= .ok (.bool (decide (op= .neq) !=b)) S.w:=by
  have hq:(Op.equal T (a.eval x) z).run P S.w= .ok b S.w:=hr;clear hr hg O h1 Q hk hu;generalize a.eval x=v at*;rcases aa with rfl|rfl
  .have:binOp .eql T v z=(do pure (.bool (<-Op.equal T v z))):=by
    rcases Z with rfl|rfl|rfl<;>cases v<;>first|rfl|exact absurd rfl (hi _ _)|exact absurd rfl (hf _ _)|exact absurd rfl (hc _ _ _)|exact absurd rfl (hs _)
   rw[this];simp[hq]
  .have:binOp .neq T v z=(do pure (.bool (!(<-Op.equal T v z)))):=by
    rcases Z with rfl|rfl|rfl<;>cases v<;>first|rfl|exact absurd rfl (hi _ _)|exact absurd rfl (hf _ _)|exact absurd rfl (hc _ _ _)|exact absurd rfl (hs _)
   rw[this];simp[hq]
 have ab:a.eval y=z:=by rw[hy];rfl
 simp only[execOp,ho,ab,Sem.run_bind,hg,Result.andThen_ok,hb,Sem.run_pure]
def gB{op:BinOp}{T U:TypeId}{x y:Operand}{m:Nat}(ho:o.op= .binOp op T x y U)(hm:Gy y=m+1)(ac:m<=2)(hk:Bz (qD h op (Ay tm x) K m) (tI P T)):Cr P tm h nx o K:=by
 cases hT:tI P T with
 |none=>rw[hT] at hk;exact hk.elim
 |some ti=>
 rw[hT] at hk;simp only[Bz] at hk;have Q:op= .eql\/op= .neq:=by cases op<;>first|exact .inl rfl|exact .inr rfl|exact hk.elim
 have z:Yz h (decide (op= .neq)) K (Ay tm x) m ti.kind:=by rcases Q with rfl|rfl<;>exact hk
 have hy: ∃nv,y= .const nv/\((m=0/\nv= .slice none 0 0)\/(m=1/\nv= .pointer none)\/(m=2/\nv= .map none)):=by
  cases y<;>simp only[Gy,reduceCtorEq] at hm<;>try (cases hm;done)
  rename_i v;refine⟨v,rfl,?_⟩;unfold Ha at hm;split at hm
  .exact .inl ⟨auOm,rfl⟩
  .exact .inr (.inl ⟨auOm,rfl⟩)
  .exact .inr (.inr ⟨auOm,rfl⟩)
  .omega
  .omega
 obtain⟨nv,hy,ab⟩:=hy;clear hk;rcases ab with ⟨rfl,rfl⟩|⟨rfl,rfl⟩|⟨rfl,rfl⟩<;>cases hf:ti.kind<;>rw[hf] at z<;>try exact z.elim
 .have Z:=QX hT hf;simp only[Yz] at z;cases hx:Ay tm x<;>rw[hx] at z<;>try exact z.elim
  rename_i d;cases d<;>try exact z.elim
  rename_i nz k rows;cases nz<;>try exact z.elim
  refine jO (u:=[]) ho Q hy (.inl rfl) ?_ z;intro C S v hW _ O;rw[hx] at O;simp only[Ab,rd] at O;rcases O with ⟨h0,rfl⟩|⟨b,p,cap,vs,T,fr,rfl,h2,_⟩
  .rw[Qr7 h0];simp[Yl,LA Z 9999]
  .have ad:rows≠[]:=h2 trivial
   have:rows.isEmpty=false:=by cases rows<;>simp_all
   simp[Yl,LA Z 9999,this]
 .have Z:=oT hT hf;simp only[Yz] at z;cases hx:Ay tm x<;>rw[hx] at z<;>try exact z.elim
  case im d=>
   cases d<;>try exact z.elim
   .refine jO (u:=[]) ho Q hy (.inr (.inl rfl)) ?_ z;intro C S v hW _ O;rw[hx] at O;simp only[Ab,rd] at O;subst O;simp[Yl,Qx1 Z 9999]
   .refine jO (u:=[]) ho Q hy (.inr (.inl rfl)) ?_ z;intro C S v hW _ O;rw[hx] at O;simp only[Ab,rd] at O;obtain⟨b,p,vs,T,fr,rfl,_⟩:=O;simp[Yl,Qx1 Z 9999]
  all_goals
   obtain⟨⟨e',he⟩,z⟩:=jP z;refine jO (b:=false) ho Q hy (.inr (.inl rfl)) ?_ (by simpa using z);intro C S v hW aa O;rw[hx] at O;simp only[Ab] at O;obtain⟨l,_,rfl⟩:=O.2 e' ((aa _ auSi).trans he);simp[Yl,Qx1 Z 9999]
 .have Z:=qO hT hf;simp only[Yz] at z;cases hx:Ay tm x<;>rw[hx] at z<;>try exact z.elim
  case im d=>
   cases d<;>try exact z.elim
   .refine jO (u:=[]) ho Q hy (.inr (.inr rfl)) ?_ z;intro C S v hW _ O;rw[hx] at O;simp only[Ab,rd] at O;subst O;simp[Yl,L9 Z 9999]
   .refine jO (u:=[]) ho Q hy (.inr (.inr rfl)) ?_ z;intro C S v hW _ O;rw[hx] at O;simp only[Ab,rd] at O;obtain⟨b,p,vs,rfl,_⟩:=O;simp[Yl,L9 Z 9999]
  all_goals
   obtain⟨⟨e',he⟩,z⟩:=jP z;refine jO (b:=false) ho Q hy (.inr (.inr rfl)) ?_ (by simpa using z);intro C S v hW aa O;rw[hx] at O;simp only[Ab] at O;obtain⟨l,_,rfl⟩:=O.2 e' ((aa _ auSi).trans he);simp[Yl,L9 Z 9999]
end
end Go.Ae
