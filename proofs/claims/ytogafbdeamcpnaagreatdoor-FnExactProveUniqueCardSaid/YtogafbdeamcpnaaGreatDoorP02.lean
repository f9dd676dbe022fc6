/- Lemmas. Conditions: none. -/
import Derived.Test.YtogafbdeamcpnaaGreatDoorP01
import Derived.IntWalk
set_option linter.all false
set_option maxHeartbeats 8000000
set_option maxRecDepth 100000
namespace Go.Ae
def Qrv(z:List Value)(O:z≠[]): ∀n,(List.range (n*z.length)).map (λi=>z[i % z.length]!)=Ca n z
 |0=>by simp[Ca]
 |n+1=>by
  have h0:0<z.length:=fW.2 O;rw[F4,IF,vZ,List.range_add,GH,Rm];simp only[Ca];congr 1
  .apply List.ext_getElem
   .simp
   .intro i Q G;simp only[List.getElem_map,Zev]
    have:i % z.length=i:=Nat.mod_eq_of_lt G
    rw[this,getElem!_pos z i G]
  .rw[<-Qrv z O n];apply Oi;intro i _;simp
def Qxx(a:Array Value)(i:Nat):a[i]! =a.toList[i]! :=by
 by_cases z:i<a.size
 .rw[getElem!_pos a i z,getElem!_pos a.toList i (by simpa using z)];simp
 .rw[getElem!_neg a i z,getElem!_neg a.toList i (by simpa using z)]
def Qzv{α:Type}(z:List α): ∀n,(Ca n z).length=n*z.length
 |0=>by simp[Ca]
 |n+1=>by simp[Ca,Qzv z n,F4];omega
def oL{α β:Type}(f:α->β)(z:List α): ∀n,(Ca n z).map f=Ca n (z.map f)
 |0=>rfl
 |n+1=>by simp[Ca,oL f z n]
def MH{ok:Nat->Prop}{hp:Nat->Option Obj}: ∀(a:List D) (x:List Value) (b:List D) (y:List Value),rdl ok hp a x->rdl ok hp b y->rdl ok hp (a++b) (x++y)
 |[],x,b,y,h,z=>by simp only[rdl] at h;subst h;simpa using z
 |d::a,x,b,y,h,z=>by
  simp only[rdl] at h;obtain⟨v,r,rfl,G,O⟩:=h;simp only[CT,rdl];exact⟨v,_,rfl,G,MH a r b y O z⟩
def Qop{S:A9}: ∀(a:List AV) (x:List Value) (b:List AV) (y:List Value),AN S a x->AN S b y->AN S (a++b) (x++y)
 |[],x,b,y,h,z=>by simp only[AN] at h;subst h;simpa using z
 |d::a,x,b,y,h,z=>by
  simp only[AN] at h;obtain⟨v,r,rfl,G,O⟩:=h;simp only[CT,AN];exact⟨v,_,rfl,G,Qop a r b y O z⟩
def Qy7{ok:Nat->Prop}{hp:Nat->Option Obj}{z:List D}{x:List Value}(h:rdl ok hp z x): ∀n,rdl ok hp (Ca n z) (Ca n x)
 |0=>by simp[Ca,rdl]
 |n+1=>MH _ _ _ _ h (Qy7 h n)
def dX{α:Type}(k:Nat): ∀(n:Nat) (l:List α),(Ii k n l).length=n
 |0,_=>rfl
 |n+1,l=>by simp[Ii,dX k n]
def Qq5{ok:Nat->Prop}{hp:Nat->Option Obj}(k:Nat): ∀(n:Nat) (ds:List D) (vs:List Value),rdp ok hp ds vs->ds.length=n*k->rdr ok hp k (Ii k n ds) vs
 |0,_,_,_,_=>by simp only[Ii,rdr]
 |n+1,ds,vs,h,G=>by
  rw[F4,IF] at G;simp only[Ii,rdr];obtain⟨O,z⟩:=VA k ds vs h (by omega);refine⟨by rw[Cf];omega,?_,Qq5 k n _ _ (V7 k ds vs h (by omega)) (by rw[CG];omega)⟩
  have:=uA _ _ (vs.drop k) (WU _ _ z)
  rwa [Oh] at this
def Qms{S:A9}(k:Nat): ∀(n:Nat) (ds:List AV) (vs:List Value),Cx S ds vs->ds.length=n*k->BH S k (Ii k n ds) vs
 |0,_,_,_,_=>by simp only[Ii,BH]
 |n+1,ds,vs,h,G=>by
  rw[F4,IF] at G;simp only[Ii,BH];obtain⟨O,z⟩:=WI k ds vs h (by omega);refine⟨by rw[Cf];omega,?_,Qms k n _ _ (lA k ds vs h (by omega)) (by rw[CG];omega)⟩
  have:=lK _ _ (vs.drop k) (WJ _ _ z)
  rwa [Oh] at this
def Qn6(k:Nat)(x:Nat): ∀(n:Nat) (ds:List AV),x∈B7 (Ii k n ds)->x∈AH ds
 |0,_,h=>by simp[Ii,B7] at h
 |n+1,ds,h=>by
  have z: ∀(a b:List AV),AH (a++b)=AH a++AH b:=by
   intro a b;induction a with
   |nil=>rfl
   |cons y a ih=>simp[AH,ih]
  simp only[Ii,B7,Bx] at h
  have:=z (ds.take k) (ds.drop k)
  rw[Oh] at this;rw[this,Bx];rcases h with h|h
  .exact .inl h
  .exact .inr (Qn6 k x n _ h)
section
variable {P:Program}{tm:List (Nat×AV)}{h:Nat->Option Au}{nx:Nat}{o:Oper}{K:Ah}
def Qrh(a b:List AV):AH (a++b)=AH a++AH b:=by
 induction a with
 |nil=>rfl
 |cons y a ih=>simp[AH,ih]
def OY(n:Nat)(a:List AV): ∀m∈AH (a.take n),m∈AH a:=by
 intro m z
 have:=Qrh (a.take n) (a.drop n)
 rw[Oh] at this;rw[this,Bx];exact .inl z
def OX(n:Nat)(a:List AV): ∀m∈AH (a.drop n),m∈AH a:=by
 intro m z
 have:=Qrh (a.take n) (a.drop n)
 rw[Oh] at this;rw[this,Bx];exact .inr z
def Qvz(x:AV): ∀m∈AH x.cells,m∈x.nms:=by
 cases x<;>simp only[AV.cells]<;>intro m z
 case im d=>rw[Qw0] at z;cases z
 case agg cs=>simpa[AV.nms] using z
 all_goals simp[AH,AV.nms] at z⊢
 all_goals exact z
def Qyu(G: ∀x,∀m∈(Az tm x).nms,m≠nx)(O:Nat->Option (Nat×Nat)): ∀(ps:List (Nat×Operand)) (cs r:List AV),HE O (JA tm ps) (some cs)=some r->
 (∀m∈AH cs,m≠nx)-> ∀m∈AH r,m≠nx
 |[],cs,r,h,hc=>by simp only[JA,HE,AJ] at h;subst h;exact hc
 |(i,x)::ps,cs,r,h,hc=>by
  simp only[JA,HE] at h;cases hf:ZS cs (Az tm x).cells (O i) with
  |none=>rw[hf] at h;exact (Qjy _ _ h).elim
  |some us=>
   rw[hf] at h;refine Qyu G O ps us r h ?_;cases hp:O i with
   |none=>rw[hp] at hf;simp[ZS] at hf
   |some q=>
    rw[hp] at hf;simp only[ZS] at hf;generalize ((Az tm x).cells.length==q.2 && (Nat.blt 0 q.2 && Nat.ble (q.1+q.2) cs.length))=bb at hf;cases bb
    .simp at hf
    .simp only[Ck,AJ] at hf;subst hf;intro m z;simp only[BY,Qrh,Bx] at z;rcases z with (z|z)|z
     .exact hc m (OY _ _ m z)
     .exact G x m (Qvz _ m z)
     .exact hc m (OX _ _ m z)
def Qp8{T:TypeId}{n:Nat}{ps:Array (Nat×Operand)}(ho:o.op= .buildSlice T n ps)(G:Bg (yO P nx n (JA tm ps.toList) K) (tI P T))
 (ak: ∀x,∀m∈(Az tm x).nms,m≠nx):BS P tm h nx o K:=by
 cases hT:tI P T with
 |none=>rw[hT] at G;exact G.elim
 |some ti=>
 rw[hT] at G;simp only[Bg,yO] at G;cases hf:ti.kind<;>rw[hf] at G<;>try exact G.elim
 rename_i e;have hu:=Qa hT hf;simp only[bsK] at G;cases hE:tI P e with
 |none=>rw[hE] at G;exact G.elim
 |some Z=>
 rw[hE] at G;simp only[Bg,bsE] at G;obtain⟨hl,hz,au,G⟩:=G;have hn:n<=Lb:=by
  have:=Nat.le_mul_of_pos_right n (Nat.pos_of_ne_zero hz)
  simp only[Lb];omega
 obtain⟨z,ao,aq,an⟩:=eA hE hl hz
 have am:z.cells.toList≠[]:=by intro hh;have:z.cells.size=0:=by rw[<-EJ,hh];rfl
                                omega
 rw[<-oL] at G;cases hfl:HE (Jk Z.size) (JA tm ps.toList) (some ((Ca n Z.zero).map .im)) with
 |none=>rw[hfl] at G;exact G.elim
 |some cs=>
 rw[hfl] at G;simp only[L6] at G;have hbel:=Qyu ak _ ps.toList _ cs hfl (by rw[Qw0];intro m hm;cases hm);have ac: ∀(C:AW) (S:A9) (a:Act),Wf C S->(∀x∈o.op.operands,Aa S (Az tm x) (a.eval x))->
  ∃us:Array Value,(execOp a.eval o).run P S.w= .ok (.value (.slice (some ⟨S.w.heap.size,0,none⟩) n n)) (S.w.alloc (.cells us e))/\AN S cs us.toList/\cs.length=n*Z.size:=by
  intro C S a hW O;have as:((Array.range (n*Z.size)).map λi=>z.cells[i % z.cells.size]!).toList=Ca n z.cells.toList:=by
   rw[<-Qrv _ am n,VP,Zeu,EJ,aq];apply Oi;intro i _;exact Qxx _ _
  obtain⟨us,ah,hr,aj⟩:=zC (S:=S) (a:=a) (place:=λi=>some (i*Z.size,Z.size)) (λi q hq=>hq) ps.toList _ cs
   ((Array.range (n*Z.size)).map λi=>z.cells[i % z.cells.size]!) hfl (by rw[as];exact (I0 _ _).2 (Qy7 (an _ _) n))
   (by intro p hp
       refine O p.2 ?_;rw[ho];simp only[Op.operands];simp;exact⟨p.1,by simpa using hp⟩)
  refine⟨us,?_,hr,by rw[aj];simp[Qzv,hl]⟩;simp only[execOp,ho,Instr.buildSlice,Sem.run_bind];rw[show (underlying T).run P S.w= .ok (.slice e) S.w from by simp[underlying,hu]];simp only[Result.andThen_ok,Sem.run_bind,Jz hE];rw[Af (by omega)];by_cases af:n*Z.size=0
  .simp only[af,BM,pure_bind];simp only[af] at ah
   have:((Array.range 0).map λi=>(#[]:Array Value)[i % (#[]:Array Value).size]!)=(Array.range 0).map λi=>z.cells[i % z.cells.size]! :=by simp
   rw[this];have ab:(ps.map λ(i,x)=>(i,a.eval x)).toList=ps.toList.map λp=>(p.1,a.eval p.2):=by simp
   rw[ab,ah];simp[newRow]
  .simp only[af,CK,Sem.run_bind,ao,Result.andThen_ok,Sem.run_pure];have ab:(ps.map λ(i,x)=>(i,a.eval x)).toList=ps.toList.map λp=>(p.1,a.eval p.2):=by simp
   rw[ab,ah];simp[newRow]
 cases hai:DO cs with
 |none=>
  rw[hai] at G;simp only[IK] at G;refine⟨_,_,BA.one (u:=[]) (ks:=[]) (.inl ⟨rfl,rfl⟩) ?_,G⟩;intro C S a hW _ ad hnm O;obtain⟨us,hr,Q,hcl⟩:=ac C S a hW O;refine⟨_,_,some ⟨S.w.heap.size,0,n⟩,.inl hr,VC (w':=S.w.alloc (.cells us e)) (ob:= .cells us e) rfl rfl rfl rfl (ad rfl) (λn f hf=>hnm n f hf rfl),?_⟩;intro hp;have ag:=I9 _ _ Q;constructor
  .simp only[Aw];refine⟨by rw[dX];exact hn,by rw[dX];exact AQ _,us,ZR rfl,by simp at ag;omega,?_⟩;rw[Hg];exact sH hp _ _ _ (λm hm=> .inr (hbel m (Qn6 _ _ _ _ hm))) (Qms _ _ _ _ (WJ _ _ Q) hcl)
  .simp only[Aa];refine⟨rfl,λe' aa=> ?_⟩;have hh:(S.one nx (.arrA e Z.size (Ii Z.size n cs)) (some ⟨S.w.heap.size,0,n⟩) [] (S.w.alloc (.cells us e))).ρ nx=some ⟨S.w.heap.size,0,n⟩:=by simp[A9.one]
   rw[hh];simp only[A9.one,BM,AJ] at aa;subst aa;simp[Ad.len,dX]
 |some ds=>
  rw[hai] at G;simp only[IK] at G;refine⟨_,_,BA.one (u:=[]) (ks:=[]) (.inl ⟨rfl,rfl⟩) ?_,G⟩;intro C S a hW _ ad hnm O;obtain⟨us,hr,Q,hcl⟩:=ac C S a hW O;refine⟨_,_,some ⟨S.w.heap.size,0,n⟩,.inl hr,VC (w':=S.w.alloc (.cells us e)) (ob:= .cells us e) rfl rfl rfl rfl (ad rfl) (λn f hf=>hnm n f hf rfl),?_⟩;intro hp;have ag:=I9 _ _ Q;rw[lI hai] at Q hcl;have ai:=Lh hp.ok _ _ ((I0 _ _).1 Q);constructor
  .simp only[Aw];refine⟨by rw[dX];exact hn,by rw[dX];exact AQ _,us,ZR rfl,by simp[lI hai] at ag hcl;simp;omega,?_⟩;rw[Hg];exact Qq5 _ _ _ _ (WU _ _ ai) (by simpa using hcl)
  .simp only[Aa];refine⟨rfl,λe' aa=> ?_⟩;have hh:(S.one nx (.arr e Z.size (Ii Z.size n ds)) (some ⟨S.w.heap.size,0,n⟩) [] (S.w.alloc (.cells us e))).ρ nx=some ⟨S.w.heap.size,0,n⟩:=by simp[A9.one]
   rw[hh];simp only[A9.one,BM,AJ] at aa;subst aa;simp[Ad.len,dX]
end
def Qwm(n:Nat): ∀(r c:Nat),c<=2*(n+512)->Builtin.growBy n r c<=2*(n+512)
 |0,c,h=>by simpa[Builtin.growBy] using h
 |r+1,c,h=>by
  simp only[Builtin.growBy];split
  .exact h
  .exact Qwm n r _ (by omega)
def Qabm(n old:Nat)(h:old<n):Builtin.nextslicecap n old<=2*(n+512):=by
 unfold Builtin.nextslicecap;split
 .omega
 .split
  .omega
  .exact Qwm n 4 old (by omega)
def Qqs{S:A9}{k:Nat}: ∀(rows0 rows:List (List AV)) (A L R:List Value),BH S k rows0 A->rows0.length*k<=A.length->BH S k rows L->
 rows.length*k<=L.length->BH S k (rows0++rows) (A.take (rows0.length*k)++(L++R))
 |[],rows,A,L,R,z,G,h,O=>by
  simp only[He,gG,Rp,Hf];clear z G A;induction rows generalizing L with
  |nil=>simp only[BH]
  |cons r rows ih=>
   simp only[BH,CP,F4,IF] at h O⊢;refine⟨h.1,lK _ _ _ h.2.1,?_⟩
   have:=ih (L.drop k) h.2.2 (by rw[CG];omega)
   rwa [Zdo (by omega)]
 |r::rows0,rows,A,L,R,h0,hA,h,O=>by
  simp only[BH,CP,F4,IF,CT] at h0 hA⊢;have ih:=Qqs rows0 rows (A.drop k) L R h0.2.2 (by rw[CG];omega) h O;have e:A.take (rows0.length*k+k)=A.take k++(A.drop k).take (rows0.length*k):=by rw[<-gD];congr 1;omega
  have hk:(A.take k).length=k:=by rw[Cf];omega
  rw[e,Hv];refine⟨h0.1,?_,?_⟩
  .obtain⟨_,Z⟩:=WI k r A h0.2.1 (by omega);have Q:=WJ _ _ Z;rw[DQ (by omega)] at Q;exact lK _ _ _ Q
  .rw[VQ,Dr (by omega),hk,Hh];simpa using ih
def lJ{S:A9}{k:Nat}: ∀(rows:List (List D)) (L:List Value),rdr S.ok S.hp k rows L->BH S k (Bo rows) L
 |[],_,_=>by simp only[Bo,Gq,BH]
 |r::rows,L,h=>by
  simp only[rdr] at h;simp only[Bo,Bd,BH];exact⟨by simpa using h.1,(yM _ _).2 h.2.1,lJ rows _ h.2.2⟩
section
variable {P:Program}{w:World}
def kW{b p:Nat}{vs:Array Value}{U:TypeId}{Q:Nat×Nat}(hb:w.heap[b]? =some (.cells vs U Q)){n:Nat}(hn:p+n<=vs.size):
 (loadCells ⟨b,p,none⟩ n).run P w= .ok ((vs.toList.drop p).take n).toArray w:=by
 have O: ∀j v,((vs.toList.drop p).take n)[j]? =some v->w.cell? ((⟨b,p,none⟩:Addr).add j)=some v:=by
  intro j v z;rw[PZ,Qyp hb];rw[aD] at z;split at z
  .rw[Iu] at z;simpa using z
  .cases z
 have Z:((vs.toList.drop p).take n).length=n:=by rw[Cf,CG];simp;omega
 have G:=run_loadCells_list (P:=P) w ⟨b,p,none⟩ _ O;rwa [Z] at G
def Qo9{Z uT e ty:TypeId}{te:TI}(hs:P.underlying Z=some (.slice e))(hE:tI P e=some te){u2:TypeId}(Q:P.underlying uT=some (.slice u2))
 {base:Option Addr}{sLen sCap n:Nat}{x:Value}{L:List Value}(O:(Builtin.lenOf x).run P w= .ok n w)(z:(Builtin.firstCells te.size n x).run P w= .ok L.toArray w)
 (G:sLen+n<=sCap):(Builtin.append_ #[Z,uT] ty #[.slice base sLen sCap,x]).run P w=
  ((match base with|some a=>storeCells (a.add (sLen*te.size)) L|none=>pure ())>>=λ_=>(pure (.slice base (sLen+n) sCap):Sem Value)).run P w:=by
 have h1:(underlying Z).run P w= .ok (.slice e) w:=by simp[underlying,hs]
 have h2:(underlying uT).run P w= .ok (.slice u2) w:=by simp[underlying,Q]
 unfold Builtin.append_;simp only[Zdx,GF,HI,Sem.run_bind,h1,Result.andThen_ok,Jz hE,h2];simp only[Sem.run_pure,Result.andThen_ok,Df,CK,O,Sem.run_ite,An G,Sem.run_bind,z,Xp,BM];cases base<;>simp
def Qo8{sT uT e ty:TypeId}{G:TI}(hs:P.underlying sT=some (.slice e))(hE:tI P e=some G){u2:TypeId}(ah:P.underlying uT=some (.slice u2))(ac:G.bytes≠0)
 (hz:G.zero.length=G.size)(af:G.size≠0)
 {base:Option Addr}{sLen sCap n:Nat}{x:Value}{L old:List Value}(aa:(Builtin.lenOf x).run P w= .ok n w)(O: ∀k,(Builtin.firstCells G.size n x).run P {w with drawn:=k}= .ok L.toArray {w with drawn:=k})
 (ab: ∀k,(Builtin.firstCells G.size sLen (.slice base sLen sCap)).run P {w with drawn:=k}= .ok old.toArray {w with drawn:=k})
 (Q: ¬sLen+n<=sCap)(ak:(sLen+n+512)*G.bytes<=140737488355328): ∃cap R,sLen+n<=cap/\R.length=(cap - (sLen+n))*G.size/\
  (Builtin.append_ #[sT,uT] ty #[.slice base sLen sCap,x]).run P w= .ok (.slice (some ⟨w.heap.size,0,none⟩) (sLen+n) cap) (World.alloc {w with drawn:=w.drawn+1} (.cells (old++L++R).toArray e)):=by
 have h1: ∀w:World,(underlying sT).run P w= .ok (.slice e) w:=by intro w;simp[underlying,hs]
 have h2: ∀w:World,(underlying uT).run P w= .ok (.slice u2) w:=by intro w;simp[underlying,ah]
 obtain⟨z,ai,aj,an⟩:=eA hE hz af;obtain⟨i,u,hi,hu,am,Z,_⟩:=Qc hE;have ag: ∀w:World,(typeInfo e).run P w= .ok i w:=by intro w;simp[typeInfo,hi]
 refine⟨(Question.appendCap (sLen+n) sCap e).cut (w.tape w.drawn (.appendCap (sLen+n) sCap e)),(Builtin.zeroCells z.cells ((Question.appendCap (sLen+n) sCap e).cut (w.tape w.drawn (.appendCap (sLen+n) sCap e)) - (sLen+n))).toList,?_,?_,?_⟩
 .simp only[Question.cut];omega
 .simp[Builtin.zeroCells,aj]
 have ad: ¬(Builtin.nextslicecap (sLen+n) sCap*i.bytes>2^48):=by
  rw[<-Z];have h3:=Qabm (sLen+n) sCap (by omega);have h4:=HK G.bytes h3;have h5:2*(sLen+n+512)*G.bytes=2*((sLen+n+512)*G.bytes):=Nat.mul_assoc _ _ _;omega
 unfold Builtin.append_;simp only[Zdx,GF,HI,Sem.run_bind,h1,Result.andThen_ok,Jz hE,h2];simp only[Sem.run_pure,Result.andThen_ok,Df,CK,aa,Sem.run_ite,Af Q,Sem.run_bind,ag,Xp,BM,false_or];rw[Af (by rw[<-Z];exact λhh=>ac hh.2),Af ad];simp only[run_choose,Question.forced,Df,CK,Result.andThen_ok,run_askRoom,ab,O,ai];simp only[newRow,Sem.run_bind,run_newObj,Result.andThen_ok,Sem.run_pure];rw[show (old++L++(Builtin.zeroCells z.cells ((Question.appendCap (sLen+n) sCap e).cut (w.tape w.drawn (.appendCap (sLen+n) sCap e)) - (sLen+n))).toList).toArray=
  old.toArray++L.toArray++Builtin.zeroCells z.cells ((Question.appendCap (sLen+n) sCap e).cut (w.tape w.drawn (.appendCap (sLen+n) sCap e)) - (sLen+n)) from by apply Om;simp]
 rfl
end
def Qx7{ok:Nat->Prop}{hp:Nat->Option Obj}{z:List D}{x:List Value}(h:rdl ok hp z x): ∀(n m:Nat),n<=m->rdr ok hp z.length (List.replicate n z) (Ca m x)
 |0,_,_=>by simp only[List.replicate_zero,rdr]
 |n+1,0,O=>by omega
 |n+1,m+1,O=>by
  have G:=eY _ _ h;simp only[Zem,Ca,rdr];refine⟨trivial,uA _ _ _ (WU _ _ h),?_⟩;rw[VQ,Dr (by omega),G,Hh];simpa using Qx7 h n m (by omega)
section
variable {P:Program}{tm:List (Nat×AV)}{h:Nat->Option Au}{nx:Nat}{o:Oper}{K:Ah}
def Qrx{T:TypeId}{x y:Operand}(ho:o.op= .makeSlice T x y)(G:Bg (yX P nx (Az tm x) (Az tm y) K) (tI P T)):BS P tm h nx o K:=by
 cases hT:tI P T with
 |none=>rw[hT] at G;exact G.elim
 |some ti=>
 rw[hT] at G;simp only[Bg,yX] at G;cases hf:ti.kind<;>rw[hf] at G<;>try exact G.elim
 rename_i e;have hu:=Qa hT hf;have aq: ∃n m,Az tm x= .im (.int .i64 n)/\Az tm y= .im (.int .i64 m)/\Bg (msE nx e n m K) (tI P e):=by
  revert G;generalize Az tm x=X;generalize Az tm y=Y;intro G;cases X<;>try exact G.elim
  rename_i d;cases d<;>try exact G.elim
  rename_i k n;cases k<;>try exact G.elim
  cases Y<;>try exact G.elim
  rename_i d;cases d<;>try exact G.elim
  rename_i k m;cases k<;>try exact G.elim
  exact⟨_,_,rfl,rfl,G⟩
 obtain⟨n,m,hx,hy,G⟩:=aq;cases hE:tI P e with
 |none=>rw[hE] at G;exact G.elim
 |some te=>
 rw[hE] at G;simp only[Bg,msE] at G;obtain⟨hz,aw,hnm,hm,au,hl,G⟩:=G;obtain⟨z,am,an,ak⟩:=eA hE hl hz;obtain⟨i,u,hi,ax,av,af,_⟩:=Qc hE;have aj:z.cells.toList≠[]:=by
  intro hh
  have:z.cells.size=0:=by rw[<-EJ,hh];rfl
  omega
 have ao:((Array.range (m.toNat*te.size)).map λi=>z.cells[i % z.cells.size]!).toList=Ca m.toNat z.cells.toList:=by
  rw[<-Qrv _ aj m.toNat,VP,Zeu,EJ,an];apply Oi;intro i _;exact Qxx _ _
 refine⟨_,_,BA.one (u:=[]) (ks:=[]) (.inl ⟨rfl,rfl⟩) ?_,G⟩;intro C S a hW _ ad aa O;have h1:=O x (by rw[ho];simp[Op.operands]);have h2:=O y (by rw[ho];simp[Op.operands]);rw[hx] at h1;rw[hy] at h2;simp only[Aa,rd] at h1 h2;have ac:(execOp a.eval o).run P S.w= .ok (.value (.slice (some ⟨S.w.heap.size,0,none⟩) n.toNat m.toNat))
  (S.w.alloc (.cells ((Array.range (m.toNat*te.size)).map λi=>z.cells[i % z.cells.size]!) e)):=by
  have as:(i.bytes:Int)*m<=2^48:=by
   rw[<-af];have h3:(te.bytes:Int)*m<=65536*m:=Zea (by omega) (by omega);omega
  have ai:IntKind.i64.wrap n=n:=IntWalk.i64_in n (by omega);have ah:IntKind.i64.wrap m=m:=IntWalk.i64_in m (by omega);simp only[execOp,ho,h1,h2,Instr.makeSlice,Sem.run_bind];rw[show (underlying T).run P S.w= .ok (.slice e) S.w from by simp[underlying,hu]];have ag:(typeInfo e).run P S.w= .ok i S.w:=by simp[typeInfo,hi]
  simp only[Result.andThen_ok,asInt,asIntOf,Sem.run_bind,Sem.run_pure,ag,ai,ah];have ab:((decide (m<0)||decide ((i.bytes:Int)*m>2^48))||decide (n<0)||decide (n>m))=false:=by
   simp only[Bool.or_eq_false_iff,Kr];omega
  rw[ab];simp only[Df,CK,Sem.run_bind,run_askRoom,Result.andThen_ok,Jz hE,Sem.run_ite,am,newRow,run_newObj,Sem.run_pure];by_cases Z:m.toNat*te.size=0
  .have:((Array.range 0).map λi=>(#[]:Array Value)[i % (#[]:Array Value).size]!)=(Array.range 0).map λi=>z.cells[i % z.cells.size]! :=by simp
   simp only[Z,BM,Result.andThen_ok,this];simp
  .simp only[Z,CK,Result.andThen_ok];simp
 refine⟨_,_,some ⟨S.w.heap.size,0,m.toNat⟩,.inl ac,VC (w':=S.w.alloc (.cells _ e)) (ob:= .cells _ e) rfl rfl rfl rfl (ad rfl) (λn f hf=>aa n f hf rfl),?_⟩;intro hp;constructor
 .simp only[Aw];refine⟨by simp[Lb];omega,by simp;omega,_,ZR rfl,by simp,?_⟩;rw[Hg,ao,<-hl];exact Qx7 (ak _ _) _ _ (by omega)
 .simp only[Aa];refine⟨rfl,λe' Q=> ?_⟩;simp only[A9.one,BM,AJ] at Q⊢;subst Q;simp[Ad.len]
end
def kC(l:Option F7)(n:Nat):Value:=match l with|none=> .slice none 0 0|some l=> .slice (some ⟨l.b,l.p,none⟩) n l.cap
def bG(S:A9)(e z sLen:Nat)(A:List Value):Option F7->Prop
 |none=>sLen=0/\A=[]
 |some l=>sLen<=l.cap/\ ∃G,S.hp l.b=some (.cells G e (0,0))/\A=G.toList.drop l.p/\l.p+l.cap*z<=G.size
section
variable {P:Program}
def Ot{C:AW}{S:A9}(hW:Wf C S){nx:Nat}{ks:List Nat}{sT uT e ty u2:TypeId}{z:TI}(hs:P.underlying sT=some (.slice e))(hE:tI P e=some z)
 (ac:P.underlying uT=some (.slice u2))(am:z.bytes≠0)(hz:z.zero.length=z.size)(as:z.size≠0){sLen n:Nat}(aj:(sLen+n+512)*z.bytes<=140737488355328)
 {l0:Option F7}{A:List Value}(hA:bG S e z.size sLen A l0)
 {x:Value}{L:List Value}(Q:(Builtin.lenOf x).run P S.w= .ok n S.w)(G: ∀k,(Builtin.firstCells z.size n x).run P {S.w with drawn:=k}= .ok L.toArray {S.w with drawn:=k})
 (hL:L.length=n*z.size)(aq: ∀v∈L,v.oneCell'=true)(ag: ∀l,l0=some l-> ∃o f,o∈ks/\S.h o=some (true,f)/\S.ρ o=some l)
 (aa:S.h nx=none)(Z: ∀n f,S.h n=some f->nx∉f.2.nms):
 ∃w' l',(Builtin.append_ #[sT,uT] ty #[kC l0 sLen,x]).run P S.w= .ok (kC l' (sLen+n)) w'/\(∀ea,J3 S nx ea l' ks w')/\
  match l' with|none=>sLen=0/\n=0|some l=>sLen+n<=l.cap/\ ∃vs R,w'.heap[l.b]? =some (.cells vs e (0,0))/\l.p+l.cap*z.size<=vs.size/\
   vs.toList.drop l.p=A.take (sLen*z.size)++(L++R):=by
 have ab:{S.w with drawn:=S.w.drawn}=S.w:=rfl;cases l0 with
 |none=>
  obtain⟨h0,hA⟩:=hA;subst h0 hA;by_cases hn:n=0
  .subst hn;have au:L=[]:=Qn.1 (by simpa using hL);subst au;refine⟨S.w,none,?_,λea=>Ql6 aa Z,rfl,rfl⟩
   have:=Qo9 (P:=P) (w:=S.w) (ty:=ty) hs hE ac (base:=none) (sLen:=0) (sCap:=0) Q (by have:=G S.w.drawn;rwa [ab] at this) (by omega)
   simpa[kC] using this
  .obtain⟨cap,R,h1,h2,h3⟩:=Qo8 (P:=P) (w:=S.w) (ty:=ty) hs hE ac am hz as (base:=none) (sLen:=0) (sCap:=0) (old:=[]) Q G (by intro k;simp[Builtin.firstCells]) (by omega) aj;refine⟨_,some ⟨S.w.heap.size,0,cap⟩,h3,λea=>VC (w':=World.alloc {S.w with drawn:=S.w.drawn+1} (.cells ([]++L++R).toArray e)) (ob:= .cells ([]++L++R).toArray e) rfl rfl rfl rfl aa Z,h1,([]++L++R).toArray,R,by simp[World.alloc],?_,by simp⟩;have h4:n*z.size+(cap - (0+n))*z.size=cap*z.size:=by rw[<-F4];congr 1;omega
   rw[FU] at h2 h4;simp[hL,h2];omega
 |some l=>
  obtain⟨ad,vs,hb,af,ay⟩:=hA;have az:A.length=vs.size - l.p:=by rw[af];simp
  by_cases O:sLen+n<=l.cap
  .have ax:sLen*z.size+n*z.size<=l.cap*z.size:=by rw[<-F4];exact HK _ O
   obtain⟨w',h1,h2,h3,h4,h5⟩:=Qf9 (P:=P) (w:=S.w) (b:=l.b) (p:=l.p+sLen*z.size) (T:=e) L 0 vs aq (by rw[hL];omega) hb;obtain⟨o,f,an,ah,ai⟩:=ag l rfl;have ak:=(hW.loc o _ l ah ai).1;refine⟨w',some l,?_,?_,O,(BY vs.toList (l.p+sLen*z.size+0) L).toArray,A.drop (sLen*z.size+L.length),?_,?_,?_⟩
   .have:=Qo9 (P:=P) (w:=S.w) (ty:=ty) hs hE ac (base:=some ⟨l.b,l.p,none⟩) (sLen:=sLen) (sCap:=l.cap) Q (by have:=G S.w.drawn;rwa [ab] at this) O
    simp only[PZ,Sem.run_bind,h1,Result.andThen_ok,Sem.run_pure] at this;simpa[kC] using this
   .intro ea;refine⟨h3,h4,h5,by rw[h2];simp,?_,.inr aa,?_,?_,λn f hf _=>Z n f hf⟩
    .intro b a0 aw
     have:=aw o f l an ah ai
     rw[h2,fX,Af this]
    .intro lo av;obtain rfl:=AD av;exact⟨by rw[h2];simpa using ak,.inr ⟨o,f,l,an,ah,ai,rfl⟩⟩
    .intro f hf;rw[aa] at hf;cases hf
   .rw[h2];simp[ak]
   .simp[BY,Cf,CG];omega
   .rw[Qq,Zen,yT _ _ _ _ (by simp;omega),<-af];simp[BY]
  .have ao: ∀k,(Builtin.firstCells z.size sLen (.slice (some ⟨l.b,l.p,none⟩) sLen l.cap)).run P {S.w with drawn:=k}= .ok (A.take (sLen*z.size)).toArray {S.w with drawn:=k}:=by
    intro k;have ax:sLen*z.size<=l.cap*z.size:=HK _ ad;rw[af];exact kW (w:={S.w with drawn:=k}) hb (by omega)
   obtain⟨cap,R,h1,h2,h3⟩:=Qo8 (P:=P) (w:=S.w) (ty:=ty) hs hE ac am hz as (base:=some ⟨l.b,l.p,none⟩) (sLen:=sLen) (sCap:=l.cap) Q G ao O aj;refine⟨_,some ⟨S.w.heap.size,0,cap⟩,h3,λea=>VC (w':=World.alloc {S.w with drawn:=S.w.drawn+1} (.cells (A.take (sLen*z.size)++L++R).toArray e)) (ob:= .cells (A.take (sLen*z.size)++L++R).toArray e) rfl rfl rfl rfl aa Z,h1,(A.take (sLen*z.size)++L++R).toArray,R,by simp[World.alloc],?_,by simp⟩;have h4:sLen*z.size+n*z.size+(cap - (sLen+n))*z.size=cap*z.size:=by rw[<-F4,<-F4];congr 1;omega
   have h5:sLen*z.size<=l.cap*z.size:=HK _ ad;simp[hL,h2,Cf];omega
def tO{S:A9}{k:Nat}: ∀(rows:List (List AV)) (L:List Value),BE QZ rows->BH S k rows L->rows.length*k<=L.length-> ∀v∈L.take (rows.length*k),v.oneCell'=true
 |[],L,_,_,_=>by simp
 |r::rows,L,O,h,Q=>by
  simp only[BH] at h;simp only[CP,F4,IF] at Q⊢;have e:L.take (rows.length*k+k)=L.take k++(L.drop k).take (rows.length*k):=by rw[<-gD];congr 1;omega
  rw[e];intro v z;rcases Bx.1 z with z|z
  .obtain⟨_,G⟩:=WI k r L h.2.1 (by omega);rw[DQ (ZeV h.1)] at G;exact kQ r _ (O r (by simp)) G v z
  .exact tO rows _ (λx Z=>O x (by simp[Z])) h.2.2 (by rw[CG];omega) v z
def Qsa: ∀(r:List D),B1 r=true->QZ (r.map .im)=true
 |[],_=>rfl
 |x::r,h=>by
  simp only[B1,AS] at h;simp only[Bd,QZ,AV.one,AS];exact⟨h.1,Qsa r h.2⟩
def Qyt{rows:List (List D)}(h:BE B1 rows):BE QZ (Bo rows):=by
 intro r z;simp only[Bo,Bv] at z;obtain⟨x,G,rfl⟩:=z;exact Qsa x (h x G)
def Qrl{ok:Nat->Prop}{hp:Nat->Option Obj}{k:Nat}: ∀(rows:List (List D)) (L:List Value),rdr ok hp k rows L->rows.length*k<=L.length->rdr ok hp k rows (L.take (rows.length*k))
 |[],_,_,_=>by simp only[rdr]
 |r::rows,L,h,O=>by
  simp only[rdr,CP,F4,IF] at h O⊢;refine⟨h.1,?_,?_⟩
  .obtain⟨_,G⟩:=VA k r L h.2.1 (by omega);have z:=WU _ _ G;rw[DQ (by omega)] at z;have e:L.take (rows.length*k+k)=L.take k++(L.drop k).take (rows.length*k):=by rw[<-gD];congr 1;omega
   rw[e];exact uA _ _ _ z
  .rw[Zfd]
   have:=Qrl rows _ h.2.2 (by rw[CG];omega)
   rwa [show rows.length*k+k - k=rows.length*k from by omega]
def zB{S:A9}{k:Nat}: ∀(rows:List (List AV)) (L:List Value),BH S k rows L->rows.length*k<=L.length->BH S k rows (L.take (rows.length*k))
 |[],_,_,_=>by simp only[BH]
 |r::rows,L,h,O=>by
  simp only[BH,CP,F4,IF] at h O⊢;refine⟨h.1,?_,?_⟩
  .obtain⟨_,G⟩:=WI k r L h.2.1 (by omega);have z:=WJ _ _ G;rw[DQ (by omega)] at z;have e:L.take (rows.length*k+k)=L.take k++(L.drop k).take (rows.length*k):=by rw[<-gD];congr 1;omega
   rw[e];exact lK _ _ _ z
  .rw[Zfd]
   have:=zB rows _ h.2.2 (by rw[CG];omega)
   rwa [show rows.length*k+k - k=rows.length*k from by omega]
def Qxq{ok:Nat->Prop}{hp:Nat->Option Obj}{k:Nat}: ∀(rows:List (List D)) (L:List Value),rdr ok hp k rows L->k≠0->rows.length*k<=L.length
 |[],_,_,_=>by simp
 |r::rows,L,h,z=>by
  simp only[rdr,CP,F4,IF] at h⊢;obtain⟨G,_⟩:=VA k r L h.2.1 (by omega)
  have:=Qxq rows _ h.2.2 z
  rw[CG] at this;omega
def Cd.rows:Cd->List (List AV)
 | .d _ _ rows=>Bo rows
 | .a _ _ rows=>rows
 | .no=>[]
def Cd.w:Cd->Nat
 | .d _ k _| .a _ k _=>k
 | .no=>0
def Cd.us:Cd->List Nat
 | .d u _ _| .a u _ _=>u
 | .no=>[]
def Va{C:AW}{S:A9}(hW:Wf C S){h:Nat->Option Au}{X:AV}{v:Value}(hc:Aa S X v)(hu: ∀n∈(DN h X).us,S.h n=h n)(O:(DN h X).okOne)
 {z:Nat}(hz:z≠0)(Z:(DN h X).w=z\/(DN h X).rows=[]):
 ∃L,(Builtin.lenOf v).run P S.w= .ok (DN h X).rows.length S.w/\(∀k,(Builtin.firstCells z (DN h X).rows.length v).run P {S.w with drawn:=k}= .ok L.toArray {S.w with drawn:=k})/\
  L.length=(DN h X).rows.length*z/\BH S z (DN h X).rows L/\(∀v∈L,v.oneCell'=true)/\(DN h X).rows.length<=Lb:=by
 cases X<;>try exact O.elim
 case im d=>
  cases d<;>try exact O.elim
  rename_i nz k rows;simp only[DN,Cd.rows,Cd.w,Cd.okOne] at O Z⊢;simp only[Aa,rd] at hc;rcases hc with ⟨rfl|⟨_,a,rfl⟩,rfl⟩|⟨b,p,cap,vs,T,fr,rfl,_,h2,h3,_,h5,h6⟩
  .exact⟨[],by simp[Builtin.lenOf,Bo],by simp[Builtin.firstCells],by simp[Bo],by simp[Bo,BH],by simp,by simp[Bo]⟩
  .refine⟨[],by simp[Builtin.lenOf,Bo],?_,by simp[Bo],by simp[Bo,BH],by simp,by simp[Bo]⟩;intro j;simp[Builtin.firstCells,Bo,loadCells,loadCellsFrom]
  .by_cases hr:rows=[]
   .subst hr;refine⟨[],by simp[Builtin.lenOf,Bo],?_,by simp[Bo],by simp[Bo,BH],by simp,by simp[Bo]⟩;intro j;simp[Builtin.firstCells,Bo,loadCells,loadCellsFrom]
   .have af:k=z:=by
     rcases Z with Z|Z
     .exact Z
     .simp[Bo] at Z;exact absurd Z hr
    subst af;have hl:=Qxq rows _ h6 hz;have aa:vs.toList.length=vs.size:=EJ;have ad:=lJ _ _ h6;have G:(Bo rows).length=rows.length:=by simp[Bo]
    refine⟨(vs.toList.drop p).take (rows.length*k),by simp[Builtin.lenOf,Bo],?_,?_,?_,?_,by rw[G];exact h3⟩
    .intro j;rw[G];refine kW (w:={S.w with drawn:=j}) h5 ?_;by_cases ak:p<=vs.size
     .rw[CG,aa] at hl;omega
     .have:0<rows.length*k:=Nat.mul_pos (fW.2 hr) (by omega)
      rw[CG,aa] at hl;omega
    .rw[Cf,G];omega
    .have:=zB _ _ ad (by rw[G];exact hl)
     rwa [G] at this
    .have:=tO _ _ (Qyt O) ad (by rw[G];exact hl)
     rwa [G] at this
 case own n=>
  simp only[DN] at O Z hu⊢;simp only[Aa] at hc;cases hn:h n with
  |none=>rw[hn] at O;exact O.elim
  |some e=>
  rw[hn] at O Z hu;obtain⟨mu,e⟩:=e;cases e<;>try exact O.elim
  case arr T k rows=>
   simp only[ZO,Cd.rows,Cd.w,Cd.okOne,Cd.us] at O Z hu⊢;have hS:S.h n=_:=(hu n (by simp)).trans hn;have Q:=hW.obj _ _ hS;have hc:=hc.2 _ hS;have G:(Bo rows).length=rows.length:=by simp[Bo]
   cases hl0:S.ρ n with
   |none=>
    rw[hl0] at hc Q;simp only[Aw] at Q;obtain⟨_,rfl⟩:=Q;simp only at hc;subst hc;exact⟨[],by simp[Builtin.lenOf,Bo],by simp[Builtin.firstCells],by simp[Bo],by simp[Bo,BH],by simp,by simp[Bo]⟩
   |some l=>
    rw[hl0] at hc Q;simp only[Aw,Ad.len] at Q hc;subst hc;obtain⟨ab,ac,vs,hb,aj,hr⟩:=Q;by_cases ah:rows=[]
    .subst ah;refine⟨[],by simp[Builtin.lenOf,Bo],?_,by simp[Bo],by simp[Bo,BH],by simp,by simp[Bo]⟩;intro j;simp[Builtin.firstCells,Bo,loadCells,loadCellsFrom]
    .have af:k=z:=by
      rcases Z with Z|Z
      .exact Z
      .simp[Bo] at Z;exact absurd Z ah
     subst af;have ad:=lJ _ _ hr;have ai:rows.length*k<=l.cap*k:=HK _ ac;have aa:vs.toList.length=vs.size:=EJ;have ag:rows.length*k<=(vs.toList.drop l.p).length:=by rw[CG,aa];omega
     refine⟨(vs.toList.drop l.p).take (rows.length*k),by simp[Builtin.lenOf,Bo],?_,?_,?_,?_,by rw[G];exact ab⟩
     .intro j;rw[G];exact kW (w:={S.w with drawn:=j}) hb (by omega)
     .rw[Cf,G];omega
     .have:=zB _ _ ad (by rw[G];exact ag)
      rwa [G] at this
     .have:=tO _ _ (Qyt O) ad (by rw[G];exact ag)
      rwa [G] at this
  case arrA T k rows=>
   simp only[ZO,Cd.rows,Cd.w,Cd.okOne,Cd.us] at O Z hu⊢;have hS:S.h n=_:=(hu n (by simp)).trans hn;have Q:=hW.obj _ _ hS;have hc:=hc.2 _ hS;cases hl0:S.ρ n with
   |none=>
    rw[hl0] at hc Q;simp only[Aw] at Q;obtain⟨_,rfl⟩:=Q;simp only at hc;subst hc;exact⟨[],by simp[Builtin.lenOf],by simp[Builtin.firstCells],by simp,by simp[BH],by simp,by simp⟩
   |some l=>
    rw[hl0] at hc Q;simp only[Aw,Ad.len] at Q hc;subst hc;obtain⟨ab,ac,vs,hb,aj,hr⟩:=Q;by_cases ah:rows=[]
    .subst ah;refine⟨[],by simp[Builtin.lenOf],?_,by simp,by simp[BH],by simp,by simp⟩;intro j;simp[Builtin.firstCells,loadCells,loadCellsFrom]
    .have af:k=z:=by
      rcases Z with Z|Z
      .exact Z
      .exact absurd Z ah
     subst af;have ai:rows.length*k<=l.cap*k:=HK _ ac;have aa:vs.toList.length=vs.size:=EJ;have ag:rows.length*k<=(vs.toList.drop l.p).length:=by rw[CG,aa];omega
     refine⟨(vs.toList.drop l.p).take (rows.length*k),by simp[Builtin.lenOf],?_,?_,?_,?_,ab⟩
     .intro j;exact kW (w:={S.w with drawn:=j}) hb (by omega)
     .rw[Cf];omega
     .exact zB _ _ hr ag
     .exact tO _ _ O hr ag
end
def Qjh{S:A9}{k:Nat}: ∀(rows:List (List D)) (L:List Value),BH S k (Bo rows) L->rdr S.ok S.hp k rows L
 |[],_,_=>by simp only[rdr]
 |r::rows,L,h=>by
  simp only[Bo,Bd,BH] at h;simp only[rdr];exact⟨by simpa using h.1,(yM _ _).1 h.2.1,Qjh rows _ h.2.2⟩
def Y3{S S':A9}{T k:Nat}{rows:List (List D)}{l:Option F7}(G:S'.ok=S.ok)(z:S'.hp=S.hp)(h:Aw S l (.arrA T k (Bo rows))):Aw S' l (.arr T k rows):=by
 simp only[Aw] at h⊢;refine⟨by simpa[Bo] using h.1,?_⟩;cases l with
 |none=>simpa[Bo] using h.2
 |some lc=>
  obtain⟨_,O,vs,Q,Z,h4⟩:=h;refine⟨by simpa[Bo] using O,vs,by rw[z];exact Q,Z,?_⟩;rw[G,z];exact Qjh _ _ h4
section
variable {P:Program}{tm:List (Nat×AV)}{h:Nat->Option Au}{nx:Nat}{o:Oper}{K:Ah}
def Ou{T U u2 e:TypeId}{G:TI}{s x:Operand}(hT:P.underlying T=some (.slice e))(hU:P.underlying U=some (.slice u2))(hE:tI P e=some G)
 {c:Call}(ho:o.op= .call c)(ad:c.callee= .builtin .append)(aa:c.args= #[s,x])(bn:c.argTypes= #[T,U])
 (an:G.bytes≠0)(hz:G.zero.length=G.size)(Z:G.size≠0){u ks:List Nat}{rows0:List (List AV)}
 (ay:(DN h (Az tm x)).okOne)(hw:(DN h (Az tm x)).w=G.size\/(DN h (Az tm x)).rows=[])(a8: ∀n∈(DN h (Az tm x)).us,n∈u++ks)
 (bc:(rows0.length+(DN h (Az tm x)).rows.length+512)*G.bytes<=140737488355328)
 (hnm: ∀m∈B7 (rows0++(DN h (Az tm x)).rows),∃n f,n∈u++ks/\h n=some f/\m∈f.2.nms)
 (ax:((∃k0,Az tm s= .im (.sl true k0 []))/\rows0=[])\/(∃n f,Az tm s= .own n/\n∈ks/\h n=some (true,f)/\((∃rows,f= .arr e G.size rows/\rows0=Bo rows)\/f= .arrA e G.size rows0)))
 {ea:Ad}(as:ea= .arrA e G.size (rows0++(DN h (Az tm x)).rows)\/ ∃rows,ea= .arr e G.size rows/\Bo rows=rows0++(DN h (Az tm x)).rows)
 (hk:K (.own nx) {use:=u,kill:=ks,new:=[(nx,(true,ea))],cnt:=1}):BS P tm h nx o K:=by
 refine⟨_,_,BA.one (u:=u) (ks:=ks) (.inl ⟨rfl,rfl⟩) ?_,hk⟩;intro C S a hW hu be ag ah;have Q:=ah s (by rw[ho];simp[Op.operands,Call.operands,aa,ad]);have h2:=ah x (by rw[ho];simp[Op.operands,Call.operands,aa,ad]);obtain⟨L,av,af,am,bb,ba,bp⟩:=Va hW h2 (λn hn=>hu n (a8 n hn)) ay Z hw;have bj:=be rfl;have ak: ∃l0 A,a.eval s=kC l0 rows0.length/\bG S e G.size rows0.length A l0/\
  (∀l,l0=some l-> ∃o f,o∈ks/\S.h o=some (true,f)/\S.ρ o=some l)/\BH S G.size rows0 A/\rows0.length*G.size<=A.length:=by
  rcases ax with ⟨⟨k0,hs⟩,rfl⟩|⟨n,f,hs,aw,hf,au⟩
  .rw[hs] at Q;simp only[Aa,rd] at Q;rcases Q with ⟨Q,_⟩|⟨b,p,cap,vs,T,fr,_,bh,_⟩
   .have Q:=Qr7 Q;exact⟨none,[],by rw[Q];rfl,⟨rfl,rfl⟩,(by intro l hl;cases hl),by simp only[BH],by simp⟩
   .exact absurd rfl (bh trivial)
  .rw[hs] at Q;have hS:S.h n=_:=(hu n (by simp[aw])).trans hf;have z:=hW.obj _ _ hS;simp only[Aa] at Q;have Q:=Q.2 _ hS;cases hl0:S.ρ n with
   |none=>
    rw[hl0] at Q z;simp only at Q
    have:rows0=[]:=by
     rcases au with ⟨rows,rfl,rfl⟩|rfl
     .simp only[Aw] at z;rw[z.2];rfl
     .simp only[Aw] at z;exact z.2
    subst this;exact⟨none,[],by rw[Q];rfl,⟨rfl,rfl⟩,(by intro l hl;cases hl),by simp only[BH],by simp⟩
   |some l=>
    rw[hl0] at Q z;simp only at Q;have ao:f.len=rows0.length/\rows0.length<=l.cap/\ ∃vs,S.hp l.b=some (.cells vs e (0,0))/\l.p+l.cap*G.size<=vs.size/\BH S G.size rows0 (vs.toList.drop l.p):=by
     rcases au with ⟨rows,rfl,rfl⟩|rfl
     .simp only[Aw] at z;obtain⟨_,O,vs,hb,Z,hr⟩:=z;exact⟨by simp[Ad.len,Bo],by simpa[Bo] using O,vs,hb,Z,lJ _ _ hr⟩
     .simp only[Aw] at z;obtain⟨_,O,vs,hb,Z,hr⟩:=z;exact⟨rfl,O,vs,hb,Z,hr⟩
    obtain⟨bd,O,vs,hb,Z,hr⟩:=ao;have bq:rows0.length*G.size<=l.cap*G.size:=HK _ O;have bo:vs.toList.length=vs.size:=EJ;refine⟨some l,vs.toList.drop l.p,by rw[Q,bd];rfl,⟨O,vs,hb,rfl,Z⟩,?_,hr,by rw[CG,bo];omega⟩;intro l' bf;obtain rfl:=AD bf;exact⟨n,f,aw,hS,hl0⟩
 obtain⟨l0,A,hv,hA,ai,bm,a9⟩:=ak;obtain⟨w',l',az,bl,ac⟩:=Ot hW (nx:=nx) (ks:=ks) (ty:=o.type) hT hE hU an hz Z bc hA av af am ba ai bj (λn f hf=>ag n f hf rfl);refine⟨kC l' (rows0.length+(DN h (Az tm x)).rows.length),w',l',.inl ?_,bl ea,?_⟩
 .simp only[execOp,ho,resolve,ad,aa,bn,Sem.run_bind,Sem.run_pure,Result.andThen_ok,invoke,builtin];simp[hv,az]
 intro hp;have br:G.bytes≠0:=an;have a0:rows0.length+(DN h (Az tm x)).rows.length<=Lb:=by
  have:(rows0.length+(DN h (Az tm x)).rows.length+512)*1<=(rows0.length+(DN h (Az tm x)).rows.length+512)*G.bytes:=Nat.mul_le_mul_left _ (by omega)
  simp only[Lb];omega
 have hX: ∀m∈B7 (rows0++(DN h (Az tm x)).rows),S.h nx≠none\/m≠nx:=by
  intro m hm;obtain⟨n,f,bi,hf,bg⟩:=hnm m hm;right;rintro rfl;exact ag n f ((hu n bi).trans hf) rfl bg
 have ab:Aw (S.one nx ea l' ks w') l' (.arrA e G.size (rows0++(DN h (Az tm x)).rows)):=by
  simp only[Aw,Dq];refine⟨a0,?_⟩;cases l' with
  |none=>
   simp only at ac⊢;rw[List.append_eq_nil_iff];exact⟨Qn.1 ac.1,Qn.1 ac.2⟩
  |some l=>
   obtain⟨h3,vs,R,h4,h5,h6⟩:=ac;refine⟨h3,vs,h4,h5,?_⟩;rw[h6];exact sH hp _ _ _ hX (Qqs _ _ _ _ _ bm a9 bb (by rw[am];exact AQ _))
 have aj:ea.len=rows0.length+(DN h (Az tm x)).rows.length:=by
  rcases as with rfl|⟨rows,rfl,hr⟩
  .simp[Ad.len]
  .simp only[Ad.len];rw[<-Dq,<-hr];simp[Bo]
 constructor
 .rcases as with rfl|⟨rows,rfl,hr⟩
  .exact ab
  .rw[<-hr] at ab;exact Y3 rfl rfl ab
 .simp only[Aa];refine⟨by cases l'<;>rfl,λe' aq=> ?_⟩;simp only[A9.one,BM,AJ] at aq⊢;subst aq;cases l' with
  |none=>rfl
  |some l=>simp only[kC];rw[aj]
def lU(rows:List (List D)):B7 (Bo rows)=[]:=by
 induction rows with
 |nil=>rfl
 |cons r rows ih=>simp only[Bo,Bd,B7,Qw0,Hf];exact ih
def tF: ∀(a b:List (List AV)),B7 (a++b)=B7 a++B7 b
 |[],_=>rfl
 |x::a,b=>by simp[B7,tF a b]
def PD{X:AV}{m:Nat}(z:m∈B7 (DN h X).rows): ∃n f,n∈(DN h X).us/\h n=some f/\m∈f.2.nms:=by
 cases X<;>try (simp only[DN,Cd.rows,B7] at z;cases z;done)
 case im d=>cases d<;>simp only[DN,Cd.rows,lU,B7] at z<;>cases z
 case own n=>
  simp only[DN] at z⊢;cases hn:h n with
  |none=>rw[hn] at z;simp only[ZO,Cd.rows,B7] at z;cases z
  |some e=>
   rw[hn] at z;obtain⟨G,e⟩:=e;cases e<;>simp only[ZO,Cd.rows,lU,B7] at z<;>try cases z
   refine⟨n,_,by simp[Cd.us,ZO],hn,z⟩
def Qab5{T U:TypeId}{s x:Operand}{c:Call}(ho:o.op= .call c)(ag:c.callee= .builtin .append)(ad:c.args= #[s,x])(am:c.argTypes= #[T,U])
 (z:Bg (zT P h nx (Az tm s) (Az tm x) T K) (tI P U)):BS P tm h nx o K:=by
 cases hU:tI P U with
 |none=>rw[hU] at z;exact z.elim
 |some ui=>
 rw[hU] at z;simp only[Bg,zT] at z;obtain⟨ah,z⟩:=z;cases hu:ui.kind<;>rw[hu] at ah<;>simp only[TK.isSl,Df] at ah;rename_i u2;have aj:=Qa hU hu;cases hT:tI P T with
 |none=>rw[hT] at z;exact z.elim
 |some ti=>
 rw[hT] at z;simp only[Qsl] at z;cases hf:ti.kind<;>rw[hf] at z<;>try exact z.elim
 rename_i e;have ai:=Qa hT hf;simp only[apK] at z;cases hE:tI P e with
 |none=>rw[hE] at z;exact z.elim
 |some te=>
 rw[hE] at z;simp only[Bg,apE] at z;obtain⟨hz,hl,ak,Q,z⟩:=z;have ab: ∀{m:Nat},m∈B7 (DN h (Az tm x)).rows-> ∃n f,n∈(DN h (Az tm x)).us/\h n=some f/\m∈f.2.nms:=λZ=>PD Z
 have G:= @Ou P tm h nx o K T U u2 e te s x ai aj hE c ho ag ad am ak hl hz;revert G;generalize DN h (Az tm x)=src at z Q ab;intro G;cases hs:Az tm s<;>rw[hs] at z<;>try exact z.elim
 case im d=>
  cases d<;>try exact z.elim
  rename_i nz k0 rows;cases nz<;>cases rows<;>try exact z.elim
  simp only[Rv] at z;cases src with
  |no=>exact z.elim
  |d u k rows=>
   simp only[N7] at z;obtain⟨O,hb,z⟩:=z;refine G (u:=u) (ks:=[]) (rows0:=[]) Q (O.imp id (λh=>by rw[h];rfl)) (by simp[Cd.us]) (by simpa[Cd.rows,Bo] using hb) ?_ (.inl ⟨⟨k0,hs⟩,rfl⟩) (.inr ⟨rows,rfl,by simp[Cd.rows]⟩) z;intro m Z;simp only[Hf,Cd.rows,lU] at Z;cases Z
  |a u k rows=>
   simp only[N7] at z;obtain⟨O,hb,z⟩:=z;refine G (u:=u) (ks:=u) (rows0:=[]) Q (.inl O) (by simp[Cd.us]) (by simpa[Cd.rows] using hb) ?_ (.inl ⟨⟨k0,hs⟩,rfl⟩) (.inl (by simp[Cd.rows])) z;intro m Z;obtain⟨n,f,hn,hf⟩:=ab Z;exact⟨n,f,by simp[Cd.us] at hn;simp[hn],hf⟩
 case own n=>
  simp only[Rv] at z;cases hn:h n with
  |none=>rw[hn] at z;exact z.elim
  |some ac=>
  rw[hn] at z;obtain⟨mu,ac⟩:=ac;cases mu<;>cases ac<;>try exact z.elim
  case true.arr U0 k0 rows0=>
   simp only[IG] at z;obtain⟨rfl,rfl,z⟩:=z;cases src with
   |no=>exact z.elim
   |d u k rows=>
    simp only[mY] at z;obtain⟨O,af,hb,z⟩:=z;refine G (u:=n::u) (ks:=[n]) (rows0:=Bo rows0) Q (O.imp id (λh=>by rw[h];rfl)) (by intro x hx;simp[Cd.us] at hx;simp[hx]) (by simpa[Cd.rows,Bo] using hb) ?_
     (.inr ⟨n,_,hs,by simp,hn,.inl ⟨rows0,rfl,rfl⟩⟩) (.inr ⟨rows0++rows,rfl,by simp[Cd.rows,Bo]⟩) z
    intro m Z;simp only[Cd.rows,tF,lU] at Z;cases Z
   |a u k rows=>
    simp only[mY] at z;obtain⟨O,af,hb,z⟩:=z;refine G (u:=n::u) (ks:=n::u) (rows0:=Bo rows0) Q (.inl O) (by intro x hx;simp[Cd.us] at hx;simp[hx]) (by simpa[Cd.rows,Bo] using hb) ?_
     (.inr ⟨n,_,hs,by simp,hn,.inl ⟨rows0,rfl,rfl⟩⟩) (.inl (by simp[Cd.rows])) z
    intro m Z;simp only[tF,lU,Hf] at Z;obtain⟨n',f,aa,hf⟩:=ab Z;exact⟨n',f,by simp[Cd.us] at aa;simp[aa],hf⟩
  case true.arrA U0 k0 rows0=>
   simp only[IG] at z;obtain⟨rfl,rfl,z⟩:=z;cases src with
   |no=>exact z.elim
   |d u k rows=>
    simp only[mX] at z;obtain⟨O,af,hb,z⟩:=z;refine G (u:=n::u) (ks:=[n]) (rows0:=rows0) Q (O.imp id (λh=>by rw[h];rfl)) (by intro x hx;simp[Cd.us] at hx;simp[hx]) (by simpa[Cd.rows,Bo] using hb) ?_
     (.inr ⟨n,_,hs,by simp,hn,.inr rfl⟩) (.inl (by simp[Cd.rows])) z
    intro m Z;simp only[Cd.rows,tF,lU,D8] at Z;exact⟨n,_,by simp,hn,Z⟩
   |a u k rows=>
    simp only[mX] at z;obtain⟨O,af,hb,z⟩:=z;refine G (u:=n::u) (ks:=n::u) (rows0:=rows0) Q (.inl O) (by intro x hx;simp[Cd.us] at hx;simp[hx]) (by simpa[Cd.rows] using hb) ?_
     (.inr ⟨n,_,hs,by simp,hn,.inr rfl⟩) (.inl (by simp[Cd.rows])) z
    intro m Z;simp only[tF,Bx] at Z;rcases Z with Z|Z
    .exact⟨n,_,by simp,hn,Z⟩
    .obtain⟨n',f,aa,hf⟩:=ab Z;exact⟨n',f,by simp[Cd.us] at aa;simp[aa],hf⟩
end
def Qx9{ok:Nat->Prop}{hp:Nat->Option Obj}: ∀(ds:List (D×D)) (es:List MapEntry),rde ok hp ds es->es.length=ds.length
 |[],_,h=>by simp only[rde] at h;simp[h]
 |(x,y)::ds,_,h=>by
  simp only[rde] at h;obtain⟨e,r,rfl,_,_,z⟩:=h;simp[Qx9 ds r z]
def PY{P:Program}{w:World}{b:Nat}{es:Array MapEntry}{clock:Nat}(h:w.heap[b]? =some (.map es clock)):(getObj b).run P w= .ok (.map es clock) w:=by
 simp[getObj,Sem.run,h]
section
variable {P:Program}{w:World}{T e k:TypeId}
def WM(x y:Value):Op.equal T x y=Op.equalIn (9999+1) T x y:=rfl
def K1(z:P.underlying T=some (.slice e))(d:Nat)(b:Option Addr)(n c:Nat):(Op.equalIn (d+1) T (.slice b n c) (.slice none 0 0)).run P w= .ok b.isNone w:=by
 cases b<;>simp[Op.equalIn,run_underlying z]
def Qx1(z:P.underlying T=some (.pointer e))(d:Nat)(b:Option Addr):(Op.equalIn (d+1) T (.pointer b) (.pointer none)).run P w= .ok b.isNone w:=by
 cases b<;>simp[Op.equalIn,run_underlying z]
def K0(z:P.underlying T=some (.map k e))(d:Nat)(b:Option Nat):(Op.equalIn (d+1) T (.map b) (.map none)).run P w= .ok b.isNone w:=by
 cases b<;>simp[Op.equalIn,run_underlying z]
end
def nM(tm:List (Nat×AV))(h:Nat->Option Au)(o:Oper):Prop:=
 ∃u:List Nat,∀(C:AW) (S:A9) (a:Act),Wf C S->(∀n∈u,S.h n=h n)->(∀x∈o.op.operands,Aa S (Az tm x) (a.eval x))->False
def Ko(P:Program)(tm:List (Nat×AV))(h:Nat->Option Au)(nx:Nat)(o:Oper)(K:Ah):Prop:=
 ∀(C:AW) (S:A9) (a:Act) (next:Act->World->Prop) (Q:Exit->Act->World->Prop),
  Wf C S->(∀n,S.h n=h n)->(∀n,nx<=n->S.h n=none)->(∀n e,S.h n=some e-> ∀m∈e.2.nms,m<nx)->
  (∀x∈o.op.operands,Aa S (Az tm x) (a.eval x))->
  (∀r E v S',K r E->Wf C S'->S'.h=E.appf S.h->B3 (λm=> ¬Fr nx E.cnt m) S S'->Aa S' r v->next (a.put o.dst v) S'.w)->
  o.wp P a S.w next Q
abbrev Xk(P:Program)(z:Bool)(tm:List (Nat×AV))(h:Nat->Option Au)(nx:Nat)(o:Oper)(K:Ah):Prop:=
 BS P tm h nx o K\/(z=true/\(nM tm h o\/Ko P tm h nx o K))
section
variable {P:Program}{tm:List (Nat×AV)}{h:Nat->Option Au}{nx:Nat}{o:Oper}{K:Ah}
def ZN{T:TypeId}{x:Operand}{c:Call}{u:List Nat}{n:Nat}(ho:o.op= .call c)(G:c.callee= .builtin .len)(z:c.args= #[x])(Z:c.argTypes= #[T])
 (Q: ∀(C:AW) (S:A9) (v:Value),Wf C S->(∀n∈u,S.h n=h n)->Aa S (Az tm x) v->(Builtin.len_ #[T] o.type #[v]).run P S.w= .ok (.int .i64 n) S.w)
 (hk:FI K {use:=u} n):BS P tm h nx o K:=by
 refine⟨_,_,BA.pure (u:=u) ?_,hk⟩;intro C S a hW hu O;have h1:=O x (by rw[ho];simp[Op.operands,Call.operands,z,G]);refine⟨.int .i64 n,?_,by simp only[Aa,rd]⟩;simp only[execOp,ho,resolve,G,z,Z,Sem.run_bind,Sem.run_pure,Result.andThen_ok,invoke,builtin];simp[Q C S _ hW hu h1]
def Qq0{z:Bool}{B:Prop}(O:(z=true->B)->BS P tm h nx o K)(Q: ¬B->nM tm h o):Xk P z tm h nx o K:=by
 by_cases G:B
 .exact .inl (O λ_=>G)
 .cases z
  .exact .inl (O λh=>by cases h)
  .exact .inr ⟨rfl,.inl (Q G)⟩
def Zc{sq:Bool}{T:TypeId}{x:Operand}{c:Call}(Z:o.op= .call c)(O:c.callee= .builtin .len)(G:c.args= #[x])(aa:c.argTypes= #[T])
 (z:Bg (fT sq h (Az tm x) K) (tI P T)):Xk P sq tm h nx o K:=by
 have aj:x∈o.op.operands:=by rw[Z];simp[Op.operands,Call.operands,G,O]
 cases hT:tI P T with
 |none=>rw[hT] at z;exact z.elim
 |some ti=>
 rw[hT] at z;simp only[Bg,fT] at z;cases hf:ti.kind<;>rw[hf] at z<;>try exact z.elim
 case slice e=>
  have hu:=Qa hT hf;simp only[Fq] at z;cases hx:Az tm x<;>rw[hx] at z<;>try exact z.elim
  case im d=>
   cases d<;>try exact z.elim
   rename_i nz k rows;simp only[fN] at z;refine Qq0 (B:=rows.length<=140737488355328) (λhb=>ZN (u:=[]) Z O G aa ?_ (z hb)) λhb=>⟨[],?_⟩
   .intro C S v hW _ hc;rw[hx] at hc;simp only[Aa,rd] at hc;rcases hc with ⟨rfl|⟨_,a,rfl⟩,rfl⟩|⟨b,p,cap,vs,T,fr,rfl,_⟩<;>simp[Builtin.len_,underlying,hu,goInt]
   .intro C S a hW _ ad;have h1:=ad x aj;rw[hx] at h1;simp only[Aa,rd] at h1;rcases h1 with ⟨_,rfl⟩|⟨b,p,cap,vs,T,fr,_,_,_,h3,_⟩
    .simp at hb
    .exact hb h3
  case own n=>
   simp only[fN] at z;cases hn:h n with
   |none=>rw[hn] at z;exact z.elim
   |some Q=>
   rw[hn] at z;obtain⟨mu,Q⟩:=Q;have af: ∀{rl:Nat},Q.len=rl->(∀(S:A9) l,Aw S l Q->rl<=140737488355328)->((sq=true->rl<=140737488355328)->FI K {use:=[n]} rl)->(∀(S:A9),Aw S none Q->rl=0)->
    Xk P sq tm h nx o K:=by
    intro rl hl ak z ai;refine Qq0 (B:=rl<=140737488355328) (λhb=>ZN (u:=[n]) Z O G aa ?_ (z hb)) λhb=>⟨[n],?_⟩
    .intro C S v hW ab hc;rw[hx] at hc;simp only[Aa] at hc;have hS:=(ab n (by simp)).trans hn;have hc:=hc.2 _ hS;cases hl0:S.ρ n with
     |none=>
      have ac:=hW.obj _ _ hS;rw[hl0] at hc ac;simp only at hc;subst hc
      have:=ai S ac
      simp[Builtin.len_,underlying,hu,goInt,this]
     |some l=>
      rw[hl0] at hc;simp only[hl] at hc;subst hc;simp[Builtin.len_,underlying,hu,goInt]
    .intro C S a hW ab ad;have hS:=(ab n (by simp)).trans hn;exact hb (ak S _ (hW.obj _ _ hS))
   cases Q<;>try exact z.elim
   case arr T0 k rows=>
    exact af rfl (λS l Z=>by simp only[Aw] at Z;exact Z.1) z (λS Z=>by simp only[Aw] at Z;rw[Z.2];rfl)
   case arrA T0 k rows=>
    exact af rfl (λS l Z=>by simp only[Aw] at Z;exact Z.1) z (λS Z=>by simp only[Aw] at Z;rw[Z.2];rfl)
  case osl n wa wn=>
   simp only[fN] at z;cases hn:h n with
   |none=>rw[hn] at z;exact z.elim
   |some Q=>
   rw[hn] at z;refine .inl (ZN (u:=[n]) Z O G aa ?_ z);intro C S v hW ab hc;rw[hx] at hc;simp only[Aa] at hc;have hS:=(ab n (by simp)).trans hn;have hc:=hc.2 _ hS;unfold PW at hc;cases hl0:S.ρ n with
   |none=>
    rw[hl0] at hc;obtain⟨rfl,rfl⟩:=hc;simp[Builtin.len_,underlying,hu,goInt]
   |some l=>
    rw[hl0] at hc;obtain⟨p,cp,rfl,_⟩:=hc;simp[Builtin.len_,underlying,hu,goInt]
 case str=>
  have hu:=Wv hT hf;simp only[Fq] at z;cases hx:Az tm x<;>rw[hx] at z<;>try exact z.elim
  rename_i d;cases d<;>try exact z.elim
  refine .inl (ZN (u:=[]) Z O G aa ?_ z);intro C S v hW _ hc;rw[hx] at hc;simp only[Aa,rd] at hc;subst hc;simp[Builtin.len_,underlying,hu,goInt]
 case map k e=>
  have hu:=mG hT hf;simp only[Fq] at z;cases hx:Az tm x<;>rw[hx] at z<;>try exact z.elim
  case im d=>
   cases d<;>try exact z.elim
   case nilm=>
    refine .inl (ZN (u:=[]) Z O G aa ?_ z);intro C S v hW _ hc;rw[hx] at hc;simp only[Aa,rd] at hc;subst hc;simp[Builtin.len_,underlying,hu,goInt]
   case mp kt es=>
    refine .inl (ZN (u:=[]) Z O G aa ?_ z);intro C S v hW _ hc;rw[hx] at hc;simp only[Aa,rd] at hc;obtain⟨b,ah,ag,rfl,_,_,h5,h6,_⟩:=hc;have hl:=Qx9 _ _ h6;simp only[EJ] at hl;simp[Builtin.len_,underlying,hu,goInt,PY (w:=S.w) h5,hl]
  case mp n=>
   simp only[uY] at z;cases hn:h n with
   |none=>rw[hn] at z;exact z.elim
   |some Q=>
   rw[hn] at z;obtain⟨mu,Q⟩:=Q;cases Q<;>try exact z.elim
   refine .inl (ZN (u:=[n]) Z O G aa ?_ z);intro C S v hW ab hc;rw[hx] at hc;simp only[Aa] at hc;have hS:=(ab n (by simp)).trans hn;obtain⟨l,hl,rfl⟩:=hc.2 _ hS;have ac:=hW.obj _ _ hS;simp only[Aw] at ac;obtain⟨lc,ah,ag,h1,_,h5,h6,_⟩:=ac;rw[hl] at h1;obtain rfl:=AD h1;have hl:=Qx9 _ _ h6;simp only[EJ] at hl;simp[Builtin.len_,underlying,hu,goInt,PY (w:=S.w) h5,hl]
def eQ{op:BinOp}{T U:TypeId}{x y:Operand}{u:List Nat}{b:Bool}(ho:o.op= .binOp op T x y U)(Z:op= .eql\/op= .neq){z:Value}(hy:y= .const z)
 (Q:z= .slice none 0 0\/z= .pointer none\/z= .map none)
 (O: ∀(C:AW) (S:A9) (v:Value),Wf C S->(∀n∈u,S.h n=h n)->Aa S (Az tm x) v->(∀k n,v≠ .int k n)/\(∀k n,v≠ .float k n)/\(∀k n m,v≠ .complex k n m)/\(∀s,v≠ .string s)/\(Op.equal T v z).run P S.w= .ok b S.w)
 (hk:K (.im (.bool ((decide (op= .neq)) !=b))) {use:=u}):BS P tm h nx o K:=by
 refine⟨_,_,BA.pure (u:=u) ?_,hk⟩;intro C S a hW hu G;have h1:=G x (by rw[ho];simp[Op.operands]);obtain⟨hi,hf,hc,hs,hr⟩:=O C S _ hW hu h1;refine⟨.bool (decide (op= .neq) !=b),?_,by simp only[Aa,rd]⟩;have hg:(eqGuard op T x y (a.eval x) z).run P S.w= .ok () S.w:=by
  rcases Q with rfl|rfl|rfl<;>rcases Z with rfl|rfl<;>simp[eqGuard]
 have hb:(binOp op T (a.eval x) z).run P S.w= .ok (.bool (decide (op= .neq) !=b)) S.w:=by
  have hq:(Op.equal T (a.eval x) z).run P S.w= .ok b S.w:=hr;clear hr hg G h1 O hk hu;generalize a.eval x=v at*;rcases Z with rfl|rfl
  .have:binOp .eql T v z=(do pure (.bool (<-Op.equal T v z))):=by
    rcases Q with rfl|rfl|rfl<;>cases v<;>first|rfl|exact absurd rfl (hi _ _)|exact absurd rfl (hf _ _)|exact absurd rfl (hc _ _ _)|exact absurd rfl (hs _)
   rw[this];simp[hq]
  .have:binOp .neq T v z=(do pure (.bool (!(<-Op.equal T v z)))):=by
    rcases Q with rfl|rfl|rfl<;>cases v<;>first|rfl|exact absurd rfl (hi _ _)|exact absurd rfl (hf _ _)|exact absurd rfl (hc _ _ _)|exact absurd rfl (hs _)
   rw[this];simp[hq]
 have aa:a.eval y=z:=by rw[hy];rfl
 simp only[execOp,ho,aa,Sem.run_bind,hg,Result.andThen_ok,hb,Sem.run_pure]
def bW{op:BinOp}{T U:TypeId}{x y:Operand}{m:Nat}(ho:o.op= .binOp op T x y U)(hm:Fs y=m+1)(ac:m<=2)(Z:Bg (lY h op (Az tm x) K m) (tI P T)):BS P tm h nx o K:=by
 cases hT:tI P T with
 |none=>rw[hT] at Z;exact Z.elim
 |some ti=>
 rw[hT] at Z;simp only[Bg] at Z;have G:op= .eql\/op= .neq:=by cases op<;>first|exact .inl rfl|exact .inr rfl|exact Z.elim
 have z:Xa h (decide (op= .neq)) K (Az tm x) m ti.kind:=by rcases G with rfl|rfl<;>exact Z
 have Q: ∃nv,y= .const nv/\((m=0/\nv= .slice none 0 0)\/(m=1/\nv= .pointer none)\/(m=2/\nv= .map none)):=by
  cases y<;>simp only[Fs,reduceCtorEq] at hm<;>try (cases hm;done)
  rename_i v;refine⟨v,rfl,?_⟩;unfold FJ at hm;split at hm
  .exact .inl ⟨by omega,rfl⟩
  .exact .inr (.inl ⟨by omega,rfl⟩)
  .exact .inr (.inr ⟨by omega,rfl⟩)
  .omega
  .omega
 obtain⟨nv,Q,ab⟩:=Q;clear Z;rcases ab with ⟨rfl,rfl⟩|⟨rfl,rfl⟩|⟨rfl,rfl⟩<;>cases hf:ti.kind<;>rw[hf] at z<;>try exact z.elim
 .have O:=Qa hT hf;simp only[Xa] at z;cases hx:Az tm x<;>rw[hx] at z<;>try exact z.elim
  rename_i d;cases d<;>try exact z.elim
  rename_i nz k rows;cases nz<;>try exact z.elim
  refine eQ (u:=[]) ho G Q (.inl rfl) ?_ z;intro C S v hW _ hc;rw[hx] at hc;simp only[Aa,rd] at hc;rcases hc with ⟨h0,rfl⟩|⟨b,p,cap,vs,T,fr,rfl,h2,_⟩
  .rw[Qr7 h0];simp[WM,K1 O 9999]
  .have ad:rows≠[]:=h2 trivial
   have:rows.isEmpty=false:=by cases rows<;>simp_all
   simp[WM,K1 O 9999,this]
 .have O:=kK hT hf;simp only[Xa] at z;cases hx:Az tm x<;>rw[hx] at z<;>try exact z.elim
  case im d=>
   cases d<;>try exact z.elim
   .refine eQ (u:=[]) ho G Q (.inr (.inl rfl)) ?_ z;intro C S v hW _ hc;rw[hx] at hc;simp only[Aa,rd] at hc;subst hc;simp[WM,Qx1 O 9999]
   .refine eQ (u:=[]) ho G Q (.inr (.inl rfl)) ?_ z;intro C S v hW _ hc;rw[hx] at hc;simp only[Aa,rd] at hc;obtain⟨b,p,vs,T,fr,rfl,_⟩:=hc;simp[WM,Qx1 O 9999]
  all_goals
   obtain⟨⟨e',he⟩,z⟩:=eS z;refine eQ (b:=false) ho G Q (.inr (.inl rfl)) ?_ (by simpa using z);intro C S v hW aa hc;rw[hx] at hc;simp only[Aa] at hc;obtain⟨l,_,rfl⟩:=hc.2 e' ((aa _ (by simp)).trans he);simp[WM,Qx1 O 9999]
 .have O:=mG hT hf;simp only[Xa] at z;cases hx:Az tm x<;>rw[hx] at z<;>try exact z.elim
  case im d=>
   cases d<;>try exact z.elim
   .refine eQ (u:=[]) ho G Q (.inr (.inr rfl)) ?_ z;intro C S v hW _ hc;rw[hx] at hc;simp only[Aa,rd] at hc;subst hc;simp[WM,K0 O 9999]
   .refine eQ (u:=[]) ho G Q (.inr (.inr rfl)) ?_ z;intro C S v hW _ hc;rw[hx] at hc;simp only[Aa,rd] at hc;obtain⟨b,p,vs,rfl,_⟩:=hc;simp[WM,K0 O 9999]
  all_goals
   obtain⟨⟨e',he⟩,z⟩:=eS z;refine eQ (b:=false) ho G Q (.inr (.inr rfl)) ?_ (by simpa using z);intro C S v hW aa hc;rw[hx] at hc;simp only[Aa] at hc;obtain⟨l,_,rfl⟩:=hc.2 e' ((aa _ (by simp)).trans he);simp[WM,K0 O 9999]
end
end Go.Ae
