/- Lemmas. Conditions: none. -/
import Derived.Test.YtnlohpcinfedjaaGreatDoorP01
import Derived.IntWalk
set_option linter.all false
set_option maxHeartbeats 8000000
set_option maxRecDepth 100000
namespace Go.Ae
def Qrv(z:List Value)(O:z≠[]): ∀n,(List.range (n*z.length)).map (λi=>z[i % z.length]!)=Cq n z
 |0=>by simp[Cq]
 |n+1=>by
  have h0:0<z.length:=hZ.2 O;rw[FB,Jm,nZ,List.range_add,CV,RT];simp only[Cq];congr 1
  .apply List.ext_getElem
   .simp
   .intro i Q G;simp only[List.getElem_map,ZeL]
    have:i % z.length=i:=Nat.mod_eq_of_lt G
    rw[this,getElem!_pos z i G]
  .rw[<-Qrv z O n];apply QJ;intro i _;simp
def Qxx(a:Array Value)(i:Nat):a[i]! =a.toList[i]! :=by
 by_cases z:i<a.size
 .rw[getElem!_pos a i z,getElem!_pos a.toList i (by simpa using z)];simp
 .rw[getElem!_neg a i z,getElem!_neg a.toList i (by simpa using z)]
def Qzv{α:Type}(z:List α): ∀n,(Cq n z).length=n*z.length
 |0=>by simp[Cq]
 |n+1=>by simp[Cq,Qzv z n,FB];omega
def pM{α β:Type}(f:α->β)(z:List α): ∀n,(Cq n z).map f=Cq n (z.map f)
 |0=>rfl
 |n+1=>by simp[Cq,pM f z n]
def Nf{ok:Nat->Prop}{hp:Nat->Option Obj}: ∀(a:List D) (x:List Value) (b:List D) (y:List Value),rdl ok hp a x->rdl ok hp b y->rdl ok hp (a++b) (x++y)
 |[],x,b,y,h,z=>by simp only[rdl] at h;subst h;simpa using z
 |d::a,x,b,y,h,z=>by
  simp only[rdl] at h;obtain⟨v,r,rfl,G,O⟩:=h;simp only[Ci,rdl];exact⟨v,_,rfl,G,Nf a r b y O z⟩
def Qop{S:Ay}: ∀(a:List AV) (x:List Value) (b:List AV) (y:List Value),AR S a x->AR S b y->AR S (a++b) (x++y)
 |[],x,b,y,h,z=>by simp only[AR] at h;subst h;simpa using z
 |d::a,x,b,y,h,z=>by
  simp only[AR] at h;obtain⟨v,r,rfl,G,O⟩:=h;simp only[Ci,AR];exact⟨v,_,rfl,G,Qop a r b y O z⟩
def Qy7{ok:Nat->Prop}{hp:Nat->Option Obj}{z:List D}{x:List Value}(h:rdl ok hp z x): ∀n,rdl ok hp (Cq n z) (Cq n x)
 |0=>by simp[Cq,rdl]
 |n+1=>Nf _ _ _ _ h (Qy7 h n)
def fG{α:Type}(k:Nat): ∀(n:Nat) (l:List α),(I6 k n l).length=n
 |0,_=>rfl
 |n+1,l=>by simp[I6,fG k n]
def Qq5{ok:Nat->Prop}{hp:Nat->Option Obj}(k:Nat): ∀(n:Nat) (ds:List D) (vs:List Value),rdp ok hp ds vs->ds.length=n*k->rdr ok hp k (I6 k n ds) vs
 |0,_,_,_,_=>by simp only[I6,rdr]
 |n+1,ds,vs,h,G=>by
  rw[FB,Jm] at G;simp only[I6,rdr];obtain⟨O,z⟩:=Wk k ds vs h (by omega);refine⟨by rw[CB];omega,?_,Qq5 k n _ _ (Q7 k ds vs h (by omega)) (by rw[De];omega)⟩
  have:=uV _ _ (vs.drop k) (X2 _ _ z)
  rwa [XS] at this
def Qms{S:Ay}(k:Nat): ∀(n:Nat) (ds:List AV) (vs:List Value),CA S ds vs->ds.length=n*k->BG S k (I6 k n ds) vs
 |0,_,_,_,_=>by simp only[I6,BG]
 |n+1,ds,vs,h,G=>by
  rw[FB,Jm] at G;simp only[I6,BG];obtain⟨O,z⟩:=Xo k ds vs h (by omega);refine⟨by rw[CB];omega,?_,Qms k n _ _ (lW k ds vs h (by omega)) (by rw[De];omega)⟩
  have:=mH _ _ (vs.drop k) (Xp _ _ z)
  rwa [XS] at this
def Qn6(k:Nat)(x:Nat): ∀(n:Nat) (ds:List AV),x∈B7 (I6 k n ds)->x∈Ax ds
 |0,_,h=>by simp[I6,B7] at h
 |n+1,ds,h=>by
  have z: ∀(a b:List AV),Ax (a++b)=Ax a++Ax b:=by
   intro a b;induction a with
   |nil=>rfl
   |cons y a ih=>simp[Ax,ih]
  simp only[I6,B7,B2] at h
  have:=z (ds.take k) (ds.drop k)
  rw[XS] at this;rw[this,B2];rcases h with h|h
  .exact .inl h
  .exact .inr (Qn6 k x n _ h)
section
variable {P:Program}{tm:List (Nat×AV)}{h:Nat->Option Au}{nx:Nat}{o:Oper}{K:Aj}
def Qrh(a b:List AV):Ax (a++b)=Ax a++Ax b:=by
 induction a with
 |nil=>rfl
 |cons y a ih=>simp[Ax,ih]
def Pw(n:Nat)(a:List AV): ∀m∈Ax (a.take n),m∈Ax a:=by
 intro m z
 have:=Qrh (a.take n) (a.drop n)
 rw[XS] at this;rw[this,B2];exact .inl z
def Pv(n:Nat)(a:List AV): ∀m∈Ax (a.drop n),m∈Ax a:=by
 intro m z
 have:=Qrh (a.take n) (a.drop n)
 rw[XS] at this;rw[this,B2];exact .inr z
def Qvz(x:AV): ∀m∈Ax x.cells,m∈x.nms:=by
 cases x<;>simp only[AV.cells]<;>intro m z
 case im d=>rw[Qw0] at z;cases z
 case agg cs=>simpa[AV.nms] using z
 all_goals simp[Ax,AV.nms] at z⊢
 all_goals exact z
def Qyu(G: ∀x,∀m∈(Aw tm x).nms,m≠nx)(Q:Nat->Option (Nat×Nat)): ∀(ps:List (Nat×Operand)) (cs r:List AV),HY Q (Kh tm ps) (some cs)=some r->
 (∀m∈Ax cs,m≠nx)-> ∀m∈Ax r,m≠nx
 |[],cs,r,h,O=>by simp only[Kh,HY,AO] at h;subst h;exact O
 |(i,x)::ps,cs,r,h,O=>by
  simp only[Kh,HY] at h;cases hf:bI cs (Aw tm x).cells (Q i) with
  |none=>rw[hf] at h;exact (Qjy _ _ h).elim
  |some us=>
   rw[hf] at h;refine Qyu G Q ps us r h ?_;cases hp:Q i with
   |none=>rw[hp] at hf;simp[bI] at hf
   |some q=>
    rw[hp] at hf;simp only[bI] at hf;generalize ((Aw tm x).cells.length==q.2 && (Nat.blt 0 q.2 && Nat.ble (q.1+q.2) cs.length))=bb at hf;cases bb
    .simp at hf
    .simp only[C8,AO] at hf;subst hf;intro m z;simp only[Co,Qrh,B2] at z;rcases z with (z|z)|z
     .exact O m (Pw _ _ m z)
     .exact G x m (Qvz _ m z)
     .exact O m (Pv _ _ m z)
def Qp8{T:TypeId}{n:Nat}{ps:Array (Nat×Operand)}(ho:o.op= .buildSlice T n ps)(G:Bl (zC P nx n (Kh tm ps.toList) K) (tI P T))
 (am: ∀x,∀m∈(Aw tm x).nms,m≠nx):Ca P tm h nx o K:=by
 cases hT:tI P T with
 |none=>rw[hT] at G;exact G.elim
 |some ti=>
 rw[hT] at G;simp only[Bl,zC] at G;cases hf:ti.kind<;>rw[hf] at G<;>try exact G.elim
 rename_i e;have hu:=Q5 hT hf;simp only[bsK] at G;cases hE:tI P e with
 |none=>rw[hE] at G;exact G.elim
 |some Z=>
 rw[hE] at G;simp only[Bl,bsE] at G;obtain⟨hl,hz,aw,G⟩:=G;have hn:n<=IN:=by
  have:=Nat.le_mul_of_pos_right n (Nat.pos_of_ne_zero hz)
  simp only[IN];omega
 obtain⟨z,aq,au,ao⟩:=fK hE hl hz
 have an:z.cells.toList≠[]:=by intro hh;have:z.cells.size=0:=by rw[<-Fj,hh];rfl
                               omega
 rw[<-pM] at G;cases hfl:HY (JI Z.size) (Kh tm ps.toList) (some ((Cq n Z.zero).map .im)) with
 |none=>rw[hfl] at G;exact G.elim
 |some cs=>
 rw[hfl] at G;simp only[LX] at G;have hbel:=Qyu am _ ps.toList _ cs hfl (by rw[Qw0];intro m hm;cases hm);have ad: ∀(C:Ba) (S:Ay) (a:Act),Wf C S->(∀x∈o.op.operands,Aa S (Aw tm x) (a.eval x))->
  ∃us:Array Value,(execOp a.eval o).run P S.w= .ok (.value (.slice (some ⟨S.w.heap.size,0,none⟩) n n)) (S.w.alloc (.cells us e))/\AR S cs us.toList/\cs.length=n*Z.size:=by
  intro C S a hW O;have av:((Array.range (n*Z.size)).map λi=>z.cells[i % z.cells.size]!).toList=Cq n z.cells.toList:=by
   rw[<-Qrv _ an n,W4,ZeI,Fj,au];apply QJ;intro i _;exact Qxx _ _
  obtain⟨us,ai,hr,ak⟩:=zU (S:=S) (a:=a) (place:=λi=>some (i*Z.size,Z.size)) (λi q hq=>hq) ps.toList _ cs
   ((Array.range (n*Z.size)).map λi=>z.cells[i % z.cells.size]!) hfl (by rw[av];exact (IQ _ _).2 (Qy7 (ao _ _) n))
   (by intro p hp
       refine O p.2 ?_;rw[ho];simp only[Op.operands];simp;exact⟨p.1,by simpa using hp⟩)
  refine⟨us,?_,hr,by rw[ak];simp[Qzv,hl]⟩;simp only[execOp,ho,Instr.buildSlice,Sem.run_bind];rw[show (underlying T).run P S.w= .ok (.slice e) S.w from by simp[underlying,hu]];simp only[Result.andThen_ok,Sem.run_bind,IX hE];rw[Ag (by omega)];by_cases ag:n*Z.size=0
  .simp only[ag,Bb,pure_bind];simp only[ag] at ai
   have:((Array.range 0).map λi=>(#[]:Array Value)[i % (#[]:Array Value).size]!)=(Array.range 0).map λi=>z.cells[i % z.cells.size]! :=by simp
   rw[this];have ac:(ps.map λ(i,x)=>(i,a.eval x)).toList=ps.toList.map λp=>(p.1,a.eval p.2):=by simp
   rw[ac,ai];simp[newRow]
  .simp only[ag,CN,Sem.run_bind,aq,Result.andThen_ok,Sem.run_pure];have ac:(ps.map λ(i,x)=>(i,a.eval x)).toList=ps.toList.map λp=>(p.1,a.eval p.2):=by simp
   rw[ac,ai];simp[newRow]
 cases hai:DP cs with
 |none=>
  rw[hai] at G;simp only[Jq] at G;refine⟨_,_,BE.one (u:=[]) (ks:=[]) (.inl ⟨rfl,rfl⟩) ?_,G⟩;intro C S a hW _ af hnm O;obtain⟨us,hr,Q,aa⟩:=ad C S a hW O;refine⟨_,_,some ⟨S.w.heap.size,0,n⟩,.inl hr,Wn (w':=S.w.alloc (.cells us e)) (ob:= .cells us e) rfl rfl rfl rfl (af rfl) (λn f hf=>hnm n f hf rfl),?_⟩;intro hp;have ah:=IW _ _ Q;constructor
  .simp only[Ap];refine⟨by rw[fG];exact hn,by rw[fG];exact AU _,us,bG rfl,by simp at ah;omega,?_⟩;rw[Ie];exact tB hp _ _ _ (λm hm=> .inr (hbel m (Qn6 _ _ _ _ hm))) (Qms _ _ _ _ (Xp _ _ Q) aa)
  .simp only[Aa];refine⟨rfl,λe' ab=> ?_⟩;have hh:(S.one nx (.arrA e Z.size (I6 Z.size n cs)) (some ⟨S.w.heap.size,0,n⟩) [] (S.w.alloc (.cells us e))).ρ nx=some ⟨S.w.heap.size,0,n⟩:=by simp[Ay.one]
   rw[hh];simp only[Ay.one,Bb,AO] at ab;subst ab;simp[Ah.len,fG]
 |some ds=>
  rw[hai] at G;simp only[Jq] at G;refine⟨_,_,BE.one (u:=[]) (ks:=[]) (.inl ⟨rfl,rfl⟩) ?_,G⟩;intro C S a hW _ af hnm O;obtain⟨us,hr,Q,aa⟩:=ad C S a hW O;refine⟨_,_,some ⟨S.w.heap.size,0,n⟩,.inl hr,Wn (w':=S.w.alloc (.cells us e)) (ob:= .cells us e) rfl rfl rfl rfl (af rfl) (λn f hf=>hnm n f hf rfl),?_⟩;intro hp;have ah:=IW _ _ Q;rw[mE hai] at Q aa;have aj:=L8 hp.ok _ _ ((IQ _ _).1 Q);constructor
  .simp only[Ap];refine⟨by rw[fG];exact hn,by rw[fG];exact AU _,us,bG rfl,by simp[mE hai] at ah aa;simp;omega,?_⟩;rw[Ie];exact Qq5 _ _ _ _ (X2 _ _ aj) (by simpa using aa)
  .simp only[Aa];refine⟨rfl,λe' ab=> ?_⟩;have hh:(S.one nx (.arr e Z.size (I6 Z.size n ds)) (some ⟨S.w.heap.size,0,n⟩) [] (S.w.alloc (.cells us e))).ρ nx=some ⟨S.w.heap.size,0,n⟩:=by simp[Ay.one]
   rw[hh];simp only[Ay.one,Bb,AO] at ab;subst ab;simp[Ah.len,fG]
end
def Qwm(n:Nat): ∀(r c:Nat),c<=2*(n+512)->Builtin.growBy n r c<=2*(n+512)
 |0,c,h=>by simpa[Builtin.growBy] using h
 |r+1,c,h=>by
  simp only[Builtin.growBy];split
  .exact h
  .exact Qwm n r _ (by omega)
def Qabm(n old:Nat)(h:old<n):Builtin.nextslicecap n old<=2*(n+512):=by
 unfold Builtin.nextslicecap;split
 .omega
 .split
  .omega
  .exact Qwm n 4 old (by omega)
def Qqs{S:Ay}{k:Nat}: ∀(rows0 rows:List (List AV)) (A L R:List Value),BG S k rows0 A->rows0.length*k<=A.length->BG S k rows L->
 rows.length*k<=L.length->BG S k (rows0++rows) (A.take (rows0.length*k)++(L++R))
 |[],rows,A,L,R,z,G,h,O=>by
  simp only[DQ,iH,Hp,Dv];clear z G A;induction rows generalizing L with
  |nil=>simp only[BG]
  |cons r rows ih=>
   simp only[BG,CR,FB,Jm] at h O⊢;refine⟨h.1,mH _ _ _ h.2.1,?_⟩
   have:=ih (L.drop k) h.2.2 (by rw[De];omega)
   rwa [Zdy (by omega)]
 |r::rows0,rows,A,L,R,h0,hA,h,O=>by
  simp only[BG,CR,FB,Jm,Ci] at h0 hA⊢;have ih:=Qqs rows0 rows (A.drop k) L R h0.2.2 (by rw[De];omega) h O;have e:A.take (rows0.length*k+k)=A.take k++(A.drop k).take (rows0.length*k):=by rw[<-iG];congr 1;omega
  have hk:(A.take k).length=k:=by rw[CB];omega
  rw[e,Ej];refine⟨h0.1,?_,?_⟩
  .obtain⟨_,Z⟩:=Xo k r A h0.2.1 (by omega);have Q:=Xp _ _ Z;rw[GW (by omega)] at Q;exact mH _ _ _ Q
  .rw[Wy,Ee (by omega),hk,Ii];simpa using ih
def mG{S:Ay}{k:Nat}: ∀(rows:List (List D)) (L:List Value),rdr S.ok S.hp k rows L->BG S k (Bm rows) L
 |[],_,_=>by simp only[Bm,Bg,BG]
 |r::rows,L,h=>by
  simp only[rdr] at h;simp only[Bm,Bf,BG];exact⟨by simpa using h.1,(sU _ _).2 h.2.1,mG rows _ h.2.2⟩
def M5{S:Ay}{k:Nat}: ∀(rows:List (List D)) (L:List Value),BG S k (Bm rows) L->rdr S.ok S.hp k rows L
 |[],_,_=>by simp only[rdr]
 |r::rows,L,h=>by
  simp only[Bm,Bf,BG] at h;simp only[rdr];exact⟨by simpa using h.1,(sU _ _).1 h.2.1,M5 rows _ h.2.2⟩
section
variable {P:Program}{w:World}
def lS{b p:Nat}{vs:Array Value}{U:TypeId}{Q:Nat×Nat}(Z:w.heap[b]? =some (.cells vs U Q)){n:Nat}(hn:p+n<=vs.size):
 (loadCells ⟨b,p,none⟩ n).run P w= .ok ((vs.toList.drop p).take n).toArray w:=by
 have O: ∀j v,((vs.toList.drop p).take n)[j]? =some v->w.cell? ((⟨b,p,none⟩:Addr).add j)=some v:=by
  intro j v z;rw[Ow,Qyp Z];rw[bU] at z;split at z
  .rw[Jf] at z;simpa using z
  .cases z
 have hl:((vs.toList.drop p).take n).length=n:=by rw[CB,De];simp;omega
 have G:=run_loadCells_list (P:=P) w ⟨b,p,none⟩ _ O;rwa [hl] at G
def xG(P:Program)(z:TypeId):Prop:=(∃G,P.underlying z=some (.slice G))\/P.underlying z=some .string
def sD{t:TypeId}{d:TypeDesc}{w:World}(h:P.underlying t=some d):(underlying t).run P w= .ok d w:=by simp[underlying,h]
def Qo9{Z uT e ty:TypeId}{te:TI}(hs:P.underlying Z=some (.slice e))(hE:tI P e=some te)(G:xG P uT)
 {base:Option Addr}{sLen sCap n:Nat}{x:Value}{L:List Value}(Q:(Builtin.lenOf x).run P w= .ok n w)(z:(Builtin.firstCells te.size n x).run P w= .ok L.toArray w)
 (O:sLen+n<=sCap):(Builtin.append_ #[Z,uT] ty #[.slice base sLen sCap,x]).run P w=
  ((match base with|some a=>storeCells (a.add (sLen*te.size)) L|none=>pure ())>>=λ_=>(pure (.slice base (sLen+n) sCap):Sem Value)).run P w:=by
 refine G.elim (λ⟨u2,G⟩=> ?_) (λG=> ?_)
 all_goals
  have h1:(underlying Z).run P w= .ok (.slice e) w:=by simp[underlying,hs]
  have h2:=λw=>sD (w:=w) G
  unfold Builtin.append_;simp only[ZdF,Hn,Kf,Sem.run_bind,h1,Result.andThen_ok,IX hE,h2];simp only[Sem.run_pure,Result.andThen_ok,Dp,CN,Q,Sem.run_ite,Al O,Sem.run_bind,z,XT,Bb];cases base<;>simp
def Qo8{sT uT e ty:TypeId}{G:TI}(hs:P.underlying sT=some (.slice e))(hE:tI P e=some G)(Q:xG P uT)(ad:G.bytes≠0)
 (hz:G.zero.length=G.size)(ag:G.size≠0)
 {base:Option Addr}{sLen sCap n:Nat}{x:Value}{L old:List Value}(ab:(Builtin.lenOf x).run P w= .ok n w)(O: ∀k,(Builtin.firstCells G.size n x).run P {w with drawn:=k}= .ok L.toArray {w with drawn:=k})
 (ac: ∀k,(Builtin.firstCells G.size sLen (.slice base sLen sCap)).run P {w with drawn:=k}= .ok old.toArray {w with drawn:=k})
 (Z: ¬sLen+n<=sCap)(ak:(sLen+n+512)*G.bytes<=140737488355328): ∃cap R,sLen+n<=cap/\R.length=(cap - (sLen+n))*G.size/\
  (Builtin.append_ #[sT,uT] ty #[.slice base sLen sCap,x]).run P w= .ok (.slice (some ⟨w.heap.size,0,none⟩) (sLen+n) cap) (World.alloc {w with drawn:=w.drawn+1} (.cells (old++L++R).toArray e)):=by
 refine Q.elim (λ⟨u2,Q⟩=> ?_) (λQ=> ?_)
 all_goals
  have h1: ∀w:World,(underlying sT).run P w= .ok (.slice e) w:=by intro w;simp[underlying,hs]
  have h2:=λw=>sD (w:=w) Q
  obtain⟨z,ai,aj,an⟩:=fK hE hz ag;obtain⟨i,u,hi,hu,am,aa,_⟩:=Ox hE;have ah: ∀w:World,(typeInfo e).run P w= .ok i w:=by intro w;simp[typeInfo,hi]
  refine⟨(Question.appendCap (sLen+n) sCap e).cut (w.tape w.drawn (.appendCap (sLen+n) sCap e)),(Builtin.zeroCells z.cells ((Question.appendCap (sLen+n) sCap e).cut (w.tape w.drawn (.appendCap (sLen+n) sCap e)) - (sLen+n))).toList,?_,?_,?_⟩
  .simp only[Question.cut];omega
  .simp[Builtin.zeroCells,aj]
  have af: ¬(Builtin.nextslicecap (sLen+n) sCap*i.bytes>2^48):=by
   rw[<-aa];have h3:=Qabm (sLen+n) sCap (by omega);have h4:=Ig G.bytes h3;have h5:2*(sLen+n+512)*G.bytes=2*((sLen+n+512)*G.bytes):=Nat.mul_assoc _ _ _;omega
  unfold Builtin.append_;simp only[ZdF,Hn,Kf,Sem.run_bind,h1,Result.andThen_ok,IX hE,h2];simp only[Sem.run_pure,Result.andThen_ok,Dp,CN,ab,Sem.run_ite,Ag Z,Sem.run_bind,ah,XT,Bb,false_or];rw[Ag (by rw[<-aa];exact λhh=>ad hh.2),Ag af];simp only[run_choose,Question.forced,Dp,CN,Result.andThen_ok,run_askRoom,ac,O,ai];simp only[newRow,Sem.run_bind,run_newObj,Result.andThen_ok,Sem.run_pure];rw[show (old++L++(Builtin.zeroCells z.cells ((Question.appendCap (sLen+n) sCap e).cut (w.tape w.drawn (.appendCap (sLen+n) sCap e)) - (sLen+n))).toList).toArray=
   old.toArray++L.toArray++Builtin.zeroCells z.cells ((Question.appendCap (sLen+n) sCap e).cut (w.tape w.drawn (.appendCap (sLen+n) sCap e)) - (sLen+n)) from by apply KM;simp]
  rfl
end
def Qx7{ok:Nat->Prop}{hp:Nat->Option Obj}{z:List D}{x:List Value}(h:rdl ok hp z x): ∀(n m:Nat),n<=m->rdr ok hp z.length (List.replicate n z) (Cq m x)
 |0,_,_=>by simp only[List.replicate_zero,rdr]
 |n+1,0,O=>by omega
 |n+1,m+1,O=>by
  have G:=gD _ _ h;simp only[Zex,Cq,rdr];refine⟨trivial,uV _ _ _ (X2 _ _ h),?_⟩;rw[Wy,Ee (by omega),G,Ii];simpa using Qx7 h n m (by omega)
section
variable {P:Program}{tm:List (Nat×AV)}{h:Nat->Option Au}{nx:Nat}{o:Oper}{K:Aj}
def Qrx{T:TypeId}{x y:Operand}(ho:o.op= .makeSlice T x y)(G:Bl (zO P nx (Aw tm x) (Aw tm y) K) (tI P T)):Ca P tm h nx o K:=by
 cases hT:tI P T with
 |none=>rw[hT] at G;exact G.elim
 |some ti=>
 rw[hT] at G;simp only[Bl,zO] at G;cases hf:ti.kind<;>rw[hf] at G<;>try exact G.elim
 rename_i e;have hu:=Q5 hT hf;have aq: ∃n m,Aw tm x= .im (.int .i64 n)/\Aw tm y= .im (.int .i64 m)/\Bl (msE nx e n m K) (tI P e):=by
  revert G;generalize Aw tm x=X;generalize Aw tm y=Y;intro G;cases X<;>try exact G.elim
  rename_i d;cases d<;>try exact G.elim
  rename_i k n;cases k<;>try exact G.elim
  cases Y<;>try exact G.elim
  rename_i d;cases d<;>try exact G.elim
  rename_i k m;cases k<;>try exact G.elim
  exact⟨_,_,rfl,rfl,G⟩
 obtain⟨n,m,hx,hy,G⟩:=aq;cases hE:tI P e with
 |none=>rw[hE] at G;exact G.elim
 |some te=>
 rw[hE] at G;simp only[Bl,msE] at G;obtain⟨hz,ax,hnm,hm,av,hl,G⟩:=G;obtain⟨z,am,an,ak⟩:=fK hE hl hz;obtain⟨i,u,hi,ay,aw,af,_⟩:=Ox hE;have aj:z.cells.toList≠[]:=by
  intro hh
  have:z.cells.size=0:=by rw[<-Fj,hh];rfl
  omega
 have ao:((Array.range (m.toNat*te.size)).map λi=>z.cells[i % z.cells.size]!).toList=Cq m.toNat z.cells.toList:=by
  rw[<-Qrv _ aj m.toNat,W4,ZeI,Fj,an];apply QJ;intro i _;exact Qxx _ _
 refine⟨_,_,BE.one (u:=[]) (ks:=[]) (.inl ⟨rfl,rfl⟩) ?_,G⟩;intro C S a hW _ ad aa O;have h1:=O x (by rw[ho];simp[Op.operands]);have h2:=O y (by rw[ho];simp[Op.operands]);rw[hx] at h1;rw[hy] at h2;simp only[Aa,rd] at h1 h2;have ac:(execOp a.eval o).run P S.w= .ok (.value (.slice (some ⟨S.w.heap.size,0,none⟩) n.toNat m.toNat))
  (S.w.alloc (.cells ((Array.range (m.toNat*te.size)).map λi=>z.cells[i % z.cells.size]!) e)):=by
  have au:(i.bytes:Int)*m<=2^48:=by
   rw[<-af];have h3:(te.bytes:Int)*m<=65536*m:=Zek (by omega) (by omega);omega
  have ai:IntKind.i64.wrap n=n:=IntWalk.i64_in n (by omega);have ah:IntKind.i64.wrap m=m:=IntWalk.i64_in m (by omega);simp only[execOp,ho,h1,h2,Instr.makeSlice,Sem.run_bind];rw[show (underlying T).run P S.w= .ok (.slice e) S.w from by simp[underlying,hu]];have ag:(typeInfo e).run P S.w= .ok i S.w:=by simp[typeInfo,hi]
  simp only[Result.andThen_ok,asInt,asIntOf,Sem.run_bind,Sem.run_pure,ag,ai,ah];have ab:((decide (m<0)||decide ((i.bytes:Int)*m>2^48))||decide (n<0)||decide (n>m))=false:=by
   simp only[Zfj,Jk];omega
  rw[ab];simp only[Dp,CN,Sem.run_bind,run_askRoom,Result.andThen_ok,IX hE,Sem.run_ite,am,newRow,run_newObj,Sem.run_pure];by_cases Z:m.toNat*te.size=0
  .have:((Array.range 0).map λi=>(#[]:Array Value)[i % (#[]:Array Value).size]!)=(Array.range 0).map λi=>z.cells[i % z.cells.size]! :=by simp
   simp only[Z,Bb,Result.andThen_ok,this];simp
  .simp only[Z,CN,Result.andThen_ok];simp
 refine⟨_,_,some ⟨S.w.heap.size,0,m.toNat⟩,.inl ac,Wn (w':=S.w.alloc (.cells _ e)) (ob:= .cells _ e) rfl rfl rfl rfl (ad rfl) (λn f hf=>aa n f hf rfl),?_⟩;intro hp;constructor
 .simp only[Ap];refine⟨by simp[IN];omega,by simp;omega,_,bG rfl,by simp,?_⟩;rw[Ie,ao,<-hl];exact Qx7 (ak _ _) _ _ (by omega)
 .simp only[Aa];refine⟨rfl,λe' Q=> ?_⟩;simp only[Ay.one,Bb,AO] at Q⊢;subst Q;simp[Ah.len]
end
def lA(l:Option FX)(n:Nat):Value:=match l with|none=> .slice none 0 0|some l=> .slice (some ⟨l.b,l.p,none⟩) n l.cap
def cX(S:Ay)(e z sLen:Nat)(A:List Value):Option FX->Prop
 |none=>sLen=0/\A=[]
 |some l=>sLen<=l.cap/\ ∃G,S.hp l.b=some (.cells G e (0,0))/\A=G.toList.drop l.p/\l.p+l.cap*z<=G.size
section
variable {P:Program}
def OG{C:Ba}{S:Ay}(hW:Wf C S){nx:Nat}{ks:List Nat}{sT uT e ty:TypeId}{z:TI}(hs:P.underlying sT=some (.slice e))(hE:tI P e=some z)
 (ac:xG P uT)(am:z.bytes≠0)(hz:z.zero.length=z.size)(au:z.size≠0){sLen n:Nat}(aj:(sLen+n+512)*z.bytes<=140737488355328)
 {l0:Option FX}{A:List Value}(hA:cX S e z.size sLen A l0)
 {x:Value}{L:List Value}(Q:(Builtin.lenOf x).run P S.w= .ok n S.w)(G: ∀k,(Builtin.firstCells z.size n x).run P {S.w with drawn:=k}= .ok L.toArray {S.w with drawn:=k})
 (hL:L.length=n*z.size)(aq: ∀v∈L,v.oneCell'=true)(ag: ∀l,l0=some l-> ∃o f,o∈ks/\S.h o=some (true,f)/\S.ρ o=some l)
 (aa:S.h nx=none)(Z: ∀n f,S.h n=some f->nx∉f.2.nms):
 ∃w' l',(Builtin.append_ #[sT,uT] ty #[lA l0 sLen,x]).run P S.w= .ok (lA l' (sLen+n)) w'/\(∀ea,Kb S nx ea l' ks w')/\
  match l' with|none=>sLen=0/\n=0|some l=>sLen+n<=l.cap/\ ∃vs R,w'.heap[l.b]? =some (.cells vs e (0,0))/\l.p+l.cap*z.size<=vs.size/\
   vs.toList.drop l.p=A.take (sLen*z.size)++(L++R):=by
 have ab:{S.w with drawn:=S.w.drawn}=S.w:=rfl;cases l0 with
 |none=>
  obtain⟨h0,hA⟩:=hA;subst h0 hA;by_cases hn:n=0
  .subst hn;have av:L=[]:=RN.1 (by simpa using hL);subst av;refine⟨S.w,none,?_,λea=>Ql6 aa Z,rfl,rfl⟩
   have:=Qo9 (P:=P) (w:=S.w) (ty:=ty) hs hE ac (base:=none) (sLen:=0) (sCap:=0) Q (by have:=G S.w.drawn;rwa [ab] at this) (by omega)
   simpa[lA] using this
  .obtain⟨cap,R,h1,h2,h3⟩:=Qo8 (P:=P) (w:=S.w) (ty:=ty) hs hE ac am hz au (base:=none) (sLen:=0) (sCap:=0) (old:=[]) Q G (by intro k;simp[Builtin.firstCells]) (by omega) aj;refine⟨_,some ⟨S.w.heap.size,0,cap⟩,h3,λea=>Wn (w':=World.alloc {S.w with drawn:=S.w.drawn+1} (.cells ([]++L++R).toArray e)) (ob:= .cells ([]++L++R).toArray e) rfl rfl rfl rfl aa Z,h1,([]++L++R).toArray,R,by simp[World.alloc],?_,by simp⟩;have h4:n*z.size+(cap - (0+n))*z.size=cap*z.size:=by rw[<-FB];congr 1;omega
   rw[FS] at h2 h4;simp[hL,h2];omega
 |some l=>
  obtain⟨ad,vs,hb,af,az⟩:=hA;have a0:A.length=vs.size - l.p:=by rw[af];simp
  by_cases O:sLen+n<=l.cap
  .have ay:sLen*z.size+n*z.size<=l.cap*z.size:=by rw[<-FB];exact Ig _ O
   obtain⟨w',h1,h2,h3,h4,h5⟩:=Qf9 (P:=P) (w:=S.w) (b:=l.b) (p:=l.p+sLen*z.size) (T:=e) L 0 vs aq (by rw[hL];omega) hb;obtain⟨o,f,an,ah,ai⟩:=ag l rfl;have ak:=(hW.loc o _ l ah ai).1;refine⟨w',some l,?_,?_,O,(Co vs.toList (l.p+sLen*z.size+0) L).toArray,A.drop (sLen*z.size+L.length),?_,?_,?_⟩
   .have:=Qo9 (P:=P) (w:=S.w) (ty:=ty) hs hE ac (base:=some ⟨l.b,l.p,none⟩) (sLen:=sLen) (sCap:=l.cap) Q (by have:=G S.w.drawn;rwa [ab] at this) O
    simp only[Ow,Sem.run_bind,h1,Result.andThen_ok,Sem.run_pure] at this;simpa[lA] using this
   .intro ea;refine⟨h3,h4,h5.1,h5.2,by rw[h2];simp,?_,.inr aa,?_,?_,λn f hf _=>Z n f hf⟩
    .intro b a8 ax
     have:=ax o f l an ah ai
     rw[h2,iC,Ag this]
    .intro lo aw;obtain rfl:=AC aw;exact⟨by rw[h2];simpa using ak,.inr ⟨o,f,l,an,ah,ai,rfl⟩⟩
    .intro f hf;rw[aa] at hf;cases hf
   .rw[h2];simp[ak]
   .simp[Co,CB,De];omega
   .rw[W5,Zey,zJ _ _ _ _ (by simp;omega),<-af];simp[Co]
  .have ao: ∀k,(Builtin.firstCells z.size sLen (.slice (some ⟨l.b,l.p,none⟩) sLen l.cap)).run P {S.w with drawn:=k}= .ok (A.take (sLen*z.size)).toArray {S.w with drawn:=k}:=by
    intro k;have ay:sLen*z.size<=l.cap*z.size:=Ig _ ad;rw[af];exact lS (w:={S.w with drawn:=k}) hb (by omega)
   obtain⟨cap,R,h1,h2,h3⟩:=Qo8 (P:=P) (w:=S.w) (ty:=ty) hs hE ac am hz au (base:=some ⟨l.b,l.p,none⟩) (sLen:=sLen) (sCap:=l.cap) Q G ao O aj;refine⟨_,some ⟨S.w.heap.size,0,cap⟩,h3,λea=>Wn (w':=World.alloc {S.w with drawn:=S.w.drawn+1} (.cells (A.take (sLen*z.size)++L++R).toArray e)) (ob:= .cells (A.take (sLen*z.size)++L++R).toArray e) rfl rfl rfl rfl aa Z,h1,(A.take (sLen*z.size)++L++R).toArray,R,by simp[World.alloc],?_,by simp⟩;have h4:sLen*z.size+n*z.size+(cap - (sLen+n))*z.size=cap*z.size:=by rw[<-FB,<-FB];congr 1;omega
   have h5:sLen*z.size<=l.cap*z.size:=Ig _ ad;simp[hL,h2,CB];omega
def uI{S:Ay}{k:Nat}: ∀(rows:List (List AV)) (L:List Value),Cj R6 rows->BG S k rows L->rows.length*k<=L.length-> ∀v∈L.take (rows.length*k),v.oneCell'=true
 |[],L,_,_,_=>by simp
 |r::rows,L,O,h,Q=>by
  simp only[BG] at h;simp only[CR,FB,Jm] at Q⊢;have e:L.take (rows.length*k+k)=L.take k++(L.drop k).take (rows.length*k):=by rw[<-iG];congr 1;omega
  rw[e];intro v z;rcases B2.1 z with z|z
  .obtain⟨_,G⟩:=Xo k r L h.2.1 (by omega);rw[GW (Zfd h.1)] at G;exact lQ r _ (O r (by simp)) G v z
  .exact uI rows _ (λx Z=>O x (by simp[Z])) h.2.2 (by rw[De];omega) v z
def Qsa: ∀(r:List D),BZ r=true->R6 (r.map .im)=true
 |[],_=>rfl
 |x::r,h=>by
  simp only[BZ,Bc] at h;simp only[Bf,R6,AV.one,Bc];exact⟨h.1,Qsa r h.2⟩
def Qyt{rows:List (List D)}(h:Cj BZ rows):Cj R6 (Bm rows):=by
 intro r z;simp only[Bm,BF] at z;obtain⟨x,G,rfl⟩:=z;exact Qsa x (h x G)
def Qrl{ok:Nat->Prop}{hp:Nat->Option Obj}{k:Nat}: ∀(rows:List (List D)) (L:List Value),rdr ok hp k rows L->rows.length*k<=L.length->rdr ok hp k rows (L.take (rows.length*k))
 |[],_,_,_=>by simp only[rdr]
 |r::rows,L,h,O=>by
  simp only[rdr,CR,FB,Jm] at h O⊢;refine⟨h.1,?_,?_⟩
  .obtain⟨_,G⟩:=Wk k r L h.2.1 (by omega);have z:=X2 _ _ G;rw[GW (by omega)] at z;have e:L.take (rows.length*k+k)=L.take k++(L.drop k).take (rows.length*k):=by rw[<-iG];congr 1;omega
   rw[e];exact uV _ _ _ z
  .rw[Zfm]
   have:=Qrl rows _ h.2.2 (by rw[De];omega)
   rwa [show rows.length*k+k - k=rows.length*k from by omega]
def zT{S:Ay}{k:Nat}: ∀(rows:List (List AV)) (L:List Value),BG S k rows L->rows.length*k<=L.length->BG S k rows (L.take (rows.length*k))
 |[],_,_,_=>by simp only[BG]
 |r::rows,L,h,O=>by
  simp only[BG,CR,FB,Jm] at h O⊢;refine⟨h.1,?_,?_⟩
  .obtain⟨_,G⟩:=Xo k r L h.2.1 (by omega);have z:=Xp _ _ G;rw[GW (by omega)] at z;have e:L.take (rows.length*k+k)=L.take k++(L.drop k).take (rows.length*k):=by rw[<-iG];congr 1;omega
   rw[e];exact mH _ _ _ z
  .rw[Zfm]
   have:=zT rows _ h.2.2 (by rw[De];omega)
   rwa [show rows.length*k+k - k=rows.length*k from by omega]
def Qxq{ok:Nat->Prop}{hp:Nat->Option Obj}{k:Nat}: ∀(rows:List (List D)) (L:List Value),rdr ok hp k rows L->k≠0->rows.length*k<=L.length
 |[],_,_,_=>by simp
 |r::rows,L,h,z=>by
  simp only[rdr,CR,FB,Jm] at h⊢;obtain⟨G,_⟩:=Wk k r L h.2.1 (by omega)
  have:=Qxq rows _ h.2.2 z
  rw[De] at this;omega
def Src.rows:Src->List (List AV)
 | .d _ _ rows=>Bm rows
 | .a _ _ rows=>rows
 | .no=>[]
def Src.w:Src->Nat
 | .d _ k _| .a _ k _=>k
 | .no=>0
def Src.us:Src->List Nat
 | .d u _ _| .a u _ _=>u
 | .no=>[]
def sC{S:Ay}: ∀(l:List UInt8),BG S 1 (Bm (l.map λb=>[D.int .u8 b.toNat])) (l.map λb=> .int .u8 b.toNat)
 |[]=>by simp only[Bm,Bg,BG]
 |b::l=>by
  have:=sC (S:=S) l
  simp only[Bm,Bf,Bg,BG,CA,CR,DQ,LK,Ie] at this⊢;refine⟨?_,⟨_,_,rfl,?_,trivial⟩,this⟩
  .first|trivial|rfl
  .simp only[Aa,rd]
def VH{C:Ba}{S:Ay}(hW:Wf C S){h:Nat->Option Au}{X:AV}{v:Value}(hc:Aa S X v)(hu: ∀n∈(D5 h X).us,S.h n=h n)(O:(D5 h X).okOne)
 {z:Nat}(hz:z≠0)(Q:(D5 h X).w=z\/(D5 h X).rows=[])(aj:(D5 h X).rows.length<=IN):
 ∃L,(Builtin.lenOf v).run P S.w= .ok (D5 h X).rows.length S.w/\(∀k,(Builtin.firstCells z (D5 h X).rows.length v).run P {S.w with drawn:=k}= .ok L.toArray {S.w with drawn:=k})/\
  L.length=(D5 h X).rows.length*z/\BG S z (D5 h X).rows L/\(∀v∈L,v.oneCell'=true)/\(D5 h X).rows.length<=IN:=by
 cases X<;>try exact O.elim
 case im d=>
  cases d<;>try exact O.elim
  case str s=>
   simp only[Aa,rd] at hc;subst hc;simp only[D5,Src.rows] at aj⊢;simp only[D5,Src.rows,Src.w] at Q;have ai:(Bm (JT s)).length=s.size:=by simp only[Bm,JT,Du,Fj];rfl
   refine⟨s.data.toList.map λb=> .int .u8 b.toNat,?_,λk=> ?_,?_,?_,?_,aj⟩
   .rw[ai];simp[Builtin.lenOf]
   .rw[ai]
    have:s.extract 0 s.size=s:=by simp
    simp only[Builtin.firstCells,this,Sem.run_pure];congr 1;apply KM;simp
   .rw[Du,<-Du (f:=λb:UInt8=>[D.int .u8 b.toNat])];rcases Q with rfl|Q
    .simp[Bm,JT]
    .have:JT s=[]:=ZdT.1 Q
     simp only[JT] at this;simp[Bm,JT,this]
   .rcases Q with rfl|Q
    .exact sC _
    .have:JT s=[]:=ZdT.1 Q
     rw[this];simp only[Bm,Bg,BG]
   .intro v hv;obtain⟨b,_,rfl⟩:=BF.1 hv;rfl
  rename_i nz k rows;simp only[D5,Src.rows,Src.w,Src.okOne] at O Q⊢;simp only[Aa,rd] at hc;rcases hc with ⟨rfl|⟨_,a,rfl⟩,rfl⟩|⟨b,p,cap,vs,T,fr,rfl,_,h2,h3,_,h5,h6⟩
  .exact⟨[],by simp[Builtin.lenOf,Bm],by simp[Builtin.firstCells],by simp[Bm],by simp[Bm,BG],by simp,by simp[Bm]⟩
  .refine⟨[],by simp[Builtin.lenOf,Bm],?_,by simp[Bm],by simp[Bm,BG],by simp,by simp[Bm]⟩;intro j;simp[Builtin.firstCells,Bm,loadCells,loadCellsFrom]
  .by_cases hr:rows=[]
   .subst hr;refine⟨[],by simp[Builtin.lenOf,Bm],?_,by simp[Bm],by simp[Bm,BG],by simp,by simp[Bm]⟩;intro j;simp[Builtin.firstCells,Bm,loadCells,loadCellsFrom]
   .have af:k=z:=by
     rcases Q with Q|Q
     .exact Q
     .simp[Bm] at Q;exact absurd Q hr
    subst af;have hl:=Qxq rows _ h6 hz;have aa:vs.toList.length=vs.size:=Fj;have ad:=mG _ _ h6;have G:(Bm rows).length=rows.length:=by simp[Bm]
    refine⟨(vs.toList.drop p).take (rows.length*k),by simp[Builtin.lenOf,Bm],?_,?_,?_,?_,by rw[G];exact h3⟩
    .intro j;rw[G];refine lS (w:={S.w with drawn:=j}) h5 ?_;by_cases am:p<=vs.size
     .rw[De,aa] at hl;omega
     .have:0<rows.length*k:=Nat.mul_pos (hZ.2 hr) (by omega)
      rw[De,aa] at hl;omega
    .rw[CB,G];omega
    .have:=zT _ _ ad (by rw[G];exact hl)
     rwa [G] at this
    .have:=uI _ _ (Qyt O) ad (by rw[G];exact hl)
     rwa [G] at this
 case own n=>
  simp only[D5] at O Q hu⊢;simp only[Aa] at hc;cases hn:h n with
  |none=>rw[hn] at O;exact O.elim
  |some e=>
  rw[hn] at O Q hu;obtain⟨mu,e⟩:=e;cases e<;>try exact O.elim
  case arr T k rows=>
   simp only[bE,Src.rows,Src.w,Src.okOne,Src.us] at O Q hu⊢;have hS:S.h n=_:=(hu n (by simp)).trans hn;have Z:=hW.obj _ _ hS;have hc:=hc.2 _ hS;have G:(Bm rows).length=rows.length:=by simp[Bm]
   cases hl0:S.ρ n with
   |none=>
    rw[hl0] at hc Z;simp only[Ap] at Z;obtain⟨_,rfl⟩:=Z;simp only at hc;subst hc;exact⟨[],by simp[Builtin.lenOf,Bm],by simp[Builtin.firstCells],by simp[Bm],by simp[Bm,BG],by simp,by simp[Bm]⟩
   |some l=>
    rw[hl0] at hc Z;simp only[Ap,Ah.len] at Z hc;subst hc;obtain⟨ab,ac,vs,hb,ai,hr⟩:=Z;by_cases ah:rows=[]
    .subst ah;refine⟨[],by simp[Builtin.lenOf,Bm],?_,by simp[Bm],by simp[Bm,BG],by simp,by simp[Bm]⟩;intro j;simp[Builtin.firstCells,Bm,loadCells,loadCellsFrom]
    .have af:k=z:=by
      rcases Q with Q|Q
      .exact Q
      .simp[Bm] at Q;exact absurd Q ah
     subst af;have ad:=mG _ _ hr;have ak:rows.length*k<=l.cap*k:=Ig _ ac;have aa:vs.toList.length=vs.size:=Fj;have ag:rows.length*k<=(vs.toList.drop l.p).length:=by rw[De,aa];omega
     refine⟨(vs.toList.drop l.p).take (rows.length*k),by simp[Builtin.lenOf,Bm],?_,?_,?_,?_,by rw[G];exact ab⟩
     .intro j;rw[G];exact lS (w:={S.w with drawn:=j}) hb (by omega)
     .rw[CB,G];omega
     .have:=zT _ _ ad (by rw[G];exact ag)
      rwa [G] at this
     .have:=uI _ _ (Qyt O) ad (by rw[G];exact ag)
      rwa [G] at this
  case arrA T k rows=>
   simp only[bE,Src.rows,Src.w,Src.okOne,Src.us] at O Q hu⊢;have hS:S.h n=_:=(hu n (by simp)).trans hn;have Z:=hW.obj _ _ hS;have hc:=hc.2 _ hS;cases hl0:S.ρ n with
   |none=>
    rw[hl0] at hc Z;simp only[Ap] at Z;obtain⟨_,rfl⟩:=Z;simp only at hc;subst hc;exact⟨[],by simp[Builtin.lenOf],by simp[Builtin.firstCells],by simp,by simp[BG],by simp,by simp⟩
   |some l=>
    rw[hl0] at hc Z;simp only[Ap,Ah.len] at Z hc;subst hc;obtain⟨ab,ac,vs,hb,ai,hr⟩:=Z;by_cases ah:rows=[]
    .subst ah;refine⟨[],by simp[Builtin.lenOf],?_,by simp,by simp[BG],by simp,by simp⟩;intro j;simp[Builtin.firstCells,loadCells,loadCellsFrom]
    .have af:k=z:=by
      rcases Q with Q|Q
      .exact Q
      .exact absurd Q ah
     subst af;have ak:rows.length*k<=l.cap*k:=Ig _ ac;have aa:vs.toList.length=vs.size:=Fj;have ag:rows.length*k<=(vs.toList.drop l.p).length:=by rw[De,aa];omega
     refine⟨(vs.toList.drop l.p).take (rows.length*k),by simp[Builtin.lenOf],?_,?_,?_,?_,ab⟩
     .intro j;exact lS (w:={S.w with drawn:=j}) hb (by omega)
     .rw[CB];omega
     .exact zT _ _ hr ag
     .exact uI _ _ O hr ag
end
def Qjh{S:Ay}{k:Nat}: ∀(rows:List (List D)) (L:List Value),BG S k (Bm rows) L->rdr S.ok S.hp k rows L
 |[],_,_=>by simp only[rdr]
 |r::rows,L,h=>by
  simp only[Bm,Bf,BG] at h;simp only[rdr];exact⟨by simpa using h.1,(sU _ _).1 h.2.1,Qjh rows _ h.2.2⟩
def Zc{S S':Ay}{T k:Nat}{rows:List (List D)}{l:Option FX}(G:S'.ok=S.ok)(z:S'.hp=S.hp)(h:Ap S l (.arrA T k (Bm rows))):Ap S' l (.arr T k rows):=by
 simp only[Ap] at h⊢;refine⟨by simpa[Bm] using h.1,?_⟩;cases l with
 |none=>simpa[Bm] using h.2
 |some lc=>
  obtain⟨_,O,vs,Q,Z,h4⟩:=h;refine⟨by simpa[Bm] using O,vs,by rw[z];exact Q,Z,?_⟩;rw[G,z];exact Qjh _ _ h4
section
variable {P:Program}{tm:List (Nat×AV)}{h:Nat->Option Au}{nx:Nat}{o:Oper}{K:Aj}
def OH{T U e:TypeId}{z:TI}{s x:Operand}(hT:P.underlying T=some (.slice e))(hU:xG P U)(hE:tI P e=some z)
 {c:Call}(ho:o.op= .call c)(ad:c.callee= .builtin .append)(aa:c.args= #[s,x])(bq:c.argTypes= #[T,U])
 (ai:z.bytes≠0)(hz:z.zero.length=z.size)(Z:z.size≠0){u ks:List Nat}{rows0:List (List AV)}
 (az:(D5 h (Aw tm x)).okOne)(hw:(D5 h (Aw tm x)).w=z.size\/(D5 h (Aw tm x)).rows=[])(a9: ∀n∈(D5 h (Aw tm x)).us,n∈u++ks)
 (bd:(rows0.length+(D5 h (Aw tm x)).rows.length+512)*z.bytes<=140737488355328)
 (hnm: ∀m∈B7 (rows0++(D5 h (Aw tm x)).rows),∃n f,n∈u++ks/\h n=some f/\m∈f.2.nms)
 (ay:((∃k0,Aw tm s= .im (.sl true k0 []))/\rows0=[])\/(∃n f,Aw tm s= .own n/\n∈ks/\h n=some (true,f)/\((∃rows,f= .arr e z.size rows/\rows0=Bm rows)\/f= .arrA e z.size rows0)))
 {ea:Ah}(au:ea= .arrA e z.size (rows0++(D5 h (Aw tm x)).rows)\/ ∃rows,ea= .arr e z.size rows/\Bm rows=rows0++(D5 h (Aw tm x)).rows)
 (hk:K (.own nx) {use:=u,kill:=ks,new:=[(nx,(true,ea))],cnt:=1}):Ca P tm h nx o K:=by
 refine⟨_,_,BE.one (u:=u) (ks:=ks) (.inl ⟨rfl,rfl⟩) ?_,hk⟩;intro C S a hW hu bg ag ah;have Q:=ah s (by rw[ho];simp[Op.operands,Call.operands,aa,ad]);have h2:=ah x (by rw[ho];simp[Op.operands,Call.operands,aa,ad]);have bi:(D5 h (Aw tm x)).rows.length<=IN:=by
  have be:z.bytes≠0:=ai
  have:(rows0.length+(D5 h (Aw tm x)).rows.length+512)*1<=(rows0.length+(D5 h (Aw tm x)).rows.length+512)*z.bytes:=ZeA _ (by omega)
  simp only[IN];omega
 obtain⟨L,aw,af,an,bc,bb,bt⟩:=VH hW h2 (λn hn=>hu n (a9 n hn)) az Z hw bi;have bn:=bg rfl;have am: ∃l0 A,a.eval s=lA l0 rows0.length/\cX S e z.size rows0.length A l0/\
  (∀l,l0=some l-> ∃o f,o∈ks/\S.h o=some (true,f)/\S.ρ o=some l)/\BG S z.size rows0 A/\rows0.length*z.size<=A.length:=by
  rcases ay with ⟨⟨k0,hs⟩,rfl⟩|⟨n,f,hs,ax,hf,av⟩
  .rw[hs] at Q;simp only[Aa,rd] at Q;rcases Q with ⟨Q,_⟩|⟨b,p,cap,vs,T,fr,_,bl,_⟩
   .have Q:=Qr7 Q;exact⟨none,[],by rw[Q];rfl,⟨rfl,rfl⟩,(by intro l hl;cases hl),by simp only[BG],by simp⟩
   .exact absurd rfl (bl trivial)
  .rw[hs] at Q;have hS:S.h n=_:=(hu n (by simp[ax])).trans hf;have G:=hW.obj _ _ hS;simp only[Aa] at Q;have Q:=Q.2 _ hS;cases hl0:S.ρ n with
   |none=>
    rw[hl0] at Q G;simp only at Q
    have:rows0=[]:=by
     rcases av with ⟨rows,rfl,rfl⟩|rfl
     .simp only[Ap] at G;rw[G.2];rfl
     .simp only[Ap] at G;exact G.2
    subst this;exact⟨none,[],by rw[Q];rfl,⟨rfl,rfl⟩,(by intro l hl;cases hl),by simp only[BG],by simp⟩
   |some l=>
    rw[hl0] at Q G;simp only at Q;have ao:f.len=rows0.length/\rows0.length<=l.cap/\ ∃vs,S.hp l.b=some (.cells vs e (0,0))/\l.p+l.cap*z.size<=vs.size/\BG S z.size rows0 (vs.toList.drop l.p):=by
     rcases av with ⟨rows,rfl,rfl⟩|rfl
     .simp only[Ap] at G;obtain⟨_,O,vs,hb,Z,hr⟩:=G;exact⟨by simp[Ah.len,Bm],by simpa[Bm] using O,vs,hb,Z,mG _ _ hr⟩
     .simp only[Ap] at G;obtain⟨_,O,vs,hb,Z,hr⟩:=G;exact⟨rfl,O,vs,hb,Z,hr⟩
    obtain⟨bf,O,vs,hb,Z,hr⟩:=ao;have bu:rows0.length*z.size<=l.cap*z.size:=Ig _ O;have br:vs.toList.length=vs.size:=Fj;refine⟨some l,vs.toList.drop l.p,by rw[Q,bf];rfl,⟨O,vs,hb,rfl,Z⟩,?_,hr,by rw[De,br];omega⟩;intro l' bh;obtain rfl:=AC bh;exact⟨n,f,ax,hS,hl0⟩
 obtain⟨l0,A,hv,hA,aj,bp,ba⟩:=am;obtain⟨w',l',a0,bo,ac⟩:=OG hW (nx:=nx) (ks:=ks) (ty:=o.type) hT hE hU ai hz Z bd hA aw af an bb aj bn (λn f hf=>ag n f hf rfl);refine⟨lA l' (rows0.length+(D5 h (Aw tm x)).rows.length),w',l',.inl ?_,bo ea,?_⟩
 .simp only[execOp,ho,resolve,ad,aa,bq,Sem.run_bind,Sem.run_pure,Result.andThen_ok,invoke,builtin];simp[hv,a0]
 intro hp;have be:z.bytes≠0:=ai;have a8:rows0.length+(D5 h (Aw tm x)).rows.length<=IN:=by
  have:(rows0.length+(D5 h (Aw tm x)).rows.length+512)*1<=(rows0.length+(D5 h (Aw tm x)).rows.length+512)*z.bytes:=ZeA _ (by omega)
  simp only[IN];omega
 have hX: ∀m∈B7 (rows0++(D5 h (Aw tm x)).rows),S.h nx≠none\/m≠nx:=by
  intro m hm;obtain⟨n,f,bm,hf,bj⟩:=hnm m hm;right;rintro rfl;exact ag n f ((hu n bm).trans hf) rfl bj
 have ab:Ap (S.one nx ea l' ks w') l' (.arrA e z.size (rows0++(D5 h (Aw tm x)).rows)):=by
  simp only[Ap,Bz];refine⟨a8,?_⟩;cases l' with
  |none=>
   simp only at ac⊢;rw[List.append_eq_nil_iff];exact⟨RN.1 ac.1,RN.1 ac.2⟩
  |some l=>
   obtain⟨h3,vs,R,h4,h5,h6⟩:=ac;refine⟨h3,vs,h4,h5,?_⟩;rw[h6];exact tB hp _ _ _ hX (Qqs _ _ _ _ _ bp ba bc (by rw[an];exact AU _))
 have ak:ea.len=rows0.length+(D5 h (Aw tm x)).rows.length:=by
  rcases au with rfl|⟨rows,rfl,hr⟩
  .simp[Ah.len]
  .simp only[Ah.len];rw[<-Bz,<-hr];simp[Bm]
 constructor
 .rcases au with rfl|⟨rows,rfl,hr⟩
  .exact ab
  .rw[<-hr] at ab;exact Zc rfl rfl ab
 .simp only[Aa];refine⟨by cases l'<;>rfl,λe' aq=> ?_⟩;simp only[Ay.one,Bb,AO] at aq⊢;subst aq;cases l' with
  |none=>rfl
  |some l=>simp only[lA];rw[ak]
def mU(rows:List (List D)):B7 (Bm rows)=[]:=by
 induction rows with
 |nil=>rfl
 |cons r rows ih=>simp only[Bm,Bf,B7,Qw0,Dv];exact ih
def uB: ∀(a b:List (List AV)),B7 (a++b)=B7 a++B7 b
 |[],_=>rfl
 |x::a,b=>by simp[B7,uB a b]
def Qg{X:AV}{m:Nat}(z:m∈B7 (D5 h X).rows): ∃n f,n∈(D5 h X).us/\h n=some f/\m∈f.2.nms:=by
 cases X<;>try (simp only[D5,Src.rows,B7] at z;cases z;done)
 case im d=>cases d<;>simp only[D5,Src.rows,mU,B7] at z<;>cases z
 case own n=>
  simp only[D5] at z⊢;cases hn:h n with
  |none=>rw[hn] at z;simp only[bE,Src.rows,B7] at z;cases z
  |some e=>
   rw[hn] at z;obtain⟨G,e⟩:=e;cases e<;>simp only[bE,Src.rows,mU,B7] at z<;>try cases z
   refine⟨n,_,by simp[Src.us,bE],hn,z⟩
def Qab5{T U:TypeId}{s x:Operand}{c:Call}(ho:o.op= .call c)(ag:c.callee= .builtin .append)(ad:c.args= #[s,x])(am:c.argTypes= #[T,U])
 (z:Bl (Qlj P h nx (Aw tm s) (Aw tm x) T K) (tI P U)):Ca P tm h nx o K:=by
 cases hU:tI P U with
 |none=>rw[hU] at z;exact z.elim
 |some ui=>
 rw[hU] at z;simp only[Bl,Qlj] at z;obtain⟨ah,z⟩:=z;have aj:xG P U:=by
  cases hu:ui.kind<;>rw[hu] at ah<;>simp only[TK.isSl,TK.isStr,Bool.or_self,wX,QI,Dp] at ah
  .exact .inr (Ri hU hu)
  .exact .inl ⟨_,Q5 hU hu⟩
 cases hT:tI P T with
 |none=>rw[hT] at z;exact z.elim
 |some ti=>
 rw[hT] at z;simp only[Qsl] at z;cases hf:ti.kind<;>rw[hf] at z<;>try exact z.elim
 rename_i e;have ai:=Q5 hT hf;simp only[apK] at z;cases hE:tI P e with
 |none=>rw[hE] at z;exact z.elim
 |some te=>
 rw[hE] at z;simp only[Bl,apE] at z;obtain⟨hz,hl,ak,Q,z⟩:=z;have ab: ∀{m:Nat},m∈B7 (D5 h (Aw tm x)).rows-> ∃n f,n∈(D5 h (Aw tm x)).us/\h n=some f/\m∈f.2.nms:=λZ=>Qg Z
 have G:= @OH P tm h nx o K T U e te s x ai aj hE c ho ag ad am ak hl hz;revert G;generalize D5 h (Aw tm x)=src at z Q ab;intro G;cases hs:Aw tm s<;>rw[hs] at z<;>try exact z.elim
 case im d=>
  cases d<;>try exact z.elim
  rename_i nz k0 rows;cases nz<;>cases rows<;>try exact z.elim
  simp only[Sa] at z;cases src with
  |no=>exact z.elim
  |d u k rows=>
   simp only[NO] at z;obtain⟨O,hb,z⟩:=z;refine G (u:=u) (ks:=[]) (rows0:=[]) Q (O.imp id (λh=>by rw[h];rfl)) (by simp[Src.us]) (by simpa[Src.rows,Bm] using hb) ?_ (.inl ⟨⟨k0,hs⟩,rfl⟩) (.inr ⟨rows,rfl,by simp[Src.rows]⟩) z;intro m Z;simp only[Dv,Src.rows,mU] at Z;cases Z
  |a u k rows=>
   simp only[NO] at z;obtain⟨O,hb,z⟩:=z;refine G (u:=u) (ks:=u) (rows0:=[]) Q (.inl O) (by simp[Src.us]) (by simpa[Src.rows] using hb) ?_ (.inl ⟨⟨k0,hs⟩,rfl⟩) (.inl (by simp[Src.rows])) z;intro m Z;obtain⟨n,f,hn,hf⟩:=ab Z;exact⟨n,f,by simp[Src.us] at hn;simp[hn],hf⟩
 case own n=>
  simp only[Sa] at z;cases hn:h n with
  |none=>rw[hn] at z;exact z.elim
  |some ac=>
  rw[hn] at z;obtain⟨mu,ac⟩:=ac;cases mu<;>cases ac<;>try exact z.elim
  case true.arr U0 k0 rows0=>
   simp only[Jo] at z;obtain⟨rfl,rfl,z⟩:=z;cases src with
   |no=>exact z.elim
   |d u k rows=>
    simp only[oE] at z;obtain⟨O,af,hb,z⟩:=z;refine G (u:=n::u) (ks:=[n]) (rows0:=Bm rows0) Q (O.imp id (λh=>by rw[h];rfl)) (by intro x hx;simp[Src.us] at hx;simp[hx]) (by simpa[Src.rows,Bm] using hb) ?_
     (.inr ⟨n,_,hs,by simp,hn,.inl ⟨rows0,rfl,rfl⟩⟩) (.inr ⟨rows0++rows,rfl,by simp[Src.rows,Bm]⟩) z
    intro m Z;simp only[Src.rows,uB,mU] at Z;cases Z
   |a u k rows=>
    simp only[oE] at z;obtain⟨O,af,hb,z⟩:=z;refine G (u:=n::u) (ks:=n::u) (rows0:=Bm rows0) Q (.inl O) (by intro x hx;simp[Src.us] at hx;simp[hx]) (by simpa[Src.rows,Bm] using hb) ?_
     (.inr ⟨n,_,hs,by simp,hn,.inl ⟨rows0,rfl,rfl⟩⟩) (.inl (by simp[Src.rows])) z
    intro m Z;simp only[uB,mU,Dv] at Z;obtain⟨n',f,aa,hf⟩:=ab Z;exact⟨n',f,by simp[Src.us] at aa;simp[aa],hf⟩
  case true.arrA U0 k0 rows0=>
   simp only[Jo] at z;obtain⟨rfl,rfl,z⟩:=z;cases src with
   |no=>exact z.elim
   |d u k rows=>
    simp only[oD] at z;obtain⟨O,af,hb,z⟩:=z;refine G (u:=n::u) (ks:=[n]) (rows0:=rows0) Q (O.imp id (λh=>by rw[h];rfl)) (by intro x hx;simp[Src.us] at hx;simp[hx]) (by simpa[Src.rows,Bm] using hb) ?_
     (.inr ⟨n,_,hs,by simp,hn,.inr rfl⟩) (.inl (by simp[Src.rows])) z
    intro m Z;simp only[Src.rows,uB,mU,Ck] at Z;exact⟨n,_,by simp,hn,Z⟩
   |a u k rows=>
    simp only[oD] at z;obtain⟨O,af,hb,z⟩:=z;refine G (u:=n::u) (ks:=n::u) (rows0:=rows0) Q (.inl O) (by intro x hx;simp[Src.us] at hx;simp[hx]) (by simpa[Src.rows] using hb) ?_
     (.inr ⟨n,_,hs,by simp,hn,.inr rfl⟩) (.inl (by simp[Src.rows])) z
    intro m Z;simp only[uB,B2] at Z;rcases Z with Z|Z
    .exact⟨n,_,by simp,hn,Z⟩
    .obtain⟨n',f,aa,hf⟩:=ab Z;exact⟨n',f,by simp[Src.us] at aa;simp[aa],hf⟩
end
def Qx9{ok:Nat->Prop}{hp:Nat->Option Obj}: ∀(ds:List (D×D)) (es:List MapEntry),rde ok hp ds es->es.length=ds.length
 |[],_,h=>by simp only[rde] at h;simp[h]
 |(x,y)::ds,_,h=>by
  simp only[rde] at h;obtain⟨e,r,rfl,_,_,z⟩:=h;simp[Qx9 ds r z]
def Q3{P:Program}{w:World}{b:Nat}{es:Array MapEntry}{clock:Nat}(h:w.heap[b]? =some (.map es clock)):(getObj b).run P w= .ok (.map es clock) w:=by
 simp[getObj,Sem.run,h]
section
variable {P:Program}{w:World}{T e k:TypeId}
def Xt(x y:Value):Op.equal T x y=Op.equalIn (9999+1) T x y:=rfl
def KV(z:P.underlying T=some (.slice e))(d:Nat)(b:Option Addr)(n c:Nat):(Op.equalIn (d+1) T (.slice b n c) (.slice none 0 0)).run P w= .ok b.isNone w:=by
 cases b<;>simp[Op.equalIn,run_underlying z]
def Qx1(z:P.underlying T=some (.pointer e))(d:Nat)(b:Option Addr):(Op.equalIn (d+1) T (.pointer b) (.pointer none)).run P w= .ok b.isNone w:=by
 cases b<;>simp[Op.equalIn,run_underlying z]
def KU(z:P.underlying T=some (.map k e))(d:Nat)(b:Option Nat):(Op.equalIn (d+1) T (.map b) (.map none)).run P w= .ok b.isNone w:=by
 cases b<;>simp[Op.equalIn,run_underlying z]
end
def oN(tm:List (Nat×AV))(h:Nat->Option Au)(o:Oper):Prop:=
 ∃u:List Nat,∀(C:Ba) (S:Ay) (a:Act),Wf C S->(∀n∈u,S.h n=h n)->(∀x∈o.op.operands,Aa S (Aw tm x) (a.eval x))->False
def KJ(P:Program)(tm:List (Nat×AV))(h:Nat->Option Au)(nx:Nat)(o:Oper)(K:Aj):Prop:=
 ∀(C:Ba) (S:Ay) (a:Act) (next:Act->World->Prop) (Q:Exit->Act->World->Prop),
  Wf C S->(∀n,S.h n=h n)->(∀n,nx<=n->S.h n=none)->(∀n e,S.h n=some e-> ∀m∈e.2.nms,m<nx)->
  (∀x∈o.op.operands,Aa S (Aw tm x) (a.eval x))->
  (∀r E v S',K r E->Wf C S'->S'.h=E.appf S.h->BA (λm=> ¬Fr nx E.cnt m) S S'->Aa S' r v->next (a.put o.dst v) S'.w)->
  o.wp P a S.w next Q
abbrev XJ(P:Program)(z:Bool)(tm:List (Nat×AV))(h:Nat->Option Au)(nx:Nat)(o:Oper)(K:Aj):Prop:=
 Ca P tm h nx o K\/(z=true/\(oN tm h o\/KJ P tm h nx o K))
section
variable {P:Program}{tm:List (Nat×AV)}{h:Nat->Option Au}{nx:Nat}{o:Oper}{K:Aj}
def bD{T:TypeId}{x:Operand}{c:Call}{u:List Nat}{n:Nat}(ho:o.op= .call c)(G:c.callee= .builtin .len)(z:c.args= #[x])(Z:c.argTypes= #[T])
 (Q: ∀(C:Ba) (S:Ay) (v:Value),Wf C S->(∀n∈u,S.h n=h n)->Aa S (Aw tm x) v->(Builtin.len_ #[T] o.type #[v]).run P S.w= .ok (.int .i64 n) S.w)
 (hk:Gi K {use:=u} n):Ca P tm h nx o K:=by
 refine⟨_,_,BE.pure (u:=u) ?_,hk⟩;intro C S a hW hu O;have h1:=O x (by rw[ho];simp[Op.operands,Call.operands,z,G]);refine⟨.int .i64 n,?_,by simp only[Aa,rd]⟩;simp only[execOp,ho,resolve,G,z,Z,Sem.run_bind,Sem.run_pure,Result.andThen_ok,invoke,builtin];simp[Q C S _ hW hu h1]
def Qq0{z:Bool}{B:Prop}(O:(z=true->B)->Ca P tm h nx o K)(Q: ¬B->oN tm h o):XJ P z tm h nx o K:=by
 by_cases G:B
 .exact .inl (O λ_=>G)
 .cases z
  .exact .inl (O λh=>by cases h)
  .exact .inr ⟨rfl,.inl (Q G)⟩
def Z7{sq:Bool}{T:TypeId}{x:Operand}{c:Call}(ho:o.op= .call c)(Q:c.callee= .builtin .len)(O:c.args= #[x])(aa:c.argTypes= #[T])
 (z:Bl (gU sq h (Aw tm x) K) (tI P T)):XJ P sq tm h nx o K:=by
 have aj:x∈o.op.operands:=by rw[ho];simp[Op.operands,Call.operands,O,Q]
 cases hT:tI P T with
 |none=>rw[hT] at z;exact z.elim
 |some ti=>
 rw[hT] at z;simp only[Bl,gU] at z;cases hf:ti.kind<;>rw[hf] at z<;>try exact z.elim
 case slice e=>
  have hu:=Q5 hT hf;simp only[FH] at z;cases hx:Aw tm x<;>rw[hx] at z<;>try exact z.elim
  case im d=>
   cases d<;>try exact z.elim
   rename_i nz k rows;simp only[gM] at z;refine Qq0 (B:=rows.length<=140737488355328) (λhb=>bD (u:=[]) ho Q O aa ?_ (z hb)) λhb=>⟨[],?_⟩
   .intro C S v hW _ G;rw[hx] at G;simp only[Aa,rd] at G;rcases G with ⟨rfl|⟨_,a,rfl⟩,rfl⟩|⟨b,p,cap,vs,T,fr,rfl,_⟩<;>simp[Builtin.len_,underlying,hu,goInt]
   .intro C S a hW _ ad;have h1:=ad x aj;rw[hx] at h1;simp only[Aa,rd] at h1;rcases h1 with ⟨_,rfl⟩|⟨b,p,cap,vs,T,fr,_,_,_,h3,_⟩
    .simp at hb
    .exact hb h3
  case own n=>
   simp only[gM] at z;cases hn:h n with
   |none=>rw[hn] at z;exact z.elim
   |some Z=>
   rw[hn] at z;obtain⟨mu,Z⟩:=Z;have af: ∀{rl:Nat},Z.len=rl->(∀(S:Ay) l,Ap S l Z->rl<=140737488355328)->((sq=true->rl<=140737488355328)->Gi K {use:=[n]} rl)->(∀(S:Ay),Ap S none Z->rl=0)->
    XJ P sq tm h nx o K:=by
    intro rl hl ak z ai;refine Qq0 (B:=rl<=140737488355328) (λhb=>bD (u:=[n]) ho Q O aa ?_ (z hb)) λhb=>⟨[n],?_⟩
    .intro C S v hW ab G;rw[hx] at G;simp only[Aa] at G;have hS:=(ab n (by simp)).trans hn;have G:=G.2 _ hS;cases hl0:S.ρ n with
     |none=>
      have ac:=hW.obj _ _ hS;rw[hl0] at G ac;simp only at G;subst G
      have:=ai S ac
      simp[Builtin.len_,underlying,hu,goInt,this]
     |some l=>
      rw[hl0] at G;simp only[hl] at G;subst G;simp[Builtin.len_,underlying,hu,goInt]
    .intro C S a hW ab ad;have hS:=(ab n (by simp)).trans hn;exact hb (ak S _ (hW.obj _ _ hS))
   cases Z<;>try exact z.elim
   case arr T0 k rows=>
    exact af rfl (λS l ho=>by simp only[Ap] at ho;exact ho.1) z (λS ho=>by simp only[Ap] at ho;rw[ho.2];rfl)
   case arrA T0 k rows=>
    exact af rfl (λS l ho=>by simp only[Ap] at ho;exact ho.1) z (λS ho=>by simp only[Ap] at ho;rw[ho.2];rfl)
  case osl n wa wn=>
   simp only[gM] at z;cases hn:h n with
   |none=>rw[hn] at z;exact z.elim
   |some Z=>
   rw[hn] at z;refine .inl (bD (u:=[n]) ho Q O aa ?_ z);intro C S v hW ab G;rw[hx] at G;simp only[Aa] at G;have hS:=(ab n (by simp)).trans hn;have G:=G.2 _ hS;unfold Q1 at G;cases hl0:S.ρ n with
   |none=>
    rw[hl0] at G;obtain⟨rfl,rfl⟩:=G;simp[Builtin.len_,underlying,hu,goInt]
   |some l=>
    rw[hl0] at G;obtain⟨p,cp,rfl,_⟩:=G;simp[Builtin.len_,underlying,hu,goInt]
 case str=>
  have hu:=Ri hT hf;simp only[FH] at z;cases hx:Aw tm x<;>rw[hx] at z<;>try exact z.elim
  rename_i d;cases d<;>try exact z.elim
  refine .inl (bD (u:=[]) ho Q O aa ?_ z);intro C S v hW _ G;rw[hx] at G;simp only[Aa,rd] at G;subst G;simp[Builtin.len_,underlying,hu,goInt]
 case map k e=>
  have hu:=nJ hT hf;simp only[FH] at z;cases hx:Aw tm x<;>rw[hx] at z<;>try exact z.elim
  case im d=>
   cases d<;>try exact z.elim
   case nilm=>
    refine .inl (bD (u:=[]) ho Q O aa ?_ z);intro C S v hW _ G;rw[hx] at G;simp only[Aa,rd] at G;subst G;simp[Builtin.len_,underlying,hu,goInt]
   case mp kt es=>
    refine .inl (bD (u:=[]) ho Q O aa ?_ z);intro C S v hW _ G;rw[hx] at G;simp only[Aa,rd] at G;obtain⟨b,ah,ag,rfl,_,_,h5,h6,_⟩:=G;have hl:=Qx9 _ _ h6;simp only[Fj] at hl;simp[Builtin.len_,underlying,hu,goInt,Q3 (w:=S.w) h5,hl]
  case mp n=>
   simp only[vT] at z;cases hn:h n with
   |none=>rw[hn] at z;exact z.elim
   |some Z=>
   rw[hn] at z;obtain⟨mu,Z⟩:=Z;cases Z<;>try exact z.elim
   refine .inl (bD (u:=[n]) ho Q O aa ?_ z);intro C S v hW ab G;rw[hx] at G;simp only[Aa] at G;have hS:=(ab n (by simp)).trans hn;obtain⟨l,hl,rfl⟩:=G.2 _ hS;have ac:=hW.obj _ _ hS;simp only[Ap] at ac;obtain⟨lc,ah,ag,h1,_,h5,h6,_⟩:=ac;rw[hl] at h1;obtain rfl:=AC h1;have hl:=Qx9 _ _ h6;simp only[Fj] at hl;simp[Builtin.len_,underlying,hu,goInt,Q3 (w:=S.w) h5,hl]
def fY{op:BinOp}{T U:TypeId}{x y:Operand}{u:List Nat}{b:Bool}(ho:o.op= .binOp op T x y U)(Z:op= .eql\/op= .neq){z:Value}(hy:y= .const z)
 (Q:z= .slice none 0 0\/z= .pointer none\/z= .map none)
 (O: ∀(C:Ba) (S:Ay) (v:Value),Wf C S->(∀n∈u,S.h n=h n)->Aa S (Aw tm x) v->(∀k n,v≠ .int k n)/\(∀k n,v≠ .float k n)/\(∀k n m,v≠ .complex k n m)/\(∀s,v≠ .string s)/\(Op.equal T v z).run P S.w= .ok b S.w)
 (hk:K (.im (.bool ((decide (op= .neq)) !=b))) {use:=u}):Ca P tm h nx o K:=by
 refine⟨_,_,BE.pure (u:=u) ?_,hk⟩;intro C S a hW hu G;have h1:=G x (by rw[ho];simp[Op.operands]);obtain⟨hi,hf,hc,hs,hr⟩:=O C S _ hW hu h1;refine⟨.bool (decide (op= .neq) !=b),?_,by simp only[Aa,rd]⟩;have hg:(eqGuard op T x y (a.eval x) z).run P S.w= .ok () S.w:=by
  rcases Q with rfl|rfl|rfl<;>rcases Z with rfl|rfl<;>simp[eqGuard]
 have hb:(binOp op T (a.eval x) z).run P S.w= .ok (.bool (decide (op= .neq) !=b)) S.w:=by
  have hq:(Op.equal T (a.eval x) z).run P S.w= .ok b S.w:=hr;clear hr hg G h1 O hk hu;generalize a.eval x=v at*;rcases Z with rfl|rfl
  .have:binOp .eql T v z=(do pure (.bool (<-Op.equal T v z))):=by
    rcases Q with rfl|rfl|rfl<;>cases v<;>first|rfl|exact absurd rfl (hi _ _)|exact absurd rfl (hf _ _)|exact absurd rfl (hc _ _ _)|exact absurd rfl (hs _)
   rw[this];simp[hq]
  .have:binOp .neq T v z=(do pure (.bool (!(<-Op.equal T v z)))):=by
    rcases Q with rfl|rfl|rfl<;>cases v<;>first|rfl|exact absurd rfl (hi _ _)|exact absurd rfl (hf _ _)|exact absurd rfl (hc _ _ _)|exact absurd rfl (hs _)
   rw[this];simp[hq]
 have aa:a.eval y=z:=by rw[hy];rfl
 simp only[execOp,ho,aa,Sem.run_bind,hg,Result.andThen_ok,hb,Sem.run_pure]
def dM{op:BinOp}{T U:TypeId}{x y:Operand}{m:Nat}(ho:o.op= .binOp op T x y U)(hm:FI y=m+1)(ac:m<=2)(hk:Bl (mX h op (Aw tm x) K m) (tI P T)):Ca P tm h nx o K:=by
 cases hT:tI P T with
 |none=>rw[hT] at hk;exact hk.elim
 |some ti=>
 rw[hT] at hk;simp only[Bl] at hk;have O:op= .eql\/op= .neq:=by cases op<;>first|exact .inl rfl|exact .inr rfl|exact hk.elim
 have z:X6 h (decide (op= .neq)) K (Aw tm x) m ti.kind:=by rcases O with rfl|rfl<;>exact hk
 have Z: ∃nv,y= .const nv/\((m=0/\nv= .slice none 0 0)\/(m=1/\nv= .pointer none)\/(m=2/\nv= .map none)):=by
  cases y<;>simp only[FI,reduceCtorEq] at hm<;>try (cases hm;done)
  rename_i v;refine⟨v,rfl,?_⟩;unfold Gj at hm;split at hm
  .exact .inl ⟨by omega,rfl⟩
  .exact .inr (.inl ⟨by omega,rfl⟩)
  .exact .inr (.inr ⟨by omega,rfl⟩)
  .omega
  .omega
 obtain⟨nv,Z,ab⟩:=Z;clear hk;rcases ab with ⟨rfl,rfl⟩|⟨rfl,rfl⟩|⟨rfl,rfl⟩<;>cases hf:ti.kind<;>rw[hf] at z<;>try exact z.elim
 .have Q:=Q5 hT hf;simp only[X6] at z;cases hx:Aw tm x<;>rw[hx] at z<;>try exact z.elim
  rename_i d;cases d<;>try exact z.elim
  rename_i nz k rows;cases nz<;>try exact z.elim
  refine fY (u:=[]) ho O Z (.inl rfl) ?_ z;intro C S v hW _ G;rw[hx] at G;simp only[Aa,rd] at G;rcases G with ⟨h0,rfl⟩|⟨b,p,cap,vs,T,fr,rfl,h2,_⟩
  .rw[Qr7 h0];simp[Xt,KV Q 9999]
  .have ad:rows≠[]:=h2 trivial
   have:rows.isEmpty=false:=by cases rows<;>simp_all
   simp[Xt,KV Q 9999,this]
 .have Q:=lG hT hf;simp only[X6] at z;cases hx:Aw tm x<;>rw[hx] at z<;>try exact z.elim
  case im d=>
   cases d<;>try exact z.elim
   .refine fY (u:=[]) ho O Z (.inr (.inl rfl)) ?_ z;intro C S v hW _ G;rw[hx] at G;simp only[Aa,rd] at G;subst G;simp[Xt,Qx1 Q 9999]
   .refine fY (u:=[]) ho O Z (.inr (.inl rfl)) ?_ z;intro C S v hW _ G;rw[hx] at G;simp only[Aa,rd] at G;obtain⟨b,p,vs,T,fr,rfl,_⟩:=G;simp[Xt,Qx1 Q 9999]
  all_goals
   obtain⟨⟨e',he⟩,z⟩:=fZ z;refine fY (b:=false) ho O Z (.inr (.inl rfl)) ?_ (by simpa using z);intro C S v hW aa G;rw[hx] at G;simp only[Aa] at G;obtain⟨l,_,rfl⟩:=G.2 e' ((aa _ (by simp)).trans he);simp[Xt,Qx1 Q 9999]
 .have Q:=nJ hT hf;simp only[X6] at z;cases hx:Aw tm x<;>rw[hx] at z<;>try exact z.elim
  case im d=>
   cases d<;>try exact z.elim
   .refine fY (u:=[]) ho O Z (.inr (.inr rfl)) ?_ z;intro C S v hW _ G;rw[hx] at G;simp only[Aa,rd] at G;subst G;simp[Xt,KU Q 9999]
   .refine fY (u:=[]) ho O Z (.inr (.inr rfl)) ?_ z;intro C S v hW _ G;rw[hx] at G;simp only[Aa,rd] at G;obtain⟨b,p,vs,rfl,_⟩:=G;simp[Xt,KU Q 9999]
  all_goals
   obtain⟨⟨e',he⟩,z⟩:=fZ z;refine fY (b:=false) ho O Z (.inr (.inr rfl)) ?_ (by simpa using z);intro C S v hW aa G;rw[hx] at G;simp only[Aa] at G;obtain⟨l,_,rfl⟩:=G.2 e' ((aa _ (by simp)).trans he);simp[Xt,KU Q 9999]
end
end Go.Ae
