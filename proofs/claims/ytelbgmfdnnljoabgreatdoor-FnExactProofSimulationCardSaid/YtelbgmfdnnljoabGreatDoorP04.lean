/- Lemmas. Conditions: none. -/
import Derived.Test.YtelbgmfdnnljoabGreatDoorP03
import Derived.Laws.BytesArg
set_option linter.all false
set_option maxHeartbeats 8000000
set_option maxRecDepth 100000
namespace Go.Ae
def pA{ok:Nat->Prop}{hp:Nat->Option Obj}: ∀(rows:List (List D)) (O:List Int) (L:List Value),HW rows=some O->rdr ok hp 1 rows L->rows.length=O.length/\L.take O.length=O.map (Value.int .u8)
 |[],O,L,h,_=>by
  simp only[HW,AN] at h;subst h;simp
 |row::r,O,L,h,Z=>by
  unfold HW at h;split at h
  .rename_i z;cases z
  .rename_i n r' z;cases z;simp only[D4] at h;obtain⟨ms,h1,rfl⟩:=h;simp only[rdr,rdp,rd] at Z;obtain⟨_,⟨v,L1,rfl,rfl,_⟩,h3⟩:=Z;obtain⟨e1,Q⟩:=pA r ms _ h1 h3;simp only[LO,GJ] at Q;refine⟨by simp[e1],?_⟩;simp[Q]
  .cases h
section
variable {P:Program}{tm:List (Nat×AV)}{h:Nat->Option Am}{nx:Nat}{o:Oper}{K:Ah}
def Zq{x y:Operand}{c:Call}(ho:o.op= .call c)(O:c.callee= .builtin .max)(z:c.args= #[x,y])(Q:N7 K (Ay tm x) (Ay tm y)):BY P tm h nx o K:=by
 have aa:x∈o.op.operands:=by rw[ho];simp[Op.operands,Call.operands,z,O]
 have ab:y∈o.op.operands:=by rw[ho];simp[Op.operands,Call.operands,z,O]
 cases hx:Ay tm x<;>rw[hx] at Q<;>try exact Q.elim
 rename_i d;cases hy:Ay tm y<;>rw[hy] at Q<;>try (cases d<;>exact Q.elim)
 rename_i d';cases d<;>cases d'<;>try exact Q.elim
 rename_i k a k' b;simp only[N7] at Q;obtain⟨rfl,Q⟩:=Q;refine⟨_,_,BE.pure (u:=[]) ?_,Q⟩;intro C S ac hW _ Z;have h1:=Z x aa;have h2:=Z y ab;rw[hx] at h1;rw[hy] at h2;simp only[Aa,rd] at h1 h2;refine⟨.int k (max a b),?_,by simp only[Aa,rd]⟩;simp only[execOp,ho,resolve,O,z,Sem.run_bind,Sem.run_pure,Result.andThen_ok,invoke,builtin];have e:(if a<b then b else a)=max a b:=by omega
 simp[h1,h2,Builtin.max_,Builtin.max2,e]
def Zr{x y:Operand}{c:Call}(ho:o.op= .call c)(O:c.callee= .builtin .min)(z:c.args= #[x,y])(Q:N8 K (Ay tm x) (Ay tm y)):BY P tm h nx o K:=by
 have aa:x∈o.op.operands:=by rw[ho];simp[Op.operands,Call.operands,z,O]
 have ab:y∈o.op.operands:=by rw[ho];simp[Op.operands,Call.operands,z,O]
 cases hx:Ay tm x<;>rw[hx] at Q<;>try exact Q.elim
 rename_i d;cases hy:Ay tm y<;>rw[hy] at Q<;>try (cases d<;>exact Q.elim)
 rename_i d';cases d<;>cases d'<;>try exact Q.elim
 rename_i k a k' b;simp only[N8] at Q;obtain⟨rfl,Q⟩:=Q;refine⟨_,_,BE.pure (u:=[]) ?_,Q⟩;intro C S ac hW _ Z;have h1:=Z x aa;have h2:=Z y ab;rw[hx] at h1;rw[hy] at h2;simp only[Aa,rd] at h1 h2;refine⟨.int k (min a b),?_,by simp only[Aa,rd]⟩;simp only[execOp,ho,resolve,O,z,Sem.run_bind,Sem.run_pure,Result.andThen_ok,invoke,builtin];have e:(if b<a then b else a)=min a b:=by omega
 simp[h1,h2,Builtin.min_,Builtin.min2,e]
def PY{Z T:TypeId}{x:Operand}(ho:o.op= .convert Z T x)(ht:isStr (QV (tI P T))=true)(z:Jv P h K (Ay tm x) (tI P Z)):BY P tm h nx o K:=by
 cases hT:tI P T with
 |none=>rw[hT] at ht;cases ht
 |some ti=>
 rw[hT] at ht;simp only[QV,isStr] at ht;cases hf:ti.kind<;>rw[hf] at ht<;>simp only[TK.isStr,Df] at ht;have hd:=Rf hT hf;cases hS:tI P Z with
 |none=>rw[hS] at z;exact z.elim
 |some si=>
 rw[hS] at z;simp only[Jv] at z;cases hg:si.kind<;>rw[hg] at z<;>try exact z.elim
 rename_i e;have hs:=Q5 hS hg;simp only[iB] at z;cases hE:tI P e with
 |none=>rw[hE] at z;exact z.elim
 |some te=>
 rw[hE] at z;simp only[QV] at z;cases hke:te.kind<;>rw[hke] at z<;>try exact z.elim
 rename_i ik;cases ik<;>try exact z.elim
 have he:=Vz hE hke;simp only[iA] at z;cases hx:Ay tm x<;>rw[hx] at z<;>try exact z.elim
 rename_i n;simp only[hZ] at z;cases hn:h n with
 |none=>rw[hn] at z;exact z.elim
 |some Q=>
 rw[hn] at z;obtain⟨mu,Q⟩:=Q;cases Q<;>try exact z.elim
 rename_i T' k rows;simp only[Sg] at z;obtain⟨rfl,z⟩:=z;cases hb:HW rows with
 |none=>rw[hb] at z;exact z.elim
 |some ns=>
 rw[hb] at z;simp only[Mf] at z;refine⟨_,_,BE.pure (u:=[n]) ?_,z⟩;intro C S ac hW hu ab;have h1:=ab x (by rw[ho];simp[Op.operands]);rw[hx] at h1;simp only[Aa] at h1;have aa:=(hu n (by simp)).trans hn;have hc:=h1.2 _ aa;have O:=hW.obj _ _ aa;refine⟨.string (H9 ns),?_,by simp only[Aa,rd]⟩;have af:(convert Z T (ac.eval x)).run P S.w= .ok (.string (H9 ns)) S.w:=by
  cases hl:S.ρ n with
  |none=>
   rw[hl] at hc O;simp only[Ao] at O;simp only at hc;obtain rfl:=O.2;simp only[HW,AN] at hb;subst hb;rw[hc,run_convert_bytes_string S.w Z T e none 0 0 hs he hd];simp[Conv.bytesToString,H9];rfl
  |some l=>
   rw[hl] at hc O;simp only[Ao] at O;simp only[Ac.len] at hc;obtain⟨_,g1,vs,g2,g3,g4⟩:=O;obtain⟨e1,e2⟩:=pA rows ns _ hb g4;rw[hc,run_convert_bytes_string S.w Z T e _ _ _ hs he hd];have ad:(loadCells ⟨l.b,l.p,none⟩ rows.length).run P S.w= .ok (ns.map (Value.int .u8)).toArray S.w:=by
    rw[lB (w:=S.w) g2 (by omega),e1,e2]
   rw[run_bytesToString S.w ⟨l.b,l.p,none⟩ rows.length l.cap ns ad,foldl_push_bytes];simp[H9,ByteArray.empty,ByteArray.emptyWithCapacity]
   try rfl
 simp only[execOp,ho,Sem.run_bind,af];simp
def Qa{O T:TypeId}{x:Operand}(Q:o.op= .convert O T x)(z:WF P h (QV (tI P T)) (Ay tm x) K (tI P O)):BY P tm h nx o K:=by
 unfold WF at z;split at z
 .rename_i Z;exact PY Q Z z
 .exact Qwv Q z
end
section
variable {P:Program}{tm:List (Nat×AV)}{h:Nat->Option Am}{nx:Nat}{o:Oper}{K:Ah}
def Qalk{T:TypeId}(h:Tk P T=true): ∃z,P.underlying T=some (.interface z):=by
 unfold Tk at h;split at h
 .rename_i z O;exact⟨z,O⟩
 .cases h
def iH{w:World}{T:TypeId}{Q:Array (String×TypeId)}(z:P.underlying T=some (.interface Q))(d:Nat){v:Value}{b:Bool}(O:v= .nilIface/\b=true\/(∃t x,v= .iface t x)/\b=false):(Op.equalIn (d+1) T v .nilIface).run P w= .ok b w:=by
 rcases O with ⟨rfl,rfl⟩|⟨⟨t,x,rfl⟩,rfl⟩<;>simp[Op.equalIn,run_underlying z]
def Vj{op:BinOp}{T U:TypeId}{x y:Operand}{m:Nat}(ho:o.op= .binOp op T x y U)(hm:FG y=m+4)(hk:WO P T op (Ay tm x) K):BY P tm h nx o K:=by
 obtain⟨hT,hk⟩:=hk;obtain⟨ms,hu⟩:=Qalk hT;have aa:op= .eql\/op= .neq:=by cases op<;>first|exact .inl rfl|exact .inr rfl|exact hk.elim
 have O:Rg (decide (op= .neq)) K (Ay tm x):=by rcases aa with rfl|rfl<;>exact hk
 have hy:y= .const .nilIface:=by
  cases y<;>simp only[FG] at hm<;>try omega
  rename_i v;unfold Gj at hm;split at hm<;>first|omega|rfl
 clear hk;have Q: ∀b:Bool,K (.im (.bool ((decide (op= .neq)) !=b))) {}->(∀(C:Bb) (S:A7) (v:Value),Wf C S->Aa S (Ay tm x) v->v= .nilIface/\b=true\/(∃t x,v= .iface t x)/\b=false)->BY P tm h nx o K:=by
  intro b ad hv;refine⟨_,_,BE.pure (u:=[]) ?_,ad⟩;intro C S a hW _ ab;have h1:=hv C S _ hW (ab x (by rw[ho];simp[Op.operands]));refine⟨.bool (decide (op= .neq) !=b),?_,by simp only[Aa,rd]⟩;have ac:a.eval y= .nilIface:=by rw[hy];rfl
  have hq:(Op.equal T (a.eval x) .nilIface).run P S.w= .ok b S.w:=iH hu 9999 h1;subst hy;have hg:(eqGuard op T x (.const .nilIface) (a.eval x) .nilIface).run P S.w= .ok () S.w:=by
   clear hq;generalize a.eval x=v at h1⊢;rcases h1 with ⟨rfl,_⟩|⟨⟨t,z,rfl⟩,_⟩<;>rcases aa with rfl|rfl<;>simp[eqGuard]
  have hb:(binOp op T (a.eval x) .nilIface).run P S.w= .ok (.bool (decide (op= .neq) !=b)) S.w:=by
   generalize a.eval x=v at h1 hq⊢;rcases aa with rfl|rfl
   .have:binOp .eql T v .nilIface=(do pure (.bool (<-Op.equal T v .nilIface))):=by
     rcases h1 with ⟨rfl,_⟩|⟨⟨t,z,rfl⟩,_⟩<;>rfl
    rw[this];simp[hq]
   .have:binOp .neq T v .nilIface=(do pure (.bool (!(<-Op.equal T v .nilIface)))):=by
     rcases h1 with ⟨rfl,_⟩|⟨⟨t,z,rfl⟩,_⟩<;>rfl
    rw[this];simp[hq]
  simp only[execOp,ho,ac,Sem.run_bind,hg,Result.andThen_ok,hb,Sem.run_pure]
 cases hx:Ay tm x<;>rw[hx] at O<;>try exact O.elim
 rename_i d;cases d<;>try exact O.elim
 .refine Q true O ?_;intro C S v _ Z;rw[hx] at Z;simp only[Aa,rd] at Z;exact .inl ⟨Z,rfl⟩
 .refine Q false O ?_;intro C S v _ Z;rw[hx] at Z;simp only[Aa,rd] at Z;obtain⟨z,hz,_⟩:=Z;exact .inr ⟨⟨_,z,hz⟩,rfl⟩
def Zn{T:TypeId}{x:Operand}(ho:o.op= .makeInterface T x)(z:Vu P T K (Ay tm x)):BY P tm h nx o K:=by
 cases hx:Ay tm x<;>rw[hx] at z<;>try exact z.elim
 rename_i d;obtain⟨Z,z⟩:=z;refine⟨_,_,BE.pure (u:=[]) ?_,z⟩;intro C S a _ _ O;have h1:=O x (by rw[ho];simp[Op.operands]);rw[hx] at h1;simp only[Aa] at h1;refine⟨.iface T (a.eval x),?_,by simp only[Aa,rd];exact⟨_,rfl,h1⟩⟩
 have:(Instr.makeInterface T (a.eval x)).run P S.w= .ok (.iface T (a.eval x)) S.w:=by
  unfold bU at Z;split at Z
  .cases Z
  .rename_i u aa hu;have Q:(underlying T).run P S.w= .ok u S.w:=by simp[underlying,hu]
   unfold Instr.makeInterface;rw[Sem.run_bind,Q];cases u<;>first|rfl|exact (aa _ rfl).elim
  .cases Z
 simp[execOp,ho,this]
def Qaln{T tk te:TypeId}{x:Operand}{kt:KT}{es:List (D×D)}(ho:o.op= .range T x)(hu:P.underlying T=some (.map tk te))(hx:Ay tm x= .im (.mp kt es))
 (hk:K (.it nx) {new:=[(nx,(true,.iter none es))],cnt:=1}):BY P tm h nx o K:=by
 refine⟨_,_,BE.one (u:=[]) (ks:=[]) (.inl ⟨rfl,rfl⟩) ?_,hk⟩;intro C S a hW _ Z hnm ab;have Q:=ab x (by rw[ho];simp[Op.operands]);rw[hx] at Q;simp only[Aa,rd] at Q;obtain⟨b,O,z,hv,g2,aa,g3,g4,g5,g6⟩:=Q;have hg:(getObj b).run P S.w= .ok (.map O z) S.w:=Q4 (w:=S.w) g3;have ac:(underlying T).run P S.w= .ok (.map tk te) S.w:=by simp[underlying,hu]
 refine⟨.pointer (some ⟨S.w.heap.size,0,none⟩),{S.w with heap:=S.w.heap.push (.mapIter (some b) z #[] z)},some ⟨S.w.heap.size,0,0⟩,.inl ?_,VX (w':={S.w with heap:=S.w.heap.push (.mapIter (some b) z #[] z)}) (ob:= .mapIter (some b) z #[] z) rfl rfl rfl rfl (Z rfl) (λn f hf=>hnm n f hf rfl),?_⟩
 .simp only[execOp,ho,hv,Instr.range,Sem.run_bind,ac,Result.andThen_ok,hg,Sem.run_pure];simp
 intro hp;constructor
 .simp only[Ao];obtain⟨p1,p2⟩:=hp.ok b aa;refine⟨_,b,O,z,#[],rfl,p1,trivial,p2.trans g3,aO rfl,g5,g6,?_⟩;have h9:O.toList.filter (λe=> !(#[]:Array Nat).contains e.born)=O.toList:=by
   rw[ZdF];intro e _;simp
  rw[h9];exact LD hp.ok _ _ g4
 .simp only[Aa];exact⟨rfl,λe he=>⟨⟨S.w.heap.size,0,0⟩,by simp[A7.one],rfl⟩⟩
end
def Ii(P:Program)(V:Dn):Prop:=
 (∀(tm:List (Nat×AV)) (h:Nat->Option Am) (nx:Nat) (o:Oper) (c:Call) (f:Operand) (K:Ah),o.op= .call c->c.callee= .value f->
  (∀x,∀m∈(Ay tm x).nms,m<nx)->Re V (DT tm c.args.toList) h nx K (Ay tm f)->BY P tm h nx o K)/\
 ∀(tm:List (Nat×AV)) (h:Nat->Option Am) (nx:Nat) (o:Oper) (c:Call) (r:Operand) (m:String) (K:Ah),o.op= .call c->c.callee= .invoke r m->
  (∀x,∀m∈(Ay tm x).nms,m<nx)->N6 P V (DT tm c.args.toList) h nx K m (Ay tm r)->BY P tm h nx o K
def wJ{tm:List (Nat×AV)}{c:Call}{x:AV}(h:DT tm c.args.toList=[x]): ∃a,c.args= #[a]/\Ay tm a=x:=by
 cases hc:c.args.toList with
 |nil=>rw[hc] at h;cases h
 |cons a r=>
  rw[hc] at h;cases r with
  |nil=>
   simp only[DT,Wl,and_true] at h;exact⟨a,bC.1 (by simpa using hc),h⟩
  |cons b r=>simp[DT] at h
def SH{tm:List (Nat×AV)}{c:Call}{x y:AV}(h:DT tm c.args.toList=[x,y]): ∃a b,c.args= #[a,b]/\Ay tm a=x/\Ay tm b=y:=by
 cases hc:c.args.toList with
 |nil=>rw[hc] at h;cases h
 |cons a r=>
  rw[hc] at h;cases r with
  |nil=>simp[DT] at h
  |cons b r=>
   cases r with
   |nil=>
    simp only[DT,Wl,and_true] at h;exact⟨a,b,bC.1 (by simpa using hc),h.1,h.2⟩
   |cons d r=>simp[DT] at h
section
variable {P:Program}{tm:List (Nat×AV)}{h:Nat->Option Am}{nx:Nat}{o:Oper}{K:Ah}
def Zj{op:BinOp}{T U:TypeId}{x y:Operand}(O:o.op= .binOp op T x y U)(z:aV P T h op (Ay tm x) (Ay tm y) K (FG y)):BY P tm h nx o K:=by
 cases hn:FG y with
 |succ m=>
  rw[hn] at z;cases m with
  |zero=>exact cX O hn (by decide) z
  |succ m=>
   cases m with
   |zero=>exact cX O hn (by decide) z
   |succ m=>
    cases m with
    |zero=>exact cX O hn (by decide) z
    |succ m=>exact Vj (m:=m) O hn z
 |zero=>
  rw[hn] at z;simp only[aV] at z;cases hx:Ay tm x<;>rw[hx] at z<;>try exact z.elim
  rename_i d;cases hy:Ay tm y<;>rw[hy] at z<;>try (cases d<;>exact z.elim)
  rename_i d';cases d<;>cases d'<;>try exact z.elim
  .simp only[gB] at z;exact Vn O hx hy z
  .simp only[gB] at z;cases hT:tI P T with
   |none=>rw[hT] at z;exact z.elim
   |some ti=>
    rw[hT] at z;simp only[N5] at z;exact Zk O (Z1 hT z.1) hx hy z.2
  .exact Zs O hx hy z
  .exact PV O hx hy z
def Qrc{V:Dn}(HV:Ii P V){sq:Bool}(aa: ∀x,∀m∈(Ay tm x).nms,m<nx)(z:step P V sq tm h nx o.type K o.op):X4 P sq tm h nx o K:=by
 have af: ∀x,∀m∈(Ay tm x).nms,m≠nx:=λx m hm=>Nat.ne_of_lt (aa x m hm)
 cases ho:o.op<;>rw[ho] at z<;>try exact z.elim
 case move x=>exact .inl (oU (.inl ho) z)
 case assign x=>exact .inl (Qabd ho z)
 case pick c a b=>exact .inl (Vq ho z)
 case alloc T=>exact .inl (PW ho z)
 case box T x=>exact .inl (Zl ho z (λm hm=>af x m (Qvz _ m hm)))
 case build T ps=>exact .inl (PX ho z)
 case buildSlice T n ps=>exact .inl (Qp8 ho z af)
 case load T x=>exact .inl (Vo ho z)
 case store T x v=>exact .inl (Qi ho z)
 case nilCheck x=>exact .inl (Qvi ho z)
 case binOp op T x y U=>
  simp only[step,L4] at z;split at z
  .rename_i ab;simp only[unS,AY,OH] at ab;exact .inr ⟨ab.1,.inr (Vm ho ab.2.1 z)⟩
  .exact .inl (Zj ho z)
 case slice T x lo hi mx=>
  cases mx<;>try exact z.elim
  exact .inl (Qh ho z)
 case range T x=>exact .inl (Qg (λ_ _ _ _ hu O z=>Qaln ho hu O z) ho z)
 case makeInterface T x=>exact .inl (Zn ho z)
 case next x b=>
  cases b<;>try exact z.elim
  simp only[step] at z;cases sq with
  |false=>exact z.elim
  |true=>exact .inr ⟨rfl,.inr (Vp ho z)⟩
 case entry x=>exact .inl (Qb ho z)
 case makeChan T x=>exact .inl (Qvf ho z)
 case unOp op T x=>exact .inl (Vr ho z)
 case convert S T x=>exact .inl (Qa ho z)
 case makeFunc f first capt=>
  cases f<;>try exact z.elim
  exact .inl (Zm (by simpa using z.1) ho z.2)
 case makeMap T r=>
  cases r<;>try exact z.elim
  exact .inl (Qyk ho z)
 case makeSlice T l c=>exact .inl (Qrx ho z)
 case fieldAddr T x f=>exact .inl (Qsq ho z)
 case indexAddr T x i=>exact .inl (Qsk ho z)
 case index T x i=>exact .inl (Qd ho z)
 case lookup T m k ok=>exact .inl (Qabg ho z)
 case mapUpdate T m k v=>exact .inl (Qr9 (.inl ho) z)
 case insert T m k v=>exact .inl (Qr9 (.inr ho) z)
 case extract x i=>exact .inl (Qyh ho z)
 case field U x f=>exact .inl (Qc ho z)
 case call c=>
  simp only[step] at z;cases hc:c.callee<;>rw[hc] at z<;>try exact z.elim
  case value f=>exact .inl (HV.1 tm h nx o c f K ho hc aa z)
  case invoke r m=>exact .inl (HV.2 tm h nx o c r m K ho hc aa z)
  case builtin b=>
   simp only[tA] at z;unfold Xi at z;split at z
   .rename_i x T O Z;obtain⟨a,Q,ad⟩:=wJ O;have ac:c.argTypes= #[T]:=bC.1 (by simpa using Z);cases x<;>simp only[LI] at z
    case ch q=>exact .inl (Qe ho hc Q ac ad z)
    all_goals first
     |exact z.elim
     |(rw[<-ad] at z;exact Zp ho hc Q ac z)
   .rename_i s x T U O Z;obtain⟨a,b,Q,rfl,rfl⟩:=SH O;exact .inl (Qab5 ho hc Q (bC.1 (by simpa using Z)) z)
   .rename_i m k T ag O Z;obtain⟨a,b,Q,rfl,rfl⟩:=SH O;exact .inl (Qabh ho hc Q Z z)
   .rename_i d s T U O Z;obtain⟨a,b,Q,rfl,rfl⟩:=SH O;exact .inl (Vl ho hc Q (bC.1 (by simpa using Z)) z)
   .rename_i d T O Z;obtain⟨a,Q,rfl⟩:=wJ O;exact .inl (PZ ho hc Q (bC.1 (by simpa using Z)) z)
   .rename_i x y O;obtain⟨a,b,Q,rfl,rfl⟩:=SH O;exact .inl (Zq ho hc Q z)
   .rename_i x y O;obtain⟨a,b,Q,rfl,rfl⟩:=SH O;exact .inl (Zr ho hc Q z)
   .exact z.elim
end
def Rd(P:Program)(ops:Array Oper)(i:Nat)(a:Act)(w:World)(next:Act->World->Prop):Prop:=
 ∀(b:Frame) (k:List Item) (cs:List Frame) (rest:List Nat),∃a' w',next a' w'/\Steps P (lone (b.at a (.inRegion ops (i::rest)::k)) cs w) (lone (b.at a' (.inRegion ops rest::k)) cs w')
def Op.comm:Op->Bool
 | .send _ _| .recv _ _ _=>true
 |_=>false
def Kw(P:Program)(ops:Array Oper)(i:Nat)(a:Act)(w:World)(next:Act->World->Prop):Prop:=
 (∃o,ops[i]? =some o/\Region.wanted o (yielded ops a.tmps)=true/\o.wp P a w next (λ_ _ _=>False))\/((∀o,ops[i]? =some o->Go.Ae.Op.comm o.op=true)/\Rd P ops i a w next)
def LN(P:Program)(ops:Array Oper)(Q:Act->World->Prop):List Nat->Act->World->Prop
 |[],a,w=>Q a w
 |i::z,a,w=>
  match ops[i]? with
  |none=>LN P ops Q z a w
  |some o=>if Region.wanted o (yielded ops a.tmps) then Kw P ops i a w (LN P ops Q z) else LN P ops Q z (a.put o.dst undef) w
section
variable {P:Program}{ops:Array Oper}{i:Nat}{o:Oper}{a:Act}{w:World}{next:Act->World->Prop}
def Qx0(ho:ops[i]? =some o)(hw:Region.wanted o (yielded ops a.tmps)=true)(h:o.wp P a w next (λ_ _ _=>False)):Rd P ops i a w next:=by
 intro b k cs rest;have hg:=stepG_op (P:=P) (b:=b) (a:=a) (k:=k) (cs:=cs) (w:=w) (rest:=rest) ho hw;have z: ∀v,(b.at a (.inRegion ops (i::rest)::k)).finish v=b.at (a.put o.dst v) (.inRegion ops rest::k):=λv=>by
  rw[Frame.finish_at,ho];rfl
 unfold Oper.wp Oper.upon at h;split at h
 .rename_i v Z O;refine⟨_,_,h,.one (step_lone_go ?_)⟩;rw[hg,<-z];simp[stepG.apply,O]
 .rename_i Z O;refine⟨_,_,h,.one (step_lone_go ?_)⟩;rw[hg,<-z];simp[stepG.apply,O]
 .rename_i d Z O;refine⟨_,_,h,.one (step_lone_go ?_)⟩;have h1:({b.at a (.inRegion ops (i::rest)::k) with defers:=d::a.defers}:Frame).finish undef=b.at ({a with defers:=d::a.defers}.put o.dst undef) (.inRegion ops rest::k):=by
   have h2:=Frame.finish_at b {a with defers:=d::a.defers} ops i rest k undef;rw[ho] at h2;exact h2
  rw[hg];simp only[stepG.apply,Sem.runT_eq,O,GStep.bare_after];exact Dy (λfr=>GStep.go {frame:=fr,callers:=cs,status:= .running,dying:=none} Z) h1
 .rename_i f args Z O;obtain⟨e,w2,fr,hR,hs,_,hl⟩:=h (b.at a (.inRegion ops (i::rest)::k)::cs);have Q:_root_.Go.step P (lone (b.at a (.inRegion ops (i::rest)::k)) cs w)= .next (lone (Frame.enter P f args .normal) (b.at a (.inRegion ops (i::rest)::k)::cs) Z):=
   step_lone_go (by rw[hg];simp[stepG.apply,O,Frame.at])
  cases e with
  |returned v=>
   refine⟨_,_,hR,.head Q (hs.trans (.one ?_))⟩;rw[<-z];exact step_leave_returned hl
  |panicked c=>exact hR.elim
  |outgrown=>obtain⟨_,_,hR⟩:=hR;exact hR.elim
 .rename_i row args Z O;obtain⟨v,w2,hR,hs⟩:=h (b.at a (.inRegion ops (i::rest)::k)) cs;have Q:_root_.Go.step P (lone (b.at a (.inRegion ops (i::rest)::k)) cs w)= .next (lone (Frame.ofRow P row args .normal) (b.at a (.inRegion ops (i::rest)::k)::cs) Z):=
   step_lone_go (by rw[hg];simp[stepG.apply,O,Frame.at])
  refine⟨_,_,hR,.head Q ?_⟩;rw[<-z];exact hs
 .exact h.elim
 .exact h.elim
def Qab1(z:ops[i]? =some o)(O:Region.wanted o (yielded ops a.tmps)=true)(h:o.wp P a w next (λ_ _ _=>False)):Kw P ops i a w next:= .inl ⟨o,z,O,h⟩
def Uf(h:Kw P ops i a w next):Rd P ops i a w next:=by
 rcases h with ⟨o,z,O,Q⟩|⟨_,h⟩
 .exact Qx0 z O Q
 .exact h
end
def Qnk{P:Program}{ops:Array Oper}{Q:Act->World->Prop}: ∀(l:List Nat) (a:Act) (w:World),LN P ops Q l a w-> ∀(b:Frame) (k:List Item) (cs:List Frame),
 ∃a' w',Q a' w'/\Steps P (lone (b.at a (.inRegion ops l::k)) cs w) (lone (b.at a' k) cs w')
 |[],a,w,h,b,k,cs=>⟨a,w,h,.one step_region_end⟩
 |i::rest,a,w,h,b,k,cs=>by
  simp only[LN] at h;cases ho:ops[i]? with
  |none=>
   rw[ho] at h;obtain⟨a',w',hq,O⟩:=Qnk rest a w h b k cs;have z:=step_op_skip (P:=P) (b:=b) (a:=a) (k:=k) (cs:=cs) (w:=w) (ops:=ops) (i:=i) (rest:=rest) (by simp[ho]);rw[ho] at z;exact⟨a',w',hq,.head z O⟩
  |some o=>
   rw[ho] at h;simp only at h;split at h
   .obtain⟨a1,w1,z,Z⟩:=Uf h b k cs rest;obtain⟨a',w',hq,O⟩:=Qnk rest a1 w1 z b k cs;exact⟨a',w',hq,Z.trans O⟩
   .rename_i hw;obtain⟨a',w',hq,O⟩:=Qnk rest _ w h b k cs;have z:=step_op_skip (P:=P) (b:=b) (a:=a) (k:=k) (cs:=cs) (w:=w) (ops:=ops) (i:=i) (rest:=rest) (by simp[ho,hw]);rw[ho] at z;exact⟨a',w',hq,.head z O⟩
def PH{P:Program}{id:Nat}{ops:Array Oper}{Q:Exit->Act->World->Prop}{a:Act}{w:World}(h:LN P ops (Q .normal) (List.range ops.size) a w):(Code.region id ops false).wp P Q a w:=by
 intro b k z;obtain⟨a',w',hq,O⟩:=Qnk _ a w h b k z;exact⟨.normal,a',w',hq,.head step_region O⟩
section
variable {P:Program}{ops:Array Oper}{i:Nat}{o:Oper}{a:Act}{w:World}{next:Act->World->Prop}
def Qjg{z:Frame}{cs:List Frame}{w Z:World}{cases:Array CommCase}{O:Bool}{Q:CommShape}{g:Goroutine}
 (h:(stepG P true {frame:=z,callers:=cs,status:= .running,dying:=none} w).bare= .comm g cases O Q Z):
 _root_.Go.step P (lone z cs w)=(communicate P {timers:= #[],alone:=none,slice:=none} #[{(default:Goroutine) with status:= .finished}] 0 g cases O Q Z).1:=by
 generalize hs:stepG P true {frame:=z,callers:=cs,status:= .running,dying:=none} w=s at h;cases s<;>simp at h;obtain⟨rfl,rfl,rfl,rfl,rfl⟩:=h;rw[_root_.Go.step,stepT,move_lone];simp[runT,lone,Array.swapAt!,hs]
def Qon(c:Nat)(s:Bool):partners #[{(default:Goroutine) with status:= .finished}] c s=[]:=by
 simp[partners]
def Qp5{Z:Frame}{cs:List Frame}{w w1:World}{c cap s r:Nat}{O:Array Value}{tm:Bool}{v z:Value}
 (h:(stepG P true {frame:=Z,callers:=cs,status:= .running,dying:=none} w).bare= .comm {frame:=Z,callers:=cs,status:= .running,dying:=none} #[{chan:= .chan (some c),send:=some v,zero:=z}] true .send w1)
 (hc:w1.heap[c]? =some (.chan cap O false s r tm))(Q:O.size<cap):
 _root_.Go.step P (lone Z cs w)= .next (lone (Z.finish undef) cs {w1 with heap:=w1.heap.setIfInBounds c (.chan cap (O.push v) false (s+1) r tm)}):=by
 rw[Qjg h];simp[communicate,ways,hc,Qon,Q,choose,Sem.run,Question.forced,bind,Sem.bind,pure,Goroutine.finishComm,commResult,lone]
def Qp7{Z:Frame}{cs:List Frame}{w w1:World}{c cap s r:Nat}{O:Array Value}{tm cl:Bool}{z:Value}
 (h:(stepG P true {frame:=Z,callers:=cs,status:= .running,dying:=none} w).bare= .comm {frame:=Z,callers:=cs,status:= .running,dying:=none} #[{chan:= .chan (some c),send:=none,zero:=z}] true (.recv false) w1)
 (hc:w1.heap[c]? =some (.chan cap O cl s r tm))(Q:0<O.size):
 _root_.Go.step P (lone Z cs w)= .next (lone (Z.finish (O.getD 0 undef)) cs {w1 with heap:=w1.heap.setIfInBounds c (.chan cap (O.extract 1 O.size) cl s (r+1) tm)}):=by
 rw[Qjg h];simp[communicate,ways,hc,Qon,Q,choose,Sem.run,Question.forced,bind,Sem.bind,pure,Goroutine.finishComm,commResult,lone]
def P5{ch x:Operand}(ho:ops[i]? =some o)(hw:Region.wanted o (yielded ops a.tmps)=true)(ab:o.op= .send ch x){c cap s r:Nat}{O:Array Value}{tm:Bool}(ac:a.eval ch= .chan (some c))
 (hc:w.heap[c]? =some (.chan cap O false s r tm))(Q:O.size<cap)(hn:next (a.put o.dst undef) {w with heap:=w.heap.setIfInBounds c (.chan cap (O.push (a.eval x)) false (s+1) r tm)}):Kw P ops i a w next:=by
 refine .inr ⟨λo' aa=>by rw[ho] at aa;obtain rfl:=AJ aa;rw[ab];rfl,?_⟩;intro b k cs rest;have hg:=stepG_op (P:=P) (b:=b) (a:=a) (k:=k) (cs:=cs) (w:=w) (rest:=rest) ho hw;have Z: ∀v,(b.at a (.inRegion ops (i::rest)::k)).finish v=b.at (a.put o.dst v) (.inRegion ops rest::k):=λv=>by
  rw[Frame.finish_at,ho];rfl
 refine⟨_,_,hn,.one ?_⟩;rw[<-Z];have hr:(execOp a.eval o).run P w= .ok (.comm #[{chan:= .chan (some c),send:=some (a.eval x),zero:= .tuple #[]}] true .send) w:=by
  simp[execOp,ab,ac]
 exact Qp5 (z:= .tuple #[]) (v:=a.eval x) (by rw[hg];simp[stepG.apply,hr,Frame.at]) hc Q
def P4{ch:Operand}{T e:TypeId}{d:ChanDir}{z:Value}(ho:ops[i]? =some o)(hw:Region.wanted o (yielded ops a.tmps)=true)(ab:o.op= .recv T ch false)(hT:P.underlying T=some (.chan d e))(hz:(zeroValue e).run P w= .ok z w)
 {c cap s r:Nat}{O:Array Value}{tm cl:Bool}(ac:a.eval ch= .chan (some c))
 (hc:w.heap[c]? =some (.chan cap O cl s r tm))(Q:0<O.size)(hn:next (a.put o.dst (O.getD 0 undef)) {w with heap:=w.heap.setIfInBounds c (.chan cap (O.extract 1 O.size) cl s (r+1) tm)}):Kw P ops i a w next:=by
 refine .inr ⟨λo' aa=>by rw[ho] at aa;obtain rfl:=AJ aa;rw[ab];rfl,?_⟩;intro b k cs rest;have hg:=stepG_op (P:=P) (b:=b) (a:=a) (k:=k) (cs:=cs) (w:=w) (rest:=rest) ho hw;have Z: ∀v,(b.at a (.inRegion ops (i::rest)::k)).finish v=b.at (a.put o.dst v) (.inRegion ops rest::k):=λv=>by
  rw[Frame.finish_at,ho];rfl
 refine⟨_,_,hn,.one ?_⟩;rw[<-Z];have hu:(underlying T).run P w= .ok (.chan d e) w:=by simp[underlying,hT]
 have hr:(execOp a.eval o).run P w= .ok (.comm #[{chan:= .chan (some c),send:=none,zero:=z}] true (.recv false)) w:=by
  simp[execOp,ab,ac,hu,hz]
 exact Qp7 (z:=z) (by rw[hg];simp[stepG.apply,hr,Frame.at]) hc Q
end
structure CQ(C:Bb)(N:Nat)(s:Az)(S:A7)(a:Act):Prop where
 wf:Wf C S
 h: ∀n,S.h n=hget s.h n
 tm: ∀t,Aa S (AE s.tm t) (a.eval (.tmp t))
 nmT: ∀t,∀m∈(AE s.tm t).nms,m<s.nx
 nmH: ∀n e,hget s.h n=some e->n<s.nx/\ ∀m∈e.2.nms,m<s.nx
 size:a.tmps.size=N
 defers:a.defers=C.ds
 n0:C.n0<=s.nx
 pre:C.Pre S
def Qy2{C:Bb}{S S':A7}{nx cnt:Nat}(h:C.Pre S)(hn:C.n0<=nx)(hp:BP (λm=> ¬Fr nx cnt m) S S'):C.Pre S':=by
 intro o ho e' z;obtain⟨e,h1,h2,h3,h4⟩:=hp.nm o (λhf=>by have:=hf.1;omega) e' z;obtain⟨O,g1,g2,Q,Z⟩:=h o ho e h1;exact⟨O,g1,h2.trans g2,h3.trans Q,h4.trans Z⟩
def BN(C:Bb)(N:Nat)(s:Az)(a:Act)(w:World):Prop:= ∃S,S.w=w/\CQ C N s S a
def oE(S:A7)(tm:List (Nat×AV))(f:FuncId):Aa S (Ay tm (.func f)) (.func (.func f) #[] #[]):=by
 simp only[Ay];cases hb:Nat.blt f 1000000000 with
 |true=>simp only[Cg,Aa,rd,rdl];exact⟨#[],#[],by rw[fX (by simpa using hb)],rfl,rfl⟩
 |false=>simp only[Bk,Aa]
def Ru{C:Bb}{N:Nat}{s:Az}{S:A7}{a:Act}(h:CQ C N s S a)(x:Operand):Aa S (Ay s.tm x) (a.eval x):=by
 cases x with
 |tmp t=>exact h.tm t
 |const v=>exact MB S v
 |global g=>simp only[Ay,Aa,rd,Act.eval]
 |func f=>exact oE S s.tm f
def Mn{tm:List (Nat×AV)}{nx:Nat}(h: ∀t,∀m∈(AE tm t).nms,m<nx)(x:Operand): ∀m∈(Ay tm x).nms,m<nx:=by
 cases x with
 |tmp t=>exact h t
 |const v=>
  intro m z;simp only[Ay] at z;unfold kD at z;split at z<;>simp[AV.nms] at z
 |global g=>intro m z;simp[Ay,AV.nms] at z
 |func f=>intro m z;simp only[Ay] at z;cases hb:Nat.blt f 1000000000<;>rw[hb] at z<;>simp[AV.nms] at z
mutual
def tU{n:Nat}: ∀(x:AV),x.bel n=true-> ∀m∈x.nms,m<n
 | .any,_=>by simp[AV.nms]
 | .im _,_=>by simp[AV.nms]
 | .agg z,h=>by simpa only[AV.nms] using ZW z (by simpa only[AV.bel] using h)
 | .tup z,h=>by simpa only[AV.nms] using ZW z (by simpa only[AV.bel] using h)
 | .ptr o _,h=>by simpa[AV.nms,AV.bel] using h
 | .eptr o _ _,h=>by simpa[AV.nms,AV.bel] using h
 | .own o,h=>by simpa[AV.nms,AV.bel] using h
 | .mp o,h=>by simpa[AV.nms,AV.bel] using h
 | .ch o,h=>by simpa[AV.nms,AV.bel] using h
 | .it o,h=>by simpa[AV.nms,AV.bel] using h
 | .osl o _ _,h=>by simpa[AV.nms,AV.bel] using h
 | .clo _ a c,h=>by
   simp only[AV.bel,AY] at h;simp only[AV.nms,B7];rintro m (O|O)
   .exact ZW a h.1 m O
   .exact ZW c h.2 m O
def ZW{n:Nat}: ∀(xs:List AV),AA n xs=true-> ∀m∈Au xs,m<n
 |[],_=>by simp[Au]
 |x::xs,h=>by
  simp only[AA,AY] at h;simp only[Au,B7];rintro m (z|z)
  .exact tU x h.1 m z
  .exact ZW xs h.2 m z
end
def oN{n:Nat}: ∀(z:List (List AV)),z.all (AA n)=true-> ∀m∈B8 z,m<n
 |[],_=>by simp[B8]
 |r::z,h=>by
  simp only[EZ,AY] at h;simp only[B8,B7];rintro m (O|O)
  .exact ZW r h.1 m O
  .exact oN z h.2 m O
def fL{n:Nat}: ∀(hs:An),Aw n hs=true-> ∀o e,hget hs o=some e-> ∀m∈e.2.nms,m<n
 |[],_,o,e,h=>by simp[hget] at h
 |(q,Z,Q)::hs,z,o,e,h=>by
  have O:(∀m∈Q.nms,m<n)/\Aw n hs=true:=by
   cases Q<;>simp only[Aw,AY] at z
   .exact⟨ZW _ z.1,z.2⟩
   .exact⟨by simp[Ac.nms],z⟩
   .exact⟨oN _ z.1,z.2⟩
   .exact⟨by simp[Ac.nms],z⟩
   .exact⟨by simp[Ac.nms],z⟩
   .exact⟨by simp[Ac.nms],z⟩
   .exact⟨by simp[Ac.nms],z⟩
  simp only[hget] at h;cases hq:q==o<;>rw[hq] at h
  .exact fL hs O.2 o e (by simpa using h)
  .simp only[Cg,AN] at h;subst h;exact O.1
def Qlm{ks:List Nat}{nx cnt:Nat}: ∀(hs:An),HL ks nx cnt hs=true-> ∀o e,hget hs o=some e->(nx<=o/\o<nx+cnt)\/(o∈ks/\o<nx)
 |[],_,o,e,h=>by simp[hget] at h
 |(q,x)::hs,z,o,e,h=>by
  simp only[HL,AY] at z;simp only[hget] at h;cases hq:q==o<;>rw[hq] at h
  .exact Qlm hs z.2 o e (by simpa using h)
  .have O:q=o:=by simpa using hq
   subst O
   have:=z.1
   simp only[K1,HN,AY,FA,Ei,Jr] at this;exact this
def zQ(a b:An)(n:Nat):hget (a++b) n=match hget a n with|some e=>some e|none=>hget b n:=by
 induction a with
 |nil=>rfl
 |cons x a ih=>
  obtain⟨q,e⟩:=x;simp only[BO,hget];cases q==n<;>simp[ih]
def zS(ks:List Nat)(n:Nat): ∀(a:An),hget (AW a ks) n=bif ks.contains n then none else hget a n
 |[]=>by simp[AW,hget]
 |(q,e)::a=>by
  simp only[AW];have ih:=zS ks n a;cases hq:ks.contains q
  .simp only[Bk,hget,ih];cases hqn:q==n
   .simp
   .have:q=n:=by simpa using hqn
    subst this;have z:q∉ks:=by simpa using hq
    simp[z]
  .simp only[Cg,ih,hget];cases hqn:q==n
   .simp
   .have:q=n:=by simpa using hqn
    subst this;have z:q∈ks:=by simpa using hq
    simp[z]
def yF{a:Act}{dst:Option Nat}{v:Value}{t:Nat}(hd: ∀d,dst=some d->d<a.tmps.size):
 (a.put dst v).eval (.tmp t)=if dst=some t then v else a.eval (.tmp t):=by
 cases dst with
 |none=>simp[Act.put]
 |some d=>
  have:=hd d rfl
  simp only[Act.put,Act.eval,Im,gS,AN];by_cases h:d=t
  .subst h;simp[this]
  .simp[h]
def VQ{s:Az}{dst:Option Nat}{x:AV}{t:Nat}:AE (s.put dst x).tm t=if dst=some t then x else AE s.tm t:=by
 cases dst with
 |none=>simp[Az.put]
 |some d=>
  simp only[Az.put,AE,AN];by_cases h:d=t
  .subst h;simp
  .have:(d==t)=false:=by simpa using h
   simp[this,h]
def Qxs{C:Bb}{N:Nat}{s:Az}{S S':A7}{a:Act}{dst:Option Nat}{r:AV}{E:B5}{v:Value}(z:CQ C N s S a)(aa:E.ok s.nx r=true)(hd: ∀d,dst=some d->d<N)
 (hW:Wf C S')(hh:S'.h=E.appf S.h)(hp:BP (λm=> ¬Fr s.nx E.cnt m) S S')(hv:Aa S' r v):CQ C N (s.app dst r E) S' (a.put dst v):=by
 simp only[B5.ok,AY] at aa;obtain⟨af,ag,ah⟩:=aa;have Q: ∀n,hget (E.new++AW s.h E.kill) n=E.appf (hget s.h) n:=by
  intro n;rw[zQ,zS];simp only[B5.appf];cases hget E.new n<;>rfl
 have ad:S.h=hget s.h:=funext z.h;have Z:(s.app dst r E).nx=s.nx+E.cnt:=by cases dst<;>rfl
 have ab:(s.app dst r E).h=E.new++AW s.h E.kill:=by cases dst<;>rfl
 have ac: ∀t,AE (s.app dst r E).tm t=if dst=some t then r else AE s.tm t:=λt=>VQ
 refine⟨hW,?_,?_,?_,?_,?_,?_,?_,Qy2 z.pre z.n0 hp⟩
 .intro n;rw[ab,Q,hh,ad]
 .intro t;rw[ac,yF (λd h=>by rw[z.size];exact hd d h)];split
  .exact hv
  .refine Jg hp _ _ ?_ (z.tm t);intro m hm ai
   have:=z.nmT t m hm
   have:=ai.1
   omega
 .intro t;rw[ac,Z];split
  .exact tU r af
  .intro m hm;have:=z.nmT t m hm;omega
 .intro n e O;rw[ab,zQ] at O;rw[Z];cases hn:hget E.new n with
  |some e'=>
   rw[hn] at O;obtain rfl:=AJ O;refine⟨?_,fL _ ag n _ hn⟩;rcases Qlm _ ah n _ hn with h|h<;>omega
  |none=>
   rw[hn] at O;simp only[zS] at O;cases hk:E.kill.contains n<;>rw[hk] at O
   .obtain⟨h1,h2⟩:=z.nmH n e (by simpa using O);exact⟨by omega,λm hm=>by have:=h2 m hm;omega⟩
   .simp at O
 .cases dst<;>simp[Act.put,z.size]
 .cases dst<;>simp[Act.put,z.defers]
 .rw[Z];exact CS z.n0 (Zee _ _)
def Qty{P:Program}{V:Dn}(HV:Ii P V){C:Bb}{N:Nat}{s:Az}{a:Act}{w:World}{ops:Array Oper}{i:Nat}{o:Oper}{go:Az->Prop}(av:ops[i]? =some o)(hw:Region.wanted o (yielded ops a.tmps)=true)(hd: ∀d,o.dst=some d->d<N)
 (O:JN P V o.dst o.op o.type go s)(Q:BN C N s a w){next:Act->World->Prop}(hn: ∀s' a' w',go s'->BN C N s' a' w'->next a' w'):Kw P ops i a w next:=by
 obtain⟨S,rfl,Q⟩:=Q;have bg:S.h=hget s.h:=funext Q.h;unfold JN at O;have a0:step P V true s.tm (hget s.h) s.nx o.type (D6 go s o.dst) o.op->Kw P ops i a S.w next:=by
  intro O;refine Qab1 av hw ?_;have an: ∀n,s.nx<=n->S.h n=none:=by
   intro n ak;cases hn:S.h n with
   |none=>rfl
   |some e=>
    have:=(Q.nmH n e (by rw[<-Q.h n];exact hn)).1
    omega
  have ao: ∀n e,S.h n=some e-> ∀m∈e.2.nms,m<s.nx:=λn e he m hm=>(Q.nmH n e (by rw[<-Q.h n];exact he)).2 m hm
  rcases Qrc HV (Mn Q.nmT) O with ⟨r,E,aj,af,ah⟩|⟨_,⟨u,ax⟩|bb⟩
  .refine aj C S a next _ Q.wf (λn _=>Q.h n) (λn ak=>an n ak.1) ?_ (λx _=>Ru Q x) ?_
   .intro n e he m hm ak
    have:=ao n e he m hm
    have:=ak.1
    omega
   .intro v S' hW hh hp hv;exact hn _ _ _ ah ⟨S',rfl,Qxs Q af hd hW hh hp hv⟩
  .exact absurd (ax C S a Q.wf (λn _=>Q.h n) (λx _=>Ru Q x)) id
  .refine bb C S a next _ Q.wf Q.h an ao (λx _=>Ru Q x) ?_
   intro r E v S' hK hW hh hp hv;obtain⟨af,ah⟩:=hK;exact hn _ _ _ ah ⟨S',rfl,Qxs Q af hd hW hh hp hv⟩
 have chan: ∀(q cap:Nat) (bu ag:List D) (l:FS) (ab:Array Value) (aa Z:Nat) (r:AV) (v:Value),S.h q=some (true,.chan bu cap)->S.ρ q=some l->rdl S.ok S.hp ag ab.toList->
  (∀S':A7,(∀b,S.ok b->S'.ok b/\S'.hp b=S.hp b)->Aa S' r v)->
  D6 go s o.dst r {use:=[q],kill:=[q],new:=[(q,(true,.chan ag cap))]}->next (a.put o.dst v) {S.w with heap:=S.w.heap.setIfInBounds l.b (.chan cap ab false aa Z false)}:=by
  intro q cap bu ag l ab aa Z r v hS hl hb hv hK
  let w':World:={S.w with heap:=S.w.heap.setIfInBounds l.b (.chan cap ab false aa Z false)}
  have aq:KF S q (.chan ag cap) (some l) [q] w':=fP Q.wf hS hl (w':=w') (ob:= .chan cap ab false aa Z false) rfl rfl rfl rfl rfl rfl;have am:=lH Q.wf aq;have az:Ao (S.one q (.chan ag cap) (some l) [q] w') (some l) (.chan ag cap):=by
   simp only[Ao];exact⟨l,ab,aa,Z,rfl,fZ (Q.wf.loc q _ l hS hl).1 rfl,LF am.ok _ _ hb⟩
  have a8:=uB Q.wf aq az;obtain⟨af,ah⟩:=hK;refine hn _ _ _ ah ⟨_,rfl,Qxs Q af hd a8 ?_ ⟨am.ok,λn hX=>am.nm n (.inl (by rw[hS];simp))⟩ (hv _ am.ok)⟩;funext n;simp only[A7.one,B5.appf,Go.Ae.hget];by_cases aw:n=q
  .subst aw;simp
  .have:(q==n)=false:=by rw[HO];exact λh=>aw h.symm
   simp[this,aw]
 unfold DV at O;split at O
 .rename_i c x aj;unfold L7 at O;split at O
  .rename_i q d au bd;have h1:=Ru Q c;have h2:=Ru Q x;rw[au] at h1;rw[bd] at h2;cases hq:hget s.h q with
   |none=>rw[hq] at O;exact O.elim
   |some ad=>
    obtain⟨mu,ad⟩:=ad;rw[hq] at O;cases mu<;>cases ad<;>try exact O.elim
    rename_i bu cap;simp only[jW] at O;obtain⟨ba,O⟩:=O;have hS:=(Q.h q).trans hq;simp only[Aa] at h1 h2;obtain⟨l,hl,hv⟩:=h1.2 _ hS;have ai:=Q.wf.obj _ _ hS;simp only[Ao] at ai;obtain⟨lc,ac,aa,Z,g1,g2,g3⟩:=ai;rw[hl] at g1;obtain rfl:=AJ g1;have ay:=fO _ _ g3;simp only[Fi] at ay;refine P5 av hw aj hv g2 (by omega) ?_;refine chan q cap bu (bu++[d]) l (ac.push (a.eval x)) (aa+1) Z .any undef hS hl ?_ (λ_ _=>by simp only[Aa]) O;rw[ZdT]
    have: ∀(ds:List D) (vs:List Value),rdl S.ok S.hp ds vs->rdl S.ok S.hp (ds++[d]) (vs++[a.eval x]):=by
     intro ds;induction ds with
     |nil=>intro vs h;simp only[rdl] at h;subst h;simp only[Dg,rdl];exact⟨_,_,rfl,h2,rfl⟩
     |cons y ys ih=>
      intro vs h;simp only[rdl] at h;obtain⟨v,r,rfl,k1,k2⟩:=h;simp only[BO,rdl];exact⟨_,_,rfl,k1,ih r k2⟩
    exact this _ _ g3
  .exact O.elim
 .rename_i T c aj;unfold L6 at O;cases hce:Wd P T with
  |none=>rw[hce] at O;exact O.elim
  |some e=>
  rw[hce] at O;simp only[rvK] at O;cases hE:tI P e with
  |none=>rw[hE] at O;exact O.elim
  |some te=>
  rw[hE] at O;simp only[Bn,rvE] at O;obtain⟨be,hz,O⟩:=O;obtain⟨z,bf,_⟩:=eU hE be hz;obtain⟨dr,hu⟩:=Qpi hce;have h1:=Ru Q c;cases au:Ay s.tm c<;>rw[au] at O h1<;>try exact O.elim
  rename_i q;simp only[rvC] at O;cases hq:hget s.h q with
  |none=>rw[hq] at O;exact O.elim
  |some ad=>
   obtain⟨mu,ad⟩:=ad;rw[hq] at O;cases mu<;>cases ad<;>try exact O.elim
   rename_i bu cap;simp only[jU] at O;obtain⟨a9,O⟩:=O;obtain⟨d,r,rfl⟩:=Zeu a9;have O:=O d r rfl;have hS:=(Q.h q).trans hq;simp only[Aa] at h1;obtain⟨l,hl,hv⟩:=h1.2 _ hS;have ai:=Q.wf.obj _ _ hS;simp only[Ao] at ai;obtain⟨lc,ac,aa,Z,g1,g2,g3⟩:=ai;rw[hl] at g1;obtain rfl:=AJ g1;simp only[rdl] at g3;obtain⟨v0,vr,k1,k2,k3⟩:=g3;have bc:0<ac.size:=by rw[<-Fi,k1];simp
   have h0:ac.getD 0 undef=v0:=by
    have:ac.toList[0]? =some v0:=by rw[k1];rfl
    rw[Im,<-KS,this];rfl
   have hx:(ac.extract 1 ac.size).toList=vr:=by
    rw[Zfd,k1];simp only[List.extract,LO,GJ];apply F9;rw[<-Fi,k1];simp
   refine P4 av hw aj hu (bf _) hv g2 bc ?_;rw[h0];refine chan q cap (d::r) r l _ aa (Z+1) (.im d) v0 hS hl (by rw[hx];exact k3) (λS' af=> ?_) O;simp only[Aa];exact Hm af _ _ k2
 .exact a0 O
def Mi{C:Bb}{N:Nat}{s:Az}{a:Act}{w:World}(z:BN C N s a w){dst:Option Nat}(hd: ∀d,dst=some d->d<N){x:AV}{v:Value}(hx:x.nms=[])(hv: ∀S,Aa S x v):BN C N (s.put dst x) (a.put dst v) w:=by
 obtain⟨S,rfl,z⟩:=z;have Z:(s.put dst x).h=s.h:=by cases dst<;>rfl
 have O:(s.put dst x).nx=s.nx:=by cases dst<;>rfl
 refine⟨S,rfl,z.wf,λn=>by rw[Z];exact z.h n,?_,?_,?_,?_,?_,by rw[O];exact z.n0,z.pre⟩
 .intro t;rw[VQ,yF (λd h=>by rw[z.size];exact hd d h)];split
  .exact hv S
  .exact z.tm t
 .intro t;rw[VQ,O];split
  .rw[hx];intro m hm;cases hm
  .exact z.nmT t
 .intro n e Q;rw[Z] at Q;rw[O];exact z.nmH n e Q
 .cases dst<;>simp[Act.put,z.size]
 .cases dst<;>simp[Act.put,z.defers]
def LM(N:Nat):List Oper->Bool
 |[]=>true
 |o::r=>(match o.dst with|some d=>Nat.blt d N|none=>true) && LM N r
def Qqk{C:Bb}{N:Nat}{s:Az}{S:A7}{a:Act}(Q:CQ C N s S a){ops:Array Oper}{j t:Nat}(Z:(ops[j]?).bind (·.dst)=some t){b:Bool}(O:AE s.tm t= .im (.bool b)):
 yielded ops a.tmps j=some b:=by
 have z:=Q.tm t;rw[O] at z;simp only[Aa,rd,Act.eval] at z;unfold yielded;rw[Z];simp only[Gw];rw[Im] at z;cases hq:a.tmps[t]? with
 |none=>rw[hq] at z;simp[undef] at z
 |some v=>rw[hq] at z;simp at z;rw[z]
def Qpr{P:Program}{V:Dn}(HV:Ii P V){C:Bb}{N:Nat}{ops:Array Oper}{K:Az->Prop}{Q:Exit->Act->World->Prop}(hQ: ∀s a w,K s->BN C N s a w->Q .normal a w):
 ∀(rest more:List Oper) (i:Nat),ops.toList.drop i=rest++more->LM N rest=true-> ∀(s:Az) (a:Act) (w:World),PL P V (Ik ops rest) K s->BN C N s a w->LN P ops (Q .normal) (List.range' i rest.length) a w:=by
 intro rest more;induction rest with
 |nil=>
  intro i _ _ s a w O hc;simp only[Ik,PL] at O;simpa[LN] using hQ s a w O hc
 |cons o rest ih=>
  intro i hi hd s a w O hc;simp only[LM,AY] at hd;have af:ops[i]? =some o:=by
   have:(ops.toList.drop i)[0]? =some o:=by rw[hi];rfl
   simpa using this
  have ak:ops.toList.drop (i+1)=rest++more:=by
   have:(ops.toList.drop i).drop 1=rest++more:=by rw[hi];rfl
   rwa [Es] at this
  have aa: ∀d,o.dst=some d->d<N:=by
   intro d aj
   have:=hd.1
   rw[aj] at this;simpa using this
  have Z: ∀s' a' w',PL P V (Ik ops rest) K s'->BN C N s' a' w'->LN P ops (Q .normal) (List.range' (i+1) rest.length) a' w':=λs' a' w' h1 h2=>ih (i+1) ak hd.2 s' a' w' h1 h2
  simp only[Dx,List.range'_succ,LN,af];simp only[Ik,PL] at O;cases hg:o.guard with
  |none=>
   rw[hg] at O;simp only[gG,xJ] at O;rw[Ai (by simp[Region.wanted,hg])];exact Qty HV af (by simp[Region.wanted,hg]) aa O hc Z
  |some g=>
   obtain⟨j,ab⟩:=g;rw[hg] at O;simp only[gG,xJ] at O;cases ht:(ops[j]?).bind (·.dst) with
   |none=>rw[ht] at O;exact O.elim
   |some t=>
    rw[ht] at O;simp only[Yn] at O;cases hb:AE s.tm t<;>rw[hb] at O<;>try exact O.elim
    rename_i d;cases d<;>try exact O.elim
    case tup cs=>
     cases cs with
     |cons _ _=>exact O.elim
     |nil=>
      simp only[Xm,N4] at O;have hy:yielded ops a.tmps j=none:=by
       obtain⟨S,_,z⟩:=hc;have h1:=z.tm t;rw[hb] at h1;simp only[Aa,rd,rdl,Act.eval] at h1;obtain⟨vs,h1,h2⟩:=h1;unfold yielded;rw[ht];simp only[Gw];rw[Im] at h1;cases hq:a.tmps[t]? with
       |none=>rfl
       |some v=>rw[hq] at h1;simp at h1;rw[h1]
      rw[Af (by simp[Region.wanted,hg,hy])];exact Z _ _ _ O (Mi hc aa rfl (λS=>by simp only[Aa,rd,rdl];exact⟨#[],rfl,rfl⟩))
    case bool b=>
    simp only[Xm] at O;obtain⟨S,ah,z⟩:=hc;have hy:=Qqk z ht hb;have ad: ∀b':Bool,b=b'->BN C N (s.put (some t) (.im (.bool b'))) a w:=by
     intro b' ai;subst ai;refine⟨S,ah,z.wf,z.h,?_,?_,z.nmH,z.size,z.defers,z.n0,z.pre⟩
     .intro t';rw[VQ];split
      .rename_i h;cases h;have:=z.tm t;rwa [hb] at this
      .exact z.tm t'
     .intro t';rw[VQ];split
      .intro m hm;simp[AV.nms] at hm
      .exact z.nmT t'
    by_cases ac:b=ab
    .rw[Ai (by simp[Region.wanted,hg,hy,ac])];exact Qty HV af (by simp[Region.wanted,hg,hy,ac]) aa (O.1 ac) (ad ab ac) Z
    .rw[Af (by simp[Region.wanted,hg,hy,ac])];have ag:b= !ab:=by cases b<;>cases ab<;>simp_all
     have h2:=O.2 ag;simp only[N4] at h2;exact Z _ _ _ h2 (Mi (ad _ ag) aa rfl (λS=>by simp only[Aa,rd,rdl];exact⟨#[],rfl,rfl⟩))
def Qt0{P:Program}{V:Dn}(z:Ii P V){C:Bb}{N id:Nat}{ops:Array Oper}{K:Az->Prop}{Q:Exit->Act->World->Prop}(O: ∀s a w,K s->BN C N s a w->Q .normal a w)
 (hd:LM N ops.toList=true){s:Az}{a:Act}{w:World}(hk:PL P V (Ik ops ops.toList) K s)(Z:BN C N s a w):(Code.region id ops false).wp P Q a w:=by
 refine PH ?_
 have:=Qpr z (ops:=ops) O ops.toList [] 0 (by simp) hd s a w hk Z
 rwa [Fi,<-Zeh] at this
structure Ev where
 i:Nat
 o:Oper
 s:Az
 r:AV
 E:B5
 skip:Bool
def HD(D:Nat->Bool):List Ev->(Nat->Option Am)->(Nat->Option Am)
 |[],h=>h
 |e::r,h=>HD D r (bif D e.i then e.E.appf h else h)
def TD(D:Nat->Bool):List Ev->(Nat->AV)->(Nat->AV)
 |[],f=>f
 |e::r,f=>TD D r (λt=>bif D e.i && (e.o.dst==some t) then e.r else f t)
def Qwh{n:Nat}: ∀(hs:An),n∉Gp hs->hget hs n=none
 |[],_=>rfl
 |(q,e)::hs,h=>by
  simp only[Gp,Br,not_or] at h
  have:(q==n)=false:=by rw[HO];exact λh'=>h.1 h'.symm
  simp only[hget,this,Bk];exact Qwh hs h.2
def Qur{n:Nat}: ∀(hs:An),n∈Gp hs-> ∃e,hget hs n=some e
 |[],h=>by simp[Gp] at h
 |(q,e)::hs,h=>by
  simp only[Gp,Br] at h;simp only[hget];cases hq:q==n
  .have z:q≠n:=by simpa using hq
   rcases h with rfl|h
   .exact absurd rfl z
   .simpa using Qur hs h
  .exact⟨e,by simp⟩
def sX{E:B5}{h:Nat->Option Am}{n:Nat}(hn:n∉E.touch):E.appf h n=h n:=by
 simp only[B5.touch,B7,not_or] at hn;simp[B5.appf,Qwh _ hn.2,hn.1]
def XE{E:B5}{h h':Nat->Option Am}{n:Nat}(hn:n∈E.touch):E.appf h n=E.appf h' n:=by
 simp only[B5.appf];cases hg:hget E.new n with
 |some e=>rfl
 |none=>
  simp only[B5.touch,B7] at hn;rcases hn with hn|hn
  .simp[hn]
  .obtain⟨e,z⟩:=Qur _ hn;rw[z] at hg;cases hg
def Qym{E:B5}{h h':Nat->Option Am}{n:Nat}(z:h n=h' n):E.appf h n=E.appf h' n:=by
 simp only[B5.appf,z]
def lR{D D':Nat->Bool}{n:Nat}: ∀(evs:List Ev) (h h':Nat->Option Am),h n=h' n->(∀e∈evs,D e.i≠D' e.i->n∉e.E.touch)->HD D evs h n=HD D' evs h' n
 |[],_,_,z,_=>z
 |e::r,h,h',z,hd=>by
  simp only[HD];refine lR r _ _ ?_ (λx O=>hd x (by simp[O]));cases h1:D e.i<;>cases h2:D' e.i
  .simpa using z
  .have:=hd e (by simp) (by rw[h1,h2];simp)
   simp only[Bk,Cg];rw[sX this];exact z
  .have:=hd e (by simp) (by rw[h1,h2];simp)
   simp only[Bk,Cg];rw[sX this];exact z
  .simp only[Cg];exact Qym z
def lT{D D':Nat->Bool}{t:Nat}: ∀(evs:List Ev) (f f':Nat->AV),f t=f' t->(∀e∈evs,D e.i≠D' e.i->e.o.dst≠some t)->TD D evs f t=TD D' evs f' t
 |[],_,_,z,_=>z
 |e::r,f,f',z,hd=>by
  simp only[TD];refine lT r _ _ ?_ (λx O=>hd x (by simp[O]));by_cases hq:e.o.dst=some t
  .have:D e.i=D' e.i:=by
    rcases Decidable.em (D e.i=D' e.i) with h|h
    .exact h
    .exact absurd hq (hd e (by simp) h)
   rw[this,z]
  .have:(e.o.dst==some t)=false:=by rw[HO];exact hq
   simp[this,z]
def uJ(D:Nat->Bool): ∀(a b:List Ev) (h:Nat->Option Am),HD D (a++b) h=HD D b (HD D a h)
 |[],_,_=>rfl
 |e::a,b,h=>by simp only[BO,HD];exact uJ D a b _
def uM(D:Nat->Bool): ∀(a b:List Ev) (f:Nat->AV),TD D (a++b) f=TD D b (TD D a f)
 |[],_,_=>rfl
 |e::a,b,f=>by simp only[BO,TD];exact uM D a b _
def Qw6{D:Nat->Bool}: ∀(evs:List Ev) (h:Nat->Option Am) (n:Nat),(∀e∈evs,D e.i=true->n∉e.E.touch)->HD D evs h n=h n
 |[],_,_,_=>rfl
 |e::r,h,n,hd=>by
  simp only[HD];rw[Qw6 r _ n (λx z=>hd x (by simp[z]))];cases h1:D e.i
  .rfl
  .exact sX (hd e (by simp) h1)
def Qyr{D:Nat->Bool}: ∀(evs:List Ev) (f:Nat->AV) (t:Nat),(∀e∈evs,D e.i=true->e.o.dst≠some t)->TD D evs f t=f t
 |[],_,_,_=>rfl
 |e::r,f,t,hd=>by
  simp only[TD];rw[Qyr r _ t (λx z=>hd x (by simp[z]))];cases h1:D e.i
  .rfl
  .have:(e.o.dst==some t)=false:=by rw[HO];exact hd e (by simp) h1
   simp[this]
def Qtn{n:Nat}{x:Am}: ∀(hs:An),hget hs n=some x->n∈Gp hs/\ ∀m∈x.2.nms,m∈JA hs
 |[],h=>by simp[hget] at h
 |(q,mu,ob)::hs,h=>by
  simp only[hget] at h;simp only[Gp,JA,Br,B7];cases hq:q==n<;>rw[hq] at h
  .obtain⟨Q,Z⟩:=Qtn hs (by simpa using h);exact⟨.inr Q,λm z=> .inr (Z m z)⟩
  .have O:q=n:=by simpa using hq
   simp only[Cg,AN] at h;subst h;exact⟨.inl O.symm,λm z=> .inl z⟩
def Kt{D:Nat->Bool}{n:Nat}{x:Am}: ∀(evs:List Ev) (h:Nat->Option Am),HD D evs h n=some x->h n=some x\/ ∃e∈evs,D e.i=true/\hget e.E.new n=some x
 |[],_,O=> .inl O
 |e::r,h,O=>by
  simp only[HD] at O;rcases Kt r _ O with z|⟨f,hf,Q⟩
  .cases hd:D e.i<;>rw[hd] at z
   .exact .inl z
   .simp only[Cg,B5.appf] at z;cases hg:hget e.E.new n with
    |some y=>
     rw[hg] at z;obtain rfl:=AJ z;exact .inr ⟨e,by simp,hd,hg⟩
    |none=>
     rw[hg] at z;cases hk:e.E.kill.contains n<;>rw[hk] at z
     .exact .inl z
     .cases z
  .exact .inr ⟨f,by simp[hf],Q⟩
def RD{D:Nat->Bool}{t:Nat}: ∀(evs:List Ev) (f:Nat->AV),TD D evs f t=f t\/ ∃e∈evs,D e.i=true/\TD D evs f t=e.r
 |[],_=> .inl rfl
 |e::r,f=>by
  simp only[TD];rcases RD r (λt=>bif D e.i && (e.o.dst==some t) then e.r else f t) with z|⟨x,Q,O⟩
  .rw[z];cases hd:D e.i
   .exact .inl rfl
   .cases hq:e.o.dst==some t
    .exact .inl rfl
    .exact .inr ⟨e,by simp,hd,rfl⟩
  .exact .inr ⟨x,by simp[Q],O⟩
structure uU(e f:Ev):Prop where
 a: ∀n,n∈f.E.use++f.E.kill->n∉e.E.touch
 b: ∀n,n∈f.E.touch->n∉e.E.touch
 c: ∀n,n∈f.E.touch->n∉e.E.use++e.E.kill
 d: ∀n,n∈f.E.touch++(f.r.nms++JA f.E.new)-> ¬Fr e.s.nx e.E.cnt n
def Qlq: ∀(l k:List Nat),Gs l k=true-> ∀n∈l,n∉k
 |[],_,_,n,hn=>by cases hn
 |x::l,k,h,n,hn=>by
  simp only[Gs,AY,QJ] at h;rcases Br.1 hn with rfl|hn
  .intro z
   have:=h.1
   rw[Jr.2 z] at this;cases this
  .exact Qlq l k h.2 n hn
def Qtw{nx cnt:Nat}: ∀(l:List Nat),EU nx cnt l=true-> ∀n∈l,¬Fr nx cnt n
 |[],_,n,hn=>by cases hn
 |x::l,h,n,hn=>by
  simp only[EU,AY,HN,Ei,FA] at h;rcases Br.1 hn with rfl|hn
  .intro hf
   have:=hf.1
   have:=hf.2
   omega
  .exact Qtw l h.2 n hn
def Wz(ops:Array Oper)(s:Az)(skip:Bool):Option (Nat×Bool)->Prop
 |none=>skip=false
 |some (g,z)=> ∃t,(ops[g]?).bind (·.dst)=some t/\((∃b,AE s.tm t= .im (.bool b)/\skip=(b !=z))\/(AE s.tm t= .im (.tup [])/\skip=true))
structure nS(P:Program)(ops:Array Oper)(e:Ev):Prop where
 op:ops[e.i]? =some e.o
 gd:Wz ops e.s e.skip e.o.guard
 doo:e.skip=false->BE P e.s.tm (hget e.s.h) e.s.nx e.o e.r e.E/\e.E.ok e.s.nx e.r=true
 skp:e.skip=true->e.r= .im (.tup [])/\e.E={}
abbrev OM:Nat->Bool:=λ_=>true
def Ko(j:Nat):Nat->Bool:=λi=>Nat.blt i j
def J7{i j:Nat}(h:Ko j i=true):i<j:=by simpa[Ko] using h
structure GT(P:Program)(ops:Array Oper)(cl:List (List Nat))(s0:Az)(evs:List Ev)(s:Az)(acc:List Fp):Prop where
 idx: ∀(k:Nat) (e:Ev),evs[k]? =some e->e.i=k
 tm: ∀t,AE s.tm t=TD OM evs (AE s0.tm) t
 h: ∀n,hget s.h n=HD OM evs (hget s0.h) n
 nx:s0.nx<=s.nx
 ev: ∀e∈evs,nS P ops e/\s0.nx<=e.s.nx/\e.s.nx+e.E.cnt<=s.nx
 atT: ∀e∈evs,∀t,AE e.s.tm t=TD (Ko e.i) evs (AE s0.tm) t
 atH: ∀e∈evs,∀n,hget e.s.h n=HD (Ko e.i) evs (hget s0.h) n
 ord: ∀e∈evs,∀f∈evs,e.i<f.i->e.s.nx+e.E.cnt<=f.s.nx
 pair: ∀e∈evs,∀f∈evs,e.i<f.i->Ed cl e.i f.i=true\/uU e f
 acc: ∀e∈evs,e.skip=true\/(⟨e.i,e.E.use++e.E.kill,e.E.touch,e.s.nx,e.E.cnt⟩:Fp)∈acc
 nmT: ∀t,∀m∈(AE s.tm t).nms,m<s.nx
section
variable {P:Program}{ops:Array Oper}{cl:List (List Nat)}{s0 s:Az}{evs:List Ev}{acc:List Fp}
def GT.lt(g:GT P ops cl s0 evs s acc): ∀e∈evs,e.i<evs.length:=by
 intro e O;obtain⟨k,Q,z⟩:=gN.1 O
 have:=g.idx k e (by rw[BA Q,z])
 omega
def GT.nil(h: ∀t,∀m∈(AE s0.tm t).nms,m<s0.nx):GT P ops cl s0 [] s0 []:=by
 refine⟨by simp,λt=>rfl,λn=>rfl,AU _,by simp,by simp,by simp,by simp,by simp,by simp,h⟩
def GT.snoc(g:GT P ops cl s0 evs s acc)(e:Ev)(hi:e.i=evs.length)(ao:nS P ops e)(hs: ∀t,AE e.s.tm t=AE s.tm t)(hh: ∀n,hget e.s.h n=hget s.h n)(av:e.s.nx=s.nx)
 (ai: ∀f∈evs,Ed cl f.i e.i=true\/uU f e){s':Az}{O:List Fp}(am: ∀t,AE s'.tm t=if e.o.dst=some t then e.r else AE s.tm t)
 (an: ∀n,hget s'.h n=e.E.appf (hget s.h) n)(aq:s'.nx=s.nx+e.E.cnt)(ak: ∀f∈acc,f∈O)(ag:e.skip=true\/(⟨e.i,e.E.use++e.E.kill,e.E.touch,e.s.nx,e.E.cnt⟩:Fp)∈O)
 (hr: ∀m∈e.r.nms,m<s'.nx):GT P ops cl s0 (evs++[e]) s' O:=by
 have Q: ∀f∈evs,f.i<e.i:=λf hf=>by rw[hi];exact g.lt f hf
 have af: ∀t,TD (Ko e.i) evs (AE s0.tm) t=AE s.tm t:=by
  intro t;rw[g.tm t];refine lT evs _ _ rfl ?_;intro f hf ah;exact absurd (by simp[Ko,Q f hf]) ah
 have ad: ∀n,HD (Ko e.i) evs (hget s0.h) n=hget s.h n:=by
  intro n;rw[g.h n];refine lR evs _ _ rfl ?_;intro f hf ah;exact absurd (by simp[Ko,Q f hf]) ah
 have ac: ∀f∈evs,Ko f.i e.i=false:=by
  intro f hf
  have:=Q f hf
  rw[LR];intro h
  have:=J7 h
  omega
 have Z:Ko e.i e.i=false:=by
  rw[LR];intro h
  have:=J7 h
  omega
 have z: ∀f,f∈evs++[e]->f∈evs\/f=e:=by intro f hf;simpa using hf
 refine⟨?_,?_,?_,?_,?_,?_,?_,?_,?_,?_,?_⟩
 .intro k f hk;rcases vM k evs.length with h|h|h
  .rw[Io h] at hk;exact g.idx k f hk
  .subst h;rw[Kc (AU _)] at hk;simp at hk;subst hk;exact hi
  .rw[Kc (by omega)] at hk
   have:(k - evs.length)≠0:=by omega
   cases hq:k - evs.length with
   |zero=>omega
   |succ q=>rw[hq] at hk;simp at hk
 .intro t;rw[am,uM];simp only[TD,OM,EL];by_cases hq:e.o.dst=some t
  .simp[hq]
  .have:(e.o.dst==some t)=false:=by rw[HO];exact hq
   rw[Af hq,this];exact g.tm t
 .intro n;rw[an,uJ];simp only[HD,OM,Cg];exact Qym (g.h n)
 .have:=g.nx;omega
 .intro f hf;have au:=g.nx;rcases z f hf with hf|rfl
  .obtain⟨h1,h2,h3⟩:=g.ev f hf;exact⟨h1,h2,by omega⟩
  .exact⟨ao,by omega,by omega⟩
 .intro f hf t;rw[uM];rcases z f hf with hf|rfl
  .simp only[TD,ac f hf,Gu,Bk];exact g.atT f hf t
  .simp only[TD,Z,Gu,Bk];rw[af,hs]
 .intro f hf n;rw[uJ];rcases z f hf with hf|rfl
  .simp only[HD,ac f hf,Bk];exact g.atH f hf n
  .simp only[HD,Z,Bk];rw[ad,hh]
 .intro x hx y hy aj;rcases z x hx with aa|rfl<;>rcases z y hy with ab|rfl
  .exact g.ord x aa y ab aj
  .have:=(g.ev x aa).2.2;omega
  .have:=Q y ab;omega
  .omega
 .intro x hx y hy aj;rcases z x hx with aa|rfl<;>rcases z y hy with ab|rfl
  .exact g.pair x aa y ab aj
  .exact ai x aa
  .have:=Q y ab;omega
  .omega
 .intro f hf;rcases z f hf with hf|rfl
  .rcases g.acc f hf with h|h
   .exact .inl h
   .exact .inr (ak _ h)
  .exact ag
 .intro t m hm;rw[am] at hm;split at hm
  .exact hr m hm
  .have:=g.nmT t m hm;omega
def Qrd{j:Nat}{use touch z:List Nat}: ∀(acc:List Fp),FT cl j use touch z acc=true-> ∀f∈acc,bO cl j use touch z f=true
 |[],_,f,hf=>by cases hf
 |x::acc,h,f,hf=>by
  simp only[FT,AY] at h;rcases Br.1 hf with rfl|hf
  .exact h.1
  .exact Qrd acc h.2 f hf
def Qq{V:Dn}(HV:Ii P V){K:Az->Prop}: ∀(rest:List Oper) (i:Nat) (acc:List Fp) (s:Az) (evs:List Ev),ops.toList.drop i=rest->evs.length=i->
 GT P ops cl s0 evs s acc->Ww P V cl (Ik ops rest) i K acc s-> ∃z s' O,z.length=i+rest.length/\GT P ops cl s0 z s' O/\K s':=by
 intro rest;induction rest with
 |nil=>intro i acc s evs _ hl g Z;exact⟨evs,s,acc,by simpa using hl,g,Z⟩
 |cons o rest ih=>
  intro i acc s evs hi hl g Z;have ao:ops[i]? =some o:=by
   have:(ops.toList.drop i)[0]? =some o:=by rw[hi];rfl
   simpa using this
  have an:ops.toList.drop (i+1)=rest:=by
   have:(ops.toList.drop i).drop 1=rest:=by rw[hi];rfl
   rwa [Es] at this
  have ak: ∀s1:Az,(∀t,AE s1.tm t=AE s.tm t)->s1.h=s.h->s1.nx=s.nx->Wz ops s1 false o.guard->N9 P V cl i acc o.dst o.op o.type (Ww P V cl (Ik ops rest) (i+1) K) s1->
   ∃z s' O,z.length=i+(rest.length+1)/\GT P ops cl s0 z s' O/\K s':=by
   intro s1 ht hh ab ah af;have hnm: ∀x,∀m∈(Ay s1.tm x).nms,m<s1.nx:=Mn (λt m hm=>by rw[ht] at hm;rw[ab];exact g.nmT t m hm);rcases Qrc HV hnm af with ⟨r,E,ax,aq,av,aw⟩|⟨h,_⟩
   .have aj:=Qrd acc av;have af:(s1.app o.dst r E).nx=s1.nx+E.cnt:=by cases o.dst<;>rfl
    have hb:=aq;simp only[B5.ok,AY] at hb;have g':GT P ops cl s0 (evs++[⟨i,o,s1,r,E,false⟩]) (s1.app o.dst r E) (⟨i,E.use++E.kill,E.touch,s1.nx,E.cnt⟩::acc):=by
     refine g.snoc ⟨i,o,s1,r,E,false⟩ hl.symm ⟨ao,ah,λ_=>⟨ax,aq⟩,λh=>by cases h⟩ ht (λn=>by rw[hh]) ab ?_ (λt=> ?_) (λn=> ?_) (by rw[af,ab]) (λf hf=>by simp[hf]) (.inr (by simp)) ?_
     .intro f hf;rcases g.acc f hf with hs|ha
      .obtain⟨h1,h2⟩:=((g.ev f hf).1).skp hs;refine .inr ⟨?_,?_,?_,?_⟩<;>rw[h2]
       .intro n _;simp[B5.touch,Gp]
       .intro n _;simp[B5.touch,Gp]
       .intro n _;simp
       .intro n _ am
        have:=am.1
        have:=am.2
        simp only at this;omega
      .have h:=aj _ ha;unfold bO at h;rw[ZeL] at h;split at h
       .rename_i hx;simp only[AY] at hx;obtain⟨h1,h2,h3⟩:=hx;have ai:=Qlq _ _ h1;exact .inr ⟨λn hn=>ai n (by simp only[B7] at hn⊢;exact .inl hn),λn hn=>ai n (RF _ hn),Qlq _ _ h2,Qtw _ h3⟩
       .exact .inl h
     .have:AE (s1.app o.dst r E).tm t=if o.dst=some t then r else AE s1.tm t:=VQ
      rw[this,ht]
     .have:(s1.app o.dst r E).h=E.new++AW s1.h E.kill:=by cases o.dst<;>rfl
      rw[this,zQ,zS,hh];simp only[B5.appf];cases hget E.new n<;>rfl
     .rw[af];exact tU r hb.1
    obtain⟨z,s',O,h1,h2,h3⟩:=ih (i+1) _ _ _ an (by simp[hl]) g' aw;exact⟨z,s',O,by omega,h2,h3⟩
   .cases h
  simp only[Ik,Ww] at Z;simp only[Dx];cases hg:o.guard with
  |none=>
   rw[hg] at Z;simp only[gG,xI] at Z;exact ak s (λ_=>rfl) rfl rfl (by rw[hg];rfl) Z
  |some gw=>
   obtain⟨j,Q⟩:=gw;rw[hg] at Z;simp only[gG,xI] at Z;cases ht:(ops[j]?).bind (·.dst) with
   |none=>rw[ht] at Z;exact Z.elim
   |some t=>
    rw[ht] at Z;simp only[Ym] at Z;cases hb:AE s.tm t<;>rw[hb] at Z<;>try exact Z.elim
    rename_i d;have ac: ∀s2:Az,(∀t',AE s2.tm t'=AE s.tm t')->s2.h=s.h->s2.nx=s.nx->Wz ops s true o.guard->Ww P V cl (Ik ops rest) (i+1) K acc (s2.put o.dst (.im (.tup [])))->
     ∃z s' O,z.length=i+(rest.length+1)/\GT P ops cl s0 z s' O/\K s':=by
     intro s2 aa hh ab ah h2;have g':GT P ops cl s0 (evs++[⟨i,o,s,.im (.tup []),{},true⟩]) (s2.put o.dst (.im (.tup []))) acc:=by
      refine g.snoc ⟨i,o,s,.im (.tup []),{},true⟩ hl.symm ⟨ao,ah,(λh=>by cases h),(λ_=>⟨rfl,rfl⟩)⟩ (λ_=>rfl) (λ_=>rfl) rfl ?_ (λt'=> ?_) (λn=> ?_) ?_ (λf hf=>hf) (.inl rfl) ?_
      .intro f hf;refine .inr ⟨?_,?_,?_,?_⟩<;>simp[B5.touch,Gp,AV.nms,JA]
      .rw[VQ,aa]
      .have:(s2.put o.dst (.im (.tup []))).h=s2.h:=by cases o.dst<;>rfl
       rw[this,hh];simp[B5.appf,hget]
      .have:(s2.put o.dst (.im (.tup []))).nx=s2.nx:=by cases o.dst<;>rfl
       rw[this,ab];rfl
      .intro m hm;simp[AV.nms] at hm
     obtain⟨z,s',O,h1,h2,h3⟩:=ih (i+1) _ _ _ an (by simp[hl]) g' h2;exact⟨z,s',O,by omega,h2,h3⟩
    cases d<;>try exact Z.elim
    case tup cs=>
     cases cs with
     |cons _ _=>exact Z.elim
     |nil=>
      simp only[Xm,N3] at Z;exact ac s (λ_=>rfl) rfl rfl (by rw[hg];exact⟨t,ht,.inr ⟨hb,rfl⟩⟩) Z
    case bool b=>
    simp only[Xm] at Z;have aa: ∀b':Bool,b=b'-> ∀t',AE (s.put (some t) (.im (.bool b'))).tm t'=AE s.tm t':=by
     intro b' au t';subst au;rw[VQ];split
     .rename_i h;cases h;exact hb.symm
     .rfl
    by_cases ad:b=Q
    .refine ak (s.put (some t) (.im (.bool Q))) (aa Q ad) rfl rfl ?_ (Z.1 ad);rw[hg];exact⟨t,ht,.inl ⟨b,by rw[aa Q ad,hb],by simp[ad]⟩⟩
    .have ag:b= !Q:=by cases b<;>cases Q<;>simp_all
     have h2:=Z.2 ag;simp only[N3] at h2;refine ac (s.put (some t) (.im (.bool (!Q)))) (aa _ ag) rfl rfl ?_ h2;rw[hg];exact⟨t,ht,.inl ⟨b,hb,by simp[ag]⟩⟩
end
def Zt(ops:Array Oper)(cl:List (List Nat)):List Oper->Nat->List (Nat×Oper)->Bool
 |[],_,_=>true
 |o::r,j,acc=>(o.after.toList.all λe=> !IP e.ground||Nat.blt e.on j) && (acc.all (λp=>Ed cl p.1 j||p.2.apart ops o) && Zt ops cl r (j+1) ((j,o)::acc))
def stOk(ops:Array Oper):Bool:=Zt ops (Fh ops.toList []) ops.toList 0 []
def Qup(e:Edge):Region.binds .any e=IP e.ground:=by
 unfold Region.binds;cases e.ground<;>rfl
structure X5(ops:Array Oper)(cl:List (List Nat)):Prop where
 lo: ∀(j:Nat) (o:Oper),ops[j]? =some o-> ∀e∈o.after.toList,IP e.ground=true->e.on<j
 ap: ∀(i j:Nat) (x y:Oper),i<j->ops[i]? =some x->ops[j]? =some y->Ed cl i j=true\/x.apart ops y=true
def Qk{ops:Array Oper}{cl:List (List Nat)}: ∀(rest:List Oper) (j:Nat) (acc:List (Nat×Oper)),ops.toList.drop j=rest->(∀i x,i<j->ops[i]? =some x->(i,x)∈acc)->Zt ops cl rest j acc=true->
 (∀(k:Nat) (o:Oper),j<=k->ops[k]? =some o-> ∀e∈o.after.toList,IP e.ground=true->e.on<k)/\
 (∀(i k:Nat) (x y:Oper),j<=k->i<k->ops[i]? =some x->ops[k]? =some y->Ed cl i k=true\/x.apart ops y=true):=by
 intro rest;induction rest with
 |nil=>
  intro j acc hd _ _;have hs:ops.size<=j:=by
   have:=Dy List.length hd
   simp at this;omega
  refine⟨λk o hk ho=> ?_,λi k x y hk _ _ hy=> ?_⟩
  .have:=(RE.1 ho).1;omega
  .have:=(RE.1 hy).1;omega
 |cons o rest ih=>
  intro j acc hd z hs;have O:ops[j]? =some o:=by
   have:(ops.toList.drop j)[0]? =some o:=by rw[hd];rfl
   simpa using this
  have aa:ops.toList.drop (j+1)=rest:=by
   have:(ops.toList.drop j).drop 1=rest:=by rw[hd];rfl
   rwa [Es] at this
  simp only[Zt,AY,CR,HN,QJ,Ei] at hs;obtain⟨h1,h2,h3⟩:=hs;obtain⟨r1,r2⟩:=ih (j+1) ((j,o)::acc) aa (by
   intro i x hi Q;rcases Gd i j with h|h
   .exact BQ _ (z i x h Q)
   .have:i=j:=by omega
    subst this;rw[O] at Q;cases Q;exact BU) h3
  refine⟨λk p hk hp=> ?_,λi k x y hk Z Q hy=> ?_⟩
  .rcases Gd j k with h|h
   .exact r1 k p h hp
   .have:k=j:=by omega
    subst this;rw[O] at hp;cases hp;intro e he hb;rcases h1 e he with h|h
    .rw[h] at hb;cases hb
    .exact h
  .rcases Gd j k with h|h
   .exact r2 i k x y h Z Q hy
   .have:k=j:=by omega
    subst this;rw[O] at hy;cases hy;exact h2 (i,x) (z i x Z Q)
def Ql{ops:Array Oper}(h:stOk ops=true):X5 ops (Fh ops.toList []):=by
 obtain⟨O,Q⟩:=Qk (cl:=Fh ops.toList []) ops.toList 0 [] rfl (by intro i x hi;omega) h;exact⟨λj o Z=>O j o (C5 _) Z,λi j x y z hx hy=>Q i j x y (C5 _) z hx hy⟩
def TT(a b:List (List Nat)): ∀(k:Nat),k<a.length->DQ (a++b) k=DQ a k:=by
 induction a with
 |nil=>intro k z;simp at z
 |cons x a ih=>
  intro k z;cases k with
  |zero=>rfl
  |succ k=>exact ih k (by simpa using z)
def YD(a:List (List Nat))(x:List Nat)(b:List (List Nat)):DQ (a++x::b) a.length=x:=by
 induction a with
 |nil=>rfl
 |cons y a ih=>exact ih
def oV: ∀(a:List (List Nat)) (k:Nat),a.length<=k->DQ a k=[]
 |[],_,_=>rfl
 |_::a,0,h=>by simp at h
 |_::a,k+1,h=>oV a k (by simpa using h)
def Qnq: ∀(rest:List Oper) (acc:List (List Nat)) (k:Nat),k<acc.length->DQ (Fh rest acc) k=DQ acc k
 |[],_,_,_=>rfl
 |o::r,acc,k,h=>by
  simp only[Fh];rw[Qnq r _ k (by simp;omega),TT _ _ _ h]
def Qy4: ∀(rest:List Oper) (acc:List (List Nat)) (k:Nat) (o:Oper),rest[k]? =some o-> ∃z:List (List Nat),z.length=acc.length+k/\(∀m,m<z.length->DQ z m=DQ (Fh rest acc) m)/\
 DQ (Fh rest acc) (acc.length+k)=Hw z o.after.toList
 |[],_,k,o,h=>by simp at h
 |x::r,acc,0,o,h=>by
  obtain rfl:x=o:=by simpa using h
  refine⟨acc,rfl,λm hm=>(Qnq _ _ m hm).symm,?_⟩;simp only[Fh,Gc];rw[Qnq _ _ _ (by simp),YD]
 |x::r,acc,k+1,o,h=>by
  obtain⟨z,Q,Z,O⟩:=Qy4 r (acc++[Hw acc x.after.toList]) k o (by simpa using h);simp only[Ez,Dx,Ip] at Q O;refine⟨z,by omega,Z,?_⟩;simp only[Fh];rw[<-O];congr 1;omega
def Yt{x y:Nat}{l:List Nat}(h:y∈ins x l):y=x\/y∈l:=by
 unfold ins at h;cases hc:l.contains x<;>rw[hc] at h
 .simpa using h
 .exact .inr (by simpa using h)
def Qzy{y:Nat}: ∀(a l:List Nat),y∈Tj a l->y∈a\/y∈l
 |[],_,h=> .inr h
 |x::r,l,h=>by
  rcases Yt h with h|h
  .exact .inl (by simp[h])
  .rcases Qzy r l h with h|h
   .exact .inl (by simp[h])
   .exact .inr h
def Qsb{acc:List (List Nat)}{i:Nat}: ∀(es:List Edge),i∈Hw acc es-> ∃e∈es,IP e.ground=true/\(i=e.on\/i∈DQ acc e.on)
 |[],h=>by simp[Hw] at h
 |e::r,h=>by
  simp only[Hw] at h;cases hb:IP e.ground<;>rw[hb] at h
  .obtain⟨x,O,z⟩:=Qsb r h;exact⟨x,by simp[O],z⟩
  .simp only[Cg] at h;have h:=Qzy _ _ h;simp only[Br,or_assoc] at h;rcases h with h|h|h
   .exact⟨e,by simp,hb,.inl h⟩
   .exact⟨e,by simp,hb,.inr h⟩
   .obtain⟨x,O,z⟩:=Qsb r h;exact⟨x,by simp[O],z⟩
def XP{ops:Array Oper}{i j:Nat}{o:Oper}(ho:ops[j]? =some o)(h:i∈DQ (Fh ops.toList []) j):
 ∃e∈o.after.toList,IP e.ground=true/\(i=e.on\/(e.on<j/\i∈DQ (Fh ops.toList []) e.on)):=by
 obtain⟨O,h1,h2,Z⟩:=Qy4 ops.toList [] j o (by simpa using ho);simp only[Ip,FN] at h1 Z;rw[Z] at h;obtain⟨e,he,hb,z⟩:=Qsb _ h;refine⟨e,he,hb,?_⟩;rcases z with z|z
 .exact .inl z
 .rcases Gd e.on O.length with Q|Q
  .exact .inr ⟨by omega,by rw[<-h2 _ Q];exact z⟩
  .rw[oV _ _ Q] at z;cases z
def Kr(ops:Array Oper)(D:Nat->Bool):Prop:= ∀(j:Nat) (o:Oper),D j=true->ops[j]? =some o-> ∀e∈o.after.toList,IP e.ground=true->D e.on=true
def Qqg{ops:Array Oper}{D:Nat->Bool}(hc:Kr ops D){i j:Nat}{o:Oper}(Z:ops[j]? =some o)(hr: ∀e∈o.after.toList,IP e.ground=true->D e.on=true)
 (h:Ed (Fh ops.toList []) i j=true):D i=true:=by
 have hi:i∈DQ (Fh ops.toList []) j:=by simpa[Ed] using h
 clear h;induction j using Nat.strongRecOn generalizing o with
 |_ j ih=>
  obtain⟨e,Q,O,h|⟨h,h2⟩⟩:=XP Z hi
  .rw[h];exact hr e Q O
  .have aa:=(RE.1 Z).1;have z:ops[e.on]? =some ops[e.on]:=QI (by omega);exact ih e.on h z (hc e.on _ (hr e Q O) z) h2
structure kX(C:Bb)(N:Nat)(evs:List Ev)(s0:Az)(D:Nat->Bool)(S:A7)(a:Act):Prop where
 wf:Wf C S
 h: ∀n,S.h n=HD D evs (hget s0.h) n
 tm: ∀t,Aa S (TD D evs (AE s0.tm) t) (a.eval (.tmp t))
 size:a.tmps.size=N
 defers:a.defers=C.ds
 n0:C.n0<=s0.nx
 pre:C.Pre S
section
variable {P:Program}{ops:Array Oper}{s0 s:Az}{evs:List Ev}{acc:List Fp}{C:Bb}{N:Nat}
def Qzx{E:B5}{nx:Nat}{r:AV}(z:E.ok nx r=true):(∀m∈r.nms,m<nx+E.cnt)/\(∀n x,hget E.new n=some x->(Fr nx E.cnt n\/(n∈E.kill/\n<nx))/\ ∀m∈x.2.nms,m<nx+E.cnt):=by
 simp only[B5.ok,AY] at z;obtain⟨Q,Z,h3⟩:=z;exact⟨tU r Q,λn x O=>⟨Qlm _ h3 n x O,fL _ Z n x O⟩⟩
def XG(g:GT P ops (Fh ops.toList []) s0 evs s acc)(bj: ∀n e,hget s0.h n=some e->n<s0.nx/\ ∀m∈e.2.nms,m<s0.nx)(ba: ∀t,∀m∈(AE s0.tm t).nms,m<s0.nx)
 (st:X5 ops (Fh ops.toList []))(hN:LM N ops.toList=true){D:Nat->Bool}(hc:Kr ops D){e:Ev}(he:e∈evs)(hD:D e.i=false)
 (hr: ∀x∈e.o.after.toList,IP x.ground=true->D x.on=true){S:A7}{a:Act}(hA:kX C N evs s0 D S a){K:Act->World->Prop}{Q:Exit->Act->World->Prop}
 (hK: ∀a' S',kX C N evs s0 (λi=>D i||i==e.i) S' a'->K a' S'.w):wpOp P ops Q e.i K a S.w:=by
 have ah:=((g.ev e he).1).op;have bi: ∀k,Ed (Fh ops.toList []) k e.i=true->D k=true:=λk hk=>Qqg hc ah hr hk
 have a0: ∀d,e.o.dst=some d->d<N:=by
  have: ∀(l:List Oper),LM N l=true-> ∀o∈l,∀d,o.dst=some d->d<N:=by
   intro l;induction l with
   |nil=>intro _ o ho;cases ho
   |cons x l ih=>
    intro h o ho d hd;simp only[LM,AY] at h;rcases Br.1 ho with rfl|ho
    .have:=h.1
     rw[hd] at this;simpa using this
    .exact ih h.2 o ho d hd
  exact this _ hN e.o (by
   have:=ZeQ ah
   simpa using this)
 have ak: ∀f∈evs,D f.i≠Ko e.i f.i->(f.i<e.i/\D f.i=false/\uU f e/\f.o.apart ops e.o=true)\/(e.i<f.i/\D f.i=true/\uU e f/\e.o.apart ops f.o=true):=by
  intro f hf O;have am:=((g.ev f hf).1).op;rcases vM f.i e.i with h|h|h
  .have hl:Ko e.i f.i=true:=by simpa[Ko] using h
   have Z:D f.i=false:=by
    cases hq:D f.i
    .rfl
    .rw[hq,hl] at O;exact absurd rfl O
   have aj:Ed (Fh ops.toList []) f.i e.i=false:=by
    cases hq:Ed (Fh ops.toList []) f.i e.i
    .rfl
    .have:=bi _ hq;rw[Z] at this;cases this
   refine .inl ⟨h,Z,?_,?_⟩
   .rcases g.pair f hf e he h with z|z
    .rw[aj] at z;cases z
    .exact z
   .rcases st.ap f.i e.i f.o e.o h am ah with z|z
    .rw[aj] at z;cases z
    .exact z
  .have hl:Ko e.i f.i=false:=by
    rw[h];rw[LR];intro h';have:=J7 h';omega
   rw[hl,h,hD] at O;exact absurd rfl O
  .have hl:Ko e.i f.i=false:=by
    rw[LR];intro h';have:=J7 h';omega
   have Z:D f.i=true:=by
    cases hq:D f.i
    .rw[hq,hl] at O;exact absurd rfl O
    .rfl
   have aj:Ed (Fh ops.toList []) e.i f.i=false:=by
    cases hq:Ed (Fh ops.toList []) e.i f.i
    .rfl
    .have:=Qqg hc am (hc f.i f.o Z am) hq
     rw[hD] at this;cases this
   refine .inr ⟨h,Z,?_,?_⟩
   .rcases g.pair e he f hf h with z|z
    .rw[aj] at z;cases z
    .exact z
   .rcases st.ap e.i f.i e.o f.o h ah am with z|z
    .rw[aj] at z;cases z
    .exact z
 have ad: ∀f∈evs,D f.i=true->f.i<e.i\/(e.i<f.i/\uU e f/\e.o.apart ops f.o=true):=by
  intro f hf Z;rcases Gd f.i e.i with h|h
  .exact .inl h
  .have hl:Ko e.i f.i=false:=by
    rw[LR];intro h';have:=J7 h';omega
   rcases ak f hf (by rw[Z,hl];simp) with ⟨z,_⟩|⟨z,_,h2⟩
   .omega
   .exact .inr ⟨z,h2⟩
 have bc: ∀t,t∈e.o.looksAt ops->TD D evs (AE s0.tm) t=AE e.s.tm t:=by
  intro t ht;rw[g.atT e he t];refine lT evs _ _ rfl ?_;intro f hf O;rcases ak f hf O with ⟨_,_,_,h⟩|⟨_,_,_,h⟩
  .intro hd;exact (Oper.apart_spec h).1 t hd ht
  .intro hd;exact (Oper.apart_spec h).2.2 t hd ht
 have ab:evs=evs.take e.i++e::evs.drop (e.i+1):=by
  have hl:=g.lt e he;have hget:evs[e.i]? =some evs[e.i]:=BA hl;obtain⟨k,hk,a9⟩:=gN.1 he;have bh:=g.idx k e (by rw[BA hk,a9]);subst bh
  conv=>lhs;rw[<-RG e.i evs]
  rw[Wi hl,a9]
 have ao: ∀f∈evs.take e.i,f∈evs/\f.i<e.i:=by
  intro f hf;refine⟨Zdz hf,?_⟩;obtain⟨k,hk,av⟩:=gN.1 hf;have bm:k<e.i:=by simp at hk;omega
  have:=g.idx k f (by
   rw[<-av,List.getElem_take];exact BA _)
  omega
 have ac: ∀f∈evs.drop (e.i+1),f∈evs/\e.i<f.i:=by
  intro f hf;refine⟨Zff hf,?_⟩;obtain⟨k,hk,av⟩:=gN.1 hf
  have:=g.idx (e.i+1+k) f (by
   rw[<-av,List.getElem_drop];exact BA _)
  omega
 let D':Nat->Bool:=λi=>D i||i==e.i
 have az:D' e.i=true:=by simp[D']
 have ag: ∀f∈evs,f.i≠e.i->D f.i=D' f.i:=by
  intro f _ O
  have:(f.i==e.i)=false:=by rw[HO];exact O
  simp[D',this]
 have be: ∀n,HD D' evs (hget s0.h) n=e.E.appf (HD D evs (hget s0.h)) n:=by
  intro n;have e1:HD D' evs (hget s0.h)=HD D' (evs.drop (e.i+1)) (e.E.appf (HD D' (evs.take e.i) (hget s0.h))):=by
   conv=>lhs;rw[ab]
   rw[uJ];simp only[HD,az,Cg]
  have e2:HD D evs (hget s0.h)=HD D (evs.drop (e.i+1)) (HD D (evs.take e.i) (hget s0.h)):=by
   conv=>lhs;rw[ab]
   rw[uJ];simp only[HD,hD,Bk]
  have e3:HD D' (evs.take e.i) (hget s0.h)=HD D (evs.take e.i) (hget s0.h):=by
   funext m;refine lR _ _ _ rfl ?_;intro f hf O
   have:=ao f hf
   exact absurd (ag f this.1 (by omega)).symm O
  rw[e1,e2,e3];by_cases hn:n∈e.E.touch
  .rw[XE hn (h':=HD D (evs.take e.i) (hget s0.h))];refine Qw6 _ _ n ?_;intro f hf Z;have z:=ac f hf;rw[<-ag f z.1 (by omega)] at Z;rcases ad f z.1 Z with h2|⟨_,h2,_⟩
   .omega
   .intro aw;exact h2.b n aw hn
  .rw[sX hn];refine lR _ _ _ (sX hn) ?_;intro f hf O
   have:=ac f hf
   exact absurd (ag f this.1 (by omega)).symm O
 have bf: ∀t,TD D' evs (AE s0.tm) t=if e.o.dst=some t then e.r else TD D evs (AE s0.tm) t:=by
  intro t;have e1:TD D' evs (AE s0.tm)=TD D' (evs.drop (e.i+1)) (λt=>bif e.o.dst==some t then e.r else TD D' (evs.take e.i) (AE s0.tm) t):=by
   conv=>lhs;rw[ab]
   rw[uM];simp only[TD,az,EL]
  have e2:TD D evs (AE s0.tm)=TD D (evs.drop (e.i+1)) (TD D (evs.take e.i) (AE s0.tm)):=by
   conv=>lhs;rw[ab]
   rw[uM];simp only[TD,hD,Gu,Bk]
  have e3:TD D' (evs.take e.i) (AE s0.tm)=TD D (evs.take e.i) (AE s0.tm):=by
   funext m;refine lT _ _ _ rfl ?_;intro f hf O
   have:=ao f hf
   exact absurd (ag f this.1 (by omega)).symm O
  rw[e1,e2,e3];by_cases hn:e.o.dst=some t
  .rw[Ai hn];rw[Qyr]
   .simp[hn]
   .intro f hf Z;have z:=ac f hf;rw[<-ag f z.1 (by omega)] at Z;rcases ad f z.1 Z with h2|⟨_,_,h2⟩
    .omega
    .exact (Oper.apart_spec h2).2.1 t hn
  .rw[Af hn];have hq:(e.o.dst==some t)=false:=by rw[HO];exact hn
   refine lT _ _ _ (by simp[hq]) ?_;intro f hf O
   have:=ac f hf
   exact absurd (ag f this.1 (by omega)).symm O
 have bb:s0.nx<=e.s.nx:=(g.ev e he).2.1;have aq: ∀f∈evs,D f.i=true->(∀m∈f.r.nms,¬Fr e.s.nx e.E.cnt m)/\(∀n x,hget f.E.new n=some x-> ¬Fr e.s.nx e.E.cnt n/\ ∀m∈x.2.nms,¬Fr e.s.nx e.E.cnt m):=by
  intro f hf Z;rcases ad f hf Z with h|⟨_,h,_⟩
  .have bn:=g.ord f hf e he h;obtain⟨ax,_⟩:=g.ev f hf;cases hs:f.skip
   .obtain⟨z,h2⟩:=Qzx (ax.doo hs).2;refine⟨λm hm aa=> ?_,λn x hx=>⟨λaa=> ?_,λm hm aa=> ?_⟩⟩
    .have:=z m hm;have:=aa.1;omega
    .have:=aa.1
     rcases (h2 n x hx).1 with h3|h3
     .have:=h3.2;omega
     .omega
    .have:=(h2 n x hx).2 m hm;have:=aa.1;omega
   .obtain⟨z,h2⟩:=ax.skp hs;rw[z,h2];exact⟨by simp[AV.nms],by simp[hget]⟩
  .refine⟨λm hm=>h.d m (by simp[hm]),λn x hx=>⟨h.d n ?_,λm hm=>h.d m ?_⟩⟩
   .have:=(Qtn _ hx).1
    simp[B5.touch,this]
   .have:=(Qtn _ hx).2 m hm
    simp[this]
 have a8: ∀t,∀m∈(TD D evs (AE s0.tm) t).nms,¬Fr e.s.nx e.E.cnt m:=by
  intro t m hm;rcases RD (D:=D) (t:=t) evs (AE s0.tm) with h|⟨f,hf,Z,h⟩
  .rw[h] at hm;intro aa
   have:=ba t m hm
   have:=aa.1
   omega
  .rw[h] at hm;exact (aq f hf Z).1 m hm
 have an: ∀n x,HD D evs (hget s0.h) n=some x-> ¬Fr e.s.nx e.E.cnt n/\ ∀m∈x.2.nms,¬Fr e.s.nx e.E.cnt m:=by
  intro n x hx;rcases Kt evs (hget s0.h) hx with h|⟨f,hf,Z,h⟩
  .obtain⟨z,h2⟩:=bj n x h;exact⟨λaa=>by have:=aa.1;omega,λm hm aa=>by have:=aa.1;have:=h2 m hm;omega⟩
  .exact (aq f hf Z).2 n x h
 have ai: ∀v S',Wf C S'->S'.h=e.E.appf S.h->BP (λm=> ¬Fr e.s.nx e.E.cnt m) S S'->Aa S' e.r v->K (a.put e.o.dst v) S'.w:=by
  intro v S' hW hh hp hv;refine hK _ S' ⟨hW,λn=> ?_,λt=> ?_,?_,?_,hA.n0,Qy2 hA.pre (CS hA.n0 bb) hp⟩
  .rw[hh];exact (Qym (hA.h n)).trans (be n).symm
  .have:=bf t
   simp only[D'] at this;rw[this,yF (λd h=>by rw[hA.size];exact a0 d h)];split
   .exact hv
   .exact Jg hp _ _ (a8 t) (hA.tm t)
  .cases e.o.dst<;>simp[Act.put,hA.size]
  .cases e.o.dst<;>simp[Act.put,hA.defers]
 have au:=(g.ev e he).1;have ay:Region.wanted e.o (yielded ops a.tmps)= !e.skip:=by
  have af:=au.gd;unfold Region.wanted;cases hg:e.o.guard with
  |none=>
   rw[hg] at af;simp only[Wz] at af;simp[af]
  |some gw=>
   obtain⟨q,bd⟩:=gw;rw[hg] at af;obtain⟨t,ht,af⟩:=af;have bg:TD D evs (AE s0.tm) t=AE e.s.tm t:=bc t (by simp[Oper.looksAt,hg,ht]);have z:=hA.tm t;rw[bg] at z;rcases af with ⟨b,hb,hs⟩|⟨hb,hs⟩
   .rw[hb] at z;simp only[Aa,rd,Act.eval] at z;have hy:yielded ops a.tmps q=some b:=by
     unfold yielded;rw[ht];simp only[Gw];rw[Im] at z;cases hq:a.tmps[t]? with
     |none=>rw[hq] at z;simp[undef] at z
     |some v=>rw[hq] at z;simp at z;rw[z]
    simp only[hy,hs];cases b<;>cases bd<;>rfl
   .rw[hb] at z;simp only[Aa,rd,rdl,Act.eval] at z;obtain⟨vs,z,_⟩:=z;have hy:yielded ops a.tmps q=none:=by
     unfold yielded;rw[ht];simp only[Gw];rw[Im] at z;cases hq:a.tmps[t]? with
     |none=>rfl
     |some v=>rw[hq] at z;simp at z;rw[z]
    simp only[hy,hs];rfl
 unfold wpOp;simp only[ah,ay];cases hs:e.skip
 .simp only[Wm,BD];refine .inl ?_;obtain⟨bl,ax⟩:=au.doo hs;refine bl C S a K Q hA.wf ?_ ?_ ?_ ?_ ai
  .intro n hn;rw[hA.h n,g.atH e he n];refine lR evs _ _ rfl ?_;intro f hf O;rcases ak f hf O with ⟨_,_,h,_⟩|⟨_,_,h,_⟩
   .exact h.a n hn
   .intro aw;exact h.c n aw hn
  .intro n aa;cases hn:S.h n with
   |none=>rfl
   |some x=>
    rw[hA.h n] at hn;exact absurd aa (an n x hn).1
  .intro n x hx m hm;rw[hA.h n] at hx;exact (an n x hx).2 m hm
  .intro x hx;cases x with
   |tmp t=>
    simp only[Ay];rw[<-bc t (by
     simp only[Oper.looksAt,B7,List.mem_filterMap];exact .inl ⟨.tmp t,by simpa using hx,rfl⟩)]
    exact hA.tm t
   |const v=>exact MB S v
   |global g=>simp only[Ay,Aa,rd,Act.eval]
   |func f=>exact oE _ _ f
 .simp only[mS,Df,CO];obtain⟨z,h2⟩:=au.skp hs;refine ai undef S hA.wf ?_ (BP.refl _ _) ?_
  .rw[h2];funext n;simp[B5.appf,hget]
  .rw[z];simp only[Aa,rd,rdl];exact⟨#[],rfl,rfl⟩
abbrev dn(listed:Array Bool):Nat->Bool:=λi=>listed.getD i false
def xV(listed:Array Bool):Nat:=listed.toList.countP (λb=> !b)
def iF{listed:Array Bool}{j:Nat}(z:j<listed.size):dn (listed.setIfInBounds j true)=λi=>dn listed i||i==j:=by
 funext i;simp only[dn];by_cases h:j=i
 .subst h;simp[z]
 .rw[getD_set_ne false h]
  have:(i==j)=false:=by rw[HO];exact λh'=>h h'.symm
  simp[this]
def NM{listed:Array Bool}{j:Nat}(O:j<listed.size)(Q:listed.getD j true=false):xV (listed.setIfInBounds j true)+1=xV listed:=by
 unfold xV;rw[Zdx];have z:j<listed.toList.length:=by simpa using O
 have hv:listed.toList[j]=false:=by
  rw[Im,QI O] at Q;simpa using Q
 have Z:0<listed.toList.countP (λb=> !b):=by
  rw[List.countP_pos_iff];exact⟨false,by rw[<-hv];exact RI _,rfl⟩
 rw[List.countP_set z,hv];simp only[Wm,BD,mS,Df,CO];omega
def Qabb{listed:Array Bool}(hs:listed.size=ops.size)(st:X5 ops (Fh ops.toList []))(hr:Region.ready .any ops listed=[]): ∀i,i<ops.size->dn listed i=true:=by
 intro i;induction i using Nat.strongRecOn with
 |_ i ih=>
  intro Z;cases hq:dn listed i with
  |true=>rfl
  |false=>
   exfalso
   have:i∈Region.ready .any ops listed:=by
    rw[mem_ready];have z:ops[i]? =some ops[i]:=QI Z;refine⟨?_,ops[i],z,?_⟩
    .simp only[dn] at hq;rw[Im,QI (by omega)] at hq⊢;simpa using hq
    .intro e Q O;rw[Qup] at O
     have:=st.lo i _ z e (by simpa using Q) O
     exact ih e.on this (by omega)
   rw[hr] at this;cases this
def gZ(g:GT P ops (Fh ops.toList []) s0 evs s acc)(au:evs.length=ops.size)(an: ∀n e,hget s0.h n=some e->n<s0.nx/\ ∀m∈e.2.nms,m<s0.nx)(ai: ∀t,∀m∈(AE s0.tm t).nms,m<s0.nx)
 (st:X5 ops (Fh ops.toList []))(hN:LM N ops.toList=true){Q:Exit->Act->World->Prop}(hQ: ∀a S,kX C N evs s0 OM S a->Q .normal a S.w):
 ∀(O:Nat) (listed:Array Bool) (S:A7) (a:Act),xV listed<=O->listed.size=ops.size->Kr ops (dn listed)->kX C N evs s0 (dn listed) S a->wpAny P .any ops Q O listed a S.w:=by
 have ab: ∀(listed:Array Bool) (S:A7) (a:Act),listed.size=ops.size->(∀i,i<ops.size->dn listed i=true)->kX C N evs s0 (dn listed) S a->Q .normal a S.w:=by
  intro listed S a hs z hA;refine hQ a S ⟨hA.wf,λn=> ?_,λt=> ?_,hA.size,hA.defers,hA.n0,hA.pre⟩
  .rw[hA.h n];refine lR evs _ _ rfl ?_;intro f hf ad;exact absurd (z f.i (by have:=g.lt f hf;omega)) ad
  .have:TD OM evs (AE s0.tm) t=TD (dn listed) evs (AE s0.tm) t:=by
    refine lT evs _ _ rfl ?_;intro f hf ad;exact absurd (z f.i (by have:=g.lt f hf;omega)).symm ad
   rw[this];exact hA.tm t
 intro O;induction O with
 |zero=>
  intro listed S a hu hs hcl hA;have z: ∀i,i<ops.size->dn listed i=true:=by
   intro i hi;cases hq:dn listed i with
   |true=>rfl
   |false=>
    have:= @NM listed i (by omega) (by
     simp only[dn] at hq;rw[Im,QI (by omega)] at hq⊢;simpa using hq)
    omega
  refine⟨?_,ab listed S a hs z hA⟩;rw[List.eq_nil_iff_forall_not_mem];intro j hj;obtain⟨h0,o,ho,_⟩:=mem_ready.1 hj;have am:=(RE.1 ho).1
  have:=z j am
  simp only[dn] at this;rw[Im,QI (by omega)] at this h0;simp at this h0;rw[h0] at this;cases this
 |succ O ih=>
  intro listed S a hu hs hcl hA;refine⟨λhr=>ab listed S a hs (Qabb hs st hr) hA,λj hj=> ?_⟩;obtain⟨h0,o,ho,z⟩:=mem_ready.1 hj;have av:=(RE.1 ho).1;have ah:j<evs.length:=by omega
  have Z:=g.idx j evs[j] (BA ah);have ac:evs[j]∈evs:=RI ah;have aj:=((g.ev _ ac).1).op;rw[Z,ho] at aj;have ak:dn listed j=false:=by
   simp only[dn];rw[Im,QI (by omega)] at h0⊢;simpa using h0
  have aa: ∀e∈o.after.toList,IP e.ground=true->dn listed e.on=true:=λe he hb=>z e (by simpa using he) (by rw[Qup];exact hb)
  have ao:evs[j].o=o:=(AJ aj).symm;have aq:=XG g an ai st hN hcl ac (by rw[Z];exact ak) (by rw[ao];exact aa) hA (Q:=Q) (K:=wpAny P .any ops Q O (listed.setIfInBounds j true)) ?_
  .rwa [Z] at aq
  .intro a' S' af;rw[Z] at af;have ag:=iF (listed:=listed) (j:=j) (by omega);refine ih (listed.setIfInBounds j true) S' a' ?_ (by simpa using hs) ?_ (by rw[ag];exact af)
   .have:= @NM listed j (by omega) h0
    omega
   .rw[ag];intro k p hk hp e he hb;simp only[HN,OH] at hk⊢;rcases hk with hk|rfl
    .exact .inl (hcl k p hk hp e he hb)
    .rw[ho] at hp;cases hp;exact .inl (aa e he hb)
end
def Qog{P:Program}{V:Dn}(HV:Ii P V){C:Bb}{N:Nat}{ops:Array Oper}{K:Az->Prop}{Q:Exit->Act->World->Prop}(hQ: ∀s a w,K s->BN C N s a w->Q .normal a w)
 (hd:LM N ops.toList=true)(af:stOk ops=true){s:Az}{a:Act}{w:World}(hk:Ww P V (Fh ops.toList []) (Ik ops ops.toList) 0 K [] s)(z:BN C N s a w):wpAny P .any ops Q ops.size (Array.replicate ops.size false) a {w with drawn:=w.drawn+1}:=by
 obtain⟨S,rfl,z⟩:=z;obtain⟨evs,s',acc,aa,g,hK⟩:=Qq HV ops.toList 0 [] s [] rfl rfl (GT.nil z.nmT) hk;have hW:=z.wf
 let S1:A7:={S with w:={S.w with drawn:=S.w.drawn+1}}
 have hp:BP (λ_=>True) S S1:=⟨λb hb=>⟨hb,rfl⟩,λo _ e' ad=>⟨e',ad,rfl,rfl,rfl⟩⟩;have hA:kX C N evs s (dn (Array.replicate ops.size false)) S1 a:=by
  have ab: ∀i,dn (Array.replicate ops.size false) i=false:=by
   intro i;simp only[dn,Im,gT]
   split<;>rfl
  refine⟨⟨hW.os,hW.tape,hW.output,CS hW.dr (nB _),hW.size,hW.keep,hW.ok0,hW.ok1,hW.oks,?_,hW.loc,hW.inj,hW.gl⟩,λn=> ?_,λt=> ?_,z.size,z.defers,z.n0,z.pre⟩
  .intro o e Z;exact HF hp (λ_ _=>rfl) _ (λ_ _=>trivial) (hW.obj o e Z)
  .rw[Qw6]
   .exact z.h n
   .intro e _ h;rw[ab] at h;cases h
  .rw[Qyr]
   .exact Jg hp _ _ (λ_ _=>trivial) (z.tm t)
   .intro e _ h;rw[ab] at h;cases h
 have ag:=gZ (C:=C) (N:=N) (Q:=Q) g (by simpa using aa) z.nmH z.nmT (Ql af) hd ?_ ops.size (Array.replicate ops.size false) S1 a (by unfold xV;exact CS List.countP_le_length (by simp)) (by simp) ?_ hA
 .exact ag
 .intro a' S' O;refine hQ s' a' S'.w hK ⟨S',rfl,O.wf,λn=> ?_,λt=> ?_,g.nmT,?_,O.size,O.defers,CS z.n0 g.nx,O.pre⟩
  .rw[O.h n,g.h n]
  .rw[g.tm t];exact O.tm t
  .intro n e Z;rw[g.h n] at Z;rcases Kt evs _ Z with h|⟨f,hf,_,h⟩
   .obtain⟨h1,h2⟩:=z.nmH n e h
    have:=g.nx
    exact⟨by omega,λm hm=>by have:=h2 m hm;omega⟩
   .obtain⟨ac,h2,h3⟩:=g.ev f hf;cases hs:f.skip
    .obtain⟨_,h5⟩:=Qzx (ac.doo hs).2;obtain⟨h6,h7⟩:=h5 n e h;refine⟨?_,λm hm=>by have:=h7 m hm;omega⟩;rcases h6 with h6|h6
     .have:=h6.2;omega
     .omega
    .rw[(ac.skp hs).2] at h;simp[hget] at h
 .intro j o hj _ e Z hb
  have:dn (Array.replicate ops.size false) j=false:=by
   simp only[dn,Im,gT]
   split<;>rfl
  rw[this] at hj;cases hj
def Qtk{P:Program}(O:P.follows .mixedOrders=true){V:Dn}(Z:Ii P V){C:Bb}{N id:Nat}{ops:Array Oper}{K:Az->Prop}{Q:Exit->Act->World->Prop}(hQ: ∀s a w,K s->BN C N s a w->Q .normal a w)
 (hd:LM N ops.toList=true)(z:stOk ops=true){s:Az}{a:Act}{w:World}(hk:Ww P V (Fh ops.toList []) (Ik ops ops.toList) 0 K [] s)(hc:BN C N s a w):(Code.region id ops true).wp P Q a w:=
 wp_region_any O (Qog Z hQ hd z hk hc)
def Eu(N:Nat):Code->Bool
 | .skip=>true
 | .region _ ops z=>LM N ops.toList && (!z||stOk ops)
 | .seq a b=>Eu N a && Eu N b
 | .cond _ a b=>Eu N a && Eu N b
 | .block _ c=>Eu N c
 | .loop c=>Eu N c
 | .exit _=>true
 | .ret=>true
 |_=>false
def Hb(C:Bb)(N:Nat)(Q:Ct):Exit->Act->World->Prop
 | .normal,a,w=> ∃s,Q .normal s/\BN C N s a w
 | .exit i,a,w=> ∃s,Q (.exit i) s/\BN C N s a w
 | .ret,a,w=> ∃s,Q .ret s/\BN C N s a w
 |_,_,_=>False
def Qv7{s:Az}: ∀(tm:List (Nat×AV)),Ha s tm-> ∀t,AE tm t= .any\/AE tm t=AE s.tm t
 |[],_,t=> .inl rfl
 |(q,x)::tm,h,t=>by
  simp only[Ha] at h;simp only[AE];cases hq:q==t
  .simpa using Qv7 tm h.2 t
  .have:q=t:=by simpa using hq
   subst this;exact .inr (by simpa using h.1.symm)
def Qtu{s:Az}: ∀(hs:An),Cm s hs-> ∀n e,hget hs n=some e->hget s.h n=some e
 |[],_,n,e,h=>by simp[hget] at h
 |(q,x)::hs,h,n,e,z=>by
  simp only[Cm] at h;simp only[hget] at z;cases hq:q==n<;>rw[hq] at z
  .exact Qtu hs h.2 n e (by simpa using z)
  .have:q=n:=by simpa using hq
   subst this;simp only[Cg,AN] at z;subst z;exact h.1
def sE{n:Nat}: ∀(tm:List (Nat×AV)),Cv n tm=true-> ∀t,∀m∈(AE tm t).nms,m<n
 |[],_,t,m,z=>by simp[AE,AV.nms] at z
 |(q,x)::tm,h,t,m,z=>by
  simp only[Cv,AY] at h;simp only[AE] at z;cases hq:q==t<;>rw[hq] at z
  .exact sE tm h.2 t m (by simpa using z)
  .exact tU x h.1 m (by simpa using z)
def sC{n:Nat}: ∀(hs:An),B6 n hs=true-> ∀m e,hget hs m=some e->m<n
 |[],_,m,e,h=>by simp[hget] at h
 |(q,x)::hs,h,m,e,z=>by
  simp only[B6,AY,Ei] at h;simp only[hget] at z;cases hq:q==m<;>rw[hq] at z
  .exact sC hs h.2 m e (by simpa using z)
  .have:q=m:=by simpa using hq
   omega
def mA{C:Bb}{N:Nat}{s s':Az}{a:Act}{w:World}(Z:BN C N s a w)(hs:sub s s')(hg:s'.good=true)(ag:C.n0<=s'.nx):BN C N s' a w:=by
 obtain⟨S,rfl,Z⟩:=Z;obtain⟨hT,hH⟩:=hs;simp only[Az.good,AY] at hg;obtain⟨ab,ac,ad⟩:=hg;have z: ∀n e,hget s'.h n=some e->S.h n=some e:=λn e Q=>(Z.h n).trans (Qtu _ hH n e Q)
 have hp:BP (λ_=>True) S {S with h:=hget s'.h}:=⟨λb hb=>⟨hb,rfl⟩,λo _ e' O=>⟨e',z o e' O,rfl,rfl,rfl⟩⟩;have hW:=Z.wf;refine⟨{S with h:=hget s'.h},rfl,⟨hW.os,hW.tape,hW.output,hW.dr,hW.size,hW.keep,hW.ok0,hW.ok1,hW.oks,?_,?_,?_,hW.gl⟩,λn=>rfl,?_,sE _ ab,?_,Z.size,Z.defers,ag,?_⟩
 .intro o e Q;exact HF hp (λ_ _=>rfl) _ (λ_ _=>trivial) (hW.obj o e (z o e Q))
 .intro o e l Q hl;exact hW.loc o e l (z o e Q) hl
 .intro o o' e e' l l' Q O hl af hb aa;exact hW.inj o o' e e' l l' (z o e Q) (z o' e' O) hl af hb aa
 .intro t;rcases Qv7 _ hT t with h|h
  .rw[h];simp only[Aa]
  .rw[h];exact Jg hp _ _ (λ_ _=>trivial) (Z.tm t)
 .intro n e Q;exact⟨sC _ ad n e Q,fL _ ac n e Q⟩
 .intro o ho e' O;exact Z.pre o ho e' (z o e' O)
def cG{lo:Nat}: ∀(π:List (Nat×Option Nat)),GU lo π-> ∀n,n<lo->pm π n=some n
 |[],_,n,_=>rfl
 |(a,b)::r,h,n,hn=>by
  simp only[GU] at h;simp only[pm];rw[Af (by omega)];exact cG r h.2 n hn
section
variable {S S':A7}{π:List (Nat×Option Nat)}
mutual
def Qyf(ab:S'.ok=S.ok)(aa:S'.hp=S.hp)(hρ: ∀n m,pm π n=some m->S'.ρ n=S.ρ m)(hρ0: ∀n,pm π n=none->S'.ρ n=none)
 (hh: ∀n m,pm π n=some m-> ∀e',S'.h n=some e'-> ∃e,S.h m=some e/\e.2.esz=e'.2.esz/\e.2.len=e'.2.len): ∀(x' x:AV) (v:Value),mt π x' x->Aa S x v->Aa S' x' v
 | .any,_,_,_,_=>by simp only[Aa]
 | .im d,x,v,h,z=>by
   simp only[mt] at h;subst h;simp only[Aa,ab,aa] at z⊢;exact z
 | .own n,x,v,h,z=>by
   simp only[mt] at h;cases hp:pm π n with
   |some m=>
    rw[hp] at h;simp only[EV] at h;subst h;simp only[Aa] at z⊢;refine⟨z.1,λe' O=> ?_⟩;obtain⟨e,Q,Z,h3⟩:=hh n m hp e' O;rw[hρ n m hp,<-h3];exact z.2 e Q
   |none=>
    rw[hp] at h;simp only[EV] at h;unfold iT at h;split at h
    .simp only[Aa,rd] at z;have hv:v= .slice none 0 0:=by
      rcases z with z|⟨_,_,_,_,_,_,_,Z,_⟩
      .exact Qr7 z.1
      .exact absurd rfl (Z trivial)
     subst hv;simp only[Aa];refine⟨rfl,λe' O=> ?_⟩;rw[hρ0 n hp];trivial
    .exact h.elim
 | .ptr n p,x,v,h,z=>by
   simp only[mt] at h;cases hp:pm π n with
   |none=>rw[hp] at h;exact h.elim
   |some m=>
    rw[hp] at h;simp only[Hs] at h;subst h;simp only[Aa] at z⊢;refine⟨z.1,λe' O=> ?_⟩;obtain⟨e,Q,Z,h3⟩:=hh n m hp e' O;rw[hρ n m hp];exact z.2 e Q
 | .eptr n i p,x,v,h,z=>by
   simp only[mt] at h;cases hp:pm π n with
   |none=>rw[hp] at h;exact h.elim
   |some m=>
    rw[hp] at h;simp only[Hs] at h;subst h;simp only[Aa] at z⊢;refine⟨z.1,λe' O=> ?_⟩;obtain⟨e,Q,Z,h3⟩:=hh n m hp e' O;rw[hρ n m hp,<-Z];exact z.2 e Q
 | .mp n,x,v,h,z=>by
   simp only[mt] at h;cases hp:pm π n with
   |none=>rw[hp] at h;exact h.elim
   |some m=>
    rw[hp] at h;simp only[Hs] at h;subst h;simp only[Aa] at z⊢;refine⟨z.1,λe' O=> ?_⟩;obtain⟨e,Q,Z,h3⟩:=hh n m hp e' O;rw[hρ n m hp];exact z.2 e Q
 | .ch n,x,v,h,z=>by
   simp only[mt] at h;cases hp:pm π n with
   |none=>rw[hp] at h;exact h.elim
   |some m=>
    rw[hp] at h;simp only[Hs] at h;subst h;simp only[Aa] at z⊢;refine⟨z.1,λe' O=> ?_⟩;obtain⟨e,Q,Z,h3⟩:=hh n m hp e' O;rw[hρ n m hp];exact z.2 e Q
 | .it n,x,v,h,z=>by
   simp only[mt] at h;cases hp:pm π n with
   |none=>rw[hp] at h;exact h.elim
   |some m=>
    rw[hp] at h;simp only[Hs] at h;subst h;simp only[Aa] at z⊢;refine⟨z.1,λe' O=> ?_⟩;obtain⟨e,Q,Z,h3⟩:=hh n m hp e' O;rw[hρ n m hp];exact z.2 e Q
 | .osl n a k,x,v,h,z=>by
   simp only[mt] at h;cases hp:pm π n with
   |none=>rw[hp] at h;exact h.elim
   |some m=>
    rw[hp] at h;simp only[Hs] at h;subst h;simp only[Aa] at z⊢;refine⟨z.1,λe' O=> ?_⟩;obtain⟨e,Q,Z,h3⟩:=hh n m hp e' O;rw[hρ n m hp,<-Z,<-h3];exact z.2 e Q
 | .agg cs,x,v,h,z=>by
   have ac: ∀ds,Dz π cs ds->Aa S (.agg ds) v->Aa S' (.agg cs) v:=by
    intro ds h z;simp only[Aa] at z⊢;obtain⟨vs,rfl,Q⟩:=z;exact⟨vs,rfl,Qts ab aa hρ hρ0 hh cs ds _ h Q⟩
   cases x<;>try (simp only[mt] at h;done)
   case agg ds=>
    simp only[mt] at h;exact ac ds h z
   case im d=>
    cases d<;>try (simp only[mt] at h;done)
    rename_i ds;simp only[mt] at h;refine ac _ h ?_;simp only[Aa,rd] at z⊢;obtain⟨vs,rfl,Q⟩:=z;exact⟨vs,rfl,(IW _ _).2 Q⟩
 | .tup cs,x,v,h,z=>by simp only[mt] at h
 | .clo f a c,x,v,h,z=>by simp only[mt] at h
def Qts(O:S'.ok=S.ok)(z:S'.hp=S.hp)(hρ: ∀n m,pm π n=some m->S'.ρ n=S.ρ m)(hρ0: ∀n,pm π n=none->S'.ρ n=none)
 (hh: ∀n m,pm π n=some m-> ∀e',S'.h n=some e'-> ∃e,S.h m=some e/\e.2.esz=e'.2.esz/\e.2.len=e'.2.len): ∀(Q xs:List AV) (vs:List Value),Dz π Q xs->AO S xs vs->AO S' Q vs
 |[],[],vs,h,Z=>by simpa only[AO] using Z
 |x::r,y::s,vs,h,Z=>by
  simp only[Dz] at h;simp only[AO] at Z⊢;obtain⟨v,w,rfl,h1,h2⟩:=Z;exact⟨v,w,rfl,Qyf O z hρ hρ0 hh x y v h.1 h1,Qts O z hρ hρ0 hh r s w h.2 h2⟩
 |[],_::_,vs,h,_=>by simp only[Dz] at h
 |_::_,[],vs,h,_=>by simp only[Dz] at h
end
end
def Qya{π:List (Nat×Option Nat)}: ∀{a b:List (List AV)},FF π a b->b.length=a.length
 |[],[],_=>rfl
 |_::_,_::_,h=>by simp[Qya h.2]
 |[],_::_,h=>h.elim
 |_::_,[],h=>h.elim
def MO{π:List (Nat×Option Nat)}: ∀{a b:List AV},Dz π a b->b.length=a.length
 |[],[],_=>rfl
 |_::_,_::_,h=>by simp only[Dz] at h;simp[MO h.2]
 |[],_::_,h=>by simp only[Dz] at h
 |_::_,[],h=>by simp only[Dz] at h
def Qxn{π:List (Nat×Option Nat)}{e' e:Ac}(h:Ej π e' e):e.esz=e'.esz/\e.len=e'.len/\e.isView=e'.isView:=by
 cases e'<;>cases e<;>simp only[Ej,reduceCtorEq,Ac.arr.injEq,Ac.map.injEq,Ac.chan.injEq,Ac.iter.injEq,Ac.view.injEq] at h
 all_goals first
  |exact⟨rfl,rfl,rfl⟩
  |(obtain⟨rfl,rfl,rfl⟩:=h;exact⟨rfl,rfl,rfl⟩)
  |(obtain⟨rfl,rfl,rfl⟩:=h;exact⟨rfl,by simp[Ac.len,Bo],rfl⟩)
  |(obtain⟨rfl,rfl,h⟩:=h;exact⟨rfl,by simpa[Ac.len,Bo] using Qya h,rfl⟩)
  |(obtain⟨rfl,rfl⟩:=h;exact⟨rfl,rfl,rfl⟩)
def Y8{S S':A7}{π:List (Nat×Option Nat)}(ac:S'.ok=S.ok)(O:S'.hp=S.hp)(hρ: ∀n m,pm π n=some m->S'.ρ n=S.ρ m)(hρ0: ∀n,pm π n=none->S'.ρ n=none)
 (hh: ∀n m,pm π n=some m-> ∀e',S'.h n=some e'-> ∃e,S.h m=some e/\e.2.esz=e'.2.esz/\e.2.len=e'.2.len){l:Option FS}{e' e:Ac}(h:Ej π e' e)(Q:Ao S l e):Ao S' l e':=by
 have hp:BP (λ_=>False) S S':=⟨λb hb=>⟨by rw[ac];exact hb,by rw[O]⟩,λo h=>h.elim⟩;cases e' with
 |cells T cs=>
  cases e<;>simp only[Ej] at h;obtain⟨rfl,h⟩:=h;simp only[Ao] at Q⊢;obtain⟨lc,vs,h1,Z,h3,h4⟩:=Q;exact⟨lc,vs,h1,Z,by rw[O];exact h3,Qts ac O hρ hρ0 hh _ _ _ h h4⟩
 |arrA T k rows=>
  have hR: ∀(aa rs:List (List AV)) (vs:List Value),FF π aa rs->BG S k rs vs->BG S' k aa vs:=by
   intro aa;induction aa with
   |nil=>intro rs vs _ _;simp only[BG]
   |cons x r ih=>
    intro rs vs h hc;cases rs with
    |nil=>exact h.elim
    |cons y s=>
     simp only[BG] at hc⊢;have hP: ∀(xs ys:List AV) (vs:List Value),Dz π xs ys->Cz S ys vs->Cz S' xs vs:=by
      intro xs;induction xs with
      |nil=>intro ys vs _ _;simp only[Cz]
      |cons a l af=>
       intro ys vs h hc;cases ys with
       |nil=>simp only[Dz] at h
       |cons b t=>
        simp only[Dz] at h;simp only[Cz] at hc⊢;obtain⟨v,w,rfl,h1,Z⟩:=hc;exact⟨v,w,rfl,Qyf ac O hρ hρ0 hh a b v h.1 h1,af t w h.2 Z⟩
     exact⟨by rw[<-hc.1];exact (MO h.1).symm,hP _ _ _ h.1 hc.2.1,ih s _ h.2 hc.2.2⟩
  have ab: ∀(z:List (List AV)),FF π rows z->Ao S l (.arrA T k z)->Ao S' l (.arrA T k rows):=by
   intro z h Q;simp only[Ao] at Q⊢;rw[<-Qya h];refine⟨Q.1,?_⟩;cases l with
   |none=>
    have Z:=Q.2;simp only at Z;subst Z;cases rows with
    |nil=>rfl
    |cons x r=>exact h.elim
   |some lc=>
    obtain⟨h0,h1,vs,Z,h3,h4⟩:=Q;exact⟨h1,vs,by rw[O];exact Z,h3,hR _ _ _ h h4⟩
  cases e<;>simp only[Ej] at h
  case arrA U k' z=>
   obtain⟨rfl,rfl,h⟩:=h;exact ab z h Q
  case arr U k' z=>
   obtain⟨rfl,rfl,h⟩:=h;refine ab (Bo z) h ?_;simp only[Ao] at Q⊢;rw[show (Bo z).length=z.length by simp[Bo]];refine⟨Q.1,?_⟩;cases l with
   |none=>have Z:=Q.2;simp only at Z;subst Z;rfl
   |some lc=>
    obtain⟨h0,h1,vs,Z,h3,h4⟩:=Q;exact⟨h1,vs,Z,h3,lN _ _ h4⟩
 |arr T k rows=>
  cases e<;>simp only[Ej] at h
  case arr U k' z=>
   rw[h] at Q;exact HF hp (λlc _=>by rw[O]) _ (by simp[Ac.nms]) Q
  case arrA U k' z=>
   obtain⟨rfl,rfl,rfl⟩:=h;have ad:Ao S l (.arr T k rows):=by
    simp only[Ao] at Q⊢;rw[show (Bo rows).length=rows.length by simp[Bo]] at Q;refine⟨Q.1,?_⟩;cases l with
    |none=>
     have Z:=Q.2;simp only[Bo,ZdG] at Z;exact Z
    |some lc=>
     obtain⟨h0,h1,vs,Z,h3,h4⟩:=Q;exact⟨h1,vs,Z,h3,M8 _ _ h4⟩
   exact HF hp (λlc _=>by rw[O]) _ (by simp[Ac.nms]) ad
 |map kt es=>
  simp only[Ej] at h;subst h;exact HF hp (λlc _=>by rw[O]) _ (by simp[Ac.nms]) Q
 |chan q c=>
  simp only[Ej] at h;subst h;exact HF hp (λlc _=>by rw[O]) _ (by simp[Ac.nms]) Q
 |iter q0 q=>
  simp only[Ej] at h;subst h;exact HF hp (λlc _=>by rw[O]) _ (by simp[Ac.nms]) Q
 |view q=>
  simp only[Ej] at h;subst h;exact HF hp (λlc _=>by rw[O]) _ (by simp[Ac.nms]) Q
def nZ{π:List (Nat×Option Nat)}: ∀(H:An),Cj (DC π H)=true-> ∀n n' e e' m,hget H n=some e->hget H n'=some e'->pm π n=some m->pm π n'=some m->n=n'
 |[],_,n,n',e,e',m,h,_,_,_=>by simp[hget] at h
 |(q,x)::H,hn,n,n',e,e',m,h,h',hp,hp'=>by
  have Z: ∀n e,hget H n=some e-> ∀m,pm π n=some m->some m∈DC π H:=by
   intro n e;clear hn h h' hp hp';induction H with
   |nil=>intro h;simp[hget] at h
   |cons y H ih=>
    obtain⟨q',z⟩:=y;intro h m hm;simp only[hget] at h;simp only[DC,Br];cases hq:q'==n<;>rw[hq] at h
    .exact .inr (ih (by simpa using h) m hm)
    .have:q'=n:=by simpa using hq
     subst this;exact .inl hm.symm
  have aa:Cj (DC π H)=true:=by
   simp only[DC] at hn;cases hq:pm π q<;>rw[hq] at hn<;>simp only[Cj,AY] at hn
   .exact hn
   .exact hn.2
  simp only[hget] at h h';by_cases Q:q=n<;>by_cases O:q=n'
  .rw[<-Q,<-O]
  .subst Q
   have:(q==n')=false:=by simpa using O
   rw[this] at h';have hm:=Z n' e' (by simpa using h') m hp';simp only[DC,hp,Cj,AY,QJ] at hn
   have:=hn.1
   rw[Jr.2 hm] at this;cases this
  .subst O
   have:(q==n)=false:=by simpa using Q
   rw[this] at h;have hm:=Z n e (by simpa using h) m hp;simp only[DC,hp',Cj,AY,QJ] at hn
   have:=hn.1
   rw[Jr.2 hm] at this;cases this
  .have h1:(q==n)=false:=by simpa using Q
   have h2:(q==n')=false:=by simpa using O
   rw[h1] at h;rw[h2] at h';exact nZ H aa n n' e e' m (by simpa using h) (by simpa using h') hp hp'
def Qll{π:List (Nat×Option Nat)}{s:Az}: ∀(H:An),EJ π s H-> ∀n e',hget H n=some e'->Cx s π e'.1 e'.2 (pm π n)
 |[],_,n,e',h=>by simp[hget] at h
 |(q,(O,x))::H,z,n,e',h=>by
  simp only[EJ] at z;simp only[hget] at h;cases hq:q==n<;>rw[hq] at h
  .exact Qll H z.2 n e' (by simpa using h)
  .have:q=n:=by simpa using hq
   subst this;simp only[Cg,AN] at h;subst h;exact z.1
def Qqi{π:List (Nat×Option Nat)}{s:Az}: ∀(T:List (Nat×AV)),GH π s T-> ∀t,AE T t= .any\/mt π (AE T t) (AE s.tm t)
 |[],_,t=> .inl rfl
 |(q,x)::T,z,t=>by
  simp only[GH] at z;simp only[AE];cases hq:q==t
  .simpa using Qqi T z.2 t
  .have:q=t:=by simpa using hq
   subst this;exact .inr (by simpa using z.1)
def Rx{C:Bb}{N lo:Nat}{π:List (Nat×Option Nat)}{s s':Az}{a:Act}{w:World}(hc:BN C N s a w)(hs:Av lo π s s')(hg:s'.good=true)(ao:C.n0<=lo)(am:C.n0<=s'.nx):BN C N s' a w:=by
 obtain⟨S,rfl,hc⟩:=hc;obtain⟨ak,ac,hT,hH⟩:=hs;simp only[Az.good,AY] at hg;obtain⟨ah,ai,aj⟩:=hg
 let S':A7:=⟨λn=>match pm π n with
  |some m=>S.ρ m
  |none=>none,S.ok,hget s'.h,S.w⟩
 have hρ: ∀n m,pm π n=some m->S'.ρ n=S.ρ m:=by intro n m h;simp only[S',h]
 have hρ0: ∀n,pm π n=none->S'.ρ n=none:=by intro n h;simp only[S',h]
 have Q: ∀n m,pm π n=some m-> ∀e',S'.h n=some e'-> ∃e,S.h m=some e/\e.1=e'.1/\Ej π e'.2 e.2:=by
  intro n m hp e' z;have O:=Qll _ hH n e' z;rw[hp] at O;simp only[Cx] at O;cases hx:hget s.h m with
  |none=>rw[hx] at O;exact O.elim
  |some e=>
   obtain⟨mu,e⟩:=e;rw[hx] at O;exact⟨(mu,e),(hc.h m).trans hx,O.1,O.2⟩
 have hh: ∀n m,pm π n=some m-> ∀e',S'.h n=some e'-> ∃e,S.h m=some e/\e.2.esz=e'.2.esz/\e.2.len=e'.2.len:=by
  intro n m hp e' z;obtain⟨e,O,_,h2⟩:=Q n m hp e' z;obtain⟨h3,h4,_⟩:=Qxn h2;exact⟨e,O,h3,h4⟩
 have hW:=hc.wf;refine⟨S',rfl,⟨hW.os,hW.tape,hW.output,hW.dr,hW.size,hW.keep,hW.ok0,hW.ok1,hW.oks,?_,?_,?_,hW.gl⟩,λn=>rfl,?_,sE _ ah,?_,hc.size,hc.defers,am,?_⟩
 .intro n e' z;cases hp:pm π n with
  |some m=>
   obtain⟨e,O,_,h2⟩:=Q n m hp e' z;rw[hρ n m hp];exact Y8 (S:=S) (S':=S') rfl rfl hρ hρ0 hh h2 (hW.obj m e O)
  |none=>
   have O:=Qll _ hH n e' z;rw[hp] at O;simp only[Cx] at O;rw[hρ0 n hp];obtain⟨mu,e'⟩:=e';unfold YA at O;split at O
   .rename_i ab Z;simp only at Z;subst Z;simp[Ao]
   .rename_i ab Z;simp only at Z;subst Z;simp[Ao]
   .exact O.elim
 .intro n e' l z hl;cases hp:pm π n with
  |none=>rw[hρ0 n hp] at hl;cases hl
  |some m=>
   obtain⟨e,O,h2,h3⟩:=Q n m hp e' z;rw[hρ n m hp] at hl
   have:=hW.loc m e l O hl
   rw[<-h2,<-(Qxn h3).2.2];exact this
 .intro n n' e e' l l' he z hl aa hb ag;cases hp:pm π n with
  |none=>rw[hρ0 n hp] at hl;cases hl
  |some m=>
   cases hp':pm π n' with
   |none=>rw[hρ0 n' hp'] at aa;cases aa
   |some m'=>
    obtain⟨x,O,h2,h3⟩:=Q n m hp e he;obtain⟨x',ad,af,an⟩:=Q n' m' hp' e' z;rw[hρ n m hp] at hl;rw[hρ n' m' hp'] at aa
    have:=hW.inj m m' x x' l l' O ad hl aa hb (by rw[h2,af];exact ag)
    subst this;exact nZ _ ac n n' e e' m he z hp hp'
 .intro t;rcases Qqi _ hT t with h|h
  .rw[h];simp only[Aa]
  .exact Qyf (S:=S) (S':=S') rfl rfl hρ hρ0 hh _ _ _ h (hc.tm t)
 .intro n e he;exact⟨sC _ aj n e he,fL _ ai n e he⟩
 .intro o ho e' z;have hp:=cG π ak o (by omega);obtain⟨e,O,_,h2⟩:=Q o o hp e' z;obtain⟨e0,g1,g2,g3,g4⟩:=hc.pre o ho e O;obtain⟨h3,h4,_⟩:=Qxn h2;exact⟨e0,g1,(hρ o o hp).trans g2,h3.symm.trans g3,h4.symm.trans g4⟩
def sR(F:List Nat): ∀(H:An) (n:Nat),hget (Iz F H) n=(hget H n).map λe=>(e.1 && !F.contains n,e.2)
 |[],n=>rfl
 |(q,(z,e))::H,n=>by
  simp only[Iz,hget];cases hq:q==n
  .simpa using sR F H n
  .have:q=n:=by simpa using hq
   subst this;rfl
def Qxl{C:Bb}{N:Nat}(F:List Nat){s:Az}{a:Act}{w:World}(z:BN C N s a w):BN C N (SO F s) a w:=by
 obtain⟨S,rfl,z⟩:=z;have hp:=HE S (λn=> !F.contains n);refine⟨S.ice (λn=> !F.contains n),rfl,VY z.wf,λn=> ?_,λt=>Jg hp _ _ (λ_ _=>trivial) (z.tm t),z.nmT,?_,z.size,z.defers,z.n0,?_⟩
 .show (S.h n).map _=hget (Iz F s.h) n;rw[sR,z.h n]
 .intro n e O;have O:hget (Iz F s.h) n=some e:=O;rw[sR] at O;simp only[D4] at O;obtain⟨x,hx,rfl⟩:=O;exact z.nmH n x hx
 .intro o ho e' Q;obtain⟨e,Z,rfl⟩:=VR Q;exact z.pre o ho e Z
def Uw{o p:Nat}{x:Option Am}: ∀m∈(FH o p x).nms,m∈(AV.ptr o p).nms:=by
 intro m z;unfold FH at z;split at z<;>try exact z
 rename_i O;cases ha:DA (O.drop p) with
 |none=>rw[ha] at z;exact z
 |some ds=>rw[ha] at z;simp[JG,AV.nms] at z
mutual
def Mw(F:List Nat)(H:An): ∀(x:AV),∀m∈(x.fzA F H).nms,m∈x.nms
 | .own n,m,z=>by
   simp only[AV.fzA] at z;cases hF:F.contains n<;>rw[hF] at z
   .simpa using z
   .simp only[Cg] at z;cases hh:hget H n with
    |none=>rw[hh] at z;simpa[Lw] using z
    |some e=>
     obtain⟨Q,e⟩:=e;rw[hh] at z;cases e<;>simp only[Lw,H6] at z<;>first|exact z|(simp[AV.nms] at z)
 | .agg O,m,z=>by
   simp only[AV.fzA,AV.nms] at z⊢;exact Qng F H O m z
 | .any,m,z=>by simpa only[AV.fzA] using z
 | .im d,m,z=>by simpa only[AV.fzA] using z
 | .tup O,m,z=>by simpa only[AV.fzA] using z
 | .ptr o p,m,z=>by
   simp only[AV.fzA] at z;cases hF:F.contains o<;>rw[hF] at z
   .exact z
   .simp only[Cg] at z;cases hG:F.contains (o+4000000000)<;>rw[hG] at z
    .exact z
    .exact Uw m z
 | .eptr o i p,m,z=>by simpa only[AV.fzA] using z
 | .mp o,m,z=>by simpa only[AV.fzA] using z
 | .ch o,m,z=>by simpa only[AV.fzA] using z
 | .it o,m,z=>by simpa only[AV.fzA] using z
 | .osl o a n,m,z=>by simpa only[AV.fzA] using z
 | .clo f a c,m,z=>by simpa only[AV.fzA] using z
def Qng(F:List Nat)(H:An): ∀(xs:List AV),∀m∈Au (DL F H xs),m∈Au xs
 |[],m,z=>by simpa[DL] using z
 |x::r,m,z=>by
  simp only[DL,Au,B7] at z⊢;exact z.imp (Mw F H x m) (Qng F H r m)
end
def oH(F:List Nat)(H:An): ∀(xs:List (List AV)),∀m∈B8 (DM F H xs),m∈B8 xs
 |[],m,z=>by simpa[DM] using z
 |x::r,m,z=>by
  simp only[DM,B8,B7] at z⊢;exact z.imp (Qng F H x m) (oH F H r m)
def SQ(F:List Nat)(H:An)(e:Ac): ∀m∈(e.fzA F H).nms,m∈e.nms:=by
 intro m z;cases e<;>simp only[Ac.fzA,Ac.nms] at z⊢ <;>try exact z
 .exact Qng F H _ m z
 .exact oH F H _ m z
def Qrp(F:List Nat)(H:An): ∀(xs:List (List AV)),(DM F H xs).length=xs.length
 |[]=>rfl
 |x::r=>by simp only[DM,Dx,Qrp F H r]
def Qzt(F:List Nat)(H:An): ∀(xs:List AV),(DL F H xs).length=xs.length
 |[]=>rfl
 |x::r=>by simp only[DL,Dx,Qzt F H r]
def Qtj(F:List Nat)(H:An)(e:Ac):(e.fzA F H).esz=e.esz/\(e.fzA F H).len=e.len/\(e.fzA F H).isView=e.isView:=by
 cases e<;>simp[Ac.fzA,Ac.esz,Ac.len,Ac.isView,Qrp]
def Qrq(F:List Nat)(H:An): ∀(T:List (Nat×AV)) (t:Nat),AE (I6 F H T) t=(AE T t).fzA F H
 |[],t=>by simp only[I6,AE,AV.fzA]
 |(q,x)::T,t=>by
  simp only[I6,AE];cases hq:q==t
  .simpa using Qrq F H T t
  .rfl
def Qss(F:List Nat)(H0:An): ∀(H:An) (n:Nat),hget (I5 F H0 H) n=(hget H n).map λe=>(e.1 && !F.contains n,e.2.fzA F H0)
 |[],n=>rfl
 |(q,(z,e))::H,n=>by
  simp only[I5,hget];cases hq:q==n
  .simpa using Qss F H0 H n
  .have:q=n:=by simpa using hq
   subst this;rfl
section
variable {C:Bb}{S:A7}{F:List Nat}{H:An}(hW:Wf C S)(hH: ∀n e,F.contains n=true->hget H n=some e->S.h n=some (false,e.2))
include hW hH
def P7{n:Nat}{v:Value}(hF:F.contains n=true)(h:Aa S (.own n) v):Aa S (Lw n (hget H n)) v:=by
 cases hh:hget H n with
 |none=>exact h
 |some e=>
  have O:=hH n e hF hh;obtain⟨mu,e⟩:=e;cases e<;>simp only[Lw,H6]<;>try exact h
  rename_i U w rows;simp only[Aa] at h⊢;have Z:=h.2 _ O;have z:=hW.obj n _ O;have aa:=λl=>hW.loc n _ l O
  simp only[Ao] at z;simp only[rd];cases hl:S.ρ n with
  |none=>
   rw[hl] at Z z;exact .inl ⟨.inl Z,z.2⟩
  |some l=>
   rw[hl] at Z z;have Q:=(aa l hl).2;simp only[Ac.isView,Df,LV,CO] at Q;obtain⟨g0,g1,vs,g2,g3,g4⟩:=z;exact .inr ⟨l.b,l.p,l.cap,vs,U,(0,0),Z,by simp,g1,g0,Q,g2,g4⟩
def PD{n p:Nat}{v:Value}(hF:F.contains n=true)(h:Aa S (.ptr n p) v):Aa S (FH n p (hget H n)) v:=by
 cases hh:hget H n with
 |none=>exact h
 |some e=>
  have z:=hH n e hF hh;obtain⟨mu,e⟩:=e;cases e<;>simp only[FH]<;>try exact h
  rename_i T Z;cases ha:DA (Z.drop p) with
  |none=>exact h
  |some ds=>
   simp only[JG,Aa,rd];simp only[Aa] at h;obtain⟨l,hl,rfl⟩:=h.2 _ z;have O:=hW.obj n _ z;rw[hl] at O;simp only[Ao] at O;obtain⟨lc,vs,h3,h4,h5,h6⟩:=O;cases h3;have Q:=(hW.loc n _ l z hl).2;simp only[Ac.isView,Df,LV,CO] at Q;refine⟨l.b,l.p+p,vs,T,(0,0),rfl,Q,h5,?_⟩;rw[h4,FN];have h7: ∀(n:Nat) (a:List AV) (b:List Value),AO S a b->AO S (a.drop n) (b.drop n):=by
    intro n;induction n with
    |zero=>intro a b h;simpa using h
    |succ n ih=>
     intro a b h;cases a with
     |nil=>simp only[AO] at h;subst h;simp[AO]
     |cons x a=>
      simp only[AO] at h;obtain⟨v,r,rfl,_,h⟩:=h;simpa using ih a r h
   exact Qse ds _ (Qov _ ds _ ha (h7 p Z _ h6))
mutual
def Qte: ∀(x:AV) (v:Value),Aa S x v->Aa S (x.fzA F H) v
 | .own n,v,h=>by
   simp only[AV.fzA];cases hF:F.contains n
   .exact h
   .exact P7 hW hH hF h
 | .agg z,v,h=>by
   simp only[AV.fzA,Aa] at h⊢;obtain⟨O,rfl,h⟩:=h;exact⟨O,rfl,Qom _ _ h⟩
 | .any,v,h=>by simpa only[AV.fzA] using h
 | .im d,v,h=>by simpa only[AV.fzA] using h
 | .tup z,v,h=>by simpa only[AV.fzA] using h
 | .ptr o p,v,h=>by
   simp only[AV.fzA];cases hF:F.contains o
   .exact h
   .simp only[Cg];cases hG:F.contains (o+4000000000)
    .exact h
    .exact PD hW hH hF h
 | .eptr o i p,v,h=>by simpa only[AV.fzA] using h
 | .mp o,v,h=>by simpa only[AV.fzA] using h
 | .ch o,v,h=>by simpa only[AV.fzA] using h
 | .it o,v,h=>by simpa only[AV.fzA] using h
 | .osl o a n,v,h=>by simpa only[AV.fzA] using h
 | .clo f a c,v,h=>by simpa only[AV.fzA] using h
def Qom: ∀(xs:List AV) (vs:List Value),AO S xs vs->AO S (DL F H xs) vs
 |[],_,h=>by simpa only[DL] using h
 |x::l,vs,h=>by
  simp only[DL,AO] at h⊢;obtain⟨v,r,rfl,z,O⟩:=h;exact⟨v,r,rfl,Qte x v z,Qom l r O⟩
end
def Quw: ∀(xs:List AV) (vs:List Value),Cz S xs vs->Cz S (DL F H xs) vs
 |[],_,h=>by simp only[DL,Cz]
 |x::l,vs,h=>by
  simp only[DL,Cz] at h⊢;obtain⟨v,r,rfl,z,O⟩:=h;exact⟨v,r,rfl,Qte hW hH x v z,Quw l r O⟩
def Qu9(k:Nat): ∀(xs:List (List AV)) (vs:List Value),BG S k xs vs->BG S k (DM F H xs) vs
 |[],_,h=>by simp only[DM,BG]
 |x::l,vs,h=>by
  simp only[DM,BG] at h⊢;exact⟨by rw[Qzt];exact h.1,Quw hW hH x vs h.2.1,Qu9 k l _ h.2.2⟩
def Pp{l:Option FS}(e:Ac)(h:Ao S l e):Ao S l (e.fzA F H):=by
 cases e<;>simp only[Ac.fzA]<;>try exact h
 .simp only[Ao] at h⊢;obtain⟨lc,vs,O,z,Q,Z⟩:=h;exact⟨lc,vs,O,z,Q,Qom hW hH _ _ Z⟩
 .rename_i T k rows;simp only[Ao,Qrp] at h⊢;refine⟨h.1,?_⟩;cases l with
  |none=>
   have z:=h.2;simp only at z;subst z;rfl
  |some lc=>
   obtain⟨h0,O,vs,z,Q,Z⟩:=h;exact⟨O,vs,z,Q,Qu9 hW hH k _ _ Z⟩
end
def tT{C:Bb}{N:Nat}(F:List Nat){s:Az}{a:Act}{w:World}(Q:BN C N s a w):BN C N (SR F s) a w:=by
 obtain⟨S,rfl,ab⟩:=Qxl F Q;clear Q;have Q:=ab;clear ab
 let S':A7:=⟨S.ρ,S.ok,hget (I5 F s.h s.h),S.w⟩
 have aa: ∀n,S.h n=(hget s.h n).map λe=>(e.1 && !F.contains n,e.2):=by
  intro n;rw[Q.h n];exact sR F s.h n
 have hH: ∀n e,F.contains n=true->hget s.h n=some e->S.h n=some (false,e.2):=by
  intro n e hF he;rw[aa,he];simp only[Dh,hF,mS,bI]
 have O: ∀n e',S'.h n=some e'-> ∃e,S.h n=some e/\e'.1=e.1/\e'.2=e.2.fzA F s.h:=by
  intro n e' z;have z:hget (I5 F s.h s.h) n=some e':=z;rw[Qss] at z;simp only[D4] at z;obtain⟨x,hx,rfl⟩:=z;exact⟨(x.1 && !F.contains n,x.2),by rw[aa,hx];rfl,rfl,rfl⟩
 have hp:BP (λ_=>True) S S':=⟨λb hb=>⟨hb,rfl⟩,λo _ e' z=>by
  obtain⟨e,Z,h2,h3⟩:=O o e' z;obtain⟨g1,g2,_⟩:=Qtj F s.h e.2;exact⟨e,Z,rfl,by rw[h3];exact g1,by rw[h3];exact g2⟩⟩
 have hW:=Q.wf;refine⟨S',rfl,⟨hW.os,hW.tape,hW.output,hW.dr,hW.size,hW.keep,hW.ok0,hW.ok1,hW.oks,?_,?_,?_,hW.gl⟩,λn=>rfl,?_,?_,?_,Q.size,Q.defers,Q.n0,?_⟩
 .intro o e' z;obtain⟨e,Z,h2,h3⟩:=O o e' z;rw[h3];exact HF hp (λlc _=>rfl) _ (λ_ _=>trivial) (Pp hW hH e.2 (hW.obj o e Z))
 .intro o e' l z hl;obtain⟨e,Z,h2,h3⟩:=O o e' z
  have:=hW.loc o e l Z hl
  rw[h2,h3,(Qtj F s.h e.2).2.2];exact this
 .intro o o' e e' l l' he z hl ag hb af;obtain⟨x,Z,h2,h3⟩:=O o e he;obtain⟨x',ac,ad,ah⟩:=O o' e' z;exact hW.inj o o' x x' l l' Z ac hl ag hb (by rw[<-h2,<-ad];exact af)
 .intro t;show Aa S' (AE (I6 F s.h s.tm) t) _;rw[Qrq];exact Jg hp _ _ (λ_ _=>trivial) (Qte hW hH _ _ (Q.tm t))
 .intro t m hm;have hm:m∈(AE (I6 F s.h s.tm) t).nms:=hm;rw[Qrq] at hm;exact Q.nmT t m (Mw F s.h _ m hm)
 .intro n e he;have he:hget (I5 F s.h s.h) n=some e:=he;rw[Qss] at he;simp only[D4] at he;obtain⟨x,hx,rfl⟩:=he;have Z:hget (SO F s).h n=some (x.1 && !F.contains n,x.2):=by
   show hget (Iz F s.h) n=_;rw[sR,hx];rfl
  obtain⟨g1,g2⟩:=Q.nmH n _ Z;exact⟨g1,λm hm=>g2 m (SQ F s.h x.2 m hm)⟩
 .intro o ho e' z;obtain⟨e,Z,h2,h3⟩:=O o e' z;obtain⟨e0,g1,g2,g3,g4⟩:=Q.pre o ho e Z;obtain⟨q1,q2,_⟩:=Qtj F s.h e.2;exact⟨e0,g1,g2,by rw[h3,q1];exact g3,by rw[h3,q2];exact g4⟩
def Og{p:Nat->Prop}: ∀n,p n-> ∃m,p m/\ ∀k,k<m-> ¬p k:=by
 intro n;induction n using Nat.strongRecOn with
 |_ n ih=>
  intro hn;by_cases h: ∃k,k<n/\p k
  .obtain⟨k,O,z⟩:=h;exact ih k O z
  .exact⟨n,hn,λk O z=>h ⟨k,O,z⟩⟩
section
variable {P:Program}{V:Dn}{C:Bb}{N:Nat}
def ZX{x:Ct}{Q:Ct}{next:Act->World->Prop}(Z: ∀s a w,x .normal s->BN C N s a w->next a w)(h2: ∀i s,x (.exit i) s->Q (.exit i) s)(h3: ∀s,x .ret s->Q .ret s):
 ∀e a w,Hb C N x e a w->Exit.then next (Hb C N Q) e a w:=by
 intro e a w h;cases e<;>simp only[Hb] at h<;>simp only[Exit.then,Hb]
 .obtain⟨s,O,z⟩:=h;exact Z s a w O z
 .obtain⟨s,O,z⟩:=h;exact⟨s,h2 _ s O,z⟩
 .obtain⟨s,O,z⟩:=h;exact⟨s,h3 s O,z⟩
def Qo4(HM:P.follows .mixedOrders=true)(HV:Ii P V): ∀(c:Code),Eu N c=true-> ∀(Q:Ct) (s:Az) (a:Act) (w:World),Di P V c Q s->BN C N s a w->c.wp P (Hb C N Q) a w:=by
 intro c;induction c with
 |skip=>intro _ Q s a w h O;exact wp_skip ⟨s,h,O⟩
 |region id ops ao=>
  intro hk Q s a w h O;simp only[Eu,AY] at hk;cases ao with
  |true=>exact Qtk HM HV (λs a w h1 h2=>⟨s,h1,h2⟩) hk.1 (by simpa using hk.2) h O
  |false=>exact Qt0 HV (λs a w h1 h2=>⟨s,h1,h2⟩) hk.1 h O
 |seq x y am an=>
  intro hk Q s a w h O;simp only[Eu,AY] at hk;simp only[Di] at h;refine wp_seq (wp_mono (am hk.1 _ s a w h O) (ZX ?_ ?_ ?_))
  .intro s a w hs O;exact an hk.2 Q s a w hs O
  .intro i s hs;exact hs
  .intro s hs;exact hs
 |cond c x y am an=>
  intro hk Q s a w h O;simp only[Eu,AY] at hk;simp only[Di] at h;obtain⟨S,aq,ak⟩:=O;have h1:=Ru ak c;cases hv:Ay s.tm c<;>rw[hv] at h<;>try exact h.elim
  rename_i d;cases d<;>try exact h.elim
  rename_i b;rw[hv] at h1;simp only[Aa,rd] at h1;simp only[uH] at h;refine wp_cond_split h1 (λhb=>am hk.1 Q s a w (h.1 hb) ⟨S,aq,ak⟩) (λhb=>an hk.2 Q s a w (h.2 hb) ⟨S,aq,ak⟩)
 |block id c ih=>
  intro hk Q s a w h O;simp only[Di] at h;refine wp_block (wp_mono (ih hk _ s a w h O) ?_);intro e a w he;cases e<;>simp only[Hb] at he<;>simp only[Exit.inBlock,Hb]
  .exact he
  .rename_i i;obtain⟨s,hs,O⟩:=he;simp only[mG] at hs;by_cases hi:i=id
   .subst hi;rw[Ai rfl];exact⟨s,by simpa[Jy] using hs,O⟩
   .rw[Af hi]
    have:(i==id)=false:=by simpa using hi
    rw[this] at hs;exact⟨s,hs,O⟩
  .exact he
 |loop c ih=>
  intro hk Q s a w h O;have aj: ∀(s:Az),aH (Di P V c) Q s->BN C N s a w->(Code.loop c).wp P (Hb C N Q) a w:=by
   clear h O;intro s h O;simp only[aH] at h;obtain⟨β,I,μ,z,⟨b0,af⟩,Z⟩:=h
   let p:Act->World->Nat->Prop:=λa w n=> ∃b,BN C N (I b) a w/\μ b=n
   let μ':Act->World->Nat:=λa w=>Classical.epsilon λn=>p a w n/\ ∀k,k<n-> ¬p a w k
   have hμ: ∀a w b,BN C N (I b) a w->p a w (μ' a w)/\ ∀k,k<μ' a w-> ¬p a w k:=by
    intro a w b hb;exact mN (p:=λn=>p a w n/\ ∀k,k<n-> ¬p a w k) (Og (μ b) ⟨b,hb,rfl⟩)
   have ac: ∀b,C.n0<=(I b).nx:=by
    intro b;obtain⟨S,_,h⟩:=O;exact CS h.n0 (z b).2
   refine wp_loop (λa w=> ∃b,BN C N (I b) a w) μ' ⟨b0,mA O af (z b0).1 (ac b0)⟩ ?_;rintro a w ⟨b,hb⟩;obtain⟨⟨b1,ag,av⟩,_⟩:=hμ a w b hb;refine wp_mono (ih hk _ _ a w (Z b1) ag) (ZX ?_ ?_ ?_)
   .rintro s' a' w' ⟨b',au,ad⟩ ah;have aa:=mA ah ad (z b').1 (ac b');refine⟨⟨b',aa⟩,?_⟩;obtain⟨_,ab⟩:=hμ a' w' b' aa;rcases Gd (μ b') (μ' a' w') with h1|h1
    .exact absurd ⟨b',aa,rfl⟩ (ab _ h1)
    .omega
   .intro i s hs;exact hs
   .intro s hs;exact hs
  simp only[Di,Ba] at h;rcases h with h|h|⟨F,h⟩|h
  .exact aj s h O
  .simp only[Qsi] at h;obtain⟨β,I,μ,z,⟨b0,π0,af⟩,Z⟩:=h
   let p:Act->World->Nat->Prop:=λa w n=> ∃b,BN C N (I b) a w/\μ b=n
   let μ':Act->World->Nat:=λa w=>Classical.epsilon λn=>p a w n/\ ∀k,k<n-> ¬p a w k
   have hμ: ∀a w b,BN C N (I b) a w->p a w (μ' a w)/\ ∀k,k<μ' a w-> ¬p a w k:=by
    intro a w b hb;exact mN (p:=λn=>p a w n/\ ∀k,k<n-> ¬p a w k) (Og (μ b) ⟨b,hb,rfl⟩)
   have ai:C.n0<=s.nx:=by
    obtain⟨S,_,h⟩:=O;exact h.n0
   have ac: ∀b,C.n0<=(I b).nx:=by
    intro b;obtain⟨S,_,h⟩:=O;exact CS h.n0 (z b).2
   refine wp_loop (λa w=> ∃b,BN C N (I b) a w) μ' ⟨b0,Rx O af (z b0).1 ai (ac b0)⟩ ?_;rintro a w ⟨b,hb⟩;obtain⟨⟨b1,ag,av⟩,_⟩:=hμ a w b hb;refine wp_mono (ih hk _ _ a w (Z b1) ag) (ZX ?_ ?_ ?_)
   .rintro s' a' w' ⟨b',π,au,ad⟩ ah;have aa:=Rx ah ad (z b').1 ai (ac b');refine⟨⟨b',aa⟩,?_⟩;obtain⟨_,ab⟩:=hμ a' w' b' aa;rcases Gd (μ b') (μ' a' w') with h1|h1
    .exact absurd ⟨b',aa,rfl⟩ (ab _ h1)
    .omega
   .intro i s hs;exact hs
   .intro s hs;exact hs
  .exact aj _ h (Qxl F O)
  .simp only[Qsf] at h;obtain⟨β,I,μ,z,⟨b0,F0,π0,af⟩,Z⟩:=h
   let p:Act->World->Nat->Prop:=λa w n=> ∃b,BN C N (I b) a w/\μ b=n
   let μ':Act->World->Nat:=λa w=>Classical.epsilon λn=>p a w n/\ ∀k,k<n-> ¬p a w k
   have hμ: ∀a w b,BN C N (I b) a w->p a w (μ' a w)/\ ∀k,k<μ' a w-> ¬p a w k:=by
    intro a w b hb;exact mN (p:=λn=>p a w n/\ ∀k,k<n-> ¬p a w k) (Og (μ b) ⟨b,hb,rfl⟩)
   have ai:C.n0<=s.nx:=by
    obtain⟨S,_,h⟩:=O;exact h.n0
   have ac: ∀b,C.n0<=(I b).nx:=by
    intro b;obtain⟨S,_,h⟩:=O;exact CS h.n0 (z b).2
   refine wp_loop (λa w=> ∃b,BN C N (I b) a w) μ' ⟨b0,Rx (tT F0 O) af (z b0).1 ai (ac b0)⟩ ?_;rintro a w ⟨b,hb⟩;obtain⟨⟨b1,ag,av⟩,_⟩:=hμ a w b hb;refine wp_mono (ih hk _ _ a w (Z b1) ag) (ZX ?_ ?_ ?_)
   .rintro s' a' w' ⟨b',F,π,au,ad⟩ ah;have aa:=Rx (tT F ah) ad (z b').1 ai (ac b');refine⟨⟨b',aa⟩,?_⟩;obtain⟨_,ab⟩:=hμ a' w' b' aa;rcases Gd (μ b') (μ' a' w') with h1|h1
    .exact absurd ⟨b',aa,rfl⟩ (ab _ h1)
    .omega
   .intro i s hs;exact hs
   .intro s hs;exact hs
 |exit id=>intro _ Q s a w h O;exact wp_exit ⟨s,h,O⟩
 |ret=>intro _ Q s a w h O;exact wp_ret ⟨s,h,O⟩
 |_=>intro hk;simp[Eu] at hk
end
def lV(P:Program)(g:FuncId):Prop:=g<1000000000/\ ∃fn,P.funcs[g]? =some fn/\(fn.name== "runtime.NumGoroutine")=false/\fn.body.isNone=false
def QY(P:Program)(g:FuncId)(args:List AV)(h:Nat->Option Am)(nx:Nat)(r:AV)(E:B5):Prop:=
 ∀(C:Bb) (S:A7) (vs:Array Value) (R:Ending->World->Prop),
  Wf C S->(∀n∈E.use++E.kill,S.h n=h n)->(∀n,Fr nx E.cnt n->S.h n=none)->
  (∀n e,S.h n=some e-> ∀m∈e.2.nms,¬Fr nx E.cnt m)->
  AO S args vs.toList->
  (∀v S',Wf C S'->S'.h=E.appf S.h->BP (λm=> ¬Fr nx E.cnt m) S S'->Aa S' r v->R (.returned v) S'.w)->
  Calls P g vs S.w R
def KJ(P:Program)(V:Dn):Prop:= ∀g args h nx K,V g args h nx K->lV P g/\ ∃r E,QY P g args h nx r E/\K r E
def yQ{P:Program}{g:FuncId}(h:lV P g)(args:Array Value)(w:World):(callFunc g args).run P w= .ok (.enter g args) w:=by
 obtain⟨_,fn,Q,Z,h3⟩:=h;have z:fn.name≠ "runtime.NumGoroutine" :=by simpa using Z
 have O:fn.body≠none:=by intro h;simp[h] at h3
 simp[callFunc,Q,z,O]
def Qpe{S:A7}{tm:List (Nat×AV)}{a:Act}: ∀(xs:List Operand),(∀x∈xs,Aa S (Ay tm x) (a.eval x))->AO S (DT tm xs) (xs.map a.eval)
 |[],_=>by simp[DT,AO]
 |x::xs,h=>by
  simp only[DT,Be,AO];exact⟨_,_,rfl,h x (by simp),Qpe xs (λy z=>h y (by simp[z]))⟩
def XM{P:Program}{V:Dn}(hV:KJ P V)(tm:List (Nat×AV))(h:Nat->Option Am)(nx:Nat)(o:Oper)(c:Call)(f:Operand)(K:Ah)(ho:o.op= .call c)(z:c.callee= .value f)
 (hk:Re V (DT tm c.args.toList) h nx K (Ay tm f)):BY P tm h nx o K:=by
 have ag:f∈o.op.operands:=by rw[ho];simp[Op.operands,Call.operands,z]
 have af: ∀x∈c.args.toList,x∈o.op.operands:=by
  intro x hx;rw[ho];simp only[Op.operands,Call.operands,z];simp;exact .inr (by simpa using hx)
 have aa: ∀(g:FuncId) (fi ca:List AV),V g (fi++DT tm c.args.toList++ca) h nx K->(∀(S:A7) (v:Value),Aa S (Ay tm f) v-> ∃a b:Array Value,v= .func (Yf g) a b/\AO S fi a.toList/\AO S ca b.toList)->BY P tm h nx o K:=by
  intro g fi ca hv hf;obtain⟨O,r,E,hT,hK⟩:=hV _ _ _ _ _ hv;refine⟨r,E,?_,hK⟩;intro C S a next Q hW hu ai ad Z hn
  obtain⟨x,y,ac,hx,hy⟩:=hf S _ (Z f ag);rw[fX O.1] at ac;have ab:=Qpe c.args.toList (λx hx=>Z x (af x hx));unfold Oper.wp;have ah:(execOp a.eval o).run P S.w= .ok (.enter g (x++c.args.map a.eval++y)) S.w:=by
   simp only[execOp,ho,resolve,z,ac,Sem.run_bind];simp[Deferred.ofValue,invoke,yQ O]
  rw[ah,Oper.upon_enter];refine hT C S _ _ hW hu ai ad ?_ ?_
  .simp only[Zek,Wr];exact Qop _ _ _ _ (Qop _ _ _ _ hx ab) hy
  .intro v S' h1 h2 h3 h4;exact hn v S' h1 h2 h3 h4
 cases hf:Ay tm f<;>rw[hf] at hk<;>try exact hk.elim
 case im d=>
  cases d<;>try exact hk.elim
  rename_i g first capt
  refine aa g (first.map .im) (capt.map .im) hk ?_;intro S v hv;rw[hf] at hv;simp only[Aa,rd] at hv;obtain⟨a,b,h1,h2,h3⟩:=hv;exact⟨a,b,h1,(IW _ _).2 h2,(IW _ _).2 h3⟩
 case clo g first capt=>
  refine aa g first capt hk ?_
  intro S v hv;rw[hf] at hv;simpa only[Aa] using hv
def TA{P:Program}{t:TypeId}{m:String}{f:FuncId}(h:WM P t m=some f)(n:Nat)(v:Value)(w:World):(method (n+1) t v m).run P w= .ok (f,v) w:=by
 unfold WM at h;split at h
 .cases h
 .rename_i u z hu;unfold cA at h;split at h
  .rename_i i hi;split at h
   .rename_i mm hm;cases hp:mm.path.isEmpty with
    |false=>rw[hp] at h;cases h
    |true=>
     rw[hp,Cg] at h;split at h
     .rename_i g hg;obtain rfl:=AJ h;have O:mm.path.toList=[]:=by simpa using hp
      have Z:(typeInfo t).run P w= .ok i w:=by simp[typeInfo,hi]
      have aa:(underlying t).run P w= .ok u w:=by simp[underlying,hu]
      have Q:(receiverAt t (.val v) false (if mm.path.isEmpty then some ((m.splitOn ".").getLastD m) else none)).run P w= .ok v w:=by
       unfold receiverAt;rw[Sem.run_bind,aa];cases u<;>first|rfl|exact (z _ rfl).elim
      unfold method;simp only[Sem.run_bind,Z,Result.andThen_ok,hm,O,follow,Sem.run_pure,hg,Q]
     .cases h
   .cases h
  .cases h
 .cases h
def uK{P:Program}{V:Dn}(hV:KJ P V):Ii P V:=by
 refine⟨λtm h nx o c f K ho z _ O=>XM hV tm h nx o c f K ho z O,?_⟩;intro tm h nx o c rc m K ho z hnm O;have af:rc∈o.op.operands:=by rw[ho];simp[Op.operands,Call.operands,z]
 have ad: ∀x∈c.args.toList,x∈o.op.operands:=by
  intro x hx;rw[ho];simp only[Op.operands,Call.operands,z];simp;exact .inr (by simpa using hx)
 cases hr:Ay tm rc<;>rw[hr] at O<;>try exact O.elim
 rename_i d;cases d<;>try exact O.elim
 rename_i t d;simp only[N6] at O;cases hm:WM P t m with
 |none=>rw[hm] at O;exact O.elim
 |some g=>
 rw[hm] at O;simp only[WN] at O;obtain⟨ab,r,E,hT,hK⟩:=hV _ _ _ _ _ O;refine⟨r,E,?_,hK⟩;intro C S a next Q hW hu ah ac Z hn
 have h1:=Z rc af;rw[hr] at h1;simp only[Aa,rd] at h1;obtain⟨x,hx,ai⟩:=h1;have aa:=Qpe c.args.toList (λx hx=>Z x (ad x hx));unfold Oper.wp;have ag:(execOp a.eval o).run P S.w= .ok (.enter g (#[x]++c.args.map a.eval)) S.w:=by
  simp only[execOp,ho,resolve,z,hx,Sem.run_bind];simp[invoke,callMethod];have e0:(#[Value.iface t x]++Array.map a.eval c.args)[0]? =some (.iface t x):=by rw[Zdw (by simp)];rfl
  obtain⟨n,hn1⟩: ∃n,P.types.size+Made.depth=n+1:=⟨P.types.size+99,by simp[Made.depth]⟩;have e1:(Array.map a.eval c.args).extract 0 c.args.size=Array.map a.eval c.args:=by
   have:=Zey (xs:=Array.map a.eval c.args)
   rwa [Array.size_map] at this
  rw[e0];simp only[Sem.run_bind,run_program,Result.andThen_ok,hn1,TA hm,e1];exact yQ ab _ _
 rw[ag,Oper.upon_enter];refine hT C S _ _ hW hu ah ac ?_ ?_
 .simp only[Zek,Wr];exact⟨x,_,rfl,ai,aa⟩
 .intro v S' h1 h2 h3 h4;exact hn v S' h1 h2 h3 h4
mutual
def AV.ren(σ:Nat->Nat):AV->AV
 | .any=> .any
 | .im d=> .im d
 | .agg z=> .agg (AI σ z)
 | .tup z=> .tup (AI σ z)
 | .ptr o p=> .ptr (σ o) p
 | .eptr o i p=> .eptr (σ o) i p
 | .own o=> .own (σ o)
 | .mp o=> .mp (σ o)
 | .ch o=> .ch (σ o)
 | .it o=> .it (σ o)
 | .osl o a n=> .osl (σ o) a n
 | .clo f a c=> .clo f (AI σ a) (AI σ c)
def AI(σ:Nat->Nat):List AV->List AV
 |[]=>[]
 |x::r=>x.ren σ::AI σ r
end
def Qze(σ:Nat->Nat): ∀(l:List AV),AI σ l=l.map (AV.ren σ)
 |[]=>rfl
 |x::r=>by simp only[AI,Be,Qze σ r]
def Ac.ren(σ:Nat->Nat):Ac->Ac
 | .cells T z=> .cells T (AI σ z)
 | .arr T k rows=> .arr T k rows
 | .arrA T k rows=> .arrA T k (rows.map (AI σ))
 | .map Q O=> .map Q O
 | .chan q cap=> .chan q cap
 | .iter a l=> .iter a l
 | .view z=> .view z
def Qr6(σ:Nat->Nat)(e:Ac):(e.ren σ).esz=e.esz:=by cases e<;>rfl
def Qs6(σ:Nat->Nat)(e:Ac):(e.ren σ).len=e.len:=by cases e<;>simp[Ac.ren,Ac.len]
section
variable {S S':A7}{σ τ:Nat->Nat}
structure O9(S S':A7)(σ τ:Nat->Nat)(n:Nat):Prop where
 a: ∀e',S'.h (τ n)=some e'-> ∃e,S.h (σ n)=some e/\S'.ρ (τ n)=S.ρ (σ n)/\e'.2.esz=e.2.esz/\e'.2.len=e.2.len
mutual
def Qz8(aa: ∀b,S.ok b->S'.ok b/\S'.hp b=S.hp b): ∀(z:AV) (v:Value),(∀n∈z.nms,O9 S S' σ τ n)->Aa S (z.ren σ) v->Aa S' (z.ren τ) v
 | .any,_,_,_=>by simp only[AV.ren,Aa]
 | .im d,v,_,h=>by
   simp only[AV.ren,Aa] at h⊢;exact Hm aa d v h
 | .agg cs,v,Q,h=>by
   simp only[AV.ren,Aa,AV.nms] at h Q⊢;obtain⟨vs,rfl,h1⟩:=h;exact⟨vs,rfl,eY aa cs _ Q h1⟩
 | .tup cs,v,Q,h=>by
   simp only[AV.ren,Aa,AV.nms] at h Q⊢;obtain⟨vs,rfl,h1⟩:=h;exact⟨vs,rfl,eY aa cs _ Q h1⟩
 | .ptr o off,v,Q,h=>by
   simp only[AV.ren,Aa,AV.nms,BS,LU] at h Q⊢;obtain⟨O,h⟩:=h;refine⟨O,?_⟩;intro e' Z;obtain⟨e,he,hr,_,_⟩:=Q.a e' Z;rw[hr];exact h e he
 | .eptr o i off,v,Q,h=>by
   simp only[AV.ren,Aa,AV.nms,BS,LU] at h Q⊢;obtain⟨O,h⟩:=h;refine⟨O,?_⟩;intro e' Z;obtain⟨e,he,hr,hz,_⟩:=Q.a e' Z;rw[hr,hz];exact h e he
 | .own o,v,Q,h=>by
   simp only[AV.ren,Aa,AV.nms,BS,LU] at h Q⊢;obtain⟨O,h⟩:=h;refine⟨O,?_⟩;intro e' Z;obtain⟨e,he,hr,_,hl⟩:=Q.a e' Z;rw[hr,hl];exact h e he
 | .mp o,v,Q,h=>by
   simp only[AV.ren,Aa,AV.nms,BS,LU] at h Q⊢;obtain⟨O,h⟩:=h;refine⟨O,?_⟩;intro e' Z;obtain⟨e,he,hr,_,_⟩:=Q.a e' Z;rw[hr];exact h e he
 | .ch o,v,Q,h=>by
   simp only[AV.ren,Aa,AV.nms,BS,LU] at h Q⊢;obtain⟨O,h⟩:=h;refine⟨O,?_⟩;intro e' Z;obtain⟨e,he,hr,_,_⟩:=Q.a e' Z;rw[hr];exact h e he
 | .it o,v,Q,h=>by
   simp only[AV.ren,Aa,AV.nms,BS,LU] at h Q⊢;obtain⟨O,h⟩:=h;refine⟨O,?_⟩;intro e' Z;obtain⟨e,he,hr,_,_⟩:=Q.a e' Z;rw[hr];exact h e he
 | .osl o a n,v,Q,h=>by
   simp only[AV.ren,Aa,AV.nms,BS,LU] at h Q⊢;obtain⟨O,h⟩:=h;refine⟨O,?_⟩;intro e' Z;obtain⟨e,he,hr,hz,hl⟩:=Q.a e' Z;rw[hr,hz,hl];exact h e he
 | .clo f fi ca,v,Q,h=>by
   simp only[AV.ren,Aa,AV.nms,B7] at h Q⊢;obtain⟨a,c,rfl,h1,h2⟩:=h;exact⟨a,c,rfl,eY aa fi _ (λo ho=>Q o (.inl ho)) h1,eY aa ca _ (λo ho=>Q o (.inr ho)) h2⟩
def eY(z: ∀b,S.ok b->S'.ok b/\S'.hp b=S.hp b): ∀(Z:List AV) (vs:List Value),(∀n∈Au Z,O9 S S' σ τ n)->AO S (AI σ Z) vs->AO S' (AI τ Z) vs
 |[],_,_,h=>by simpa only[AI,AO] using h
 |x::xs,vs,Q,h=>by
  simp only[AI,AO,Au,B7] at h Q⊢;obtain⟨v,r,rfl,h1,h2⟩:=h;exact⟨v,r,rfl,Qz8 z x v (λo O=>Q o (.inl O)) h1,eY z xs r (λo O=>Q o (.inr O)) h2⟩
end
def Qt9(z: ∀b,S.ok b->S'.ok b/\S'.hp b=S.hp b): ∀(Z:List AV) (vs:List Value),(∀n∈Au Z,O9 S S' σ τ n)->Cz S (AI σ Z) vs->Cz S' (AI τ Z) vs
 |[],_,_,h=>by simp only[AI,Cz]
 |x::xs,vs,Q,h=>by
  simp only[AI,Cz,Au,B7] at h Q⊢;obtain⟨v,r,rfl,h1,h2⟩:=h;exact⟨v,r,rfl,Qz8 z x v (λo O=>Q o (.inl O)) h1,Qt9 z xs r (λo O=>Q o (.inr O)) h2⟩
def Qsc(σ:Nat->Nat)(l:List AV):(AI σ l).length=l.length:=by rw[Qze];simp
def Qva(z: ∀b,S.ok b->S'.ok b/\S'.hp b=S.hp b)(k:Nat): ∀(O:List (List AV)) (vs:List Value),(∀n∈B8 O,O9 S S' σ τ n)->BG S k (O.map (AI σ)) vs->BG S' k (O.map (AI τ)) vs
 |[],_,_,h=>by simp only[BF,BG]
 |r::O,vs,Z,h=>by
  simp only[Be,BG,B8,B7,Qsc] at h Z⊢;exact⟨h.1,Qt9 z r vs (λo Q=>Z o (.inl Q)) h.2.1,Qva z k O _ (λo Q=>Z o (.inr Q)) h.2.2⟩
def Qzw(O: ∀b,S.ok b->S'.ok b/\S'.hp b=S.hp b){l:Option FS}(hl: ∀z,l=some z->S'.hp z.b=S.hp z.b): ∀(e:Ac),(∀n∈e.nms,O9 S S' σ τ n)->Ao S l (e.ren σ)->Ao S' l (e.ren τ)
 | .cells T cs,hx,h=>by
   simp only[Ac.ren,Ao,Ac.nms] at h hx⊢;obtain⟨z,vs,Q,h2,h3,h4⟩:=h;exact⟨z,vs,Q,h2,(hl z Q).trans h3,eY O cs _ hx h4⟩
 | .arr T k rows,hx,h=>by
   simp only[Ac.ren,Ao] at h⊢;refine⟨h.1,?_⟩;cases l with
   |none=>exact h.2
   |some z=>
    obtain⟨h0,Q,vs,h2,h3,h4⟩:=h;exact⟨Q,vs,(hl z rfl).trans h2,h3,ZV O k rows _ h4⟩
 | .arrA T k rows,hx,h=>by
   simp only[Ac.ren,Ao,Ac.nms,GL] at h hx⊢;refine⟨h.1,?_⟩;cases l with
   |none=>
    have:=h.2
    simp only[ZdG] at this⊢;exact this
   |some z=>
    obtain⟨h0,Q,vs,h2,h3,h4⟩:=h;exact⟨Q,vs,(hl z rfl).trans h2,h3,Qva O k rows _ hx h4⟩
 | .map kt es,_,h=>by
   simp only[Ac.ren,Ao] at h⊢;obtain⟨z,aa,Z,Q,h0,h2,h3,h4⟩:=h;exact⟨z,aa,Z,Q,h0,(hl z Q).trans h2,LD O es _ h3,h4⟩
 | .chan q cap,_,h=>by
   simp only[Ac.ren,Ao] at h⊢;obtain⟨z,ag,af,ac,Q,h2,h3⟩:=h;exact⟨z,ag,af,ac,Q,(hl z Q).trans h2,LF O q _ h3⟩
 | .iter ab left,_,h=>by
   simp only[Ac.ren,Ao] at h⊢;obtain⟨z,mb,aa,Z,ad,Q,h2,h0,h3,h4,h5,h6,h7⟩:=h;exact⟨z,mb,aa,Z,ad,Q,(O mb h2).1,Qly O ab h0,(O mb h2).2.trans h3,(hl z Q).trans h4,h5,h6,LD O left _ h7⟩
 | .view cs,_,h=>by
   simp only[Ac.ren,Ao] at h⊢;obtain⟨z,vs,T,fr,Q,h2,h3⟩:=h;exact⟨z,vs,T,fr,Q,(hl z Q).trans h2,VV O cs _ h3⟩
mutual
def jS: ∀(z:AV),z.ren (λn=>n)=z
 | .any=>rfl
 | .im _=>rfl
 | .agg O=>by simp only[AV.ren,aE O]
 | .tup O=>by simp only[AV.ren,aE O]
 | .ptr _ _=>rfl
 | .eptr _ _ _=>rfl
 | .own _=>rfl
 | .mp _=>rfl
 | .ch _=>rfl
 | .it _=>rfl
 | .osl _ _ _=>rfl
 | .clo f a c=>by simp only[AV.ren,aE a,aE c]
def aE: ∀(z:List AV),AI (λn=>n) z=z
 |[]=>rfl
 |x::r=>by simp only[AI,jS x,aE r]
end
def Qwc(e:Ac):e.ren (λn=>n)=e:=by
 cases e<;>simp only[Ac.ren,aE];rename_i T k rows
 have:(AI λn=>n)=(id:List AV->List AV):=funext aE
 rw[this];simp
end
def Ax{α β:Type}(f:α->Option β):List α->Option (List β)
 |[]=>some []
 |x::r=>match f x,Ax f r with
  |some y,some z=>some (y::z)
  |_,_=>none
def Q9(f:AV->Option D):Option Am->Option D
 |some (_,.arr _ k rows)=>some (.sl false k rows)
 |some (_,.arrA _ k rows)=>(Ax (Ax f) rows).map (.sl false k)
 |_=>none
def X2:Option Am->Option D
 |some (_,.map O z)=>some (.mp O z)
 |_=>none
def Xw(f:AV->Option D):Option Am->Option D
 |some (_,.cells _ z)=>(Ax f z).map .ref
 |_=>none
def nN(z:List AV):Option (List D)->AV
 |some ds=> .im (.tup ds)
 |none=> .tup z
def iP(g:FuncId)(a c:List AV):Option (List D)->Option (List D)->AV
 |some ds,some z=> .im (.fn g ds z)
 |some _,none=> .clo g a c
 |none,_=> .clo g a c
def J8(g:FuncId):Option (List AV)->Option (List AV)->Option AV
 |some a,some c=>some (iP g a c (DA a) (DA c))
 |_,_=>none
def kp(x:Nat->AV)(d:Option D):Option Nat->Option AV
 |some j=>some (x j)
 |none=>d.map .im
def E8:Option AV->Option D
 |some x=>x.asD
 |none=>none
def Bf(h:Nat->Option Am)(kx:Nat->Option Nat):Nat->AV->Option AV
 |0,_=>none
 |_+1,.im d=>some (.im d)
 |_+1,.any=>some .any
 |n+1,.agg O=>(Ax (Bf h kx n) O).map λz=>Y6 z (DA z)
 |n+1,.tup O=>(Ax (Bf h kx n) O).map λz=>nN z (DA z)
 |n+1,.own o=>kp .own (Q9 (λx=>E8 (Bf h kx n x)) (h o)) (kx o)
 |_+1,.mp o=>kp .mp (X2 (h o)) (kx o)
 |n+1,.ptr o 0=>kp (λj=> .ptr j 0) (Xw (λx=>E8 (Bf h kx n x)) (h o)) (kx o)
 |_+1,.ptr o (p+1)=>kp (λj=> .ptr j (p+1)) none (kx o)
 |_+1,.eptr o i p=>kp (λj=> .eptr j i p) none (kx o)
 |_+1,.ch o=>kp .ch none (kx o)
 |_+1,.it o=>kp .it none (kx o)
 |_+1,.osl o a n=>kp (λj=> .osl j a n) none (kx o)
 |n+1,.clo g a c=>J8 g (Ax (Bf h kx n) a) (Ax (Bf h kx n) c)
section
variable {S:A7}{f:AV->Option D}
def mD(hf: ∀x d v,f x=some d->Aa S x v->rd S.ok S.hp d v): ∀(cs:List AV) (ds:List D) (vs:List Value),Ax f cs=some ds->AO S cs vs->rdl S.ok S.hp ds vs
 |[],ds,vs,h,z=>by
  simp only[Ax,AN] at h;subst h;simp only[AO] at z;simp only[rdl];exact z
 |x::cs,ds,vs,h,z=>by
  simp only[Ax] at h;simp only[AO] at z;obtain⟨v,r,rfl,Q,Z⟩:=z;split at h
  .rename_i y ys hy O;obtain rfl:=AJ h;simp only[rdl];exact⟨v,r,rfl,hf x y v hy Q,mD hf cs ys r O Z⟩
  .cases h
def T7(hf: ∀x d v,f x=some d->Aa S x v->rd S.ok S.hp d v): ∀(cs:List AV) (ds:List D) (vs:List Value),Ax f cs=some ds->Cz S cs vs->rdp S.ok S.hp ds vs
 |[],ds,vs,h,z=>by
  simp only[Ax,AN] at h;subst h;simp only[rdp]
 |x::cs,ds,vs,h,z=>by
  simp only[Ax] at h;simp only[Cz] at z;obtain⟨v,r,rfl,Q,Z⟩:=z;split at h
  .rename_i y ys hy O;obtain rfl:=AJ h;simp only[rdp];exact⟨v,r,rfl,hf x y v hy Q,T7 hf cs ys r O Z⟩
  .cases h
def fD{α β:Type}{g:α->Option β}: ∀(cs:List α) (ds:List β),Ax g cs=some ds->ds.length=cs.length
 |[],ds,h=>by simp only[Ax,AN] at h;subst h;rfl
 |x::cs,ds,h=>by
  simp only[Ax] at h;split at h
  .rename_i y O Q z;obtain rfl:=AJ h;simp[fD cs O z]
  .cases h
def T8(hf: ∀x d v,f x=some d->Aa S x v->rd S.ok S.hp d v){k:Nat}: ∀(Z:List (List AV)) (ds:List (List D)) (vs:List Value),Ax (Ax f) Z=some ds->BG S k Z vs->rdr S.ok S.hp k ds vs
 |[],ds,vs,h,z=>by
  simp only[Ax,AN] at h;subst h;simp only[rdr]
 |x::cs,ds,vs,h,z=>by
  simp only[Ax] at h;simp only[BG] at z;split at h
  .rename_i y ys Q O;obtain rfl:=AJ h;simp only[rdr];exact⟨by rw[fD x y Q];exact z.1,T7 hf x y vs Q z.2.1,T8 hf cs ys _ O z.2.2⟩
  .cases h
def Qv8{o:Nat}{e:Am}{k:Nat}{rows:List (List D)}{v:Value}(he:S.h o=some e)(hl:e.2.len=rows.length)(Z: ∀l,S.ρ o=some l->S.ok l.b)
 (z:match S.ρ o with|none=>rows=[]|some lc=>rows.length<=JT/\rows.length<=lc.cap/\ ∃Q T,S.hp lc.b=some (.cells Q T (0,0))/\rdr S.ok S.hp k rows (Q.toList.drop lc.p))(O:Aa S (.own o) v):rd S.ok S.hp (.sl false k rows) v:=by
 simp only[Aa] at O;have O:=O.2 e he;simp only[rd];cases hr:S.ρ o with
 |none=>rw[hr] at O z;exact .inl ⟨.inl O,z⟩
 |some l=>
  rw[hr] at O z;obtain⟨h0,h1,Q,T,h2,h3⟩:=z;exact .inr ⟨l.b,l.p,l.cap,Q,T,(0,0),by rw[<-hl];exact O,by simp,h1,h0,Z l hr,h2,h3⟩
end
def Mt{C:Bb}{S:A7}(hW:Wf C S){f:AV->Option D}(hf: ∀x d v,f x=some d->Aa S x v->rd S.ok S.hp d v){o:Nat}{d:D}{v:Value}(Q: ∀e l,S.h o=some e->e.2.isView=false->S.ρ o=some l->S.ok l.b)
 (h:Q9 f (S.h o)=some d)(hc:Aa S (.own o) v):rd S.ok S.hp d v:=by
 cases ho:S.h o with
 |none=>rw[ho] at h;simp[Q9] at h
 |some e=>
  rw[ho] at h;obtain⟨mu,e⟩:=e;have z:=hW.obj o _ ho;cases e<;>simp only[Q9,reduceCtorEq] at h
  .obtain rfl:=AJ h;simp only[Ao] at z;refine Qv8 ho rfl (λl hl=>Q _ l ho rfl hl) ?_ hc;cases hr:S.ρ o with
   |none=>rw[hr] at z;exact z.2
   |some l=>
    rw[hr] at z;obtain⟨h0,Z,vs,h2,_,h3⟩:=z;exact⟨h0,Z,vs,_,h2,h3⟩
  .simp only[D4] at h;obtain⟨rows,Z,rfl⟩:=h;have O:=fD _ _ Z;simp only[Ao] at z;refine Qv8 ho (by simp[Ac.len,O]) (λl hl=>Q _ l ho rfl hl) ?_ hc;cases hr:S.ρ o with
   |none=>rw[hr] at z;rw[z.2] at O;exact Wj.1 (by simpa using O)
   |some l=>
    rw[hr] at z;obtain⟨h0,h2,vs,h3,_,h4⟩:=z;exact⟨by omega,by omega,vs,_,h3,T8 hf _ _ _ Z h4⟩
def SP{C:Bb}{S:A7}(hW:Wf C S){o:Nat}{d:D}{v:Value}(Z: ∀e l,S.h o=some e->e.2.isView=false->S.ρ o=some l->S.ok l.b)
 (h:X2 (S.h o)=some d)(hc:Aa S (.mp o) v):rd S.ok S.hp d v:=by
 cases ho:S.h o with
 |none=>rw[ho] at h;simp[X2] at h
 |some e=>
  rw[ho] at h;obtain⟨mu,e⟩:=e;have Q:=hW.obj o _ ho;cases e<;>simp only[X2,reduceCtorEq] at h;obtain rfl:=AJ h;simp only[Ao] at Q;obtain⟨lc,O,z,h1,h2,h3,h4⟩:=Q;simp only[Aa] at hc;obtain⟨l,hl,hv⟩:=hc.2 _ ho;rw[h1] at hl;obtain rfl:=AJ hl;simp only[rd];exact⟨lc.b,O,z,hv,h2,Z _ lc ho rfl h1,h3,h4⟩
def Yg{C:Bb}{S:A7}(hW:Wf C S){f:AV->Option D}(hf: ∀x d v,f x=some d->Aa S x v->rd S.ok S.hp d v){o:Nat}{d:D}{v:Value}(O: ∀e l,S.h o=some e->e.2.isView=false->S.ρ o=some l->S.ok l.b)
 (h:Xw f (S.h o)=some d)(hc:Aa S (.ptr o 0) v):rd S.ok S.hp d v:=by
 cases ho:S.h o with
 |none=>rw[ho] at h;simp[Xw] at h
 |some e=>
  rw[ho] at h;obtain⟨mu,e⟩:=e;have z:=hW.obj o _ ho;cases e<;>simp only[Xw,reduceCtorEq] at h;simp only[D4] at h;obtain⟨ds,h1,rfl⟩:=h;simp only[Ao] at z;obtain⟨Q,vs,Z,h3,h4,h5⟩:=z;simp only[Aa] at hc;obtain⟨l,hl,hv⟩:=hc.2 _ ho;rw[Z] at hl;obtain rfl:=AJ hl;simp only[rd];refine⟨Q.b,Q.p+0,vs,_,_,hv,O _ Q ho rfl Z,h4,?_⟩;rw[h3];simpa using Xr _ _ (mD hf _ _ _ h1 h5)
def sU{g:AV->Option AV}: ∀(cs Q:List AV) (ds:List D),Ax g cs=some Q->DA Q=some ds->Ax (λx=>E8 (g x)) cs=some ds
 |[],Q,ds,h,O=>by
  simp only[Ax,AN] at h;subst h;simpa[DA,Ax] using O
 |x::cs,Q,ds,h,O=>by
  simp only[Ax] at h;split at h
  .rename_i z zs hz Z;obtain rfl:=AJ h;simp only[DA] at O;cases hy:z.asD with
   |none=>rw[hy] at O;simp[O7] at O
   |some d=>
    cases hys:DA zs with
    |none=>rw[hy,hys] at O;simp[O7] at O
    |some es=>
     rw[hy,hys] at O;simp only[O7,AN] at O;subst O;have h9:=sU cs zs es Z hys;have h8:E8 (g x)=some d:=by rw[hz];exact hy
     simp only[Ax,h8,h9]
  .cases h
def OP{x:Option AV}{d:D}(h:E8 x=some d):x=some (.im d):=by
 cases x with
 |none=>cases h
 |some x=>
  simp only[E8] at h;cases x<;>simp only[AV.asD,reduceCtorEq] at h;obtain rfl:=AJ h;rfl
def aU{x:Nat->AV}{d:Option D}{k:Option Nat}{e:D}(Q: ∀j,x j≠ .im e)(h:kp x d k=some (.im e)):k=none/\d=some e:=by
 cases k with
 |some j=>
  simp only[kp,AN] at h;exact absurd h (Q j)
 |none=>
  simp only[kp,D4] at h;obtain⟨d',z,O⟩:=h;cases O;exact⟨rfl,z⟩
def St{C:Bb}{S:A7}(hW:Wf C S){kx:Nat->Option Nat}(Z: ∀o e l,kx o=none->S.h o=some e->e.2.isView=false->S.ρ o=some l->S.ok l.b):
 ∀(n:Nat) (x:AV) (d:D) (v:Value),Bf S.h kx n x=some (.im d)->Aa S x v->rd S.ok S.hp d v:=by
 intro n;induction n with
 |zero=>intro x d v h;simp[Bf] at h
 |succ n ih=>
  have hf: ∀x d v,E8 (Bf S.h kx n x)=some d->Aa S x v->rd S.ok S.hp d v:=λx d v h Q=>ih x d v (OP h) Q
  intro x d v h Q;cases x with
  |im d'=>
   simp only[Bf,AN,AV.im.injEq] at h;subst h;simpa only[Aa] using Q
  |any=>simp[Bf] at h
  |agg cs=>
   simp only[Bf,D4] at h;obtain⟨ys,O,z⟩:=h;simp only[Aa] at Q;obtain⟨vs,rfl,h3⟩:=Q;cases ha:DA ys with
   |none=>rw[ha] at z;simp[Y6] at z
   |some ds=>
    rw[ha] at z;simp only[Y6,AV.im.injEq] at z;subst z;simp only[rd];exact⟨vs,rfl,mD hf cs ds _ (sU cs ys ds O ha) h3⟩
  |tup cs=>
   simp only[Bf,D4] at h;obtain⟨ys,O,z⟩:=h;simp only[Aa] at Q;obtain⟨vs,rfl,h3⟩:=Q;cases ha:DA ys with
   |none=>rw[ha] at z;simp[nN] at z
   |some ds=>
    rw[ha] at z;simp only[nN,AV.im.injEq] at z;subst z;simp only[rd];exact⟨vs,rfl,mD hf cs ds _ (sU cs ys ds O ha) h3⟩
  |own o=>
   simp only[Bf] at h;obtain⟨O,z⟩:=aU (by simp) h;exact Mt hW hf (λe l=>Z o e l O) z Q
  |mp o=>
   simp only[Bf] at h;obtain⟨O,z⟩:=aU (by simp) h;exact SP hW (λe l=>Z o e l O) z Q
  |ptr o p=>
   cases p with
   |zero=>
    simp only[Bf] at h;obtain⟨O,z⟩:=aU (by simp) h;exact Yg hW hf (λe l=>Z o e l O) z Q
   |succ p=>
    simp only[Bf] at h;obtain⟨O,z⟩:=aU (by simp) h;cases z
  |eptr o i p=>
   simp only[Bf] at h;obtain⟨O,z⟩:=aU (by simp) h;cases z
  |ch o=>
   simp only[Bf] at h;obtain⟨O,z⟩:=aU (by simp) h;cases z
  |it o=>
   simp only[Bf] at h;obtain⟨O,z⟩:=aU (by simp) h;cases z
  |osl o a k=>
   simp only[Bf] at h;obtain⟨O,z⟩:=aU (by simp) h;cases z
  |clo g a c=>
   simp only[Bf] at h;cases ha:Ax (Bf S.h kx n) a with
   |none=>rw[ha] at h;simp[J8] at h
   |some a'=>
    cases hcc:Ax (Bf S.h kx n) c with
    |none=>rw[ha,hcc] at h;simp[J8] at h
    |some c'=>
     rw[ha,hcc] at h;simp only[J8,AN] at h;cases O:DA a' with
     |none=>rw[O] at h;simp[iP] at h
     |some ds=>
      cases z:DA c' with
      |none=>rw[O,z] at h;simp[iP] at h
      |some es=>
       rw[O,z] at h;simp only[iP,AV.im.injEq] at h;subst h;simp only[Aa] at Q;obtain⟨va,vc,rfl,h3,h4⟩:=Q;simp only[rd];exact⟨va,vc,rfl,mD hf a ds _ (sU a a' ds ha O) h3,mD hf c es _ (sU c c' es hcc z) h4⟩
def Qrr{C:Bb}{S S':A7}(hW:Wf C S){kx:Nat->Option Nat}{τ:Nat->Nat}(ac: ∀b,S.ok b->S'.ok b/\S'.hp b=S.hp b)(ab: ∀o e l,kx o=none->S.h o=some e->e.2.isView=false->S.ρ o=some l->S.ok l.b)
 (Z: ∀o j,kx o=some j-> ∀e',S'.h (τ j)=some e'-> ∃e,S.h o=some e/\S'.ρ (τ j)=S.ρ o/\e'.2.esz=e.2.esz/\e'.2.len=e.2.len):
 ∀(n:Nat) (x y:AV) (v:Value),Bf S.h kx n x=some y->Aa S x v->Aa S' (y.ren τ) v:=by
 intro n;induction n with
 |zero=>intro x y v h;simp[Bf] at h
 |succ n ih=>
  have hm: ∀(cs ys:List AV) (vs:List Value),Ax (Bf S.h kx n) cs=some ys->AO S cs vs->AO S' (AI τ ys) vs:=by
   intro cs;induction cs with
   |nil=>
    intro ys vs h O;simp only[Ax,AN] at h;subst h;simpa only[AI,AO] using O
   |cons x cs af=>
    intro ys vs h O;simp only[Ax] at h;simp only[AO] at O;obtain⟨v,r,rfl,h1,h2⟩:=O;split at h
    .rename_i z zs hz ad;obtain rfl:=AJ h;simp only[AI,AO];exact⟨v,r,rfl,ih x z v hz h1,af zs r ad h2⟩
    .cases h
  intro x y v h O;have hB: ∀d,y= .im d->Aa S' (y.ren τ) v:=by
   intro d hd;subst hd;simp only[AV.ren,Aa];exact Hm ac d v (St hW ab (n+1) x d v h O)
  have hK: ∀(f:Nat->AV) (g:Option D) (o:Nat),kp f g (kx o)=some y->(∀j,kx o=some j->Aa S' ((f j).ren τ) v)->Aa S' (y.ren τ) v:=by
   intro f g o h1 h2;cases hk:kx o with
   |none=>
    rw[hk] at h1;simp only[kp,D4] at h1;obtain⟨d,_,rfl⟩:=h1;exact hB d rfl
   |some j=>
    rw[hk] at h1;simp only[kp,AN] at h1;rw[<-h1];exact h2 j hk
  cases x with
  |im d=>
   simp only[Bf,AN] at h;exact hB d h.symm
  |any=>
   simp only[Bf,AN] at h;subst h;simp only[AV.ren,Aa]
  |agg cs=>
   have h0:=h;simp only[Bf,D4] at h0;obtain⟨ys,h1,h2⟩:=h0;cases ha:DA ys with
   |some ds=>rw[ha] at h2;exact hB _ h2.symm
   |none=>
    rw[ha] at h2;simp only[Aa] at O;obtain⟨vs,rfl,h3⟩:=O;rw[<-h2];simp only[Y6,AV.ren,Aa];exact⟨vs,rfl,hm cs ys _ h1 h3⟩
  |tup cs=>
   have h0:=h;simp only[Bf,D4] at h0;obtain⟨ys,h1,h2⟩:=h0;cases ha:DA ys with
   |some ds=>rw[ha] at h2;exact hB _ h2.symm
   |none=>
    rw[ha] at h2;simp only[Aa] at O;obtain⟨vs,rfl,h3⟩:=O;rw[<-h2];simp only[nN,AV.ren,Aa];exact⟨vs,rfl,hm cs ys _ h1 h3⟩
  |own o=>
   have h0:=h;simp only[Bf] at h0;refine hK _ _ o h0 ?_;intro j hj;simp only[Aa,AV.ren] at O⊢;refine⟨O.1,?_⟩;intro e' Q;obtain⟨e,he,hr,_,hl⟩:=Z o j hj e' Q;rw[hr,hl];exact O.2 e he
  |mp o=>
   have h0:=h;simp only[Bf] at h0;refine hK _ _ o h0 ?_;intro j hj;simp only[Aa,AV.ren] at O⊢;refine⟨O.1,?_⟩;intro e' Q;obtain⟨e,he,hr,_,hl⟩:=Z o j hj e' Q;rw[hr];exact O.2 e he
  |ptr o p=>
   have hp: ∀j,kx o=some j->Aa S' ((AV.ptr j p).ren τ) v:=by
    intro j hj;simp only[Aa,AV.ren] at O⊢;refine⟨O.1,?_⟩;intro e' Q;obtain⟨e,he,hr,_,hl⟩:=Z o j hj e' Q;rw[hr];exact O.2 e he
   cases p with
   |zero=>
    have h0:=h;simp only[Bf] at h0;exact hK _ _ o h0 hp
   |succ p=>
    have h0:=h;simp only[Bf] at h0;exact hK _ _ o h0 hp
  |eptr o i p=>
   have h0:=h;simp only[Bf] at h0;refine hK _ _ o h0 ?_;intro j hj;simp only[Aa,AV.ren] at O⊢;refine⟨O.1,?_⟩;intro e' Q;obtain⟨e,he,hr,hz,hl⟩:=Z o j hj e' Q;rw[hr,hz];exact O.2 e he
  |ch o=>
   have h0:=h;simp only[Bf] at h0;refine hK _ _ o h0 ?_;intro j hj;simp only[Aa,AV.ren] at O⊢;refine⟨O.1,?_⟩;intro e' Q;obtain⟨e,he,hr,_,hl⟩:=Z o j hj e' Q;rw[hr];exact O.2 e he
  |it o=>
   have h0:=h;simp only[Bf] at h0;refine hK _ _ o h0 ?_;intro j hj;simp only[Aa,AV.ren] at O⊢;refine⟨O.1,?_⟩;intro e' Q;obtain⟨e,he,hr,_,hl⟩:=Z o j hj e' Q;rw[hr];exact O.2 e he
  |osl o a k=>
   have h0:=h;simp only[Bf] at h0;refine hK _ _ o h0 ?_;intro j hj;simp only[Aa,AV.ren] at O⊢;refine⟨O.1,?_⟩;intro e' Q;obtain⟨e,he,hr,hz,hl⟩:=Z o j hj e' Q;rw[hr,hz,hl];exact O.2 e he
  |clo g a c=>
   have h0:=h;simp only[Bf] at h0;cases ha:Ax (Bf S.h kx n) a with
   |none=>rw[ha] at h0;simp[J8] at h0
   |some a'=>
    cases hcc:Ax (Bf S.h kx n) c with
    |none=>rw[ha,hcc] at h0;simp[J8] at h0
    |some c'=>
     rw[ha,hcc] at h0;simp only[J8,AN] at h0;have aa:y= .clo g a' c'->Aa S' (y.ren τ) v:=by
      intro hy;subst hy;simp only[Aa] at O;obtain⟨va,vc,rfl,h3,h4⟩:=O;simp only[AV.ren,Aa];exact⟨va,vc,rfl,hm a a' _ ha h3,hm c c' _ hcc h4⟩
     cases h1:DA a' with
     |none=>rw[h1] at h0;exact aa (by rw[<-h0];rfl)
     |some ds=>
      cases h2:DA c' with
      |none=>rw[h1,h2] at h0;exact aa (by rw[<-h0];rfl)
      |some es=>rw[h1,h2] at h0;exact hB _ h0.symm
def Mg(ti:TI):Option Am->Option AV
 |some (_,.cells _ z)=>bif (ti.agg||ti.size==1) && z.length==ti.size then some (iQ ti.agg z) else none
 |_=>none
def Jw(h:An)(x:AV):Option TI->Option AV
 |none=>none
 |some ti=>match x with
  | .ptr o 0=>Mg ti (hget h o)
  |_=>none
def KE(P:Program)(s:Az):ResultVar->Option AV
 | .tmp t=>some (AE s.tm t)
 | .cell a T=>Jw s.h (AE s.tm a) (tI P T)
def Ds:List AV->AV
 |[x]=>x
 |xs=> .tup xs
def Sk{P:Program}{C:Bb}{N:Nat}{s:Az}{S:A7}{a:Act}(hc:CQ C N s S a){x:ResultVar}{r:AV}(z:KE P s x=some r):
 ∃v,(match x with| .tmp t=>pure (a.tmps.getD t undef)| .cell c t=>do loadVar t (<-asAddr (a.tmps.getD c undef)):Sem Value).run P S.w= .ok v S.w/\Aa S r v:=by
 cases x with
 |tmp t=>
  simp only[KE,AN] at z;subst z;exact⟨a.eval (.tmp t),by simp[Act.eval],hc.tm t⟩
 |cell c T=>
  simp only[KE] at z;cases hT:tI P T with
  |none=>rw[hT] at z;simp[Jw] at z
  |some ti=>
   rw[hT] at z;simp only[Jw] at z;split at z
   .rename_i o ho;cases he:hget s.h o with
    |none=>rw[he] at z;simp[Mg] at z
    |some e=>
     rw[he] at z;obtain⟨mu,e⟩:=e;cases e<;>simp only[Mg,reduceCtorEq] at z;rename_i U cs;cases hb:(ti.agg||ti.size==1) && cs.length==ti.size<;>rw[hb] at z
     .simp at z
     .simp only[Cg,AN] at z;subst z;simp only[AY,HN,OH] at hb;have hS:S.h o=_:=(hc.h o).trans he;have ab:=hc.wf.obj o _ hS;simp only[Ao] at ab;obtain⟨lc,vs,hl,ad,ac,Q⟩:=ab;have h1:=hc.tm c;rw[ho] at h1;simp only[Aa] at h1;obtain⟨l,Z,hv⟩:=h1.2 _ hS;rw[hl] at Z;obtain rfl:=AJ Z;have O:=Jf _ _ Q;have aa:=eX hT (w:=S.w) (b:=lc.b) (p:=0) ac (by simp at O⊢;omega) hb.1;have af:a.tmps.getD c undef= .pointer (some ⟨lc.b,0,none⟩):=by simpa[Act.eval,ad] using hv
      rw[GJ,F9 (by rw[O,hb.2];exact AU _)] at aa;refine⟨if ti.agg then .agg vs.toList.toArray else vs.toList.headD undef,?_,sM Q hb.2 hb.1⟩;simp only[af,asAddr,Sem.run_bind,Sem.run_pure,Result.andThen_ok];exact aa
   .cases z
def rL{P:Program}{C:Bb}{N:Nat}{s:Az}{S:A7}{a:Act}(hc:CQ C N s S a){fn:Func}{xs:List AV}(hx:Ax (KE P s) fn.results.toList=some xs):
 ∃v,(results fn a.tmps).run P S.w= .ok v S.w/\Aa S (Ds xs) v:=by
 have ab: ∀(Q:List ResultVar) (xs:List AV),Ax (KE P s) Q=some xs-> ∃z:List Value,(Q.mapM λx=>(match x with
  | .tmp t=>pure (a.tmps.getD t undef)| .cell c t=>do loadVar t (<-asAddr (a.tmps.getD c undef)):Sem Value)).run P S.w= .ok z S.w/\AO S xs z:=by
  intro Q;induction Q with
  |nil=>
   intro xs h;simp only[Ax,AN] at h;subst h;exact⟨[],by simp,by simp only[AO]⟩
  |cons x Q ih=>
   intro xs h;simp only[Ax] at h;split at h
   .rename_i y ys hy aa;obtain rfl:=AJ h;obtain⟨v,Z,O⟩:=Sk hc hy;obtain⟨z,h3,h4⟩:=ih ys aa;refine⟨v::z,?_,by simp only[AO];exact⟨v,z,rfl,O,h4⟩⟩;simp only[List.mapM_cons,Sem.run_bind,Z,h3,Result.andThen_ok,Sem.run_pure]
   .cases h
 obtain⟨z,Z,O⟩:=ab _ _ hx;have hl:=Jf _ _ O;have hm:(results fn a.tmps).run P S.w= .ok (if h:z.toArray.size=1 then z.toArray[0] else .tuple z.toArray) S.w:=by
  unfold results;rw[ZeD]
  have: ∀(m:Sem (List Value)),m.run P S.w= .ok z S.w->((Functor.map List.toArray m)>>=λz=>(pure (if h:z.size=1 then z[0] else .tuple z):Sem Value)).run P S.w= .ok (if h:z.toArray.size=1 then z.toArray[0] else .tuple z.toArray) S.w:=by
   intro m hm;rw[Sem.run_bind]
   have:(Functor.map List.toArray m).run P S.w= .ok z.toArray S.w:=by
    rw[map_eq_pure_bind,Sem.run_bind,hm];rfl
   rw[this];rfl
  exact this _ Z
 refine⟨_,hm,?_⟩;cases xs with
 |nil=>
  simp only[AO] at O;subst O;simp only[Ds,Aa];exact⟨#[],by simp,by simp[AO]⟩
 |cons x xs=>
  cases xs with
  |nil=>
   simp only[AO] at O;obtain⟨v,r,rfl,h3,rfl⟩:=O;simpa[Ds] using h3
  |cons y xs=>
   have: ¬z.toArray.size=1:=by simp only[bB];simp at hl;omega
   rw[dif_neg this];simp only[Ds,Aa];exact⟨_,rfl,O⟩
def entry:Nat->List AV->List (Nat×AV)
 |_,[]=>[]
 |i,x::r=>(i,x)::entry (i+1) r
def lD{S:A7}: ∀(args:List AV) (vs:List Value) (i t:Nat),AO S args vs->Aa S (AE (entry i args) t) (if i<=t then (vs[t - i]?).getD undef else undef)
 |[],vs,i,t,_=>by simp[entry,AE,Aa]
 |x::args,vs,i,t,h=>by
  simp only[AO] at h;obtain⟨v,r,rfl,O,Q⟩:=h;simp only[entry,AE];cases hq:i==t
  .have Z:i≠t:=by simpa using hq
   have:=lD args r (i+1) t Q
   simp only[Bk];by_cases z:i+1<=t
   .rw[Ai z] at this;rw[Ai (by omega)];have e:t - i=(t - (i+1))+1:=by omega
    rw[e];simpa using this
   .rw[Af z] at this;rw[Af (by omega)];exact this
  .have:i=t:=by simpa using hq
   subst this;simpa using O
def lK: ∀(args:List AV) (i t:Nat),∀m∈(AE (entry i args) t).nms,m∈Au args
 |[],i,t,m,h=>by simp[entry,AE,AV.nms] at h
 |x::args,i,t,m,h=>by
  simp only[entry,AE] at h;simp only[Au,B7];cases hq:i==t<;>rw[hq] at h
  .exact .inr (lK args (i+1) t m (by simpa using h))
  .exact .inl (by simpa using h)
def Yr:List Nat->Nat->Nat->Option Nat
 |[],_,_=>none
 |x::r,o,k=>bif x==o then some k else Yr r o (k+1)
def I7(k:Nat)(z:List Nat)(o:Nat):Option Nat:=bif Nat.blt o k then some o else Yr z o k
def BZ(f:AV->Option AV):Ac->Option Ac
 | .cells T z=>(Ax f z).map (.cells T)
 | .arr T k rows=>some (.arr T k rows)
 | .arrA T k rows=>(Ax (Ax f) rows).map (.arrA T k)
 | .map Q O=>some (.map Q O)
 | .chan q cap=>some (.chan q cap)
 | .iter a l=>some (.iter a l)
 | .view z=>some (.view z)
def Jx(j:Nat)(z:Bool):Option Ac->Option An->Option An
 |some e,some r=>some ((j,(z,e))::r)
 |some _,none=>none
 |none,_=>none
def klE(f:AV->Option AV)(j:Nat)(r:Option An):Option Am->Option An
 |none=>r
 |some (z,e)=>Jx j z (BZ f e) r
def JD(h:Nat->Option Am)(f:AV->Option AV):List Nat->Option An
 |[]=>some []
 |j::r=>klE f j (JD h f r) (h j)
def exE(f:AV->Option AV)(j:Nat)(r:Option An):Option Am->Option An
 |none=>none
 |some (false,_)=>none
 |some (true,e)=>Jx j true (BZ f e) r
def JC(h:Nat->Option Am)(f:AV->Option AV):List Nat->Nat->Option An
 |[],_=>some []
 |x::r,j=>exE f j (JC h f r (j+1)) (h x)
def RS:Option An->Option An->Option An
 |some a,some b=>some (a++b)
 |some _,none=>none
 |none,_=>none
def YY(h:Nat->Option Am)(z:List Nat):An->Prop
 |[]=>True
 |(j,e)::r=>(bif z.contains j then True else h j=some e)/\YY h z r
def Yb(k:Nat):List Nat->Bool
 |[]=>true
 |x::r=>Nat.ble k x && (!r.contains x && Yb k r)
abbrev KN:=AV->An->Nat->Prop
def JH(R:KN)(cnt:Nat):Option AV->Option An->Prop
 |some r,some H=>R r H cnt
 |some _,none=>False
 |none,_=>False
def cK(k:Nat)(O:List Nat)(H0:An)(R:KN)(s:Az)(z:List Nat)(x:AV):Prop:=
 Yb k z=true/\YY (hget s.h) O H0/\JH R z.length (Bf (hget s.h) (I7 k z) 9 x) (RS (JD (hget s.h) (Bf (hget s.h) (I7 k z) 9) O) (JC (hget s.h) (Bf (hget s.h) (I7 k z) 9) z k))
def Nt(k:Nat)(O:List Nat)(z:Az->AV->List Nat)(H0:An)(R:KN)(s:Az):Option (List AV)->Prop
 |some xs=>cK k O H0 R s (z s (Ds xs)) (Ds xs)
 |none=>False
def UG(P:Program)(Q:List ResultVar)(k:Nat)(O:List Nat)(z:Az->AV->List Nat)(H0:An)(R:KN)(s:Az):Prop:=Nt k O z H0 R s (Ax (KE P s) Q)
def PJ(P:Program)(Q:List ResultVar)(k:Nat)(O:List Nat)(z:Az->AV->List Nat)(H0:An)(R:KN):Ct
 | .normal,s=>UG P Q k O z H0 R s
 | .ret,s=>UG P Q k O z H0 R s
 | .exit _,_=>False
def Lg(_:Az)(_:AV):List Nat:=[]
def wL(k:Nat):List Nat->List Nat
 |[]=>[]
 |x::r=>bif Nat.ble k x then x::wL k r else wL k r
def wK(k:Nat)(_:Az)(x:AV):List Nat:=wL k x.nms
def CN(r r':AV):Prop:= ∀(σ:Nat->Nat) (S:A7) (v:Value),Aa S (r.ren σ) v->Aa S (r'.ren σ) v
def nV(e e':Am):Prop:=e.1=e'.1/\e.2.esz=e'.2.esz/\e.2.len=e'.2.len/\e.2.isView=e'.2.isView/\ ∀(σ:Nat->Nat) (S:A7) (l:Option FS),Ao S l (e.2.ren σ)->Ao S l (e'.2.ren σ)
def cV:An->An->Prop
 |[],[]=>True
 |(j,e)::r,(j',e')::r'=>j=j'/\nV e e'/\cV r r'
 |[],_::_=>False
 |_::_,[]=>False
def CN.refl(r:AV):CN r r:=λ_ _ _ h=>h
def nV.refl(e:Am):nV e e:=⟨rfl,rfl,rfl,rfl,λ_ _ _ h=>h⟩
def cV.refl: ∀(H:An),cV H H
 |[]=>trivial
 |(_,e)::r=>⟨rfl,nV.refl e,cV.refl r⟩
def cV.get: ∀{H H':An},cV H H'-> ∀n,(hget H' n=none/\hget H n=none)\/ ∃e e',hget H n=some e/\hget H' n=some e'/\nV e e'
 |[],[],_,n=> .inl ⟨rfl,rfl⟩
 |(j,e)::r,(j',e')::r',h,n=>by
  obtain⟨rfl,z,O⟩:=h;simp only[hget];cases hq:j==n
  .simpa using cV.get O n
  .exact .inr ⟨e,e',by simp,by simp,z⟩
def sg(os:List Nat)(nx j:Nat):Nat:=match os[j]? with
 |some o=>o
 |none=>nx+(j - os.length)
def AQ(σ:Nat->Nat):An->An
 |[]=>[]
 |(j,(z,e))::r=>(σ j,(z,e.ren σ))::AQ σ r
def uS{σ:Nat->Nat}: ∀{H:An} {n:Nat} {e':Am},hget (AQ σ H) n=some e'-> ∃j e,(j,e)∈H/\σ j=n/\e'=(e.1,e.2.ren σ)
 |[],n,e',h=>by simp[AQ,hget] at h
 |(j,(Z,e))::r,n,e',h=>by
  simp only[AQ,hget] at h;cases hq:σ j==n<;>rw[hq] at h
  .obtain⟨j',x,z,O,Q⟩:=uS (H:=r) (by simpa using h);exact⟨j',x,by simp[z],O,Q⟩
  .simp only[Cg,AN] at h;exact⟨j,(Z,e),by simp,by simpa using hq,h.symm⟩
def pN{σ:Nat->Nat}(hσ: ∀i j,σ i=σ j->i=j): ∀(H:An) (j:Nat),hget (AQ σ H) (σ j)=(hget H j).map λe=>(e.1,e.2.ren σ)
 |[],j=>rfl
 |(i,(Z,e))::r,j=>by
  simp only[AQ,hget];by_cases z:i=j
  .subst z;simp
  .have O:(i==j)=false:=by simpa using z
   have Q:(σ i==σ j)=false:=by rw[HO];exact λh=>z (hσ _ _ h)
   rw[O,Q];simpa using pN hσ r j
def fG: ∀{H:An} {n:Nat} {e:Am},hget H n=some e->(n,e)∈H
 |[],n,e,h=>by simp[hget] at h
 |(i,x)::r,n,e,h=>by
  simp only[hget] at h;cases hq:i==n<;>rw[hq] at h
  .exact BQ _ (fG (by simpa using h))
  .have:i=n:=by simpa using hq
   subst this;simp only[Cg,AN] at h;subst h;simp
def Qti{C:Bb}{S S':A7}(hW:Wf C S){kx:Nat->Option Nat}{τ:Nat->Nat}(Z: ∀b,S.ok b->S'.ok b/\S'.hp b=S.hp b)(ah: ∀o e l,kx o=none->S.h o=some e->e.2.isView=false->S.ρ o=some l->S.ok l.b)
 (ag: ∀o j,kx o=some j-> ∀e',S'.h (τ j)=some e'-> ∃e,S.h o=some e/\S'.ρ (τ j)=S.ρ o/\e'.2.esz=e.2.esz/\e'.2.len=e.2.len)
 {n:Nat}{e e':Ac}(h:BZ (Bf S.h kx n) e=some e'):(e'.esz=e.esz/\e'.len=e.len)/\ ∀l,(∀Q,l=some Q->S'.hp Q.b=S.hp Q.b)->Ao S l e->Ao S' l (e'.ren τ):=by
 have hm: ∀(cs ys:List AV) (vs:List Value),Ax (Bf S.h kx n) cs=some ys->AO S cs vs->AO S' (AI τ ys) vs:=by
  intro cs;induction cs with
  |nil=>
   intro ys vs h hc;simp only[Ax,AN] at h;subst h;simpa only[AI,AO] using hc
  |cons x cs ad=>
   intro ys vs h hc;simp only[Ax] at h;simp only[AO] at hc;obtain⟨v,r,rfl,O,h2⟩:=hc;split at h
   .rename_i z zs hz ac;obtain rfl:=AJ h;simp only[AI,AO];exact⟨v,r,rfl,Qrr hW Z ah ag n x z v hz O,ad zs r ac h2⟩
   .cases h
 have an: ∀(cs ys:List AV) (vs:List Value),Ax (Bf S.h kx n) cs=some ys->Cz S cs vs->Cz S' (AI τ ys) vs:=by
  intro cs;induction cs with
  |nil=>
   intro ys vs h hc;simp only[Ax,AN] at h;subst h;simp only[AI,Cz]
  |cons x cs ad=>
   intro ys vs h hc;simp only[Ax] at h;simp only[Cz] at hc;obtain⟨v,r,rfl,O,h2⟩:=hc;split at h
   .rename_i z zs hz ac;obtain rfl:=AJ h;simp only[AI,Cz];exact⟨v,r,rfl,Qrr hW Z ah ag n x z v hz O,ad zs r ac h2⟩
   .cases h
 have ao: ∀(k:Nat) (rs ys:List (List AV)) (vs:List Value),Ax (Ax (Bf S.h kx n)) rs=some ys->BG S k rs vs->BG S' k (ys.map (AI τ)) vs:=by
  intro k rs;induction rs with
  |nil=>
   intro ys vs h hc;simp only[Ax,AN] at h;subst h;simp only[BF,BG]
  |cons x rs ad=>
   intro ys vs h hc;simp only[Ax] at h;simp only[BG] at hc;split at h
   .rename_i z zs hz ac;obtain rfl:=AJ h;simp only[Be,BG,Qsc];exact⟨(fD _ _ hz).trans hc.1,an x z _ hz hc.2.1,ad zs _ ac hc.2.2⟩
   .cases h
 cases e<;>simp only[BZ] at h
 case view cs=>
  obtain rfl:=AJ h;refine⟨⟨rfl,rfl⟩,λl hl h=> ?_⟩;simp only[Ac.ren,Ao] at h⊢;obtain⟨Q,vs,T,fr,O,h2,h3⟩:=h;exact⟨Q,vs,T,fr,O,(hl Q O).trans h2,VV Z cs _ h3⟩
 case cells T cs=>
  simp only[D4] at h;obtain⟨ys,O,rfl⟩:=h;refine⟨⟨rfl,rfl⟩,λl hl h=> ?_⟩;simp only[Ac.ren,Ao] at h⊢;obtain⟨Q,vs,g1,g2,g3,g4⟩:=h;exact⟨Q,vs,g1,g2,(hl Q g1).trans g3,hm cs ys _ O g4⟩
 case arr T k rows=>
  obtain rfl:=AJ h;refine⟨⟨rfl,rfl⟩,λl hl h=> ?_⟩;simp only[Ac.ren,Ao] at h⊢;refine⟨h.1,?_⟩;cases l with
  |none=>exact h.2
  |some Q=>
   obtain⟨h0,O,vs,h2,h3,h4⟩:=h;exact⟨O,vs,(hl Q rfl).trans h2,h3,ZV Z k rows _ h4⟩
 case arrA T k rows=>
  simp only[D4] at h;obtain⟨ys,O,rfl⟩:=h;have af:=fD _ _ O;refine⟨⟨rfl,af⟩,λl hl h=> ?_⟩;simp only[Ac.ren,Ao,GL,af] at h⊢;refine⟨h.1,?_⟩;cases l with
  |none=>
   have:=h.2
   subst this;simp only[Ax,AN] at O;subst O;rfl
  |some Q=>
   obtain⟨h0,h2,vs,h3,h4,h5⟩:=h;exact⟨h2,vs,(hl Q rfl).trans h3,h4,ao k rows ys _ O h5⟩
 case map kt es=>
  obtain rfl:=AJ h;refine⟨⟨rfl,rfl⟩,λl hl h=> ?_⟩;simp only[Ac.ren,Ao] at h⊢;obtain⟨Q,ab,aa,O,h0,h2,h3,h4⟩:=h;exact⟨Q,ab,aa,O,h0,(hl Q O).trans h2,LD Z es _ h3,h4⟩
 case chan q cap=>
  obtain rfl:=AJ h;refine⟨⟨rfl,rfl⟩,λl hl h=> ?_⟩;simp only[Ac.ren,Ao] at h⊢;obtain⟨Q,am,ak,ai,O,h2,h3⟩:=h;exact⟨Q,am,ak,ai,O,(hl Q O).trans h2,LF Z q _ h3⟩
 case iter last left=>
  obtain rfl:=AJ h;refine⟨⟨rfl,rfl⟩,λl hl h=> ?_⟩;simp only[Ac.ren,Ao] at h⊢;obtain⟨Q,mb,ab,aa,aj,O,h2,h0,h3,h4,h5,h6,h7⟩:=h;exact⟨Q,mb,ab,aa,aj,O,(Z mb h2).1,Qly Z last h0,(Z mb h2).2.trans h3,(hl Q O).trans h4,h5,h6,LD Z left _ h7⟩
def Pe{f:AV->Option AV}{e e':Ac}(h:BZ f e=some e'):e'.isView=e.isView:=by
 cases e<;>simp only[BZ,D4,AN] at h
 .obtain⟨_,_,rfl⟩:=h;rfl
 .subst h;rfl
 .obtain⟨_,_,rfl⟩:=h;rfl
 all_goals subst h;rfl
def Le(d d':D):Prop:= ∀ok hp v,rd ok hp d v->rd ok hp d' v
def Dj:List D->List D->Prop
 |[],[]=>True
 |d::r,d'::r'=>Le d d'/\Dj r r'
 |[],_::_=>False
 |_::_,[]=>False
def Le.refl(d:D):Le d d:=λ_ _ _ h=>h
def Dj.refl: ∀(ds:List D),Dj ds ds
 |[]=>trivial
 |d::ds=>⟨Le.refl d,Dj.refl ds⟩
def Dj.len: ∀{a b:List D},Dj a b->a.length=b.length
 |[],[],_=>rfl
 |_::_,_::_,h=>by simp[Dj.len h.2]
def Dj.rdl: ∀{a b:List D},Dj a b-> ∀ok hp z,Ae.rdl ok hp a z->Ae.rdl ok hp b z
 |[],[],_,ok,hp,z,h=>h
 |_::_,_::_,O,ok,hp,z,h=>by
  simp only[Ae.rdl] at h⊢;obtain⟨v,r,rfl,Q,Z⟩:=h;exact⟨v,r,rfl,O.1 _ _ _ Q,Dj.rdl O.2 _ _ _ Z⟩
def IG:List D->List D->Prop
 |_,[]=>True
 |d::r,d'::r'=>Le d d'/\IG r r'
 |[],_::_=>False
def IG.rdp: ∀{a b:List D},IG a b-> ∀ok hp z,Ae.rdp ok hp a z->Ae.rdp ok hp b z
 |_,[],_,ok,hp,z,h=>by simp only[Ae.rdp]
 |_::_,_::_,O,ok,hp,z,h=>by
  simp only[Ae.rdp] at h⊢;obtain⟨v,r,rfl,Q,Z⟩:=h;exact⟨v,r,rfl,O.1 _ _ _ Q,IG.rdp O.2 _ _ _ Z⟩
 |[],_::_,h,_,_,_,_=>h.elim
def Dj.leP: ∀{a b:List D},Dj a b->IG a b
 |[],[],_=>trivial
 |_::_,_::_,h=>⟨h.1,Dj.leP h.2⟩
def IG.refl(a:List D):IG a a:=(Dj.refl a).leP
def IG.trans_take: ∀{n:Nat} {a b:List D},Dj (a.take n) b->IG a b
 |0,a,[],_=>by cases a<;>trivial
 |_+1,[],[],_=>trivial
 |n+1,x::a,y::b,h=>⟨h.1,IG.trans_take (n:=n) h.2⟩
 |n+1,x::a,[],h=>h.elim
 |n+1,[],y::b,h=>h.elim
 |0,a,y::b,h=>by cases a<;>exact h.elim
def Lk{a b:List D}(h:Dj a b):Le (.agg a) (.agg b):=by
 intro ok hp v z;simp only[Ae.rd] at z⊢;obtain⟨Q,rfl,O⟩:=z;exact⟨Q,rfl,h.rdl _ _ _ O⟩
def Ll{a b:List D}(h:Dj a b):Le (.tup a) (.tup b):=by
 intro ok hp v z;simp only[Ae.rd] at z⊢;obtain⟨Q,rfl,O⟩:=z;exact⟨Q,rfl,h.rdl _ _ _ O⟩
def W0:List (List D)->List (List D)->Prop
 |[],[]=>True
 |r::O,r'::z=>Dj r r'/\W0 O z
 |[],_::_=>False
 |_::_,[]=>False
def W0.len: ∀{a b:List (List D)},W0 a b->a.length=b.length
 |[],[],_=>rfl
 |_::_,_::_,h=>by simp[W0.len h.2]
def W0.rdr: ∀{a b:List (List D)} {k k':Nat},W0 a b->(∀r∈b,r.length=k')-> ∀ok hp z,Ae.rdr ok hp k a z->Ae.rdr ok hp k' b z
 |[],[],_,_,_,_,ok,hp,z,h=>by simp only[Ae.rdr]
 |r::rs,r'::aa,k,k',O,Z,ok,hp,z,h=>by
  simp only[Ae.rdr] at h⊢;have h1:=O.1.len;have Q:=Z r' (by simp)
  have:k=k':=by rw[<-h.1,h1,Q]
  subst this;exact⟨Q,O.1.leP.rdp _ _ _ h.2.1,W0.rdr O.2 (λx hx=>Z x (by simp[hx])) _ _ _ h.2.2⟩
def EY{nz:Bool}{k k':Nat}{a b:List (List D)}(h:W0 a b)(hk: ∀r∈b,r.length=k'):Le (.sl nz k a) (.sl false k' b):=by
 intro ok hp v Q;simp only[Ae.rd] at Q⊢;rcases Q with ⟨z,O⟩|⟨Z,p,cap,vs,T,fr,z,O,h3,h4,h5,h6,h7⟩
 .subst O;cases b with
  |nil=>exact .inl ⟨PU z,rfl⟩
  |cons _ _=>exact h.elim
 .exact .inr ⟨Z,p,cap,vs,T,fr,by rw[<-h.len];exact z,by simp,by rw[<-h.len];exact h3,by rw[<-h.len];exact h4,h5,h6,h.rdr hk _ _ _ h7⟩
def mC{g:FuncId}{a b:List D}(h:Dj a b):Le (.fn g [] a) (.fn g [] b):=by
 intro ok hp v z;simp only[Ae.rd] at z⊢;obtain⟨x,y,O,Q,Z⟩:=z;exact⟨x,y,O,Q,h.rdl _ _ _ Z⟩
def sJ{a b:List D}(h:IG a b):Le (.ref a) (.ref b):=by
 intro ok hp v z;simp only[Ae.rd] at z⊢;obtain⟨O,p,vs,T,Q,Z,h2,h3,h4⟩:=z;exact⟨O,p,vs,T,Q,Z,h2,h3,h.rdp _ _ _ h4⟩
def AZ{A:Type}(f:List D->Option A):List (List D)->Option (List A)
 |[]=>some []
 |r::z=>match f r,AZ f z with
  |some x,some xs=>some (x::xs)
  |_,_=>none
def Rs{A:Type}{f:List D->Option A}{e:A->List D}(h: ∀x,f (e x)=some x): ∀(l:List A),AZ f (l.map e)=some l
 |[]=>rfl
 |x::l=>by simp only[Be,AZ,h x,Rs h l]
def EN{A:Type}{f:List D->Option A}{e:A->List D}(h: ∀ds x,f ds=some x->Dj ds (e x)): ∀(rows:List (List D)) (l:List A),AZ f rows=some l->W0 rows (l.map e)
 |[],l,z=>by simp only[AZ,AN] at z;subst z;trivial
 |r::Z,l,z=>by
  simp only[AZ] at z;split at z
  .rename_i x xs Q O;obtain rfl:=AJ z;exact⟨h r x Q,EN h Z xs O⟩
  .cases z
abbrev AF:=List AV->(Nat->Option Am)->Nat->Ah->Prop
def tab:List (Nat×AF)->Dn
 |[],_,_,_,_,_=>False
 |p::r,g,args,h,nx,K=>if p.1=g then p.2 args h nx K else tab r g args h nx K
def HC(P:Program)(g:Nat)(c:AF):Prop:= ∀args h nx K,c args h nx K->lV P g/\ ∃r E,QY P g args h nx r E/\K r E
def W8{P:Program}: ∀(l:List (Nat×AF)),(∀p∈l,HC P p.1 p.2)->KJ P (tab l)
 |[],_=>λ_ _ _ _ _ h=>h.elim
 |p::r,O=>by
  intro g args h nx K z;simp only[tab] at z;split at z
  .rename_i Q;subst Q;exact O p (by simp) args h nx K z
  .exact W8 r (λq hq=>O q (by simp[hq])) g args h nx K z
def GS(P:Program)(g:Nat):Bool:=match P.funcs[g]? with
 |some fn=>Nat.blt g 1000000000 && (!(fn.name== "runtime.NumGoroutine") && !fn.body.isNone)
 |none=>false
def aA{P:Program}{g:Nat}(h:GS P g=true):lV P g:=by
 unfold GS at h;split at h
 .rename_i fn hf;simp only[AY,QJ] at h;exact⟨by simpa using h.1,fn,hf,h.2.1,h.2.2⟩
 .cases h
inductive PK where
 |val (d:D)
 |ptr (cs:List D)
def Da:Nat->List PK->List AV
 |_,[]=>[]
 |j,.val d::r=> .im d::Da j r
 |j,.ptr _::r=> .ptr j 0::Da (j+1) r
def CY:Nat->List PK->An
 |_,[]=>[]
 |j,.val _::r=>CY j r
 |j,.ptr z::r=>(j,(false,.view z))::CY (j+1) r
def BV:List PK->Nat
 |[]=>0
 | .val _::r=>BV r
 | .ptr _::r=>BV r+1
def IV(S:A7):PK->Value->Prop
 | .val d,v=>rd S.ok S.hp d v
 | .ptr O,v=> ∃b p z T Q,v= .pointer (some ⟨b,p,none⟩)/\b<S.w.heap.size/\S.hp b=some (.cells z T Q)/\rdp S.ok S.hp O (z.toList.drop p)
def Fc(S:A7):List PK->List Value->Prop
 |[],z=>z=[]
 |p::O,z=> ∃v r,z=v::r/\IV S p v/\Fc S O r
def CE:PK->PK->Prop
 | .val d,.val d'=>Le d d'
 | .ptr a,.ptr b=>IG a b
 | .val _,.ptr _=>False
 | .ptr _,.val _=>False
def Cy:List PK->List PK->Prop
 |[],[]=>True
 |p::r,p'::r'=>CE p p'/\Cy r r'
 |[],_::_=>False
 |_::_,[]=>False
def CE.c{S:A7}{p p':PK}{v:Value}(h:CE p p')(z:IV S p v):IV S p' v:=by
 cases p<;>cases p'<;>simp only[CE] at h<;>simp only[IV] at z⊢
 .exact h _ _ _ z
 .obtain⟨b,p,vs,T,O,Q,Z,h3,h4⟩:=z;exact⟨b,p,vs,T,O,Q,Z,h3,h.rdp _ _ _ h4⟩
def Cy.c{S:A7}: ∀{a b:List PK} {vs:List Value},Cy a b->Fc S a vs->Fc S b vs
 |[],[],_,_,h=>h
 |_::_,_::_,vs,z,h=>by
  simp only[Fc] at h⊢;obtain⟨v,r,rfl,O,Q⟩:=h;exact⟨v,r,rfl,z.1.c O,Cy.c z.2 Q⟩
def CE.refl(p:PK):CE p p:=by cases p;exact Le.refl _;exact IG.refl _
def Cy.refl: ∀(a:List PK),Cy a a
 |[]=>trivial
 |p::a=>⟨CE.refl p,Cy.refl a⟩
def Fc.len{S:A7}: ∀{ps:List PK} {vs:List Value},Fc S ps vs->vs.length=ps.length
 |[],vs,h=>by simp only[Fc] at h;simp[h]
 |_::_,vs,h=>by
  simp only[Fc] at h;obtain⟨v,r,rfl,_,z⟩:=h;simp[Fc.len z]
def ZS: ∀(j:Nat) (ps:List PK),(Da j ps).length=ps.length
 |_,[]=>rfl
 |j,.val _::r=>by simp[Da,ZS j r]
 |j,.ptr _::r=>by simp[Da,ZS (j+1) r]
def GF: ∀(j:Nat) (ps:List PK) (n:Nat) (e:Am),hget (CY j ps) n=some e->(j<=n/\n<j+BV ps)/\ ∃z,e=(false,.view z)
 |_,[],n,e,h=>by simp[CY,hget] at h
 |j,.val _::r,n,e,h=>by simpa[CY,BV] using GF j r n e h
 |j,.ptr z::r,n,e,h=>by
  simp only[CY,hget] at h;simp only[BV];cases hq:j==n<;>rw[hq] at h
  .obtain⟨Q,O⟩:=GF (j+1) r n e (by simpa using h);exact⟨by omega,O⟩
  .have:j=n:=by simpa using hq
   simp only[Cg,AN] at h;exact⟨by omega,z,h.symm⟩
def sD: ∀(j:Nat) (ps:List PK) (n:Nat),j+BV ps<=n-> ∀m∈Au (Da j ps),m<n
 |_,[],n,_,m,z=>by simp[Da,Au] at z
 |j,.val _::r,n,h,m,z=>by
  simp only[Da,Au,AV.nms,Dg] at z;exact sD j r n h m z
 |j,.ptr _::r,n,h,m,z=>by
  simp only[Da,Au,AV.nms,B7,BS] at z;simp only[BV] at h;rcases z with rfl|z
  .omega
  .exact sD (j+1) r n (by omega) m z
def mB{S:A7}: ∀(ps:List PK) (vs:List Value) (j:Nat),Fc S ps vs-> ∃Z:Nat->Option FS,
 (∀n e,hget (CY j ps) n=some e-> ∃l,Z n=some l/\l.b<S.w.heap.size/\Ao S (some l) e.2)/\
 ∀(z:A7),z.ok=S.ok->z.w=S.w->(∀n,(∃e,hget (CY j ps) n=some e)->z.ρ n=Z n/\z.h n=hget (CY j ps) n)->AO z (Da j ps) vs
 |[],vs,j,h=>by
  simp only[Fc] at h;exact⟨λ_=>none,λn e O=>by simp[CY,hget] at O,λz _ _ _=>by simp only[Da,AO];exact h⟩
 | .val d::ps,vs,j,h=>by
   simp only[Fc] at h;obtain⟨v,r,rfl,h1,h2⟩:=h;obtain⟨Z,h3,h4⟩:=mB ps r j h2;refine⟨Z,by simpa only[CY] using h3,?_⟩;intro z Q hw hS;simp only[Da,AO,Aa];refine⟨v,r,rfl,?_,h4 z Q hw (by simpa only[CY] using hS)⟩
   have:z.hp=S.hp:=by unfold A7.hp;rw[hw]
   rw[Q,this];exact h1
 | .ptr cs::ps,vs,j,h=>by
   simp only[Fc] at h;obtain⟨v,r,rfl,h1,h2⟩:=h;obtain⟨Z,h3,h4⟩:=mB ps r (j+1) h2;obtain⟨b,p,cells,T,fr,rfl,hb,hc,hr⟩:=h1;refine⟨λn=>if n=j then some ⟨b,p,0⟩ else Z n,?_,?_⟩
   .intro n e O;simp only[CY,hget] at O;cases hq:j==n<;>rw[hq] at O
    .have:n≠j:=λh'=>by subst h';simp at hq
     simp only[Af this];exact h3 n e (by simpa using O)
    .have:n=j:=(by simpa using hq:j=n).symm
     simp only[Cg,AN] at O;subst O;simp only[Ai this];refine⟨_,rfl,hb,?_⟩;simp only[Ao];exact⟨_,cells,T,fr,rfl,hc,hr⟩
   .intro z Q hw hS;simp only[Da,AO,Aa];refine⟨_,r,rfl,⟨rfl,?_⟩,h4 z Q hw ?_⟩
    .intro e O;have hj:=hS j ⟨(false,.view cs),by simp only[CY,hget,vD,Cg]⟩;rw[hj.1];simp
    .rintro n ⟨e,O⟩;have hn:=(GF (j+1) ps n e O).1;have aa:n≠j:=by omega
     have hq:(j==n)=false:=by rw[HO];exact λh=>aa h.symm
     have:=hS n ⟨e,by simp only[CY,hget,hq,Bk];exact O⟩
     simp only[Af aa,CY,hget,hq,Bk] at this;exact this
def VD{P:Program}(HM:P.follows .mixedOrders=true){V:Dn}(hV:KJ P V){g:FuncId}{fn:Func}{c:Code}(hf:P.funcs[g]? =some fn)(Q:fn.body=some c)(ai:Eu fn.ntmps c=true)
 {ps:List PK}(a9:ps.length<=fn.ntmps){R:KN}{r0:D}(hR: ∀r H n,R r H n-> ∃d,r= .im d/\Le d r0)
 (hk:Di P V c (PJ P fn.results.toList (BV ps) [] Lg (CY 0 ps) R) ⟨entry 0 (Da 0 ps),CY 0 ps,BV ps⟩)
 {C:Bb}{S:A7}{vs:Array Value}{RR:Ending->World->Prop}(hW:Wf C S)(an:Fc S ps vs.toList)
 (ak: ∀v S',Wf C S'->S'.h=S.h->BP (λ_=>True) S S'->rd S'.ok S'.hp r0 v->RR (.returned v) S'.w):Calls P g vs S.w RR:=by
 refine calls_of_wp hf Q ?_;have a8:vs.size=(Da 0 ps).length:=by rw[ZS];simpa using an.len
 obtain⟨ls,am,hcl⟩:=mB ps vs.toList 0 an
 let S0:A7:=⟨ls,S.ok,hget (CY 0 ps),S.w⟩
 let C0:Bb:=⟨S.w,λ_=>False,S.ok,0,λ_=>none,λ_=>none,[]⟩
 have av:Wf C0 S0:=by
  refine⟨rfl,rfl,rfl,AU _,AU _,λ_ _ _=>rfl,λ_ Q=>Q,λ_ Q=> .inl Q,hW.oks,?_,?_,?_,hW.glN λ_ h=>h.elim⟩
  .intro n e z;obtain⟨l,O,_,h3⟩:=am n e z;have h4:S0.ρ n=some l:=O;rw[h4];obtain⟨_,cs,rfl⟩:=GF 0 ps n e z;simp only[Ao] at h3⊢;exact h3
  .intro n e l z hl;obtain⟨l',O,h2,h3⟩:=am n e z;have h4:S0.ρ n=some l':=O;rw[h4] at hl;obtain rfl:=AJ hl;obtain⟨_,cs,rfl⟩:=GF 0 ps n e z;exact⟨h2,.inr rfl⟩
  .intro n n' e e' l l' z af hl bc bb ax;obtain⟨_,cs,rfl⟩:=GF 0 ps n e z;obtain⟨_,ba,rfl⟩:=GF 0 ps n' e' af;simp at ax
 have aw:BN C0 fn.ntmps ⟨entry 0 (Da 0 ps),CY 0 ps,BV ps⟩ {tmps:=vs++Array.replicate (fn.ntmps - vs.size) undef,defers:=[]} S.w:=by
  have ab:AO S0 (Da 0 ps) vs.toList:=hcl S0 rfl rfl (λn _=>⟨rfl,rfl⟩);refine⟨S0,rfl,av,λn=>rfl,?_,?_,?_,by simp;rw[ZS] at a8;omega,rfl,C5 _,λo ho=>absurd ho (vH _)⟩
  .intro t;have O:=lD (S:=S0) (Da 0 ps) vs.toList 0 t ab;simp only[C5,BD,nA] at O
   have:({tmps:=vs++Array.replicate (fn.ntmps - vs.size) undef,defers:=[]}:Act).eval (.tmp t)=(vs.toList[t]?).getD undef:=by
    simp only[Act.eval,Im,vB,gT];by_cases ht:t<vs.size
    .simp[ht]
    .simp only[ht,CO]
     have:vs[t]? =none:=XB (by omega)
     simp only[KS,this]
     split<;>rfl
   rw[this];exact O
  .intro t m hm;exact sD 0 ps (BV ps) (by omega) m (lK (Da 0 ps) 0 t m hm)
  .intro n e z;obtain⟨O,cs,rfl⟩:=GF 0 ps n e z;exact⟨by show n<BV ps;omega,by simp[Ac.nms]⟩
 refine wp_mono (Qo4 HM (uK hV) c ai _ _ _ _ hk aw) ?_;have fin: ∀(s:Az) (a:Act) (w:World),UG P fn.results.toList (BV ps) [] Lg (CY 0 ps) R s->BN C0 fn.ntmps s a w->a.defers=[]/\ ∃v,(results fn a.tmps).run P w= .ok v w/\RR (.returned v) w:=by
  rintro s a w hr ⟨S1,rfl,hc⟩;unfold UG at hr;cases hxs:Ax (KE P s) fn.results.toList with
  |none=>rw[hxs] at hr;exact hr.elim
  |some xs=>
   rw[hxs] at hr;simp only[Nt] at hr;obtain⟨v,ao,ad⟩:=rL hc hxs;refine⟨hc.defers,v,ao,?_⟩;obtain⟨_,_,aa⟩:=hr;have aq:hget s.h=S1.h:=(funext hc.h).symm;rw[aq] at aa
   let kx:=I7 (BV ps) (Lg s (Ds xs))
   have ah:Wf C0 (S1.ice λ_=>false):=VY hc.wf;have ag: ∀(f:AV->Option D) (o:Nat),Q9 f ((S1.ice λ_=>false).h o)=Q9 f (S1.h o)/\X2 ((S1.ice λ_=>false).h o)=X2 (S1.h o)/\Xw f ((S1.ice λ_=>false).h o)=Xw f (S1.h o):=by
    intro f o;rw[show (S1.ice λ_=>false).h o=(S1.h o).map λe=>(e.1 && false,e.2) from rfl];cases S1.h o with
    |none=>exact⟨rfl,rfl,rfl⟩
    |some e=>obtain⟨mu,e⟩:=e;cases e<;>exact⟨rfl,rfl,rfl⟩
   have aj: ∀(n:Nat),Bf (S1.ice λ_=>false).h kx n=Bf S1.h kx n:=by
    intro n;induction n with
    |zero=>funext x;simp[Bf]
    |succ n ih=>
     funext x;cases x with
     |own o=>simp only[Bf,ih,(ag _ o).1]
     |mp o=>simp only[Bf,(ag (λ_=>none) o).2.1]
     |ptr o p=>cases p<;>simp only[Bf,ih,(ag _ o).2.2]
     |_=>simp only[Bf,ih]
   cases hcv:Bf S1.h kx 9 (Ds xs) with
   |none=>rw[hcv] at aa;exact aa.elim
   |some r=>
    rw[hcv] at aa;have ac: ∃H n,R r H n:=by
     simp only[Lg,JD,JC,RS,JH] at aa;exact⟨_,_,aa⟩
    obtain⟨H,n,ac⟩:=ac;obtain⟨d,rfl,ay⟩:=hR _ _ _ ac;have a0:=St ah (kx:=kx) (λo e l _ z hv hl=>mE hc.wf rfl z hv hl) 9 (Ds xs) d v (by rw[aj];exact hcv) (Jg (HE S1 _) _ _ (λ_ _=>trivial) ad);have O:=ah;have Z: ∀b,b<S.w.heap.size->S1.w.heap[b]? =S.w.heap[b]? :=λb Q=>hc.wf.keep b Q (λh=>h)
    let S':A7:={S with ok:=(S1.ice λ_=>false).ok,w:=S1.w}
    have hp:BP (λ_=>True) S S':=⟨λb Q=>⟨O.ok0 b Q,Z b (hW.oks b Q)⟩,λo _ e' af=>⟨e',af,rfl,rfl,rfl⟩⟩;have au:Wf C S':=by
     refine⟨O.os.trans hW.os,O.tape.trans hW.tape,O.output.trans hW.output,CS hW.dr O.dr,CS hW.size O.size,?_,λb Q=>O.ok0 b (hW.ok0 b Q),?_,O.oks,?_,?_,hW.inj,hW.gl⟩
     .intro b Q hM;exact (Z b (FM Q hW.size)).trans (hW.keep b Q hM)
     .intro b Q;rcases O.ok1 b Q with h|h|h
      .exact hW.ok1 b h
      .exact .inr (.inl (CS hW.size h))
      .exact h.elim
     .intro o e z;exact HF hp (λlc hl=>Z lc.b (hW.loc o e lc z hl).1) _ (λ_ _=>trivial) (hW.obj o e z)
     .intro o e l z hl;obtain⟨h2,h3⟩:=hW.loc o e l z hl;refine⟨FM h2 O.size,?_⟩;cases hm:e.1 with
      |false=>
       rw[hm] at h3;simp only[Df,CO] at h3⊢;exact h3.imp (O.ok0 _) id
      |true=>
       rw[hm] at h3;simp only[BD] at h3⊢;refine⟨λaz=> ?_,h3.2⟩;rcases O.ok1 _ az with h|h|h
       .exact h3.1 h
       .have h:S.w.heap.size<=l.b:=h;omega
       .exact h.elim
    exact ak v S' au rfl hp (ay _ _ _ a0)
 intro e a w z;cases e<;>simp only[Hb] at z<;>simp only[bodyPost]
 .obtain⟨s,hs,hc⟩:=z;exact fin s a w hs hc
 .obtain⟨s,hs,_⟩:=z;exact hs.elim
 .obtain⟨s,hs,hc⟩:=z;exact fin s a w hs hc
def QR(o:Nat):Option Am->Option (D×An)
 |some (z,.arr T k rows)=>some (.sl false k rows,bif z then [(o,(false,.arr T k rows))] else [])
 |some (_,.cells _ _)=>none
 |some (_,.arrA _ _ _)=>none
 |some (_,.map _ _)=>none
 |some (_,.chan _ _)=>none
 |some (_,.iter _ _)=>none
 |some (_,.view _)=>none
 |none=>none
def QQ(o:Nat):Option Am->Option (D×An)
 |some (Q,.map O z)=>some (.mp O z,bif Q then [(o,(false,.map O z))] else [])
 |some (_,.cells _ _)=>none
 |some (_,.arr _ _ _)=>none
 |some (_,.arrA _ _ _)=>none
 |some (_,.chan _ _)=>none
 |some (_,.iter _ _)=>none
 |some (_,.view _)=>none
 |none=>none
def nL(f:List D->D):Option (List D×An)->Option (D×An)
 |some (ds,F)=>some (f ds,F)
 |none=>none
mutual
def EA(h:Nat->Option Am):AV->Option (D×An)
 | .im d=>some (d,[])
 | .own o=>QR o (h o)
 | .mp o=>QQ o (h o)
 | .agg z=>nL .agg (SS h z)
 | .tup z=>nL .tup (SS h z)
 | .any=>none
 | .ptr _ _=>none
 | .eptr _ _ _=>none
 | .ch _=>none
 | .it _=>none
 | .osl _ _ _=>none
 | .clo _ _ _=>none
def SS(h:Nat->Option Am):List AV->Option (List D×An)
 |[]=>some ([],[])
 |x::r=>Sp (EA h x) (SS h r)
end
def cF:Option (D×An)->Option (PK×An)
 |some (d,F)=>some (.val d,F)
 |none=>none
def FQ:D->PK
 | .ref z=> .ptr z
 | .int k n=> .val (.int k n)
 | .bool b=> .val (.bool b)
 | .str s=> .val (.str s)
 | .nilp=> .val .nilp
 | .nilf=> .val .nilf
 | .nili=> .val .nili
 | .nilc=> .val .nilc
 | .nilm=> .val .nilm
 | .agg z=> .val (.agg z)
 | .tup z=> .val (.tup z)
 | .sl Z k rows=> .val (.sl Z k rows)
 | .mp Q O=> .val (.mp Q O)
 | .fn f a b=> .val (.fn f a b)
 | .ifc t d=> .val (.ifc t d)
 | .gp g=> .val (.gp g)
 | .tok g=> .val (.tok g)
def pkC:Option (List D)->Option (PK×An)
 |some ds=>some (.ptr ds,[])
 |none=>none
def QT(off:Nat):Option Am->Option (PK×An)
 |some (_,.cells _ z)=>pkC (DA (z.drop off))
 |some (_,.view z)=>some (.ptr (z.drop off),[])
 |some (_,.arr _ _ _)=>none
 |some (_,.arrA _ _ _)=>none
 |some (_,.map _ _)=>none
 |some (_,.chan _ _)=>none
 |some (_,.iter _ _)=>none
 |none=>none
def pkR(off:Nat):Option (List D)->Option (PK×An)
 |some r=>some (.ptr (r.drop off),[])
 |none=>none
def Uq(i off:Nat):Option Am->Option (PK×An)
 |some (_,.arr _ _ rows)=>pkR off rows[i]?
 |some (_,.cells _ _)=>none
 |some (_,.view _)=>none
 |some (_,.arrA _ _ _)=>none
 |some (_,.map _ _)=>none
 |some (_,.chan _ _)=>none
 |some (_,.iter _ _)=>none
 |none=>none
def IS(h:Nat->Option Am):AV->Option (PK×An)
 | .im d=>some (FQ d,[])
 | .ptr o off=>QT off (h o)
 | .own o=>cF (EA h (.own o))
 | .mp o=>cF (EA h (.mp o))
 | .agg z=>cF (EA h (.agg z))
 | .tup z=>cF (EA h (.tup z))
 | .any=>none
 | .eptr o i off=>Uq i off (h o)
 | .ch _=>none
 | .it _=>none
 | .osl _ _ _=>none
 | .clo _ _ _=>none
def Xz:Option (PK×An)->Option (List PK×An)->Option (List PK×An)
 |some (p,F),some (z,G)=>some (p::z,F++G)
 |some _,none=>none
 |none,_=>none
def IT(h:Nat->Option Am):List AV->Option (List PK×An)
 |[]=>some ([],[])
 |x::r=>Xz (IS h x) (IT h r)
def DZ{A:Type}(K:A->Prop):Option A->Prop
 |some a=>K a
 |none=>False
def QO(u:List Nat):An->B5
 |[]=>{use:=u}
 |e::r=>{use:=u,kill:=(e::r).map (·.1),new:=e::r}
def W3{A:Type}(ar:List PK->Option A)(pre:A->Prop)(re:A->D)(u:List Nat)(K:Ah):Option (List PK×An)->Prop
 |some (z,F)=>DZ (λa=>pre a/\K (.im (re a)) (QO u F)) (ar z)
 |none=>False
def EX{A:Type}(ar:List PK->Option A)(pre:A->Prop)(re:A->D):AF:=λargs h _ K=>W3 ar pre re (Au args) K (IT h args)
def Gx(S:A7)(F:An):Prop:= ∀n e,(n,e)∈F-> ∃z,S.h n=some (z,e.2)/\e.1=false
def Gx.app{S:A7}{F G:An}(O:Gx S F)(Q:Gx S G):Gx S (F++G):=by
 intro n e z;rcases B7.1 z with z|z
 .exact O n e z
 .exact Q n e z
def XF(F:An)(X:Nat->Bool):Prop:= ∀n∈F.map (·.1),X n=false
def XF.app{F G:An}{X:Nat->Bool}(h:XF (F++G) X):XF F X/\XF G X:=by
 unfold XF at*;simp only[DX,B7] at h;exact⟨λn hn=>h n (.inl hn),λn hn=>h n (.inr hn)⟩
section
variable {C:Bb}{S:A7}{h:Nat->Option Am}
def SV(hW:Wf C S){o:Nat}{d:D}{F:An}{v:Value}(hh:S.h o=h o)(hd:QR o (h o)=some (d,F))(hc:Aa S (.own o) v):Gx S F/\ ∀X,XF F X->rd (S.ice X).ok (S.ice X).hp d v:=by
 cases ho:h o with
 |none=>rw[ho] at hd;simp[QR] at hd
 |some e=>
  obtain⟨mu,e⟩:=e;rw[ho] at hd hh;cases e<;>simp only[QR,reduceCtorEq] at hd;rename_i T k rows;simp only[AN,E0] at hd;obtain⟨rfl,rfl⟩:=hd;refine⟨?_,λX hX=> ?_⟩
  .cases mu with
   |false=>intro n e z;cases z
   |true=>
    intro n e z;simp only[Cg,BS,E0] at z;obtain⟨rfl,rfl⟩:=z;exact⟨true,hh,rfl⟩
  .have Q:Wf C (S.ice X):=VY hW;have aa:=Jg (HE S X) _ _ (λ_ _=>trivial) hc;have z:(S.ice X).h o=some (mu && X o,.arr T k rows):=by
    show (S.h o).map _=_;rw[hh];rfl
   refine Mt (f:=λ_=>none) Q (λx d v hx=>by cases hx) ?_ (by rw[z];rfl) aa;intro e' l O hv hl;cases mu with
   |true=>exact mE hW (hX o (by simp)) O hv hl
   |false=>
    rw[z] at O;obtain rfl:=AJ O
    have:=(Q.loc o _ l z hl).2
    simp only[Gu,Df,CO] at this;rcases this with Z|Z
    .exact Z
    .cases Z
def SU(hW:Wf C S){o:Nat}{d:D}{F:An}{v:Value}(hh:S.h o=h o)(hd:QQ o (h o)=some (d,F))(hc:Aa S (.mp o) v):Gx S F/\ ∀X,XF F X->rd (S.ice X).ok (S.ice X).hp d v:=by
 cases ho:h o with
 |none=>rw[ho] at hd;simp[QQ] at hd
 |some e=>
  obtain⟨mu,e⟩:=e;rw[ho] at hd hh;cases e<;>simp only[QQ,reduceCtorEq] at hd;rename_i kt es;simp only[AN,E0] at hd;obtain⟨rfl,rfl⟩:=hd;refine⟨?_,λX hX=> ?_⟩
  .cases mu with
   |false=>intro n e z;cases z
   |true=>
    intro n e z;simp only[Cg,BS,E0] at z;obtain⟨rfl,rfl⟩:=z;exact⟨true,hh,rfl⟩
  .have Q:Wf C (S.ice X):=VY hW;have aa:=Jg (HE S X) _ _ (λ_ _=>trivial) hc;have z:(S.ice X).h o=some (mu && X o,.map kt es):=by
    show (S.h o).map _=_;rw[hh];rfl
   refine SP Q ?_ (by rw[z];rfl) aa;intro e' l O hv hl;cases mu with
   |true=>exact mE hW (hX o (by simp)) O hv hl
   |false=>
    rw[z] at O;obtain rfl:=AJ O
    have:=(Q.loc o _ l z hl).2
    simp only[Gu,Df,CO] at this;rcases this with Z|Z
    .exact Z
    .cases Z
mutual
def oK(hW:Wf C S): ∀(x:AV) (d:D) (F:An) (v:Value),(∀n∈x.nms,S.h n=h n)->EA h x=some (d,F)->Aa S x v->Gx S F/\ ∀X,XF F X->rd (S.ice X).ok (S.ice X).hp d v
 | .im d',d,F,v,_,hd,z=>by
   simp only[EA,AN,E0] at hd;obtain⟨rfl,rfl⟩:=hd;simp only[Aa] at z;exact⟨(λn e he=>by cases he),λX _=>Hm (HE S X).ok _ _ z⟩
 | .own o,d,F,v,O,hd,z=>by
   simp only[EA] at hd;exact SV hW (O o (by simp[AV.nms])) hd z
 | .mp o,d,F,v,O,hd,z=>by
   simp only[EA] at hd;exact SU hW (O o (by simp[AV.nms])) hd z
 | .agg Q,d,F,v,O,hd,z=>by
   simp only[EA] at hd;cases hl:SS h Q with
   |none=>rw[hl] at hd;cases hd
   |some q=>
    obtain⟨ds,G⟩:=q;rw[hl] at hd;simp only[nL,AN,E0] at hd;obtain⟨rfl,rfl⟩:=hd;simp only[Aa] at z;obtain⟨Z,rfl,h1⟩:=z;obtain⟨h2,h3⟩:=Qtb hW Q ds G Z.toList (by simpa only[AV.nms] using O) hl h1;exact⟨h2,λX hX=>by simp only[rd];exact⟨Z,rfl,h3 X hX⟩⟩
 | .tup Q,d,F,v,O,hd,z=>by
   simp only[EA] at hd;cases hl:SS h Q with
   |none=>rw[hl] at hd;cases hd
   |some q=>
    obtain⟨ds,G⟩:=q;rw[hl] at hd;simp only[nL,AN,E0] at hd;obtain⟨rfl,rfl⟩:=hd;simp only[Aa] at z;obtain⟨Z,rfl,h1⟩:=z;obtain⟨h2,h3⟩:=Qtb hW Q ds G Z.toList (by simpa only[AV.nms] using O) hl h1;exact⟨h2,λX hX=>by simp only[rd];exact⟨Z,rfl,h3 X hX⟩⟩
 | .any,d,F,v,_,hd,_=>by simp[EA] at hd
 | .ptr _ _,d,F,v,_,hd,_=>by simp[EA] at hd
 | .eptr _ _ _,d,F,v,_,hd,_=>by simp[EA] at hd
 | .ch _,d,F,v,_,hd,_=>by simp[EA] at hd
 | .it _,d,F,v,_,hd,_=>by simp[EA] at hd
 | .osl _ _ _,d,F,v,_,hd,_=>by simp[EA] at hd
 | .clo _ _ _,d,F,v,_,hd,_=>by simp[EA] at hd
def Qtb(hW:Wf C S): ∀(xs:List AV) (ds:List D) (F:An) (vs:List Value),(∀n∈Au xs,S.h n=h n)->SS h xs=some (ds,F)->AO S xs vs->Gx S F/\ ∀X,XF F X->rdl (S.ice X).ok (S.ice X).hp ds vs
 |[],ds,F,vs,_,hd,z=>by
  simp only[SS,AN,E0] at hd;obtain⟨rfl,rfl⟩:=hd;simp only[AO] at z;exact⟨(λn e he=>by cases he),λX _=>by simp only[rdl];exact z⟩
 |x::xs,ds,F,vs,Q,hd,z=>by
  simp only[Au,B7] at Q;simp only[SS] at hd;simp only[AO] at z;obtain⟨v,r,rfl,h1,h2⟩:=z;cases hx:EA h x with
  |none=>rw[hx] at hd;simp[Sp] at hd
  |some q=>
   obtain⟨d,E⟩:=q;cases hl:SS h xs with
   |none=>rw[hx,hl] at hd;simp[Sp] at hd
   |some q2=>
    obtain⟨O,G⟩:=q2;rw[hx,hl] at hd;simp only[Sp,AN,E0] at hd;obtain⟨rfl,rfl⟩:=hd;obtain⟨a1,a2⟩:=oK hW x d E v (λn hn=>Q n (.inl hn)) hx h1;obtain⟨b1,b2⟩:=Qtb hW xs O G r (λn hn=>Q n (.inr hn)) hl h2;refine⟨a1.app b1,λX hX=> ?_⟩;obtain⟨c1,Z⟩:=hX.app;simp only[rdl];exact⟨v,r,rfl,a2 X c1,b2 X Z⟩
end
def Qyv(hW:Wf C S){d:D}{v:Value}(hd:rd S.ok S.hp d v):IV S (FQ d) v:=by
 cases d<;>try exact hd
 rename_i cs;simp only[rd] at hd;obtain⟨b,p,vs,T,z,O,Q,Z,h4⟩:=hd;exact⟨b,p,vs,T,z,O,hW.oks b Q,Z,h4⟩
def dU{ok:Nat->Prop}{hp:Nat->Option Obj}{k:Nat}{r:List D}: ∀(rows:List (List D)) (vs:List Value) (i:Nat),rdr ok hp k rows vs->rows[i]? =some r->r.length=k/\rdp ok hp r (vs.drop (i*k))
 |[],_,i,_,h=>by simp at h
 |q::rows,vs,i,h,z=>by
  simp only[rdr] at h;cases i with
  |zero=>
   simp only[Iq,AN] at z;subst z;simpa using ⟨h.1,h.2.1⟩
  |succ i=>
   obtain⟨g1,g2⟩:=dU rows (vs.drop k) i h.2.2 (by simpa using z);rw[Es] at g2;refine⟨g1,?_⟩;rw[vO,mZ (i*k) k];exact g2
def Uo(hW:Wf C S){x:AV}{p:PK}{F:An}{v:Value}(hh: ∀n∈x.nms,S.h n=h n)(hp:IS h x=some (p,F))(hc:Aa S x v):Gx S F/\ ∀X,XF F X->IV (S.ice X) p v:=by
 have aa:cF (EA h x)=some (p,F)->Gx S F/\ ∀X,XF F X->IV (S.ice X) p v:=by
  intro hp;cases hx:EA h x with
  |none=>rw[hx] at hp;cases hp
  |some q=>
   obtain⟨d,G⟩:=q;rw[hx] at hp;simp only[cF,AN,E0] at hp;obtain⟨rfl,rfl⟩:=hp;obtain⟨Z,h2⟩:=oK hW x d G v hh hx hc;exact⟨Z,h2⟩
 cases x<;>simp only[IS,reduceCtorEq] at hp
 case eptr o i off=>
  have Q:=hh o (by simp[AV.nms]);cases hn:h o with
  |none=>rw[hn] at hp;simp[Uq] at hp
  |some e=>
   obtain⟨mu,e⟩:=e;rw[hn] at hp Q;have z:=hW.obj o _ Q;simp only[Aa] at hc;obtain⟨l,hl,hv⟩:=hc.2 _ Q;have O:=(hW.loc o _ l Q hl).1;cases e<;>simp only[Uq,reduceCtorEq] at hp;rename_i T k rows;cases hr:rows[i]? with
   |none=>rw[hr] at hp;cases hp
   |some r=>
    rw[hr] at hp;simp only[pkR,AN,E0] at hp;obtain⟨rfl,rfl⟩:=hp;refine⟨(λn e he=>by cases he),λX _=> ?_⟩;rw[hl] at z;simp only[Ao] at z;obtain⟨_,_,vs,h5,_,h6⟩:=z;obtain⟨g1,g2⟩:=dU rows _ i h6 hr;simp only[IV];refine⟨l.b,l.p+i*k+off,vs,_,_,hv,O,h5,?_⟩;have h7:=VV (HE S X).ok _ _ g2;rw[Es] at h7;rcases Zfa off r.length with h8|h8
    .have:=Q6 off r _ h7 h8
     rwa [Es] at this
    .rw[DY h8];simp only[rdp]
 case im d=>
  simp only[AN,E0] at hp;obtain⟨rfl,rfl⟩:=hp;simp only[Aa] at hc;exact⟨(λn e he=>by cases he),λX _=>Qyv (VY hW) (Hm (HE S X).ok _ _ hc)⟩
 case ptr o off=>
  have Q:=hh o (by simp[AV.nms]);cases hn:h o with
  |none=>rw[hn] at hp;simp[QT] at hp
  |some e=>
   obtain⟨mu,e⟩:=e;rw[hn] at hp Q;have z:=hW.obj o _ Q;simp only[Aa] at hc;obtain⟨l,hl,hv⟩:=hc.2 _ Q;have O:=(hW.loc o _ l Q hl).1;cases e<;>simp only[QT,reduceCtorEq] at hp
   case cells T cs=>
    cases ha:DA (cs.drop off) with
    |none=>rw[ha] at hp;cases hp
    |some ds=>
     rw[ha] at hp;simp only[pkC,AN,E0] at hp;obtain⟨rfl,rfl⟩:=hp;refine⟨(λn e he=>by cases he),λX _=> ?_⟩;simp only[Ao] at z;obtain⟨lc,vs,Z,h2,h3,h4⟩:=z;rw[hl] at Z;obtain rfl:=AJ Z;simp only[IV];refine⟨l.b,l.p+off,vs,_,_,hv,O,h3,?_⟩;rw[h2,FN];have h5:AO S (cs.drop off) (vs.toList.drop off):=by
      have: ∀(n:Nat) (a:List AV) (b:List Value),AO S a b->AO S (a.drop n) (b.drop n):=by
       intro n;induction n with
       |zero=>intro a b h;simpa using h
       |succ n ih=>
        intro a b h;cases a with
        |nil=>simp only[AO] at h;subst h;simp[AO]
        |cons x a=>
         simp only[AO] at h;obtain⟨v,r,rfl,_,h⟩:=h;simpa using ih a r h
      exact this off cs _ h4
     exact Qse ds _ (LF (HE S X).ok _ _ (Qov _ ds _ ha h5))
   case view cs=>
    simp only[AN,E0] at hp;obtain⟨rfl,rfl⟩:=hp;refine⟨(λn e he=>by cases he),λX _=> ?_⟩;simp only[Ao] at z;obtain⟨lc,vs,T,fr,Z,h2,h3⟩:=z;rw[hl] at Z;obtain rfl:=AJ Z;simp only[IV];refine⟨l.b,l.p+off,vs,T,fr,hv,O,h2,?_⟩;rw[<-Es]
    have: ∀(n:Nat) (a:List D) (b:List Value),rdp S.ok S.hp a b->rdp S.ok S.hp (a.drop n) (b.drop n):=by
     intro n;induction n with
     |zero=>intro a b h;simpa using h
     |succ n ih=>
      intro a b h;cases a with
      |nil=>simp[rdp]
      |cons x a=>
       simp only[rdp] at h;obtain⟨v,r,rfl,_,h⟩:=h;simpa using ih a r h
    exact VV (HE S X).ok _ _ (this off cs _ h3)
 all_goals exact aa hp
def oW(hW:Wf C S): ∀(xs:List AV) (ps:List PK) (F:An) (vs:List Value),(∀n∈Au xs,S.h n=h n)->IT h xs=some (ps,F)->AO S xs vs->Gx S F/\ ∀X,XF F X->Fc (S.ice X) ps vs
 |[],ps,F,vs,_,hd,z=>by
  simp only[IT,AN,E0] at hd;obtain⟨rfl,rfl⟩:=hd;simp only[AO] at z;exact⟨(λn e he=>by cases he),λX _=>by simp only[Fc];exact z⟩
 |x::xs,ps,F,vs,O,hd,z=>by
  simp only[Au,B7] at O;simp only[IT] at hd;simp only[AO] at z;obtain⟨v,r,rfl,h1,h2⟩:=z;cases hx:IS h x with
  |none=>rw[hx] at hd;simp[Xz] at hd
  |some q=>
   obtain⟨p,E⟩:=q;cases hl:IT h xs with
   |none=>rw[hx,hl] at hd;simp[Xz] at hd
   |some q2=>
    obtain⟨Q,G⟩:=q2;rw[hx,hl] at hd;simp only[Xz,AN,E0] at hd;obtain⟨rfl,rfl⟩:=hd;obtain⟨a1,a2⟩:=Uo hW (λn hn=>O n (.inl hn)) hx h1;obtain⟨b1,b2⟩:=oW hW xs Q G r (λn hn=>O n (.inr hn)) hl h2;refine⟨a1.app b1,λX hX=> ?_⟩;obtain⟨c1,Z⟩:=hX.app;simp only[Fc];exact⟨v,r,rfl,a2 X c1,b2 X Z⟩
end
def Po(u:List Nat)(F:An):(QO u F).use=u/\(QO u F).kill=F.map (·.1)/\(QO u F).new=F/\(QO u F).cnt=0:=by
 cases F<;>exact⟨rfl,rfl,rfl,rfl⟩
def Fm{B:Type}(rc:D->Option B)(b:B):AV->Prop
 | .im d=>rc d=some b
 | .any=>False
 | .agg _=>False
 | .tup _=>False
 | .ptr _ _=>False
 | .eptr _ _ _=>False
 | .own _=>False
 | .mp _=>False
 | .ch _=>False
 | .it _=>False
 | .osl _ _ _=>False
 | .clo _ _ _=>False
def Ng{B:Type}(rc:D->Option B)(b:B):KN:=λr _ _=>Fm rc b r
def kZ{P:Program}(HM:P.follows .mixedOrders=true){V:Dn}(hV:KJ P V){g:FuncId}{fn:Func}{c:Code}(hf:P.funcs[g]? =some fn)(hb:fn.body=some c)(ab:Eu fn.ntmps c=true)(aa:GS P g=true)
 {A B:Type}{ar:List PK->Option A}{ae:A->List PK}(ak: ∀ps a,ar ps=some a->Cy ps (ae a)){n:Nat}(hn: ∀a,(ae a).length=n)(am:n<=fn.ntmps){rc:D->Option B}{re:B->D}(an: ∀d b,rc d=some b->Le d (re b))
 {pre:A->Prop}{f:A->B}
 (hk: ∀a,pre a->Di P V c (PJ P fn.results.toList (BV (ae a)) [] Lg (CY 0 (ae a)) (Ng rc (f a))) ⟨entry 0 (Da 0 (ae a)),CY 0 (ae a),BV (ae a)⟩):
 HC P g (EX ar pre λa=>re (f a)):=by
 intro args h nx K z;unfold EX at z;cases hp:IT h args with
 |none=>rw[hp] at z;exact z.elim
 |some q=>
  obtain⟨ps,F⟩:=q;rw[hp] at z;simp only[W3] at z;cases ha:ar ps with
  |none=>rw[ha] at z;exact z.elim
  |some a=>
   rw[ha] at z;simp only[DZ] at z;obtain⟨ad,hK⟩:=z;refine⟨aA aa,_,_,?_,hK⟩;obtain⟨e1,e2,e3,e4⟩:=Po (Au args) F;intro C S vs RR hW O af ag Q ac;rw[e1,e2] at O;obtain⟨h1,h2⟩:=oW hW args ps F vs.toList (λn hn=>O n (KQ _ hn)) hp Q
   let X:Nat->Bool:=λn=> !(F.map (·.1)).contains n
   have hX:XF F X:=by
    intro n hn;simp only[X,Jr.2 hn,mS]
   have ai:Wf C (S.ice X):=VY hW;have Z:(S.ice X).h=(QO (Au args) F).appf S.h:=by
    have:=Ti (S:=S) (F:=F) (u:=Au args) h1
    rw[show (QO (Au args) F).appf S.h=({use:=Au args,kill:=F.map (·.1),new:=F}:B5).appf S.h by
     funext m;simp only[B5.appf,e2,e3]]
    exact this
   refine VD HM hV hf hb ab (S:=S.ice X) (ps:=ae a) (r0:=re (f a)) (by rw[hn];exact am) ?_ (hk a ad) ai ((ak ps a ha).c (h2 X hX)) ?_
   .intro r H n hr;unfold Ng at hr;cases r<;>simp only[Fm] at hr;exact⟨_,rfl,an _ _ hr⟩
   .intro v S' ah hh hp' ao;refine ac v S' ah (by rw[hh,Z]) ?_ (by simp only[Aa];exact ao);refine⟨λb hb=> ?_,λo _ e' aj=> ?_⟩
    .obtain⟨q1,q2⟩:=(HE S X).ok b hb;obtain⟨q3,q4⟩:=hp'.ok b q1;exact⟨q3,q4.trans q2⟩
    .obtain⟨e,q1,q2,q3,q4⟩:=hp'.nm o trivial e' aj;obtain⟨e0,q5,q6,q7,q8⟩:=(HE S X).nm o trivial e q1;exact⟨e0,q5,q2.trans q6,q3.trans q7,q4.trans q8⟩
def Bw(σ:Nat->Nat)(k nx j:Nat):Nat:=if j<k then σ j else nx+(j - k)
def Aj(H0:An)(o:Nat):Bool:=(hget H0 o).isSome
def Hx(H0:An)(k cnt:Nat)(exB:Nat->Bool)(o:Nat):Option Nat:=bif Aj H0 o||(exB o && (Nat.ble k o && Nat.blt o (k+cnt))) then some o else none
def SD(f:AV->Option AV)(e:Am):Option Am->Prop
 |some (O,z)=>O=e.1/\BZ f z=some e.2
 |none=>False
def Er(h:Nat->Option Am)(f:AV->Option AV):An->Prop
 |[]=>True
 |(j,e)::r=>SD f e (h j)/\Er h f r
def IC(h:Nat->Option Am)(klB:Nat->Bool):An->Prop
 |[]=>True
 |(j,e)::r=>(bif klB j then True else h j=some e)/\IC h klB r
def Nr(R:AV->Prop):Option AV->Prop
 |some r=>R r
 |none=>False
def cJ(k cnt:Nat)(H0 H1:An)(klB exB:Nat->Bool)(R:AV->Prop)(s:Az)(x:AV):Prop:=
 IC (hget s.h) klB H0/\Nr R (Bf (hget s.h) (Hx H0 k cnt exB) 9 x)/\Er (hget s.h) (Bf (hget s.h) (Hx H0 k cnt exB) 9) H1
def Nq(k cnt:Nat)(H0 H1:An)(klB exB:Nat->Bool)(R:AV->Prop)(s:Az):Option (List AV)->Prop
 |some xs=>cJ k cnt H0 H1 klB exB R s (Ds xs)
 |none=>False
def IB(P:Program)(z:List ResultVar)(k cnt:Nat)(H0 H1:An)(klB exB:Nat->Bool)(R:AV->Prop)(s:Az):Prop:=Nq k cnt H0 H1 klB exB R s (Ax (KE P s) z)
def Oh(P:Program)(z:List ResultVar)(k cnt:Nat)(H0 H1:An)(klB exB:Nat->Bool)(R:AV->Prop):Ct
 | .normal,s=>IB P z k cnt H0 H1 klB exB R s
 | .ret,s=>IB P z k cnt H0 H1 klB exB R s
 | .exit _,_=>False
def xO(P:Program)(z:List ResultVar)(k cnt:Nat)(H0 H1:An)(klB exB:Nat->Bool)(R:AV->Prop)(s:Az):Prop:=
 ∃(F:List Nat) (π:List (Nat×Option Nat)) (s':Az),Av k π (SR F s) s'/\s'.good=true/\k<=s'.nx/\IB P z k cnt H0 H1 klB exB R s'
def Bs(P:Program)(z:List ResultVar)(k cnt:Nat)(H0 H1:An)(klB exB:Nat->Bool)(R:AV->Prop):Ct
 | .normal,s=>xO P z k cnt H0 H1 klB exB R s
 | .ret,s=>xO P z k cnt H0 H1 klB exB R s
 | .exit _,_=>False
def Nv{h:Nat->Option Am}{klB:Nat->Bool}: ∀(H:An),IC h klB H-> ∀j e,(j,e)∈H->klB j=false->h j=some e
 |[],_,j,e,z,_=>by cases z
 |(i,x)::r,O,j,e,z,Z=>by
  simp only[IC] at O;rcases Br.1 z with z|z
  .cases z;have Q:=O.1;rw[Z] at Q;exact Q
  .exact Nv r O.2 j e z Z
def Qve{h:Nat->Option Am}{f:AV->Option AV}: ∀(H:An),Er h f H-> ∀j e,(j,e)∈H-> ∃O,h j=some O/\e.1=O.1/\BZ f O.2=some e.2
 |[],_,j,e,z=>by cases z
 |(i,x)::r,Z,j,e,z=>by
  simp only[Er] at Z;rcases Br.1 z with z|z
  .cases z;have Q:=Z.1;cases hq:h i with
   |none=>rw[hq] at Q;exact Q.elim
   |some y=>
    obtain⟨mu,O⟩:=y;rw[hq] at Q;exact⟨(mu,O),rfl,Q.1.symm,Q.2⟩
  .exact Qve r Z.2 j e z
def Qv5{σ:Nat->Nat}{D:Nat->Prop}(hσ: ∀i j,D i->D j->σ i=σ j->i=j): ∀(H:An),(∀p∈H,D p.1)-> ∀(j:Nat),D j->hget (AQ σ H) (σ j)=(hget H j).map λe=>(e.1,e.2.ren σ)
 |[],_,j,_=>rfl
 |(i,(mu,e))::r,hH,j,O=>by
  simp only[AQ,hget];by_cases z:i=j
  .subst z;simp
  .have Q:(i==j)=false:=by simpa using z
   have Z:(σ i==σ j)=false:=by rw[HO];exact λh=>z (hσ _ _ (hH _ (BU ..)) O h)
   rw[Q,Z];simpa using Qv5 hσ r (λp hp=>hH p (BQ _ hp)) j O
def xG{P:Program}(HM:P.follows .mixedOrders=true){V:Dn}(hV:KJ P V){g:FuncId}{fn:Func}{c:Code}(hf:P.funcs[g]? =some fn)(hb:fn.body=some c)(b9:Eu fn.ntmps c=true)
 {args:List AV}{H0 H1:An}{k cnt:Nat}(c6:args.length<=fn.ntmps)(hbel:AA k args=true)(hbH:Aw k H0=true)(hkH:B6 k H0=true)
 (bu: ∀j e,hget H0 j=some e-> ∀m∈e.2.nms,Aj H0 m=true)
 {klB exB:Nat->Bool}{R:AV->Prop}{r0:AV}
 (hR: ∀r,R r->CN r r0)
 (hH1: ∀p∈H1,(p.1<k/\klB p.1=true/\Aj H0 p.1=true)\/(k<=p.1/\p.1<k+cnt/\exB p.1=true/\p.2.1=true))
 {Q:Ct}(hQ: ∀(C:Bb) (N:Nat) (a:Act) (w:World) (s:Az),C.n0=k->BN C N s a w->Q .normal s\/Q .ret s-> ∃s',BN C N s' a w/\IB P fn.results.toList k cnt H0 H1 klB exB R s')
 (cn: ∀i s,¬Q (.exit i) s)
 (hk:Di P V c Q ⟨entry 0 args,H0,k⟩)
 {h:Nat->Option Am}{nx:Nat}{τ:Nat->Nat}(cc: ∀i j,Aj H0 i=true->Aj H0 j=true->τ i=τ j->i=j)(cy: ∀j,Aj H0 j=true->τ j<nx)
 (hH: ∀j e,hget H0 j=some e->h (Bw τ k nx j)=some (e.1,e.2.ren (Bw τ k nx)))
 {U KL:List Nat}(hU: ∀j,Aj H0 j=true->τ j∈U)(c5: ∀n∈KL,∃j,Aj H0 j=true/\klB j=true/\n=τ j)(b8: ∀j,Aj H0 j=true->klB j=true->τ j∈KL):
 QY P g (AI (Bw τ k nx) args) h nx (r0.ren (Bw τ k nx)) {use:=U,kill:=KL,new:=AQ (Bw τ k nx) H1,cnt:=cnt}:=by
 intro C S vs RR hW ci am bj a0 cb
 let σ:=Bw τ k nx
 let DD:Nat->Prop:=λj=>Aj H0 j=true\/k<=j
 have ai: ∀j e,hget H0 j=some e->Aj H0 j=true:=λj e he=>by unfold Aj;rw[he];rfl
 have aj: ∀j,Aj H0 j=true-> ∃e,hget H0 j=some e:=λj Z=>by
  unfold Aj at Z;cases hq:hget H0 j with
  |none=>rw[hq] at Z;cases Z
  |some e=>exact⟨e,rfl⟩
 have ao: ∀j,Aj H0 j=true->j<k:=λj Z=>by
  obtain⟨e,he⟩:=aj j Z;exact sC _ hkH j e he
 have hσlo: ∀j,j<k->σ j=τ j:=λj Z=>Ai Z
 have hσge: ∀j,k<=j->σ j=nx+(j - k):=λj Z=>Af (by omega)
 have hσin: ∀j,Aj H0 j=true->σ j∈U:=λj Z=>by rw[hσlo j (ao j Z)];exact hU j Z
 have hσlt: ∀j,Aj H0 j=true->σ j<nx:=λj Z=>by rw[hσlo j (ao j Z)];exact cy j Z
 have hσinj: ∀i j,DD i->DD j->σ i=σ j->i=j:=by
  intro i j hi Z h;rcases hi with hi|hi<;>rcases Z with Z|Z
  .rw[hσlo i (ao i hi),hσlo j (ao j Z)] at h;exact cc i j hi Z h
  .have:=hσlt i hi
   rw[h,hσge j Z] at this;omega
  .have:=hσlt j Z
   rw[<-h,hσge i hi] at this;omega
  .rw[hσge i hi,hσge j Z] at h;omega
 have hS: ∀j e,hget H0 j=some e->S.h (σ j)=some (e.1,e.2.ren σ):=by
  intro j e he;rw[ci (σ j) (KQ _ (hσin j (ai j e he)))];exact hH j e he
 refine calls_of_wp hf hb ?_;have cj:=Jf _ _ a0;have c8:vs.size=args.length:=by rw[Qsc] at cj;simpa using cj
 let S0:A7:=⟨λj=>S.ρ (σ j),S.ok,hget H0,S.w⟩
 let M0:Nat->Prop:=λb=> ∃j e l,hget H0 j=some e/\e.1=true/\S.ρ (σ j)=some l/\l.b=b
 let C0:Bb:=⟨S.w,M0,S.ok,k,hget H0,λj=>S.ρ (σ j),[]⟩
 have bf: ∀n,O9 S S0 σ (λn=>n) n:=by
  intro n;refine⟨λe' z=>⟨_,hS n e' z,rfl,?_,?_⟩⟩
  .exact (Qr6 σ e'.2).symm
  .exact (Qs6 σ e'.2).symm
 have bn: ∀b,S.ok b->S0.ok b/\S0.hp b=S.hp b:=λb hb=>⟨hb,rfl⟩
 have cq:Wf C0 S0:=by
  refine⟨rfl,rfl,rfl,AU _,AU _,λ_ _ _=>rfl,λ_ hb=>hb,λ_ hb=> .inl hb,hW.oks,?_,?_,?_,hW.glN (by rintro b ⟨j,e,l,O,h2,h3,rfl⟩;have h4:=(hW.loc _ _ l (hS j e O) h3).2;rw[show (e.1,e.2.ren σ).1=true from h2] at h4;simp only[BD] at h4;exact h4.1)⟩
  .intro j e he;have O:=hW.obj _ _ (hS j e he);have h2:=Qzw (τ:=λn=>n) bn (λ_ _=>rfl) e.2 (λn _=>bf n) O;rwa [Qwc] at h2
  .intro j e l he hl;obtain⟨O,h2⟩:=hW.loc _ _ l (hS j e he) hl;refine⟨O,?_⟩;cases hm:e.1 with
   |false=>
    rw[hm] at h2;have hv:(e.2.ren σ).isView=e.2.isView:=by cases e.2<;>rfl
    simpa[hv] using h2
   |true=>
    rw[hm] at h2;simp only[BD] at h2⊢;exact⟨h2.1,.inr ⟨j,e,l,he,hm,hl,rfl⟩⟩
  .intro i j e e' l l' he z hl bw af ak;exact hσinj _ _ (.inl (ai _ _ he)) (.inl (ai _ _ z)) (hW.inj _ _ _ _ l l' (hS i e he) (hS j e' z) hl bw af ak)
 have cr:BN C0 fn.ntmps ⟨entry 0 args,H0,k⟩ {tmps:=vs++Array.replicate (fn.ntmps - vs.size) undef,defers:=[]} S.w:=by
  have bg:AO S0 args vs.toList:=by
   have:=eY (τ:=λn=>n) bn args vs.toList (λn _=>bf n) a0
   rwa [aE] at this
  refine⟨S0,rfl,cq,λn=>rfl,?_,?_,λn e he=>⟨sC _ hkH n e he,fL _ hbH n e he⟩,by simp;omega,rfl,AU _,λo _ e' z=>⟨e',z,rfl,rfl,rfl⟩⟩
  .intro t;have O:=lD (S:=S0) args vs.toList 0 t bg;simp only[C5,BD,nA] at O
   have:({tmps:=vs++Array.replicate (fn.ntmps - vs.size) undef,defers:=[]}:Act).eval (.tmp t)=(vs.toList[t]?).getD undef:=by
    simp only[Act.eval,Im,vB,gT];by_cases ht:t<vs.size
    .simp[ht]
    .simp only[ht,CO]
     have:vs[t]? =none:=XB (by omega)
     simp only[KS,this]
     split<;>rfl
   rw[this];exact O
  .intro t m hm;exact ZW args hbel m (lK args 0 t m hm)
 refine wp_mono (Qo4 HM (uK hV) c b9 _ _ _ _ hk cr) ?_;have fin: ∀(s:Az) (a:Act) (w:World),IB P fn.results.toList k cnt H0 H1 klB exB R s->BN C0 fn.ntmps s a w->a.defers=[]/\ ∃v,(results fn a.tmps).run P w= .ok v w/\RR (.returned v) w:=by
  rintro s a w hr ⟨S1,rfl,hc⟩;unfold IB at hr;cases hxs:Ax (KE P s) fn.results.toList with
  |none=>rw[hxs] at hr;exact hr.elim
  |some xs=>
   rw[hxs] at hr;simp only[Nq] at hr;obtain⟨v,cg,br⟩:=rL hc hxs;refine⟨hc.defers,v,cg,?_⟩;obtain⟨cf,aw,az⟩:=hr;have co:hget s.h=S1.h:=(funext hc.h).symm;rw[co] at cf aw az
   let kx:=Hx H0 k cnt exB
   let X:Nat->Bool:=λo=>(kx o).isSome
   have ab:Wf C0 (S1.ice X):=VY hc.wf;have ba: ∀o,(S1.ice X).h o=(S1.h o).map λe=>(e.1 && X o,e.2):=λo=>rfl
   have bh: ∀o e l,kx o=none->(S1.ice X).h o=some e->e.2.isView=false->(S1.ice X).ρ o=some l->(S1.ice X).ok l.b:=by
    intro o e l ho he hv hl;exact mE hc.wf (by simp[X,ho]) he hv hl
   have bv: ∀(f:AV->Option D) (o:Nat),Q9 f ((S1.ice X).h o)=Q9 f (S1.h o)/\X2 ((S1.ice X).h o)=X2 (S1.h o)/\Xw f ((S1.ice X).h o)=Xw f (S1.h o):=by
    intro f o;rw[ba];cases S1.h o with
    |none=>exact⟨rfl,rfl,rfl⟩
    |some e=>obtain⟨mu,e⟩:=e;cases e<;>exact⟨rfl,rfl,rfl⟩
   have bl: ∀(n:Nat),Bf (S1.ice X).h kx n=Bf S1.h kx n:=by
    intro n;induction n with
    |zero=>funext x;simp[Bf]
    |succ n ih=>
     funext x;cases x with
     |own o=>simp only[Bf,ih,(bv _ o).1]
     |mp o=>simp only[Bf,(bv (λ_=>none) o).2.1]
     |ptr o p=>cases p<;>simp only[Bf,ih,(bv _ o).2.2]
     |_=>simp only[Bf,ih]
   rw[<-bl] at aw;have az:Er S1.h (Bf (S1.ice X).h kx 9) H1:=by rw[bl];exact az
   cases hcv:Bf (S1.ice X).h kx 9 (Ds xs) with
   |none=>rw[hcv] at aw;exact aw.elim
   |some r=>
    rw[hcv] at aw;simp only[Nr] at aw;have cm:=hR _ aw;have bi: ∀o j,kx o=some j->j=o/\(Aj H0 o=true\/(k<=o/\o<k+cnt)):=by
     intro o j Z;simp only[kx,Hx] at Z;cases hq:Aj H0 o<;>rw[hq] at Z
     .cases hq2:(exB o && (Nat.ble k o && Nat.blt o (k+cnt)))<;>rw[hq2] at Z
      .cases Z
      .simp only[AY,FA,Ei] at hq2;simp only[bJ,Cg,AN] at Z;exact⟨Z.symm,.inr hq2.2⟩
     .simp only[mT,Cg,AN] at Z;exact⟨Z.symm,.inl rfl⟩
    have bc: ∀o,Aj H0 o=true->kx o=some o:=λo ho=>by simp only[kx,Hx,ho,mT,Cg]
    have ce: ∀o,exB o=true->k<=o->o<k+cnt->kx o=some o:=λo O h2 h3=>by
     have:(exB o && (Nat.ble k o && Nat.blt o (k+cnt)))=true:=by simp[O,h2,h3]
     simp only[kx,Hx,this,bJ,Cg]
    have ag: ∀j e',(j,e')∈H1->DD j/\j<k+cnt/\((j<k/\klB j=true/\Aj H0 j=true)\/(k<=j/\e'.1=true))/\kx j=some j/\ ∃e,S1.h j=some e/\e'.1=e.1/\BZ (Bf (S1.ice X).h kx 9) e.2=some e'.2:=by
     intro j e' hm;obtain⟨e0,g1,g2,g3⟩:=Qve H1 az j e' hm;rcases hH1 _ hm with ⟨O,h2,h3⟩|⟨O,h2,h3,h4⟩
     .exact⟨.inl h3,by simp only at O;omega,.inl ⟨O,h2,h3⟩,bc j h3,e0,g1,g2,g3⟩
     .exact⟨.inr O,h2,.inr ⟨O,h4⟩,ce j h3 O h2,e0,g1,g2,g3⟩
    let E:B5:={use:=U,kill:=KL,new:=AQ σ H1,cnt:=cnt}
    let S':A7:=⟨λn=>if nx<=n/\n<nx+cnt then S1.ρ (n - nx+k) else S.ρ n,(S1.ice X).ok,E.appf S.h,S1.w⟩
    have hρ: ∀j,DD j->j<k+cnt->(∀e,S1.h j=some e->S'.ρ (σ j)=S1.ρ j):=by
     intro j hd Z e he;simp only[S'];by_cases au:j<k
     .have cv:Aj H0 j=true:=hd.resolve_right (by omega);have O:=hσlt j cv;rw[Af (by omega)];obtain⟨_,_,h3,_⟩:=hc.pre j au e he;exact h3.symm
     .have O:=hσge j (by omega);rw[Ai (by rw[O];omega),O];congr 1;omega
    have ah: ∀n e',S'.h n=some e'->(∃j e,n=σ j/\(j,e)∈H1/\hget H1 j=some e/\e'=(e.1,e.2.ren σ))\/(S.h n=some e'/\ ∀j,Aj H0 j=true->klB j=true->n≠σ j):=by
     intro n e' z;have z:E.appf S.h n=some e':=z;simp only[B5.appf,E] at z;cases hg:hget (AQ σ H1) n with
     |some x=>
      rw[hg] at z;obtain rfl:=AJ z;obtain⟨j,e,O,h2,h3⟩:=uS hg;subst h2;rw[Qv5 hσinj H1 (λp hp=>(ag p.1 p.2 hp).1) j (ag j e O).1] at hg;cases Z:hget H1 j with
      |none=>rw[Z] at hg;cases hg
      |some y=>
       rw[Z] at hg;exact .inl ⟨j,y,rfl,fG Z,Z,by simpa using hg.symm⟩
     |none=>
      rw[hg] at z;cases hq:KL.contains n<;>rw[hq] at z
      .refine .inr ⟨z,?_⟩;rintro j Z cd rfl
       have:=b8 j Z cd
       rw[<-hσlo j (ao j Z)] at this;rw[Jr.2 this] at hq;cases hq
      .cases z
    have a8: ∀n e l,S.h n=some e->S.ρ n=some l->(∀j,Aj H0 j=true->n≠σ j)->l.b<S.w.heap.size/\ ¬M0 l.b:=by
     intro n e l he hl hn;refine⟨(hW.loc n e l he hl).1,?_⟩;rintro⟨j,e0,l0,O,h9,h2,h3⟩;exact hn j (ai j e0 O) (hW.inj _ _ _ _ l l0 he (hS j e0 O) hl h2 h3.symm (by simp[h9]))
    have av: ∀b,b<S.w.heap.size-> ¬M0 b->S1.w.heap[b]? =S.w.heap[b]? :=λb hb hM=>hc.wf.keep b hb hM
    have bo: ∀b,S.ok b->S'.ok b/\S'.hp b=S.hp b:=by
     intro b hb;refine⟨ab.ok0 b hb,av b (hW.oks b hb) ?_⟩;rintro⟨j,e,l,O,h2,h3,h4⟩
     have:=(hW.loc _ _ l (hS j e O) h3).2
     rw[show (e.1,e.2.ren σ).1=true from h2] at this;simp only[BD] at this;exact this.1 (h4▸hb)
    have ay: ∀j e0,hget H0 j=some e0->klB j=false->S1.h j=some e0:=λj e0 O h2=>Nv H0 cf j e0 (fG O) h2
    have bd: ∀j,Aj H0 j=true->(∀j',Aj H0 j'=true->klB j'=true->σ j≠σ j')->klB j=false:=by
     intro j Z h;cases hq:klB j with
     |false=>rfl
     |true=>exact absurd rfl (h j Z hq)
    have be: ∀o,¬Fr nx cnt o-> ∀e',S'.h o=some e'-> ∃e,S.h o=some e/\S'.ρ o=S.ρ o/\e'.2.esz=e.2.esz/\e'.2.len=e.2.len:=by
     intro o ho e' z;have hρo:S'.ρ o=S.ρ o:=by
      simp only[S'];rw[Af (by intro h;exact ho ⟨h.1,h.2⟩)]
     rcases ah o e' z with ⟨j,e,rfl,O,h2,rfl⟩|⟨O,_⟩
     .obtain⟨g0,g1,g2,g3,x,g4,g5,g6⟩:=ag j e O;have au:j<k:=by
       rcases g2 with g2|g2
       .exact g2.1
       .have:=hσge j g2.1
        exact absurd (show Fr nx cnt (σ j) from ⟨by omega,by omega⟩) ho
      obtain⟨e0,p1,p2,p3,p4⟩:=hc.pre j au x g4;have an:=(@Qti C0 (S1.ice X) (S1.ice X) ab kx (λj=>j) (λb hb=>⟨hb,rfl⟩) bh (by
       intro o j Z e' z;obtain⟨q1,_⟩:=bi o j Z;subst q1;exact⟨e',z,rfl,rfl,rfl⟩) 9 x.2 e.2 g6).1
      refine⟨_,hS j e0 p1,hρo,?_,?_⟩
      .simp only[Qr6];rw[<-p3,<-an.1]
      .simp only[Qs6];rw[<-p4,<-an.2]
     .exact⟨e',O,hρo,rfl,rfl⟩
    have ax: ∀o j,kx o=some j-> ∀e',S'.h (σ j)=some e'-> ∃e,(S1.ice X).h o=some e/\S'.ρ (σ j)=(S1.ice X).ρ o/\e'.2.esz=e.2.esz/\e'.2.len=e.2.len:=by
     intro o j Z e' z;obtain⟨rfl,q2⟩:=bi o j Z;have bt:DD j:=q2.imp id (λh=>h.1);have cw:j<k+cnt:=by
      rcases q2 with q2|q2
      .have:=ao j q2;omega
      .exact q2.2
     rcases ah (σ j) e' z with ⟨j',e,h0,O,h2,rfl⟩|⟨O,h2⟩
     .obtain⟨g0,g1,g2,g3,x,g4,g5,g6⟩:=ag j' e O;obtain rfl:=hσinj _ _ bt g0 h0;have an:=(@Qti C0 (S1.ice X) (S1.ice X) ab kx (λj=>j) (λb hb=>⟨hb,rfl⟩) bh (by
       intro o j Z e' z;obtain⟨q1,_⟩:=bi o j Z;subst q1;exact⟨e',z,rfl,rfl,rfl⟩) 9 x.2 e.2 g6).1
      have hr:=hρ j bt g1 x g4;refine⟨(x.1 && X j,x.2),by rw[ba,g4];rfl,hr,?_,?_⟩
      .simp only[Qr6];rw[<-an.1]
      .simp only[Qs6];rw[<-an.2]
     ·
      have aa:Aj H0 j=true:=by
       rcases q2 with h|h
       .exact h
       .have h5:=am (σ j) ⟨by rw[hσge j h.1];omega,by rw[hσge j h.1];show nx+(j - k)<nx+cnt;omega⟩;rw[h5] at O;cases O
      have bb:=bd j aa (λj' a b=>h2 j' a b);obtain⟨e0,ad⟩:=aj j aa;have g4:=ay j e0 ad bb;have hr:=hρ j bt cw e0 g4
      have:=hS j e0 ad
      rw[O] at this;obtain rfl:=AJ this;refine⟨(e0.1 && X j,e0.2),by rw[ba,g4];rfl,hr,?_,?_⟩
      .simp only[Qr6]
      .simp only[Qs6]
    have aq: ∀n e' l,S'.h n=some e'->S'.ρ n=some l->(∃j x,n=σ j/\S1.h j=some x/\e'.1=x.1/\S1.ρ j=some l/\(k<=j->x.1=true)/\DD j/\kx j=some j/\e'.2.isView=x.2.isView)\/(S.h n=some e'/\S.ρ n=some l/\ ∀j,Aj H0 j=true->n≠σ j):=by
     intro n e' l z hl;rcases ah n e' z with ⟨j,e,rfl,O,h2,rfl⟩|⟨O,h2⟩
     .obtain⟨g0,g1,g2,g3,x,g4,g5,g6⟩:=ag j e O;have hr:=hρ j g0 g1 x g4;refine .inl ⟨j,x,rfl,g4,g5,by rw[<-hr];exact hl,?_,g0,g3,?_⟩
      .intro cd;rcases g2 with g2|g2
       .omega
       .rw[<-g5];exact g2.2
      .have hv:(e.2.ren σ).isView=e.2.isView:=by cases e.2<;>rfl
       show (e.2.ren σ).isView=_;rw[hv];exact Pe g6
     .by_cases hn: ∃j,Aj H0 j=true/\n=σ j
      .obtain⟨j,aa,rfl⟩:=hn;have bb:=bd j aa (λj' a b=>h2 j' a b);obtain⟨e0,ad⟩:=aj j aa;have g4:=ay j e0 ad bb;have au:=ao j aa;have hr:=hρ j (.inl aa) (by omega) e0 g4
       have:=hS j e0 ad
       rw[O] at this;obtain rfl:=AJ this;exact .inl ⟨j,e0,rfl,g4,rfl,by rw[<-hr];exact hl,λh=>by omega,.inl aa,bc j aa,by cases e0.2<;>rfl⟩
      .have bz: ∀j,Aj H0 j=true->n≠σ j:=λj Z h=>hn ⟨j,Z,h⟩
       refine .inr ⟨O,?_,bz⟩;have bx: ¬Fr nx cnt n:=by
        intro a9
        have:=am n a9
        rw[this] at O;cases O
       have hρo:S'.ρ n=S.ρ n:=by
        simp only[S'];rw[Af (by intro h;exact bx ⟨h.1,h.2⟩)]
       rw[<-hρo];exact hl
    have cp:Wf C S':=by
     refine⟨hc.wf.os.trans hW.os,hc.wf.tape.trans hW.tape,hc.wf.output.trans hW.output,CS hW.dr hc.wf.dr,CS hW.size hc.wf.size,?_,λb hb=>ab.ok0 b (hW.ok0 b hb),?_,ab.oks,?_,?_,?_,hW.gl⟩
     .intro b hb hM;have c2: ¬M0 b:=by
       rintro⟨j,e,l,O,h2,h3,h4⟩
       have:=(hW.loc _ _ l (hS j e O) h3).2
       rw[show (e.1,e.2.ren σ).1=true from h2] at this;simp only[BD] at this;rcases this.2 with h5|h5
       .omega
       .exact hM (h4▸h5)
      exact (av b (FM hb hW.size) c2).trans (hW.keep b hb hM)
     .intro b hb;rcases ab.ok1 b hb with h|h|h
      .exact hW.ok1 b h
      .exact .inr (.inl (CS hW.size h))
      .obtain⟨j,e,l,O,h2,h3,h4⟩:=h
       have:=(hW.loc _ _ l (hS j e O) h3).2
       rw[show (e.1,e.2.ren σ).1=true from h2] at this;simp only[BD] at this;rw[<-h4];exact .inr this.2
     .intro n e' z;rcases ah n e' z with ⟨j,e,rfl,O,h2,rfl⟩|⟨O,h2⟩
      .obtain⟨g0,g1,g2,g3,x,g4,g5,g6⟩:=ag j e O;have an:=ab.obj j (x.1 && X j,x.2) (by rw[ba,g4];rfl);have hr:=hρ j g0 g1 x g4;have h5:=(Qti (S':=S') (τ:=σ) ab (λb hb=>⟨hb,rfl⟩) bh ax g6).2 _ (λ_ _=>rfl) an;rw[hr];exact h5
      .by_cases hn: ∃j,Aj H0 j=true/\n=σ j
       .obtain⟨j,aa,rfl⟩:=hn;have bb:=bd j aa (λj' a b=>h2 j' a b);obtain⟨e0,ad⟩:=aj j aa;have g4:=ay j e0 ad bb;have au:=ao j aa;have hr:=hρ j (.inl aa) (by omega) e0 g4
        have:=hS j e0 ad
        rw[O] at this;obtain rfl:=AJ this;rw[hr];have an:=hc.wf.obj j e0 g4;have h7:=Qzw (S:=S1) (S':=S') (σ:=λn=>n) (τ:=σ) (l:=S1.ρ j) (λb hb=>⟨.inl hb,rfl⟩) (λ_ _=>rfl) e0.2 ?_ (by rw[Qwc];exact an)
        .exact h7
        .intro m hm;refine⟨λe' z=> ?_⟩;have c7:m<k:=fL _ hbH j e0 ad m hm;cases hkm:kx m with
         |some m'=>
          obtain⟨rfl,_⟩:=bi m m' hkm;obtain⟨x,q1,q2,q3,q4⟩:=ax m' m' hkm e' z;obtain⟨y,q5,q6⟩:=VR q1;exact⟨y,q5,q2,by rw[q3,q6],by rw[q4,q6]⟩
         |none=>
          exfalso;have cz:Aj H0 m≠true:=λh=>by rw[bc m h] at hkm;cases hkm
          exact cz (bu j e0 ad m hm)
       .have bz: ∀j,Aj H0 j=true->n≠σ j:=λj Z h=>hn ⟨j,Z,h⟩
        have bx: ¬Fr nx cnt n:=by
         intro a9
         have:=am n a9
         rw[this] at O;cases O
        have hρo:S'.ρ n=S.ρ n:=by
         simp only[S'];rw[Af (by intro h;exact bx ⟨h.1,h.2⟩)]
        rw[hρo];refine HF (X:=λm=> ¬Fr nx cnt m) ⟨bo,λo ho e' z=>be o ho e' z⟩ ?_ e'.2 (λm hm=>bj n e' O m hm) (hW.obj n e' O);intro lc cx;obtain⟨p1,p2⟩:=a8 n e' lc O cx bz;exact av lc.b p1 p2
     .intro n e' l z hl;rcases aq n e' l z hl with ⟨j,x,rfl,g4,g5,g6,g7,g8,ck,g9⟩|⟨O,h2,h3⟩
      .have cu:X j=true:=by simp only[X,ck];rfl
       have ac:=ab.loc j (x.1 && X j,x.2) l (by rw[ba,g4];rfl) g6;rw[cu,Et] at ac;refine⟨ac.1,?_⟩;rw[g5];cases hm:x.1 with
       |false=>
        have h9:=ac.2;simp only[hm] at h9;simp only[Df,CO] at h9⊢;rcases h9 with h9|h9
        .exact .inl h9
        .refine .inr ?_;rw[g9];exact h9
       |true=>
        have h9:=ac.2;simp only[hm,BD] at h9⊢;refine⟨h9.1,?_⟩;rcases h9.2 with bp|bp
        .exact .inl (CS hW.size bp)
        .obtain⟨j',e0,l0,p1,p2,p3,p4⟩:=bp
         have:=(hW.loc _ _ l0 (hS j' e0 p1) p3).2
         rw[show (e0.1,e0.2.ren σ).1=true from p2] at this;simp only[BD] at this;rw[<-p4];exact this.2
      .obtain⟨p1,p2⟩:=hW.loc n e' l O h2;obtain⟨p3,p4⟩:=a8 n e' l O h2 h3;refine⟨FM p1 hc.wf.size,?_⟩;cases hm:e'.1 with
       |false=>
        rw[hm] at p2;simp only[Df,CO] at p2⊢;exact p2.imp (λh=>ab.ok0 _ h) id
       |true=>
        rw[hm] at p2;simp only[BD] at p2⊢;refine⟨λc3=> ?_,p2.2⟩;rcases ab.ok1 _ c3 with h|h|h
        .exact p2.1 h
        .have h:S.w.heap.size<=l.b:=h;omega
        .exact p4 h
     ·
      have bm: ∀j x l n' e2 l',S1.h j=some x->S1.ρ j=some l->(k<=j->x.1=true)->DD j->S.h n'=some e2->S.ρ n'=some l'->(∀i,Aj H0 i=true->n'≠σ i)->l.b=l'.b->(x.1||e2.1)=true->False:=by
       intro j x l n' e2 l' g1 g2 g3 g4 p1 p2 p3 af ak;obtain⟨q1,q2⟩:=a8 n' e2 l' p1 p2 p3;by_cases au:j<k
       .have aa:Aj H0 j=true:=g4.resolve_right (by omega);obtain⟨e0,r1,r2,_,_⟩:=hc.pre j au x g1;have hρj:S.ρ (σ j)=some l:=by rw[<-r2|>λh=>show S1.ρ j=S.ρ (σ j) from h];exact g2
        have c4:(e0.1||e2.1)=true:=by
         cases he2:e2.1 with
         |true=>simp
         |false=>
          rw[he2,OJ] at ak;have ac:=(hc.wf.loc j x l g1 g2).2;rw[ak] at ac;simp only[BD] at ac;rcases ac.2 with h|h
          .have h:S.w.heap.size<=l.b:=h;omega
          .exact absurd (af▸h) q2
        exact p3 j aa (hW.inj _ _ _ _ l' l p1 (hS j e0 r1) p2 hρj af.symm (by rw[Bool.or_comm];exact c4))
       .have ac:=(hc.wf.loc j x l g1 g2).2;rw[g3 (by omega)] at ac;simp only[BD] at ac;rcases ac.2 with h|h
        .have h:S.w.heap.size<=l.b:=h;omega
        .exact q2 (af▸h)
      intro n n' e1 e2 l l' he z hl bw af ak;rcases aq n e1 l he hl with ⟨j,x,rfl,g1,g2,g3,g4,g5,_⟩|⟨g1,g2,g3⟩<;>rcases aq n' e2 l' z bw with ⟨j',x',rfl,p1,p2,p3,p4,p5,_⟩|⟨p1,p2,p3⟩
      .have cs:=hc.wf.inj j j' x x' l l' g1 p1 g3 p3 af (by rw[<-g2,<-p2];exact ak);rw[cs]
      .exact (bm j x l n' e2 l' g1 g3 g4 g5 p1 p2 p3 af (by rw[<-g2];exact ak)).elim
      .exact (bm j' x' l' n e1 l p1 p3 p4 p5 g1 g2 g3 af.symm (by rw[<-p2,Bool.or_comm];exact ak)).elim
      .exact hW.inj _ _ _ _ l l' g1 p1 g2 p2 af ak
    have ct:Aa S' (r.ren σ) v:=Qrr (S':=S') (τ:=σ) ab (λb hb=>⟨hb,rfl⟩) bh ax 9 (Ds xs) r v hcv (Jg (HE S1 X) _ _ (λ_ _=>trivial) br);exact cb v S' cp rfl ⟨bo,λo ho e' z=>be o ho e' z⟩ (cm σ S' v ct)
 intro e a w he;cases e<;>simp only[Hb] at he<;>simp only[bodyPost]
 .obtain⟨s,hs,hc⟩:=he;obtain⟨s',bq,b0⟩:=hQ C0 _ a w s rfl hc (.inl hs);exact fin s' a w b0 bq
 .obtain⟨s,hs,_⟩:=he;exact (cn _ _ hs).elim
 .obtain⟨s,hs,hc⟩:=he;obtain⟨s',bq,b0⟩:=hQ C0 _ a w s rfl hc (.inr hs);exact fin s' a w b0 bq
def UE{P:Program}{z:List ResultVar}{k cnt:Nat}{H0 H1:An}{klB exB:Nat->Bool}{R:AV->Prop}: ∀(C:Bb) (N:Nat) (a:Act) (w:World) (s:Az),C.n0=k->BN C N s a w->
 Oh P z k cnt H0 H1 klB exB R .normal s\/Oh P z k cnt H0 H1 klB exB R .ret s-> ∃s',BN C N s' a w/\IB P z k cnt H0 H1 klB exB R s':=by
 rintro C N a w s _ O (h|h)<;>exact⟨s,O,h⟩
def UF{P:Program}{z:List ResultVar}{k cnt:Nat}{H0 H1:An}{klB exB:Nat->Bool}{R:AV->Prop}: ∀(C:Bb) (N:Nat) (a:Act) (w:World) (s:Az),C.n0=k->BN C N s a w->
 Bs P z k cnt H0 H1 klB exB R .normal s\/Bs P z k cnt H0 H1 klB exB R .ret s-> ∃s',BN C N s' a w/\IB P z k cnt H0 H1 klB exB R s':=by
 rintro C N a w s hk hc (h|h)<;>obtain⟨F,π,s',O,Q,h3,Z⟩:=h<;>exact⟨s',Rx (tT F hc) O Q (by omega) (by omega),Z⟩
def Db(h:Nat->Option Am)(σ:Nat->Nat):An->Prop
 |[]=>True
 |(j,(z,e))::r=>h (σ j)=some (z,e.ren σ)/\Db h σ r
def Qpk{h:Nat->Option Am}{σ:Nat->Nat}: ∀{H:An},Db h σ H-> ∀j e,(j,e)∈H->h (σ j)=some (e.1,e.2.ren σ)
 |[],_,j,e,z=>by cases z
 |(i,(Z,x))::r,hH,j,e,z=>by
  obtain⟨O,Q⟩:=hH;rcases Br.1 z with z|z
  .cases z;exact O
  .exact Qpk Q j e z
structure nW(H0:An)(klB:Nat->Bool)(τ:Nat->Nat)(nx:Nat)(U KL:List Nat):Prop where
 inj: ∀i j,Aj H0 i=true->Aj H0 j=true->τ i=τ j->i=j
 lt: ∀j,Aj H0 j=true->τ j<nx
 u: ∀j,Aj H0 j=true->τ j∈U
 k1: ∀n∈KL,∃j,Aj H0 j=true/\klB j=true/\n=τ j
 k2: ∀j,Aj H0 j=true->klB j=true->τ j∈KL
def AD{A:Type}(ca:A->List AV)(H0:A->An)(k:Nat)(pre:A->Prop)(klB:Nat->Bool)(r0:A->AV)(H1:A->An)(cnt:Nat):AF:=λargs h nx K=>
 ∃(a:A) (τ:Nat->Nat) (U KL:List Nat),pre a/\args=AI (Bw τ k nx) (ca a)/\Db h (Bw τ k nx) (H0 a)/\nW (H0 a) klB τ nx U KL/\
  K ((r0 a).ren (Bw τ k nx)) {use:=U,kill:=KL,new:=AQ (Bw τ k nx) (H1 a),cnt:=cnt}
def BT(H0:An):An->Prop
 |[]=>True
 |(_,(_,e))::r=>(∀m∈e.nms,Aj H0 m=true)/\BT H0 r
def Qo2{H0:An}: ∀{H:An},BT H0 H-> ∀j e,(j,e)∈H-> ∀m∈e.2.nms,Aj H0 m=true
 |[],_,j,e,z=>by cases z
 |(i,(Z,x))::r,hH,j,e,z=>by
  obtain⟨O,Q⟩:=hH;rcases Br.1 z with z|z
  .cases z;exact O
  .exact Qo2 Q j e z
def I9(os:List Nat)(j:Nat):Nat:=os.getD j 0
def fH:List Nat->Bool
 |[]=>true
 |x::r=> !r.contains x && fH r
def Qjj: ∀(os:List Nat),fH os=true->os.Nodup
 |[],_=>List.nodup_nil
 |x::r,h=>by
  simp only[fH,AY,QJ] at h;refine bE.2 ⟨λz=> ?_,Qjj r h.2⟩;rw[Jr.2 z] at h;cases h.1
def aY(nx:Nat):List Nat->Bool
 |[]=>true
 |x::r=>Nat.blt x nx && aY nx r
def Qvm{nx:Nat}: ∀(os:List Nat),aY nx os=true-> ∀o∈os,o<nx
 |[],_,o,h=>by cases h
 |x::r,h,o,z=>by
  simp only[aY,AY,Ei] at h;rcases Br.1 z with rfl|z
  .exact h.1
  .exact Qvm r h.2 o z
def Wu(klB:Nat->Bool):List Nat->Nat->List Nat
 |[],_=>[]
 |x::r,j=>bif klB j then x::Wu klB r (j+1) else Wu klB r (j+1)
def Qx4{klB:Nat->Bool}: ∀(os:List Nat) (j n:Nat),n∈Wu klB os j↔ ∃i,i<os.length/\klB (j+i)=true/\os[i]? =some n
 |[],j,n=>by simp[Wu]
 |x::r,j,n=>by
  have ih:=Qx4 (klB:=klB) r (j+1) n;simp only[Wu];cases hq:klB j
  .simp only[Bk];rw[ih];constructor
   .rintro⟨i,Q,z,O⟩;exact⟨i+1,by simp;omega,by rw[show j+(i+1)=j+1+i by omega];exact z,by simpa using O⟩
   .rintro⟨i,Q,z,O⟩;cases i with
    |zero=>rw[Gc,hq] at z;cases z
    |succ i=>exact⟨i,by simp at Q;omega,by rw[show j+1+i=j+(i+1) by omega];exact z,by simpa using O⟩
  .simp only[Cg,Br];rw[ih];constructor
   .rintro (rfl|⟨i,Q,z,O⟩)
    .exact⟨0,by simp,hq,by simp⟩
    .exact⟨i+1,by simp;omega,by rw[show j+(i+1)=j+1+i by omega];exact z,by simpa using O⟩
   .rintro⟨i,Q,z,O⟩;cases i with
    |zero=>left;simpa using O.symm
    |succ i=>right;exact⟨i,by simp at Q;omega,by rw[show j+1+i=j+(i+1) by omega];exact z,by simpa using O⟩
def YB{H0:An}{klB:Nat->Bool}{os:List Nat}{nx:Nat}(hd:fH os=true)(hl:aY nx os=true)(hH: ∀j,Aj H0 j=true↔j<os.length):nW H0 klB (I9 os) nx os (Wu klB os 0):=by
 have aa:=Qjj os hd;have Q: ∀j,j<os.length->os[j]? =some (I9 os j):=by
  intro j z;simp[I9,z]
 have hm: ∀j,j<os.length->I9 os j∈os:=λj z=>Bg (Q j z)
 refine⟨λi j hi z h=> ?_,λj z=>Qvm os hl _ (hm j ((hH j).1 z)),λj z=>hm j ((hH j).1 z),λn hn=> ?_,λj z hk=> ?_⟩
 .have O:=Q i ((hH i).1 hi);have Z:=Q j ((hH j).1 z);rw[h] at O;exact (List.getElem?_inj ((hH i).1 hi) aa).1 (O.trans Z.symm)
 .obtain⟨i,O,Z,h3⟩:=(Qx4 os 0 n).1 hn;refine⟨i,(hH i).2 O,by simpa using Z,?_⟩;rw[Q i O] at h3;exact (AJ h3).symm
 .exact (Qx4 os 0 _).2 ⟨j,(hH j).1 z,by simpa using hk,Q j ((hH j).1 z)⟩
def AD.os{A:Type}{ca:A->List AV}{H0:A->An}{k:Nat}{pre:A->Prop}{klB:Nat->Bool}{r0:A->AV}{H1:A->An}{cnt:Nat}{args:List AV}{h:Nat->Option Am}{nx:Nat}{K:Ah}(a:A)(os:List Nat)(z:pre a)
 (hH: ∀j,Aj (H0 a) j=true↔j<os.length)(hd:fH os=true)(Z:aY nx os=true)
 (O:args=AI (Bw (I9 os) k nx) (ca a)/\Db h (Bw (I9 os) k nx) (H0 a))
 (Q:K ((r0 a).ren (Bw (I9 os) k nx)) {use:=os,kill:=Wu klB os 0,new:=AQ (Bw (I9 os) k nx) (H1 a),cnt:=cnt}):AD ca H0 k pre klB r0 H1 cnt args h nx K:=
 ⟨a,I9 os,os,Wu klB os 0,z,O.1,O.2,YB hd Z hH,Q⟩
def orR(z r2:AF):AF:=λargs h nx K=>z args h nx K\/r2 args h nx K
def Ug{P:Program}{g:Nat}{O r2:AF}(Q:HC P g O)(Z:HC P g r2):HC P g (orR O r2):=by
 rintro args h nx K (z|z)
 .exact Q args h nx K z
 .exact Z args h nx K z
end Go.Ae
