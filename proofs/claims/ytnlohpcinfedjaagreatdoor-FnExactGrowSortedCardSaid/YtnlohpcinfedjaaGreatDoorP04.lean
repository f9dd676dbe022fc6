/- Lemmas. Conditions: none. -/
import Derived.Test.YtnlohpcinfedjaaGreatDoorP03
import Derived.Laws.BytesArg
set_option linter.all false
set_option maxHeartbeats 8000000
set_option maxRecDepth 100000
namespace Go.Ae
def pZ{ok:Nat->Prop}{hp:Nat->Option Obj}: ∀(rows:List (List D)) (G:List Int) (L:List Value),HP rows=some G->rdr ok hp 1 rows L->rows.length=G.length/\L.take G.length=G.map (Value.int .u8)
 |[],G,L,h,_=>by
  simp only[HP,AO] at h;subst h;simp
 |row::r,G,L,h,Q=>by
  unfold HP at h;split at h
  .rename_i z;cases z
  .rename_i n r' z;cases z;simp only[Da] at h;obtain⟨ms,h1,rfl⟩:=h;simp only[rdr,rdp,rd] at Q;obtain⟨_,⟨v,L1,rfl,rfl,_⟩,h3⟩:=Q;obtain⟨Z,O⟩:=pZ r ms _ h1 h3;simp only[LK,Ie] at O;refine⟨by simp[Z],?_⟩;simp[O]
  .cases h
section
variable {P:Program}{tm:List (Nat×AV)}{h:Nat->Option Au}{nx:Nat}{o:Oper}{K:Aj}
def Z8{x y:Operand}{c:Call}(ho:o.op= .call c)(G:c.callee= .builtin .max)(z:c.args= #[x,y])(O:N4 K (Aw tm x) (Aw tm y)):Ca P tm h nx o K:=by
 have Z:x∈o.op.operands:=by rw[ho];simp[Op.operands,Call.operands,z,G]
 have aa:y∈o.op.operands:=by rw[ho];simp[Op.operands,Call.operands,z,G]
 cases hx:Aw tm x<;>rw[hx] at O<;>try exact O.elim
 rename_i d;cases hy:Aw tm y<;>rw[hy] at O<;>try (cases d<;>exact O.elim)
 rename_i d';cases d<;>cases d'<;>try exact O.elim
 rename_i k a k' b;simp only[N4] at O;obtain⟨rfl,O⟩:=O;refine⟨_,_,BE.pure (u:=[]) ?_,O⟩;intro C S ac hW _ Q;have h1:=Q x Z;have h2:=Q y aa;rw[hx] at h1;rw[hy] at h2;simp only[Aa,rd] at h1 h2;refine⟨.int k (max a b),?_,by simp only[Aa,rd]⟩;simp only[execOp,ho,resolve,G,z,Sem.run_bind,Sem.run_pure,Result.andThen_ok,invoke,builtin];have e:(if a<b then b else a)=max a b:=by omega
 simp[h1,h2,Builtin.max_,Builtin.max2,e]
def Z9{x y:Operand}{c:Call}(ho:o.op= .call c)(G:c.callee= .builtin .min)(z:c.args= #[x,y])(O:N5 K (Aw tm x) (Aw tm y)):Ca P tm h nx o K:=by
 have Z:x∈o.op.operands:=by rw[ho];simp[Op.operands,Call.operands,z,G]
 have aa:y∈o.op.operands:=by rw[ho];simp[Op.operands,Call.operands,z,G]
 cases hx:Aw tm x<;>rw[hx] at O<;>try exact O.elim
 rename_i d;cases hy:Aw tm y<;>rw[hy] at O<;>try (cases d<;>exact O.elim)
 rename_i d';cases d<;>cases d'<;>try exact O.elim
 rename_i k a k' b;simp only[N5] at O;obtain⟨rfl,O⟩:=O;refine⟨_,_,BE.pure (u:=[]) ?_,O⟩;intro C S ac hW _ Q;have h1:=Q x Z;have h2:=Q y aa;rw[hx] at h1;rw[hy] at h2;simp only[Aa,rd] at h1 h2;refine⟨.int k (min a b),?_,by simp only[Aa,rd]⟩;simp only[execOp,ho,resolve,G,z,Sem.run_bind,Sem.run_pure,Result.andThen_ok,invoke,builtin];have e:(if b<a then b else a)=min a b:=by omega
 simp[h1,h2,Builtin.min_,Builtin.min2,e]
def PU{Q T:TypeId}{x:Operand}(ho:o.op= .convert Q T x)(ht:isStr (QX (tI P T))=true)(z:Jr P h K (Aw tm x) (tI P Q)):Ca P tm h nx o K:=by
 cases hT:tI P T with
 |none=>rw[hT] at ht;cases ht
 |some ti=>
 rw[hT] at ht;simp only[QX,isStr] at ht;cases hf:ti.kind<;>rw[hf] at ht<;>simp only[TK.isStr,Dp] at ht;have hd:=Ri hT hf;cases hS:tI P Q with
 |none=>rw[hS] at z;exact z.elim
 |some si=>
 rw[hS] at z;simp only[Jr] at z;cases hg:si.kind<;>rw[hg] at z<;>try exact z.elim
 rename_i e;have hs:=Q5 hS hg;simp only[iT] at z;cases hE:tI P e with
 |none=>rw[hE] at z;exact z.elim
 |some te=>
 rw[hE] at z;simp only[QX] at z;cases hke:te.kind<;>rw[hke] at z<;>try exact z.elim
 rename_i ik;cases ik<;>try exact z.elim
 have he:=VQ hE hke;simp only[iS] at z;cases hx:Aw tm x<;>rw[hx] at z<;>try exact z.elim
 rename_i n;simp only[iR] at z;cases hn:h n with
 |none=>rw[hn] at z;exact z.elim
 |some O=>
 rw[hn] at z;obtain⟨mu,O⟩:=O;cases O<;>try exact z.elim
 rename_i T' k rows;simp only[Sm] at z;obtain⟨rfl,z⟩:=z;cases hb:HP rows with
 |none=>rw[hb] at z;exact z.elim
 |some ns=>
 rw[hb] at z;simp only[LY] at z;refine⟨_,_,BE.pure (u:=[n]) ?_,z⟩;intro C S ac hW hu ab;have h1:=ab x (by rw[ho];simp[Op.operands]);rw[hx] at h1;simp only[Aa] at h1;have aa:=(hu n (by simp)).trans hn;have Z:=h1.2 _ aa;have G:=hW.obj _ _ aa;refine⟨.string (Ql ns),?_,by simp only[Aa,rd]⟩;have af:(convert Q T (ac.eval x)).run P S.w= .ok (.string (Ql ns)) S.w:=by
  cases hl:S.ρ n with
  |none=>
   rw[hl] at Z G;simp only[Ap] at G;simp only at Z;obtain rfl:=G.2;simp only[HP,AO] at hb;subst hb;rw[Z,run_convert_bytes_string S.w Q T e none 0 0 hs he hd];simp[Conv.bytesToString,Ql];rfl
  |some l=>
   rw[hl] at Z G;simp only[Ap] at G;simp only[Ah.len] at Z;obtain⟨_,g1,vs,g2,g3,g4⟩:=G;obtain⟨e1,e2⟩:=pZ rows ns _ hb g4;rw[Z,run_convert_bytes_string S.w Q T e _ _ _ hs he hd];have ad:(loadCells ⟨l.b,l.p,none⟩ rows.length).run P S.w= .ok (ns.map (Value.int .u8)).toArray S.w:=by
    rw[lS (w:=S.w) g2 (by omega),e1,e2]
   rw[run_bytesToString S.w ⟨l.b,l.p,none⟩ rows.length l.cap ns ad,foldl_push_bytes];simp[Ql,ByteArray.empty,ByteArray.emptyWithCapacity]
   try rfl
 simp only[execOp,ho,Sem.run_bind,af];simp
def PW{G T:TypeId}{x:Operand}(O:o.op= .convert G T x)(z:WO P h (QX (tI P T)) (Aw tm x) K (tI P G)):Ca P tm h nx o K:=by
 unfold WO at z;split at z
 .rename_i Q;exact PU O Q z
 .exact Qwv O z
end
section
variable {P:Program}{tm:List (Nat×AV)}{h:Nat->Option Au}{nx:Nat}{o:Oper}{K:Aj}
def Qalk{T:TypeId}(h:TB P T=true): ∃z,P.underlying T=some (.interface z):=by
 unfold TB at h;split at h
 .rename_i z G;exact⟨z,G⟩
 .cases h
def jA{w:World}{T:TypeId}{O:Array (String×TypeId)}(z:P.underlying T=some (.interface O))(d:Nat){v:Value}{b:Bool}(G:v= .nilIface/\b=true\/(∃t x,v= .iface t x)/\b=false):(Op.equalIn (d+1) T v .nilIface).run P w= .ok b w:=by
 rcases G with ⟨rfl,rfl⟩|⟨⟨t,x,rfl⟩,rfl⟩<;>simp[Op.equalIn,run_underlying z]
def V8{op:BinOp}{T U:TypeId}{x y:Operand}{m:Nat}(ho:o.op= .binOp op T x y U)(hm:FI y=m+4)(hk:Xb P T op (Aw tm x) K):Ca P tm h nx o K:=by
 obtain⟨hT,hk⟩:=hk;obtain⟨ms,hu⟩:=Qalk hT;have Z:op= .eql\/op= .neq:=by cases op<;>first|exact .inl rfl|exact .inr rfl|exact hk.elim
 have G:Rl (decide (op= .neq)) K (Aw tm x):=by rcases Z with rfl|rfl<;>exact hk
 have hy:y= .const .nilIface:=by
  cases y<;>simp only[FI] at hm<;>try omega
  rename_i v;unfold Gj at hm;split at hm<;>first|omega|rfl
 clear hk;have O: ∀b:Bool,K (.im (.bool ((decide (op= .neq)) !=b))) {}->(∀(C:Ba) (S:Ay) (v:Value),Wf C S->Aa S (Aw tm x) v->v= .nilIface/\b=true\/(∃t x,v= .iface t x)/\b=false)->Ca P tm h nx o K:=by
  intro b ac hv;refine⟨_,_,BE.pure (u:=[]) ?_,ac⟩;intro C S a hW _ aa;have h1:=hv C S _ hW (aa x (by rw[ho];simp[Op.operands]));refine⟨.bool (decide (op= .neq) !=b),?_,by simp only[Aa,rd]⟩;have ab:a.eval y= .nilIface:=by rw[hy];rfl
  have hq:(Op.equal T (a.eval x) .nilIface).run P S.w= .ok b S.w:=jA hu 9999 h1;subst hy;have hg:(eqGuard op T x (.const .nilIface) (a.eval x) .nilIface).run P S.w= .ok () S.w:=by
   clear hq;generalize a.eval x=v at h1⊢;rcases h1 with ⟨rfl,_⟩|⟨⟨t,z,rfl⟩,_⟩<;>rcases Z with rfl|rfl<;>simp[eqGuard]
  have hb:(binOp op T (a.eval x) .nilIface).run P S.w= .ok (.bool (decide (op= .neq) !=b)) S.w:=by
   generalize a.eval x=v at h1 hq⊢;rcases Z with rfl|rfl
   .have:binOp .eql T v .nilIface=(do pure (.bool (<-Op.equal T v .nilIface))):=by
     rcases h1 with ⟨rfl,_⟩|⟨⟨t,z,rfl⟩,_⟩<;>rfl
    rw[this];simp[hq]
   .have:binOp .neq T v .nilIface=(do pure (.bool (!(<-Op.equal T v .nilIface)))):=by
     rcases h1 with ⟨rfl,_⟩|⟨⟨t,z,rfl⟩,_⟩<;>rfl
    rw[this];simp[hq]
  simp only[execOp,ho,ab,Sem.run_bind,hg,Result.andThen_ok,hb,Sem.run_pure]
 cases hx:Aw tm x<;>rw[hx] at G<;>try exact G.elim
 rename_i d;cases d<;>try exact G.elim
 .refine O true G ?_;intro C S v _ Q;rw[hx] at Q;simp only[Aa,rd] at Q;exact .inl ⟨Q,rfl⟩
 .refine O false G ?_;intro C S v _ Q;rw[hx] at Q;simp only[Aa,rd] at Q;obtain⟨z,hz,_⟩:=Q;exact .inr ⟨⟨_,z,hz⟩,rfl⟩
def Z5{T:TypeId}{x:Operand}(ho:o.op= .makeInterface T x)(z:VM P T K (Aw tm x)):Ca P tm h nx o K:=by
 cases hx:Aw tm x<;>rw[hx] at z<;>try exact z.elim
 rename_i d;obtain⟨Q,z⟩:=z;refine⟨_,_,BE.pure (u:=[]) ?_,z⟩;intro C S a _ _ G;have Z:=G x (by rw[ho];simp[Op.operands]);rw[hx] at Z;simp only[Aa] at Z;refine⟨.iface T (a.eval x),?_,by simp only[Aa,rd];exact⟨_,rfl,Z⟩⟩
 have:(Instr.makeInterface T (a.eval x)).run P S.w= .ok (.iface T (a.eval x)) S.w:=by
  unfold cK at Q;split at Q
  .cases Q
  .rename_i u aa hu;have O:(underlying T).run P S.w= .ok u S.w:=by simp[underlying,hu]
   unfold Instr.makeInterface;rw[Sem.run_bind,O];cases u<;>first|rfl|exact (aa _ rfl).elim
  .cases Q
 simp[execOp,ho,this]
def Qaln{T tk te:TypeId}{x:Operand}{kt:KT}{es:List (D×D)}(ho:o.op= .range T x)(hu:P.underlying T=some (.map tk te))(hx:Aw tm x= .im (.mp kt es))
 (hk:K (.it nx) {new:=[(nx,(true,.iter none es))],cnt:=1}):Ca P tm h nx o K:=by
 refine⟨_,_,BE.one (u:=[]) (ks:=[]) (.inl ⟨rfl,rfl⟩) ?_,hk⟩;intro C S a hW _ Q hnm aa;have O:=aa x (by rw[ho];simp[Op.operands]);rw[hx] at O;simp only[Aa,rd] at O;obtain⟨b,G,z,hv,g2,Z,g3,g4,g5,g6⟩:=O;have hg:(getObj b).run P S.w= .ok (.map G z) S.w:=Q3 (w:=S.w) g3;have ab:(underlying T).run P S.w= .ok (.map tk te) S.w:=by simp[underlying,hu]
 refine⟨.pointer (some ⟨S.w.heap.size,0,none⟩),{S.w with heap:=S.w.heap.push (.mapIter (some b) z #[] z)},some ⟨S.w.heap.size,0,0⟩,.inl ?_,Wn (w':={S.w with heap:=S.w.heap.push (.mapIter (some b) z #[] z)}) (ob:= .mapIter (some b) z #[] z) rfl rfl rfl rfl (Q rfl) (λn f hf=>hnm n f hf rfl),?_⟩
 .simp only[execOp,ho,hv,Instr.range,Sem.run_bind,ab,Result.andThen_ok,hg,Sem.run_pure];simp
 intro hp;constructor
 .simp only[Ap];obtain⟨p1,p2⟩:=hp.ok b Z;refine⟨_,b,G,z,#[],rfl,p1,trivial,p2.trans g3,bG rfl,g5,g6,?_⟩;have h9:G.toList.filter (λe=> !(#[]:Array Nat).contains e.born)=G.toList:=by
   rw[ZdS];intro e _;simp
  rw[h9];exact L7 hp.ok _ _ g4
 .simp only[Aa];exact⟨rfl,λe he=>⟨⟨S.w.heap.size,0,0⟩,by simp[Ay.one],rfl⟩⟩
end
def HB(P:Program)(V:D4):Prop:=
 (∀(tm:List (Nat×AV)) (h:Nat->Option Au) (nx:Nat) (o:Oper) (c:Call) (f:Operand) (K:Aj),o.op= .call c->c.callee= .value f->
  (∀x,∀m∈(Aw tm x).nms,m<nx)->Rg V (DV tm c.args.toList) h nx K (Aw tm f)->Ca P tm h nx o K)/\
 ∀(tm:List (Nat×AV)) (h:Nat->Option Au) (nx:Nat) (o:Oper) (c:Call) (r:Operand) (m:String) (K:Aj),o.op= .call c->c.callee= .invoke r m->
  (∀x,∀m∈(Aw tm x).nms,m<nx)->N3 P V (DV tm c.args.toList) h nx K m (Aw tm r)->Ca P tm h nx o K
def xO{tm:List (Nat×AV)}{c:Call}{x:AV}(h:DV tm c.args.toList=[x]): ∃a,c.args= #[a]/\Aw tm a=x:=by
 cases hc:c.args.toList with
 |nil=>rw[hc] at h;cases h
 |cons a r=>
  rw[hc] at h;cases r with
  |nil=>
   simp only[DV,Wz,and_true] at h;exact⟨a,bV.1 (by simpa using hc),h⟩
  |cons b r=>simp[DV] at h
def SR{tm:List (Nat×AV)}{c:Call}{x y:AV}(h:DV tm c.args.toList=[x,y]): ∃a b,c.args= #[a,b]/\Aw tm a=x/\Aw tm b=y:=by
 cases hc:c.args.toList with
 |nil=>rw[hc] at h;cases h
 |cons a r=>
  rw[hc] at h;cases r with
  |nil=>simp[DV] at h
  |cons b r=>
   cases r with
   |nil=>
    simp only[DV,Wz,and_true] at h;exact⟨a,b,bV.1 (by simpa using hc),h.1,h.2⟩
   |cons d r=>simp[DV] at h
section
variable {P:Program}{tm:List (Nat×AV)}{h:Nat->Option Au}{nx:Nat}{o:Oper}{K:Aj}
def Z1{op:BinOp}{T U:TypeId}{x y:Operand}(G:o.op= .binOp op T x y U)(z:bM P T h op (Aw tm x) (Aw tm y) K (FI y)):Ca P tm h nx o K:=by
 cases hn:FI y with
 |succ m=>
  rw[hn] at z;cases m with
  |zero=>exact dM G hn (by decide) z
  |succ m=>
   cases m with
   |zero=>exact dM G hn (by decide) z
   |succ m=>
    cases m with
    |zero=>exact dM G hn (by decide) z
    |succ m=>exact V8 (m:=m) G hn z
 |zero=>
  rw[hn] at z;simp only[bM] at z;cases hx:Aw tm x<;>rw[hx] at z<;>try exact z.elim
  rename_i d;cases hy:Aw tm y<;>rw[hy] at z<;>try (cases d<;>exact z.elim)
  rename_i d';cases d<;>cases d'<;>try exact z.elim
  .simp only[gO] at z;exact VC G hx hy z
  .simp only[gO] at z;cases hT:tI P T with
   |none=>rw[hT] at z;exact z.elim
   |some ti=>
    rw[hT] at z;simp only[N2] at z;exact Z2 G (ZN hT z.1) hx hy z.2
  .exact ZB G hx hy z
  .exact PR G hx hy z
def Qrc{V:D4}(HV:HB P V){sq:Bool}(Z: ∀x,∀m∈(Aw tm x).nms,m<nx)(z:step P V sq tm h nx o.type K o.op):XJ P sq tm h nx o K:=by
 have ad: ∀x,∀m∈(Aw tm x).nms,m≠nx:=λx m hm=>Nat.ne_of_lt (Z x m hm)
 cases ho:o.op<;>rw[ho] at z<;>try exact z.elim
 case move x=>exact .inl (pP (.inl ho) z)
 case assign x=>exact .inl (Qabd ho z)
 case pick c a b=>exact .inl (VF ho z)
 case alloc T=>exact .inl (PS ho z)
 case box T x=>exact .inl (Z3 ho z (λm hm=>ad x m (Qvz _ m hm)))
 case build T ps=>exact .inl (PT ho z)
 case buildSlice T n ps=>exact .inl (Qp8 ho z ad)
 case load T x=>exact .inl (VD ho z)
 case store T x v=>exact .inl (Qe ho z)
 case nilCheck x=>exact .inl (Qvi ho z)
 case binOp op T x y U=>
  simp only[step,Ly] at z;split at z
  .rename_i aa;simp only[unS,Bc,QO] at aa;exact .inr ⟨aa.1,.inr (VB ho aa.2.1 z)⟩
  .exact .inl (Z1 ho z)
 case slice T x lo hi mx=>
  cases mx<;>try exact z.elim
  exact .inl (Qd ho z)
 case range T x=>exact .inl (Qc (λ_ _ _ _ hu G z=>Qaln ho hu G z) ho z)
 case makeInterface T x=>exact .inl (Z5 ho z)
 case next x b=>
  cases b<;>try exact z.elim
  simp only[step] at z;cases sq with
  |false=>exact z.elim
  |true=>exact .inr ⟨rfl,.inr (VE ho z)⟩
 case entry x=>exact .inl (PX ho z)
 case makeChan T x=>exact .inl (Qvf ho z)
 case unOp op T x=>exact .inl (VG ho z)
 case convert S T x=>exact .inl (PW ho z)
 case makeFunc f first capt=>
  cases f<;>try exact z.elim
  exact .inl (Z4 (by simpa using z.1) ho z.2)
 case makeMap T r=>
  cases r<;>try exact z.elim
  exact .inl (Qyk ho z)
 case makeSlice T l c=>exact .inl (Qrx ho z)
 case fieldAddr T x f=>exact .inl (Qsq ho z)
 case indexAddr T x i=>exact .inl (Qsk ho z)
 case index T x i=>exact .inl (PZ ho z)
 case lookup T m k ok=>exact .inl (Qabg ho z)
 case mapUpdate T m k v=>exact .inl (Qr9 (.inl ho) z)
 case insert T m k v=>exact .inl (Qr9 (.inr ho) z)
 case extract x i=>exact .inl (Qyh ho z)
 case field U x f=>exact .inl (PY ho z)
 case call c=>
  simp only[step] at z;cases hc:c.callee<;>rw[hc] at z<;>try exact z.elim
  case value f=>exact .inl (HV.1 tm h nx o c f K ho hc Z z)
  case invoke r m=>exact .inl (HV.2 tm h nx o c r m K ho hc Z z)
  case builtin b=>
   simp only[uH] at z;unfold Xu at z;split at z
   .rename_i x T G Q;obtain⟨a,O,ac⟩:=xO G;have ab:c.argTypes= #[T]:=bV.1 (by simpa using Q);cases x<;>simp only[LD] at z
    case ch q=>exact .inl (Qa ho hc O ab ac z)
    all_goals first
     |exact z.elim
     |(rw[<-ac] at z;exact Z7 ho hc O ab z)
   .rename_i s x T U G Q;obtain⟨a,b,O,rfl,rfl⟩:=SR G;exact .inl (Qab5 ho hc O (bV.1 (by simpa using Q)) z)
   .rename_i m k T af G Q;obtain⟨a,b,O,rfl,rfl⟩:=SR G;exact .inl (Qabh ho hc O Q z)
   .rename_i d s T U G Q;obtain⟨a,b,O,rfl,rfl⟩:=SR G;exact .inl (VA ho hc O (bV.1 (by simpa using Q)) z)
   .rename_i d T G Q;obtain⟨a,O,rfl⟩:=xO G;exact .inl (PV ho hc O (bV.1 (by simpa using Q)) z)
   .rename_i x y G;obtain⟨a,b,O,rfl,rfl⟩:=SR G;exact .inl (Z8 ho hc O z)
   .rename_i x y G;obtain⟨a,b,O,rfl,rfl⟩:=SR G;exact .inl (Z9 ho hc O z)
   .exact z.elim
end
def Rd(P:Program)(ops:Array Oper)(i:Nat)(a:Act)(w:World)(next:Act->World->Prop):Prop:=
 ∀(b:Frame) (k:List Item) (cs:List Frame) (rest:List Nat),∃a' w',next a' w'/\Steps P (lone (b.at a (.inRegion ops (i::rest)::k)) cs w) (lone (b.at a' (.inRegion ops rest::k)) cs w')
def Op.comm:Op->Bool
 | .send _ _| .recv _ _ _=>true
 |_=>false
def Ku(P:Program)(ops:Array Oper)(i:Nat)(a:Act)(w:World)(next:Act->World->Prop):Prop:=
 (∃o,ops[i]? =some o/\Region.wanted o (yielded ops a.tmps)=true/\o.wp P a w next (λ_ _ _=>False))\/((∀o,ops[i]? =some o->Go.Ae.Op.comm o.op=true)/\Rd P ops i a w next)
def LG(P:Program)(ops:Array Oper)(Q:Act->World->Prop):List Nat->Act->World->Prop
 |[],a,w=>Q a w
 |i::z,a,w=>
  match ops[i]? with
  |none=>LG P ops Q z a w
  |some o=>if Region.wanted o (yielded ops a.tmps) then Ku P ops i a w (LG P ops Q z) else LG P ops Q z (a.put o.dst undef) w
section
variable {P:Program}{ops:Array Oper}{i:Nat}{o:Oper}{a:Act}{w:World}{next:Act->World->Prop}
def Qx0(ho:ops[i]? =some o)(hw:Region.wanted o (yielded ops a.tmps)=true)(h:o.wp P a w next (λ_ _ _=>False)):Rd P ops i a w next:=by
 intro b k cs rest;have Z:=stepG_op (P:=P) (b:=b) (a:=a) (k:=k) (cs:=cs) (w:=w) (rest:=rest) ho hw;have z: ∀v,(b.at a (.inRegion ops (i::rest)::k)).finish v=b.at (a.put o.dst v) (.inRegion ops rest::k):=λv=>by
  rw[Frame.finish_at,ho];rfl
 unfold Oper.wp Oper.upon at h;split at h
 .rename_i v Q G;refine⟨_,_,h,.one (step_lone_go ?_)⟩;rw[Z,<-z];simp[stepG.apply,G]
 .rename_i Q G;refine⟨_,_,h,.one (step_lone_go ?_)⟩;rw[Z,<-z];simp[stepG.apply,G]
 .rename_i d Q G;refine⟨_,_,h,.one (step_lone_go ?_)⟩;have h1:({b.at a (.inRegion ops (i::rest)::k) with defers:=d::a.defers}:Frame).finish undef=b.at ({a with defers:=d::a.defers}.put o.dst undef) (.inRegion ops rest::k):=by
   have h2:=Frame.finish_at b {a with defers:=d::a.defers} ops i rest k undef;rw[ho] at h2;exact h2
  rw[Z];simp only[stepG.apply,Sem.runT_eq,G,GStep.bare_after];exact Cl (λfr=>GStep.go {frame:=fr,callers:=cs,status:= .running,dying:=none} Q) h1
 .rename_i f args Q G;obtain⟨e,w2,fr,hR,hs,_,hl⟩:=h (b.at a (.inRegion ops (i::rest)::k)::cs);have O:_root_.Go.step P (lone (b.at a (.inRegion ops (i::rest)::k)) cs w)= .next (lone (Frame.enter P f args .normal) (b.at a (.inRegion ops (i::rest)::k)::cs) Q):=
   step_lone_go (by rw[Z];simp[stepG.apply,G,Frame.at])
  cases e with
  |returned v=>
   refine⟨_,_,hR,.head O (hs.trans (.one ?_))⟩;rw[<-z];exact step_leave_returned hl
  |panicked c=>exact hR.elim
  |outgrown=>obtain⟨_,_,hR⟩:=hR;exact hR.elim
 .rename_i row args Q G;obtain⟨v,w2,hR,hs⟩:=h (b.at a (.inRegion ops (i::rest)::k)) cs;have O:_root_.Go.step P (lone (b.at a (.inRegion ops (i::rest)::k)) cs w)= .next (lone (Frame.ofRow P row args .normal) (b.at a (.inRegion ops (i::rest)::k)::cs) Q):=
   step_lone_go (by rw[Z];simp[stepG.apply,G,Frame.at])
  refine⟨_,_,hR,.head O ?_⟩;rw[<-z];exact hs
 .exact h.elim
 .exact h.elim
def Qab1(z:ops[i]? =some o)(G:Region.wanted o (yielded ops a.tmps)=true)(h:o.wp P a w next (λ_ _ _=>False)):Ku P ops i a w next:= .inl ⟨o,z,G,h⟩
def U8(h:Ku P ops i a w next):Rd P ops i a w next:=by
 rcases h with ⟨o,z,G,O⟩|⟨_,h⟩
 .exact Qx0 z G O
 .exact h
end
def Qnk{P:Program}{ops:Array Oper}{Q:Act->World->Prop}: ∀(l:List Nat) (a:Act) (w:World),LG P ops Q l a w-> ∀(b:Frame) (k:List Item) (cs:List Frame),
 ∃a' w',Q a' w'/\Steps P (lone (b.at a (.inRegion ops l::k)) cs w) (lone (b.at a' k) cs w')
 |[],a,w,h,b,k,cs=>⟨a,w,h,.one step_region_end⟩
 |i::rest,a,w,h,b,k,cs=>by
  simp only[LG] at h;cases ho:ops[i]? with
  |none=>
   rw[ho] at h;obtain⟨a',w',hq,G⟩:=Qnk rest a w h b k cs;have z:=step_op_skip (P:=P) (b:=b) (a:=a) (k:=k) (cs:=cs) (w:=w) (ops:=ops) (i:=i) (rest:=rest) (by simp[ho]);rw[ho] at z;exact⟨a',w',hq,.head z G⟩
  |some o=>
   rw[ho] at h;simp only at h;split at h
   .obtain⟨a1,w1,z,O⟩:=U8 h b k cs rest;obtain⟨a',w',hq,G⟩:=Qnk rest a1 w1 z b k cs;exact⟨a',w',hq,O.trans G⟩
   .rename_i Z;obtain⟨a',w',hq,G⟩:=Qnk rest _ w h b k cs;have z:=step_op_skip (P:=P) (b:=b) (a:=a) (k:=k) (cs:=cs) (w:=w) (ops:=ops) (i:=i) (rest:=rest) (by simp[ho,Z]);rw[ho] at z;exact⟨a',w',hq,.head z G⟩
def PD{P:Program}{id:Nat}{ops:Array Oper}{Q:Exit->Act->World->Prop}{a:Act}{w:World}(h:LG P ops (Q .normal) (List.range ops.size) a w):(Code.region id ops false).wp P Q a w:=by
 intro b k z;obtain⟨a',w',hq,G⟩:=Qnk _ a w h b k z;exact⟨.normal,a',w',hq,.head step_region G⟩
section
variable {P:Program}{ops:Array Oper}{i:Nat}{o:Oper}{a:Act}{w:World}{next:Act->World->Prop}
def Qjg{z:Frame}{cs:List Frame}{w Q:World}{cases:Array CommCase}{G:Bool}{O:CommShape}{g:Goroutine}
 (h:(stepG P true {frame:=z,callers:=cs,status:= .running,dying:=none} w).bare= .comm g cases G O Q):
 _root_.Go.step P (lone z cs w)=(communicate P {timers:= #[],alone:=none,slice:=none} #[{(default:Goroutine) with status:= .finished}] 0 g cases G O Q).1:=by
 generalize hs:stepG P true {frame:=z,callers:=cs,status:= .running,dying:=none} w=s at h;cases s<;>simp at h;obtain⟨rfl,rfl,rfl,rfl,rfl⟩:=h;rw[_root_.Go.step,stepT,move_lone];simp[runT,lone,Array.swapAt!,hs]
def Qon(c:Nat)(s:Bool):partners #[{(default:Goroutine) with status:= .finished}] c s=[]:=by
 simp[partners]
def Qp5{Q:Frame}{cs:List Frame}{w Z:World}{c cap s r:Nat}{G:Array Value}{tm:Bool}{v z:Value}
 (h:(stepG P true {frame:=Q,callers:=cs,status:= .running,dying:=none} w).bare= .comm {frame:=Q,callers:=cs,status:= .running,dying:=none} #[{chan:= .chan (some c),send:=some v,zero:=z}] true .send Z)
 (hc:Z.heap[c]? =some (.chan cap G false s r tm))(O:G.size<cap):
 _root_.Go.step P (lone Q cs w)= .next (lone (Q.finish undef) cs {Z with heap:=Z.heap.setIfInBounds c (.chan cap (G.push v) false (s+1) r tm)}):=by
 rw[Qjg h];simp[communicate,ways,hc,Qon,O,choose,Sem.run,Question.forced,bind,Sem.bind,pure,Goroutine.finishComm,commResult,lone]
def Qp7{Q:Frame}{cs:List Frame}{w Z:World}{c cap s r:Nat}{G:Array Value}{tm cl:Bool}{z:Value}
 (h:(stepG P true {frame:=Q,callers:=cs,status:= .running,dying:=none} w).bare= .comm {frame:=Q,callers:=cs,status:= .running,dying:=none} #[{chan:= .chan (some c),send:=none,zero:=z}] true (.recv false) Z)
 (hc:Z.heap[c]? =some (.chan cap G cl s r tm))(O:0<G.size):
 _root_.Go.step P (lone Q cs w)= .next (lone (Q.finish (G.getD 0 undef)) cs {Z with heap:=Z.heap.setIfInBounds c (.chan cap (G.extract 1 G.size) cl s (r+1) tm)}):=by
 rw[Qjg h];simp[communicate,ways,hc,Qon,O,choose,Sem.run,Question.forced,bind,Sem.bind,pure,Goroutine.finishComm,commResult,lone]
def Pz{ch x:Operand}(ho:ops[i]? =some o)(hw:Region.wanted o (yielded ops a.tmps)=true)(aa:o.op= .send ch x){c cap s r:Nat}{G:Array Value}{tm:Bool}(ab:a.eval ch= .chan (some c))
 (hc:w.heap[c]? =some (.chan cap G false s r tm))(O:G.size<cap)(hn:next (a.put o.dst undef) {w with heap:=w.heap.setIfInBounds c (.chan cap (G.push (a.eval x)) false (s+1) r tm)}):Ku P ops i a w next:=by
 refine .inr ⟨λo' Z=>by rw[ho] at Z;obtain rfl:=AC Z;rw[aa];rfl,?_⟩;intro b k cs rest;have hg:=stepG_op (P:=P) (b:=b) (a:=a) (k:=k) (cs:=cs) (w:=w) (rest:=rest) ho hw;have Q: ∀v,(b.at a (.inRegion ops (i::rest)::k)).finish v=b.at (a.put o.dst v) (.inRegion ops rest::k):=λv=>by
  rw[Frame.finish_at,ho];rfl
 refine⟨_,_,hn,.one ?_⟩;rw[<-Q];have hr:(execOp a.eval o).run P w= .ok (.comm #[{chan:= .chan (some c),send:=some (a.eval x),zero:= .tuple #[]}] true .send) w:=by
  simp[execOp,aa,ab]
 exact Qp5 (z:= .tuple #[]) (v:=a.eval x) (by rw[hg];simp[stepG.apply,hr,Frame.at]) hc O
def Py{ch:Operand}{T e:TypeId}{d:ChanDir}{z:Value}(ho:ops[i]? =some o)(hw:Region.wanted o (yielded ops a.tmps)=true)(aa:o.op= .recv T ch false)(hT:P.underlying T=some (.chan d e))(hz:(zeroValue e).run P w= .ok z w)
 {c cap s r:Nat}{G:Array Value}{tm cl:Bool}(ab:a.eval ch= .chan (some c))
 (hc:w.heap[c]? =some (.chan cap G cl s r tm))(O:0<G.size)(hn:next (a.put o.dst (G.getD 0 undef)) {w with heap:=w.heap.setIfInBounds c (.chan cap (G.extract 1 G.size) cl s (r+1) tm)}):Ku P ops i a w next:=by
 refine .inr ⟨λo' Z=>by rw[ho] at Z;obtain rfl:=AC Z;rw[aa];rfl,?_⟩;intro b k cs rest;have hg:=stepG_op (P:=P) (b:=b) (a:=a) (k:=k) (cs:=cs) (w:=w) (rest:=rest) ho hw;have Q: ∀v,(b.at a (.inRegion ops (i::rest)::k)).finish v=b.at (a.put o.dst v) (.inRegion ops rest::k):=λv=>by
  rw[Frame.finish_at,ho];rfl
 refine⟨_,_,hn,.one ?_⟩;rw[<-Q];have hu:(underlying T).run P w= .ok (.chan d e) w:=by simp[underlying,hT]
 have hr:(execOp a.eval o).run P w= .ok (.comm #[{chan:= .chan (some c),send:=none,zero:=z}] true (.recv false)) w:=by
  simp[execOp,aa,ab,hu,hz]
 exact Qp7 (z:=z) (by rw[hg];simp[stepG.apply,hr,Frame.at]) hc O
end
structure Dc(C:Ba)(N:Nat)(s:A8)(S:Ay)(a:Act):Prop where
 wf:Wf C S
 h: ∀n,S.h n=hget s.h n
 tm: ∀t,Aa S (A9 s.tm t) (a.eval (.tmp t))
 nmT: ∀t,∀m∈(A9 s.tm t).nms,m<s.nx
 nmH: ∀n e,hget s.h n=some e->n<s.nx/\ ∀m∈e.2.nms,m<s.nx
 size:a.tmps.size=N
 defers:a.defers=C.ds
 n0:C.n0<=s.nx
 pre:C.Pre S
def Qy2{C:Ba}{S S':Ay}{nx cnt:Nat}(h:C.Pre S)(hn:C.n0<=nx)(hp:BA (λm=> ¬Fr nx cnt m) S S'):C.Pre S':=by
 intro o ho e' z;obtain⟨e,Z,h2,h3,h4⟩:=hp.nm o (λhf=>by have:=hf.1;omega) e' z;obtain⟨G,g1,g2,O,Q⟩:=h o ho e Z;exact⟨G,g1,h2.trans g2,h3.trans O,h4.trans Q⟩
def BR(C:Ba)(N:Nat)(s:A8)(a:Act)(w:World):Prop:= ∃S,S.w=w/\Dc C N s S a
def pA(S:Ay)(tm:List (Nat×AV))(f:FuncId):Aa S (Aw tm (.func f)) (.func (.func f) #[] #[]):=by
 simp only[Aw];cases hb:Nat.blt f 1000000000 with
 |true=>simp only[C8,Aa,rd,rdl];exact⟨#[],#[],by rw[X9 (by simpa using hb)],rfl,rfl⟩
 |false=>simp only[Cy,Aa]
def Rx{C:Ba}{N:Nat}{s:A8}{S:Ay}{a:Act}(h:Dc C N s S a)(x:Operand):Aa S (Aw s.tm x) (a.eval x):=by
 cases x with
 |tmp t=>exact h.tm t
 |const v=>exact eI S v
 |global g=>simp only[Aw,Aa,rd,Act.eval]
 |func f=>exact pA S s.tm f
def Mg{tm:List (Nat×AV)}{nx:Nat}(h: ∀t,∀m∈(A9 tm t).nms,m<nx)(x:Operand): ∀m∈(Aw tm x).nms,m<nx:=by
 cases x with
 |tmp t=>exact h t
 |const v=>
  intro m z;simp only[Aw] at z;unfold kD at z;split at z<;>simp[AV.nms] at z
 |global g=>intro m z;simp[Aw,AV.nms] at z
 |func f=>intro m z;simp only[Aw] at z;cases hb:Nat.blt f 1000000000<;>rw[hb] at z<;>simp[AV.nms] at z
mutual
def vA{n:Nat}: ∀(x:AV),x.bel n=true-> ∀m∈x.nms,m<n
 | .any,_=>by simp[AV.nms]
 | .im _,_=>by simp[AV.nms]
 | .agg z,h=>by simpa only[AV.nms] using aT z (by simpa only[AV.bel] using h)
 | .tup z,h=>by simpa only[AV.nms] using aT z (by simpa only[AV.bel] using h)
 | .ptr o _,h=>by simpa[AV.nms,AV.bel] using h
 | .eptr o _ _,h=>by simpa[AV.nms,AV.bel] using h
 | .own o,h=>by simpa[AV.nms,AV.bel] using h
 | .mp o,h=>by simpa[AV.nms,AV.bel] using h
 | .ch o,h=>by simpa[AV.nms,AV.bel] using h
 | .it o,h=>by simpa[AV.nms,AV.bel] using h
 | .osl o _ _,h=>by simpa[AV.nms,AV.bel] using h
 | .clo _ a c,h=>by
   simp only[AV.bel,Bc] at h;simp only[AV.nms,B2];rintro m (G|G)
   .exact aT a h.1 m G
   .exact aT c h.2 m G
def aT{n:Nat}: ∀(xs:List AV),AQ n xs=true-> ∀m∈Ax xs,m<n
 |[],_=>by simp[Ax]
 |x::xs,h=>by
  simp only[AQ,Bc] at h;simp only[Ax,B2];rintro m (z|z)
  .exact vA x h.1 m z
  .exact aT xs h.2 m z
end
def pJ{n:Nat}: ∀(z:List (List AV)),z.all (AQ n)=true-> ∀m∈B7 z,m<n
 |[],_=>by simp[B7]
 |r::z,h=>by
  simp only[EE,Bc] at h;simp only[B7,B2];rintro m (G|G)
  .exact aT r h.1 m G
  .exact pJ z h.2 m G
def gB{n:Nat}: ∀(hs:Ar),AB n hs=true-> ∀o e,hget hs o=some e-> ∀m∈e.2.nms,m<n
 |[],_,o,e,h=>by simp[hget] at h
 |(q,Q,O)::hs,z,o,e,h=>by
  have G:(∀m∈O.nms,m<n)/\AB n hs=true:=by
   cases O<;>simp only[AB,Bc] at z
   .exact⟨aT _ z.1,z.2⟩
   .exact⟨by simp[Ah.nms],z⟩
   .exact⟨pJ _ z.1,z.2⟩
   .exact⟨by simp[Ah.nms],z⟩
   .exact⟨by simp[Ah.nms],z⟩
   .exact⟨by simp[Ah.nms],z⟩
   .exact⟨by simp[Ah.nms],z⟩
  simp only[hget] at h;cases hq:q==o<;>rw[hq] at h
  .exact gB hs G.2 o e (by simpa using h)
  .simp only[C8,AO] at h;subst h;exact G.1
def Qlm{ks:List Nat}{nx cnt:Nat}: ∀(hs:Ar),IC ks nx cnt hs=true-> ∀o e,hget hs o=some e->(nx<=o/\o<nx+cnt)\/(o∈ks/\o<nx)
 |[],_,o,e,h=>by simp[hget] at h
 |(q,x)::hs,z,o,e,h=>by
  simp only[IC,Bc] at z;simp only[hget] at h;cases hq:q==o<;>rw[hq] at h
  .exact Qlm hs z.2 o e (by simpa using h)
  .have G:q=o:=by simpa using hq
   subst G
   have:=z.1
   simp only[K0,Ic,Bc,LM,F5,Jl] at this;exact this
def Qm2(a b:Ar)(n:Nat):hget (a++b) n=match hget a n with|some e=>some e|none=>hget b n:=by
 induction a with
 |nil=>rfl
 |cons x a ih=>
  obtain⟨q,e⟩:=x;simp only[Ci,hget];cases q==n<;>simp[ih]
def Qm7(ks:List Nat)(n:Nat): ∀(a:Ar),hget (Cb a ks) n=bif ks.contains n then none else hget a n
 |[]=>by simp[Cb,hget]
 |(q,e)::a=>by
  simp only[Cb];have ih:=Qm7 ks n a;cases hq:ks.contains q
  .simp only[Cy,hget,ih];cases hqn:q==n
   .simp
   .have:q=n:=by simpa using hqn
    subst this;have z:q∉ks:=by simpa using hq
    simp[z]
  .simp only[C8,ih,hget];cases hqn:q==n
   .simp
   .have:q=n:=by simpa using hqn
    subst this;have z:q∈ks:=by simpa using hq
    simp[z]
def zB{a:Act}{dst:Option Nat}{v:Value}{t:Nat}(hd: ∀d,dst=some d->d<a.tmps.size):
 (a.put dst v).eval (.tmp t)=if dst=some t then v else a.eval (.tmp t):=by
 cases dst with
 |none=>simp[Act.put]
 |some d=>
  have:=hd d rfl
  simp only[Act.put,Act.eval,Ib,iC,AO];by_cases h:d=t
  .subst h;simp[this]
  .simp[h]
def Wi{s:A8}{dst:Option Nat}{x:AV}{t:Nat}:A9 (s.put dst x).tm t=if dst=some t then x else A9 s.tm t:=by
 cases dst with
 |none=>simp[A8.put]
 |some d=>
  simp only[A8.put,A9,AO];by_cases h:d=t
  .subst h;simp
  .have:(d==t)=false:=by simpa using h
   simp[this,h]
def Qxs{C:Ba}{N:Nat}{s:A8}{S S':Ay}{a:Act}{dst:Option Nat}{r:AV}{E:B4}{v:Value}(z:Dc C N s S a)(aa:E.ok s.nx r=true)(hd: ∀d,dst=some d->d<N)
 (hW:Wf C S')(hh:S'.h=E.appf S.h)(hp:BA (λm=> ¬Fr s.nx E.cnt m) S S')(hv:Aa S' r v):Dc C N (s.app dst r E) S' (a.put dst v):=by
 simp only[B4.ok,Bc] at aa;obtain⟨af,ag,ah⟩:=aa;have O: ∀n,hget (E.new++Cb s.h E.kill) n=E.appf (hget s.h) n:=by
  intro n;rw[Qm2,Qm7];simp only[B4.appf];cases hget E.new n<;>rfl
 have ad:S.h=hget s.h:=funext z.h;have Q:(s.app dst r E).nx=s.nx+E.cnt:=by cases dst<;>rfl
 have ab:(s.app dst r E).h=E.new++Cb s.h E.kill:=by cases dst<;>rfl
 have ac: ∀t,A9 (s.app dst r E).tm t=if dst=some t then r else A9 s.tm t:=λt=>Wi
 refine⟨hW,?_,?_,?_,?_,?_,?_,?_,Qy2 z.pre z.n0 hp⟩
 .intro n;rw[ab,O,hh,ad]
 .intro t;rw[ac,zB (λd h=>by rw[z.size];exact hd d h)];split
  .exact hv
  .refine I5 hp _ _ ?_ (z.tm t);intro m Z ai
   have:=z.nmT t m Z
   have:=ai.1
   omega
 .intro t;rw[ac,Q];split
  .exact vA r af
  .intro m Z;have:=z.nmT t m Z;omega
 .intro n e G;rw[ab,Qm2] at G;rw[Q];cases hn:hget E.new n with
  |some e'=>
   rw[hn] at G;obtain rfl:=AC G;refine⟨?_,gB _ ag n _ hn⟩;rcases Qlm _ ah n _ hn with h|h<;>omega
  |none=>
   rw[hn] at G;simp only[Qm7] at G;cases hk:E.kill.contains n<;>rw[hk] at G
   .obtain⟨h1,h2⟩:=z.nmH n e (by simpa using G);exact⟨by omega,λm Z=>by have:=h2 m Z;omega⟩
   .simp at G
 .cases dst<;>simp[Act.put,z.size]
 .cases dst<;>simp[Act.put,z.defers]
 .rw[Q];exact CW z.n0 (wO _ _)
def Qty{P:Program}{V:D4}(HV:HB P V){C:Ba}{N:Nat}{s:A8}{a:Act}{w:World}{ops:Array Oper}{i:Nat}{o:Oper}{go:A8->Prop}(au:ops[i]? =some o)(hw:Region.wanted o (yielded ops a.tmps)=true)(hd: ∀d,o.dst=some d->d<N)
 (G:JS P V o.dst o.op o.type go s)(O:BR C N s a w){next:Act->World->Prop}(hn: ∀s' a' w',go s'->BR C N s' a' w'->next a' w'):Ku P ops i a w next:=by
 obtain⟨S,rfl,O⟩:=O;have bf:S.h=hget s.h:=funext O.h;unfold JS at G;have az:step P V true s.tm (hget s.h) s.nx o.type (Fx go s o.dst) o.op->Ku P ops i a S.w next:=by
  intro G;refine Qab1 au hw ?_;have am: ∀n,s.nx<=n->S.h n=none:=by
   intro n aj;cases hn:S.h n with
   |none=>rfl
   |some e=>
    have:=(O.nmH n e (by rw[<-O.h n];exact hn)).1
    omega
  have an: ∀n e,S.h n=some e-> ∀m∈e.2.nms,m<s.nx:=λn e he m hm=>(O.nmH n e (by rw[<-O.h n];exact he)).2 m hm
  rcases Qrc HV (Mg O.nmT) G with ⟨r,E,ai,ad,ag⟩|⟨_,⟨u,aw⟩|ba⟩
  .refine ai C S a next _ O.wf (λn _=>O.h n) (λn aj=>am n aj.1) ?_ (λx _=>Rx O x) ?_
   .intro n e he m hm aj
    have:=an n e he m hm
    have:=aj.1
    omega
   .intro v S' hW hh hp hv;exact hn _ _ _ ag ⟨S',rfl,Qxs O ad hd hW hh hp hv⟩
  .exact absurd (aw C S a O.wf (λn _=>O.h n) (λx _=>Rx O x)) id
  .refine ba C S a next _ O.wf O.h am an (λx _=>Rx O x) ?_
   intro r E v S' hK hW hh hp hv;obtain⟨ad,ag⟩:=hK;exact hn _ _ _ ag ⟨S',rfl,Qxs O ad hd hW hh hp hv⟩
 have chan: ∀(q cap:Nat) (bu af:List D) (l:FX) (aa:Array Value) (Z Q:Nat) (r:AV) (v:Value),S.h q=some (true,.chan bu cap)->S.ρ q=some l->rdl S.ok S.hp af aa.toList->
  (∀S':Ay,(∀b,S.ok b->S'.ok b/\S'.hp b=S.hp b)->Aa S' r v)->
  Fx go s o.dst r {use:=[q],kill:=[q],new:=[(q,(true,.chan af cap))]}->next (a.put o.dst v) {S.w with heap:=S.w.heap.setIfInBounds l.b (.chan cap aa false Z Q false)}:=by
  intro q cap bu af l aa Z Q r v hS hl hb hv hK
  let w':World:={S.w with heap:=S.w.heap.setIfInBounds l.b (.chan cap aa false Z Q false)}
  have ao:Kb S q (.chan af cap) (some l) [q] w':=gE O.wf hS hl (w':=w') (ob:= .chan cap aa false Z Q false) rfl rfl rfl rfl rfl rfl;have ak:=fS O.wf ao;have ay:Ap (S.one q (.chan af cap) (some l) [q] w') (some l) (.chan af cap):=by
   simp only[Ap];exact⟨l,aa,Z,Q,rfl,gJ (O.wf.loc q _ l hS hl).1 rfl,L8 ak.ok _ _ hb⟩
  have a0:=nI O.wf ao ay;obtain⟨ad,ag⟩:=hK;refine hn _ _ _ ag ⟨_,rfl,Qxs O ad hd a0 ?_ ⟨ak.ok,λn hX=>ak.nm n (.inl (by rw[hS];simp))⟩ (hv _ ak.ok)⟩;funext n;simp only[Ay.one,B4.appf,Go.Ae.hget];by_cases av:n=q
  .subst av;simp
  .have:(q==n)=false:=by rw[Ih];exact λh=>av h.symm
   simp[this,av]
 unfold Ei at G;split at G
 .rename_i c x ai;unfold L2 at G;split at G
  .rename_i q d aq bc;have h1:=Rx O c;have h2:=Rx O x;rw[aq] at h1;rw[bc] at h2;cases hq:hget s.h q with
   |none=>rw[hq] at G;exact G.elim
   |some ac=>
    obtain⟨mu,ac⟩:=ac;rw[hq] at G;cases mu<;>cases ac<;>try exact G.elim
    rename_i bu cap;simp only[kV] at G;obtain⟨a9,G⟩:=G;have hS:=(O.h q).trans hq;simp only[Aa] at h1 h2;obtain⟨l,hl,hv⟩:=h1.2 _ hS;have ah:=O.wf.obj _ _ hS;simp only[Ap] at ah;obtain⟨lc,ab,Z,Q,g1,g2,g3⟩:=ah;rw[hl] at g1;obtain rfl:=AC g1;have ax:=gD _ _ g3;simp only[Fj] at ax;refine Pz au hw ai hv g2 (by omega) ?_;refine chan q cap bu (bu++[d]) l (ab.push (a.eval x)) (Z+1) Q .any undef hS hl ?_ (λ_ _=>by simp only[Aa]) G;rw[Zef]
    have: ∀(ds:List D) (vs:List Value),rdl S.ok S.hp ds vs->rdl S.ok S.hp (ds++[d]) (vs++[a.eval x]):=by
     intro ds;induction ds with
     |nil=>intro vs h;simp only[rdl] at h;subst h;simp only[Dv,rdl];exact⟨_,_,rfl,h2,rfl⟩
     |cons y ys ih=>
      intro vs h;simp only[rdl] at h;obtain⟨v,r,rfl,k1,k2⟩:=h;simp only[Ci,rdl];exact⟨_,_,rfl,k1,ih r k2⟩
    exact this _ _ g3
  .exact G.elim
 .rename_i T c ai;unfold L0 at G;cases hce:Wu P T with
  |none=>rw[hce] at G;exact G.elim
  |some e=>
  rw[hce] at G;simp only[rvK] at G;cases hE:tI P e with
  |none=>rw[hE] at G;exact G.elim
  |some te=>
  rw[hE] at G;simp only[Bl,rvE] at G;obtain⟨bd,hz,G⟩:=G;obtain⟨z,be,_⟩:=fK hE bd hz;obtain⟨dr,hu⟩:=Qpi hce;have h1:=Rx O c;cases aq:Aw s.tm c<;>rw[aq] at G h1<;>try exact G.elim
  rename_i q;simp only[rvC] at G;cases hq:hget s.h q with
  |none=>rw[hq] at G;exact G.elim
  |some ac=>
   obtain⟨mu,ac⟩:=ac;rw[hq] at G;cases mu<;>cases ac<;>try exact G.elim
   rename_i bu cap;simp only[kN] at G;obtain⟨a8,G⟩:=G;obtain⟨d,r,rfl⟩:=ZeD a8;have G:=G d r rfl;have hS:=(O.h q).trans hq;simp only[Aa] at h1;obtain⟨l,hl,hv⟩:=h1.2 _ hS;have ah:=O.wf.obj _ _ hS;simp only[Ap] at ah;obtain⟨lc,ab,Z,Q,g1,g2,g3⟩:=ah;rw[hl] at g1;obtain rfl:=AC g1;simp only[rdl] at g3;obtain⟨v0,vr,k1,k2,k3⟩:=g3;have bb:0<ab.size:=by rw[<-Fj,k1];simp
   have h0:ab.getD 0 undef=v0:=by
    have:ab.toList[0]? =some v0:=by rw[k1];rfl
    rw[Ib,<-Hq,this];rfl
   have hx:(ab.extract 1 ab.size).toList=vr:=by
    rw[Zfi,k1];simp only[List.extract,LK,Ie];apply GW;rw[<-Fj,k1];simp
   refine Py au hw ai hu (be _) hv g2 bb ?_;rw[h0];refine chan q cap (d::r) r l _ Z (Q+1) (.im d) v0 hS hl (by rw[hx];exact k3) (λS' ad=> ?_) G;simp only[Aa];exact Hf ad _ _ k2
 .exact az G
def Mb{C:Ba}{N:Nat}{s:A8}{a:Act}{w:World}(z:BR C N s a w){dst:Option Nat}(hd: ∀d,dst=some d->d<N){x:AV}{v:Value}(hx:x.nms=[])(hv: ∀S,Aa S x v):BR C N (s.put dst x) (a.put dst v) w:=by
 obtain⟨S,rfl,z⟩:=z;have Q:(s.put dst x).h=s.h:=by cases dst<;>rfl
 have G:(s.put dst x).nx=s.nx:=by cases dst<;>rfl
 refine⟨S,rfl,z.wf,λn=>by rw[Q];exact z.h n,?_,?_,?_,?_,?_,by rw[G];exact z.n0,z.pre⟩
 .intro t;rw[Wi,zB (λd h=>by rw[z.size];exact hd d h)];split
  .exact hv S
  .exact z.tm t
 .intro t;rw[Wi,G];split
  .rw[hx];intro m Z;cases Z
  .exact z.nmT t
 .intro n e O;rw[Q] at O;rw[G];exact z.nmH n e O
 .cases dst<;>simp[Act.put,z.size]
 .cases dst<;>simp[Act.put,z.defers]
def Kd(N:Nat):List Oper->Bool
 |[]=>true
 |o::r=>(match o.dst with|some d=>Nat.blt d N|none=>true) && Kd N r
def Qqk{C:Ba}{N:Nat}{s:A8}{S:Ay}{a:Act}(O:Dc C N s S a){ops:Array Oper}{j t:Nat}(Q:(ops[j]?).bind (·.dst)=some t){b:Bool}(G:A9 s.tm t= .im (.bool b)):
 yielded ops a.tmps j=some b:=by
 have z:=O.tm t;rw[G] at z;simp only[Aa,rd,Act.eval] at z;unfold yielded;rw[Q];simp only[G8];rw[Ib] at z;cases hq:a.tmps[t]? with
 |none=>rw[hq] at z;simp[undef] at z
 |some v=>rw[hq] at z;simp at z;rw[z]
def Qpr{P:Program}{V:D4}(HV:HB P V){C:Ba}{N:Nat}{ops:Array Oper}{K:A8->Prop}{Q:Exit->Act->World->Prop}(hQ: ∀s a w,K s->BR C N s a w->Q .normal a w):
 ∀(rest more:List Oper) (i:Nat),ops.toList.drop i=rest++more->Kd N rest=true-> ∀(s:A8) (a:Act) (w:World),Lv P V (G4 ops rest) K s->BR C N s a w->LG P ops (Q .normal) (List.range' i rest.length) a w:=by
 intro rest more;induction rest with
 |nil=>
  intro i _ _ s a w G hc;simp only[G4,Lv] at G;simpa[LG] using hQ s a w G hc
 |cons o rest ih=>
  intro i hi hd s a w G hc;simp only[Kd,Bc] at hd;have ad:ops[i]? =some o:=by
   have:(ops.toList.drop i)[0]? =some o:=by rw[hi];rfl
   simpa using this
  have aj:ops.toList.drop (i+1)=rest++more:=by
   have:(ops.toList.drop i).drop 1=rest++more:=by rw[hi];rfl
   rwa [EC] at this
  have Z: ∀d,o.dst=some d->d<N:=by
   intro d ai
   have:=hd.1
   rw[ai] at this;simpa using this
  have O: ∀s' a' w',Lv P V (G4 ops rest) K s'->BR C N s' a' w'->LG P ops (Q .normal) (List.range' (i+1) rest.length) a' w':=λs' a' w' h1 h2=>ih (i+1) aj hd.2 s' a' w' h1 h2
  simp only[CR,List.range'_succ,LG,ad];simp only[G4,Lv] at G;cases hg:o.guard with
  |none=>
   rw[hg] at G;simp only[XI,yP] at G;rw[Al (by simp[Region.wanted,hg])];exact Qty HV ad (by simp[Region.wanted,hg]) Z G hc O
  |some g=>
   obtain⟨j,aa⟩:=g;rw[hg] at G;simp only[XI,yP] at G;cases ht:(ops[j]?).bind (·.dst) with
   |none=>rw[ht] at G;exact G.elim
   |some t=>
    rw[ht] at G;simp only[Y9] at G;cases hb:A9 s.tm t<;>rw[hb] at G<;>try exact G.elim
    rename_i d;cases d<;>try exact G.elim
    case tup cs=>
     cases cs with
     |cons _ _=>exact G.elim
     |nil=>
      simp only[Xx,N1] at G;have hy:yielded ops a.tmps j=none:=by
       obtain⟨S,_,z⟩:=hc;have h1:=z.tm t;rw[hb] at h1;simp only[Aa,rd,rdl,Act.eval] at h1;obtain⟨vs,h1,h2⟩:=h1;unfold yielded;rw[ht];simp only[G8];rw[Ib] at h1;cases hq:a.tmps[t]? with
       |none=>rfl
       |some v=>rw[hq] at h1;simp at h1;rw[h1]
      rw[Ag (by simp[Region.wanted,hg,hy])];exact O _ _ _ G (Mb hc Z rfl (λS=>by simp only[Aa,rd,rdl];exact⟨#[],rfl,rfl⟩))
    case bool b=>
    simp only[Xx] at G;obtain⟨S,ag,z⟩:=hc;have hy:=Qqk z ht hb;have ac: ∀b':Bool,b=b'->BR C N (s.put (some t) (.im (.bool b'))) a w:=by
     intro b' ah;subst ah;refine⟨S,ag,z.wf,z.h,?_,?_,z.nmH,z.size,z.defers,z.n0,z.pre⟩
     .intro t';rw[Wi];split
      .rename_i h;cases h;have:=z.tm t;rwa [hb] at this
      .exact z.tm t'
     .intro t';rw[Wi];split
      .intro m hm;simp[AV.nms] at hm
      .exact z.nmT t'
    by_cases ab:b=aa
    .rw[Al (by simp[Region.wanted,hg,hy,ab])];exact Qty HV ad (by simp[Region.wanted,hg,hy,ab]) Z (G.1 ab) (ac aa ab) O
    .rw[Ag (by simp[Region.wanted,hg,hy,ab])];have af:b= !aa:=by cases b<;>cases aa<;>simp_all
     have h2:=G.2 af;simp only[N1] at h2;exact O _ _ _ h2 (Mb (ac _ af) Z rfl (λS=>by simp only[Aa,rd,rdl];exact⟨#[],rfl,rfl⟩))
def Qt0{P:Program}{V:D4}(z:HB P V){C:Ba}{N id:Nat}{ops:Array Oper}{K:A8->Prop}{Q:Exit->Act->World->Prop}(G: ∀s a w,K s->BR C N s a w->Q .normal a w)
 (hd:Kd N ops.toList=true){s:A8}{a:Act}{w:World}(Z:Lv P V (G4 ops ops.toList) K s)(O:BR C N s a w):(Code.region id ops false).wp P Q a w:=by
 refine PD ?_
 have:=Qpr z (ops:=ops) G ops.toList [] 0 (by simp) hd s a w Z O
 rwa [Fj,<-Zeq] at this
structure Ev where
 i:Nat
 o:Oper
 s:A8
 r:AV
 E:B4
 skip:Bool
def HD(D:Nat->Bool):List Ev->(Nat->Option Au)->(Nat->Option Au)
 |[],h=>h
 |e::r,h=>HD D r (bif D e.i then e.E.appf h else h)
def TD(D:Nat->Bool):List Ev->(Nat->AV)->(Nat->AV)
 |[],f=>f
 |e::r,f=>TD D r (λt=>bif D e.i && (e.o.dst==some t) then e.r else f t)
def Qwh{n:Nat}: ∀(hs:Ar),n∉L9 hs->hget hs n=none
 |[],_=>rfl
 |(q,e)::hs,h=>by
  simp only[L9,Bw,XV] at h
  have:(q==n)=false:=by rw[Ih];exact λh'=>h.1 h'.symm
  simp only[hget,this,Cy];exact Qwh hs h.2
def Qur{n:Nat}: ∀(hs:Ar),n∈L9 hs-> ∃e,hget hs n=some e
 |[],h=>by simp[L9] at h
 |(q,e)::hs,h=>by
  simp only[L9,Bw] at h;simp only[hget];cases hq:q==n
  .have z:q≠n:=by simpa using hq
   rcases h with rfl|h
   .exact absurd rfl z
   .simpa using Qur hs h
  .exact⟨e,by simp⟩
def uD{E:B4}{h:Nat->Option Au}{n:Nat}(hn:n∉E.touch):E.appf h n=h n:=by
 simp only[B4.touch,B2,XV] at hn;simp[B4.appf,Qwh _ hn.2,hn.1]
def XX{E:B4}{h h':Nat->Option Au}{n:Nat}(hn:n∈E.touch):E.appf h n=E.appf h' n:=by
 simp only[B4.appf];cases hg:hget E.new n with
 |some e=>rfl
 |none=>
  simp only[B4.touch,B2] at hn;rcases hn with hn|hn
  .simp[hn]
  .obtain⟨e,z⟩:=Qur _ hn;rw[z] at hg;cases hg
def Qym{E:B4}{h h':Nat->Option Au}{n:Nat}(z:h n=h' n):E.appf h n=E.appf h' n:=by
 simp only[B4.appf,z]
def mK{D D':Nat->Bool}{n:Nat}: ∀(evs:List Ev) (h h':Nat->Option Au),h n=h' n->(∀e∈evs,D e.i≠D' e.i->n∉e.E.touch)->HD D evs h n=HD D' evs h' n
 |[],_,_,z,_=>z
 |e::r,h,h',z,hd=>by
  simp only[HD];refine mK r _ _ ?_ (λx G=>hd x (by simp[G]));cases h1:D e.i<;>cases h2:D' e.i
  .simpa using z
  .have:=hd e (by simp) (by rw[h1,h2];simp)
   simp only[Cy,C8];rw[uD this];exact z
  .have:=hd e (by simp) (by rw[h1,h2];simp)
   simp only[Cy,C8];rw[uD this];exact z
  .simp only[C8];exact Qym z
def mO{D D':Nat->Bool}{t:Nat}: ∀(evs:List Ev) (f f':Nat->AV),f t=f' t->(∀e∈evs,D e.i≠D' e.i->e.o.dst≠some t)->TD D evs f t=TD D' evs f' t
 |[],_,_,z,_=>z
 |e::r,f,f',z,hd=>by
  simp only[TD];refine mO r _ _ ?_ (λx G=>hd x (by simp[G]));by_cases hq:e.o.dst=some t
  .have:D e.i=D' e.i:=by
    rcases Decidable.em (D e.i=D' e.i) with h|h
    .exact h
    .exact absurd hq (hd e (by simp) h)
   rw[this,z]
  .have:(e.o.dst==some t)=false:=by rw[Ih];exact hq
   simp[this,z]
def vS(D:Nat->Bool): ∀(a b:List Ev) (h:Nat->Option Au),HD D (a++b) h=HD D b (HD D a h)
 |[],_,_=>rfl
 |e::a,b,h=>by simp only[Ci,HD];exact vS D a b _
def vU(D:Nat->Bool): ∀(a b:List Ev) (f:Nat->AV),TD D (a++b) f=TD D b (TD D a f)
 |[],_,_=>rfl
 |e::a,b,f=>by simp only[Ci,TD];exact vU D a b _
def Qw6{D:Nat->Bool}: ∀(evs:List Ev) (h:Nat->Option Au) (n:Nat),(∀e∈evs,D e.i=true->n∉e.E.touch)->HD D evs h n=h n
 |[],_,_,_=>rfl
 |e::r,h,n,hd=>by
  simp only[HD];rw[Qw6 r _ n (λx z=>hd x (by simp[z]))];cases h1:D e.i
  .rfl
  .exact uD (hd e (by simp) h1)
def Qyr{D:Nat->Bool}: ∀(evs:List Ev) (f:Nat->AV) (t:Nat),(∀e∈evs,D e.i=true->e.o.dst≠some t)->TD D evs f t=f t
 |[],_,_,_=>rfl
 |e::r,f,t,hd=>by
  simp only[TD];rw[Qyr r _ t (λx z=>hd x (by simp[z]))];cases h1:D e.i
  .rfl
  .have:(e.o.dst==some t)=false:=by rw[Ih];exact hd e (by simp) h1
   simp[this]
def Qtn{n:Nat}{x:Au}: ∀(hs:Ar),hget hs n=some x->n∈L9 hs/\ ∀m∈x.2.nms,m∈JC hs
 |[],h=>by simp[hget] at h
 |(q,Z,ob)::hs,h=>by
  simp only[hget] at h;simp only[L9,JC,Bw,B2];cases hq:q==n<;>rw[hq] at h
  .obtain⟨O,Q⟩:=Qtn hs (by simpa using h);exact⟨.inr O,λm z=> .inr (Q m z)⟩
  .have G:q=n:=by simpa using hq
   simp only[C8,AO] at h;subst h;exact⟨.inl G.symm,λm z=> .inl z⟩
def Kr{D:Nat->Bool}{n:Nat}{x:Au}: ∀(evs:List Ev) (h:Nat->Option Au),HD D evs h n=some x->h n=some x\/ ∃e∈evs,D e.i=true/\hget e.E.new n=some x
 |[],_,G=> .inl G
 |e::r,h,G=>by
  simp only[HD] at G;rcases Kr r _ G with z|⟨f,hf,O⟩
  .cases hd:D e.i<;>rw[hd] at z
   .exact .inl z
   .simp only[C8,B4.appf] at z;cases hg:hget e.E.new n with
    |some y=>
     rw[hg] at z;obtain rfl:=AC z;exact .inr ⟨e,by simp,hd,hg⟩
    |none=>
     rw[hg] at z;cases hk:e.E.kill.contains n<;>rw[hk] at z
     .exact .inl z
     .cases z
  .exact .inr ⟨f,by simp[hf],O⟩
def RG{D:Nat->Bool}{t:Nat}: ∀(evs:List Ev) (f:Nat->AV),TD D evs f t=f t\/ ∃e∈evs,D e.i=true/\TD D evs f t=e.r
 |[],_=> .inl rfl
 |e::r,f=>by
  simp only[TD];rcases RG r (λt=>bif D e.i && (e.o.dst==some t) then e.r else f t) with z|⟨x,O,G⟩
  .rw[z];cases hd:D e.i
   .exact .inl rfl
   .cases hq:e.o.dst==some t
    .exact .inl rfl
    .exact .inr ⟨e,by simp,hd,rfl⟩
  .exact .inr ⟨x,by simp[O],G⟩
structure wA(e f:Ev):Prop where
 a: ∀n,n∈f.E.use++f.E.kill->n∉e.E.touch
 b: ∀n,n∈f.E.touch->n∉e.E.touch
 c: ∀n,n∈f.E.touch->n∉e.E.use++e.E.kill
 d: ∀n,n∈f.E.touch++(f.r.nms++JC f.E.new)-> ¬Fr e.s.nx e.E.cnt n
def Qlq: ∀(l k:List Nat),O0 l k=true-> ∀n∈l,n∉k
 |[],_,_,n,hn=>by cases hn
 |x::l,k,h,n,hn=>by
  simp only[O0,Bc,LL] at h;rcases Bw.1 hn with rfl|hn
  .intro z
   have:=h.1
   rw[Jl.2 z] at this;cases this
  .exact Qlq l k h.2 n hn
def Qtw{nx cnt:Nat}: ∀(l:List Nat),Hz nx cnt l=true-> ∀n∈l,¬Fr nx cnt n
 |[],_,n,hn=>by cases hn
 |x::l,h,n,hn=>by
  simp only[Hz,Bc,Ic,F5,LM] at h;rcases Bw.1 hn with rfl|hn
  .intro hf
   have:=hf.1
   have:=hf.2
   omega
  .exact Qtw l h.2 n hn
def WE(ops:Array Oper)(s:A8)(skip:Bool):Option (Nat×Bool)->Prop
 |none=>skip=false
 |some (g,z)=> ∃t,(ops[g]?).bind (·.dst)=some t/\((∃b,A9 s.tm t= .im (.bool b)/\skip=(b !=z))\/(A9 s.tm t= .im (.tup [])/\skip=true))
structure oP(P:Program)(ops:Array Oper)(e:Ev):Prop where
 op:ops[e.i]? =some e.o
 gd:WE ops e.s e.skip e.o.guard
 doo:e.skip=false->BE P e.s.tm (hget e.s.h) e.s.nx e.o e.r e.E/\e.E.ok e.s.nx e.r=true
 skp:e.skip=true->e.r= .im (.tup [])/\e.E={}
abbrev OF:Nat->Bool:=λ_=>true
def Km(j:Nat):Nat->Bool:=λi=>Nat.blt i j
def J9{i j:Nat}(h:Km j i=true):i<j:=by simpa[Km] using h
structure GT(P:Program)(ops:Array Oper)(cl:List (List Nat))(s0:A8)(evs:List Ev)(s:A8)(acc:List Fp):Prop where
 idx: ∀(k:Nat) (e:Ev),evs[k]? =some e->e.i=k
 tm: ∀t,A9 s.tm t=TD OF evs (A9 s0.tm) t
 h: ∀n,hget s.h n=HD OF evs (hget s0.h) n
 nx:s0.nx<=s.nx
 ev: ∀e∈evs,oP P ops e/\s0.nx<=e.s.nx/\e.s.nx+e.E.cnt<=s.nx
 atT: ∀e∈evs,∀t,A9 e.s.tm t=TD (Km e.i) evs (A9 s0.tm) t
 atH: ∀e∈evs,∀n,hget e.s.h n=HD (Km e.i) evs (hget s0.h) n
 ord: ∀e∈evs,∀f∈evs,e.i<f.i->e.s.nx+e.E.cnt<=f.s.nx
 pair: ∀e∈evs,∀f∈evs,e.i<f.i->Fc cl e.i f.i=true\/wA e f
 acc: ∀e∈evs,e.skip=true\/(⟨e.i,e.E.use++e.E.kill,e.E.touch,e.s.nx,e.E.cnt⟩:Fp)∈acc
 nmT: ∀t,∀m∈(A9 s.tm t).nms,m<s.nx
section
variable {P:Program}{ops:Array Oper}{cl:List (List Nat)}{s0 s:A8}{evs:List Ev}{acc:List Fp}
def GT.lt(g:GT P ops cl s0 evs s acc): ∀e∈evs,e.i<evs.length:=by
 intro e G;obtain⟨k,O,z⟩:=hC.1 G
 have:=g.idx k e (by rw[BB O,z])
 omega
def GT.nil(h: ∀t,∀m∈(A9 s0.tm t).nms,m<s0.nx):GT P ops cl s0 [] s0 []:=by
 refine⟨by simp,λt=>rfl,λn=>rfl,AU _,by simp,by simp,by simp,by simp,by simp,by simp,h⟩
def GT.snoc(g:GT P ops cl s0 evs s acc)(e:Ev)(hi:e.i=evs.length)(an:oP P ops e)(hs: ∀t,A9 e.s.tm t=A9 s.tm t)(hh: ∀n,hget e.s.h n=hget s.h n)(au:e.s.nx=s.nx)
 (ah: ∀f∈evs,Fc cl f.i e.i=true\/wA f e){s':A8}{G:List Fp}(ak: ∀t,A9 s'.tm t=if e.o.dst=some t then e.r else A9 s.tm t)
 (am: ∀n,hget s'.h n=e.E.appf (hget s.h) n)(ao:s'.nx=s.nx+e.E.cnt)(aj: ∀f∈acc,f∈G)(af:e.skip=true\/(⟨e.i,e.E.use++e.E.kill,e.E.touch,e.s.nx,e.E.cnt⟩:Fp)∈G)
 (hr: ∀m∈e.r.nms,m<s'.nx):GT P ops cl s0 (evs++[e]) s' G:=by
 have O: ∀f∈evs,f.i<e.i:=λf hf=>by rw[hi];exact g.lt f hf
 have ad: ∀t,TD (Km e.i) evs (A9 s0.tm) t=A9 s.tm t:=by
  intro t;rw[g.tm t];refine mO evs _ _ rfl ?_;intro f hf ag;exact absurd (by simp[Km,O f hf]) ag
 have ac: ∀n,HD (Km e.i) evs (hget s0.h) n=hget s.h n:=by
  intro n;rw[g.h n];refine mK evs _ _ rfl ?_;intro f hf ag;exact absurd (by simp[Km,O f hf]) ag
 have ab: ∀f∈evs,Km f.i e.i=false:=by
  intro f hf
  have:=O f hf
  rw[QL];intro h
  have:=J9 h
  omega
 have Q:Km e.i e.i=false:=by
  rw[QL];intro h
  have:=J9 h
  omega
 have z: ∀f,f∈evs++[e]->f∈evs\/f=e:=by intro f hf;simpa using hf
 refine⟨?_,?_,?_,?_,?_,?_,?_,?_,?_,?_,?_⟩
 .intro k f hk;rcases wM k evs.length with h|h|h
  .rw[F4 h] at hk;exact g.idx k f hk
  .subst h;rw[G6 (AU _)] at hk;simp at hk;subst hk;exact hi
  .rw[G6 (by omega)] at hk
   have:(k - evs.length)≠0:=by omega
   cases hq:k - evs.length with
   |zero=>omega
   |succ q=>rw[hq] at hk;simp at hk
 .intro t;rw[ak,vU];simp only[TD,OF,ED];by_cases hq:e.o.dst=some t
  .simp[hq]
  .have:(e.o.dst==some t)=false:=by rw[Ih];exact hq
   rw[Ag hq,this];exact g.tm t
 .intro n;rw[am,vS];simp only[HD,OF,C8];exact Qym (g.h n)
 .have:=g.nx;omega
 .intro f hf;have aq:=g.nx;rcases z f hf with hf|rfl
  .obtain⟨h1,h2,h3⟩:=g.ev f hf;exact⟨h1,h2,by omega⟩
  .exact⟨an,by omega,by omega⟩
 .intro f hf t;rw[vU];rcases z f hf with hf|rfl
  .simp only[TD,ab f hf,FT,Cy];exact g.atT f hf t
  .simp only[TD,Q,FT,Cy];rw[ad,hs]
 .intro f hf n;rw[vS];rcases z f hf with hf|rfl
  .simp only[HD,ab f hf,Cy];exact g.atH f hf n
  .simp only[HD,Q,Cy];rw[ac,hh]
 .intro x hx y hy ai;rcases z x hx with Z|rfl<;>rcases z y hy with aa|rfl
  .exact g.ord x Z y aa ai
  .have:=(g.ev x Z).2.2;omega
  .have:=O y aa;omega
  .omega
 .intro x hx y hy ai;rcases z x hx with Z|rfl<;>rcases z y hy with aa|rfl
  .exact g.pair x Z y aa ai
  .exact ah x Z
  .have:=O y aa;omega
  .omega
 .intro f hf;rcases z f hf with hf|rfl
  .rcases g.acc f hf with h|h
   .exact .inl h
   .exact .inr (aj _ h)
  .exact af
 .intro t m hm;rw[ak] at hm;split at hm
  .exact hr m hm
  .have:=g.nmT t m hm;omega
def Qrd{j:Nat}{use touch z:List Nat}: ∀(acc:List Fp),NY cl j use touch z acc=true-> ∀f∈acc,xL cl j use touch z f=true
 |[],_,f,hf=>by cases hf
 |x::acc,h,f,hf=>by
  simp only[NY,Bc] at h;rcases Bw.1 hf with rfl|hf
  .exact h.1
  .exact Qrd acc h.2 f hf
def Qr{V:D4}(HV:HB P V){K:A8->Prop}: ∀(rest:List Oper) (i:Nat) (acc:List Fp) (s:A8) (evs:List Ev),ops.toList.drop i=rest->evs.length=i->
 GT P ops cl s0 evs s acc->WD P V cl (G4 ops rest) i K acc s-> ∃z s' G,z.length=i+rest.length/\GT P ops cl s0 z s' G/\K s':=by
 intro rest;induction rest with
 |nil=>intro i acc s evs _ hl g Q;exact⟨evs,s,acc,by simpa using hl,g,Q⟩
 |cons o rest ih=>
  intro i acc s evs hi hl g Q;have ao:ops[i]? =some o:=by
   have:(ops.toList.drop i)[0]? =some o:=by rw[hi];rfl
   simpa using this
  have an:ops.toList.drop (i+1)=rest:=by
   have:(ops.toList.drop i).drop 1=rest:=by rw[hi];rfl
   rwa [EC] at this
  have ak: ∀Z:A8,(∀t,A9 Z.tm t=A9 s.tm t)->Z.h=s.h->Z.nx=s.nx->WE ops Z false o.guard->N6 P V cl i acc o.dst o.op o.type (WD P V cl (G4 ops rest) (i+1) K) Z->
   ∃z s' G,z.length=i+(rest.length+1)/\GT P ops cl s0 z s' G/\K s':=by
   intro Z ht hh ab ah af;have hnm: ∀x,∀m∈(Aw Z.tm x).nms,m<Z.nx:=Mg (λt m hm=>by rw[ht] at hm;rw[ab];exact g.nmT t m hm);rcases Qrc HV hnm af with ⟨r,E,ax,aq,av,aw⟩|⟨h,_⟩
   .have aj:=Qrd acc av;have af:(Z.app o.dst r E).nx=Z.nx+E.cnt:=by cases o.dst<;>rfl
    have hb:=aq;simp only[B4.ok,Bc] at hb;have g':GT P ops cl s0 (evs++[⟨i,o,Z,r,E,false⟩]) (Z.app o.dst r E) (⟨i,E.use++E.kill,E.touch,Z.nx,E.cnt⟩::acc):=by
     refine g.snoc ⟨i,o,Z,r,E,false⟩ hl.symm ⟨ao,ah,λ_=>⟨ax,aq⟩,λh=>by cases h⟩ ht (λn=>by rw[hh]) ab ?_ (λt=> ?_) (λn=> ?_) (by rw[af,ab]) (λf hf=>by simp[hf]) (.inr (by simp)) ?_
     .intro f hf;rcases g.acc f hf with hs|ha
      .obtain⟨h1,h2⟩:=((g.ev f hf).1).skp hs;refine .inr ⟨?_,?_,?_,?_⟩<;>rw[h2]
       .intro n _;simp[B4.touch,L9]
       .intro n _;simp[B4.touch,L9]
       .intro n _;simp
       .intro n _ am
        have:=am.1
        have:=am.2
        simp only at this;omega
      .have h:=aj _ ha;unfold xL at h;rw[ZeV] at h;split at h
       .rename_i hx;simp only[Bc] at hx;obtain⟨h1,h2,h3⟩:=hx;have ai:=Qlq _ _ h1;exact .inr ⟨λn hn=>ai n (by simp only[B2] at hn⊢;exact .inl hn),λn hn=>ai n (OB _ hn),Qlq _ _ h2,Qtw _ h3⟩
       .exact .inl h
     .have:A9 (Z.app o.dst r E).tm t=if o.dst=some t then r else A9 Z.tm t:=Wi
      rw[this,ht]
     .have:(Z.app o.dst r E).h=E.new++Cb Z.h E.kill:=by cases o.dst<;>rfl
      rw[this,Qm2,Qm7,hh];simp only[B4.appf];cases hget E.new n<;>rfl
     .rw[af];exact vA r hb.1
    obtain⟨z,s',G,h1,h2,h3⟩:=ih (i+1) _ _ _ an (by simp[hl]) g' aw;exact⟨z,s',G,by omega,h2,h3⟩
   .cases h
  simp only[G4,WD] at Q;simp only[CR];cases hg:o.guard with
  |none=>
   rw[hg] at Q;simp only[XI,yO] at Q;exact ak s (λ_=>rfl) rfl rfl (by rw[hg];rfl) Q
  |some gw=>
   obtain⟨j,O⟩:=gw;rw[hg] at Q;simp only[XI,yO] at Q;cases ht:(ops[j]?).bind (·.dst) with
   |none=>rw[ht] at Q;exact Q.elim
   |some t=>
    rw[ht] at Q;simp only[Y8] at Q;cases hb:A9 s.tm t<;>rw[hb] at Q<;>try exact Q.elim
    rename_i d;have ac: ∀s2:A8,(∀t',A9 s2.tm t'=A9 s.tm t')->s2.h=s.h->s2.nx=s.nx->WE ops s true o.guard->WD P V cl (G4 ops rest) (i+1) K acc (s2.put o.dst (.im (.tup [])))->
     ∃z s' G,z.length=i+(rest.length+1)/\GT P ops cl s0 z s' G/\K s':=by
     intro s2 aa hh ab ah h2;have g':GT P ops cl s0 (evs++[⟨i,o,s,.im (.tup []),{},true⟩]) (s2.put o.dst (.im (.tup []))) acc:=by
      refine g.snoc ⟨i,o,s,.im (.tup []),{},true⟩ hl.symm ⟨ao,ah,(λh=>by cases h),(λ_=>⟨rfl,rfl⟩)⟩ (λ_=>rfl) (λ_=>rfl) rfl ?_ (λt'=> ?_) (λn=> ?_) ?_ (λf hf=>hf) (.inl rfl) ?_
      .intro f hf;refine .inr ⟨?_,?_,?_,?_⟩<;>simp[B4.touch,L9,AV.nms,JC]
      .rw[Wi,aa]
      .have:(s2.put o.dst (.im (.tup []))).h=s2.h:=by cases o.dst<;>rfl
       rw[this,hh];simp[B4.appf,hget]
      .have:(s2.put o.dst (.im (.tup []))).nx=s2.nx:=by cases o.dst<;>rfl
       rw[this,ab];rfl
      .intro m hm;simp[AV.nms] at hm
     obtain⟨z,s',G,h1,h2,h3⟩:=ih (i+1) _ _ _ an (by simp[hl]) g' h2;exact⟨z,s',G,by omega,h2,h3⟩
    cases d<;>try exact Q.elim
    case tup cs=>
     cases cs with
     |cons _ _=>exact Q.elim
     |nil=>
      simp only[Xx,N0] at Q;exact ac s (λ_=>rfl) rfl rfl (by rw[hg];exact⟨t,ht,.inr ⟨hb,rfl⟩⟩) Q
    case bool b=>
    simp only[Xx] at Q;have aa: ∀b':Bool,b=b'-> ∀t',A9 (s.put (some t) (.im (.bool b'))).tm t'=A9 s.tm t':=by
     intro b' au t';subst au;rw[Wi];split
     .rename_i h;cases h;exact hb.symm
     .rfl
    by_cases ad:b=O
    .refine ak (s.put (some t) (.im (.bool O))) (aa O ad) rfl rfl ?_ (Q.1 ad);rw[hg];exact⟨t,ht,.inl ⟨b,by rw[aa O ad,hb],by simp[ad]⟩⟩
    .have ag:b= !O:=by cases b<;>cases O<;>simp_all
     have h2:=Q.2 ag;simp only[N0] at h2;refine ac (s.put (some t) (.im (.bool (!O)))) (aa _ ag) rfl rfl ?_ h2;rw[hg];exact⟨t,ht,.inl ⟨b,hb,by simp[ag]⟩⟩
end
def ZF(ops:Array Oper)(cl:List (List Nat)):List Oper->Nat->List (Nat×Oper)->Bool
 |[],_,_=>true
 |o::r,j,acc=>(o.after.toList.all λe=> !IJ e.ground||Nat.blt e.on j) && (acc.all (λp=>Fc cl p.1 j||p.2.apart ops o) && ZF ops cl r (j+1) ((j,o)::acc))
def stOk(ops:Array Oper):Bool:=ZF ops (Fq ops.toList []) ops.toList 0 []
def Qup(e:Edge):Region.binds .any e=IJ e.ground:=by
 unfold Region.binds;cases e.ground<;>rfl
structure XK(ops:Array Oper)(cl:List (List Nat)):Prop where
 lo: ∀(j:Nat) (o:Oper),ops[j]? =some o-> ∀e∈o.after.toList,IJ e.ground=true->e.on<j
 ap: ∀(i j:Nat) (x y:Oper),i<j->ops[i]? =some x->ops[j]? =some y->Fc cl i j=true\/x.apart ops y=true
def Qh{ops:Array Oper}{cl:List (List Nat)}: ∀(rest:List Oper) (j:Nat) (acc:List (Nat×Oper)),ops.toList.drop j=rest->(∀i x,i<j->ops[i]? =some x->(i,x)∈acc)->ZF ops cl rest j acc=true->
 (∀(k:Nat) (o:Oper),j<=k->ops[k]? =some o-> ∀e∈o.after.toList,IJ e.ground=true->e.on<k)/\
 (∀(i k:Nat) (x y:Oper),j<=k->i<k->ops[i]? =some x->ops[k]? =some y->Fc cl i k=true\/x.apart ops y=true):=by
 intro rest;induction rest with
 |nil=>
  intro j acc hd _ _;have hs:ops.size<=j:=by
   have:=Cl List.length hd
   simp at this;omega
  refine⟨λk o hk ho=> ?_,λi k x y hk _ _ Z=> ?_⟩
  .have:=(RL.1 ho).1;omega
  .have:=(RL.1 Z).1;omega
 |cons o rest ih=>
  intro j acc hd z hs;have G:ops[j]? =some o:=by
   have:(ops.toList.drop j)[0]? =some o:=by rw[hd];rfl
   simpa using this
  have aa:ops.toList.drop (j+1)=rest:=by
   have:(ops.toList.drop j).drop 1=rest:=by rw[hd];rfl
   rwa [EC] at this
  simp only[ZF,Bc,Fk,Ic,LL,F5] at hs;obtain⟨h1,h2,h3⟩:=hs;obtain⟨r1,r2⟩:=ih (j+1) ((j,o)::acc) aa (by
   intro i x hi O;rcases FR i j with h|h
   .exact BW _ (z i x h O)
   .have:i=j:=by omega
    subst this;rw[G] at O;cases O;exact BS) h3
  refine⟨λk p hk hp=> ?_,λi k x y hk Q O Z=> ?_⟩
  .rcases FR j k with h|h
   .exact r1 k p h hp
   .have:k=j:=by omega
    subst this;rw[G] at hp;cases hp;intro e he hb;rcases h1 e he with h|h
    .rw[h] at hb;cases hb
    .exact h
  .rcases FR j k with h|h
   .exact r2 i k x y h Q O Z
   .have:k=j:=by omega
    subst this;rw[G] at Z;cases Z;exact h2 (i,x) (z i x Q O)
def Qi{ops:Array Oper}(h:stOk ops=true):XK ops (Fq ops.toList []):=by
 obtain⟨G,O⟩:=Qh (cl:=Fq ops.toList []) ops.toList 0 [] rfl (by intro i x hi;omega) h;exact⟨λj o Q=>G j o (BV _) Q,λi j x y z Z hy=>O i j x y (BV _) z Z hy⟩
def Uv(a b:List (List Nat)): ∀(k:Nat),k<a.length->Eb (a++b) k=Eb a k:=by
 induction a with
 |nil=>intro k z;simp at z
 |cons x a ih=>
  intro k z;cases k with
  |zero=>rfl
  |succ k=>exact ih k (by simpa using z)
def YY(a:List (List Nat))(x:List Nat)(b:List (List Nat)):Eb (a++x::b) a.length=x:=by
 induction a with
 |nil=>rfl
 |cons y a ih=>exact ih
def pQ: ∀(a:List (List Nat)) (k:Nat),a.length<=k->Eb a k=[]
 |[],_,_=>rfl
 |_::a,0,h=>by simp at h
 |_::a,k+1,h=>pQ a k (by simpa using h)
def Qnq: ∀(rest:List Oper) (acc:List (List Nat)) (k:Nat),k<acc.length->Eb (Fq rest acc) k=Eb acc k
 |[],_,_,_=>rfl
 |o::r,acc,k,h=>by
  simp only[Fq];rw[Qnq r _ k (by simp;omega),Uv _ _ _ h]
def Qy4: ∀(rest:List Oper) (acc:List (List Nat)) (k:Nat) (o:Oper),rest[k]? =some o-> ∃z:List (List Nat),z.length=acc.length+k/\(∀m,m<z.length->Eb z m=Eb (Fq rest acc) m)/\
 Eb (Fq rest acc) (acc.length+k)=Ht z o.after.toList
 |[],_,k,o,h=>by simp at h
 |x::r,acc,0,o,h=>by
  obtain rfl:x=o:=by simpa using h
  refine⟨acc,rfl,λm Z=>(Qnq _ _ m Z).symm,?_⟩;simp only[Fq,W5];rw[Qnq _ _ _ (by simp),YY]
 |x::r,acc,k+1,o,h=>by
  obtain⟨z,O,Q,G⟩:=Qy4 r (acc++[Ht acc x.after.toList]) k o (by simpa using h);simp only[Bz,CR,DQ] at O G;refine⟨z,by omega,Q,?_⟩;simp only[Fq];rw[<-G];congr 1;omega
def YD{x y:Nat}{l:List Nat}(h:y∈ins x l):y=x\/y∈l:=by
 unfold ins at h;cases hc:l.contains x<;>rw[hc] at h
 .simpa using h
 .exact .inr (by simpa using h)
def Qzy{y:Nat}: ∀(a l:List Nat),y∈TA a l->y∈a\/y∈l
 |[],_,h=> .inr h
 |x::r,l,h=>by
  rcases YD h with h|h
  .exact .inl (by simp[h])
  .rcases Qzy r l h with h|h
   .exact .inl (by simp[h])
   .exact .inr h
def Qsb{acc:List (List Nat)}{i:Nat}: ∀(es:List Edge),i∈Ht acc es-> ∃e∈es,IJ e.ground=true/\(i=e.on\/i∈Eb acc e.on)
 |[],h=>by simp[Ht] at h
 |e::r,h=>by
  simp only[Ht] at h;cases hb:IJ e.ground<;>rw[hb] at h
  .obtain⟨x,G,z⟩:=Qsb r h;exact⟨x,by simp[G],z⟩
  .simp only[C8] at h;have h:=Qzy _ _ h;simp only[Bw,or_assoc] at h;rcases h with h|h|h
   .exact⟨e,by simp,hb,.inl h⟩
   .exact⟨e,by simp,hb,.inr h⟩
   .obtain⟨x,G,z⟩:=Qsb r h;exact⟨x,by simp[G],z⟩
def Yj{ops:Array Oper}{i j:Nat}{o:Oper}(ho:ops[j]? =some o)(h:i∈Eb (Fq ops.toList []) j):
 ∃e∈o.after.toList,IJ e.ground=true/\(i=e.on\/(e.on<j/\i∈Eb (Fq ops.toList []) e.on)):=by
 obtain⟨G,Z,h2,Q⟩:=Qy4 ops.toList [] j o (by simpa using ho);simp only[DQ,FS] at Z Q;rw[Q] at h;obtain⟨e,he,hb,z⟩:=Qsb _ h;refine⟨e,he,hb,?_⟩;rcases z with z|z
 .exact .inl z
 .rcases FR e.on G.length with O|O
  .exact .inr ⟨by omega,by rw[<-h2 _ O];exact z⟩
  .rw[pQ _ _ O] at z;cases z
def Kq(ops:Array Oper)(D:Nat->Bool):Prop:= ∀(j:Nat) (o:Oper),D j=true->ops[j]? =some o-> ∀e∈o.after.toList,IJ e.ground=true->D e.on=true
def Qqg{ops:Array Oper}{D:Nat->Bool}(hc:Kq ops D){i j:Nat}{o:Oper}(Q:ops[j]? =some o)(Z: ∀e∈o.after.toList,IJ e.ground=true->D e.on=true)
 (h:Fc (Fq ops.toList []) i j=true):D i=true:=by
 have hi:i∈Eb (Fq ops.toList []) j:=by simpa[Fc] using h
 clear h;induction j using Nat.strongRecOn generalizing o with
 |_ j ih=>
  obtain⟨e,O,G,h|⟨h,h2⟩⟩:=Yj Q hi
  .rw[h];exact Z e O G
  .have aa:=(RL.1 Q).1;have z:ops[e.on]? =some ops[e.on]:=Ke (by omega);exact ih e.on h z (hc e.on _ (Z e O G) z) h2
structure lN(C:Ba)(N:Nat)(evs:List Ev)(s0:A8)(D:Nat->Bool)(S:Ay)(a:Act):Prop where
 wf:Wf C S
 h: ∀n,S.h n=HD D evs (hget s0.h) n
 tm: ∀t,Aa S (TD D evs (A9 s0.tm) t) (a.eval (.tmp t))
 size:a.tmps.size=N
 defers:a.defers=C.ds
 n0:C.n0<=s0.nx
 pre:C.Pre S
section
variable {P:Program}{ops:Array Oper}{s0 s:A8}{evs:List Ev}{acc:List Fp}{C:Ba}{N:Nat}
def Qzx{E:B4}{nx:Nat}{r:AV}(z:E.ok nx r=true):(∀m∈r.nms,m<nx+E.cnt)/\(∀n x,hget E.new n=some x->(Fr nx E.cnt n\/(n∈E.kill/\n<nx))/\ ∀m∈x.2.nms,m<nx+E.cnt):=by
 simp only[B4.ok,Bc] at z;obtain⟨O,Q,Z⟩:=z;exact⟨vA r O,λn x G=>⟨Qlm _ Z n x G,gB _ Q n x G⟩⟩
def Ya(g:GT P ops (Fq ops.toList []) s0 evs s acc)(bi: ∀n e,hget s0.h n=some e->n<s0.nx/\ ∀m∈e.2.nms,m<s0.nx)(a9: ∀t,∀m∈(A9 s0.tm t).nms,m<s0.nx)
 (st:XK ops (Fq ops.toList []))(hN:Kd N ops.toList=true){D:Nat->Bool}(hc:Kq ops D){e:Ev}(he:e∈evs)(hD:D e.i=false)
 (hr: ∀x∈e.o.after.toList,IJ x.ground=true->D x.on=true){S:Ay}{a:Act}(hA:lN C N evs s0 D S a){K:Act->World->Prop}{Q:Exit->Act->World->Prop}
 (hK: ∀a' S',lN C N evs s0 (λi=>D i||i==e.i) S' a'->K a' S'.w):wpOp P ops Q e.i K a S.w:=by
 have ag:=((g.ev e he).1).op;have bh: ∀k,Fc (Fq ops.toList []) k e.i=true->D k=true:=λk hk=>Qqg hc ag hr hk
 have az: ∀d,e.o.dst=some d->d<N:=by
  have: ∀(l:List Oper),Kd N l=true-> ∀o∈l,∀d,o.dst=some d->d<N:=by
   intro l;induction l with
   |nil=>intro _ o ho;cases ho
   |cons x l ih=>
    intro h o ho d hd;simp only[Kd,Bc] at h;rcases Bw.1 ho with rfl|ho
    .have:=h.1
     rw[hd] at this;simpa using this
    .exact ih h.2 o ho d hd
  exact this _ hN e.o (by
   have:=ZeY ag
   simpa using this)
 have aj: ∀f∈evs,D f.i≠Km e.i f.i->(f.i<e.i/\D f.i=false/\wA f e/\f.o.apart ops e.o=true)\/(e.i<f.i/\D f.i=true/\wA e f/\e.o.apart ops f.o=true):=by
  intro f hf G;have ak:=((g.ev f hf).1).op;rcases wM f.i e.i with h|h|h
  .have hl:Km e.i f.i=true:=by simpa[Km] using h
   have O:D f.i=false:=by
    cases hq:D f.i
    .rfl
    .rw[hq,hl] at G;exact absurd rfl G
   have ai:Fc (Fq ops.toList []) f.i e.i=false:=by
    cases hq:Fc (Fq ops.toList []) f.i e.i
    .rfl
    .have:=bh _ hq;rw[O] at this;cases this
   refine .inl ⟨h,O,?_,?_⟩
   .rcases g.pair f hf e he h with z|z
    .rw[ai] at z;cases z
    .exact z
   .rcases st.ap f.i e.i f.o e.o h ak ag with z|z
    .rw[ai] at z;cases z
    .exact z
  .have hl:Km e.i f.i=false:=by
    rw[h];rw[QL];intro h';have:=J9 h';omega
   rw[hl,h,hD] at G;exact absurd rfl G
  .have hl:Km e.i f.i=false:=by
    rw[QL];intro h';have:=J9 h';omega
   have O:D f.i=true:=by
    cases hq:D f.i
    .rw[hq,hl] at G;exact absurd rfl G
    .rfl
   have ai:Fc (Fq ops.toList []) e.i f.i=false:=by
    cases hq:Fc (Fq ops.toList []) e.i f.i
    .rfl
    .have:=Qqg hc ak (hc f.i f.o O ak) hq
     rw[hD] at this;cases this
   refine .inr ⟨h,O,?_,?_⟩
   .rcases g.pair e he f hf h with z|z
    .rw[ai] at z;cases z
    .exact z
   .rcases st.ap e.i f.i e.o f.o h ag ak with z|z
    .rw[ai] at z;cases z
    .exact z
 have ac: ∀f∈evs,D f.i=true->f.i<e.i\/(e.i<f.i/\wA e f/\e.o.apart ops f.o=true):=by
  intro f hf O;rcases FR f.i e.i with h|h
  .exact .inl h
  .have hl:Km e.i f.i=false:=by
    rw[QL];intro h';have:=J9 h';omega
   rcases aj f hf (by rw[O,hl];simp) with ⟨z,_⟩|⟨z,_,h2⟩
   .omega
   .exact .inr ⟨z,h2⟩
 have bb: ∀t,t∈e.o.looksAt ops->TD D evs (A9 s0.tm) t=A9 e.s.tm t:=by
  intro t ht;rw[g.atT e he t];refine mO evs _ _ rfl ?_;intro f hf G;rcases aj f hf G with ⟨_,_,_,h⟩|⟨_,_,_,h⟩
  .intro hd;exact (Oper.apart_spec h).1 t hd ht
  .intro hd;exact (Oper.apart_spec h).2.2 t hd ht
 have aa:evs=evs.take e.i++e::evs.drop (e.i+1):=by
  have hl:=g.lt e he;have hget:evs[e.i]? =some evs[e.i]:=BB hl;obtain⟨k,hk,a8⟩:=hC.1 he;have bg:=g.idx k e (by rw[BB hk,a8]);subst bg
  conv=>lhs;rw[<-XS e.i evs]
  rw[XP hl,a8]
 have an: ∀f∈evs.take e.i,f∈evs/\f.i<e.i:=by
  intro f hf;refine⟨ZdK hf,?_⟩;obtain⟨k,hk,au⟩:=hC.1 hf;have bl:k<e.i:=by simp at hk;omega
  have:=g.idx k f (by
   rw[<-au,List.getElem_take];exact BB _)
  omega
 have ab: ∀f∈evs.drop (e.i+1),f∈evs/\e.i<f.i:=by
  intro f hf;refine⟨Zfl hf,?_⟩;obtain⟨k,hk,au⟩:=hC.1 hf
  have:=g.idx (e.i+1+k) f (by
   rw[<-au,List.getElem_drop];exact BB _)
  omega
 let D':Nat->Bool:=λi=>D i||i==e.i
 have ay:D' e.i=true:=by simp[D']
 have af: ∀f∈evs,f.i≠e.i->D f.i=D' f.i:=by
  intro f _ G
  have:(f.i==e.i)=false:=by rw[Ih];exact G
  simp[D',this]
 have bd: ∀n,HD D' evs (hget s0.h) n=e.E.appf (HD D evs (hget s0.h)) n:=by
  intro n;have e1:HD D' evs (hget s0.h)=HD D' (evs.drop (e.i+1)) (e.E.appf (HD D' (evs.take e.i) (hget s0.h))):=by
   conv=>lhs;rw[aa]
   rw[vS];simp only[HD,ay,C8]
  have e2:HD D evs (hget s0.h)=HD D (evs.drop (e.i+1)) (HD D (evs.take e.i) (hget s0.h)):=by
   conv=>lhs;rw[aa]
   rw[vS];simp only[HD,hD,Cy]
  have e3:HD D' (evs.take e.i) (hget s0.h)=HD D (evs.take e.i) (hget s0.h):=by
   funext m;refine mK _ _ _ rfl ?_;intro f hf G
   have:=an f hf
   exact absurd (af f this.1 (by omega)).symm G
  rw[e1,e2,e3];by_cases hn:n∈e.E.touch
  .rw[XX hn (h':=HD D (evs.take e.i) (hget s0.h))];refine Qw6 _ _ n ?_;intro f hf O;have z:=ab f hf;rw[<-af f z.1 (by omega)] at O;rcases ac f z.1 O with h2|⟨_,h2,_⟩
   .omega
   .intro av;exact h2.b n av hn
  .rw[uD hn];refine mK _ _ _ (uD hn) ?_;intro f hf G
   have:=ab f hf
   exact absurd (af f this.1 (by omega)).symm G
 have be: ∀t,TD D' evs (A9 s0.tm) t=if e.o.dst=some t then e.r else TD D evs (A9 s0.tm) t:=by
  intro t;have e1:TD D' evs (A9 s0.tm)=TD D' (evs.drop (e.i+1)) (λt=>bif e.o.dst==some t then e.r else TD D' (evs.take e.i) (A9 s0.tm) t):=by
   conv=>lhs;rw[aa]
   rw[vU];simp only[TD,ay,ED]
  have e2:TD D evs (A9 s0.tm)=TD D (evs.drop (e.i+1)) (TD D (evs.take e.i) (A9 s0.tm)):=by
   conv=>lhs;rw[aa]
   rw[vU];simp only[TD,hD,FT,Cy]
  have e3:TD D' (evs.take e.i) (A9 s0.tm)=TD D (evs.take e.i) (A9 s0.tm):=by
   funext m;refine mO _ _ _ rfl ?_;intro f hf G
   have:=an f hf
   exact absurd (af f this.1 (by omega)).symm G
  rw[e1,e2,e3];by_cases hn:e.o.dst=some t
  .rw[Al hn];rw[Qyr]
   .simp[hn]
   .intro f hf O;have z:=ab f hf;rw[<-af f z.1 (by omega)] at O;rcases ac f z.1 O with h2|⟨_,_,h2⟩
    .omega
    .exact (Oper.apart_spec h2).2.1 t hn
  .rw[Ag hn];have hq:(e.o.dst==some t)=false:=by rw[Ih];exact hn
   refine mO _ _ _ (by simp[hq]) ?_;intro f hf G
   have:=ab f hf
   exact absurd (af f this.1 (by omega)).symm G
 have ba:s0.nx<=e.s.nx:=(g.ev e he).2.1;have ao: ∀f∈evs,D f.i=true->(∀m∈f.r.nms,¬Fr e.s.nx e.E.cnt m)/\(∀n x,hget f.E.new n=some x-> ¬Fr e.s.nx e.E.cnt n/\ ∀m∈x.2.nms,¬Fr e.s.nx e.E.cnt m):=by
  intro f hf O;rcases ac f hf O with h|⟨_,h,_⟩
  .have bm:=g.ord f hf e he h;obtain⟨aw,_⟩:=g.ev f hf;cases hs:f.skip
   .obtain⟨z,h2⟩:=Qzx (aw.doo hs).2;refine⟨λm hm Z=> ?_,λn x hx=>⟨λZ=> ?_,λm hm Z=> ?_⟩⟩
    .have:=z m hm;have:=Z.1;omega
    .have:=Z.1
     rcases (h2 n x hx).1 with h3|h3
     .have:=h3.2;omega
     .omega
    .have:=(h2 n x hx).2 m hm;have:=Z.1;omega
   .obtain⟨z,h2⟩:=aw.skp hs;rw[z,h2];exact⟨by simp[AV.nms],by simp[hget]⟩
  .refine⟨λm hm=>h.d m (by simp[hm]),λn x hx=>⟨h.d n ?_,λm hm=>h.d m ?_⟩⟩
   .have:=(Qtn _ hx).1
    simp[B4.touch,this]
   .have:=(Qtn _ hx).2 m hm
    simp[this]
 have a0: ∀t,∀m∈(TD D evs (A9 s0.tm) t).nms,¬Fr e.s.nx e.E.cnt m:=by
  intro t m hm;rcases RG (D:=D) (t:=t) evs (A9 s0.tm) with h|⟨f,hf,O,h⟩
  .rw[h] at hm;intro Z
   have:=a9 t m hm
   have:=Z.1
   omega
  .rw[h] at hm;exact (ao f hf O).1 m hm
 have am: ∀n x,HD D evs (hget s0.h) n=some x-> ¬Fr e.s.nx e.E.cnt n/\ ∀m∈x.2.nms,¬Fr e.s.nx e.E.cnt m:=by
  intro n x hx;rcases Kr evs (hget s0.h) hx with h|⟨f,hf,O,h⟩
  .obtain⟨z,h2⟩:=bi n x h;exact⟨λZ=>by have:=Z.1;omega,λm hm Z=>by have:=Z.1;have:=h2 m hm;omega⟩
  .exact (ao f hf O).2 n x h
 have ah: ∀v S',Wf C S'->S'.h=e.E.appf S.h->BA (λm=> ¬Fr e.s.nx e.E.cnt m) S S'->Aa S' e.r v->K (a.put e.o.dst v) S'.w:=by
  intro v S' hW hh hp hv;refine hK _ S' ⟨hW,λn=> ?_,λt=> ?_,?_,?_,hA.n0,Qy2 hA.pre (CW hA.n0 ba) hp⟩
  .rw[hh];exact (Qym (hA.h n)).trans (bd n).symm
  .have:=be t
   simp only[D'] at this;rw[this,zB (λd h=>by rw[hA.size];exact az d h)];split
   .exact hv
   .exact I5 hp _ _ (a0 t) (hA.tm t)
  .cases e.o.dst<;>simp[Act.put,hA.size]
  .cases e.o.dst<;>simp[Act.put,hA.defers]
 have aq:=(g.ev e he).1;have ax:Region.wanted e.o (yielded ops a.tmps)= !e.skip:=by
  have ad:=aq.gd;unfold Region.wanted;cases hg:e.o.guard with
  |none=>
   rw[hg] at ad;simp only[WE] at ad;simp[ad]
  |some gw=>
   obtain⟨q,bc⟩:=gw;rw[hg] at ad;obtain⟨t,ht,ad⟩:=ad;have bf:TD D evs (A9 s0.tm) t=A9 e.s.tm t:=bb t (by simp[Oper.looksAt,hg,ht]);have z:=hA.tm t;rw[bf] at z;rcases ad with ⟨b,hb,hs⟩|⟨hb,hs⟩
   .rw[hb] at z;simp only[Aa,rd,Act.eval] at z;have hy:yielded ops a.tmps q=some b:=by
     unfold yielded;rw[ht];simp only[G8];rw[Ib] at z;cases hq:a.tmps[t]? with
     |none=>rw[hq] at z;simp[undef] at z
     |some v=>rw[hq] at z;simp at z;rw[z]
    simp only[hy,hs];cases b<;>cases bc<;>rfl
   .rw[hb] at z;simp only[Aa,rd,rdl,Act.eval] at z;obtain⟨vs,z,_⟩:=z;have hy:yielded ops a.tmps q=none:=by
     unfold yielded;rw[ht];simp only[G8];rw[Ib] at z;cases hq:a.tmps[t]? with
     |none=>rfl
     |some v=>rw[hq] at z;simp at z;rw[z]
    simp only[hy,hs];rfl
 unfold wpOp;simp only[ag,ax];cases hs:e.skip
 .simp only[XT,Bb];refine .inl ?_;obtain⟨bj,aw⟩:=aq.doo hs;refine bj C S a K Q hA.wf ?_ ?_ ?_ ?_ ah
  .intro n hn;rw[hA.h n,g.atH e he n];refine mK evs _ _ rfl ?_;intro f hf G;rcases aj f hf G with ⟨_,_,h,_⟩|⟨_,_,h,_⟩
   .exact h.a n hn
   .intro av;exact h.c n av hn
  .intro n Z;cases hn:S.h n with
   |none=>rfl
   |some x=>
    rw[hA.h n] at hn;exact absurd Z (am n x hn).1
  .intro n x hx m hm;rw[hA.h n] at hx;exact (am n x hx).2 m hm
  .intro x hx;cases x with
   |tmp t=>
    simp only[Aw];rw[<-bb t (by
     simp only[Oper.looksAt,B2,List.mem_filterMap];exact .inl ⟨.tmp t,by simpa using hx,rfl⟩)]
    exact hA.tm t
   |const v=>exact eI S v
   |global g=>simp only[Aw,Aa,rd,Act.eval]
   |func f=>exact pA _ _ f
 .simp only[nV,Dp,CN];obtain⟨z,h2⟩:=aq.skp hs;refine ah undef S hA.wf ?_ (BA.refl _ _) ?_
  .rw[h2];funext n;simp[B4.appf,hget]
  .rw[z];simp only[Aa,rd,rdl];exact⟨#[],rfl,rfl⟩
abbrev dn(listed:Array Bool):Nat->Bool:=λi=>listed.getD i false
def yX(listed:Array Bool):Nat:=listed.toList.countP (λb=> !b)
def iY{listed:Array Bool}{j:Nat}(z:j<listed.size):dn (listed.setIfInBounds j true)=λi=>dn listed i||i==j:=by
 funext i;simp only[dn];by_cases h:j=i
 .subst h;simp[z]
 .rw[getD_set_ne false h]
  have:(i==j)=false:=by rw[Ih];exact λh'=>h h'.symm
  simp[this]
def NC{listed:Array Bool}{j:Nat}(G:j<listed.size)(O:listed.getD j true=false):yX (listed.setIfInBounds j true)+1=yX listed:=by
 unfold yX;rw[ZdJ];have z:j<listed.toList.length:=by simpa using G
 have Z:listed.toList[j]=false:=by
  rw[Ib,Ke G] at O;simpa using O
 have Q:0<listed.toList.countP (λb=> !b):=by
  rw[List.countP_pos_iff];exact⟨false,by rw[<-Z];exact RS _,rfl⟩
 rw[List.countP_set z,Z];simp only[XT,Bb,nV,Dp,CN];omega
def Qabb{listed:Array Bool}(hs:listed.size=ops.size)(st:XK ops (Fq ops.toList []))(Z:Region.ready .any ops listed=[]): ∀i,i<ops.size->dn listed i=true:=by
 intro i;induction i using Nat.strongRecOn with
 |_ i ih=>
  intro Q;cases hq:dn listed i with
  |true=>rfl
  |false=>
   exfalso
   have:i∈Region.ready .any ops listed:=by
    rw[mem_ready];have z:ops[i]? =some ops[i]:=Ke Q;refine⟨?_,ops[i],z,?_⟩
    .simp only[dn] at hq;rw[Ib,Ke (by omega)] at hq⊢;simpa using hq
    .intro e O G;rw[Qup] at G
     have:=st.lo i _ z e (by simpa using O) G
     exact ih e.on this (by omega)
   rw[Z] at this;cases this
def iN(g:GT P ops (Fq ops.toList []) s0 evs s acc)(au:evs.length=ops.size)(an: ∀n e,hget s0.h n=some e->n<s0.nx/\ ∀m∈e.2.nms,m<s0.nx)(ai: ∀t,∀m∈(A9 s0.tm t).nms,m<s0.nx)
 (st:XK ops (Fq ops.toList []))(hN:Kd N ops.toList=true){Q:Exit->Act->World->Prop}(hQ: ∀a S,lN C N evs s0 OF S a->Q .normal a S.w):
 ∀(fuel:Nat) (listed:Array Bool) (S:Ay) (a:Act),yX listed<=fuel->listed.size=ops.size->Kq ops (dn listed)->lN C N evs s0 (dn listed) S a->wpAny P .any ops Q fuel listed a S.w:=by
 have aa: ∀(listed:Array Bool) (S:Ay) (a:Act),listed.size=ops.size->(∀i,i<ops.size->dn listed i=true)->lN C N evs s0 (dn listed) S a->Q .normal a S.w:=by
  intro listed S a hs z O;refine hQ a S ⟨O.wf,λn=> ?_,λt=> ?_,O.size,O.defers,O.n0,O.pre⟩
  .rw[O.h n];refine mK evs _ _ rfl ?_;intro f hf ad;exact absurd (z f.i (by have:=g.lt f hf;omega)) ad
  .have:TD OF evs (A9 s0.tm) t=TD (dn listed) evs (A9 s0.tm) t:=by
    refine mO evs _ _ rfl ?_;intro f hf ad;exact absurd (z f.i (by have:=g.lt f hf;omega)).symm ad
   rw[this];exact O.tm t
 intro fuel;induction fuel with
 |zero=>
  intro listed S a hu hs ac O;have z: ∀i,i<ops.size->dn listed i=true:=by
   intro i hi;cases hq:dn listed i with
   |true=>rfl
   |false=>
    have:= @NC listed i (by omega) (by
     simp only[dn] at hq;rw[Ib,Ke (by omega)] at hq⊢;simpa using hq)
    omega
  refine⟨?_,aa listed S a hs z O⟩;rw[List.eq_nil_iff_forall_not_mem];intro j hj;obtain⟨h0,o,ho,_⟩:=mem_ready.1 hj;have am:=(RL.1 ho).1
  have:=z j am
  simp only[dn] at this;rw[Ib,Ke (by omega)] at this h0;simp at this h0;rw[h0] at this;cases this
 |succ fuel ih=>
  intro listed S a hu hs ac O;refine⟨λhr=>aa listed S a hs (Qabb hs st hr) O,λj hj=> ?_⟩;obtain⟨h0,o,ho,z⟩:=mem_ready.1 hj;have av:=(RL.1 ho).1;have ah:j<evs.length:=by omega
  have G:=g.idx j evs[j] (BB ah);have ab:evs[j]∈evs:=RS ah;have aj:=((g.ev _ ab).1).op;rw[G,ho] at aj;have ak:dn listed j=false:=by
   simp only[dn];rw[Ib,Ke (by omega)] at h0⊢;simpa using h0
  have Z: ∀e∈o.after.toList,IJ e.ground=true->dn listed e.on=true:=λe he hb=>z e (by simpa using he) (by rw[Qup];exact hb)
  have ao:evs[j].o=o:=(AC aj).symm;have aq:=Ya g an ai st hN ac ab (by rw[G];exact ak) (by rw[ao];exact Z) O (Q:=Q) (K:=wpAny P .any ops Q fuel (listed.setIfInBounds j true)) ?_
  .rwa [G] at aq
  .intro a' S' af;rw[G] at af;have ag:=iY (listed:=listed) (j:=j) (by omega);refine ih (listed.setIfInBounds j true) S' a' ?_ (by simpa using hs) ?_ (by rw[ag];exact af)
   .have:= @NC listed j (by omega) h0
    omega
   .rw[ag];intro k p hk hp e he hb;simp only[Ic,QO] at hk⊢;rcases hk with hk|rfl
    .exact .inl (ac k p hk hp e he hb)
    .rw[ho] at hp;cases hp;exact .inl (Z e he hb)
end
def Qog{P:Program}{V:D4}(HV:HB P V){C:Ba}{N:Nat}{ops:Array Oper}{K:A8->Prop}{Q:Exit->Act->World->Prop}(hQ: ∀s a w,K s->BR C N s a w->Q .normal a w)
 (hd:Kd N ops.toList=true)(ad:stOk ops=true){s:A8}{a:Act}{w:World}(hk:WD P V (Fq ops.toList []) (G4 ops ops.toList) 0 K [] s)(z:BR C N s a w):wpAny P .any ops Q ops.size (Array.replicate ops.size false) a {w with drawn:=w.drawn+1}:=by
 obtain⟨S,rfl,z⟩:=z;obtain⟨evs,s',acc,Z,g,hK⟩:=Qr HV ops.toList 0 [] s [] rfl rfl (GT.nil z.nmT) hk;have hW:=z.wf
 let S1:Ay:={S with w:={S.w with drawn:=S.w.drawn+1}}
 have hp:BA (λ_=>True) S S1:=⟨λb hb=>⟨hb,rfl⟩,λo _ e' ac=>⟨e',ac,rfl,rfl,rfl⟩⟩;have hA:lN C N evs s (dn (Array.replicate ops.size false)) S1 a:=by
  have aa: ∀i,dn (Array.replicate ops.size false) i=false:=by
   intro i;simp only[dn,Ib,iE]
   split<;>rfl
  refine⟨⟨hW.os,hW.tape,hW.output,CW hW.dr (oB _),hW.size,hW.keep,hW.ok0,hW.ok1,hW.oks,?_,hW.loc,hW.inj,hW.gl⟩,λn=> ?_,λt=> ?_,z.size,z.defers,z.n0,z.pre⟩
  .intro o e O;exact H9 hp (λ_ _=>rfl) _ (λ_ _=>trivial) (hW.obj o e O)
  .rw[Qw6]
   .exact z.h n
   .intro e _ h;rw[aa] at h;cases h
  .rw[Qyr]
   .exact I5 hp _ _ (λ_ _=>trivial) (z.tm t)
   .intro e _ h;rw[aa] at h;cases h
 have af:=iN (C:=C) (N:=N) (Q:=Q) g (by simpa using Z) z.nmH z.nmT (Qi ad) hd ?_ ops.size (Array.replicate ops.size false) S1 a (by unfold yX;exact CW List.countP_le_length (by simp)) (by simp) ?_ hA
 .exact af
 .intro a' S' G;refine hQ s' a' S'.w hK ⟨S',rfl,G.wf,λn=> ?_,λt=> ?_,g.nmT,?_,G.size,G.defers,CW z.n0 g.nx,G.pre⟩
  .rw[G.h n,g.h n]
  .rw[g.tm t];exact G.tm t
  .intro n e O;rw[g.h n] at O;rcases Kr evs _ O with h|⟨f,hf,_,h⟩
   .obtain⟨h1,h2⟩:=z.nmH n e h
    have:=g.nx
    exact⟨by omega,λm hm=>by have:=h2 m hm;omega⟩
   .obtain⟨ab,h2,h3⟩:=g.ev f hf;cases hs:f.skip
    .obtain⟨_,h5⟩:=Qzx (ab.doo hs).2;obtain⟨h6,h7⟩:=h5 n e h;refine⟨?_,λm hm=>by have:=h7 m hm;omega⟩;rcases h6 with h6|h6
     .have:=h6.2;omega
     .omega
    .rw[(ab.skp hs).2] at h;simp[hget] at h
 .intro j o hj _ e O hb
  have:dn (Array.replicate ops.size false) j=false:=by
   simp only[dn,Ib,iE]
   split<;>rfl
  rw[this] at hj;cases hj
def Qtk{P:Program}(G:P.follows .mixedOrders=true){V:D4}(O:HB P V){C:Ba}{N id:Nat}{ops:Array Oper}{K:A8->Prop}{Q:Exit->Act->World->Prop}(Z: ∀s a w,K s->BR C N s a w->Q .normal a w)
 (hd:Kd N ops.toList=true)(z:stOk ops=true){s:A8}{a:Act}{w:World}(hk:WD P V (Fq ops.toList []) (G4 ops ops.toList) 0 K [] s)(hc:BR C N s a w):(Code.region id ops true).wp P Q a w:=
 wp_region_any G (Qog O Z hd z hk hc)
def E0(N:Nat):Code->Bool
 | .skip=>true
 | .region _ ops z=>Kd N ops.toList && (!z||stOk ops)
 | .seq a b=>E0 N a && E0 N b
 | .cond _ a b=>E0 N a && E0 N b
 | .block _ c=>E0 N c
 | .loop c=>E0 N c
 | .exit _=>true
 | .ret=>true
 |_=>false
def Gv(C:Ba)(N:Nat)(Q:C4):Exit->Act->World->Prop
 | .normal,a,w=> ∃s,Q .normal s/\BR C N s a w
 | .exit i,a,w=> ∃s,Q (.exit i) s/\BR C N s a w
 | .ret,a,w=> ∃s,Q .ret s/\BR C N s a w
 |_,_,_=>False
def Qv7{s:A8}: ∀(tm:List (Nat×AV)),GM s tm-> ∀t,A9 tm t= .any\/A9 tm t=A9 s.tm t
 |[],_,t=> .inl rfl
 |(q,x)::tm,h,t=>by
  simp only[GM] at h;simp only[A9];cases hq:q==t
  .simpa using Qv7 tm h.2 t
  .have:q=t:=by simpa using hq
   subst this;exact .inr (by simpa using h.1.symm)
def Qtu{s:A8}: ∀(hs:Ar),CQ s hs-> ∀n e,hget hs n=some e->hget s.h n=some e
 |[],_,n,e,h=>by simp[hget] at h
 |(q,x)::hs,h,n,e,z=>by
  simp only[CQ] at h;simp only[hget] at z;cases hq:q==n<;>rw[hq] at z
  .exact Qtu hs h.2 n e (by simpa using z)
  .have:q=n:=by simpa using hq
   subst this;simp only[C8,AO] at z;subst z;exact h.1
def tL{n:Nat}: ∀(tm:List (Nat×AV)),Df n tm=true-> ∀t,∀m∈(A9 tm t).nms,m<n
 |[],_,t,m,z=>by simp[A9,AV.nms] at z
 |(q,x)::tm,h,t,m,z=>by
  simp only[Df,Bc] at h;simp only[A9] at z;cases hq:q==t<;>rw[hq] at z
  .exact tL tm h.2 t m (by simpa using z)
  .exact vA x h.1 m (by simpa using z)
def tG{n:Nat}: ∀(hs:Ar),Cg n hs=true-> ∀m e,hget hs m=some e->m<n
 |[],_,m,e,h=>by simp[hget] at h
 |(q,x)::hs,h,m,e,z=>by
  simp only[Cg,Bc,F5] at h;simp only[hget] at z;cases hq:q==m<;>rw[hq] at z
  .exact tG hs h.2 m e (by simpa using z)
  .have:q=m:=by simpa using hq
   omega
def mY{C:Ba}{N:Nat}{s s':A8}{a:Act}{w:World}(Q:BR C N s a w)(hs:sub s s')(hg:s'.good=true)(ag:C.n0<=s'.nx):BR C N s' a w:=by
 obtain⟨S,rfl,Q⟩:=Q;obtain⟨hT,hH⟩:=hs;simp only[A8.good,Bc] at hg;obtain⟨ab,ac,ad⟩:=hg;have z: ∀n e,hget s'.h n=some e->S.h n=some e:=λn e O=>(Q.h n).trans (Qtu _ hH n e O)
 have hp:BA (λ_=>True) S {S with h:=hget s'.h}:=⟨λb Z=>⟨Z,rfl⟩,λo _ e' G=>⟨e',z o e' G,rfl,rfl,rfl⟩⟩;have hW:=Q.wf;refine⟨{S with h:=hget s'.h},rfl,⟨hW.os,hW.tape,hW.output,hW.dr,hW.size,hW.keep,hW.ok0,hW.ok1,hW.oks,?_,?_,?_,hW.gl⟩,λn=>rfl,?_,tL _ ab,?_,Q.size,Q.defers,ag,?_⟩
 .intro o e O;exact H9 hp (λ_ _=>rfl) _ (λ_ _=>trivial) (hW.obj o e (z o e O))
 .intro o e l O hl;exact hW.loc o e l (z o e O) hl
 .intro o o' e e' l l' O G hl af Z aa;exact hW.inj o o' e e' l l' (z o e O) (z o' e' G) hl af Z aa
 .intro t;rcases Qv7 _ hT t with h|h
  .rw[h];simp only[Aa]
  .rw[h];exact I5 hp _ _ (λ_ _=>trivial) (Q.tm t)
 .intro n e O;exact⟨tG _ ad n e O,gB _ ac n e O⟩
 .intro o ho e' G;exact Q.pre o ho e' (z o e' G)
def cZ{lo:Nat}: ∀(π:List (Nat×Option Nat)),W7 lo π-> ∀n,n<lo->pm π n=some n
 |[],_,n,_=>rfl
 |(a,b)::r,h,n,hn=>by
  simp only[W7] at h;simp only[pm];rw[Ag (by omega)];exact cZ r h.2 n hn
section
variable {S S':Ay}{π:List (Nat×Option Nat)}
mutual
def Qyf(ab:S'.ok=S.ok)(aa:S'.hp=S.hp)(hρ: ∀n m,pm π n=some m->S'.ρ n=S.ρ m)(hρ0: ∀n,pm π n=none->S'.ρ n=none)
 (hh: ∀n m,pm π n=some m-> ∀e',S'.h n=some e'-> ∃e,S.h m=some e/\e.2.esz=e'.2.esz/\e.2.len=e'.2.len): ∀(x' x:AV) (v:Value),mt π x' x->Aa S x v->Aa S' x' v
 | .any,_,_,_,_=>by simp only[Aa]
 | .im d,x,v,h,z=>by
   simp only[mt] at h;subst h;simp only[Aa,ab,aa] at z⊢;exact z
 | .own n,x,v,h,z=>by
   simp only[mt] at h;cases hp:pm π n with
   |some m=>
    rw[hp] at h;simp only[H2] at h;subst h;simp only[Aa] at z⊢;refine⟨z.1,λe' G=> ?_⟩;obtain⟨e,O,Q,Z⟩:=hh n m hp e' G;rw[hρ n m hp,<-Z];exact z.2 e O
   |none=>
    rw[hp] at h;simp only[H2] at h;unfold jR at h;split at h
    .simp only[Aa,rd] at z;have hv:v= .slice none 0 0:=by
      rcases z with z|⟨_,_,_,_,_,_,_,Q,_⟩
      .exact Qr7 z.1
      .exact absurd rfl (Q trivial)
     subst hv;simp only[Aa];refine⟨rfl,λe' G=> ?_⟩;rw[hρ0 n hp];trivial
    .exact h.elim
 | .ptr n p,x,v,h,z=>by
   simp only[mt] at h;cases hp:pm π n with
   |none=>rw[hp] at h;exact h.elim
   |some m=>
    rw[hp] at h;simp only[Hl] at h;subst h;simp only[Aa] at z⊢;refine⟨z.1,λe' G=> ?_⟩;obtain⟨e,O,Q,Z⟩:=hh n m hp e' G;rw[hρ n m hp];exact z.2 e O
 | .eptr n i p,x,v,h,z=>by
   simp only[mt] at h;cases hp:pm π n with
   |none=>rw[hp] at h;exact h.elim
   |some m=>
    rw[hp] at h;simp only[Hl] at h;subst h;simp only[Aa] at z⊢;refine⟨z.1,λe' G=> ?_⟩;obtain⟨e,O,Q,Z⟩:=hh n m hp e' G;rw[hρ n m hp,<-Q];exact z.2 e O
 | .mp n,x,v,h,z=>by
   simp only[mt] at h;cases hp:pm π n with
   |none=>rw[hp] at h;exact h.elim
   |some m=>
    rw[hp] at h;simp only[Hl] at h;subst h;simp only[Aa] at z⊢;refine⟨z.1,λe' G=> ?_⟩;obtain⟨e,O,Q,Z⟩:=hh n m hp e' G;rw[hρ n m hp];exact z.2 e O
 | .ch n,x,v,h,z=>by
   simp only[mt] at h;cases hp:pm π n with
   |none=>rw[hp] at h;exact h.elim
   |some m=>
    rw[hp] at h;simp only[Hl] at h;subst h;simp only[Aa] at z⊢;refine⟨z.1,λe' G=> ?_⟩;obtain⟨e,O,Q,Z⟩:=hh n m hp e' G;rw[hρ n m hp];exact z.2 e O
 | .it n,x,v,h,z=>by
   simp only[mt] at h;cases hp:pm π n with
   |none=>rw[hp] at h;exact h.elim
   |some m=>
    rw[hp] at h;simp only[Hl] at h;subst h;simp only[Aa] at z⊢;refine⟨z.1,λe' G=> ?_⟩;obtain⟨e,O,Q,Z⟩:=hh n m hp e' G;rw[hρ n m hp];exact z.2 e O
 | .osl n a k,x,v,h,z=>by
   simp only[mt] at h;cases hp:pm π n with
   |none=>rw[hp] at h;exact h.elim
   |some m=>
    rw[hp] at h;simp only[Hl] at h;subst h;simp only[Aa] at z⊢;refine⟨z.1,λe' G=> ?_⟩;obtain⟨e,O,Q,Z⟩:=hh n m hp e' G;rw[hρ n m hp,<-Q,<-Z];exact z.2 e O
 | .agg cs,x,v,h,z=>by
   have ac: ∀ds,Es π cs ds->Aa S (.agg ds) v->Aa S' (.agg cs) v:=by
    intro ds h z;simp only[Aa] at z⊢;obtain⟨vs,rfl,O⟩:=z;exact⟨vs,rfl,Qts ab aa hρ hρ0 hh cs ds _ h O⟩
   cases x<;>try (simp only[mt] at h;done)
   case agg ds=>
    simp only[mt] at h;exact ac ds h z
   case im d=>
    cases d<;>try (simp only[mt] at h;done)
    rename_i ds;simp only[mt] at h;refine ac _ h ?_;simp only[Aa,rd] at z⊢;obtain⟨vs,rfl,O⟩:=z;exact⟨vs,rfl,(IQ _ _).2 O⟩
 | .tup cs,x,v,h,z=>by simp only[mt] at h
 | .clo f a c,x,v,h,z=>by simp only[mt] at h
def Qts(G:S'.ok=S.ok)(z:S'.hp=S.hp)(hρ: ∀n m,pm π n=some m->S'.ρ n=S.ρ m)(hρ0: ∀n,pm π n=none->S'.ρ n=none)
 (Z: ∀n m,pm π n=some m-> ∀e',S'.h n=some e'-> ∃e,S.h m=some e/\e.2.esz=e'.2.esz/\e.2.len=e'.2.len): ∀(O xs:List AV) (vs:List Value),Es π O xs->AR S xs vs->AR S' O vs
 |[],[],vs,h,Q=>by simpa only[AR] using Q
 |x::r,y::s,vs,h,Q=>by
  simp only[Es] at h;simp only[AR] at Q⊢;obtain⟨v,w,rfl,h1,h2⟩:=Q;exact⟨v,w,rfl,Qyf G z hρ hρ0 Z x y v h.1 h1,Qts G z hρ hρ0 Z r s w h.2 h2⟩
 |[],_::_,vs,h,_=>by simp only[Es] at h
 |_::_,[],vs,h,_=>by simp only[Es] at h
end
end
def Qya{π:List (Nat×Option Nat)}: ∀{a b:List (List AV)},GZ π a b->b.length=a.length
 |[],[],_=>rfl
 |_::_,_::_,h=>by simp[Qya h.2]
 |[],_::_,h=>h.elim
 |_::_,[],h=>h.elim
def ML{π:List (Nat×Option Nat)}: ∀{a b:List AV},Es π a b->b.length=a.length
 |[],[],_=>rfl
 |_::_,_::_,h=>by simp only[Es] at h;simp[ML h.2]
 |[],_::_,h=>by simp only[Es] at h
 |_::_,[],h=>by simp only[Es] at h
def Qxn{π:List (Nat×Option Nat)}{e' e:Ah}(h:Er π e' e):e.esz=e'.esz/\e.len=e'.len/\e.isView=e'.isView:=by
 cases e'<;>cases e<;>simp only[Er,reduceCtorEq,Ah.arr.injEq,Ah.map.injEq,Ah.chan.injEq,Ah.iter.injEq,Ah.view.injEq] at h
 all_goals first
  |exact⟨rfl,rfl,rfl⟩
  |(obtain⟨rfl,rfl,rfl⟩:=h;exact⟨rfl,rfl,rfl⟩)
  |(obtain⟨rfl,rfl,rfl⟩:=h;exact⟨rfl,by simp[Ah.len,Bm],rfl⟩)
  |(obtain⟨rfl,rfl,h⟩:=h;exact⟨rfl,by simpa[Ah.len,Bm] using Qya h,rfl⟩)
  |(obtain⟨rfl,rfl⟩:=h;exact⟨rfl,rfl,rfl⟩)
def YU{S S':Ay}{π:List (Nat×Option Nat)}(ac:S'.ok=S.ok)(G:S'.hp=S.hp)(hρ: ∀n m,pm π n=some m->S'.ρ n=S.ρ m)(hρ0: ∀n,pm π n=none->S'.ρ n=none)
 (hh: ∀n m,pm π n=some m-> ∀e',S'.h n=some e'-> ∃e,S.h m=some e/\e.2.esz=e'.2.esz/\e.2.len=e'.2.len){l:Option FX}{e' e:Ah}(h:Er π e' e)(O:Ap S l e):Ap S' l e':=by
 have hp:BA (λ_=>False) S S':=⟨λb hb=>⟨by rw[ac];exact hb,by rw[G]⟩,λo h=>h.elim⟩;cases e' with
 |cells T cs=>
  cases e<;>simp only[Er] at h;obtain⟨rfl,h⟩:=h;simp only[Ap] at O⊢;obtain⟨Z,vs,h1,Q,h3,h4⟩:=O;exact⟨Z,vs,h1,Q,by rw[G];exact h3,Qts ac G hρ hρ0 hh _ _ _ h h4⟩
 |arrA T k rows=>
  have hR: ∀(aa rs:List (List AV)) (vs:List Value),GZ π aa rs->BG S k rs vs->BG S' k aa vs:=by
   intro aa;induction aa with
   |nil=>intro rs vs _ _;simp only[BG]
   |cons x r ih=>
    intro rs vs h hc;cases rs with
    |nil=>exact h.elim
    |cons y s=>
     simp only[BG] at hc⊢;have hP: ∀(xs ys:List AV) (vs:List Value),Es π xs ys->CA S ys vs->CA S' xs vs:=by
      intro xs;induction xs with
      |nil=>intro ys vs _ _;simp only[CA]
      |cons a l af=>
       intro ys vs h hc;cases ys with
       |nil=>simp only[Es] at h
       |cons b t=>
        simp only[Es] at h;simp only[CA] at hc⊢;obtain⟨v,w,rfl,h1,Q⟩:=hc;exact⟨v,w,rfl,Qyf ac G hρ hρ0 hh a b v h.1 h1,af t w h.2 Q⟩
     exact⟨by rw[<-hc.1];exact (ML h.1).symm,hP _ _ _ h.1 hc.2.1,ih s _ h.2 hc.2.2⟩
  have ab: ∀(z:List (List AV)),GZ π rows z->Ap S l (.arrA T k z)->Ap S' l (.arrA T k rows):=by
   intro z h O;simp only[Ap] at O⊢;rw[<-Qya h];refine⟨O.1,?_⟩;cases l with
   |none=>
    have Q:=O.2;simp only at Q;subst Q;cases rows with
    |nil=>rfl
    |cons x r=>exact h.elim
   |some Z=>
    obtain⟨h0,h1,vs,Q,h3,h4⟩:=O;exact⟨h1,vs,by rw[G];exact Q,h3,hR _ _ _ h h4⟩
  cases e<;>simp only[Er] at h
  case arrA U k' z=>
   obtain⟨rfl,rfl,h⟩:=h;exact ab z h O
  case arr U k' z=>
   obtain⟨rfl,rfl,h⟩:=h;refine ab (Bm z) h ?_;simp only[Ap] at O⊢;rw[show (Bm z).length=z.length by simp[Bm]];refine⟨O.1,?_⟩;cases l with
   |none=>have Q:=O.2;simp only at Q;subst Q;rfl
   |some Z=>
    obtain⟨h0,h1,vs,Q,h3,h4⟩:=O;exact⟨h1,vs,Q,h3,mG _ _ h4⟩
 |arr T k rows=>
  cases e<;>simp only[Er] at h
  case arr U k' z=>
   rw[h] at O;exact H9 hp (λZ _=>by rw[G]) _ (by simp[Ah.nms]) O
  case arrA U k' z=>
   obtain⟨rfl,rfl,rfl⟩:=h;have ad:Ap S l (.arr T k rows):=by
    simp only[Ap] at O⊢;rw[show (Bm rows).length=rows.length by simp[Bm]] at O;refine⟨O.1,?_⟩;cases l with
    |none=>
     have Q:=O.2;simp only[Bm,ZdT] at Q;exact Q
    |some Z=>
     obtain⟨h0,h1,vs,Q,h3,h4⟩:=O;exact⟨h1,vs,Q,h3,M5 _ _ h4⟩
   exact H9 hp (λZ _=>by rw[G]) _ (by simp[Ah.nms]) ad
 |map kt es=>
  simp only[Er] at h;subst h;exact H9 hp (λZ _=>by rw[G]) _ (by simp[Ah.nms]) O
 |chan q c=>
  simp only[Er] at h;subst h;exact H9 hp (λZ _=>by rw[G]) _ (by simp[Ah.nms]) O
 |iter q0 q=>
  simp only[Er] at h;subst h;exact H9 hp (λZ _=>by rw[G]) _ (by simp[Ah.nms]) O
 |view q=>
  simp only[Er] at h;subst h;exact H9 hp (λZ _=>by rw[G]) _ (by simp[Ah.nms]) O
def oW{π:List (Nat×Option Nat)}: ∀(H:Ar),Fy (Pk π H)=true-> ∀n n' e e' m,hget H n=some e->hget H n'=some e'->pm π n=some m->pm π n'=some m->n=n'
 |[],_,n,n',e,e',m,h,_,_,_=>by simp[hget] at h
 |(q,x)::H,hn,n,n',e,e',m,h,h',hp,hp'=>by
  have Q: ∀n e,hget H n=some e-> ∀m,pm π n=some m->some m∈Pk π H:=by
   intro n e;clear hn h h' hp hp';induction H with
   |nil=>intro h;simp[hget] at h
   |cons y H ih=>
    obtain⟨q',z⟩:=y;intro h m hm;simp only[hget] at h;simp only[Pk,Bw];cases hq:q'==n<;>rw[hq] at h
    .exact .inr (ih (by simpa using h) m hm)
    .have:q'=n:=by simpa using hq
     subst this;exact .inl hm.symm
  have Z:Fy (Pk π H)=true:=by
   simp only[Pk] at hn;cases hq:pm π q<;>rw[hq] at hn<;>simp only[Fy,Bc] at hn
   .exact hn
   .exact hn.2
  simp only[hget] at h h';by_cases O:q=n<;>by_cases G:q=n'
  .rw[<-O,<-G]
  .subst O
   have:(q==n')=false:=by simpa using G
   rw[this] at h';have hm:=Q n' e' (by simpa using h') m hp';simp only[Pk,hp,Fy,Bc,LL] at hn
   have:=hn.1
   rw[Jl.2 hm] at this;cases this
  .subst G
   have:(q==n)=false:=by simpa using O
   rw[this] at h;have hm:=Q n e (by simpa using h) m hp;simp only[Pk,hp',Fy,Bc,LL] at hn
   have:=hn.1
   rw[Jl.2 hm] at this;cases this
  .have h1:(q==n)=false:=by simpa using O
   have h2:(q==n')=false:=by simpa using G
   rw[h1] at h;rw[h2] at h';exact oW H Z n n' e e' m (by simpa using h) (by simpa using h') hp hp'
def Qll{π:List (Nat×Option Nat)}{s:A8}: ∀(H:Ar),HC π s H-> ∀n e',hget H n=some e'->Fa s π e'.1 e'.2 (pm π n)
 |[],_,n,e',h=>by simp[hget] at h
 |(q,(G,x))::H,z,n,e',h=>by
  simp only[HC] at z;simp only[hget] at h;cases hq:q==n<;>rw[hq] at h
  .exact Qll H z.2 n e' (by simpa using h)
  .have:q=n:=by simpa using hq
   subst this;simp only[C8,AO] at h;subst h;exact z.1
def Qqi{π:List (Nat×Option Nat)}{s:A8}: ∀(T:List (Nat×AV)),RC π s T-> ∀t,A9 T t= .any\/mt π (A9 T t) (A9 s.tm t)
 |[],_,t=> .inl rfl
 |(q,x)::T,z,t=>by
  simp only[RC] at z;simp only[A9];cases hq:q==t
  .simpa using Qqi T z.2 t
  .have:q=t:=by simpa using hq
   subst this;exact .inr (by simpa using z.1)
def R0{C:Ba}{N lo:Nat}{π:List (Nat×Option Nat)}{s s':A8}{a:Act}{w:World}(hc:BR C N s a w)(hs:Am lo π s s')(hg:s'.good=true)(ao:C.n0<=lo)(am:C.n0<=s'.nx):BR C N s' a w:=by
 obtain⟨S,rfl,hc⟩:=hc;obtain⟨ak,ac,hT,hH⟩:=hs;simp only[A8.good,Bc] at hg;obtain⟨ah,ai,aj⟩:=hg
 let S':Ay:=⟨λn=>match pm π n with
  |some m=>S.ρ m
  |none=>none,S.ok,hget s'.h,S.w⟩
 have hρ: ∀n m,pm π n=some m->S'.ρ n=S.ρ m:=by intro n m h;simp only[S',h]
 have hρ0: ∀n,pm π n=none->S'.ρ n=none:=by intro n h;simp only[S',h]
 have O: ∀n m,pm π n=some m-> ∀e',S'.h n=some e'-> ∃e,S.h m=some e/\e.1=e'.1/\Er π e'.2 e.2:=by
  intro n m hp e' z;have G:=Qll _ hH n e' z;rw[hp] at G;simp only[Fa] at G;cases hx:hget s.h m with
  |none=>rw[hx] at G;exact G.elim
  |some e=>
   obtain⟨mu,e⟩:=e;rw[hx] at G;exact⟨(mu,e),(hc.h m).trans hx,G.1,G.2⟩
 have hh: ∀n m,pm π n=some m-> ∀e',S'.h n=some e'-> ∃e,S.h m=some e/\e.2.esz=e'.2.esz/\e.2.len=e'.2.len:=by
  intro n m hp e' z;obtain⟨e,G,_,Z⟩:=O n m hp e' z;obtain⟨h3,h4,_⟩:=Qxn Z;exact⟨e,G,h3,h4⟩
 have hW:=hc.wf;refine⟨S',rfl,⟨hW.os,hW.tape,hW.output,hW.dr,hW.size,hW.keep,hW.ok0,hW.ok1,hW.oks,?_,?_,?_,hW.gl⟩,λn=>rfl,?_,tL _ ah,?_,hc.size,hc.defers,am,?_⟩
 .intro n e' z;cases hp:pm π n with
  |some m=>
   obtain⟨e,G,_,Z⟩:=O n m hp e' z;rw[hρ n m hp];exact YU (S:=S) (S':=S') rfl rfl hρ hρ0 hh Z (hW.obj m e G)
  |none=>
   have G:=Qll _ hH n e' z;rw[hp] at G;simp only[Fa] at G;rw[hρ0 n hp];obtain⟨mu,e'⟩:=e';unfold Ut at G;split at G
   .rename_i ab Q;simp only at Q;subst Q;simp[Ap]
   .rename_i ab Q;simp only at Q;subst Q;simp[Ap]
   .exact G.elim
 .intro n e' l z hl;cases hp:pm π n with
  |none=>rw[hρ0 n hp] at hl;cases hl
  |some m=>
   obtain⟨e,G,Z,h3⟩:=O n m hp e' z;rw[hρ n m hp] at hl
   have:=hW.loc m e l G hl
   rw[<-Z,<-(Qxn h3).2.2];exact this
 .intro n n' e e' l l' he z hl aa hb ag;cases hp:pm π n with
  |none=>rw[hρ0 n hp] at hl;cases hl
  |some m=>
   cases hp':pm π n' with
   |none=>rw[hρ0 n' hp'] at aa;cases aa
   |some m'=>
    obtain⟨x,G,Z,h3⟩:=O n m hp e he;obtain⟨x',ad,af,an⟩:=O n' m' hp' e' z;rw[hρ n m hp] at hl;rw[hρ n' m' hp'] at aa
    have:=hW.inj m m' x x' l l' G ad hl aa hb (by rw[Z,af];exact ag)
    subst this;exact oW _ ac n n' e e' m he z hp hp'
 .intro t;rcases Qqi _ hT t with h|h
  .rw[h];simp only[Aa]
  .exact Qyf (S:=S) (S':=S') rfl rfl hρ hρ0 hh _ _ _ h (hc.tm t)
 .intro n e he;exact⟨tG _ aj n e he,gB _ ai n e he⟩
 .intro o ho e' z;have hp:=cZ π ak o (by omega);obtain⟨e,G,_,Z⟩:=O o o hp e' z;obtain⟨e0,g1,g2,g3,g4⟩:=hc.pre o ho e G;obtain⟨h3,h4,_⟩:=Qxn Z;exact⟨e0,g1,(hρ o o hp).trans g2,h3.symm.trans g3,h4.symm.trans g4⟩
def tY(F:List Nat): ∀(H:Ar) (n:Nat),hget (Ip F H) n=(hget H n).map λe=>(e.1 && !F.contains n,e.2)
 |[],n=>rfl
 |(q,(z,e))::H,n=>by
  simp only[Ip,hget];cases hq:q==n
  .simpa using tY F H n
  .have:q=n:=by simpa using hq
   subst this;rfl
def Qxl{C:Ba}{N:Nat}(F:List Nat){s:A8}{a:Act}{w:World}(z:BR C N s a w):BR C N (Tc F s) a w:=by
 obtain⟨S,rfl,z⟩:=z;have hp:=H7 S (λn=> !F.contains n);refine⟨S.ice (λn=> !F.contains n),rfl,Wo z.wf,λn=> ?_,λt=>I5 hp _ _ (λ_ _=>trivial) (z.tm t),z.nmT,?_,z.size,z.defers,z.n0,?_⟩
 .show (S.h n).map _=hget (Ip F s.h) n;rw[tY,z.h n]
 .intro n e G;have G:hget (Ip F s.h) n=some e:=G;rw[tY] at G;simp only[Da] at G;obtain⟨x,hx,rfl⟩:=G;exact z.nmH n x hx
 .intro o Z e' O;obtain⟨e,Q,rfl⟩:=Wj O;exact z.pre o Z e Q
def UL{o p:Nat}{x:Option Au}: ∀m∈(FK o p x).nms,m∈(AV.ptr o p).nms:=by
 intro m z;unfold FK at z;split at z<;>try exact z
 rename_i G;cases ha:DP (G.drop p) with
 |none=>rw[ha] at z;exact z
 |some ds=>rw[ha] at z;simp[JJ,AV.nms] at z
mutual
def Ms(F:List Nat)(H:Ar): ∀(x:AV),∀m∈(x.fzA F H).nms,m∈x.nms
 | .own n,m,z=>by
   simp only[AV.fzA] at z;cases hF:F.contains n<;>rw[hF] at z
   .simpa using z
   .simp only[C8] at z;cases hh:hget H n with
    |none=>rw[hh] at z;simpa[Lp] using z
    |some e=>
     obtain⟨O,e⟩:=e;rw[hh] at z;cases e<;>simp only[Lp,Hy] at z<;>first|exact z|(simp[AV.nms] at z)
 | .agg G,m,z=>by
   simp only[AV.fzA,AV.nms] at z⊢;exact Qng F H G m z
 | .any,m,z=>by simpa only[AV.fzA] using z
 | .im d,m,z=>by simpa only[AV.fzA] using z
 | .tup G,m,z=>by simpa only[AV.fzA] using z
 | .ptr o p,m,z=>by
   simp only[AV.fzA] at z;cases hF:F.contains o<;>rw[hF] at z
   .exact z
   .simp only[C8] at z;cases hG:F.contains (o+4000000000)<;>rw[hG] at z
    .exact z
    .exact UL m z
 | .eptr o i p,m,z=>by simpa only[AV.fzA] using z
 | .mp o,m,z=>by simpa only[AV.fzA] using z
 | .ch o,m,z=>by simpa only[AV.fzA] using z
 | .it o,m,z=>by simpa only[AV.fzA] using z
 | .osl o a n,m,z=>by simpa only[AV.fzA] using z
 | .clo f a c,m,z=>by simpa only[AV.fzA] using z
def Qng(F:List Nat)(H:Ar): ∀(xs:List AV),∀m∈Ax (DX F H xs),m∈Ax xs
 |[],m,z=>by simpa[DX] using z
 |x::r,m,z=>by
  simp only[DX,Ax,B2] at z⊢;exact z.imp (Ms F H x m) (Qng F H r m)
end
def pC(F:List Nat)(H:Ar): ∀(xs:List (List AV)),∀m∈B7 (DY F H xs),m∈B7 xs
 |[],m,z=>by simpa[DY] using z
 |x::r,m,z=>by
  simp only[DY,B7,B2] at z⊢;exact z.imp (Qng F H x m) (pC F H r m)
def Te(F:List Nat)(H:Ar)(e:Ah): ∀m∈(e.fzA F H).nms,m∈e.nms:=by
 intro m z;cases e<;>simp only[Ah.fzA,Ah.nms] at z⊢ <;>try exact z
 .exact Qng F H _ m z
 .exact pC F H _ m z
def Qrp(F:List Nat)(H:Ar): ∀(xs:List (List AV)),(DY F H xs).length=xs.length
 |[]=>rfl
 |x::r=>by simp only[DY,CR,Qrp F H r]
def Qzt(F:List Nat)(H:Ar): ∀(xs:List AV),(DX F H xs).length=xs.length
 |[]=>rfl
 |x::r=>by simp only[DX,CR,Qzt F H r]
def Qtj(F:List Nat)(H:Ar)(e:Ah):(e.fzA F H).esz=e.esz/\(e.fzA F H).len=e.len/\(e.fzA F H).isView=e.isView:=by
 cases e<;>simp[Ah.fzA,Ah.esz,Ah.len,Ah.isView,Qrp]
def Qrq(F:List Nat)(H:Ar): ∀(T:List (Nat×AV)) (t:Nat),A9 (Ir F H T) t=(A9 T t).fzA F H
 |[],t=>by simp only[Ir,A9,AV.fzA]
 |(q,x)::T,t=>by
  simp only[Ir,A9];cases hq:q==t
  .simpa using Qrq F H T t
  .rfl
def Qss(F:List Nat)(H0:Ar): ∀(H:Ar) (n:Nat),hget (Iq F H0 H) n=(hget H n).map λe=>(e.1 && !F.contains n,e.2.fzA F H0)
 |[],n=>rfl
 |(q,(z,e))::H,n=>by
  simp only[Iq,hget];cases hq:q==n
  .simpa using Qss F H0 H n
  .have:q=n:=by simpa using hq
   subst this;rfl
section
variable {C:Ba}{S:Ay}{F:List Nat}{H:Ar}(hW:Wf C S)(hH: ∀n e,F.contains n=true->hget H n=some e->S.h n=some (false,e.2))
include hW hH
def P4{n:Nat}{v:Value}(hF:F.contains n=true)(h:Aa S (.own n) v):Aa S (Lp n (hget H n)) v:=by
 cases hh:hget H n with
 |none=>exact h
 |some e=>
  have G:=hH n e hF hh;obtain⟨mu,e⟩:=e;cases e<;>simp only[Lp,Hy]<;>try exact h
  rename_i U w rows;simp only[Aa] at h⊢;have Q:=h.2 _ G;have z:=hW.obj n _ G;have Z:=λl=>hW.loc n _ l G
  simp only[Ap] at z;simp only[rd];cases hl:S.ρ n with
  |none=>
   rw[hl] at Q z;exact .inl ⟨.inl Q,z.2⟩
  |some l=>
   rw[hl] at Q z;have O:=(Z l hl).2;simp only[Ah.isView,Dp,Gd,CN] at O;obtain⟨g0,g1,vs,g2,g3,g4⟩:=z;exact .inr ⟨l.b,l.p,l.cap,vs,U,(0,0),Q,by simp,g1,g0,O,g2,g4⟩
def P9{n p:Nat}{v:Value}(hF:F.contains n=true)(h:Aa S (.ptr n p) v):Aa S (FK n p (hget H n)) v:=by
 cases hh:hget H n with
 |none=>exact h
 |some e=>
  have z:=hH n e hF hh;obtain⟨mu,e⟩:=e;cases e<;>simp only[FK]<;>try exact h
  rename_i T Q;cases ha:DP (Q.drop p) with
  |none=>exact h
  |some ds=>
   simp only[JJ,Aa,rd];simp only[Aa] at h;obtain⟨l,Z,rfl⟩:=h.2 _ z;have G:=hW.obj n _ z;rw[Z] at G;simp only[Ap] at G;obtain⟨lc,vs,h3,h4,h5,h6⟩:=G;cases h3;have O:=(hW.loc n _ l z Z).2;simp only[Ah.isView,Dp,Gd,CN] at O;refine⟨l.b,l.p+p,vs,T,(0,0),rfl,O,h5,?_⟩;rw[h4,FS];have h7: ∀(n:Nat) (a:List AV) (b:List Value),AR S a b->AR S (a.drop n) (b.drop n):=by
    intro n;induction n with
    |zero=>intro a b h;simpa using h
    |succ n ih=>
     intro a b h;cases a with
     |nil=>simp only[AR] at h;subst h;simp[AR]
     |cons x a=>
      simp only[AR] at h;obtain⟨v,r,rfl,_,h⟩:=h;simpa using ih a r h
   exact Qse ds _ (Qov _ ds _ ha (h7 p Q _ h6))
mutual
def Qte: ∀(x:AV) (v:Value),Aa S x v->Aa S (x.fzA F H) v
 | .own n,v,h=>by
   simp only[AV.fzA];cases hF:F.contains n
   .exact h
   .exact P4 hW hH hF h
 | .agg z,v,h=>by
   simp only[AV.fzA,Aa] at h⊢;obtain⟨G,rfl,h⟩:=h;exact⟨G,rfl,Qom _ _ h⟩
 | .any,v,h=>by simpa only[AV.fzA] using h
 | .im d,v,h=>by simpa only[AV.fzA] using h
 | .tup z,v,h=>by simpa only[AV.fzA] using h
 | .ptr o p,v,h=>by
   simp only[AV.fzA];cases hF:F.contains o
   .exact h
   .simp only[C8];cases hG:F.contains (o+4000000000)
    .exact h
    .exact P9 hW hH hF h
 | .eptr o i p,v,h=>by simpa only[AV.fzA] using h
 | .mp o,v,h=>by simpa only[AV.fzA] using h
 | .ch o,v,h=>by simpa only[AV.fzA] using h
 | .it o,v,h=>by simpa only[AV.fzA] using h
 | .osl o a n,v,h=>by simpa only[AV.fzA] using h
 | .clo f a c,v,h=>by simpa only[AV.fzA] using h
def Qom: ∀(xs:List AV) (vs:List Value),AR S xs vs->AR S (DX F H xs) vs
 |[],_,h=>by simpa only[DX] using h
 |x::l,vs,h=>by
  simp only[DX,AR] at h⊢;obtain⟨v,r,rfl,z,G⟩:=h;exact⟨v,r,rfl,Qte x v z,Qom l r G⟩
end
def Quw: ∀(xs:List AV) (vs:List Value),CA S xs vs->CA S (DX F H xs) vs
 |[],_,h=>by simp only[DX,CA]
 |x::l,vs,h=>by
  simp only[DX,CA] at h⊢;obtain⟨v,r,rfl,z,G⟩:=h;exact⟨v,r,rfl,Qte hW hH x v z,Quw l r G⟩
def Qu9(k:Nat): ∀(xs:List (List AV)) (vs:List Value),BG S k xs vs->BG S k (DY F H xs) vs
 |[],_,h=>by simp only[DY,BG]
 |x::l,vs,h=>by
  simp only[DY,BG] at h⊢;exact⟨by rw[Qzt];exact h.1,Quw hW hH x vs h.2.1,Qu9 k l _ h.2.2⟩
def Pg{l:Option FX}(e:Ah)(h:Ap S l e):Ap S l (e.fzA F H):=by
 cases e<;>simp only[Ah.fzA]<;>try exact h
 .simp only[Ap] at h⊢;obtain⟨lc,Z,G,z,O,Q⟩:=h;exact⟨lc,Z,G,z,O,Qom hW hH _ _ Q⟩
 .rename_i T k rows;simp only[Ap,Qrp] at h⊢;refine⟨h.1,?_⟩;cases l with
  |none=>
   have z:=h.2;simp only at z;subst z;rfl
  |some lc=>
   obtain⟨h0,G,Z,z,O,Q⟩:=h;exact⟨G,Z,z,O,Qu9 hW hH k _ _ Q⟩
end
def uZ{C:Ba}{N:Nat}(F:List Nat){s:A8}{a:Act}{w:World}(O:BR C N s a w):BR C N (Tf F s) a w:=by
 obtain⟨S,rfl,aa⟩:=Qxl F O;clear O;have O:=aa;clear aa
 let S':Ay:=⟨S.ρ,S.ok,hget (Iq F s.h s.h),S.w⟩
 have Z: ∀n,S.h n=(hget s.h n).map λe=>(e.1 && !F.contains n,e.2):=by
  intro n;rw[O.h n];exact tY F s.h n
 have hH: ∀n e,F.contains n=true->hget s.h n=some e->S.h n=some (false,e.2):=by
  intro n e hF he;rw[Z,he];simp only[Ez,hF,nV,nT]
 have G: ∀n e',S'.h n=some e'-> ∃e,S.h n=some e/\e'.1=e.1/\e'.2=e.2.fzA F s.h:=by
  intro n e' z;have z:hget (Iq F s.h s.h) n=some e':=z;rw[Qss] at z;simp only[Da] at z;obtain⟨x,hx,rfl⟩:=z;exact⟨(x.1 && !F.contains n,x.2),by rw[Z,hx];rfl,rfl,rfl⟩
 have hp:BA (λ_=>True) S S':=⟨λb hb=>⟨hb,rfl⟩,λo _ e' z=>by
  obtain⟨e,Q,h2,h3⟩:=G o e' z;obtain⟨g1,g2,_⟩:=Qtj F s.h e.2;exact⟨e,Q,rfl,by rw[h3];exact g1,by rw[h3];exact g2⟩⟩
 have hW:=O.wf;refine⟨S',rfl,⟨hW.os,hW.tape,hW.output,hW.dr,hW.size,hW.keep,hW.ok0,hW.ok1,hW.oks,?_,?_,?_,hW.gl⟩,λn=>rfl,?_,?_,?_,O.size,O.defers,O.n0,?_⟩
 .intro o e' z;obtain⟨e,Q,h2,h3⟩:=G o e' z;rw[h3];exact H9 hp (λlc _=>rfl) _ (λ_ _=>trivial) (Pg hW hH e.2 (hW.obj o e Q))
 .intro o e' l z hl;obtain⟨e,Q,h2,h3⟩:=G o e' z
  have:=hW.loc o e l Q hl
  rw[h2,h3,(Qtj F s.h e.2).2.2];exact this
 .intro o o' e e' l l' he z hl af hb ad;obtain⟨x,Q,h2,h3⟩:=G o e he;obtain⟨x',ab,ac,ag⟩:=G o' e' z;exact hW.inj o o' x x' l l' Q ab hl af hb (by rw[<-h2,<-ac];exact ad)
 .intro t;show Aa S' (A9 (Ir F s.h s.tm) t) _;rw[Qrq];exact I5 hp _ _ (λ_ _=>trivial) (Qte hW hH _ _ (O.tm t))
 .intro t m hm;have hm:m∈(A9 (Ir F s.h s.tm) t).nms:=hm;rw[Qrq] at hm;exact O.nmT t m (Ms F s.h _ m hm)
 .intro n e he;have he:hget (Iq F s.h s.h) n=some e:=he;rw[Qss] at he;simp only[Da] at he;obtain⟨x,hx,rfl⟩:=he;have Q:hget (Tc F s).h n=some (x.1 && !F.contains n,x.2):=by
   show hget (Ip F s.h) n=_;rw[tY,hx];rfl
  obtain⟨g1,g2⟩:=O.nmH n _ Q;exact⟨g1,λm hm=>g2 m (Te F s.h x.2 m hm)⟩
 .intro o ho e' z;obtain⟨e,Q,h2,h3⟩:=G o e' z;obtain⟨e0,g1,g2,g3,g4⟩:=O.pre o ho e Q;obtain⟨q1,q2,_⟩:=Qtj F s.h e.2;exact⟨e0,g1,g2,by rw[h3,q1];exact g3,by rw[h3,q2];exact g4⟩
def NS{p:Nat->Prop}: ∀n,p n-> ∃m,p m/\ ∀k,k<m-> ¬p k:=by
 intro n;induction n using Nat.strongRecOn with
 |_ n ih=>
  intro hn;by_cases h: ∃k,k<n/\p k
  .obtain⟨k,G,z⟩:=h;exact ih k G z
  .exact⟨n,hn,λk G z=>h ⟨k,G,z⟩⟩
section
variable {P:Program}{V:D4}{C:Ba}{N:Nat}
def aU{x:C4}{Q:C4}{next:Act->World->Prop}(O: ∀s a w,x .normal s->BR C N s a w->next a w)(Z: ∀i s,x (.exit i) s->Q (.exit i) s)(h3: ∀s,x .ret s->Q .ret s):
 ∀e a w,Gv C N x e a w->Exit.then next (Gv C N Q) e a w:=by
 intro e a w h;cases e<;>simp only[Gv] at h<;>simp only[Exit.then,Gv]
 .obtain⟨s,G,z⟩:=h;exact O s a w G z
 .obtain⟨s,G,z⟩:=h;exact⟨s,Z _ s G,z⟩
 .obtain⟨s,G,z⟩:=h;exact⟨s,h3 s G,z⟩
def Qo4(HM:P.follows .mixedOrders=true)(HV:HB P V): ∀(c:Code),E0 N c=true-> ∀(Q:C4) (s:A8) (a:Act) (w:World),D6 P V c Q s->BR C N s a w->c.wp P (Gv C N Q) a w:=by
 intro c;induction c with
 |skip=>intro _ Q s a w h G;exact wp_skip ⟨s,h,G⟩
 |region id ops an=>
  intro hk Q s a w h G;simp only[E0,Bc] at hk;cases an with
  |true=>exact Qtk HM HV (λs a w h1 h2=>⟨s,h1,h2⟩) hk.1 (by simpa using hk.2) h G
  |false=>exact Qt0 HV (λs a w h1 h2=>⟨s,h1,h2⟩) hk.1 h G
 |seq x y ak am=>
  intro hk Q s a w h G;simp only[E0,Bc] at hk;simp only[D6] at h;refine wp_seq (wp_mono (ak hk.1 _ s a w h G) (aU ?_ ?_ ?_))
  .intro s a w hs G;exact am hk.2 Q s a w hs G
  .intro i s hs;exact hs
  .intro s hs;exact hs
 |cond c x y ak am=>
  intro hk Q s a w h G;simp only[E0,Bc] at hk;simp only[D6] at h;obtain⟨S,ao,aj⟩:=G;have h1:=Rx aj c;cases hv:Aw s.tm c<;>rw[hv] at h<;>try exact h.elim
  rename_i d;cases d<;>try exact h.elim
  rename_i b;rw[hv] at h1;simp only[Aa,rd] at h1;simp only[vQ] at h;refine wp_cond_split h1 (λhb=>ak hk.1 Q s a w (h.1 hb) ⟨S,ao,aj⟩) (λhb=>am hk.2 Q s a w (h.2 hb) ⟨S,ao,aj⟩)
 |block id c ih=>
  intro hk Q s a w h G;simp only[D6] at h;refine wp_block (wp_mono (ih hk _ s a w h G) ?_);intro e a w he;cases e<;>simp only[Gv] at he<;>simp only[Exit.inBlock,Gv]
  .exact he
  .rename_i i;obtain⟨s,hs,G⟩:=he;simp only[nH] at hs;by_cases hi:i=id
   .subst hi;rw[Al rfl];exact⟨s,by simpa[Jx] using hs,G⟩
   .rw[Ag hi]
    have:(i==id)=false:=by simpa using hi
    rw[this] at hs;exact⟨s,hs,G⟩
  .exact he
 |loop c ih=>
  intro hk Q s a w h G;have ai: ∀(s:A8),aZ (D6 P V c) Q s->BR C N s a w->(Code.loop c).wp P (Gv C N Q) a w:=by
   clear h G;intro s h G;simp only[aZ] at h;obtain⟨β,I,μ,z,⟨b0,ad⟩,O⟩:=h
   let p:Act->World->Nat->Prop:=λa w n=> ∃b,BR C N (I b) a w/\μ b=n
   let μ':Act->World->Nat:=λa w=>Classical.epsilon λn=>p a w n/\ ∀k,k<n-> ¬p a w k
   have hμ: ∀a w b,BR C N (I b) a w->p a w (μ' a w)/\ ∀k,k<μ' a w-> ¬p a w k:=by
    intro a w b hb;exact nO (p:=λn=>p a w n/\ ∀k,k<n-> ¬p a w k) (NS (μ b) ⟨b,hb,rfl⟩)
   have ab: ∀b,C.n0<=(I b).nx:=by
    intro b;obtain⟨S,_,h⟩:=G;exact CW h.n0 (z b).2
   refine wp_loop (λa w=> ∃b,BR C N (I b) a w) μ' ⟨b0,mY G ad (z b0).1 (ab b0)⟩ ?_;rintro a w ⟨b,hb⟩;obtain⟨⟨b1,af,au⟩,_⟩:=hμ a w b hb;refine wp_mono (ih hk _ _ a w (O b1) af) (aU ?_ ?_ ?_)
   .rintro s' a' w' ⟨b',aq,ac⟩ ag;have Z:=mY ag ac (z b').1 (ab b');refine⟨⟨b',Z⟩,?_⟩;obtain⟨_,aa⟩:=hμ a' w' b' Z;rcases FR (μ b') (μ' a' w') with h1|h1
    .exact absurd ⟨b',Z,rfl⟩ (aa _ h1)
    .omega
   .intro i s hs;exact hs
   .intro s hs;exact hs
  simp only[D6,AZ] at h;rcases h with h|h|⟨F,h⟩|h
  .exact ai s h G
  .simp only[Qsi] at h;obtain⟨β,I,μ,z,⟨b0,π0,ad⟩,O⟩:=h
   let p:Act->World->Nat->Prop:=λa w n=> ∃b,BR C N (I b) a w/\μ b=n
   let μ':Act->World->Nat:=λa w=>Classical.epsilon λn=>p a w n/\ ∀k,k<n-> ¬p a w k
   have hμ: ∀a w b,BR C N (I b) a w->p a w (μ' a w)/\ ∀k,k<μ' a w-> ¬p a w k:=by
    intro a w b hb;exact nO (p:=λn=>p a w n/\ ∀k,k<n-> ¬p a w k) (NS (μ b) ⟨b,hb,rfl⟩)
   have ah:C.n0<=s.nx:=by
    obtain⟨S,_,h⟩:=G;exact h.n0
   have ab: ∀b,C.n0<=(I b).nx:=by
    intro b;obtain⟨S,_,h⟩:=G;exact CW h.n0 (z b).2
   refine wp_loop (λa w=> ∃b,BR C N (I b) a w) μ' ⟨b0,R0 G ad (z b0).1 ah (ab b0)⟩ ?_;rintro a w ⟨b,hb⟩;obtain⟨⟨b1,af,au⟩,_⟩:=hμ a w b hb;refine wp_mono (ih hk _ _ a w (O b1) af) (aU ?_ ?_ ?_)
   .rintro s' a' w' ⟨b',π,aq,ac⟩ ag;have Z:=R0 ag ac (z b').1 ah (ab b');refine⟨⟨b',Z⟩,?_⟩;obtain⟨_,aa⟩:=hμ a' w' b' Z;rcases FR (μ b') (μ' a' w') with h1|h1
    .exact absurd ⟨b',Z,rfl⟩ (aa _ h1)
    .omega
   .intro i s hs;exact hs
   .intro s hs;exact hs
  .exact ai _ h (Qxl F G)
  .simp only[Qsf] at h;obtain⟨β,I,μ,z,⟨b0,F0,π0,ad⟩,O⟩:=h
   let p:Act->World->Nat->Prop:=λa w n=> ∃b,BR C N (I b) a w/\μ b=n
   let μ':Act->World->Nat:=λa w=>Classical.epsilon λn=>p a w n/\ ∀k,k<n-> ¬p a w k
   have hμ: ∀a w b,BR C N (I b) a w->p a w (μ' a w)/\ ∀k,k<μ' a w-> ¬p a w k:=by
    intro a w b hb;exact nO (p:=λn=>p a w n/\ ∀k,k<n-> ¬p a w k) (NS (μ b) ⟨b,hb,rfl⟩)
   have ah:C.n0<=s.nx:=by
    obtain⟨S,_,h⟩:=G;exact h.n0
   have ab: ∀b,C.n0<=(I b).nx:=by
    intro b;obtain⟨S,_,h⟩:=G;exact CW h.n0 (z b).2
   refine wp_loop (λa w=> ∃b,BR C N (I b) a w) μ' ⟨b0,R0 (uZ F0 G) ad (z b0).1 ah (ab b0)⟩ ?_;rintro a w ⟨b,hb⟩;obtain⟨⟨b1,af,au⟩,_⟩:=hμ a w b hb;refine wp_mono (ih hk _ _ a w (O b1) af) (aU ?_ ?_ ?_)
   .rintro s' a' w' ⟨b',F,π,aq,ac⟩ ag;have Z:=R0 (uZ F ag) ac (z b').1 ah (ab b');refine⟨⟨b',Z⟩,?_⟩;obtain⟨_,aa⟩:=hμ a' w' b' Z;rcases FR (μ b') (μ' a' w') with h1|h1
    .exact absurd ⟨b',Z,rfl⟩ (aa _ h1)
    .omega
   .intro i s hs;exact hs
   .intro s hs;exact hs
 |exit id=>intro _ Q s a w h G;exact wp_exit ⟨s,h,G⟩
 |ret=>intro _ Q s a w h G;exact wp_ret ⟨s,h,G⟩
 |_=>intro hk;simp[E0] at hk
end
def mP(P:Program)(g:FuncId):Prop:=g<1000000000/\ ∃fn,P.funcs[g]? =some fn/\(fn.name== "runtime.NumGoroutine")=false/\fn.body.isNone=false
def Ra(P:Program)(g:FuncId)(args:List AV)(h:Nat->Option Au)(nx:Nat)(r:AV)(E:B4):Prop:=
 ∀(C:Ba) (S:Ay) (vs:Array Value) (R:Ending->World->Prop),
  Wf C S->(∀n∈E.use++E.kill,S.h n=h n)->(∀n,Fr nx E.cnt n->S.h n=none)->
  (∀n e,S.h n=some e-> ∀m∈e.2.nms,¬Fr nx E.cnt m)->
  AR S args vs.toList->
  (∀v S',Wf C S'->S'.h=E.appf S.h->BA (λm=> ¬Fr nx E.cnt m) S S'->Aa S' r v->R (.returned v) S'.w)->
  Calls P g vs S.w R
def Kc(P:Program)(V:D4):Prop:= ∀g args h nx K,V g args h nx K->mP P g/\ ∃r E,Ra P g args h nx r E/\K r E
def tH{P:Program}{g:FuncId}(h:mP P g)(args:Array Value)(w:World):(callFunc g args).run P w= .ok (.enter g args) w:=by
 obtain⟨_,fn,O,Q,Z⟩:=h;have z:fn.name≠ "runtime.NumGoroutine" :=by simpa using Q
 have G:fn.body≠none:=by intro h;simp[h] at Z
 simp[callFunc,O,z,G]
def Qpe{S:Ay}{tm:List (Nat×AV)}{a:Act}: ∀(xs:List Operand),(∀x∈xs,Aa S (Aw tm x) (a.eval x))->AR S (DV tm xs) (xs.map a.eval)
 |[],_=>by simp[DV,AR]
 |x::xs,h=>by
  simp only[DV,Bf,AR];exact⟨_,_,rfl,h x (by simp),Qpe xs (λy z=>h y (by simp[z]))⟩
def Yh{P:Program}{V:D4}(hV:Kc P V)(tm:List (Nat×AV))(h:Nat->Option Au)(nx:Nat)(o:Oper)(c:Call)(f:Operand)(K:Aj)(ho:o.op= .call c)(z:c.callee= .value f)
 (hk:Rg V (DV tm c.args.toList) h nx K (Aw tm f)):Ca P tm h nx o K:=by
 have ag:f∈o.op.operands:=by rw[ho];simp[Op.operands,Call.operands,z]
 have af: ∀x∈c.args.toList,x∈o.op.operands:=by
  intro x hx;rw[ho];simp only[Op.operands,Call.operands,z];simp;exact .inr (by simpa using hx)
 have aa: ∀(g:FuncId) (fi ca:List AV),V g (fi++DV tm c.args.toList++ca) h nx K->(∀(S:Ay) (v:Value),Aa S (Aw tm f) v-> ∃a b:Array Value,v= .func (W6 g) a b/\AR S fi a.toList/\AR S ca b.toList)->Ca P tm h nx o K:=by
  intro g fi ca Z hf;obtain⟨G,r,E,hT,hK⟩:=hV _ _ _ _ _ Z;refine⟨r,E,?_,hK⟩;intro C S a next Q hW hu ai ad O hn
  obtain⟨x,y,ac,hx,hy⟩:=hf S _ (O f ag);rw[X9 G.1] at ac;have ab:=Qpe c.args.toList (λx hx=>O x (af x hx));unfold Oper.wp;have ah:(execOp a.eval o).run P S.w= .ok (.enter g (x++c.args.map a.eval++y)) S.w:=by
   simp only[execOp,ho,resolve,z,ac,Sem.run_bind];simp[Deferred.ofValue,invoke,tH G]
  rw[ah,Oper.upon_enter];refine hT C S _ _ hW hu ai ad ?_ ?_
  .simp only[Zet,W4];exact Qop _ _ _ _ (Qop _ _ _ _ hx ab) hy
  .intro v S' h1 h2 h3 h4;exact hn v S' h1 h2 h3 h4
 cases hf:Aw tm f<;>rw[hf] at hk<;>try exact hk.elim
 case im d=>
  cases d<;>try exact hk.elim
  rename_i g first capt
  refine aa g (first.map .im) (capt.map .im) hk ?_;intro S v Z;rw[hf] at Z;simp only[Aa,rd] at Z;obtain⟨a,b,h1,h2,h3⟩:=Z;exact⟨a,b,h1,(IQ _ _).2 h2,(IQ _ _).2 h3⟩
 case clo g first capt=>
  refine aa g first capt hk ?_
  intro S v Z;rw[hf] at Z;simpa only[Aa] using Z
def Ug{P:Program}{t:TypeId}{m:String}{f:FuncId}(h:WV P t m=some f)(n:Nat)(v:Value)(w:World):(method (n+1) t v m).run P w= .ok (f,v) w:=by
 unfold WV at h;split at h
 .cases h
 .rename_i u z hu;unfold cV at h;split at h
  .rename_i i hi;split at h
   .rename_i mm hm;cases hp:mm.path.isEmpty with
    |false=>rw[hp] at h;cases h
    |true=>
     rw[hp,C8] at h;split at h
     .rename_i g hg;obtain rfl:=AC h;have G:mm.path.toList=[]:=by simpa using hp
      have Q:(typeInfo t).run P w= .ok i w:=by simp[typeInfo,hi]
      have Z:(underlying t).run P w= .ok u w:=by simp[underlying,hu]
      have O:(receiverAt t (.val v) false (if mm.path.isEmpty then some ((m.splitOn ".").getLastD m) else none)).run P w= .ok v w:=by
       unfold receiverAt;rw[Sem.run_bind,Z];cases u<;>first|rfl|exact (z _ rfl).elim
      unfold method;simp only[Sem.run_bind,Q,Result.andThen_ok,hm,G,follow,Sem.run_pure,hg,O]
     .cases h
   .cases h
  .cases h
 .cases h
def gL{P:Program}{V:D4}(hV:Kc P V):HB P V:=by
 refine⟨λtm h nx o c f K ho z _ G=>Yh hV tm h nx o c f K ho z G,?_⟩;intro tm h nx o c rc m K ho z hnm G;have ad:rc∈o.op.operands:=by rw[ho];simp[Op.operands,Call.operands,z]
 have ac: ∀x∈c.args.toList,x∈o.op.operands:=by
  intro x hx;rw[ho];simp only[Op.operands,Call.operands,z];simp;exact .inr (by simpa using hx)
 cases hr:Aw tm rc<;>rw[hr] at G<;>try exact G.elim
 rename_i d;cases d<;>try exact G.elim
 rename_i t d;simp only[N3] at G;cases hm:WV P t m with
 |none=>rw[hm] at G;exact G.elim
 |some g=>
 rw[hm] at G;simp only[Xa] at G;obtain⟨aa,r,E,hT,hK⟩:=hV _ _ _ _ _ G;refine⟨r,E,?_,hK⟩;intro C S a next Q hW hu ag ab O hn
 have h1:=O rc ad;rw[hr] at h1;simp only[Aa,rd] at h1;obtain⟨x,hx,ah⟩:=h1;have Z:=Qpe c.args.toList (λx hx=>O x (ac x hx));unfold Oper.wp;have af:(execOp a.eval o).run P S.w= .ok (.enter g (#[x]++c.args.map a.eval)) S.w:=by
  simp only[execOp,ho,resolve,z,hx,Sem.run_bind];simp[invoke,callMethod];have e0:(#[Value.iface t x]++Array.map a.eval c.args)[0]? =some (.iface t x):=by rw[Zdh (by simp)];rfl
  obtain⟨n,hn1⟩: ∃n,P.types.size+Made.depth=n+1:=⟨P.types.size+99,by simp[Made.depth]⟩;have e1:(Array.map a.eval c.args).extract 0 c.args.size=Array.map a.eval c.args:=by
   have:=wK (xs:=Array.map a.eval c.args)
   rwa [Array.size_map] at this
  rw[e0];simp only[Sem.run_bind,run_program,Result.andThen_ok,hn1,Ug hm,e1];exact tH aa _ _
 rw[af,Oper.upon_enter];refine hT C S _ _ hW hu ag ab ?_ ?_
 .simp only[Zet,W4];exact⟨x,_,rfl,ah,Z⟩
 .intro v S' h1 h2 h3 h4;exact hn v S' h1 h2 h3 h4
mutual
def AV.ren(σ:Nat->Nat):AV->AV
 | .any=> .any
 | .im d=> .im d
 | .agg z=> .agg (Bd σ z)
 | .tup z=> .tup (Bd σ z)
 | .ptr o p=> .ptr (σ o) p
 | .eptr o i p=> .eptr (σ o) i p
 | .own o=> .own (σ o)
 | .mp o=> .mp (σ o)
 | .ch o=> .ch (σ o)
 | .it o=> .it (σ o)
 | .osl o a n=> .osl (σ o) a n
 | .clo f a c=> .clo f (Bd σ a) (Bd σ c)
def Bd(σ:Nat->Nat):List AV->List AV
 |[]=>[]
 |x::r=>x.ren σ::Bd σ r
end
def Qze(σ:Nat->Nat): ∀(l:List AV),Bd σ l=l.map (AV.ren σ)
 |[]=>rfl
 |x::r=>by simp only[Bd,Bf,Qze σ r]
def Ah.ren(σ:Nat->Nat):Ah->Ah
 | .cells T z=> .cells T (Bd σ z)
 | .arr T k rows=> .arr T k rows
 | .arrA T k rows=> .arrA T k (rows.map (Bd σ))
 | .map O G=> .map O G
 | .chan q cap=> .chan q cap
 | .iter a l=> .iter a l
 | .view z=> .view z
def Qr6(σ:Nat->Nat)(e:Ah):(e.ren σ).esz=e.esz:=by cases e<;>rfl
def Qs6(σ:Nat->Nat)(e:Ah):(e.ren σ).len=e.len:=by cases e<;>simp[Ah.ren,Ah.len]
section
variable {S S':Ay}{σ τ:Nat->Nat}
structure O5(S S':Ay)(σ τ:Nat->Nat)(n:Nat):Prop where
 a: ∀e',S'.h (τ n)=some e'-> ∃e,S.h (σ n)=some e/\S'.ρ (τ n)=S.ρ (σ n)/\e'.2.esz=e.2.esz/\e'.2.len=e.2.len
mutual
def Qz8(aa: ∀b,S.ok b->S'.ok b/\S'.hp b=S.hp b): ∀(z:AV) (v:Value),(∀n∈z.nms,O5 S S' σ τ n)->Aa S (z.ren σ) v->Aa S' (z.ren τ) v
 | .any,_,_,_=>by simp only[AV.ren,Aa]
 | .im d,v,_,h=>by
   simp only[AV.ren,Aa] at h⊢;exact Hf aa d v h
 | .agg cs,v,O,h=>by
   simp only[AV.ren,Aa,AV.nms] at h O⊢;obtain⟨vs,rfl,h1⟩:=h;exact⟨vs,rfl,fN aa cs _ O h1⟩
 | .tup cs,v,O,h=>by
   simp only[AV.ren,Aa,AV.nms] at h O⊢;obtain⟨vs,rfl,h1⟩:=h;exact⟨vs,rfl,fN aa cs _ O h1⟩
 | .ptr o off,v,O,h=>by
   simp only[AV.ren,Aa,AV.nms,BL,LN] at h O⊢;obtain⟨G,h⟩:=h;refine⟨G,?_⟩;intro e' Q;obtain⟨e,Z,hr,_,_⟩:=O.a e' Q;rw[hr];exact h e Z
 | .eptr o i off,v,O,h=>by
   simp only[AV.ren,Aa,AV.nms,BL,LN] at h O⊢;obtain⟨G,h⟩:=h;refine⟨G,?_⟩;intro e' Q;obtain⟨e,Z,hr,hz,_⟩:=O.a e' Q;rw[hr,hz];exact h e Z
 | .own o,v,O,h=>by
   simp only[AV.ren,Aa,AV.nms,BL,LN] at h O⊢;obtain⟨G,h⟩:=h;refine⟨G,?_⟩;intro e' Q;obtain⟨e,Z,hr,_,hl⟩:=O.a e' Q;rw[hr,hl];exact h e Z
 | .mp o,v,O,h=>by
   simp only[AV.ren,Aa,AV.nms,BL,LN] at h O⊢;obtain⟨G,h⟩:=h;refine⟨G,?_⟩;intro e' Q;obtain⟨e,Z,hr,_,_⟩:=O.a e' Q;rw[hr];exact h e Z
 | .ch o,v,O,h=>by
   simp only[AV.ren,Aa,AV.nms,BL,LN] at h O⊢;obtain⟨G,h⟩:=h;refine⟨G,?_⟩;intro e' Q;obtain⟨e,Z,hr,_,_⟩:=O.a e' Q;rw[hr];exact h e Z
 | .it o,v,O,h=>by
   simp only[AV.ren,Aa,AV.nms,BL,LN] at h O⊢;obtain⟨G,h⟩:=h;refine⟨G,?_⟩;intro e' Q;obtain⟨e,Z,hr,_,_⟩:=O.a e' Q;rw[hr];exact h e Z
 | .osl o a n,v,O,h=>by
   simp only[AV.ren,Aa,AV.nms,BL,LN] at h O⊢;obtain⟨G,h⟩:=h;refine⟨G,?_⟩;intro e' Q;obtain⟨e,Z,hr,hz,hl⟩:=O.a e' Q;rw[hr,hz,hl];exact h e Z
 | .clo f fi ca,v,O,h=>by
   simp only[AV.ren,Aa,AV.nms,B2] at h O⊢;obtain⟨a,c,rfl,h1,h2⟩:=h;exact⟨a,c,rfl,fN aa fi _ (λo ho=>O o (.inl ho)) h1,fN aa ca _ (λo ho=>O o (.inr ho)) h2⟩
def fN(z: ∀b,S.ok b->S'.ok b/\S'.hp b=S.hp b): ∀(Q:List AV) (vs:List Value),(∀n∈Ax Q,O5 S S' σ τ n)->AR S (Bd σ Q) vs->AR S' (Bd τ Q) vs
 |[],_,_,h=>by simpa only[Bd,AR] using h
 |x::xs,vs,O,h=>by
  simp only[Bd,AR,Ax,B2] at h O⊢;obtain⟨v,r,rfl,Z,h2⟩:=h;exact⟨v,r,rfl,Qz8 z x v (λo G=>O o (.inl G)) Z,fN z xs r (λo G=>O o (.inr G)) h2⟩
end
def Qt9(z: ∀b,S.ok b->S'.ok b/\S'.hp b=S.hp b): ∀(Q:List AV) (vs:List Value),(∀n∈Ax Q,O5 S S' σ τ n)->CA S (Bd σ Q) vs->CA S' (Bd τ Q) vs
 |[],_,_,h=>by simp only[Bd,CA]
 |x::xs,vs,O,h=>by
  simp only[Bd,CA,Ax,B2] at h O⊢;obtain⟨v,r,rfl,Z,h2⟩:=h;exact⟨v,r,rfl,Qz8 z x v (λo G=>O o (.inl G)) Z,Qt9 z xs r (λo G=>O o (.inr G)) h2⟩
def Qsc(σ:Nat->Nat)(l:List AV):(Bd σ l).length=l.length:=by rw[Qze];simp
def Qva(z: ∀b,S.ok b->S'.ok b/\S'.hp b=S.hp b)(k:Nat): ∀(G:List (List AV)) (vs:List Value),(∀n∈B7 G,O5 S S' σ τ n)->BG S k (G.map (Bd σ)) vs->BG S' k (G.map (Bd τ)) vs
 |[],_,_,h=>by simp only[Bg,BG]
 |r::G,vs,Q,h=>by
  simp only[Bf,BG,B7,B2,Qsc] at h Q⊢;exact⟨h.1,Qt9 z r vs (λo O=>Q o (.inl O)) h.2.1,Qva z k G _ (λo O=>Q o (.inr O)) h.2.2⟩
def Qzw(G: ∀b,S.ok b->S'.ok b/\S'.hp b=S.hp b){l:Option FX}(hl: ∀z,l=some z->S'.hp z.b=S.hp z.b): ∀(e:Ah),(∀n∈e.nms,O5 S S' σ τ n)->Ap S l (e.ren σ)->Ap S' l (e.ren τ)
 | .cells T cs,hx,h=>by
   simp only[Ah.ren,Ap,Ah.nms] at h hx⊢;obtain⟨z,vs,O,Z,h3,h4⟩:=h;exact⟨z,vs,O,Z,(hl z O).trans h3,fN G cs _ hx h4⟩
 | .arr T k rows,hx,h=>by
   simp only[Ah.ren,Ap] at h⊢;refine⟨h.1,?_⟩;cases l with
   |none=>exact h.2
   |some z=>
    obtain⟨h0,O,vs,Z,h3,h4⟩:=h;exact⟨O,vs,(hl z rfl).trans Z,h3,aS G k rows _ h4⟩
 | .arrA T k rows,hx,h=>by
   simp only[Ah.ren,Ap,Ah.nms,Du] at h hx⊢;refine⟨h.1,?_⟩;cases l with
   |none=>
    have:=h.2
    simp only[ZdT] at this⊢;exact this
   |some z=>
    obtain⟨h0,O,vs,Z,h3,h4⟩:=h;exact⟨O,vs,(hl z rfl).trans Z,h3,Qva G k rows _ hx h4⟩
 | .map kt es,_,h=>by
   simp only[Ah.ren,Ap] at h⊢;obtain⟨z,aa,Q,O,h0,Z,h3,h4⟩:=h;exact⟨z,aa,Q,O,h0,(hl z O).trans Z,L7 G es _ h3,h4⟩
 | .chan q cap,_,h=>by
   simp only[Ah.ren,Ap] at h⊢;obtain⟨z,ag,af,ac,O,Z,h3⟩:=h;exact⟨z,ag,af,ac,O,(hl z O).trans Z,L8 G q _ h3⟩
 | .iter ab left,_,h=>by
   simp only[Ah.ren,Ap] at h⊢;obtain⟨z,mb,aa,Q,ad,O,Z,h0,h3,h4,h5,h6,h7⟩:=h;exact⟨z,mb,aa,Q,ad,O,(G mb Z).1,Qly G ab h0,(G mb Z).2.trans h3,(hl z O).trans h4,h5,h6,L7 G left _ h7⟩
 | .view cs,_,h=>by
   simp only[Ah.ren,Ap] at h⊢;obtain⟨z,vs,T,fr,O,Z,h3⟩:=h;exact⟨z,vs,T,fr,O,(hl z O).trans Z,Wm G cs _ h3⟩
mutual
def kM: ∀(z:AV),z.ren (λn=>n)=z
 | .any=>rfl
 | .im _=>rfl
 | .agg G=>by simp only[AV.ren,aW G]
 | .tup G=>by simp only[AV.ren,aW G]
 | .ptr _ _=>rfl
 | .eptr _ _ _=>rfl
 | .own _=>rfl
 | .mp _=>rfl
 | .ch _=>rfl
 | .it _=>rfl
 | .osl _ _ _=>rfl
 | .clo f a c=>by simp only[AV.ren,aW a,aW c]
def aW: ∀(z:List AV),Bd (λn=>n) z=z
 |[]=>rfl
 |x::r=>by simp only[Bd,kM x,aW r]
end
def Qwc(e:Ah):e.ren (λn=>n)=e:=by
 cases e<;>simp only[Ah.ren,aW];rename_i T k rows
 have:(Bd λn=>n)=(id:List AV->List AV):=funext aW
 rw[this];simp
end
def AA{α β:Type}(f:α->Option β):List α->Option (List β)
 |[]=>some []
 |x::r=>match f x,AA f r with
  |some y,some z=>some (y::z)
  |_,_=>none
def Q9(f:AV->Option D):Option Au->Option D
 |some (_,.arr _ k rows)=>some (.sl false k rows)
 |some (_,.arrA _ k rows)=>(AA (AA f) rows).map (.sl false k)
 |_=>none
def XE:Option Au->Option D
 |some (_,.map G z)=>some (.mp G z)
 |_=>none
def X7(f:AV->Option D):Option Au->Option D
 |some (_,.cells _ z)=>(AA f z).map .ref
 |_=>none
def oJ(z:List AV):Option (List D)->AV
 |some ds=> .im (.tup ds)
 |none=> .tup z
def jN(g:FuncId)(a c:List AV):Option (List D)->Option (List D)->AV
 |some ds,some z=> .im (.fn g ds z)
 |some _,none=> .clo g a c
 |none,_=> .clo g a c
def JA(g:FuncId):Option (List AV)->Option (List AV)->Option AV
 |some a,some c=>some (jN g a c (DP a) (DP c))
 |_,_=>none
def kp(x:Nat->AV)(d:Option D):Option Nat->Option AV
 |some j=>some (x j)
 |none=>d.map .im
def EM:Option AV->Option D
 |some x=>x.asD
 |none=>none
def Bs(h:Nat->Option Au)(kx:Nat->Option Nat):Nat->AV->Option AV
 |0,_=>none
 |_+1,.im d=>some (.im d)
 |_+1,.any=>some .any
 |n+1,.agg G=>(AA (Bs h kx n) G).map λz=>YS z (DP z)
 |n+1,.tup G=>(AA (Bs h kx n) G).map λz=>oJ z (DP z)
 |n+1,.own o=>kp .own (Q9 (λx=>EM (Bs h kx n x)) (h o)) (kx o)
 |_+1,.mp o=>kp .mp (XE (h o)) (kx o)
 |n+1,.ptr o 0=>kp (λj=> .ptr j 0) (X7 (λx=>EM (Bs h kx n x)) (h o)) (kx o)
 |_+1,.ptr o (p+1)=>kp (λj=> .ptr j (p+1)) none (kx o)
 |_+1,.eptr o i p=>kp (λj=> .eptr j i p) none (kx o)
 |_+1,.ch o=>kp .ch none (kx o)
 |_+1,.it o=>kp .it none (kx o)
 |_+1,.osl o a n=>kp (λj=> .osl j a n) none (kx o)
 |n+1,.clo g a c=>JA g (AA (Bs h kx n) a) (AA (Bs h kx n) c)
section
variable {S:Ay}{f:AV->Option D}
def nB(hf: ∀x d v,f x=some d->Aa S x v->rd S.ok S.hp d v): ∀(cs:List AV) (ds:List D) (vs:List Value),AA f cs=some ds->AR S cs vs->rdl S.ok S.hp ds vs
 |[],ds,vs,h,z=>by
  simp only[AA,AO] at h;subst h;simp only[AR] at z;simp only[rdl];exact z
 |x::cs,ds,vs,h,z=>by
  simp only[AA] at h;simp only[AR] at z;obtain⟨v,r,rfl,O,Q⟩:=z;split at h
  .rename_i y ys Z G;obtain rfl:=AC h;simp only[rdl];exact⟨v,r,rfl,hf x y v Z O,nB hf cs ys r G Q⟩
  .cases h
def Ud(hf: ∀x d v,f x=some d->Aa S x v->rd S.ok S.hp d v): ∀(cs:List AV) (ds:List D) (vs:List Value),AA f cs=some ds->CA S cs vs->rdp S.ok S.hp ds vs
 |[],ds,vs,h,z=>by
  simp only[AA,AO] at h;subst h;simp only[rdp]
 |x::cs,ds,vs,h,z=>by
  simp only[AA] at h;simp only[CA] at z;obtain⟨v,r,rfl,O,Q⟩:=z;split at h
  .rename_i y ys Z G;obtain rfl:=AC h;simp only[rdp];exact⟨v,r,rfl,hf x y v Z O,Ud hf cs ys r G Q⟩
  .cases h
def fT{α β:Type}{g:α->Option β}: ∀(cs:List α) (ds:List β),AA g cs=some ds->ds.length=cs.length
 |[],ds,h=>by simp only[AA,AO] at h;subst h;rfl
 |x::cs,ds,h=>by
  simp only[AA] at h;split at h
  .rename_i y G O z;obtain rfl:=AC h;simp[fT cs G z]
  .cases h
def Ue(hf: ∀x d v,f x=some d->Aa S x v->rd S.ok S.hp d v){k:Nat}: ∀(Q:List (List AV)) (ds:List (List D)) (vs:List Value),AA (AA f) Q=some ds->BG S k Q vs->rdr S.ok S.hp k ds vs
 |[],ds,vs,h,z=>by
  simp only[AA,AO] at h;subst h;simp only[rdr]
 |x::Z,ds,vs,h,z=>by
  simp only[AA] at h;simp only[BG] at z;split at h
  .rename_i y ys O G;obtain rfl:=AC h;simp only[rdr];exact⟨by rw[fT x y O];exact z.1,Ud hf x y vs O z.2.1,Ue hf Z ys _ G z.2.2⟩
  .cases h
def Qv8{o:Nat}{e:Au}{k:Nat}{rows:List (List D)}{v:Value}(he:S.h o=some e)(hl:e.2.len=rows.length)(Q: ∀l,S.ρ o=some l->S.ok l.b)
 (z:match S.ρ o with|none=>rows=[]|some Z=>rows.length<=IN/\rows.length<=Z.cap/\ ∃O T,S.hp Z.b=some (.cells O T (0,0))/\rdr S.ok S.hp k rows (O.toList.drop Z.p))(G:Aa S (.own o) v):rd S.ok S.hp (.sl false k rows) v:=by
 simp only[Aa] at G;have G:=G.2 e he;simp only[rd];cases hr:S.ρ o with
 |none=>rw[hr] at G z;exact .inl ⟨.inl G,z⟩
 |some l=>
  rw[hr] at G z;obtain⟨h0,h1,O,T,h2,h3⟩:=z;exact .inr ⟨l.b,l.p,l.cap,O,T,(0,0),by rw[<-hl];exact G,by simp,h1,h0,Q l hr,h2,h3⟩
end
def Mp{C:Ba}{S:Ay}(hW:Wf C S){f:AV->Option D}(hf: ∀x d v,f x=some d->Aa S x v->rd S.ok S.hp d v){o:Nat}{d:D}{v:Value}(O: ∀e l,S.h o=some e->e.2.isView=false->S.ρ o=some l->S.ok l.b)
 (h:Q9 f (S.h o)=some d)(hc:Aa S (.own o) v):rd S.ok S.hp d v:=by
 cases ho:S.h o with
 |none=>rw[ho] at h;simp[Q9] at h
 |some e=>
  rw[ho] at h;obtain⟨mu,e⟩:=e;have z:=hW.obj o _ ho;cases e<;>simp only[Q9,reduceCtorEq] at h
  .obtain rfl:=AC h;simp only[Ap] at z;refine Qv8 ho rfl (λl hl=>O _ l ho rfl hl) ?_ hc;cases hr:S.ρ o with
   |none=>rw[hr] at z;exact z.2
   |some l=>
    rw[hr] at z;obtain⟨h0,Q,vs,h2,_,Z⟩:=z;exact⟨h0,Q,vs,_,h2,Z⟩
  .simp only[Da] at h;obtain⟨rows,Q,rfl⟩:=h;have G:=fT _ _ Q;simp only[Ap] at z;refine Qv8 ho (by simp[Ah.len,G]) (λl hl=>O _ l ho rfl hl) ?_ hc;cases hr:S.ρ o with
   |none=>rw[hr] at z;rw[z.2] at G;exact RN.1 (by simpa using G)
   |some l=>
    rw[hr] at z;obtain⟨h0,h2,vs,Z,_,h4⟩:=z;exact⟨by omega,by omega,vs,_,Z,Ue hf _ _ _ Q h4⟩
def Td{C:Ba}{S:Ay}(hW:Wf C S){o:Nat}{d:D}{v:Value}(Q: ∀e l,S.h o=some e->e.2.isView=false->S.ρ o=some l->S.ok l.b)
 (h:XE (S.h o)=some d)(hc:Aa S (.mp o) v):rd S.ok S.hp d v:=by
 cases ho:S.h o with
 |none=>rw[ho] at h;simp[XE] at h
 |some e=>
  rw[ho] at h;obtain⟨mu,e⟩:=e;have O:=hW.obj o _ ho;cases e<;>simp only[XE,reduceCtorEq] at h;obtain rfl:=AC h;simp only[Ap] at O;obtain⟨lc,G,z,Z,h2,h3,h4⟩:=O;simp only[Aa] at hc;obtain⟨l,hl,hv⟩:=hc.2 _ ho;rw[Z] at hl;obtain rfl:=AC hl;simp only[rd];exact⟨lc.b,G,z,hv,h2,Q _ lc ho rfl Z,h3,h4⟩
def Y3{C:Ba}{S:Ay}(hW:Wf C S){f:AV->Option D}(hf: ∀x d v,f x=some d->Aa S x v->rd S.ok S.hp d v){o:Nat}{d:D}{v:Value}(G: ∀e l,S.h o=some e->e.2.isView=false->S.ρ o=some l->S.ok l.b)
 (h:X7 f (S.h o)=some d)(Z:Aa S (.ptr o 0) v):rd S.ok S.hp d v:=by
 cases ho:S.h o with
 |none=>rw[ho] at h;simp[X7] at h
 |some e=>
  rw[ho] at h;obtain⟨mu,e⟩:=e;have z:=hW.obj o _ ho;cases e<;>simp only[X7,reduceCtorEq] at h;simp only[Da] at h;obtain⟨ds,h1,rfl⟩:=h;simp only[Ap] at z;obtain⟨O,vs,Q,h3,h4,h5⟩:=z;simp only[Aa] at Z;obtain⟨l,hl,hv⟩:=Z.2 _ ho;rw[Q] at hl;obtain rfl:=AC hl;simp only[rd];refine⟨O.b,O.p+0,vs,_,_,hv,G _ O ho rfl Q,h4,?_⟩;rw[h3];simpa using X2 _ _ (nB hf _ _ _ h1 h5)
def uA{g:AV->Option AV}: ∀(cs O:List AV) (ds:List D),AA g cs=some O->DP O=some ds->AA (λx=>EM (g x)) cs=some ds
 |[],O,ds,h,G=>by
  simp only[AA,AO] at h;subst h;simpa[DP,AA] using G
 |x::cs,O,ds,h,G=>by
  simp only[AA] at h;split at h
  .rename_i z Z hz Q;obtain rfl:=AC h;simp only[DP] at G;cases hy:z.asD with
   |none=>rw[hy] at G;simp[O1] at G
   |some d=>
    cases hys:DP Z with
    |none=>rw[hy,hys] at G;simp[O1] at G
    |some es=>
     rw[hy,hys] at G;simp only[O1,AO] at G;subst G;have h9:=uA cs Z es Q hys;have h8:EM (g x)=some d:=by rw[hz];exact hy
     simp only[AA,h8,h9]
  .cases h
def OI{x:Option AV}{d:D}(h:EM x=some d):x=some (.im d):=by
 cases x with
 |none=>cases h
 |some x=>
  simp only[EM] at h;cases x<;>simp only[AV.asD,reduceCtorEq] at h;obtain rfl:=AC h;rfl
def bL{x:Nat->AV}{d:Option D}{k:Option Nat}{e:D}(O: ∀j,x j≠ .im e)(h:kp x d k=some (.im e)):k=none/\d=some e:=by
 cases k with
 |some j=>
  simp only[kp,AO] at h;exact absurd h (O j)
 |none=>
  simp only[kp,Da] at h;obtain⟨d',z,G⟩:=h;cases G;exact⟨rfl,z⟩
def S5{C:Ba}{S:Ay}(hW:Wf C S){kx:Nat->Option Nat}(Q: ∀o e l,kx o=none->S.h o=some e->e.2.isView=false->S.ρ o=some l->S.ok l.b):
 ∀(n:Nat) (x:AV) (d:D) (v:Value),Bs S.h kx n x=some (.im d)->Aa S x v->rd S.ok S.hp d v:=by
 intro n;induction n with
 |zero=>intro x d v h;simp[Bs] at h
 |succ n ih=>
  have hf: ∀x d v,EM (Bs S.h kx n x)=some d->Aa S x v->rd S.ok S.hp d v:=λx d v h O=>ih x d v (OI h) O
  intro x d v h O;cases x with
  |im d'=>
   simp only[Bs,AO,AV.im.injEq] at h;subst h;simpa only[Aa] using O
  |any=>simp[Bs] at h
  |agg Z=>
   simp only[Bs,Da] at h;obtain⟨ys,G,z⟩:=h;simp only[Aa] at O;obtain⟨vs,rfl,h3⟩:=O;cases ha:DP ys with
   |none=>rw[ha] at z;simp[YS] at z
   |some ds=>
    rw[ha] at z;simp only[YS,AV.im.injEq] at z;subst z;simp only[rd];exact⟨vs,rfl,nB hf Z ds _ (uA Z ys ds G ha) h3⟩
  |tup Z=>
   simp only[Bs,Da] at h;obtain⟨ys,G,z⟩:=h;simp only[Aa] at O;obtain⟨vs,rfl,h3⟩:=O;cases ha:DP ys with
   |none=>rw[ha] at z;simp[oJ] at z
   |some ds=>
    rw[ha] at z;simp only[oJ,AV.im.injEq] at z;subst z;simp only[rd];exact⟨vs,rfl,nB hf Z ds _ (uA Z ys ds G ha) h3⟩
  |own o=>
   simp only[Bs] at h;obtain⟨G,z⟩:=bL (by simp) h;exact Mp hW hf (λe l=>Q o e l G) z O
  |mp o=>
   simp only[Bs] at h;obtain⟨G,z⟩:=bL (by simp) h;exact Td hW (λe l=>Q o e l G) z O
  |ptr o p=>
   cases p with
   |zero=>
    simp only[Bs] at h;obtain⟨G,z⟩:=bL (by simp) h;exact Y3 hW hf (λe l=>Q o e l G) z O
   |succ p=>
    simp only[Bs] at h;obtain⟨G,z⟩:=bL (by simp) h;cases z
  |eptr o i p=>
   simp only[Bs] at h;obtain⟨G,z⟩:=bL (by simp) h;cases z
  |ch o=>
   simp only[Bs] at h;obtain⟨G,z⟩:=bL (by simp) h;cases z
  |it o=>
   simp only[Bs] at h;obtain⟨G,z⟩:=bL (by simp) h;cases z
  |osl o a k=>
   simp only[Bs] at h;obtain⟨G,z⟩:=bL (by simp) h;cases z
  |clo g a c=>
   simp only[Bs] at h;cases ha:AA (Bs S.h kx n) a with
   |none=>rw[ha] at h;simp[JA] at h
   |some a'=>
    cases hcc:AA (Bs S.h kx n) c with
    |none=>rw[ha,hcc] at h;simp[JA] at h
    |some c'=>
     rw[ha,hcc] at h;simp only[JA,AO] at h;cases G:DP a' with
     |none=>rw[G] at h;simp[jN] at h
     |some ds=>
      cases z:DP c' with
      |none=>rw[G,z] at h;simp[jN] at h
      |some es=>
       rw[G,z] at h;simp only[jN,AV.im.injEq] at h;subst h;simp only[Aa] at O;obtain⟨va,vc,rfl,h3,h4⟩:=O;simp only[rd];exact⟨va,vc,rfl,nB hf a ds _ (uA a a' ds ha G) h3,nB hf c es _ (uA c c' es hcc z) h4⟩
def Qrr{C:Ba}{S S':Ay}(hW:Wf C S){kx:Nat->Option Nat}{τ:Nat->Nat}(ac: ∀b,S.ok b->S'.ok b/\S'.hp b=S.hp b)(ab: ∀o e l,kx o=none->S.h o=some e->e.2.isView=false->S.ρ o=some l->S.ok l.b)
 (Q: ∀o j,kx o=some j-> ∀e',S'.h (τ j)=some e'-> ∃e,S.h o=some e/\S'.ρ (τ j)=S.ρ o/\e'.2.esz=e.2.esz/\e'.2.len=e.2.len):
 ∀(n:Nat) (x y:AV) (v:Value),Bs S.h kx n x=some y->Aa S x v->Aa S' (y.ren τ) v:=by
 intro n;induction n with
 |zero=>intro x y v h;simp[Bs] at h
 |succ n ih=>
  have hm: ∀(cs ys:List AV) (vs:List Value),AA (Bs S.h kx n) cs=some ys->AR S cs vs->AR S' (Bd τ ys) vs:=by
   intro cs;induction cs with
   |nil=>
    intro ys vs h G;simp only[AA,AO] at h;subst h;simpa only[Bd,AR] using G
   |cons x cs af=>
    intro ys vs h G;simp only[AA] at h;simp only[AR] at G;obtain⟨v,r,rfl,Z,h2⟩:=G;split at h
    .rename_i z zs hz ad;obtain rfl:=AC h;simp only[Bd,AR];exact⟨v,r,rfl,ih x z v hz Z,af zs r ad h2⟩
    .cases h
  intro x y v h G;have hB: ∀d,y= .im d->Aa S' (y.ren τ) v:=by
   intro d hd;subst hd;simp only[AV.ren,Aa];exact Hf ac d v (S5 hW ab (n+1) x d v h G)
  have hK: ∀(f:Nat->AV) (g:Option D) (o:Nat),kp f g (kx o)=some y->(∀j,kx o=some j->Aa S' ((f j).ren τ) v)->Aa S' (y.ren τ) v:=by
   intro f g o Z h2;cases hk:kx o with
   |none=>
    rw[hk] at Z;simp only[kp,Da] at Z;obtain⟨d,_,rfl⟩:=Z;exact hB d rfl
   |some j=>
    rw[hk] at Z;simp only[kp,AO] at Z;rw[<-Z];exact h2 j hk
  cases x with
  |im d=>
   simp only[Bs,AO] at h;exact hB d h.symm
  |any=>
   simp only[Bs,AO] at h;subst h;simp only[AV.ren,Aa]
  |agg cs=>
   have h0:=h;simp only[Bs,Da] at h0;obtain⟨ys,Z,h2⟩:=h0;cases ha:DP ys with
   |some ds=>rw[ha] at h2;exact hB _ h2.symm
   |none=>
    rw[ha] at h2;simp only[Aa] at G;obtain⟨vs,rfl,h3⟩:=G;rw[<-h2];simp only[YS,AV.ren,Aa];exact⟨vs,rfl,hm cs ys _ Z h3⟩
  |tup cs=>
   have h0:=h;simp only[Bs,Da] at h0;obtain⟨ys,Z,h2⟩:=h0;cases ha:DP ys with
   |some ds=>rw[ha] at h2;exact hB _ h2.symm
   |none=>
    rw[ha] at h2;simp only[Aa] at G;obtain⟨vs,rfl,h3⟩:=G;rw[<-h2];simp only[oJ,AV.ren,Aa];exact⟨vs,rfl,hm cs ys _ Z h3⟩
  |own o=>
   have h0:=h;simp only[Bs] at h0;refine hK _ _ o h0 ?_;intro j hj;simp only[Aa,AV.ren] at G⊢;refine⟨G.1,?_⟩;intro e' O;obtain⟨e,he,hr,_,hl⟩:=Q o j hj e' O;rw[hr,hl];exact G.2 e he
  |mp o=>
   have h0:=h;simp only[Bs] at h0;refine hK _ _ o h0 ?_;intro j hj;simp only[Aa,AV.ren] at G⊢;refine⟨G.1,?_⟩;intro e' O;obtain⟨e,he,hr,_,hl⟩:=Q o j hj e' O;rw[hr];exact G.2 e he
  |ptr o p=>
   have hp: ∀j,kx o=some j->Aa S' ((AV.ptr j p).ren τ) v:=by
    intro j hj;simp only[Aa,AV.ren] at G⊢;refine⟨G.1,?_⟩;intro e' O;obtain⟨e,he,hr,_,hl⟩:=Q o j hj e' O;rw[hr];exact G.2 e he
   cases p with
   |zero=>
    have h0:=h;simp only[Bs] at h0;exact hK _ _ o h0 hp
   |succ p=>
    have h0:=h;simp only[Bs] at h0;exact hK _ _ o h0 hp
  |eptr o i p=>
   have h0:=h;simp only[Bs] at h0;refine hK _ _ o h0 ?_;intro j hj;simp only[Aa,AV.ren] at G⊢;refine⟨G.1,?_⟩;intro e' O;obtain⟨e,he,hr,hz,hl⟩:=Q o j hj e' O;rw[hr,hz];exact G.2 e he
  |ch o=>
   have h0:=h;simp only[Bs] at h0;refine hK _ _ o h0 ?_;intro j hj;simp only[Aa,AV.ren] at G⊢;refine⟨G.1,?_⟩;intro e' O;obtain⟨e,he,hr,_,hl⟩:=Q o j hj e' O;rw[hr];exact G.2 e he
  |it o=>
   have h0:=h;simp only[Bs] at h0;refine hK _ _ o h0 ?_;intro j hj;simp only[Aa,AV.ren] at G⊢;refine⟨G.1,?_⟩;intro e' O;obtain⟨e,he,hr,_,hl⟩:=Q o j hj e' O;rw[hr];exact G.2 e he
  |osl o a k=>
   have h0:=h;simp only[Bs] at h0;refine hK _ _ o h0 ?_;intro j hj;simp only[Aa,AV.ren] at G⊢;refine⟨G.1,?_⟩;intro e' O;obtain⟨e,he,hr,hz,hl⟩:=Q o j hj e' O;rw[hr,hz,hl];exact G.2 e he
  |clo g a c=>
   have h0:=h;simp only[Bs] at h0;cases ha:AA (Bs S.h kx n) a with
   |none=>rw[ha] at h0;simp[JA] at h0
   |some a'=>
    cases hcc:AA (Bs S.h kx n) c with
    |none=>rw[ha,hcc] at h0;simp[JA] at h0
    |some c'=>
     rw[ha,hcc] at h0;simp only[JA,AO] at h0;have aa:y= .clo g a' c'->Aa S' (y.ren τ) v:=by
      intro hy;subst hy;simp only[Aa] at G;obtain⟨va,vc,rfl,h3,h4⟩:=G;simp only[AV.ren,Aa];exact⟨va,vc,rfl,hm a a' _ ha h3,hm c c' _ hcc h4⟩
     cases Z:DP a' with
     |none=>rw[Z] at h0;exact aa (by rw[<-h0];rfl)
     |some ds=>
      cases h2:DP c' with
      |none=>rw[Z,h2] at h0;exact aa (by rw[<-h0];rfl)
      |some es=>rw[Z,h2] at h0;exact hB _ h0.symm
def LZ(ti:TI):Option Au->Option AV
 |some (_,.cells _ z)=>bif (ti.agg||ti.size==1) && z.length==ti.size then some (jO ti.agg z) else none
 |_=>none
def Js(h:Ar)(x:AV):Option TI->Option AV
 |none=>none
 |some ti=>match x with
  | .ptr o 0=>LZ ti (hget h o)
  |_=>none
def KE(P:Program)(s:A8):ResultVar->Option AV
 | .tmp t=>some (A9 s.tm t)
 | .cell a T=>Js s.h (A9 s.tm a) (tI P T)
def DE:List AV->AV
 |[x]=>x
 |xs=> .tup xs
def Sr{P:Program}{C:Ba}{N:Nat}{s:A8}{S:Ay}{a:Act}(hc:Dc C N s S a){x:ResultVar}{r:AV}(z:KE P s x=some r):
 ∃v,(match x with| .tmp t=>pure (a.tmps.getD t undef)| .cell c t=>do loadVar t (<-asAddr (a.tmps.getD c undef)):Sem Value).run P S.w= .ok v S.w/\Aa S r v:=by
 cases x with
 |tmp t=>
  simp only[KE,AO] at z;subst z;exact⟨a.eval (.tmp t),by simp[Act.eval],hc.tm t⟩
 |cell c T=>
  simp only[KE] at z;cases hT:tI P T with
  |none=>rw[hT] at z;simp[Js] at z
  |some ti=>
   rw[hT] at z;simp only[Js] at z;split at z
   .rename_i o ho;cases he:hget s.h o with
    |none=>rw[he] at z;simp[LZ] at z
    |some e=>
     rw[he] at z;obtain⟨mu,e⟩:=e;cases e<;>simp only[LZ,reduceCtorEq] at z;rename_i U cs;cases hb:(ti.agg||ti.size==1) && cs.length==ti.size<;>rw[hb] at z
     .simp at z
     .simp only[C8,AO] at z;subst z;simp only[Bc,Ic,QO] at hb;have hS:S.h o=_:=(hc.h o).trans he;have aa:=hc.wf.obj o _ hS;simp only[Ap] at aa;obtain⟨lc,vs,hl,ac,ab,O⟩:=aa;have h1:=hc.tm c;rw[ho] at h1;simp only[Aa] at h1;obtain⟨l,Q,hv⟩:=h1.2 _ hS;rw[hl] at Q;obtain rfl:=AC Q;have G:=IW _ _ O;have Z:=fM hT (w:=S.w) (b:=lc.b) (p:=0) ab (by simp at G⊢;omega) hb.1;have ad:a.tmps.getD c undef= .pointer (some ⟨lc.b,0,none⟩):=by simpa[Act.eval,ac] using hv
      rw[Ie,GW (by rw[G,hb.2];exact AU _)] at Z;refine⟨if ti.agg then .agg vs.toList.toArray else vs.toList.headD undef,?_,tR O hb.2 hb.1⟩;simp only[ad,asAddr,Sem.run_bind,Sem.run_pure,Result.andThen_ok];exact Z
   .cases z
def sQ{P:Program}{C:Ba}{N:Nat}{s:A8}{S:Ay}{a:Act}(hc:Dc C N s S a){fn:Func}{xs:List AV}(hx:AA (KE P s) fn.results.toList=some xs):
 ∃v,(results fn a.tmps).run P S.w= .ok v S.w/\Aa S (DE xs) v:=by
 have ab: ∀(O:List ResultVar) (xs:List AV),AA (KE P s) O=some xs-> ∃z:List Value,(O.mapM λx=>(match x with
  | .tmp t=>pure (a.tmps.getD t undef)| .cell c t=>do loadVar t (<-asAddr (a.tmps.getD c undef)):Sem Value)).run P S.w= .ok z S.w/\AR S xs z:=by
  intro O;induction O with
  |nil=>
   intro xs h;simp only[AA,AO] at h;subst h;exact⟨[],by simp,by simp only[AR]⟩
  |cons x O ih=>
   intro xs h;simp only[AA] at h;split at h
   .rename_i y ys hy aa;obtain rfl:=AC h;obtain⟨v,Q,G⟩:=Sr hc hy;obtain⟨z,Z,h4⟩:=ih ys aa;refine⟨v::z,?_,by simp only[AR];exact⟨v,z,rfl,G,h4⟩⟩;simp only[List.mapM_cons,Sem.run_bind,Q,Z,Result.andThen_ok,Sem.run_pure]
   .cases h
 obtain⟨z,Q,G⟩:=ab _ _ hx;have hl:=IW _ _ G;have hm:(results fn a.tmps).run P S.w= .ok (if h:z.toArray.size=1 then z.toArray[0] else .tuple z.toArray) S.w:=by
  unfold results;rw[ZeM]
  have: ∀(m:Sem (List Value)),m.run P S.w= .ok z S.w->((Functor.map List.toArray m)>>=λz=>(pure (if h:z.size=1 then z[0] else .tuple z):Sem Value)).run P S.w= .ok (if h:z.toArray.size=1 then z.toArray[0] else .tuple z.toArray) S.w:=by
   intro m hm;rw[Sem.run_bind]
   have:(Functor.map List.toArray m).run P S.w= .ok z.toArray S.w:=by
    rw[map_eq_pure_bind,Sem.run_bind,hm];rfl
   rw[this];rfl
  exact this _ Q
 refine⟨_,hm,?_⟩;cases xs with
 |nil=>
  simp only[AR] at G;subst G;simp only[DE,Aa];exact⟨#[],by simp,by simp[AR]⟩
 |cons x xs=>
  cases xs with
  |nil=>
   simp only[AR] at G;obtain⟨v,r,rfl,Z,rfl⟩:=G;simpa[DE] using Z
  |cons y xs=>
   have: ¬z.toArray.size=1:=by simp only[OD];simp at hl;omega
   rw[dif_neg this];simp only[DE,Aa];exact⟨_,rfl,G⟩
def entry:Nat->List AV->List (Nat×AV)
 |_,[]=>[]
 |i,x::r=>(i,x)::entry (i+1) r
def lV{S:Ay}: ∀(args:List AV) (vs:List Value) (i t:Nat),AR S args vs->Aa S (A9 (entry i args) t) (if i<=t then (vs[t - i]?).getD undef else undef)
 |[],vs,i,t,_=>by simp[entry,A9,Aa]
 |x::args,vs,i,t,h=>by
  simp only[AR] at h;obtain⟨v,r,rfl,G,O⟩:=h;simp only[entry,A9];cases hq:i==t
  .have Q:i≠t:=by simpa using hq
   have:=lV args r (i+1) t O
   simp only[Cy];by_cases z:i+1<=t
   .rw[Al z] at this;rw[Al (by omega)];have e:t - i=(t - (i+1))+1:=by omega
    rw[e];simpa using this
   .rw[Ag z] at this;rw[Ag (by omega)];exact this
  .have:i=t:=by simpa using hq
   subst this;simpa using G
def mC: ∀(args:List AV) (i t:Nat),∀m∈(A9 (entry i args) t).nms,m∈Ax args
 |[],i,t,m,h=>by simp[entry,A9,AV.nms] at h
 |x::args,i,t,m,h=>by
  simp only[entry,A9] at h;simp only[Ax,B2];cases hq:i==t<;>rw[hq] at h
  .exact .inr (mC args (i+1) t m (by simpa using h))
  .exact .inl (by simpa using h)
def YB:List Nat->Nat->Nat->Option Nat
 |[],_,_=>none
 |x::r,o,k=>bif x==o then some k else YB r o (k+1)
def Iw(k:Nat)(ex:List Nat)(o:Nat):Option Nat:=bif Nat.blt o k then some o else YB ex o k
def DU(f:AV->Option AV):Ah->Option Ah
 | .cells T z=>(AA f z).map (.cells T)
 | .arr T k rows=>some (.arr T k rows)
 | .arrA T k rows=>(AA (AA f) rows).map (.arrA T k)
 | .map O G=>some (.map O G)
 | .chan q cap=>some (.chan q cap)
 | .iter a l=>some (.iter a l)
 | .view z=>some (.view z)
def Jt(j:Nat)(z:Bool):Option Ah->Option Ar->Option Ar
 |some e,some r=>some ((j,(z,e))::r)
 |some _,none=>none
 |none,_=>none
def klE(f:AV->Option AV)(j:Nat)(r:Option Ar):Option Au->Option Ar
 |none=>r
 |some (z,e)=>Jt j z (DU f e) r
def JF(h:Nat->Option Au)(f:AV->Option AV):List Nat->Option Ar
 |[]=>some []
 |j::r=>klE f j (JF h f r) (h j)
def exE(f:AV->Option AV)(j:Nat)(r:Option Ar):Option Au->Option Ar
 |none=>none
 |some (false,_)=>none
 |some (true,e)=>Jt j true (DU f e) r
def JE(h:Nat->Option Au)(f:AV->Option AV):List Nat->Nat->Option Ar
 |[],_=>some []
 |x::r,j=>exE f j (JE h f r (j+1)) (h x)
def Sb:Option Ar->Option Ar->Option Ar
 |some a,some b=>some (a++b)
 |some _,none=>none
 |none,_=>none
def Zq(h:Nat->Option Au)(z:List Nat):Ar->Prop
 |[]=>True
 |(j,e)::r=>(bif z.contains j then True else h j=some e)/\Zq h z r
def Yz(k:Nat):List Nat->Bool
 |[]=>true
 |x::r=>Nat.ble k x && (!r.contains x && Yz k r)
abbrev KI:=AV->Ar->Nat->Prop
def JK(R:KI)(cnt:Nat):Option AV->Option Ar->Prop
 |some r,some H=>R r H cnt
 |some _,none=>False
 |none,_=>False
def dC(k:Nat)(z:List Nat)(H0:Ar)(R:KI)(s:A8)(ex:List Nat)(x:AV):Prop:=
 Yz k ex=true/\Zq (hget s.h) z H0/\JK R ex.length (Bs (hget s.h) (Iw k ex) 9 x) (Sb (JF (hget s.h) (Bs (hget s.h) (Iw k ex) 9) z) (JE (hget s.h) (Bs (hget s.h) (Iw k ex) 9) ex k))
def Np(k:Nat)(G:List Nat)(z:A8->AV->List Nat)(H0:Ar)(R:KI)(s:A8):Option (List AV)->Prop
 |some xs=>dC k G H0 R s (z s (DE xs)) (DE xs)
 |none=>False
def Vd(P:Program)(O:List ResultVar)(k:Nat)(G:List Nat)(z:A8->AV->List Nat)(H0:Ar)(R:KI)(s:A8):Prop:=Np k G z H0 R s (AA (KE P s) O)
def PF(P:Program)(O:List ResultVar)(k:Nat)(G:List Nat)(z:A8->AV->List Nat)(H0:Ar)(R:KI):C4
 | .normal,s=>Vd P O k G z H0 R s
 | .ret,s=>Vd P O k G z H0 R s
 | .exit _,_=>False
def KW(_:A8)(_:AV):List Nat:=[]
def xQ(k:Nat):List Nat->List Nat
 |[]=>[]
 |x::r=>bif Nat.ble k x then x::xQ k r else xQ k r
def xP(k:Nat)(_:A8)(x:AV):List Nat:=xQ k x.nms
def D2(r r':AV):Prop:= ∀(σ:Nat->Nat) (S:Ay) (v:Value),Aa S (r.ren σ) v->Aa S (r'.ren σ) v
def oT(e e':Au):Prop:=e.1=e'.1/\e.2.esz=e'.2.esz/\e.2.len=e'.2.len/\e.2.isView=e'.2.isView/\ ∀(σ:Nat->Nat) (S:Ay) (l:Option FX),Ap S l (e.2.ren σ)->Ap S l (e'.2.ren σ)
def dK:Ar->Ar->Prop
 |[],[]=>True
 |(j,e)::r,(j',e')::r'=>j=j'/\oT e e'/\dK r r'
 |[],_::_=>False
 |_::_,[]=>False
def D2.refl(r:AV):D2 r r:=λ_ _ _ h=>h
def oT.refl(e:Au):oT e e:=⟨rfl,rfl,rfl,rfl,λ_ _ _ h=>h⟩
def dK.refl: ∀(H:Ar),dK H H
 |[]=>trivial
 |(_,e)::r=>⟨rfl,oT.refl e,dK.refl r⟩
def dK.get: ∀{H H':Ar},dK H H'-> ∀n,(hget H' n=none/\hget H n=none)\/ ∃e e',hget H n=some e/\hget H' n=some e'/\oT e e'
 |[],[],_,n=> .inl ⟨rfl,rfl⟩
 |(j,e)::r,(j',e')::r',h,n=>by
  obtain⟨rfl,z,G⟩:=h;simp only[hget];cases hq:j==n
  .simpa using dK.get G n
  .exact .inr ⟨e,e',by simp,by simp,z⟩
def sg(os:List Nat)(nx j:Nat):Nat:=match os[j]? with
 |some o=>o
 |none=>nx+(j - os.length)
def Bp(σ:Nat->Nat):Ar->Ar
 |[]=>[]
 |(j,(z,e))::r=>(σ j,(z,e.ren σ))::Bp σ r
def vZ{σ:Nat->Nat}: ∀{H:Ar} {n:Nat} {e':Au},hget (Bp σ H) n=some e'-> ∃j e,(j,e)∈H/\σ j=n/\e'=(e.1,e.2.ren σ)
 |[],n,e',h=>by simp[Bp,hget] at h
 |(j,(Q,e))::r,n,e',h=>by
  simp only[Bp,hget] at h;cases hq:σ j==n<;>rw[hq] at h
  .obtain⟨j',x,z,G,O⟩:=vZ (H:=r) (by simpa using h);exact⟨j',x,by simp[z],G,O⟩
  .simp only[C8,AO] at h;exact⟨j,(Q,e),by simp,by simpa using hq,h.symm⟩
def qJ{σ:Nat->Nat}(hσ: ∀i j,σ i=σ j->i=j): ∀(H:Ar) (j:Nat),hget (Bp σ H) (σ j)=(hget H j).map λe=>(e.1,e.2.ren σ)
 |[],j=>rfl
 |(i,(Q,e))::r,j=>by
  simp only[Bp,hget];by_cases z:i=j
  .subst z;simp
  .have G:(i==j)=false:=by simpa using z
   have O:(σ i==σ j)=false:=by rw[Ih];exact λh=>z (hσ _ _ h)
   rw[G,O];simpa using qJ hσ r j
def fW: ∀{H:Ar} {n:Nat} {e:Au},hget H n=some e->(n,e)∈H
 |[],n,e,h=>by simp[hget] at h
 |(i,x)::r,n,e,h=>by
  simp only[hget] at h;cases hq:i==n<;>rw[hq] at h
  .exact BW _ (fW (by simpa using h))
  .have:i=n:=by simpa using hq
   subst this;simp only[C8,AO] at h;subst h;simp
def Qti{C:Ba}{S S':Ay}(hW:Wf C S){kx:Nat->Option Nat}{τ:Nat->Nat}(Q: ∀b,S.ok b->S'.ok b/\S'.hp b=S.hp b)(ah: ∀o e l,kx o=none->S.h o=some e->e.2.isView=false->S.ρ o=some l->S.ok l.b)
 (ag: ∀o j,kx o=some j-> ∀e',S'.h (τ j)=some e'-> ∃e,S.h o=some e/\S'.ρ (τ j)=S.ρ o/\e'.2.esz=e.2.esz/\e'.2.len=e.2.len)
 {n:Nat}{e e':Ah}(h:DU (Bs S.h kx n) e=some e'):(e'.esz=e.esz/\e'.len=e.len)/\ ∀l,(∀O,l=some O->S'.hp O.b=S.hp O.b)->Ap S l e->Ap S' l (e'.ren τ):=by
 have hm: ∀(cs Z:List AV) (vs:List Value),AA (Bs S.h kx n) cs=some Z->AR S cs vs->AR S' (Bd τ Z) vs:=by
  intro cs;induction cs with
  |nil=>
   intro Z vs h hc;simp only[AA,AO] at h;subst h;simpa only[Bd,AR] using hc
  |cons x cs ad=>
   intro Z vs h hc;simp only[AA] at h;simp only[AR] at hc;obtain⟨v,r,rfl,G,h2⟩:=hc;split at h
   .rename_i z zs hz ac;obtain rfl:=AC h;simp only[Bd,AR];exact⟨v,r,rfl,Qrr hW Q ah ag n x z v hz G,ad zs r ac h2⟩
   .cases h
 have an: ∀(cs Z:List AV) (vs:List Value),AA (Bs S.h kx n) cs=some Z->CA S cs vs->CA S' (Bd τ Z) vs:=by
  intro cs;induction cs with
  |nil=>
   intro Z vs h hc;simp only[AA,AO] at h;subst h;simp only[Bd,CA]
  |cons x cs ad=>
   intro Z vs h hc;simp only[AA] at h;simp only[CA] at hc;obtain⟨v,r,rfl,G,h2⟩:=hc;split at h
   .rename_i z zs hz ac;obtain rfl:=AC h;simp only[Bd,CA];exact⟨v,r,rfl,Qrr hW Q ah ag n x z v hz G,ad zs r ac h2⟩
   .cases h
 have ao: ∀(k:Nat) (rs Z:List (List AV)) (vs:List Value),AA (AA (Bs S.h kx n)) rs=some Z->BG S k rs vs->BG S' k (Z.map (Bd τ)) vs:=by
  intro k rs;induction rs with
  |nil=>
   intro Z vs h hc;simp only[AA,AO] at h;subst h;simp only[Bg,BG]
  |cons x rs ad=>
   intro Z vs h hc;simp only[AA] at h;simp only[BG] at hc;split at h
   .rename_i z zs hz ac;obtain rfl:=AC h;simp only[Bf,BG,Qsc];exact⟨(fT _ _ hz).trans hc.1,an x z _ hz hc.2.1,ad zs _ ac hc.2.2⟩
   .cases h
 cases e<;>simp only[DU] at h
 case view cs=>
  obtain rfl:=AC h;refine⟨⟨rfl,rfl⟩,λl hl h=> ?_⟩;simp only[Ah.ren,Ap] at h⊢;obtain⟨O,vs,T,fr,G,h2,h3⟩:=h;exact⟨O,vs,T,fr,G,(hl O G).trans h2,Wm Q cs _ h3⟩
 case cells T cs=>
  simp only[Da] at h;obtain⟨Z,G,rfl⟩:=h;refine⟨⟨rfl,rfl⟩,λl hl h=> ?_⟩;simp only[Ah.ren,Ap] at h⊢;obtain⟨O,vs,g1,g2,g3,g4⟩:=h;exact⟨O,vs,g1,g2,(hl O g1).trans g3,hm cs Z _ G g4⟩
 case arr T k rows=>
  obtain rfl:=AC h;refine⟨⟨rfl,rfl⟩,λl hl h=> ?_⟩;simp only[Ah.ren,Ap] at h⊢;refine⟨h.1,?_⟩;cases l with
  |none=>exact h.2
  |some O=>
   obtain⟨h0,G,vs,h2,h3,h4⟩:=h;exact⟨G,vs,(hl O rfl).trans h2,h3,aS Q k rows _ h4⟩
 case arrA T k rows=>
  simp only[Da] at h;obtain⟨Z,G,rfl⟩:=h;have af:=fT _ _ G;refine⟨⟨rfl,af⟩,λl hl h=> ?_⟩;simp only[Ah.ren,Ap,Du,af] at h⊢;refine⟨h.1,?_⟩;cases l with
  |none=>
   have:=h.2
   subst this;simp only[AA,AO] at G;subst G;rfl
  |some O=>
   obtain⟨h0,h2,vs,h3,h4,h5⟩:=h;exact⟨h2,vs,(hl O rfl).trans h3,h4,ao k rows Z _ G h5⟩
 case map kt es=>
  obtain rfl:=AC h;refine⟨⟨rfl,rfl⟩,λl hl h=> ?_⟩;simp only[Ah.ren,Ap] at h⊢;obtain⟨O,ab,aa,G,h0,h2,h3,h4⟩:=h;exact⟨O,ab,aa,G,h0,(hl O G).trans h2,L7 Q es _ h3,h4⟩
 case chan q cap=>
  obtain rfl:=AC h;refine⟨⟨rfl,rfl⟩,λl hl h=> ?_⟩;simp only[Ah.ren,Ap] at h⊢;obtain⟨O,am,ak,ai,G,h2,h3⟩:=h;exact⟨O,am,ak,ai,G,(hl O G).trans h2,L8 Q q _ h3⟩
 case iter last left=>
  obtain rfl:=AC h;refine⟨⟨rfl,rfl⟩,λl hl h=> ?_⟩;simp only[Ah.ren,Ap] at h⊢;obtain⟨O,mb,ab,aa,aj,G,h2,h0,h3,h4,h5,h6,h7⟩:=h;exact⟨O,mb,ab,aa,aj,G,(Q mb h2).1,Qly Q last h0,(Q mb h2).2.trans h3,(hl O G).trans h4,h5,h6,L7 Q left _ h7⟩
def OW{f:AV->Option AV}{e e':Ah}(h:DU f e=some e'):e'.isView=e.isView:=by
 cases e<;>simp only[DU,Da,AO] at h
 .obtain⟨_,_,rfl⟩:=h;rfl
 .subst h;rfl
 .obtain⟨_,_,rfl⟩:=h;rfl
 all_goals subst h;rfl
def Le(d d':D):Prop:= ∀ok hp v,rd ok hp d v->rd ok hp d' v
def Di:List D->List D->Prop
 |[],[]=>True
 |d::r,d'::r'=>Le d d'/\Di r r'
 |[],_::_=>False
 |_::_,[]=>False
def Le.refl(d:D):Le d d:=λ_ _ _ h=>h
def Di.refl: ∀(ds:List D),Di ds ds
 |[]=>trivial
 |d::ds=>⟨Le.refl d,Di.refl ds⟩
def Di.len: ∀{a b:List D},Di a b->a.length=b.length
 |[],[],_=>rfl
 |_::_,_::_,h=>by simp[Di.len h.2]
def Di.rdl: ∀{a b:List D},Di a b-> ∀ok hp z,Ae.rdl ok hp a z->Ae.rdl ok hp b z
 |[],[],_,ok,hp,z,h=>h
 |_::_,_::_,G,ok,hp,z,h=>by
  simp only[Ae.rdl] at h⊢;obtain⟨v,r,rfl,O,Q⟩:=h;exact⟨v,r,rfl,G.1 _ _ _ O,Di.rdl G.2 _ _ _ Q⟩
def HO:List D->List D->Prop
 |_,[]=>True
 |d::r,d'::r'=>Le d d'/\HO r r'
 |[],_::_=>False
def HO.rdp: ∀{a b:List D},HO a b-> ∀ok hp z,Ae.rdp ok hp a z->Ae.rdp ok hp b z
 |_,[],_,ok,hp,z,h=>by simp only[Ae.rdp]
 |_::_,_::_,G,ok,hp,z,h=>by
  simp only[Ae.rdp] at h⊢;obtain⟨v,r,rfl,O,Q⟩:=h;exact⟨v,r,rfl,G.1 _ _ _ O,HO.rdp G.2 _ _ _ Q⟩
 |[],_::_,h,_,_,_,_=>h.elim
def Di.leP: ∀{a b:List D},Di a b->HO a b
 |[],[],_=>trivial
 |_::_,_::_,h=>⟨h.1,Di.leP h.2⟩
def HO.refl(a:List D):HO a a:=(Di.refl a).leP
def HO.trans_take: ∀{n:Nat} {a b:List D},Di (a.take n) b->HO a b
 |0,a,[],_=>by cases a<;>trivial
 |_+1,[],[],_=>trivial
 |n+1,x::a,y::b,h=>⟨h.1,HO.trans_take (n:=n) h.2⟩
 |n+1,x::a,[],h=>h.elim
 |n+1,[],y::b,h=>h.elim
 |0,a,y::b,h=>by cases a<;>exact h.elim
def aH{a b:List D}(h:Di a b):Le (.agg a) (.agg b):=by
 intro ok hp v z;simp only[Ae.rd] at z⊢;obtain⟨O,rfl,G⟩:=z;exact⟨O,rfl,h.rdl _ _ _ G⟩
def Lh{a b:List D}(h:Di a b):Le (.tup a) (.tup b):=by
 intro ok hp v z;simp only[Ae.rd] at z⊢;obtain⟨O,rfl,G⟩:=z;exact⟨O,rfl,h.rdl _ _ _ G⟩
def WG:List (List D)->List (List D)->Prop
 |[],[]=>True
 |r::G,r'::z=>Di r r'/\WG G z
 |[],_::_=>False
 |_::_,[]=>False
def WG.len: ∀{a b:List (List D)},WG a b->a.length=b.length
 |[],[],_=>rfl
 |_::_,_::_,h=>by simp[WG.len h.2]
def WG.rdr: ∀{a b:List (List D)} {k k':Nat},WG a b->(∀r∈b,r.length=k')-> ∀ok hp z,Ae.rdr ok hp k a z->Ae.rdr ok hp k' b z
 |[],[],_,_,_,_,ok,hp,z,h=>by simp only[Ae.rdr]
 |r::rs,r'::aa,k,k',G,Q,ok,hp,z,h=>by
  simp only[Ae.rdr] at h⊢;have Z:=G.1.len;have O:=Q r' (by simp)
  have:k=k':=by rw[<-h.1,Z,O]
  subst this;exact⟨O,G.1.leP.rdp _ _ _ h.2.1,WG.rdr G.2 (λx hx=>Q x (by simp[hx])) _ _ _ h.2.2⟩
def Fh{nz:Bool}{k k':Nat}{a b:List (List D)}(h:WG a b)(hk: ∀r∈b,r.length=k'):Le (.sl nz k a) (.sl false k' b):=by
 intro ok hp v O;simp only[Ae.rd] at O⊢;rcases O with ⟨z,G⟩|⟨Q,p,cap,vs,T,Z,z,G,h3,h4,h5,h6,h7⟩
 .subst G;cases b with
  |nil=>exact .inl ⟨PQ z,rfl⟩
  |cons _ _=>exact h.elim
 .exact .inr ⟨Q,p,cap,vs,T,Z,by rw[<-h.len];exact z,by simp,by rw[<-h.len];exact h3,by rw[<-h.len];exact h4,h5,h6,h.rdr hk _ _ _ h7⟩
def Wr{g:FuncId}{a b:List D}(h:Di a b):Le (.fn g [] a) (.fn g [] b):=by
 intro ok hp v z;simp only[Ae.rd] at z⊢;obtain⟨x,y,G,O,Q⟩:=z;exact⟨x,y,G,O,h.rdl _ _ _ Q⟩
def TR{g:FuncId}{a b:List D}(h:Di a b):Le (.fn g a []) (.fn g b []):=by
 intro ok hp v z;simp only[rd] at z⊢;obtain⟨x,c,rfl,G,O⟩:=z;exact⟨x,c,rfl,h.rdl _ _ _ G,O⟩
def aY{a b:List D}(h:HO a b):Le (.ref a) (.ref b):=by
 intro ok hp v z;simp only[Ae.rd] at z⊢;obtain⟨G,p,vs,T,O,Q,Z,h3,h4⟩:=z;exact⟨G,p,vs,T,O,Q,Z,h3,h.rdp _ _ _ h4⟩
def AX{A:Type}(f:List D->Option A):List (List D)->Option (List A)
 |[]=>some []
 |r::z=>match f r,AX f z with
  |some x,some xs=>some (x::xs)
  |_,_=>none
def KA{A:Type}{f:List D->Option A}{e:A->List D}(h: ∀x,f (e x)=some x): ∀(l:List A),AX f (l.map e)=some l
 |[]=>rfl
 |x::l=>by simp only[Bf,AX,h x,KA h l]
def EZ{A:Type}{f:List D->Option A}{e:A->List D}(h: ∀ds x,f ds=some x->Di ds (e x)): ∀(rows:List (List D)) (l:List A),AX f rows=some l->WG rows (l.map e)
 |[],l,z=>by simp only[AX,AO] at z;subst z;trivial
 |r::Q,l,z=>by
  simp only[AX] at z;split at z
  .rename_i x xs O G;obtain rfl:=AC z;exact⟨h r x O,EZ h Q xs G⟩
  .cases z
abbrev AG:=List AV->(Nat->Option Au)->Nat->Aj->Prop
def tab:List (Nat×AG)->D4
 |[],_,_,_,_,_=>False
 |p::r,g,args,h,nx,K=>if p.1=g then p.2 args h nx K else tab r g args h nx K
def H6(P:Program)(g:Nat)(c:AG):Prop:= ∀args h nx K,c args h nx K->mP P g/\ ∃r E,Ra P g args h nx r E/\K r E
def Rf{P:Program}: ∀(l:List (Nat×AG)),(∀p∈l,H6 P p.1 p.2)->Kc P (tab l)
 |[],_=>λ_ _ _ _ _ h=>h.elim
 |p::r,G=>by
  intro g args h nx K z;simp only[tab] at z;split at z
  .rename_i O;subst O;exact G p (by simp) args h nx K z
  .exact Rf r (λq hq=>G q (by simp[hq])) g args h nx K z
def GC(P:Program)(g:Nat):Bool:=match P.funcs[g]? with
 |some fn=>Nat.blt g 1000000000 && (!(fn.name== "runtime.NumGoroutine") && !fn.body.isNone)
 |none=>false
def Oy{P:Program}{g:Nat}(h:GC P g=true):mP P g:=by
 unfold GC at h;split at h
 .rename_i fn hf;simp only[Bc,LL] at h;exact⟨by simpa using h.1,fn,hf,h.2.1,h.2.2⟩
 .cases h
inductive PK where
 |val (d:D)
 |ptr (cs:List D)
def Dn:Nat->List PK->List AV
 |_,[]=>[]
 |j,.val d::r=> .im d::Dn j r
 |j,.ptr _::r=> .ptr j 0::Dn (j+1) r
def Dm:Nat->List PK->Ar
 |_,[]=>[]
 |j,.val _::r=>Dm j r
 |j,.ptr z::r=>(j,(false,.view z))::Dm (j+1) r
def BT:List PK->Nat
 |[]=>0
 | .val _::r=>BT r
 | .ptr _::r=>BT r+1
def I4(S:Ay):PK->Value->Prop
 | .val d,v=>rd S.ok S.hp d v
 | .ptr G,v=> ∃b p z T O,v= .pointer (some ⟨b,p,none⟩)/\b<S.w.heap.size/\S.hp b=some (.cells z T O)/\rdp S.ok S.hp G (z.toList.drop p)
def EV(S:Ay):List PK->List Value->Prop
 |[],z=>z=[]
 |p::G,z=> ∃v r,z=v::r/\I4 S p v/\EV S G r
def C9:PK->PK->Prop
 | .val d,.val d'=>Le d d'
 | .ptr a,.ptr b=>HO a b
 | .val _,.ptr _=>False
 | .ptr _,.val _=>False
def BY:List PK->List PK->Prop
 |[],[]=>True
 |p::r,p'::r'=>C9 p p'/\BY r r'
 |[],_::_=>False
 |_::_,[]=>False
def C9.c{S:Ay}{p p':PK}{v:Value}(h:C9 p p')(z:I4 S p v):I4 S p' v:=by
 cases p<;>cases p'<;>simp only[C9] at h<;>simp only[I4] at z⊢
 .exact h _ _ _ z
 .obtain⟨b,p,vs,T,G,O,Q,Z,h4⟩:=z;exact⟨b,p,vs,T,G,O,Q,Z,h.rdp _ _ _ h4⟩
def BY.c{S:Ay}: ∀{a b:List PK} {vs:List Value},BY a b->EV S a vs->EV S b vs
 |[],[],_,_,h=>h
 |_::_,_::_,vs,z,h=>by
  simp only[EV] at h⊢;obtain⟨v,r,rfl,G,O⟩:=h;exact⟨v,r,rfl,z.1.c G,BY.c z.2 O⟩
def C9.refl(p:PK):C9 p p:=by cases p;exact Le.refl _;exact HO.refl _
def BY.refl: ∀(a:List PK),BY a a
 |[]=>trivial
 |p::a=>⟨C9.refl p,BY.refl a⟩
def EV.len{S:Ay}: ∀{ps:List PK} {vs:List Value},EV S ps vs->vs.length=ps.length
 |[],vs,h=>by simp only[EV] at h;simp[h]
 |_::_,vs,h=>by
  simp only[EV] at h;obtain⟨v,r,rfl,_,z⟩:=h;simp[EV.len z]
def aO: ∀(j:Nat) (ps:List PK),(Dn j ps).length=ps.length
 |_,[]=>rfl
 |j,.val _::r=>by simp[Dn,aO j r]
 |j,.ptr _::r=>by simp[Dn,aO (j+1) r]
def G3: ∀(j:Nat) (ps:List PK) (n:Nat) (e:Au),hget (Dm j ps) n=some e->(j<=n/\n<j+BT ps)/\ ∃z,e=(false,.view z)
 |_,[],n,e,h=>by simp[Dm,hget] at h
 |j,.val _::r,n,e,h=>by simpa[Dm,BT] using G3 j r n e h
 |j,.ptr z::r,n,e,h=>by
  simp only[Dm,hget] at h;simp only[BT];cases hq:j==n<;>rw[hq] at h
  .obtain⟨O,G⟩:=G3 (j+1) r n e (by simpa using h);exact⟨by omega,G⟩
  .have:j=n:=by simpa using hq
   simp only[C8,AO] at h;exact⟨by omega,z,h.symm⟩
def tK: ∀(j:Nat) (ps:List PK) (n:Nat),j+BT ps<=n-> ∀m∈Ax (Dn j ps),m<n
 |_,[],n,_,m,z=>by simp[Dn,Ax] at z
 |j,.val _::r,n,h,m,z=>by
  simp only[Dn,Ax,AV.nms,Dv] at z;exact tK j r n h m z
 |j,.ptr _::r,n,h,m,z=>by
  simp only[Dn,Ax,AV.nms,B2,BL] at z;simp only[BT] at h;rcases z with rfl|z
  .omega
  .exact tK (j+1) r n (by omega) m z
def nA{S:Ay}: ∀(ps:List PK) (vs:List Value) (j:Nat),EV S ps vs-> ∃Q:Nat->Option FX,
 (∀n e,hget (Dm j ps) n=some e-> ∃l,Q n=some l/\l.b<S.w.heap.size/\Ap S (some l) e.2)/\
 ∀(z:Ay),z.ok=S.ok->z.w=S.w->(∀n,(∃e,hget (Dm j ps) n=some e)->z.ρ n=Q n/\z.h n=hget (Dm j ps) n)->AR z (Dn j ps) vs
 |[],vs,j,h=>by
  simp only[EV] at h;exact⟨λ_=>none,λn e G=>by simp[Dm,hget] at G,λz _ _ _=>by simp only[Dn,AR];exact h⟩
 | .val d::ps,vs,j,h=>by
   simp only[EV] at h;obtain⟨v,r,rfl,h1,h2⟩:=h;obtain⟨Q,h3,h4⟩:=nA ps r j h2;refine⟨Q,by simpa only[Dm] using h3,?_⟩;intro z O hw hS;simp only[Dn,AR,Aa];refine⟨v,r,rfl,?_,h4 z O hw (by simpa only[Dm] using hS)⟩
   have:z.hp=S.hp:=by unfold Ay.hp;rw[hw]
   rw[O,this];exact h1
 | .ptr cs::ps,vs,j,h=>by
   simp only[EV] at h;obtain⟨v,r,rfl,h1,h2⟩:=h;obtain⟨Q,h3,h4⟩:=nA ps r (j+1) h2;obtain⟨b,p,cells,T,fr,rfl,hb,hc,hr⟩:=h1;refine⟨λn=>if n=j then some ⟨b,p,0⟩ else Q n,?_,?_⟩
   .intro n e G;simp only[Dm,hget] at G;cases hq:j==n<;>rw[hq] at G
    .have:n≠j:=λh'=>by subst h';simp at hq
     simp only[Ag this];exact h3 n e (by simpa using G)
    .have:n=j:=(by simpa using hq:j=n).symm
     simp only[C8,AO] at G;subst G;simp only[Al this];refine⟨_,rfl,hb,?_⟩;simp only[Ap];exact⟨_,cells,T,fr,rfl,hc,hr⟩
   .intro z O hw hS;simp only[Dn,AR,Aa];refine⟨_,r,rfl,⟨rfl,?_⟩,h4 z O hw ?_⟩
    .intro e G;have hj:=hS j ⟨(false,.view cs),by simp only[Dm,hget,wQ,C8]⟩;rw[hj.1];simp
    .rintro n ⟨e,G⟩;have hn:=(G3 (j+1) ps n e G).1;have Z:n≠j:=by omega
     have hq:(j==n)=false:=by rw[Ih];exact λh=>Z h.symm
     have:=hS n ⟨e,by simp only[Dm,hget,hq,Cy];exact G⟩
     simp only[Ag Z,Dm,hget,hq,Cy] at this;exact this
def VU{P:Program}(HM:P.follows .mixedOrders=true){V:D4}(hV:Kc P V){g:FuncId}{fn:Func}{c:Code}(hf:P.funcs[g]? =some fn)(O:fn.body=some c)(ah:E0 fn.ntmps c=true)
 {ps:List PK}(a9:ps.length<=fn.ntmps){R:KI}{r0:D}(hR: ∀r H n,R r H n-> ∃d,r= .im d/\Le d r0)
 (hk:D6 P V c (PF P fn.results.toList (BT ps) [] KW (Dm 0 ps) R) ⟨entry 0 (Dn 0 ps),Dm 0 ps,BT ps⟩)
 {C:Ba}{S:Ay}{vs:Array Value}{RR:Ending->World->Prop}(hW:Wf C S)(am:EV S ps vs.toList)
 (aj: ∀v S',Wf C S'->S'.h=S.h->BA (λ_=>True) S S'->rd S'.ok S'.hp r0 v->RR (.returned v) S'.w):Calls P g vs S.w RR:=by
 refine calls_of_wp hf O ?_;have a8:vs.size=(Dn 0 ps).length:=by rw[aO];simpa using am.len
 obtain⟨ls,ak,aw⟩:=nA ps vs.toList 0 am
 let S0:Ay:=⟨ls,S.ok,hget (Dm 0 ps),S.w⟩
 let C0:Ba:=⟨S.w,λ_=>False,S.ok,0,λ_=>none,λ_=>none,[]⟩
 have au:Wf C0 S0:=by
  refine⟨rfl,rfl,rfl,AU _,AU _,λ_ _ _=>rfl,λ_ O=>O,λ_ O=> .inl O,hW.oks,?_,?_,?_,hW.glN λ_ h=>h.elim⟩
  .intro n e z;obtain⟨l,G,_,h3⟩:=ak n e z;have h4:S0.ρ n=some l:=G;rw[h4];obtain⟨_,cs,rfl⟩:=G3 0 ps n e z;simp only[Ap] at h3⊢;exact h3
  .intro n e l z hl;obtain⟨l',G,h2,h3⟩:=ak n e z;have h4:S0.ρ n=some l':=G;rw[h4] at hl;obtain rfl:=AC hl;obtain⟨_,cs,rfl⟩:=G3 0 ps n e z;exact⟨h2,.inr rfl⟩
  .intro n n' e e' l l' z ad hl bc bb ax;obtain⟨_,cs,rfl⟩:=G3 0 ps n e z;obtain⟨_,ba,rfl⟩:=G3 0 ps n' e' ad;simp at ax
 have av:BR C0 fn.ntmps ⟨entry 0 (Dn 0 ps),Dm 0 ps,BT ps⟩ {tmps:=vs++Array.replicate (fn.ntmps - vs.size) undef,defers:=[]} S.w:=by
  have aa:AR S0 (Dn 0 ps) vs.toList:=aw S0 rfl rfl (λn _=>⟨rfl,rfl⟩);refine⟨S0,rfl,au,λn=>rfl,?_,?_,?_,by simp;rw[aO] at a8;omega,rfl,BV _,λo ho=>absurd ho (wZ _)⟩
  .intro t;have G:=lV (S:=S0) (Dn 0 ps) vs.toList 0 t aa;simp only[BV,Bb,bZ] at G
   have:({tmps:=vs++Array.replicate (fn.ntmps - vs.size) undef,defers:=[]}:Act).eval (.tmp t)=(vs.toList[t]?).getD undef:=by
    simp only[Act.eval,Ib,wT,iE];by_cases ht:t<vs.size
    .simp[ht]
    .simp only[ht,CN]
     have:vs[t]? =none:=XR (by omega)
     simp only[Hq,this]
     split<;>rfl
   rw[this];exact G
  .intro t m hm;exact tK 0 ps (BT ps) (by omega) m (mC (Dn 0 ps) 0 t m hm)
  .intro n e z;obtain⟨G,cs,rfl⟩:=G3 0 ps n e z;exact⟨by show n<BT ps;omega,by simp[Ah.nms]⟩
 refine wp_mono (Qo4 HM (gL hV) c ah _ _ _ _ hk av) ?_;have fin: ∀(s:A8) (a:Act) (w:World),Vd P fn.results.toList (BT ps) [] KW (Dm 0 ps) R s->BR C0 fn.ntmps s a w->a.defers=[]/\ ∃v,(results fn a.tmps).run P w= .ok v w/\RR (.returned v) w:=by
  rintro s a w hr ⟨S1,rfl,hc⟩;unfold Vd at hr;cases hxs:AA (KE P s) fn.results.toList with
  |none=>rw[hxs] at hr;exact hr.elim
  |some xs=>
   rw[hxs] at hr;simp only[Np] at hr;obtain⟨v,an,ac⟩:=sQ hc hxs;refine⟨hc.defers,v,an,?_⟩;obtain⟨_,_,Z⟩:=hr;have ao:hget s.h=S1.h:=(funext hc.h).symm;rw[ao] at Z
   let kx:=Iw (BT ps) (KW s (DE xs))
   have ag:Wf C0 (S1.ice λ_=>false):=Wo hc.wf;have af: ∀(f:AV->Option D) (o:Nat),Q9 f ((S1.ice λ_=>false).h o)=Q9 f (S1.h o)/\XE ((S1.ice λ_=>false).h o)=XE (S1.h o)/\X7 f ((S1.ice λ_=>false).h o)=X7 f (S1.h o):=by
    intro f o;rw[show (S1.ice λ_=>false).h o=(S1.h o).map λe=>(e.1 && false,e.2) from rfl];cases S1.h o with
    |none=>exact⟨rfl,rfl,rfl⟩
    |some e=>obtain⟨mu,e⟩:=e;cases e<;>exact⟨rfl,rfl,rfl⟩
   have ai: ∀(n:Nat),Bs (S1.ice λ_=>false).h kx n=Bs S1.h kx n:=by
    intro n;induction n with
    |zero=>funext x;simp[Bs]
    |succ n ih=>
     funext x;cases x with
     |own o=>simp only[Bs,ih,(af _ o).1]
     |mp o=>simp only[Bs,(af (λ_=>none) o).2.1]
     |ptr o p=>cases p<;>simp only[Bs,ih,(af _ o).2.2]
     |_=>simp only[Bs,ih]
   cases hcv:Bs S1.h kx 9 (DE xs) with
   |none=>rw[hcv] at Z;exact Z.elim
   |some r=>
    rw[hcv] at Z;have ab: ∃H n,R r H n:=by
     simp only[KW,JF,JE,Sb,JK] at Z;exact⟨_,_,Z⟩
    obtain⟨H,n,ab⟩:=ab;obtain⟨d,rfl,ay⟩:=hR _ _ _ ab;have a0:=S5 ag (kx:=kx) (λo e l _ z hv hl=>nC hc.wf rfl z hv hl) 9 (DE xs) d v (by rw[ai];exact hcv) (I5 (H7 S1 _) _ _ (λ_ _=>trivial) ac);have G:=ag;have Q: ∀b,b<S.w.heap.size->S1.w.heap[b]? =S.w.heap[b]? :=λb O=>hc.wf.keep b O (λh=>h)
    let S':Ay:={S with ok:=(S1.ice λ_=>false).ok,w:=S1.w}
    have hp:BA (λ_=>True) S S':=⟨λb O=>⟨G.ok0 b O,Q b (hW.oks b O)⟩,λo _ e' ad=>⟨e',ad,rfl,rfl,rfl⟩⟩;have aq:Wf C S':=by
     refine⟨G.os.trans hW.os,G.tape.trans hW.tape,G.output.trans hW.output,CW hW.dr G.dr,CW hW.size G.size,?_,λb O=>G.ok0 b (hW.ok0 b O),?_,G.oks,?_,?_,hW.inj,hW.gl⟩
     .intro b O hM;exact (Q b (FC O hW.size)).trans (hW.keep b O hM)
     .intro b O;rcases G.ok1 b O with h|h|h
      .exact hW.ok1 b h
      .exact .inr (.inl (CW hW.size h))
      .exact h.elim
     .intro o e z;exact H9 hp (λlc hl=>Q lc.b (hW.loc o e lc z hl).1) _ (λ_ _=>trivial) (hW.obj o e z)
     .intro o e l z hl;obtain⟨h2,h3⟩:=hW.loc o e l z hl;refine⟨FC h2 G.size,?_⟩;cases hm:e.1 with
      |false=>
       rw[hm] at h3;simp only[Dp,CN] at h3⊢;exact h3.imp (G.ok0 _) id
      |true=>
       rw[hm] at h3;simp only[Bb] at h3⊢;refine⟨λaz=> ?_,h3.2⟩;rcases G.ok1 _ az with h|h|h
       .exact h3.1 h
       .have h:S.w.heap.size<=l.b:=h;omega
       .exact h.elim
    exact aj v S' aq rfl hp (ay _ _ _ a0)
 intro e a w z;cases e<;>simp only[Gv] at z<;>simp only[bodyPost]
 .obtain⟨s,hs,hc⟩:=z;exact fin s a w hs hc
 .obtain⟨s,hs,_⟩:=z;exact hs.elim
 .obtain⟨s,hs,hc⟩:=z;exact fin s a w hs hc
def QQ(o:Nat):Option Au->Option (D×Ar)
 |some (z,.arr T k rows)=>some (.sl false k rows,bif z then [(o,(false,.arr T k rows))] else [])
 |some (_,.cells _ _)=>none
 |some (_,.arrA _ _ _)=>none
 |some (_,.map _ _)=>none
 |some (_,.chan _ _)=>none
 |some (_,.iter _ _)=>none
 |some (_,.view _)=>none
 |none=>none
def QP(o:Nat):Option Au->Option (D×Ar)
 |some (O,.map G z)=>some (.mp G z,bif O then [(o,(false,.map G z))] else [])
 |some (_,.cells _ _)=>none
 |some (_,.arr _ _ _)=>none
 |some (_,.arrA _ _ _)=>none
 |some (_,.chan _ _)=>none
 |some (_,.iter _ _)=>none
 |some (_,.view _)=>none
 |none=>none
def oG(f:List D->D):Option (List D×Ar)->Option (D×Ar)
 |some (ds,F)=>some (f ds,F)
 |none=>none
mutual
def ER(h:Nat->Option Au):AV->Option (D×Ar)
 | .im d=>some (d,[])
 | .own o=>QQ o (h o)
 | .mp o=>QP o (h o)
 | .agg z=>oG .agg (Tg h z)
 | .tup z=>oG .tup (Tg h z)
 | .any=>none
 | .ptr _ _=>none
 | .eptr _ _ _=>none
 | .ch _=>none
 | .it _=>none
 | .osl _ _ _=>none
 | .clo _ _ _=>none
def Tg(h:Nat->Option Au):List AV->Option (List D×Ar)
 |[]=>some ([],[])
 |x::r=>Sw (ER h x) (Tg h r)
end
def cY:Option (D×Ar)->Option (PK×Ar)
 |some (d,F)=>some (.val d,F)
 |none=>none
def FV:D->PK
 | .ref z=> .ptr z
 | .int k n=> .val (.int k n)
 | .bool b=> .val (.bool b)
 | .str s=> .val (.str s)
 | .nilp=> .val .nilp
 | .nilf=> .val .nilf
 | .nili=> .val .nili
 | .nilc=> .val .nilc
 | .nilm=> .val .nilm
 | .agg z=> .val (.agg z)
 | .tup z=> .val (.tup z)
 | .sl Q k rows=> .val (.sl Q k rows)
 | .mp O G=> .val (.mp O G)
 | .fn f a b=> .val (.fn f a b)
 | .ifc t d=> .val (.ifc t d)
 | .gp g=> .val (.gp g)
 | .tok g=> .val (.tok g)
def pkC:Option (List D)->Option (PK×Ar)
 |some ds=>some (.ptr ds,[])
 |none=>none
def QV(off:Nat):Option Au->Option (PK×Ar)
 |some (_,.cells _ z)=>pkC (DP (z.drop off))
 |some (_,.view z)=>some (.ptr (z.drop off),[])
 |some (_,.arr _ _ _)=>none
 |some (_,.arrA _ _ _)=>none
 |some (_,.map _ _)=>none
 |some (_,.chan _ _)=>none
 |some (_,.iter _ _)=>none
 |none=>none
def pkR(off:Nat):Option (List D)->Option (PK×Ar)
 |some r=>some (.ptr (r.drop off),[])
 |none=>none
def UI(i off:Nat):Option Au->Option (PK×Ar)
 |some (_,.arr _ _ rows)=>pkR off rows[i]?
 |some (_,.cells _ _)=>none
 |some (_,.view _)=>none
 |some (_,.arrA _ _ _)=>none
 |some (_,.map _ _)=>none
 |some (_,.chan _ _)=>none
 |some (_,.iter _ _)=>none
 |none=>none
def IL(h:Nat->Option Au):AV->Option (PK×Ar)
 | .im d=>some (FV d,[])
 | .ptr o off=>QV off (h o)
 | .own o=>cY (ER h (.own o))
 | .mp o=>cY (ER h (.mp o))
 | .agg z=>cY (ER h (.agg z))
 | .tup z=>cY (ER h (.tup z))
 | .any=>none
 | .eptr o i off=>UI i off (h o)
 | .ch _=>none
 | .it _=>none
 | .osl _ _ _=>none
 | .clo _ _ _=>none
def X8:Option (PK×Ar)->Option (List PK×Ar)->Option (List PK×Ar)
 |some (p,F),some (z,G)=>some (p::z,F++G)
 |some _,none=>none
 |none,_=>none
def Kp(h:Nat->Option Au):List AV->Option (List PK×Ar)
 |[]=>some ([],[])
 |x::r=>X8 (IL h x) (Kp h r)
def EQ{A:Type}(K:A->Prop):Option A->Prop
 |some a=>K a
 |none=>False
def Tb(u:List Nat):Ar->B4
 |[]=>{use:=u}
 |e::r=>{use:=u,kill:=(e::r).map (·.1),new:=e::r}
def aE{A:Type}(ar:List PK->Option A)(pre:A->Prop)(re:A->D)(u:List Nat)(K:Aj):Option (List PK×Ar)->Prop
 |some (z,F)=>EQ (λa=>pre a/\K (.im (re a)) (Tb u F)) (ar z)
 |none=>False
def Ff{A:Type}(ar:List PK->Option A)(pre:A->Prop)(re:A->D):AG:=λargs h _ K=>aE ar pre re (Ax args) K (Kp h args)
def Gw(S:Ay)(F:Ar):Prop:= ∀n e,(n,e)∈F-> ∃z,S.h n=some (z,e.2)/\e.1=false
def Gw.app{S:Ay}{F G:Ar}(O:Gw S F)(Q:Gw S G):Gw S (F++G):=by
 intro n e z;rcases B2.1 z with z|z
 .exact O n e z
 .exact Q n e z
def XF(F:Ar)(X:Nat->Bool):Prop:= ∀n∈F.map (·.1),X n=false
def XF.app{F G:Ar}{X:Nat->Bool}(h:XF (F++G) X):XF F X/\XF G X:=by
 unfold XF at*;simp only[CV,B2] at h;exact⟨λn hn=>h n (.inl hn),λn hn=>h n (.inr hn)⟩
section
variable {C:Ba}{S:Ay}{h:Nat->Option Au}
def Ti(hW:Wf C S){o:Nat}{d:D}{F:Ar}{v:Value}(hh:S.h o=h o)(hd:QQ o (h o)=some (d,F))(hc:Aa S (.own o) v):Gw S F/\ ∀X,XF F X->rd (S.ice X).ok (S.ice X).hp d v:=by
 cases ho:h o with
 |none=>rw[ho] at hd;simp[QQ] at hd
 |some e=>
  obtain⟨mu,e⟩:=e;rw[ho] at hd hh;cases e<;>simp only[QQ,reduceCtorEq] at hd;rename_i T k rows;simp only[AO,EF] at hd;obtain⟨rfl,rfl⟩:=hd;refine⟨?_,λX hX=> ?_⟩
  .cases mu with
   |false=>intro n e z;cases z
   |true=>
    intro n e z;simp only[C8,BL,EF] at z;obtain⟨rfl,rfl⟩:=z;exact⟨true,hh,rfl⟩
  .have O:Wf C (S.ice X):=Wo hW;have Z:=I5 (H7 S X) _ _ (λ_ _=>trivial) hc;have z:(S.ice X).h o=some (mu && X o,.arr T k rows):=by
    show (S.h o).map _=_;rw[hh];rfl
   refine Mp (f:=λ_=>none) O (λx d v hx=>by cases hx) ?_ (by rw[z];rfl) Z;intro e' l G hv hl;cases mu with
   |true=>exact nC hW (hX o (by simp)) G hv hl
   |false=>
    rw[z] at G;obtain rfl:=AC G
    have:=(O.loc o _ l z hl).2
    simp only[FT,Dp,CN] at this;rcases this with Q|Q
    .exact Q
    .cases Q
def Th(hW:Wf C S){o:Nat}{d:D}{F:Ar}{v:Value}(hh:S.h o=h o)(hd:QP o (h o)=some (d,F))(hc:Aa S (.mp o) v):Gw S F/\ ∀X,XF F X->rd (S.ice X).ok (S.ice X).hp d v:=by
 cases ho:h o with
 |none=>rw[ho] at hd;simp[QP] at hd
 |some e=>
  obtain⟨mu,e⟩:=e;rw[ho] at hd hh;cases e<;>simp only[QP,reduceCtorEq] at hd;rename_i kt es;simp only[AO,EF] at hd;obtain⟨rfl,rfl⟩:=hd;refine⟨?_,λX hX=> ?_⟩
  .cases mu with
   |false=>intro n e z;cases z
   |true=>
    intro n e z;simp only[C8,BL,EF] at z;obtain⟨rfl,rfl⟩:=z;exact⟨true,hh,rfl⟩
  .have O:Wf C (S.ice X):=Wo hW;have Z:=I5 (H7 S X) _ _ (λ_ _=>trivial) hc;have z:(S.ice X).h o=some (mu && X o,.map kt es):=by
    show (S.h o).map _=_;rw[hh];rfl
   refine Td O ?_ (by rw[z];rfl) Z;intro e' l G hv hl;cases mu with
   |true=>exact nC hW (hX o (by simp)) G hv hl
   |false=>
    rw[z] at G;obtain rfl:=AC G
    have:=(O.loc o _ l z hl).2
    simp only[FT,Dp,CN] at this;rcases this with Q|Q
    .exact Q
    .cases Q
mutual
def pG(hW:Wf C S): ∀(x:AV) (d:D) (F:Ar) (v:Value),(∀n∈x.nms,S.h n=h n)->ER h x=some (d,F)->Aa S x v->Gw S F/\ ∀X,XF F X->rd (S.ice X).ok (S.ice X).hp d v
 | .im d',d,F,v,_,hd,z=>by
   simp only[ER,AO,EF] at hd;obtain⟨rfl,rfl⟩:=hd;simp only[Aa] at z;exact⟨(λn e he=>by cases he),λX _=>Hf (H7 S X).ok _ _ z⟩
 | .own o,d,F,v,O,hd,z=>by
   simp only[ER] at hd;exact Ti hW (O o (by simp[AV.nms])) hd z
 | .mp o,d,F,v,O,hd,z=>by
   simp only[ER] at hd;exact Th hW (O o (by simp[AV.nms])) hd z
 | .agg Q,d,F,v,O,hd,z=>by
   simp only[ER] at hd;cases hl:Tg h Q with
   |none=>rw[hl] at hd;cases hd
   |some q=>
    obtain⟨ds,G⟩:=q;rw[hl] at hd;simp only[oG,AO,EF] at hd;obtain⟨rfl,rfl⟩:=hd;simp only[Aa] at z;obtain⟨Z,rfl,h1⟩:=z;obtain⟨h2,h3⟩:=Qtb hW Q ds G Z.toList (by simpa only[AV.nms] using O) hl h1;exact⟨h2,λX hX=>by simp only[rd];exact⟨Z,rfl,h3 X hX⟩⟩
 | .tup Q,d,F,v,O,hd,z=>by
   simp only[ER] at hd;cases hl:Tg h Q with
   |none=>rw[hl] at hd;cases hd
   |some q=>
    obtain⟨ds,G⟩:=q;rw[hl] at hd;simp only[oG,AO,EF] at hd;obtain⟨rfl,rfl⟩:=hd;simp only[Aa] at z;obtain⟨Z,rfl,h1⟩:=z;obtain⟨h2,h3⟩:=Qtb hW Q ds G Z.toList (by simpa only[AV.nms] using O) hl h1;exact⟨h2,λX hX=>by simp only[rd];exact⟨Z,rfl,h3 X hX⟩⟩
 | .any,d,F,v,_,hd,_=>by simp[ER] at hd
 | .ptr _ _,d,F,v,_,hd,_=>by simp[ER] at hd
 | .eptr _ _ _,d,F,v,_,hd,_=>by simp[ER] at hd
 | .ch _,d,F,v,_,hd,_=>by simp[ER] at hd
 | .it _,d,F,v,_,hd,_=>by simp[ER] at hd
 | .osl _ _ _,d,F,v,_,hd,_=>by simp[ER] at hd
 | .clo _ _ _,d,F,v,_,hd,_=>by simp[ER] at hd
def Qtb(hW:Wf C S): ∀(xs:List AV) (ds:List D) (F:Ar) (vs:List Value),(∀n∈Ax xs,S.h n=h n)->Tg h xs=some (ds,F)->AR S xs vs->Gw S F/\ ∀X,XF F X->rdl (S.ice X).ok (S.ice X).hp ds vs
 |[],ds,F,vs,_,hd,z=>by
  simp only[Tg,AO,EF] at hd;obtain⟨rfl,rfl⟩:=hd;simp only[AR] at z;exact⟨(λn e he=>by cases he),λX _=>by simp only[rdl];exact z⟩
 |x::xs,ds,F,vs,Q,hd,z=>by
  simp only[Ax,B2] at Q;simp only[Tg] at hd;simp only[AR] at z;obtain⟨v,r,rfl,h1,h2⟩:=z;cases hx:ER h x with
  |none=>rw[hx] at hd;simp[Sw] at hd
  |some q=>
   obtain⟨d,E⟩:=q;cases hl:Tg h xs with
   |none=>rw[hx,hl] at hd;simp[Sw] at hd
   |some q2=>
    obtain⟨O,G⟩:=q2;rw[hx,hl] at hd;simp only[Sw,AO,EF] at hd;obtain⟨rfl,rfl⟩:=hd;obtain⟨a1,a2⟩:=pG hW x d E v (λn hn=>Q n (.inl hn)) hx h1;obtain⟨b1,b2⟩:=Qtb hW xs O G r (λn hn=>Q n (.inr hn)) hl h2;refine⟨a1.app b1,λX hX=> ?_⟩;obtain⟨c1,Z⟩:=hX.app;simp only[rdl];exact⟨v,r,rfl,a2 X c1,b2 X Z⟩
end
def Qyv(hW:Wf C S){d:D}{v:Value}(hd:rd S.ok S.hp d v):I4 S (FV d) v:=by
 cases d<;>try exact hd
 rename_i cs;simp only[rd] at hd;obtain⟨b,p,vs,T,z,G,O,Q,Z⟩:=hd;exact⟨b,p,vs,T,z,G,hW.oks b O,Q,Z⟩
def eR{ok:Nat->Prop}{hp:Nat->Option Obj}{k:Nat}{r:List D}: ∀(rows:List (List D)) (vs:List Value) (i:Nat),rdr ok hp k rows vs->rows[i]? =some r->r.length=k/\rdp ok hp r (vs.drop (i*k))
 |[],_,i,_,h=>by simp at h
 |q::rows,vs,i,h,z=>by
  simp only[rdr] at h;cases i with
  |zero=>
   simp only[Hn,AO] at z;subst z;simpa using ⟨h.1,h.2.1⟩
  |succ i=>
   obtain⟨g1,g2⟩:=eR rows (vs.drop k) i h.2.2 (by simpa using z);rw[EC] at g2;refine⟨g1,?_⟩;rw[oA,nZ (i*k) k];exact g2
def UH(hW:Wf C S){x:AV}{p:PK}{F:Ar}{v:Value}(hh: ∀n∈x.nms,S.h n=h n)(hp:IL h x=some (p,F))(hc:Aa S x v):Gw S F/\ ∀X,XF F X->I4 (S.ice X) p v:=by
 have aa:cY (ER h x)=some (p,F)->Gw S F/\ ∀X,XF F X->I4 (S.ice X) p v:=by
  intro hp;cases hx:ER h x with
  |none=>rw[hx] at hp;cases hp
  |some q=>
   obtain⟨d,G⟩:=q;rw[hx] at hp;simp only[cY,AO,EF] at hp;obtain⟨rfl,rfl⟩:=hp;obtain⟨Z,h2⟩:=pG hW x d G v hh hx hc;exact⟨Z,h2⟩
 cases x<;>simp only[IL,reduceCtorEq] at hp
 case eptr o i off=>
  have Q:=hh o (by simp[AV.nms]);cases hn:h o with
  |none=>rw[hn] at hp;simp[UI] at hp
  |some e=>
   obtain⟨mu,e⟩:=e;rw[hn] at hp Q;have z:=hW.obj o _ Q;simp only[Aa] at hc;obtain⟨l,hl,hv⟩:=hc.2 _ Q;have O:=(hW.loc o _ l Q hl).1;cases e<;>simp only[UI,reduceCtorEq] at hp;rename_i T k rows;cases hr:rows[i]? with
   |none=>rw[hr] at hp;cases hp
   |some r=>
    rw[hr] at hp;simp only[pkR,AO,EF] at hp;obtain⟨rfl,rfl⟩:=hp;refine⟨(λn e he=>by cases he),λX _=> ?_⟩;rw[hl] at z;simp only[Ap] at z;obtain⟨_,_,vs,h5,_,h6⟩:=z;obtain⟨g1,g2⟩:=eR rows _ i h6 hr;simp only[I4];refine⟨l.b,l.p+i*k+off,vs,_,_,hv,O,h5,?_⟩;have h7:=Wm (H7 S X).ok _ _ g2;rw[EC] at h7;rcases Zfe off r.length with h8|h8
    .have:=Q7 off r _ h7 h8
     rwa [EC] at this
    .rw[Ee h8];simp only[rdp]
 case im d=>
  simp only[AO,EF] at hp;obtain⟨rfl,rfl⟩:=hp;simp only[Aa] at hc;exact⟨(λn e he=>by cases he),λX _=>Qyv (Wo hW) (Hf (H7 S X).ok _ _ hc)⟩
 case ptr o off=>
  have Q:=hh o (by simp[AV.nms]);cases hn:h o with
  |none=>rw[hn] at hp;simp[QV] at hp
  |some e=>
   obtain⟨mu,e⟩:=e;rw[hn] at hp Q;have z:=hW.obj o _ Q;simp only[Aa] at hc;obtain⟨l,hl,hv⟩:=hc.2 _ Q;have O:=(hW.loc o _ l Q hl).1;cases e<;>simp only[QV,reduceCtorEq] at hp
   case cells T cs=>
    cases ha:DP (cs.drop off) with
    |none=>rw[ha] at hp;cases hp
    |some ds=>
     rw[ha] at hp;simp only[pkC,AO,EF] at hp;obtain⟨rfl,rfl⟩:=hp;refine⟨(λn e he=>by cases he),λX _=> ?_⟩;simp only[Ap] at z;obtain⟨lc,vs,Z,h2,h3,h4⟩:=z;rw[hl] at Z;obtain rfl:=AC Z;simp only[I4];refine⟨l.b,l.p+off,vs,_,_,hv,O,h3,?_⟩;rw[h2,FS];have h5:AR S (cs.drop off) (vs.toList.drop off):=by
      have: ∀(n:Nat) (a:List AV) (b:List Value),AR S a b->AR S (a.drop n) (b.drop n):=by
       intro n;induction n with
       |zero=>intro a b h;simpa using h
       |succ n ih=>
        intro a b h;cases a with
        |nil=>simp only[AR] at h;subst h;simp[AR]
        |cons x a=>
         simp only[AR] at h;obtain⟨v,r,rfl,_,h⟩:=h;simpa using ih a r h
      exact this off cs _ h4
     exact Qse ds _ (L8 (H7 S X).ok _ _ (Qov _ ds _ ha h5))
   case view cs=>
    simp only[AO,EF] at hp;obtain⟨rfl,rfl⟩:=hp;refine⟨(λn e he=>by cases he),λX _=> ?_⟩;simp only[Ap] at z;obtain⟨lc,vs,T,fr,Z,h2,h3⟩:=z;rw[hl] at Z;obtain rfl:=AC Z;simp only[I4];refine⟨l.b,l.p+off,vs,T,fr,hv,O,h2,?_⟩;rw[<-EC]
    have: ∀(n:Nat) (a:List D) (b:List Value),rdp S.ok S.hp a b->rdp S.ok S.hp (a.drop n) (b.drop n):=by
     intro n;induction n with
     |zero=>intro a b h;simpa using h
     |succ n ih=>
      intro a b h;cases a with
      |nil=>simp[rdp]
      |cons x a=>
       simp only[rdp] at h;obtain⟨v,r,rfl,_,h⟩:=h;simpa using ih a r h
    exact Wm (H7 S X).ok _ _ (this off cs _ h3)
 all_goals exact aa hp
def pR(hW:Wf C S): ∀(xs:List AV) (ps:List PK) (F:Ar) (vs:List Value),(∀n∈Ax xs,S.h n=h n)->Kp h xs=some (ps,F)->AR S xs vs->Gw S F/\ ∀X,XF F X->EV (S.ice X) ps vs
 |[],ps,F,vs,_,hd,z=>by
  simp only[Kp,AO,EF] at hd;obtain⟨rfl,rfl⟩:=hd;simp only[AR] at z;exact⟨(λn e he=>by cases he),λX _=>by simp only[EV];exact z⟩
 |x::xs,ps,F,vs,O,hd,z=>by
  simp only[Ax,B2] at O;simp only[Kp] at hd;simp only[AR] at z;obtain⟨v,r,rfl,h1,h2⟩:=z;cases hx:IL h x with
  |none=>rw[hx] at hd;simp[X8] at hd
  |some q=>
   obtain⟨p,E⟩:=q;cases hl:Kp h xs with
   |none=>rw[hx,hl] at hd;simp[X8] at hd
   |some q2=>
    obtain⟨Q,G⟩:=q2;rw[hx,hl] at hd;simp only[X8,AO,EF] at hd;obtain⟨rfl,rfl⟩:=hd;obtain⟨a1,a2⟩:=UH hW (λn hn=>O n (.inl hn)) hx h1;obtain⟨b1,b2⟩:=pR hW xs Q G r (λn hn=>O n (.inr hn)) hl h2;refine⟨a1.app b1,λX hX=> ?_⟩;obtain⟨c1,Z⟩:=hX.app;simp only[EV];exact⟨v,r,rfl,a2 X c1,b2 X Z⟩
end
def Pe(u:List Nat)(F:Ar):(Tb u F).use=u/\(Tb u F).kill=F.map (·.1)/\(Tb u F).new=F/\(Tb u F).cnt=0:=by
 cases F<;>exact⟨rfl,rfl,rfl,rfl⟩
def Fv{B:Type}(rc:D->Option B)(b:B):AV->Prop
 | .im d=>rc d=some b
 | .any=>False
 | .agg _=>False
 | .tup _=>False
 | .ptr _ _=>False
 | .eptr _ _ _=>False
 | .own _=>False
 | .mp _=>False
 | .ch _=>False
 | .it _=>False
 | .osl _ _ _=>False
 | .clo _ _ _=>False
def Na{B:Type}(rc:D->Option B)(b:B):KI:=λr _ _=>Fv rc b r
def aG{P:Program}(HM:P.follows .mixedOrders=true){V:D4}(hV:Kc P V){g:FuncId}{fn:Func}{c:Code}(hf:P.funcs[g]? =some fn)(hb:fn.body=some c)(aa:E0 fn.ntmps c=true)(Z:GC P g=true)
 {A B:Type}{ar:List PK->Option A}{ae:A->List PK}(aj: ∀ps a,ar ps=some a->BY ps (ae a)){n:Nat}(hn: ∀a,(ae a).length=n)(ak:n<=fn.ntmps){rc:D->Option B}{re:B->D}(am: ∀d b,rc d=some b->Le d (re b))
 {pre:A->Prop}{f:A->B}
 (hk: ∀a,pre a->D6 P V c (PF P fn.results.toList (BT (ae a)) [] KW (Dm 0 (ae a)) (Na rc (f a))) ⟨entry 0 (Dn 0 (ae a)),Dm 0 (ae a),BT (ae a)⟩):
 H6 P g (Ff ar pre λa=>re (f a)):=by
 intro args h nx K z;unfold Ff at z;cases hp:Kp h args with
 |none=>rw[hp] at z;exact z.elim
 |some q=>
  obtain⟨ps,F⟩:=q;rw[hp] at z;simp only[aE] at z;cases ha:ar ps with
  |none=>rw[ha] at z;exact z.elim
  |some a=>
   rw[ha] at z;simp only[EQ] at z;obtain⟨ac,hK⟩:=z;refine⟨Oy Z,_,_,?_,hK⟩;obtain⟨e1,e2,e3,e4⟩:=Pe (Ax args) F;intro C S vs RR hW G ad af O ab;rw[e1,e2] at G;obtain⟨h1,h2⟩:=pR hW args ps F vs.toList (λn hn=>G n (IG _ hn)) hp O
   let X:Nat->Bool:=λn=> !(F.map (·.1)).contains n
   have hX:XF F X:=by
    intro n hn;simp only[X,Jl.2 hn,nV]
   have ah:Wf C (S.ice X):=Wo hW;have Q:(S.ice X).h=(Tb (Ax args) F).appf S.h:=by
    have:=T8 (S:=S) (F:=F) (u:=Ax args) h1
    rw[show (Tb (Ax args) F).appf S.h=({use:=Ax args,kill:=F.map (·.1),new:=F}:B4).appf S.h by
     funext m;simp only[B4.appf,e2,e3]]
    exact this
   refine VU HM hV hf hb aa (S:=S.ice X) (ps:=ae a) (r0:=re (f a)) (by rw[hn];exact ak) ?_ (hk a ac) ah ((aj ps a ha).c (h2 X hX)) ?_
   .intro r H n hr;unfold Na at hr;cases r<;>simp only[Fv] at hr;exact⟨_,rfl,am _ _ hr⟩
   .intro v S' ag hh hp' an;refine ab v S' ag (by rw[hh,Q]) ?_ (by simp only[Aa];exact an);refine⟨λb hb=> ?_,λo _ e' ai=> ?_⟩
    .obtain⟨q1,q2⟩:=(H7 S X).ok b hb;obtain⟨q3,q4⟩:=hp'.ok b q1;exact⟨q3,q4.trans q2⟩
    .obtain⟨e,q1,q2,q3,q4⟩:=hp'.nm o trivial e' ai;obtain⟨e0,q5,q6,q7,q8⟩:=(H7 S X).nm o trivial e q1;exact⟨e0,q5,q2.trans q6,q3.trans q7,q4.trans q8⟩
def Db(σ:Nat->Nat)(k nx j:Nat):Nat:=if j<k then σ j else nx+(j - k)
def An(H0:Ar)(o:Nat):Bool:=(hget H0 o).isSome
def YI(H0:Ar)(k cnt:Nat)(exB:Nat->Bool)(o:Nat):Option Nat:=bif An H0 o||(exB o && (Nat.ble k o && Nat.blt o (k+cnt))) then some o else none
def SM(f:AV->Option AV)(e:Au):Option Au->Prop
 |some (G,z)=>G=e.1/\DU f z=some e.2
 |none=>False
def HZ(h:Nat->Option Au)(f:AV->Option AV):Ar->Prop
 |[]=>True
 |(j,e)::r=>SM f e (h j)/\HZ h f r
def JL(h:Nat->Option Au)(klB:Nat->Bool):Ar->Prop
 |[]=>True
 |(j,e)::r=>(bif klB j then True else h j=some e)/\JL h klB r
def Nm(R:AV->Prop):Option AV->Prop
 |some r=>R r
 |none=>False
def dB(k cnt:Nat)(H0 H1:Ar)(klB exB:Nat->Bool)(R:AV->Prop)(s:A8)(x:AV):Prop:=
 JL (hget s.h) klB H0/\Nm R (Bs (hget s.h) (YI H0 k cnt exB) 9 x)/\HZ (hget s.h) (Bs (hget s.h) (YI H0 k cnt exB) 9) H1
def Nl(k cnt:Nat)(H0 H1:Ar)(klB exB:Nat->Bool)(R:AV->Prop)(s:A8):Option (List AV)->Prop
 |some xs=>dB k cnt H0 H1 klB exB R s (DE xs)
 |none=>False
def I0(P:Program)(z:List ResultVar)(k cnt:Nat)(H0 H1:Ar)(klB exB:Nat->Bool)(R:AV->Prop)(s:A8):Prop:=Nl k cnt H0 H1 klB exB R s (AA (KE P s) z)
def NT(P:Program)(z:List ResultVar)(k cnt:Nat)(H0 H1:Ar)(klB exB:Nat->Bool)(R:AV->Prop):C4
 | .normal,s=>I0 P z k cnt H0 H1 klB exB R s
 | .ret,s=>I0 P z k cnt H0 H1 klB exB R s
 | .exit _,_=>False
def yR(P:Program)(z:List ResultVar)(k cnt:Nat)(H0 H1:Ar)(klB exB:Nat->Bool)(R:AV->Prop)(s:A8):Prop:=
 ∃(F:List Nat) (π:List (Nat×Option Nat)) (s':A8),Am k π (Tf F s) s'/\s'.good=true/\k<=s'.nx/\I0 P z k cnt H0 H1 klB exB R s'
def AD(P:Program)(z:List ResultVar)(k cnt:Nat)(H0 H1:Ar)(klB exB:Nat->Bool)(R:AV->Prop):C4
 | .normal,s=>yR P z k cnt H0 H1 klB exB R s
 | .ret,s=>yR P z k cnt H0 H1 klB exB R s
 | .exit _,_=>False
def Nr{h:Nat->Option Au}{klB:Nat->Bool}: ∀(H:Ar),JL h klB H-> ∀j e,(j,e)∈H->klB j=false->h j=some e
 |[],_,j,e,z,_=>by cases z
 |(i,x)::r,G,j,e,z,Q=>by
  simp only[JL] at G;rcases Bw.1 z with z|z
  .cases z;have O:=G.1;rw[Q] at O;exact O
  .exact Nr r G.2 j e z Q
def Qve{h:Nat->Option Au}{f:AV->Option AV}: ∀(H:Ar),HZ h f H-> ∀j e,(j,e)∈H-> ∃G,h j=some G/\e.1=G.1/\DU f G.2=some e.2
 |[],_,j,e,z=>by cases z
 |(i,x)::r,Q,j,e,z=>by
  simp only[HZ] at Q;rcases Bw.1 z with z|z
  .cases z;have O:=Q.1;cases hq:h i with
   |none=>rw[hq] at O;exact O.elim
   |some y=>
    obtain⟨Z,G⟩:=y;rw[hq] at O;exact⟨(Z,G),rfl,O.1.symm,O.2⟩
  .exact Qve r Q.2 j e z
def Qv5{σ:Nat->Nat}{D:Nat->Prop}(hσ: ∀i j,D i->D j->σ i=σ j->i=j): ∀(H:Ar),(∀p∈H,D p.1)-> ∀(j:Nat),D j->hget (Bp σ H) (σ j)=(hget H j).map λe=>(e.1,e.2.ren σ)
 |[],_,j,_=>rfl
 |(i,(Z,e))::r,hH,j,G=>by
  simp only[Bp,hget];by_cases z:i=j
  .subst z;simp
  .have O:(i==j)=false:=by simpa using z
   have Q:(σ i==σ j)=false:=by rw[Ih];exact λh=>z (hσ _ _ (hH _ (BS ..)) G h)
   rw[O,Q];simpa using Qv5 hσ r (λp hp=>hH p (BW _ hp)) j G
def yM{P:Program}(HM:P.follows .mixedOrders=true){V:D4}(hV:Kc P V){g:FuncId}{fn:Func}{c:Code}(hf:P.funcs[g]? =some fn)(hb:fn.body=some c)(b9:E0 fn.ntmps c=true)
 {args:List AV}{H0 H1:Ar}{k cnt:Nat}(c6:args.length<=fn.ntmps)(hbel:AQ k args=true)(hbH:AB k H0=true)(hkH:Cg k H0=true)
 (bu: ∀j e,hget H0 j=some e-> ∀m∈e.2.nms,An H0 m=true)
 {klB exB:Nat->Bool}{R:AV->Prop}{r0:AV}
 (hR: ∀r,R r->D2 r r0)
 (hH1: ∀p∈H1,(p.1<k/\klB p.1=true/\An H0 p.1=true)\/(k<=p.1/\p.1<k+cnt/\exB p.1=true/\p.2.1=true))
 {Q:C4}(hQ: ∀(C:Ba) (N:Nat) (a:Act) (w:World) (s:A8),C.n0=k->BR C N s a w->Q .normal s\/Q .ret s-> ∃s',BR C N s' a w/\I0 P fn.results.toList k cnt H0 H1 klB exB R s')
 (cn: ∀i s,¬Q (.exit i) s)
 (hk:D6 P V c Q ⟨entry 0 args,H0,k⟩)
 {h:Nat->Option Au}{nx:Nat}{τ:Nat->Nat}(cc: ∀i j,An H0 i=true->An H0 j=true->τ i=τ j->i=j)(cy: ∀j,An H0 j=true->τ j<nx)
 (hH: ∀j e,hget H0 j=some e->h (Db τ k nx j)=some (e.1,e.2.ren (Db τ k nx)))
 {U KL:List Nat}(hU: ∀j,An H0 j=true->τ j∈U)(c5: ∀n∈KL,∃j,An H0 j=true/\klB j=true/\n=τ j)(b8: ∀j,An H0 j=true->klB j=true->τ j∈KL):
 Ra P g (Bd (Db τ k nx) args) h nx (r0.ren (Db τ k nx)) {use:=U,kill:=KL,new:=Bp (Db τ k nx) H1,cnt:=cnt}:=by
 intro C S vs RR hW ci am bj a0 cb
 let σ:=Db τ k nx
 let DD:Nat->Prop:=λj=>An H0 j=true\/k<=j
 have ai: ∀j e,hget H0 j=some e->An H0 j=true:=λj e he=>by unfold An;rw[he];rfl
 have aj: ∀j,An H0 j=true-> ∃e,hget H0 j=some e:=λj O=>by
  unfold An at O;cases hq:hget H0 j with
  |none=>rw[hq] at O;cases O
  |some e=>exact⟨e,rfl⟩
 have ao: ∀j,An H0 j=true->j<k:=λj O=>by
  obtain⟨e,he⟩:=aj j O;exact tG _ hkH j e he
 have hσlo: ∀j,j<k->σ j=τ j:=λj O=>Al O
 have hσge: ∀j,k<=j->σ j=nx+(j - k):=λj O=>Ag (by omega)
 have hσin: ∀j,An H0 j=true->σ j∈U:=λj O=>by rw[hσlo j (ao j O)];exact hU j O
 have hσlt: ∀j,An H0 j=true->σ j<nx:=λj O=>by rw[hσlo j (ao j O)];exact cy j O
 have hσinj: ∀i j,DD i->DD j->σ i=σ j->i=j:=by
  intro i j hi O h;rcases hi with hi|hi<;>rcases O with O|O
  .rw[hσlo i (ao i hi),hσlo j (ao j O)] at h;exact cc i j hi O h
  .have:=hσlt i hi
   rw[h,hσge j O] at this;omega
  .have:=hσlt j O
   rw[<-h,hσge i hi] at this;omega
  .rw[hσge i hi,hσge j O] at h;omega
 have hS: ∀j e,hget H0 j=some e->S.h (σ j)=some (e.1,e.2.ren σ):=by
  intro j e he;rw[ci (σ j) (IG _ (hσin j (ai j e he)))];exact hH j e he
 refine calls_of_wp hf hb ?_;have cj:=IW _ _ a0;have c8:vs.size=args.length:=by rw[Qsc] at cj;simpa using cj
 let S0:Ay:=⟨λj=>S.ρ (σ j),S.ok,hget H0,S.w⟩
 let M0:Nat->Prop:=λb=> ∃j e l,hget H0 j=some e/\e.1=true/\S.ρ (σ j)=some l/\l.b=b
 let C0:Ba:=⟨S.w,M0,S.ok,k,hget H0,λj=>S.ρ (σ j),[]⟩
 have bf: ∀n,O5 S S0 σ (λn=>n) n:=by
  intro n;refine⟨λe' z=>⟨_,hS n e' z,rfl,?_,?_⟩⟩
  .exact (Qr6 σ e'.2).symm
  .exact (Qs6 σ e'.2).symm
 have bn: ∀b,S.ok b->S0.ok b/\S0.hp b=S.hp b:=λb hb=>⟨hb,rfl⟩
 have cq:Wf C0 S0:=by
  refine⟨rfl,rfl,rfl,AU _,AU _,λ_ _ _=>rfl,λ_ hb=>hb,λ_ hb=> .inl hb,hW.oks,?_,?_,?_,hW.glN (by rintro b ⟨j,e,l,G,Z,h3,rfl⟩;have h4:=(hW.loc _ _ l (hS j e G) h3).2;rw[show (e.1,e.2.ren σ).1=true from Z] at h4;simp only[Bb] at h4;exact h4.1)⟩
  .intro j e he;have G:=hW.obj _ _ (hS j e he);have Z:=Qzw (τ:=λn=>n) bn (λ_ _=>rfl) e.2 (λn _=>bf n) G;rwa [Qwc] at Z
  .intro j e l he hl;obtain⟨G,Z⟩:=hW.loc _ _ l (hS j e he) hl;refine⟨G,?_⟩;cases hm:e.1 with
   |false=>
    rw[hm] at Z;have hv:(e.2.ren σ).isView=e.2.isView:=by cases e.2<;>rfl
    simpa[hv] using Z
   |true=>
    rw[hm] at Z;simp only[Bb] at Z⊢;exact⟨Z.1,.inr ⟨j,e,l,he,hm,hl,rfl⟩⟩
  .intro i j e e' l l' he z hl bw af ak;exact hσinj _ _ (.inl (ai _ _ he)) (.inl (ai _ _ z)) (hW.inj _ _ _ _ l l' (hS i e he) (hS j e' z) hl bw af ak)
 have cr:BR C0 fn.ntmps ⟨entry 0 args,H0,k⟩ {tmps:=vs++Array.replicate (fn.ntmps - vs.size) undef,defers:=[]} S.w:=by
  have bg:AR S0 args vs.toList:=by
   have:=fN (τ:=λn=>n) bn args vs.toList (λn _=>bf n) a0
   rwa [aW] at this
  refine⟨S0,rfl,cq,λn=>rfl,?_,?_,λn e he=>⟨tG _ hkH n e he,gB _ hbH n e he⟩,by simp;omega,rfl,AU _,λo _ e' z=>⟨e',z,rfl,rfl,rfl⟩⟩
  .intro t;have G:=lV (S:=S0) args vs.toList 0 t bg;simp only[BV,Bb,bZ] at G
   have:({tmps:=vs++Array.replicate (fn.ntmps - vs.size) undef,defers:=[]}:Act).eval (.tmp t)=(vs.toList[t]?).getD undef:=by
    simp only[Act.eval,Ib,wT,iE];by_cases ht:t<vs.size
    .simp[ht]
    .simp only[ht,CN]
     have:vs[t]? =none:=XR (by omega)
     simp only[Hq,this]
     split<;>rfl
   rw[this];exact G
  .intro t m hm;exact aT args hbel m (mC args 0 t m hm)
 refine wp_mono (Qo4 HM (gL hV) c b9 _ _ _ _ hk cr) ?_;have fin: ∀(s:A8) (a:Act) (w:World),I0 P fn.results.toList k cnt H0 H1 klB exB R s->BR C0 fn.ntmps s a w->a.defers=[]/\ ∃v,(results fn a.tmps).run P w= .ok v w/\RR (.returned v) w:=by
  rintro s a w hr ⟨S1,rfl,hc⟩;unfold I0 at hr;cases hxs:AA (KE P s) fn.results.toList with
  |none=>rw[hxs] at hr;exact hr.elim
  |some xs=>
   rw[hxs] at hr;simp only[Nl] at hr;obtain⟨v,cg,br⟩:=sQ hc hxs;refine⟨hc.defers,v,cg,?_⟩;obtain⟨cf,aw,az⟩:=hr;have co:hget s.h=S1.h:=(funext hc.h).symm;rw[co] at cf aw az
   let kx:=YI H0 k cnt exB
   let X:Nat->Bool:=λo=>(kx o).isSome
   have ab:Wf C0 (S1.ice X):=Wo hc.wf;have ba: ∀o,(S1.ice X).h o=(S1.h o).map λe=>(e.1 && X o,e.2):=λo=>rfl
   have bh: ∀o e l,kx o=none->(S1.ice X).h o=some e->e.2.isView=false->(S1.ice X).ρ o=some l->(S1.ice X).ok l.b:=by
    intro o e l ho he hv hl;exact nC hc.wf (by simp[X,ho]) he hv hl
   have bv: ∀(f:AV->Option D) (o:Nat),Q9 f ((S1.ice X).h o)=Q9 f (S1.h o)/\XE ((S1.ice X).h o)=XE (S1.h o)/\X7 f ((S1.ice X).h o)=X7 f (S1.h o):=by
    intro f o;rw[ba];cases S1.h o with
    |none=>exact⟨rfl,rfl,rfl⟩
    |some e=>obtain⟨mu,e⟩:=e;cases e<;>exact⟨rfl,rfl,rfl⟩
   have bl: ∀(n:Nat),Bs (S1.ice X).h kx n=Bs S1.h kx n:=by
    intro n;induction n with
    |zero=>funext x;simp[Bs]
    |succ n ih=>
     funext x;cases x with
     |own o=>simp only[Bs,ih,(bv _ o).1]
     |mp o=>simp only[Bs,(bv (λ_=>none) o).2.1]
     |ptr o p=>cases p<;>simp only[Bs,ih,(bv _ o).2.2]
     |_=>simp only[Bs,ih]
   rw[<-bl] at aw;have az:HZ S1.h (Bs (S1.ice X).h kx 9) H1:=by rw[bl];exact az
   cases hcv:Bs (S1.ice X).h kx 9 (DE xs) with
   |none=>rw[hcv] at aw;exact aw.elim
   |some r=>
    rw[hcv] at aw;simp only[Nm] at aw;have cm:=hR _ aw;have bi: ∀o j,kx o=some j->j=o/\(An H0 o=true\/(k<=o/\o<k+cnt)):=by
     intro o j O;simp only[kx,YI] at O;cases hq:An H0 o<;>rw[hq] at O
     .cases hq2:(exB o && (Nat.ble k o && Nat.blt o (k+cnt)))<;>rw[hq2] at O
      .cases O
      .simp only[Bc,LM,F5] at hq2;simp only[wX,C8,AO] at O;exact⟨O.symm,.inr hq2.2⟩
     .simp only[wY,C8,AO] at O;exact⟨O.symm,.inl rfl⟩
    have bc: ∀o,An H0 o=true->kx o=some o:=λo ho=>by simp only[kx,YI,ho,wY,C8]
    have ce: ∀o,exB o=true->k<=o->o<k+cnt->kx o=some o:=λo G Z h3=>by
     have:(exB o && (Nat.ble k o && Nat.blt o (k+cnt)))=true:=by simp[G,Z,h3]
     simp only[kx,YI,this,wX,C8]
    have ag: ∀j e',(j,e')∈H1->DD j/\j<k+cnt/\((j<k/\klB j=true/\An H0 j=true)\/(k<=j/\e'.1=true))/\kx j=some j/\ ∃e,S1.h j=some e/\e'.1=e.1/\DU (Bs (S1.ice X).h kx 9) e.2=some e'.2:=by
     intro j e' hm;obtain⟨e0,g1,g2,g3⟩:=Qve H1 az j e' hm;rcases hH1 _ hm with ⟨G,Z,h3⟩|⟨G,Z,h3,h4⟩
     .exact⟨.inl h3,by simp only at G;omega,.inl ⟨G,Z,h3⟩,bc j h3,e0,g1,g2,g3⟩
     .exact⟨.inr G,Z,.inr ⟨G,h4⟩,ce j h3 G Z,e0,g1,g2,g3⟩
    let E:B4:={use:=U,kill:=KL,new:=Bp σ H1,cnt:=cnt}
    let S':Ay:=⟨λn=>if nx<=n/\n<nx+cnt then S1.ρ (n - nx+k) else S.ρ n,(S1.ice X).ok,E.appf S.h,S1.w⟩
    have hρ: ∀j,DD j->j<k+cnt->(∀e,S1.h j=some e->S'.ρ (σ j)=S1.ρ j):=by
     intro j hd O e he;simp only[S'];by_cases au:j<k
     .have cv:An H0 j=true:=hd.resolve_right (by omega);have G:=hσlt j cv;rw[Ag (by omega)];obtain⟨_,_,h3,_⟩:=hc.pre j au e he;exact h3.symm
     .have G:=hσge j (by omega);rw[Al (by rw[G];omega),G];congr 1;omega
    have ah: ∀n e',S'.h n=some e'->(∃j e,n=σ j/\(j,e)∈H1/\hget H1 j=some e/\e'=(e.1,e.2.ren σ))\/(S.h n=some e'/\ ∀j,An H0 j=true->klB j=true->n≠σ j):=by
     intro n e' z;have z:E.appf S.h n=some e':=z;simp only[B4.appf,E] at z;cases hg:hget (Bp σ H1) n with
     |some x=>
      rw[hg] at z;obtain rfl:=AC z;obtain⟨j,e,G,Z,h3⟩:=vZ hg;subst Z;rw[Qv5 hσinj H1 (λp hp=>(ag p.1 p.2 hp).1) j (ag j e G).1] at hg;cases O:hget H1 j with
      |none=>rw[O] at hg;cases hg
      |some y=>
       rw[O] at hg;exact .inl ⟨j,y,rfl,fW O,O,by simpa using hg.symm⟩
     |none=>
      rw[hg] at z;cases hq:KL.contains n<;>rw[hq] at z
      .refine .inr ⟨z,?_⟩;rintro j O cd rfl
       have:=b8 j O cd
       rw[<-hσlo j (ao j O)] at this;rw[Jl.2 this] at hq;cases hq
      .cases z
    have a8: ∀n e l,S.h n=some e->S.ρ n=some l->(∀j,An H0 j=true->n≠σ j)->l.b<S.w.heap.size/\ ¬M0 l.b:=by
     intro n e l he hl hn;refine⟨(hW.loc n e l he hl).1,?_⟩;rintro⟨j,e0,l0,G,h9,Z,h3⟩;exact hn j (ai j e0 G) (hW.inj _ _ _ _ l l0 he (hS j e0 G) hl Z h3.symm (by simp[h9]))
    have av: ∀b,b<S.w.heap.size-> ¬M0 b->S1.w.heap[b]? =S.w.heap[b]? :=λb hb hM=>hc.wf.keep b hb hM
    have bo: ∀b,S.ok b->S'.ok b/\S'.hp b=S.hp b:=by
     intro b hb;refine⟨ab.ok0 b hb,av b (hW.oks b hb) ?_⟩;rintro⟨j,e,l,G,Z,h3,h4⟩
     have:=(hW.loc _ _ l (hS j e G) h3).2
     rw[show (e.1,e.2.ren σ).1=true from Z] at this;simp only[Bb] at this;exact this.1 (h4▸hb)
    have ay: ∀j e0,hget H0 j=some e0->klB j=false->S1.h j=some e0:=λj e0 G Z=>Nr H0 cf j e0 (fW G) Z
    have bd: ∀j,An H0 j=true->(∀j',An H0 j'=true->klB j'=true->σ j≠σ j')->klB j=false:=by
     intro j O h;cases hq:klB j with
     |false=>rfl
     |true=>exact absurd rfl (h j O hq)
    have be: ∀o,¬Fr nx cnt o-> ∀e',S'.h o=some e'-> ∃e,S.h o=some e/\S'.ρ o=S.ρ o/\e'.2.esz=e.2.esz/\e'.2.len=e.2.len:=by
     intro o ho e' z;have hρo:S'.ρ o=S.ρ o:=by
      simp only[S'];rw[Ag (by intro h;exact ho ⟨h.1,h.2⟩)]
     rcases ah o e' z with ⟨j,e,rfl,G,Z,rfl⟩|⟨G,_⟩
     .obtain⟨g0,g1,g2,g3,x,g4,g5,g6⟩:=ag j e G;have au:j<k:=by
       rcases g2 with g2|g2
       .exact g2.1
       .have:=hσge j g2.1
        exact absurd (show Fr nx cnt (σ j) from ⟨by omega,by omega⟩) ho
      obtain⟨e0,p1,p2,p3,p4⟩:=hc.pre j au x g4;have an:=(@Qti C0 (S1.ice X) (S1.ice X) ab kx (λj=>j) (λb hb=>⟨hb,rfl⟩) bh (by
       intro o j O e' z;obtain⟨q1,_⟩:=bi o j O;subst q1;exact⟨e',z,rfl,rfl,rfl⟩) 9 x.2 e.2 g6).1
      refine⟨_,hS j e0 p1,hρo,?_,?_⟩
      .simp only[Qr6];rw[<-p3,<-an.1]
      .simp only[Qs6];rw[<-p4,<-an.2]
     .exact⟨e',G,hρo,rfl,rfl⟩
    have ax: ∀o j,kx o=some j-> ∀e',S'.h (σ j)=some e'-> ∃e,(S1.ice X).h o=some e/\S'.ρ (σ j)=(S1.ice X).ρ o/\e'.2.esz=e.2.esz/\e'.2.len=e.2.len:=by
     intro o j O e' z;obtain⟨rfl,q2⟩:=bi o j O;have bt:DD j:=q2.imp id (λh=>h.1);have cw:j<k+cnt:=by
      rcases q2 with q2|q2
      .have:=ao j q2;omega
      .exact q2.2
     rcases ah (σ j) e' z with ⟨j',e,h0,G,Z,rfl⟩|⟨G,Z⟩
     .obtain⟨g0,g1,g2,g3,x,g4,g5,g6⟩:=ag j' e G;obtain rfl:=hσinj _ _ bt g0 h0;have an:=(@Qti C0 (S1.ice X) (S1.ice X) ab kx (λj=>j) (λb hb=>⟨hb,rfl⟩) bh (by
       intro o j O e' z;obtain⟨q1,_⟩:=bi o j O;subst q1;exact⟨e',z,rfl,rfl,rfl⟩) 9 x.2 e.2 g6).1
      have hr:=hρ j bt g1 x g4;refine⟨(x.1 && X j,x.2),by rw[ba,g4];rfl,hr,?_,?_⟩
      .simp only[Qr6];rw[<-an.1]
      .simp only[Qs6];rw[<-an.2]
     ·
      have aa:An H0 j=true:=by
       rcases q2 with h|h
       .exact h
       .have h5:=am (σ j) ⟨by rw[hσge j h.1];omega,by rw[hσge j h.1];show nx+(j - k)<nx+cnt;omega⟩;rw[h5] at G;cases G
      have bb:=bd j aa (λj' a b=>Z j' a b);obtain⟨e0,ad⟩:=aj j aa;have g4:=ay j e0 ad bb;have hr:=hρ j bt cw e0 g4
      have:=hS j e0 ad
      rw[G] at this;obtain rfl:=AC this;refine⟨(e0.1 && X j,e0.2),by rw[ba,g4];rfl,hr,?_,?_⟩
      .simp only[Qr6]
      .simp only[Qs6]
    have aq: ∀n e' l,S'.h n=some e'->S'.ρ n=some l->(∃j x,n=σ j/\S1.h j=some x/\e'.1=x.1/\S1.ρ j=some l/\(k<=j->x.1=true)/\DD j/\kx j=some j/\e'.2.isView=x.2.isView)\/(S.h n=some e'/\S.ρ n=some l/\ ∀j,An H0 j=true->n≠σ j):=by
     intro n e' l z hl;rcases ah n e' z with ⟨j,e,rfl,G,Z,rfl⟩|⟨G,Z⟩
     .obtain⟨g0,g1,g2,g3,x,g4,g5,g6⟩:=ag j e G;have hr:=hρ j g0 g1 x g4;refine .inl ⟨j,x,rfl,g4,g5,by rw[<-hr];exact hl,?_,g0,g3,?_⟩
      .intro cd;rcases g2 with g2|g2
       .omega
       .rw[<-g5];exact g2.2
      .have hv:(e.2.ren σ).isView=e.2.isView:=by cases e.2<;>rfl
       show (e.2.ren σ).isView=_;rw[hv];exact OW g6
     .by_cases hn: ∃j,An H0 j=true/\n=σ j
      .obtain⟨j,aa,rfl⟩:=hn;have bb:=bd j aa (λj' a b=>Z j' a b);obtain⟨e0,ad⟩:=aj j aa;have g4:=ay j e0 ad bb;have au:=ao j aa;have hr:=hρ j (.inl aa) (by omega) e0 g4
       have:=hS j e0 ad
       rw[G] at this;obtain rfl:=AC this;exact .inl ⟨j,e0,rfl,g4,rfl,by rw[<-hr];exact hl,λh=>by omega,.inl aa,bc j aa,by cases e0.2<;>rfl⟩
      .have bz: ∀j,An H0 j=true->n≠σ j:=λj O h=>hn ⟨j,O,h⟩
       refine .inr ⟨G,?_,bz⟩;have bx: ¬Fr nx cnt n:=by
        intro a9
        have:=am n a9
        rw[this] at G;cases G
       have hρo:S'.ρ n=S.ρ n:=by
        simp only[S'];rw[Ag (by intro h;exact bx ⟨h.1,h.2⟩)]
       rw[<-hρo];exact hl
    have cp:Wf C S':=by
     refine⟨hc.wf.os.trans hW.os,hc.wf.tape.trans hW.tape,hc.wf.output.trans hW.output,CW hW.dr hc.wf.dr,CW hW.size hc.wf.size,?_,λb hb=>ab.ok0 b (hW.ok0 b hb),?_,ab.oks,?_,?_,?_,hW.gl⟩
     .intro b hb hM;have c2: ¬M0 b:=by
       rintro⟨j,e,l,G,Z,h3,h4⟩
       have:=(hW.loc _ _ l (hS j e G) h3).2
       rw[show (e.1,e.2.ren σ).1=true from Z] at this;simp only[Bb] at this;rcases this.2 with h5|h5
       .omega
       .exact hM (h4▸h5)
      exact (av b (FC hb hW.size) c2).trans (hW.keep b hb hM)
     .intro b hb;rcases ab.ok1 b hb with h|h|h
      .exact hW.ok1 b h
      .exact .inr (.inl (CW hW.size h))
      .obtain⟨j,e,l,G,Z,h3,h4⟩:=h
       have:=(hW.loc _ _ l (hS j e G) h3).2
       rw[show (e.1,e.2.ren σ).1=true from Z] at this;simp only[Bb] at this;rw[<-h4];exact .inr this.2
     .intro n e' z;rcases ah n e' z with ⟨j,e,rfl,G,Z,rfl⟩|⟨G,Z⟩
      .obtain⟨g0,g1,g2,g3,x,g4,g5,g6⟩:=ag j e G;have an:=ab.obj j (x.1 && X j,x.2) (by rw[ba,g4];rfl);have hr:=hρ j g0 g1 x g4;have h5:=(Qti (S':=S') (τ:=σ) ab (λb hb=>⟨hb,rfl⟩) bh ax g6).2 _ (λ_ _=>rfl) an;rw[hr];exact h5
      .by_cases hn: ∃j,An H0 j=true/\n=σ j
       .obtain⟨j,aa,rfl⟩:=hn;have bb:=bd j aa (λj' a b=>Z j' a b);obtain⟨e0,ad⟩:=aj j aa;have g4:=ay j e0 ad bb;have au:=ao j aa;have hr:=hρ j (.inl aa) (by omega) e0 g4
        have:=hS j e0 ad
        rw[G] at this;obtain rfl:=AC this;rw[hr];have an:=hc.wf.obj j e0 g4;have h7:=Qzw (S:=S1) (S':=S') (σ:=λn=>n) (τ:=σ) (l:=S1.ρ j) (λb hb=>⟨.inl hb,rfl⟩) (λ_ _=>rfl) e0.2 ?_ (by rw[Qwc];exact an)
        .exact h7
        .intro m hm;refine⟨λe' z=> ?_⟩;have c7:m<k:=gB _ hbH j e0 ad m hm;cases hkm:kx m with
         |some m'=>
          obtain⟨rfl,_⟩:=bi m m' hkm;obtain⟨x,q1,q2,q3,q4⟩:=ax m' m' hkm e' z;obtain⟨y,q5,q6⟩:=Wj q1;exact⟨y,q5,q2,by rw[q3,q6],by rw[q4,q6]⟩
         |none=>
          exfalso;have cz:An H0 m≠true:=λh=>by rw[bc m h] at hkm;cases hkm
          exact cz (bu j e0 ad m hm)
       .have bz: ∀j,An H0 j=true->n≠σ j:=λj O h=>hn ⟨j,O,h⟩
        have bx: ¬Fr nx cnt n:=by
         intro a9
         have:=am n a9
         rw[this] at G;cases G
        have hρo:S'.ρ n=S.ρ n:=by
         simp only[S'];rw[Ag (by intro h;exact bx ⟨h.1,h.2⟩)]
        rw[hρo];refine H9 (X:=λm=> ¬Fr nx cnt m) ⟨bo,λo ho e' z=>be o ho e' z⟩ ?_ e'.2 (λm hm=>bj n e' G m hm) (hW.obj n e' G);intro lc cx;obtain⟨p1,p2⟩:=a8 n e' lc G cx bz;exact av lc.b p1 p2
     .intro n e' l z hl;rcases aq n e' l z hl with ⟨j,x,rfl,g4,g5,g6,g7,g8,ck,g9⟩|⟨G,Z,h3⟩
      .have cu:X j=true:=by simp only[X,ck];rfl
       have ac:=ab.loc j (x.1 && X j,x.2) l (by rw[ba,g4];rfl) g6;rw[cu,EL] at ac;refine⟨ac.1,?_⟩;rw[g5];cases hm:x.1 with
       |false=>
        have h9:=ac.2;simp only[hm] at h9;simp only[Dp,CN] at h9⊢;rcases h9 with h9|h9
        .exact .inl h9
        .refine .inr ?_;rw[g9];exact h9
       |true=>
        have h9:=ac.2;simp only[hm,Bb] at h9⊢;refine⟨h9.1,?_⟩;rcases h9.2 with bp|bp
        .exact .inl (CW hW.size bp)
        .obtain⟨j',e0,l0,p1,p2,p3,p4⟩:=bp
         have:=(hW.loc _ _ l0 (hS j' e0 p1) p3).2
         rw[show (e0.1,e0.2.ren σ).1=true from p2] at this;simp only[Bb] at this;rw[<-p4];exact this.2
      .obtain⟨p1,p2⟩:=hW.loc n e' l G Z;obtain⟨p3,p4⟩:=a8 n e' l G Z h3;refine⟨FC p1 hc.wf.size,?_⟩;cases hm:e'.1 with
       |false=>
        rw[hm] at p2;simp only[Dp,CN] at p2⊢;exact p2.imp (λh=>ab.ok0 _ h) id
       |true=>
        rw[hm] at p2;simp only[Bb] at p2⊢;refine⟨λc3=> ?_,p2.2⟩;rcases ab.ok1 _ c3 with h|h|h
        .exact p2.1 h
        .have h:S.w.heap.size<=l.b:=h;omega
        .exact p4 h
     ·
      have bm: ∀j x l n' e2 l',S1.h j=some x->S1.ρ j=some l->(k<=j->x.1=true)->DD j->S.h n'=some e2->S.ρ n'=some l'->(∀i,An H0 i=true->n'≠σ i)->l.b=l'.b->(x.1||e2.1)=true->False:=by
       intro j x l n' e2 l' g1 g2 g3 g4 p1 p2 p3 af ak;obtain⟨q1,q2⟩:=a8 n' e2 l' p1 p2 p3;by_cases au:j<k
       .have aa:An H0 j=true:=g4.resolve_right (by omega);obtain⟨e0,r1,r2,_,_⟩:=hc.pre j au x g1;have hρj:S.ρ (σ j)=some l:=by rw[<-r2|>λh=>show S1.ρ j=S.ρ (σ j) from h];exact g2
        have c4:(e0.1||e2.1)=true:=by
         cases he2:e2.1 with
         |true=>simp
         |false=>
          rw[he2,QI] at ak;have ac:=(hc.wf.loc j x l g1 g2).2;rw[ak] at ac;simp only[Bb] at ac;rcases ac.2 with h|h
          .have h:S.w.heap.size<=l.b:=h;omega
          .exact absurd (af▸h) q2
        exact p3 j aa (hW.inj _ _ _ _ l' l p1 (hS j e0 r1) p2 hρj af.symm (by rw[Bool.or_comm];exact c4))
       .have ac:=(hc.wf.loc j x l g1 g2).2;rw[g3 (by omega)] at ac;simp only[Bb] at ac;rcases ac.2 with h|h
        .have h:S.w.heap.size<=l.b:=h;omega
        .exact q2 (af▸h)
      intro n n' e1 e2 l l' he z hl bw af ak;rcases aq n e1 l he hl with ⟨j,x,rfl,g1,g2,g3,g4,g5,_⟩|⟨g1,g2,g3⟩<;>rcases aq n' e2 l' z bw with ⟨j',x',rfl,p1,p2,p3,p4,p5,_⟩|⟨p1,p2,p3⟩
      .have cs:=hc.wf.inj j j' x x' l l' g1 p1 g3 p3 af (by rw[<-g2,<-p2];exact ak);rw[cs]
      .exact (bm j x l n' e2 l' g1 g3 g4 g5 p1 p2 p3 af (by rw[<-g2];exact ak)).elim
      .exact (bm j' x' l' n e1 l p1 p3 p4 p5 g1 g2 g3 af.symm (by rw[<-p2,Bool.or_comm];exact ak)).elim
      .exact hW.inj _ _ _ _ l l' g1 p1 g2 p2 af ak
    have ct:Aa S' (r.ren σ) v:=Qrr (S':=S') (τ:=σ) ab (λb hb=>⟨hb,rfl⟩) bh ax 9 (DE xs) r v hcv (I5 (H7 S1 X) _ _ (λ_ _=>trivial) br);exact cb v S' cp rfl ⟨bo,λo ho e' z=>be o ho e' z⟩ (cm σ S' v ct)
 intro e a w he;cases e<;>simp only[Gv] at he<;>simp only[bodyPost]
 .obtain⟨s,hs,hc⟩:=he;obtain⟨s',bq,b0⟩:=hQ C0 _ a w s rfl hc (.inl hs);exact fin s' a w b0 bq
 .obtain⟨s,hs,_⟩:=he;exact (cn _ _ hs).elim
 .obtain⟨s,hs,hc⟩:=he;obtain⟨s',bq,b0⟩:=hQ C0 _ a w s rfl hc (.inr hs);exact fin s' a w b0 bq
def Vb{P:Program}{z:List ResultVar}{k cnt:Nat}{H0 H1:Ar}{klB exB:Nat->Bool}{R:AV->Prop}: ∀(C:Ba) (N:Nat) (a:Act) (w:World) (s:A8),C.n0=k->BR C N s a w->
 NT P z k cnt H0 H1 klB exB R .normal s\/NT P z k cnt H0 H1 klB exB R .ret s-> ∃s',BR C N s' a w/\I0 P z k cnt H0 H1 klB exB R s':=by
 rintro C N a w s _ G (h|h)<;>exact⟨s,G,h⟩
def Vc{P:Program}{z:List ResultVar}{k cnt:Nat}{H0 H1:Ar}{klB exB:Nat->Bool}{R:AV->Prop}: ∀(C:Ba) (N:Nat) (a:Act) (w:World) (s:A8),C.n0=k->BR C N s a w->
 AD P z k cnt H0 H1 klB exB R .normal s\/AD P z k cnt H0 H1 klB exB R .ret s-> ∃s',BR C N s' a w/\I0 P z k cnt H0 H1 klB exB R s':=by
 rintro C N a w s hk Z (h|h)<;>obtain⟨F,π,s',G,O,h3,Q⟩:=h<;>exact⟨s',R0 (uZ F Z) G O (by omega) (by omega),Q⟩
def Fs(h:Nat->Option Au)(σ:Nat->Nat):Ar->Prop
 |[]=>True
 |(j,(z,e))::r=>h (σ j)=some (z,e.ren σ)/\Fs h σ r
def Qpk{h:Nat->Option Au}{σ:Nat->Nat}: ∀{H:Ar},Fs h σ H-> ∀j e,(j,e)∈H->h (σ j)=some (e.1,e.2.ren σ)
 |[],_,j,e,z=>by cases z
 |(i,(Q,x))::r,hH,j,e,z=>by
  obtain⟨G,O⟩:=hH;rcases Bw.1 z with z|z
  .cases z;exact G
  .exact Qpk O j e z
structure oU(H0:Ar)(klB:Nat->Bool)(τ:Nat->Nat)(nx:Nat)(U KL:List Nat):Prop where
 inj: ∀i j,An H0 i=true->An H0 j=true->τ i=τ j->i=j
 lt: ∀j,An H0 j=true->τ j<nx
 u: ∀j,An H0 j=true->τ j∈U
 k1: ∀n∈KL,∃j,An H0 j=true/\klB j=true/\n=τ j
 k2: ∀j,An H0 j=true->klB j=true->τ j∈KL
def Az{A:Type}(ca:A->List AV)(H0:A->Ar)(k:Nat)(pre:A->Prop)(klB:Nat->Bool)(r0:A->AV)(H1:A->Ar)(cnt:Nat):AG:=λargs h nx K=>
 ∃(a:A) (τ:Nat->Nat) (U KL:List Nat),pre a/\args=Bd (Db τ k nx) (ca a)/\Fs h (Db τ k nx) (H0 a)/\oU (H0 a) klB τ nx U KL/\
  K ((r0 a).ren (Db τ k nx)) {use:=U,kill:=KL,new:=Bp (Db τ k nx) (H1 a),cnt:=cnt}
def Cs(H0:Ar):Ar->Prop
 |[]=>True
 |(_,(_,e))::r=>(∀m∈e.nms,An H0 m=true)/\Cs H0 r
def Qo2{H0:Ar}: ∀{H:Ar},Cs H0 H-> ∀j e,(j,e)∈H-> ∀m∈e.2.nms,An H0 m=true
 |[],_,j,e,z=>by cases z
 |(i,(Q,x))::r,hH,j,e,z=>by
  obtain⟨G,O⟩:=hH;rcases Bw.1 z with z|z
  .cases z;exact G
  .exact Qo2 O j e z
def P3(os:List Nat)(j:Nat):Nat:=os.getD j 0
def fX:List Nat->Bool
 |[]=>true
 |x::r=> !r.contains x && fX r
def Qjj: ∀(os:List Nat),fX os=true->os.Nodup
 |[],_=>List.nodup_nil
 |x::r,h=>by
  simp only[fX,Bc,LL] at h;refine KO.2 ⟨λz=> ?_,Qjj r h.2⟩;rw[Jl.2 z] at h;cases h.1
def bP(nx:Nat):List Nat->Bool
 |[]=>true
 |x::r=>Nat.blt x nx && bP nx r
def Qvm{nx:Nat}: ∀(os:List Nat),bP nx os=true-> ∀o∈os,o<nx
 |[],_,o,h=>by cases h
 |x::r,h,o,z=>by
  simp only[bP,Bc,F5] at h;rcases Bw.1 z with rfl|z
  .exact h.1
  .exact Qvm r h.2 o z
def W8(klB:Nat->Bool):List Nat->Nat->List Nat
 |[],_=>[]
 |x::r,j=>bif klB j then x::W8 klB r (j+1) else W8 klB r (j+1)
def Qx4{klB:Nat->Bool}: ∀(os:List Nat) (j n:Nat),n∈W8 klB os j↔ ∃i,i<os.length/\klB (j+i)=true/\os[i]? =some n
 |[],j,n=>by simp[W8]
 |x::r,j,n=>by
  have ih:=Qx4 (klB:=klB) r (j+1) n;simp only[W8];cases hq:klB j
  .simp only[Cy];rw[ih];constructor
   .rintro⟨i,O,z,G⟩;exact⟨i+1,by simp;omega,by rw[show j+(i+1)=j+1+i by omega];exact z,by simpa using G⟩
   .rintro⟨i,O,z,G⟩;cases i with
    |zero=>rw[W5,hq] at z;cases z
    |succ i=>exact⟨i,by simp at O;omega,by rw[show j+1+i=j+(i+1) by omega];exact z,by simpa using G⟩
  .simp only[C8,Bw];rw[ih];constructor
   .rintro (rfl|⟨i,O,z,G⟩)
    .exact⟨0,by simp,hq,by simp⟩
    .exact⟨i+1,by simp;omega,by rw[show j+(i+1)=j+1+i by omega];exact z,by simpa using G⟩
   .rintro⟨i,O,z,G⟩;cases i with
    |zero=>left;simpa using G.symm
    |succ i=>right;exact⟨i,by simp at O;omega,by rw[show j+1+i=j+(i+1) by omega];exact z,by simpa using G⟩
def YW{H0:Ar}{klB:Nat->Bool}{os:List Nat}{nx:Nat}(hd:fX os=true)(hl:bP nx os=true)(hH: ∀j,An H0 j=true↔j<os.length):oU H0 klB (P3 os) nx os (W8 klB os 0):=by
 have Z:=Qjj os hd;have O: ∀j,j<os.length->os[j]? =some (P3 os j):=by
  intro j z;simp[P3,z]
 have hm: ∀j,j<os.length->P3 os j∈os:=λj z=>Bh (O j z)
 refine⟨λi j hi z h=> ?_,λj z=>Qvm os hl _ (hm j ((hH j).1 z)),λj z=>hm j ((hH j).1 z),λn hn=> ?_,λj z hk=> ?_⟩
 .have G:=O i ((hH i).1 hi);have Q:=O j ((hH j).1 z);rw[h] at G;exact (List.getElem?_inj ((hH i).1 hi) Z).1 (G.trans Q.symm)
 .obtain⟨i,G,Q,h3⟩:=(Qx4 os 0 n).1 hn;refine⟨i,(hH i).2 G,by simpa using Q,?_⟩;rw[O i G] at h3;exact (AC h3).symm
 .exact (Qx4 os 0 _).2 ⟨j,(hH j).1 z,by simpa using hk,O j ((hH j).1 z)⟩
def Az.os{A:Type}{ca:A->List AV}{H0:A->Ar}{k:Nat}{pre:A->Prop}{klB:Nat->Bool}{r0:A->AV}{H1:A->Ar}{cnt:Nat}{args:List AV}{h:Nat->Option Au}{nx:Nat}{K:Aj}(a:A)(os:List Nat)(z:pre a)
 (hH: ∀j,An (H0 a) j=true↔j<os.length)(hd:fX os=true)(Q:bP nx os=true)
 (G:args=Bd (Db (P3 os) k nx) (ca a)/\Fs h (Db (P3 os) k nx) (H0 a))
 (O:K ((r0 a).ren (Db (P3 os) k nx)) {use:=os,kill:=W8 klB os 0,new:=Bp (Db (P3 os) k nx) (H1 a),cnt:=cnt}):Az ca H0 k pre klB r0 H1 cnt args h nx K:=
 ⟨a,P3 os,os,W8 klB os 0,z,G.1,G.2,YW hd Q hH,O⟩
def orR(z r2:AG):AG:=λargs h nx K=>z args h nx K\/r2 args h nx K
def UA{P:Program}{g:Nat}{G r2:AG}(O:H6 P g G)(Q:H6 P g r2):H6 P g (orR G r2):=by
 rintro args h nx K (z|z)
 .exact O args h nx K z
 .exact Q args h nx K z
end Go.Ae
